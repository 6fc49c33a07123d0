/- Equations of functions, printed by program. Conditions: none. -/
import Derived.Test.YtifjdkimbamdkaaDoorTEv
namespace Go.Proofs
open Go.Am
set_option maxRecDepth 100000
set_option linter.unusedVariables false
/-! airline/airlineref07.broken -/
noncomputable def r07_broken_L1 (lb : Bool) (n : Nat) (k25 : Nat) (an1 : Bool) (a2 : List (List CV)) (b3 : Int) (i18 : Int) : Option CV :=
  hold (loopC (E0 lb n 0 994) 0 (loopTemps (sub (B F_r07_broken) [1, 1, 0, 1, 0, 0]) ++ []) [] (sub (B F_r07_broken) [1, 1, 0, 1, 0, 0]) (blockK 0 (seqK (E0 lb n 0 997) (sub (B F_r07_broken) [1, 1, 0]) (sub (B F_r07_broken) [1, 1, 1]) (retK Tryd.prog (R F_r07_broken) 0 (outK (tightF Tryd.prog F_r07_broken))))) k25 ⟨fr 38 [(0, .val (.list an1 a2)), (1, .val (.int .i64 b3)), (4, .val (.bool false)), (5, .val (.int .i64 i18))], [bx 38 []], KK⟩)

noncomputable def r07_broken_J2 (lb : Bool) (n : Nat) (an1 : Bool) (a2 : List (List CV)) (b3 : Int) (i33 : Int) : Option CV :=
  hold (E0 lb n 0 997 (sub (B F_r07_broken) [1, 1, 1]) (retK Tryd.prog (R F_r07_broken) 0 (outK (tightF Tryd.prog F_r07_broken))) ⟨fr 38 [(0, .val (.list an1 a2)), (1, .val (.int .i64 b3)), (4, .val (.bool false)), (5, .val (.int .i64 i33))], [bx 38 []], KK⟩)

theorem r07_broken_J2_eq (lb : Bool) (n : Nat) (an1 : Bool) (a2 : List (List CV)) (b3 : Int) (i33 : Int) :
  r07_broken_J2 lb n an1 a2 b3 i33 =
 some (.bool false) := (hold_eq _).trans (by kernel_rfl)

theorem r07_broken_L1_succ (lb : Bool) (n k25 : Nat) (an1 : Bool) (a2 : List (List CV)) (b3 : Int) (i18 : Int) :
  r07_broken_L1 lb n (k25 + 1) an1 a2 b3 i18 =
 bif (decide (i18 ≤ b3)) then
 (optO (atL a2 i18) fun c26 =>
 chkO (c26.length == 5) (
 optO (c26[0]?) fun x27 =>
 optO (atL a2 b3) fun c28 =>
 chkO (c28.length == 5) (
 optO (c28[1]?) fun x29 =>
 optO (CV.asS x27) fun s30 =>
 optO (CV.asS x29) fun s31 =>
 bif (s30 == s31) then
 (some (.bool true))
 else
 (r07_broken_L1 lb n k25 an1 a2 b3 (IntKind.wrap .i64 (i18 + 1))))))
 else
 (r07_broken_J2 lb n an1 a2 b3 i18) := (hold_eq _).trans (by kernel_rfl)

theorem r07_broken_L1_zero (lb : Bool) (n : Nat) (an1 : Bool) (a2 : List (List CV)) (b3 : Int) (i18 : Int) :
  r07_broken_L1 lb n 0 an1 a2 b3 i18 =
 none := (hold_eq _).trans (by kernel_rfl)

theorem r07_broken_eq (lb : Bool) (n : Nat) (an1 : Bool) (a2 : List (List CV)) (b3 : Int) :
  top lb n F_r07_broken [.list an1 a2, .int .i64 b3] =
 bif (decide (b3 > 0)) then
 (optO (atL a2 b3) fun c4 =>
 chkO (c4.length == 5) (
 optO (c4[0]?) fun x5 =>
 optO (atL a2 (IntKind.wrap .i64 (b3 - 1))) fun c6 =>
 chkO (c6.length == 5) (
 optO (c6[1]?) fun x7 =>
 optO (CV.asS x5) fun s9 =>
 optO (CV.asS x7) fun s10 =>
 bif (!(s9 == s10)) then
 (some (.bool true))
 else
 (r07_broken_L1 lb n n an1 a2 b3 0))))
 else
 (r07_broken_L1 lb n n an1 a2 b3 0) := by kernel_rfl

/-! airline/airlineref07.head -/
noncomputable def r07_head_J1 (lb : Bool) (n : Nat) (acar1 : List UInt8) (anum2 : Int) (aperfro3 : Int) (aperto4 : Int) (aperday5 : Int) (alegn6 : Bool) (aleg7 : List (List CV)) (b11 : Bool) (l12 : List (List CV)) : Option CV :=
  hold (E0 lb n 0 997 (sub (B F_r07_head) [1, 1, 1]) (retOwn (R F_r07_head) 63) ⟨fr 50 [(0, .val (.agg [.str acar1, .int .i64 anum2, .int .i64 aperfro3, .int .i64 aperto4, .int .i64 aperday5, .list alegn6 aleg7])), (1, .ptr 0 1 0), (2, .lst true true 63 []), (3, .lst true b11 63 l12)], [bx 50 [(1, some [.val (.str acar1), .val (.int .i64 anum2), .val (.int .i64 aperfro3), .val (.int .i64 aperto4), .val (.int .i64 aperday5), .val (.list alegn6 aleg7)])]], KK⟩)

noncomputable def r07_head_J2 (lb : Bool) (n : Nat) (acar1 : List UInt8) (anum2 : Int) (aperfro3 : Int) (aperto4 : Int) (aperday5 : Int) (alegn6 : Bool) (aleg7 : List (List CV)) (b13 : Bool) (l14 : List (List CV)) : Option CV :=
  hold (E0 lb n 0 996 (sub (B F_r07_head) [1, 1, 1, 1]) (retOwn (R F_r07_head) 63) ⟨fr 50 [(0, .val (.agg [.str acar1, .int .i64 anum2, .int .i64 aperfro3, .int .i64 aperto4, .int .i64 aperday5, .list alegn6 aleg7])), (1, .ptr 0 1 0), (2, .lst true true 63 []), (3, .lst true b13 63 l14)], [bx 50 [(1, some [.val (.str acar1), .val (.int .i64 anum2), .val (.int .i64 aperfro3), .val (.int .i64 aperto4), .val (.int .i64 aperday5), .val (.list alegn6 aleg7)])]], KK⟩)

noncomputable def r07_head_J3 (lb : Bool) (n : Nat) (acar1 : List UInt8) (anum2 : Int) (aperfro3 : Int) (aperto4 : Int) (aperday5 : Int) (alegn6 : Bool) (aleg7 : List (List CV)) (b19 : Bool) (l20 : List (List CV)) : Option CV :=
  hold (E0 lb n 0 995 (sub (B F_r07_head) [1, 1, 1, 1, 1]) (retOwn (R F_r07_head) 63) ⟨fr 50 [(0, .val (.agg [.str acar1, .int .i64 anum2, .int .i64 aperfro3, .int .i64 aperto4, .int .i64 aperday5, .list alegn6 aleg7])), (1, .ptr 0 1 0), (2, .lst true true 63 []), (3, .lst true b19 63 l20)], [bx 50 [(1, some [.val (.str acar1), .val (.int .i64 anum2), .val (.int .i64 aperfro3), .val (.int .i64 aperto4), .val (.int .i64 aperday5), .val (.list alegn6 aleg7)])]], KK⟩)

theorem r07_head_J3_eq (lb : Bool) (n : Nat) (acar1 : List UInt8) (anum2 : Int) (aperfro3 : Int) (aperto4 : Int) (aperday5 : Int) (alegn6 : Bool) (aleg7 : List (List CV)) (b19 : Bool) (l20 : List (List CV)) :
  r07_head_J3 lb n acar1 anum2 aperfro3 aperto4 aperday5 alegn6 aleg7 b19 l20 =
 bif (decide ((aleg7.length : Int) < 1)) then
 (chkO (room (l20.length + 1) 24) (
 some (.list (b19 && false) (l20 ++ [[CV.int .i64 4, CV.str [108, 101, 103, 115]]]))))
 else
 (bif (decide ((aleg7.length : Int) > 6)) then
 (chkO (room (l20.length + 1) 24) (
 some (.list (b19 && false) (l20 ++ [[CV.int .i64 4, CV.str [108, 101, 103, 115]]]))))
 else
 (some (.list b19 l20))) := (hold_eq _).trans (by kernel_rfl)

theorem r07_head_J2_eq (lb : Bool) (n : Nat) (acar1 : List UInt8) (anum2 : Int) (aperfro3 : Int) (aperto4 : Int) (aperday5 : Int) (alegn6 : Bool) (aleg7 : List (List CV)) (b13 : Bool) (l14 : List (List CV)) :
  r07_head_J2 lb n acar1 anum2 aperfro3 aperto4 aperday5 alegn6 aleg7 b13 l14 =
 optO (C lb n F_r04_Check [.agg [.int .i64 aperfro3, .int .i64 aperto4, .int .i64 aperday5]]) fun r15 =>
 optO (CV.asI .i64 r15) fun i17 =>
 bif (i17 != 0) then
 (optO (C lb n F_r04_Check [.agg [.int .i64 aperfro3, .int .i64 aperto4, .int .i64 aperday5]]) fun r18 =>
 chkO (CV.isCell r18) (
 chkO (room (l14.length + 1) 24) (
 r07_head_J3 lb n acar1 anum2 aperfro3 aperto4 aperday5 alegn6 aleg7 (b13 && false) (l14 ++ [[r18, CV.str [112, 101, 114, 105, 111, 100]]]))))
 else
 (r07_head_J3 lb n acar1 anum2 aperfro3 aperto4 aperday5 alegn6 aleg7 b13 l14) := (hold_eq _).trans (by kernel_rfl)

theorem r07_head_J1_eq (lb : Bool) (n : Nat) (acar1 : List UInt8) (anum2 : Int) (aperfro3 : Int) (aperto4 : Int) (aperday5 : Int) (alegn6 : Bool) (aleg7 : List (List CV)) (b11 : Bool) (l12 : List (List CV)) :
  r07_head_J1 lb n acar1 anum2 aperfro3 aperto4 aperday5 alegn6 aleg7 b11 l12 =
 bif (decide (anum2 < 1)) then
 (chkO (room (l12.length + 1) 24) (
 r07_head_J2 lb n acar1 anum2 aperfro3 aperto4 aperday5 alegn6 aleg7 (b11 && false) (l12 ++ [[CV.int .i64 2, CV.str [110, 117, 109, 98, 101, 114]]])))
 else
 (bif (decide (anum2 > 9999)) then
 (chkO (room (l12.length + 1) 24) (
 r07_head_J2 lb n acar1 anum2 aperfro3 aperto4 aperday5 alegn6 aleg7 (b11 && false) (l12 ++ [[CV.int .i64 2, CV.str [110, 117, 109, 98, 101, 114]]])))
 else
 (r07_head_J2 lb n acar1 anum2 aperfro3 aperto4 aperday5 alegn6 aleg7 b11 l12)) := (hold_eq _).trans (by kernel_rfl)

theorem r07_head_eq (lb : Bool) (n : Nat) (acar1 : List UInt8) (anum2 : Int) (aperfro3 : Int) (aperto4 : Int) (aperday5 : Int) (alegn6 : Bool) (aleg7 : List (List CV)) :
  top lb n F_r07_head [.agg [.str acar1, .int .i64 anum2, .int .i64 aperfro3, .int .i64 aperto4, .int .i64 aperday5, .list alegn6 aleg7]] =
 optO (C lb n F_r01_Carrier [.str acar1]) fun r9 =>
 optO (CV.asB r9) fun b10 =>
 bif (!b10) then
 (r07_head_J1 lb n acar1 anum2 aperfro3 aperto4 aperday5 alegn6 aleg7 false [[CV.int .i64 5, CV.str [99, 97, 114, 114, 105, 101, 114]]])
 else
 (r07_head_J1 lb n acar1 anum2 aperfro3 aperto4 aperday5 alegn6 aleg7 true []) := by kernel_rfl

/-! airline/airlineref07.Check -/
noncomputable def r07_Check_L1 (lb : Bool) (n : Nat) (k362 : Nat) (aairn1 : Bool) (aair2 : List (List CV)) (adisn3 : Bool) (adis4 : List (List CV)) (bcar5 : List UInt8) (bnum6 : Int) (bperfro7 : Int) (bperto9 : Int) (bperday10 : Int) (blegn11 : Bool) (bleg12 : List (List CV)) (p14 : Bool × List (List CV)) (b241 : Bool) (l242 : List (List CV)) (i243 : Int) : Option CV :=
  hold (loopC (E0 lb n 0 993) 0 (loopTemps (sub (B F_r07_Check) [1, 1, 1, 0, 1, 0, 0]) ++ [8, 10, 12]) [7, 9, 11] (sub (B F_r07_Check) [1, 1, 1, 0, 1, 0, 0]) (blockK 0 (seqK (E0 lb n 0 996) (sub (B F_r07_Check) [1, 1, 1, 0]) (sub (B F_r07_Check) [1, 1, 1, 1]) (retK Tryd.prog (R F_r07_Check) 0 (outK (tightF Tryd.prog F_r07_Check))))) k362 ⟨fr 133 [(0, .val (.agg [.list aairn1 aair2, .list adisn3 adis4])), (1, .val (.agg [.str bcar5, .int .i64 bnum6, .int .i64 bperfro7, .int .i64 bperto9, .int .i64 bperday10, .list blegn11 bleg12])), (2, .ptr 0 2 0), (3, .ptr 0 3 0), (4, .lst true true 63 []), (5, .lst true b241 63 l242), (6, .val (.int .i64 i243)), (15, .val (.agg [.str bcar5, .int .i64 bnum6, .int .i64 bperfro7, .int .i64 bperto9, .int .i64 bperday10, .list blegn11 bleg12])), (16, .val (.list p14.1 p14.2))], [bx 133 [(2, some [.val (.list aairn1 aair2), .val (.list adisn3 adis4)]), (3, some [.val (.str bcar5), .val (.int .i64 bnum6), .val (.int .i64 bperfro7), .val (.int .i64 bperto9), .val (.int .i64 bperday10), .val (.list blegn11 bleg12)])]], KK⟩)

noncomputable def r07_Check_J2 (lb : Bool) (n : Nat) (k362 : Nat) (aairn1 : Bool) (aair2 : List (List CV)) (adisn3 : Bool) (adis4 : List (List CV)) (bcar5 : List UInt8) (bnum6 : Int) (bperfro7 : Int) (bperto9 : Int) (bperday10 : Int) (blegn11 : Bool) (bleg12 : List (List CV)) (i243 : Int) (s370 : List UInt8) (p14 : Bool × List (List CV)) (c363 : List CV) (x364 : CV) (x365 : CV) (x366 : CV) (x367 : CV) (x368 : CV) (r369 : CV) (b373 : Bool) (l374 : List (List CV)) : Option CV :=
  hold (E0 lb n 0 987 (sub (B F_r07_Check) [1, 1, 1, 0, 1, 0, 0, 1, 0, 0, 1, 1, 1]) (blockK 1 (seqK (E0 lb n 0 991) (sub (B F_r07_Check) [1, 1, 1, 0, 1, 0, 0, 1, 0]) (sub (B F_r07_Check) [1, 1, 1, 0, 1, 0, 0, 1, 1]) (loopK 0 (loopTemps (sub (B F_r07_Check) [1, 1, 1, 0, 1, 0, 0]) ++ [8, 10, 12]) [7, 9, 11] (loopC (E0 lb n 0 993) 0 (loopTemps (sub (B F_r07_Check) [1, 1, 1, 0, 1, 0, 0]) ++ [8, 10, 12]) [7, 9, 11] (sub (B F_r07_Check) [1, 1, 1, 0, 1, 0, 0]) (blockK 0 (seqK (E0 lb n 0 996) (sub (B F_r07_Check) [1, 1, 1, 0]) (sub (B F_r07_Check) [1, 1, 1, 1]) (retK Tryd.prog (R F_r07_Check) 0 (outK (tightF Tryd.prog F_r07_Check))))) k362) (blockK 0 (seqK (E0 lb n 0 996) (sub (B F_r07_Check) [1, 1, 1, 0]) (sub (B F_r07_Check) [1, 1, 1, 1]) (retK Tryd.prog (R F_r07_Check) 0 (outK (tightF Tryd.prog F_r07_Check)))))))) ⟨fr 133 [(0, .val (.agg [.list aairn1 aair2, .list adisn3 adis4])), (1, .val (.agg [.str bcar5, .int .i64 bnum6, .int .i64 bperfro7, .int .i64 bperto9, .int .i64 bperday10, .list blegn11 bleg12])), (2, .ptr 0 2 0), (3, .ptr 0 3 0), (4, .lst true true 63 []), (5, .lst true b373 63 l374), (6, .val (.int .i64 i243)), (7, .ptr 0 7 0), (8, .val (.str (([108, 101, 103, 32] : List UInt8) ++ s370))), (15, .val (.agg [.str bcar5, .int .i64 bnum6, .int .i64 bperfro7, .int .i64 bperto9, .int .i64 bperday10, .list blegn11 bleg12])), (16, .val (.list p14.1 p14.2)), (35, .ptr 0 3 5), (36, .val (.list blegn11 bleg12)), (37, .val (.int .i64 i243)), (38, .cptr c363 0), (39, .val (.agg [x364, x365, x366, x367, x368])), (40, .val (.int .i64 i243)), (41, .val r369), (42, .val (.str (([108, 101, 103, 32] : List UInt8) ++ s370)))], [bx 133 [(2, some [.val (.list aairn1 aair2), .val (.list adisn3 adis4)]), (3, some [.val (.str bcar5), .val (.int .i64 bnum6), .val (.int .i64 bperfro7), .val (.int .i64 bperto9), .val (.int .i64 bperday10), .val (.list blegn11 bleg12)]), (7, some [.val x364, .val x365, .val x366, .val x367, .val x368])]], KK⟩)

noncomputable def r07_Check_J3 (lb : Bool) (n : Nat) (k362 : Nat) (aairn1 : Bool) (aair2 : List (List CV)) (adisn3 : Bool) (adis4 : List (List CV)) (bcar5 : List UInt8) (bnum6 : Int) (bperfro7 : Int) (bperto9 : Int) (bperday10 : Int) (blegn11 : Bool) (bleg12 : List (List CV)) (i243 : Int) (s370 : List UInt8) (x379 : CV) (x390 : CV) (p14 : Bool × List (List CV)) (c363 : List CV) (x364 : CV) (x365 : CV) (x366 : CV) (x367 : CV) (x368 : CV) (r369 : CV) (r375 : CV) (x377 : CV) (r386 : CV) (x388 : CV) (x381 : CV) (x382 : CV) (x383 : CV) (x384 : CV) (x385 : CV) (x392 : CV) (x393 : CV) (x394 : CV) (x395 : CV) (x396 : CV) (b398 : Bool) (l399 : List (List CV)) : Option CV :=
  hold (E0 lb n 0 984 (sub (B F_r07_Check) [1, 1, 1, 0, 1, 0, 0, 1, 0, 0, 1, 1, 1, 1, 1, 1]) (blockK 1 (seqK (E0 lb n 0 991) (sub (B F_r07_Check) [1, 1, 1, 0, 1, 0, 0, 1, 0]) (sub (B F_r07_Check) [1, 1, 1, 0, 1, 0, 0, 1, 1]) (loopK 0 (loopTemps (sub (B F_r07_Check) [1, 1, 1, 0, 1, 0, 0]) ++ [8, 10, 12]) [7, 9, 11] (loopC (E0 lb n 0 993) 0 (loopTemps (sub (B F_r07_Check) [1, 1, 1, 0, 1, 0, 0]) ++ [8, 10, 12]) [7, 9, 11] (sub (B F_r07_Check) [1, 1, 1, 0, 1, 0, 0]) (blockK 0 (seqK (E0 lb n 0 996) (sub (B F_r07_Check) [1, 1, 1, 0]) (sub (B F_r07_Check) [1, 1, 1, 1]) (retK Tryd.prog (R F_r07_Check) 0 (outK (tightF Tryd.prog F_r07_Check))))) k362) (blockK 0 (seqK (E0 lb n 0 996) (sub (B F_r07_Check) [1, 1, 1, 0]) (sub (B F_r07_Check) [1, 1, 1, 1]) (retK Tryd.prog (R F_r07_Check) 0 (outK (tightF Tryd.prog F_r07_Check)))))))) ⟨fr 133 [(0, .val (.agg [.list aairn1 aair2, .list adisn3 adis4])), (1, .val (.agg [.str bcar5, .int .i64 bnum6, .int .i64 bperfro7, .int .i64 bperto9, .int .i64 bperday10, .list blegn11 bleg12])), (2, .ptr 0 2 0), (3, .ptr 0 3 0), (4, .lst true true 63 []), (5, .lst true b398 63 l399), (6, .val (.int .i64 i243)), (7, .ptr 0 7 0), (8, .val (.str (([108, 101, 103, 32] : List UInt8) ++ s370))), (9, .ptr 0 9 0), (10, .val x379), (11, .ptr 0 11 0), (12, .val x390), (15, .val (.agg [.str bcar5, .int .i64 bnum6, .int .i64 bperfro7, .int .i64 bperto9, .int .i64 bperday10, .list blegn11 bleg12])), (16, .val (.list p14.1 p14.2)), (35, .ptr 0 3 5), (36, .val (.list blegn11 bleg12)), (37, .val (.int .i64 i243)), (38, .cptr c363 0), (39, .val (.agg [x364, x365, x366, x367, x368])), (40, .val (.int .i64 i243)), (41, .val r369), (42, .val (.str (([108, 101, 103, 32] : List UInt8) ++ s370))), (52, .val r375), (53, .val (.agg [.list aairn1 aair2, .list adisn3 adis4])), (54, .ptr 0 7 0), (55, .val x364), (56, .val r375), (57, .val x377), (58, .val x379), (59, .val r386), (60, .val (.agg [.list aairn1 aair2, .list adisn3 adis4])), (61, .ptr 0 7 1), (62, .val x365), (63, .val r386), (64, .val x388), (65, .val x390)], [bx 133 [(2, some [.val (.list aairn1 aair2), .val (.list adisn3 adis4)]), (3, some [.val (.str bcar5), .val (.int .i64 bnum6), .val (.int .i64 bperfro7), .val (.int .i64 bperto9), .val (.int .i64 bperday10), .val (.list blegn11 bleg12)]), (7, some [.val x364, .val x365, .val x366, .val x367, .val x368]), (9, some [.val x381, .val x382, .val x383, .val x384, .val x385]), (11, some [.val x392, .val x393, .val x394, .val x395, .val x396])]], KK⟩)

noncomputable def r07_Check_J4 (lb : Bool) (n : Nat) (k362 : Nat) (aairn1 : Bool) (aair2 : List (List CV)) (adisn3 : Bool) (adis4 : List (List CV)) (bcar5 : List UInt8) (bnum6 : Int) (bperfro7 : Int) (bperto9 : Int) (bperday10 : Int) (blegn11 : Bool) (bleg12 : List (List CV)) (i243 : Int) (s370 : List UInt8) (x379 : CV) (x390 : CV) (p14 : Bool × List (List CV)) (c363 : List CV) (x364 : CV) (x365 : CV) (x366 : CV) (x367 : CV) (x368 : CV) (r369 : CV) (r375 : CV) (x377 : CV) (r386 : CV) (x388 : CV) (x381 : CV) (x382 : CV) (x383 : CV) (x384 : CV) (x385 : CV) (x392 : CV) (x393 : CV) (x394 : CV) (x395 : CV) (x396 : CV) (b402 : Bool) (l403 : List (List CV)) : Option CV :=
  hold (E0 lb n 0 983 (sub (B F_r07_Check) [1, 1, 1, 0, 1, 0, 0, 1, 0, 0, 1, 1, 1, 1, 1, 1, 1]) (blockK 1 (seqK (E0 lb n 0 991) (sub (B F_r07_Check) [1, 1, 1, 0, 1, 0, 0, 1, 0]) (sub (B F_r07_Check) [1, 1, 1, 0, 1, 0, 0, 1, 1]) (loopK 0 (loopTemps (sub (B F_r07_Check) [1, 1, 1, 0, 1, 0, 0]) ++ [8, 10, 12]) [7, 9, 11] (loopC (E0 lb n 0 993) 0 (loopTemps (sub (B F_r07_Check) [1, 1, 1, 0, 1, 0, 0]) ++ [8, 10, 12]) [7, 9, 11] (sub (B F_r07_Check) [1, 1, 1, 0, 1, 0, 0]) (blockK 0 (seqK (E0 lb n 0 996) (sub (B F_r07_Check) [1, 1, 1, 0]) (sub (B F_r07_Check) [1, 1, 1, 1]) (retK Tryd.prog (R F_r07_Check) 0 (outK (tightF Tryd.prog F_r07_Check))))) k362) (blockK 0 (seqK (E0 lb n 0 996) (sub (B F_r07_Check) [1, 1, 1, 0]) (sub (B F_r07_Check) [1, 1, 1, 1]) (retK Tryd.prog (R F_r07_Check) 0 (outK (tightF Tryd.prog F_r07_Check)))))))) ⟨fr 133 [(0, .val (.agg [.list aairn1 aair2, .list adisn3 adis4])), (1, .val (.agg [.str bcar5, .int .i64 bnum6, .int .i64 bperfro7, .int .i64 bperto9, .int .i64 bperday10, .list blegn11 bleg12])), (2, .ptr 0 2 0), (3, .ptr 0 3 0), (4, .lst true true 63 []), (5, .lst true b402 63 l403), (6, .val (.int .i64 i243)), (7, .ptr 0 7 0), (8, .val (.str (([108, 101, 103, 32] : List UInt8) ++ s370))), (9, .ptr 0 9 0), (10, .val x379), (11, .ptr 0 11 0), (12, .val x390), (15, .val (.agg [.str bcar5, .int .i64 bnum6, .int .i64 bperfro7, .int .i64 bperto9, .int .i64 bperday10, .list blegn11 bleg12])), (16, .val (.list p14.1 p14.2)), (35, .ptr 0 3 5), (36, .val (.list blegn11 bleg12)), (37, .val (.int .i64 i243)), (38, .cptr c363 0), (39, .val (.agg [x364, x365, x366, x367, x368])), (40, .val (.int .i64 i243)), (41, .val r369), (42, .val (.str (([108, 101, 103, 32] : List UInt8) ++ s370))), (52, .val r375), (53, .val (.agg [.list aairn1 aair2, .list adisn3 adis4])), (54, .ptr 0 7 0), (55, .val x364), (56, .val r375), (57, .val x377), (58, .val x379), (59, .val r386), (60, .val (.agg [.list aairn1 aair2, .list adisn3 adis4])), (61, .ptr 0 7 1), (62, .val x365), (63, .val r386), (64, .val x388), (65, .val x390)], [bx 133 [(2, some [.val (.list aairn1 aair2), .val (.list adisn3 adis4)]), (3, some [.val (.str bcar5), .val (.int .i64 bnum6), .val (.int .i64 bperfro7), .val (.int .i64 bperto9), .val (.int .i64 bperday10), .val (.list blegn11 bleg12)]), (7, some [.val x364, .val x365, .val x366, .val x367, .val x368]), (9, some [.val x381, .val x382, .val x383, .val x384, .val x385]), (11, some [.val x392, .val x393, .val x394, .val x395, .val x396])]], KK⟩)

theorem r07_Check_J4_eq (lb : Bool) (n : Nat) (k362 : Nat) (aairn1 : Bool) (aair2 : List (List CV)) (adisn3 : Bool) (adis4 : List (List CV)) (bcar5 : List UInt8) (bnum6 : Int) (bperfro7 : Int) (bperto9 : Int) (bperday10 : Int) (blegn11 : Bool) (bleg12 : List (List CV)) (i243 : Int) (s370 : List UInt8) (x379 : CV) (x390 : CV) (p14 : Bool × List (List CV)) (c363 : List CV) (x364 : CV) (x365 : CV) (x366 : CV) (x367 : CV) (x368 : CV) (r369 : CV) (r375 : CV) (x377 : CV) (r386 : CV) (x388 : CV) (x381 : CV) (x382 : CV) (x383 : CV) (x384 : CV) (x385 : CV) (x392 : CV) (x393 : CV) (x394 : CV) (x395 : CV) (x396 : CV) (b402 : Bool) (l403 : List (List CV)) :
  r07_Check_J4 lb n k362 aairn1 aair2 adisn3 adis4 bcar5 bnum6 bperfro7 bperto9 bperday10 blegn11 bleg12 i243 s370 x379 x390 p14 c363 x364 x365 x366 x367 x368 r369 r375 x377 r386 x388 x381 x382 x383 x384 x385 x392 x393 x394 x395 x396 b402 l403 =
 optO (C lb n F_r07_out [x366]) fun r404 =>
 optO (CV.asB r404) fun b405 =>
 bif b405 then
 (chkO (room (l403.length + 1) 24) (
 r07_Check_L1 lb n k362 aairn1 aair2 adisn3 adis4 bcar5 bnum6 bperfro7 bperto9 bperday10 blegn11 bleg12 p14 (b402 && false) (l403 ++ [[CV.int .i64 2, CV.str (([108, 101, 103, 32] : List UInt8) ++ s370)]]) (IntKind.wrap .i64 (i243 + 1))))
 else
 (optO (C lb n F_r07_out [x367]) fun r406 =>
 optO (CV.asB r406) fun b407 =>
 bif b407 then
 (chkO (room (l403.length + 1) 24) (
 r07_Check_L1 lb n k362 aairn1 aair2 adisn3 adis4 bcar5 bnum6 bperfro7 bperto9 bperday10 blegn11 bleg12 p14 (b402 && false) (l403 ++ [[CV.int .i64 2, CV.str (([108, 101, 103, 32] : List UInt8) ++ s370)]]) (IntKind.wrap .i64 (i243 + 1))))
 else
 (r07_Check_L1 lb n k362 aairn1 aair2 adisn3 adis4 bcar5 bnum6 bperfro7 bperto9 bperday10 blegn11 bleg12 p14 b402 l403 (IntKind.wrap .i64 (i243 + 1)))) := (hold_eq _).trans (by kernel_rfl)

theorem r07_Check_J3_eq (lb : Bool) (n : Nat) (k362 : Nat) (aairn1 : Bool) (aair2 : List (List CV)) (adisn3 : Bool) (adis4 : List (List CV)) (bcar5 : List UInt8) (bnum6 : Int) (bperfro7 : Int) (bperto9 : Int) (bperday10 : Int) (blegn11 : Bool) (bleg12 : List (List CV)) (i243 : Int) (s370 : List UInt8) (x379 : CV) (x390 : CV) (p14 : Bool × List (List CV)) (c363 : List CV) (x364 : CV) (x365 : CV) (x366 : CV) (x367 : CV) (x368 : CV) (r369 : CV) (r375 : CV) (x377 : CV) (r386 : CV) (x388 : CV) (x381 : CV) (x382 : CV) (x383 : CV) (x384 : CV) (x385 : CV) (x392 : CV) (x393 : CV) (x394 : CV) (x395 : CV) (x396 : CV) (b398 : Bool) (l399 : List (List CV)) :
  r07_Check_J3 lb n k362 aairn1 aair2 adisn3 adis4 bcar5 bnum6 bperfro7 bperto9 bperday10 blegn11 bleg12 i243 s370 x379 x390 p14 c363 x364 x365 x366 x367 x368 r369 r375 x377 r386 x388 x381 x382 x383 x384 x385 x392 x393 x394 x395 x396 b398 l399 =
 optO (C lb n F_r07_broken [.list blegn11 bleg12, .int .i64 i243]) fun r400 =>
 optO (CV.asB r400) fun b401 =>
 bif b401 then
 (chkO (room (l399.length + 1) 24) (
 r07_Check_J4 lb n k362 aairn1 aair2 adisn3 adis4 bcar5 bnum6 bperfro7 bperto9 bperday10 blegn11 bleg12 i243 s370 x379 x390 p14 c363 x364 x365 x366 x367 x368 r369 r375 x377 r386 x388 x381 x382 x383 x384 x385 x392 x393 x394 x395 x396 (b398 && false) (l399 ++ [[CV.int .i64 15, CV.str (([108, 101, 103, 32] : List UInt8) ++ s370)]])))
 else
 (r07_Check_J4 lb n k362 aairn1 aair2 adisn3 adis4 bcar5 bnum6 bperfro7 bperto9 bperday10 blegn11 bleg12 i243 s370 x379 x390 p14 c363 x364 x365 x366 x367 x368 r369 r375 x377 r386 x388 x381 x382 x383 x384 x385 x392 x393 x394 x395 x396 b398 l399) := (hold_eq _).trans (by kernel_rfl)

theorem r07_Check_J2_eq (lb : Bool) (n : Nat) (k362 : Nat) (aairn1 : Bool) (aair2 : List (List CV)) (adisn3 : Bool) (adis4 : List (List CV)) (bcar5 : List UInt8) (bnum6 : Int) (bperfro7 : Int) (bperto9 : Int) (bperday10 : Int) (blegn11 : Bool) (bleg12 : List (List CV)) (i243 : Int) (s370 : List UInt8) (p14 : Bool × List (List CV)) (c363 : List CV) (x364 : CV) (x365 : CV) (x366 : CV) (x367 : CV) (x368 : CV) (r369 : CV) (b373 : Bool) (l374 : List (List CV)) :
  r07_Check_J2 lb n k362 aairn1 aair2 adisn3 adis4 bcar5 bnum6 bperfro7 bperto9 bperday10 blegn11 bleg12 i243 s370 p14 c363 x364 x365 x366 x367 x368 r369 b373 l374 =
 optO (C lb n F_r06_Find [.agg [.list aairn1 aair2, .list adisn3 adis4], x364]) fun r375 =>
 optO (CV.asT r375) fun t376 =>
 optO (t376[0]?) fun x377 =>
 optO (CV.asT r375) fun t378 =>
 optO (t378[1]?) fun x379 =>
 optO (CV.asA x377) fun c380 =>
 chkO (c380.length == 5) (
 optO (c380[0]?) fun x381 =>
 optO (c380[1]?) fun x382 =>
 optO (c380[2]?) fun x383 =>
 optO (c380[3]?) fun x384 =>
 optO (c380[4]?) fun x385 =>
 optO (C lb n F_r06_Find [.agg [.list aairn1 aair2, .list adisn3 adis4], x365]) fun r386 =>
 optO (CV.asT r386) fun t387 =>
 optO (t387[0]?) fun x388 =>
 optO (CV.asT r386) fun t389 =>
 optO (t389[1]?) fun x390 =>
 optO (CV.asA x388) fun c391 =>
 chkO (c391.length == 5) (
 optO (c391[0]?) fun x392 =>
 optO (c391[1]?) fun x393 =>
 optO (c391[2]?) fun x394 =>
 optO (c391[3]?) fun x395 =>
 optO (c391[4]?) fun x396 =>
 optO (CV.asB x379) fun b397 =>
 bif (!b397) then
 (chkO (room (l374.length + 1) 24) (
 r07_Check_J3 lb n k362 aairn1 aair2 adisn3 adis4 bcar5 bnum6 bperfro7 bperto9 bperday10 blegn11 bleg12 i243 s370 x379 x390 p14 c363 x364 x365 x366 x367 x368 r369 r375 x377 r386 x388 x381 x382 x383 x384 x385 x392 x393 x394 x395 x396 (b373 && false) (l374 ++ [[CV.int .i64 14, CV.str (([108, 101, 103, 32] : List UInt8) ++ s370)]])))
 else
 (optO (CV.asB x390) fun b408 =>
 bif (!b408) then
 (chkO (room (l374.length + 1) 24) (
 r07_Check_J3 lb n k362 aairn1 aair2 adisn3 adis4 bcar5 bnum6 bperfro7 bperto9 bperday10 blegn11 bleg12 i243 s370 x379 x390 p14 c363 x364 x365 x366 x367 x368 r369 r375 x377 r386 x388 x381 x382 x383 x384 x385 x392 x393 x394 x395 x396 (b373 && false) (l374 ++ [[CV.int .i64 14, CV.str (([108, 101, 103, 32] : List UInt8) ++ s370)]])))
 else
 (r07_Check_J3 lb n k362 aairn1 aair2 adisn3 adis4 bcar5 bnum6 bperfro7 bperto9 bperday10 blegn11 bleg12 i243 s370 x379 x390 p14 c363 x364 x365 x366 x367 x368 r369 r375 x377 r386 x388 x381 x382 x383 x384 x385 x392 x393 x394 x395 x396 b373 l374)))) := (hold_eq _).trans (by kernel_rfl)

noncomputable def r07_Check_J5 (lb : Bool) (n : Nat) (aairn1 : Bool) (aair2 : List (List CV)) (adisn3 : Bool) (adis4 : List (List CV)) (bcar5 : List UInt8) (bnum6 : Int) (bperfro7 : Int) (bperto9 : Int) (bperday10 : Int) (blegn11 : Bool) (bleg12 : List (List CV)) (p14 : Bool × List (List CV)) (b409 : Bool) (l410 : List (List CV)) (i411 : Int) : Option CV :=
  hold (E0 lb n 0 996 (sub (B F_r07_Check) [1, 1, 1, 1]) (retK Tryd.prog (R F_r07_Check) 0 (outK (tightF Tryd.prog F_r07_Check))) ⟨fr 133 [(0, .val (.agg [.list aairn1 aair2, .list adisn3 adis4])), (1, .val (.agg [.str bcar5, .int .i64 bnum6, .int .i64 bperfro7, .int .i64 bperto9, .int .i64 bperday10, .list blegn11 bleg12])), (2, .ptr 0 2 0), (3, .ptr 0 3 0), (4, .lst true true 63 []), (5, .lst true b409 63 l410), (6, .val (.int .i64 i411)), (15, .val (.agg [.str bcar5, .int .i64 bnum6, .int .i64 bperfro7, .int .i64 bperto9, .int .i64 bperday10, .list blegn11 bleg12])), (16, .val (.list p14.1 p14.2))], [bx 133 [(2, some [.val (.list aairn1 aair2), .val (.list adisn3 adis4)]), (3, some [.val (.str bcar5), .val (.int .i64 bnum6), .val (.int .i64 bperfro7), .val (.int .i64 bperto9), .val (.int .i64 bperday10), .val (.list blegn11 bleg12)])]], KK⟩)

noncomputable def r07_Check_L6 (lb : Bool) (n : Nat) (k443 : Nat) (aairn1 : Bool) (aair2 : List (List CV)) (adisn3 : Bool) (adis4 : List (List CV)) (bcar5 : List UInt8) (bnum6 : Int) (bperfro7 : Int) (bperto9 : Int) (bperday10 : Int) (blegn11 : Bool) (bleg12 : List (List CV)) (i411 : Int) (r412 : CV) (p14 : Bool × List (List CV)) (b428 : Bool) (l429 : List (List CV)) (i430 : Int) : Option CV :=
  hold (loopC (E0 lb n 0 991) 0 (loopTemps (sub (B F_r07_Check) [1, 1, 1, 1, 1, 0, 1, 0, 0]) ++ []) [] (sub (B F_r07_Check) [1, 1, 1, 1, 1, 0, 1, 0, 0]) (blockK 2 (seqK (E0 lb n 0 994) (sub (B F_r07_Check) [1, 1, 1, 1, 1, 0]) (sub (B F_r07_Check) [1, 1, 1, 1, 1, 1]) (retK Tryd.prog (R F_r07_Check) 0 (outK (tightF Tryd.prog F_r07_Check))))) k443 ⟨fr 133 [(0, .val (.agg [.list aairn1 aair2, .list adisn3 adis4])), (1, .val (.agg [.str bcar5, .int .i64 bnum6, .int .i64 bperfro7, .int .i64 bperto9, .int .i64 bperday10, .list blegn11 bleg12])), (2, .ptr 0 2 0), (3, .ptr 0 3 0), (4, .lst true true 63 []), (5, .lst true b428 63 l429), (6, .val (.int .i64 i411)), (13, .val r412), (14, .val (.int .i64 i430)), (15, .val (.agg [.str bcar5, .int .i64 bnum6, .int .i64 bperfro7, .int .i64 bperto9, .int .i64 bperday10, .list blegn11 bleg12])), (16, .val (.list p14.1 p14.2)), (99, .ptr 0 3 2), (100, .val (.agg [.int .i64 bperfro7, .int .i64 bperto9, .int .i64 bperday10])), (101, .val r412)], [bx 133 [(2, some [.val (.list aairn1 aair2), .val (.list adisn3 adis4)]), (3, some [.val (.str bcar5), .val (.int .i64 bnum6), .val (.int .i64 bperfro7), .val (.int .i64 bperto9), .val (.int .i64 bperday10), .val (.list blegn11 bleg12)])]], KK⟩)

noncomputable def r07_Check_J7 (lb : Bool) (n : Nat) (aairn1 : Bool) (aair2 : List (List CV)) (adisn3 : Bool) (adis4 : List (List CV)) (bcar5 : List UInt8) (bnum6 : Int) (bperfro7 : Int) (bperto9 : Int) (bperday10 : Int) (blegn11 : Bool) (bleg12 : List (List CV)) (i411 : Int) (r412 : CV) (p14 : Bool × List (List CV)) (b456 : Bool) (l457 : List (List CV)) (i458 : Int) : Option CV :=
  hold (E0 lb n 0 994 (sub (B F_r07_Check) [1, 1, 1, 1, 1, 1]) (retK Tryd.prog (R F_r07_Check) 0 (outK (tightF Tryd.prog F_r07_Check))) ⟨fr 133 [(0, .val (.agg [.list aairn1 aair2, .list adisn3 adis4])), (1, .val (.agg [.str bcar5, .int .i64 bnum6, .int .i64 bperfro7, .int .i64 bperto9, .int .i64 bperday10, .list blegn11 bleg12])), (2, .ptr 0 2 0), (3, .ptr 0 3 0), (4, .lst true true 63 []), (5, .lst true b456 63 l457), (6, .val (.int .i64 i411)), (13, .val r412), (14, .val (.int .i64 i458)), (15, .val (.agg [.str bcar5, .int .i64 bnum6, .int .i64 bperfro7, .int .i64 bperto9, .int .i64 bperday10, .list blegn11 bleg12])), (16, .val (.list p14.1 p14.2)), (99, .ptr 0 3 2), (100, .val (.agg [.int .i64 bperfro7, .int .i64 bperto9, .int .i64 bperday10])), (101, .val r412)], [bx 133 [(2, some [.val (.list aairn1 aair2), .val (.list adisn3 adis4)]), (3, some [.val (.str bcar5), .val (.int .i64 bnum6), .val (.int .i64 bperfro7), .val (.int .i64 bperto9), .val (.int .i64 bperday10), .val (.list blegn11 bleg12)])]], KK⟩)

theorem r07_Check_J7_eq (lb : Bool) (n : Nat) (aairn1 : Bool) (aair2 : List (List CV)) (adisn3 : Bool) (adis4 : List (List CV)) (bcar5 : List UInt8) (bnum6 : Int) (bperfro7 : Int) (bperto9 : Int) (bperday10 : Int) (blegn11 : Bool) (bleg12 : List (List CV)) (i411 : Int) (r412 : CV) (p14 : Bool × List (List CV)) (b456 : Bool) (l457 : List (List CV)) (i458 : Int) :
  r07_Check_J7 lb n aairn1 aair2 adisn3 adis4 bcar5 bnum6 bperfro7 bperto9 bperday10 blegn11 bleg12 i411 r412 p14 b456 l457 i458 =
 some (.list b456 l457) := (hold_eq _).trans (by kernel_rfl)

theorem r07_Check_L6_succ (lb : Bool) (n k443 : Nat) (aairn1 : Bool) (aair2 : List (List CV)) (adisn3 : Bool) (adis4 : List (List CV)) (bcar5 : List UInt8) (bnum6 : Int) (bperfro7 : Int) (bperto9 : Int) (bperday10 : Int) (blegn11 : Bool) (bleg12 : List (List CV)) (i411 : Int) (r412 : CV) (p14 : Bool × List (List CV)) (b428 : Bool) (l429 : List (List CV)) (i430 : Int) :
  r07_Check_L6 lb n (k443 + 1) aairn1 aair2 adisn3 adis4 bcar5 bnum6 bperfro7 bperto9 bperday10 blegn11 bleg12 i411 r412 p14 b428 l429 i430 =
 bif ((l429.length : Int) == 0) then
 (optO (CV.asL r412) fun p444 =>
 bif (decide (i430 < (p444.2.length : Int))) then
 (optO (CV.asL r412) fun p445 =>
 optO (atL p445.2 i430) fun c446 =>
 chkO (c446.length == 1) (
 optO (c446[0]?) fun x447 =>
 optO (C lb n F_r07_legs [.agg [.list aairn1 aair2, .list adisn3 adis4], .agg [.str bcar5, .int .i64 bnum6, .int .i64 bperfro7, .int .i64 bperto9, .int .i64 bperday10, .list blegn11 bleg12], x447]) fun r448 =>
 optO (C lb n F_r07_ordered [r448]) fun r449 =>
 optO (CV.asB r449) fun b450 =>
 bif (!b450) then
 (optO (CV.asL r412) fun p451 =>
 optO (atL p451.2 i430) fun c452 =>
 chkO (c452.length == 1) (
 optO (c452[0]?) fun x453 =>
 optO (C lb n F_r03_Print [x453]) fun r454 =>
 optO (CV.asS r454) fun s455 =>
 chkO (decide (([100, 97, 121, 32] : List UInt8).length + s455.length ≤ 9223372036854775807)) (
 chkO (room (l429.length + 1) 24) (
 r07_Check_L6 lb n k443 aairn1 aair2 adisn3 adis4 bcar5 bnum6 bperfro7 bperto9 bperday10 blegn11 bleg12 i411 r412 p14 (b428 && false) (l429 ++ [[CV.int .i64 13, CV.str (([100, 97, 121, 32] : List UInt8) ++ s455)]]) (IntKind.wrap .i64 (i430 + 1))))))
 else
 (r07_Check_L6 lb n k443 aairn1 aair2 adisn3 adis4 bcar5 bnum6 bperfro7 bperto9 bperday10 blegn11 bleg12 i411 r412 p14 b428 l429 (IntKind.wrap .i64 (i430 + 1)))))
 else
 (r07_Check_J7 lb n aairn1 aair2 adisn3 adis4 bcar5 bnum6 bperfro7 bperto9 bperday10 blegn11 bleg12 i411 r412 p14 b428 l429 i430))
 else
 (r07_Check_J7 lb n aairn1 aair2 adisn3 adis4 bcar5 bnum6 bperfro7 bperto9 bperday10 blegn11 bleg12 i411 r412 p14 b428 l429 i430) := (hold_eq _).trans (by kernel_rfl)

theorem r07_Check_L6_zero (lb : Bool) (n : Nat) (aairn1 : Bool) (aair2 : List (List CV)) (adisn3 : Bool) (adis4 : List (List CV)) (bcar5 : List UInt8) (bnum6 : Int) (bperfro7 : Int) (bperto9 : Int) (bperday10 : Int) (blegn11 : Bool) (bleg12 : List (List CV)) (i411 : Int) (r412 : CV) (p14 : Bool × List (List CV)) (b428 : Bool) (l429 : List (List CV)) (i430 : Int) :
  r07_Check_L6 lb n 0 aairn1 aair2 adisn3 adis4 bcar5 bnum6 bperfro7 bperto9 bperday10 blegn11 bleg12 i411 r412 p14 b428 l429 i430 =
 none := (hold_eq _).trans (by kernel_rfl)

theorem r07_Check_J5_eq (lb : Bool) (n : Nat) (aairn1 : Bool) (aair2 : List (List CV)) (adisn3 : Bool) (adis4 : List (List CV)) (bcar5 : List UInt8) (bnum6 : Int) (bperfro7 : Int) (bperto9 : Int) (bperday10 : Int) (blegn11 : Bool) (bleg12 : List (List CV)) (p14 : Bool × List (List CV)) (b409 : Bool) (l410 : List (List CV)) (i411 : Int) :
  r07_Check_J5 lb n aairn1 aair2 adisn3 adis4 bcar5 bnum6 bperfro7 bperto9 bperday10 blegn11 bleg12 p14 b409 l410 i411 =
 optO (C lb n F_r04_Days [.agg [.int .i64 bperfro7, .int .i64 bperto9, .int .i64 bperday10]]) fun r412 =>
 r07_Check_L6 lb n n aairn1 aair2 adisn3 adis4 bcar5 bnum6 bperfro7 bperto9 bperday10 blegn11 bleg12 i411 r412 p14 b409 l410 0 := (hold_eq _).trans (by kernel_rfl)

theorem r07_Check_L1_succ (lb : Bool) (n k362 : Nat) (aairn1 : Bool) (aair2 : List (List CV)) (adisn3 : Bool) (adis4 : List (List CV)) (bcar5 : List UInt8) (bnum6 : Int) (bperfro7 : Int) (bperto9 : Int) (bperday10 : Int) (blegn11 : Bool) (bleg12 : List (List CV)) (p14 : Bool × List (List CV)) (b241 : Bool) (l242 : List (List CV)) (i243 : Int) :
  r07_Check_L1 lb n (k362 + 1) aairn1 aair2 adisn3 adis4 bcar5 bnum6 bperfro7 bperto9 bperday10 blegn11 bleg12 p14 b241 l242 i243 =
 bif (decide (i243 < (bleg12.length : Int))) then
 (optO (atL bleg12 i243) fun c363 =>
 chkO (c363.length == 5) (
 optO (c363[0]?) fun x364 =>
 optO (c363[1]?) fun x365 =>
 optO (c363[2]?) fun x366 =>
 optO (c363[3]?) fun x367 =>
 optO (c363[4]?) fun x368 =>
 optO (C lb n F_r01_Decimal [.int .i64 i243]) fun r369 =>
 optO (CV.asS r369) fun s370 =>
 chkO (decide (([108, 101, 103, 32] : List UInt8).length + s370.length ≤ 9223372036854775807)) (
 optO (C lb n F_r01_Code [x368, .int .i64 3, .int .i64 3]) fun r371 =>
 optO (CV.asB r371) fun b372 =>
 bif (!b372) then
 (chkO (room (l242.length + 1) 24) (
 r07_Check_J2 lb n k362 aairn1 aair2 adisn3 adis4 bcar5 bnum6 bperfro7 bperto9 bperday10 blegn11 bleg12 i243 s370 p14 c363 x364 x365 x366 x367 x368 r369 (b241 && false) (l242 ++ [[CV.int .i64 5, CV.str (([108, 101, 103, 32] : List UInt8) ++ s370)]])))
 else
 (r07_Check_J2 lb n k362 aairn1 aair2 adisn3 adis4 bcar5 bnum6 bperfro7 bperto9 bperday10 blegn11 bleg12 i243 s370 p14 c363 x364 x365 x366 x367 x368 r369 b241 l242))))
 else
 (r07_Check_J5 lb n aairn1 aair2 adisn3 adis4 bcar5 bnum6 bperfro7 bperto9 bperday10 blegn11 bleg12 p14 b241 l242 i243) := (hold_eq _).trans (by kernel_rfl)

theorem r07_Check_L1_zero (lb : Bool) (n : Nat) (aairn1 : Bool) (aair2 : List (List CV)) (adisn3 : Bool) (adis4 : List (List CV)) (bcar5 : List UInt8) (bnum6 : Int) (bperfro7 : Int) (bperto9 : Int) (bperday10 : Int) (blegn11 : Bool) (bleg12 : List (List CV)) (p14 : Bool × List (List CV)) (b241 : Bool) (l242 : List (List CV)) (i243 : Int) :
  r07_Check_L1 lb n 0 aairn1 aair2 adisn3 adis4 bcar5 bnum6 bperfro7 bperto9 bperday10 blegn11 bleg12 p14 b241 l242 i243 =
 none := (hold_eq _).trans (by kernel_rfl)

theorem r07_Check_eq (lb : Bool) (n : Nat) (aairn1 : Bool) (aair2 : List (List CV)) (adisn3 : Bool) (adis4 : List (List CV)) (bcar5 : List UInt8) (bnum6 : Int) (bperfro7 : Int) (bperto9 : Int) (bperday10 : Int) (blegn11 : Bool) (bleg12 : List (List CV)) :
  top lb n F_r07_Check [.agg [.list aairn1 aair2, .list adisn3 adis4], .agg [.str bcar5, .int .i64 bnum6, .int .i64 bperfro7, .int .i64 bperto9, .int .i64 bperday10, .list blegn11 bleg12]] =
 optO (C lb n F_r07_head [.agg [.str bcar5, .int .i64 bnum6, .int .i64 bperfro7, .int .i64 bperto9, .int .i64 bperday10, .list blegn11 bleg12]]) fun r13 =>
 optO (CV.asL r13) fun p14 =>
 bif (decide ((bleg12.length : Int) < 1)) then
 (some (.list p14.1 p14.2))
 else
 (bif (decide ((bleg12.length : Int) > 6)) then
 (some (.list p14.1 p14.2))
 else
 (r07_Check_L1 lb n n aairn1 aair2 adisn3 adis4 bcar5 bnum6 bperfro7 bperto9 bperday10 blegn11 bleg12 p14 p14.1 p14.2 0)) := by kernel_rfl

/-! airline/calendar.Print -/
theorem calendar_Print_eq (lb : Bool) (n : Nat) (a1 : Int) :
  top lb n F_calendar_Print [.int .i64 a1] =
 optO (C lb n F_calendar_Date [.int .i64 a1]) fun r2 =>
 optO (CV.asT r2) fun t3 =>
 optO (t3[0]?) fun x4 =>
 optO (CV.asT r2) fun t5 =>
 optO (t5[1]?) fun x6 =>
 optO (CV.asT r2) fun t7 =>
 optO (t7[2]?) fun x9 =>
 optO (CV.asI .i64 x4) fun i10 =>
 bif (i10 == 0) then
 (some (.str []))
 else
 (optO (CV.asI .i64 x4) fun i11 =>
 optO (C lb n F_calendar_two [.int .i64 (IntKind.wrap .i64 (Int.tdiv i11 100))]) fun r12 =>
 optO (CV.asI .i64 x4) fun i13 =>
 optO (C lb n F_calendar_two [.int .i64 (Int.tmod i13 100)]) fun r14 =>
 optO (CV.asS r12) fun s15 =>
 optO (CV.asS r14) fun s17 =>
 chkO (decide (s15.length + s17.length ≤ 9223372036854775807)) (
 chkO (decide ((s15 ++ s17).length + [45].length ≤ 9223372036854775807)) (
 optO (C lb n F_calendar_two [x6]) fun r18 =>
 optO (CV.asS r18) fun s19 =>
 chkO (decide (((s15 ++ s17) ++ [45]).length + s19.length ≤ 9223372036854775807)) (
 chkO (decide ((((s15 ++ s17) ++ [45]) ++ s19).length + [45].length ≤ 9223372036854775807)) (
 optO (C lb n F_calendar_two [x9]) fun r20 =>
 optO (CV.asS r20) fun s21 =>
 chkO (decide (((((s15 ++ s17) ++ [45]) ++ s19) ++ [45]).length + s21.length ≤ 9223372036854775807)) (
 some (.str (((((s15 ++ s17) ++ [45]) ++ s19) ++ [45]) ++ s21)))))))) := by kernel_rfl

/-! airline/calendar.Date -/
noncomputable def calendar_Date_L1 (lb : Bool) (n : Nat) (k7 : Nat) (a1 : Int) (i4 : Int) : Option CV :=
  hold (loopC (E0 lb n 0 994) 0 (loopTemps (sub (B F_calendar_Date) [1, 1, 1, 0, 0, 0]) ++ []) [] (sub (B F_calendar_Date) [1, 1, 1, 0, 0, 0]) (blockK 0 (seqK (E0 lb n 0 996) (sub (B F_calendar_Date) [1, 1, 1, 0]) (sub (B F_calendar_Date) [1, 1, 1, 1]) (retK Tryd.prog (R F_calendar_Date) 0 (outK (tightF Tryd.prog F_calendar_Date))))) k7 ⟨fr 48 [(0, .val (.int .i64 a1)), (2, .val (.int .i64 0)), (3, .val (.int .i64 0)), (4, .val (.int .i64 0)), (5, .val (.int .i64 i4)), (15, .val (.int .i64 a1)), (16, .val (.int .i64 (IntKind.wrap .i64 (Int.tdiv a1 366)))), (17, .val (.int .i64 (IntKind.wrap .i64 (2000 + (IntKind.wrap .i64 (Int.tdiv a1 366))))))], [bx 48 []], KK⟩)

noncomputable def calendar_Date_J2 (lb : Bool) (n : Nat) (a1 : Int) (i11 : Int) : Option CV :=
  hold (E0 lb n 0 996 (sub (B F_calendar_Date) [1, 1, 1, 1]) (retK Tryd.prog (R F_calendar_Date) 0 (outK (tightF Tryd.prog F_calendar_Date))) ⟨fr 48 [(0, .val (.int .i64 a1)), (2, .val (.int .i64 0)), (3, .val (.int .i64 0)), (4, .val (.int .i64 0)), (5, .val (.int .i64 i11)), (15, .val (.int .i64 a1)), (16, .val (.int .i64 (IntKind.wrap .i64 (Int.tdiv a1 366)))), (17, .val (.int .i64 (IntKind.wrap .i64 (2000 + (IntKind.wrap .i64 (Int.tdiv a1 366))))))], [bx 48 []], KK⟩)

noncomputable def calendar_Date_L3 (lb : Bool) (n : Nat) (k23 : Nat) (a1 : Int) (i11 : Int) (r12 : CV) (i13 : Int) (i18 : Int) (i19 : Int) : Option CV :=
  hold (loopC (E0 lb n 0 991) 0 (loopTemps (sub (B F_calendar_Date) [1, 1, 1, 1, 1, 0, 1, 0, 0]) ++ [7, 8]) [] (sub (B F_calendar_Date) [1, 1, 1, 1, 1, 0, 1, 0, 0]) (blockK 2 (seqK (E0 lb n 0 994) (sub (B F_calendar_Date) [1, 1, 1, 1, 1, 0]) (sub (B F_calendar_Date) [1, 1, 1, 1, 1, 1]) (retK Tryd.prog (R F_calendar_Date) 0 (outK (tightF Tryd.prog F_calendar_Date))))) k23 ⟨fr 48 [(0, .val (.int .i64 a1)), (2, .val (.int .i64 0)), (3, .val (.int .i64 0)), (4, .val (.int .i64 0)), (5, .val (.int .i64 i11)), (6, .val (.int .i64 i18)), (15, .val (.int .i64 a1)), (16, .val (.int .i64 (IntKind.wrap .i64 (Int.tdiv a1 366)))), (17, .val (.int .i64 (IntKind.wrap .i64 (2000 + (IntKind.wrap .i64 (Int.tdiv a1 366)))))), (25, .val (.int .i64 a1)), (26, .val (.int .i64 i11)), (27, .val r12), (28, .val (.int .i64 (IntKind.wrap .i64 (a1 - i13)))), (29, .val (.int .i64 i19))], [bx 48 []], KK⟩)

noncomputable def calendar_Date_J4 (lb : Bool) (n : Nat) (a1 : Int) (i11 : Int) (r12 : CV) (i13 : Int) (i27 : Int) : Option CV :=
  hold (E0 lb n 0 994 (sub (B F_calendar_Date) [1, 1, 1, 1, 1, 1]) (retK Tryd.prog (R F_calendar_Date) 0 (outK (tightF Tryd.prog F_calendar_Date))) ⟨fr 48 [(0, .val (.int .i64 a1)), (2, .val (.int .i64 0)), (3, .val (.int .i64 0)), (4, .val (.int .i64 0)), (5, .val (.int .i64 i11)), (6, .val (.int .i64 i27)), (15, .val (.int .i64 a1)), (16, .val (.int .i64 (IntKind.wrap .i64 (Int.tdiv a1 366)))), (17, .val (.int .i64 (IntKind.wrap .i64 (2000 + (IntKind.wrap .i64 (Int.tdiv a1 366)))))), (25, .val (.int .i64 a1)), (26, .val (.int .i64 i11)), (27, .val r12), (28, .val (.int .i64 (IntKind.wrap .i64 (a1 - i13))))], [bx 48 []], KK⟩)

theorem calendar_Date_J4_eq (lb : Bool) (n : Nat) (a1 : Int) (i11 : Int) (r12 : CV) (i13 : Int) (i27 : Int) :
  calendar_Date_J4 lb n a1 i11 r12 i13 i27 =
 some (.tup [.int .i64 0, .int .i64 0, .int .i64 0]) := (hold_eq _).trans (by kernel_rfl)

theorem calendar_Date_L3_succ (lb : Bool) (n k23 : Nat) (a1 : Int) (i11 : Int) (r12 : CV) (i13 : Int) (i18 : Int) (i19 : Int) :
  calendar_Date_L3 lb n (k23 + 1) a1 i11 r12 i13 i18 i19 =
 bif (decide (i19 < 12)) then
 (optO (C lb n F_calendar_length [.int .i64 i11, .int .i64 (IntKind.wrap .i64 (i19 + 1))]) fun r24 =>
 optO (CV.asI .i64 r24) fun i25 =>
 bif (decide (i18 < i25)) then
 (some (.tup [.int .i64 i11, .int .i64 (IntKind.wrap .i64 (i19 + 1)), .int .i64 (IntKind.wrap .i64 (i18 + 1))]))
 else
 (optO (CV.asI .i64 r24) fun i26 =>
 calendar_Date_L3 lb n k23 a1 i11 r12 i13 (IntKind.wrap .i64 (i18 - i26)) (IntKind.wrap .i64 (i19 + 1))))
 else
 (calendar_Date_J4 lb n a1 i11 r12 i13 i18) := (hold_eq _).trans (by kernel_rfl)

theorem calendar_Date_L3_zero (lb : Bool) (n : Nat) (a1 : Int) (i11 : Int) (r12 : CV) (i13 : Int) (i18 : Int) (i19 : Int) :
  calendar_Date_L3 lb n 0 a1 i11 r12 i13 i18 i19 =
 none := (hold_eq _).trans (by kernel_rfl)

theorem calendar_Date_J2_eq (lb : Bool) (n : Nat) (a1 : Int) (i11 : Int) :
  calendar_Date_J2 lb n a1 i11 =
 optO (C lb n F_calendar_first [.int .i64 i11]) fun r12 =>
 optO (CV.asI .i64 r12) fun i13 =>
 calendar_Date_L3 lb n n a1 i11 r12 i13 (IntKind.wrap .i64 (a1 - i13)) 0 := (hold_eq _).trans (by kernel_rfl)

theorem calendar_Date_L1_succ (lb : Bool) (n k7 : Nat) (a1 : Int) (i4 : Int) :
  calendar_Date_L1 lb n (k7 + 1) a1 i4 =
 optO (C lb n F_calendar_first [.int .i64 (IntKind.wrap .i64 (i4 + 1))]) fun r9 =>
 optO (CV.asI .i64 r9) fun i10 =>
 bif (decide (i10 ≤ a1)) then
 (calendar_Date_L1 lb n k7 a1 (IntKind.wrap .i64 (i4 + 1)))
 else
 (calendar_Date_J2 lb n a1 i4) := (hold_eq _).trans (by kernel_rfl)

theorem calendar_Date_L1_zero (lb : Bool) (n : Nat) (a1 : Int) (i4 : Int) :
  calendar_Date_L1 lb n 0 a1 i4 =
 none := (hold_eq _).trans (by kernel_rfl)

theorem calendar_Date_eq (lb : Bool) (n : Nat) (a1 : Int) :
  top lb n F_calendar_Date [.int .i64 a1] =
 bif (decide (a1 < 0)) then
 (some (.tup [.int .i64 0, .int .i64 0, .int .i64 0]))
 else
 (bif (decide (a1 ≥ 36525)) then
 (some (.tup [.int .i64 0, .int .i64 0, .int .i64 0]))
 else
 (calendar_Date_L1 lb n n a1 (IntKind.wrap .i64 (2000 + (IntKind.wrap .i64 (Int.tdiv a1 366)))))) := by kernel_rfl

/-! airline/calendar.two -/
theorem calendar_two_eq (lb : Bool) (n : Nat) (a1 : Int) :
  top lb n F_calendar_two [.int .i64 a1] =
 optO (bytesOf [[CV.int .u8 (IntKind.wrap .u8 (IntKind.wrap .i64 (48 + (IntKind.wrap .i64 (Int.tdiv a1 10)))))], [CV.int .u8 (IntKind.wrap .u8 (IntKind.wrap .i64 (48 + (Int.tmod a1 10))))]]) fun s2 =>
 some (.str s2) := by kernel_rfl

/-! airline/calendar.first -/
theorem calendar_first_eq (lb : Bool) (n : Nat) (a1 : Int) :
  top lb n F_calendar_first [.int .i64 a1] =
 some (.int .i64 (IntKind.wrap .i64 ((IntKind.wrap .i64 (365 * (IntKind.wrap .i64 (a1 - 2000)))) + (IntKind.wrap .i64 (Int.tdiv (IntKind.wrap .i64 ((IntKind.wrap .i64 (a1 - 2000)) + 3)) 4))))) := by kernel_rfl

/-! airline/airlineref03.Print -/
theorem r03_Print_eq (lb : Bool) (n : Nat) (a1 : Int) :
  top lb n F_r03_Print [.int .i64 a1] =
 optO (C lb n F_r03_Date [.int .i64 a1]) fun r2 =>
 optO (CV.asT r2) fun t3 =>
 optO (t3[0]?) fun x4 =>
 optO (CV.asT r2) fun t5 =>
 optO (t5[1]?) fun x6 =>
 optO (CV.asT r2) fun t7 =>
 optO (t7[2]?) fun x9 =>
 optO (CV.asI .i64 x4) fun i10 =>
 bif (i10 == 0) then
 (some (.str []))
 else
 (optO (CV.asI .i64 x4) fun i11 =>
 optO (C lb n F_r03_two [.int .i64 (IntKind.wrap .i64 (Int.tdiv i11 100))]) fun r12 =>
 optO (CV.asI .i64 x4) fun i13 =>
 optO (C lb n F_r03_two [.int .i64 (Int.tmod i13 100)]) fun r14 =>
 optO (CV.asS r12) fun s15 =>
 optO (CV.asS r14) fun s17 =>
 chkO (decide (s15.length + s17.length ≤ 9223372036854775807)) (
 chkO (decide ((s15 ++ s17).length + [45].length ≤ 9223372036854775807)) (
 optO (C lb n F_r03_two [x6]) fun r18 =>
 optO (CV.asS r18) fun s19 =>
 chkO (decide (((s15 ++ s17) ++ [45]).length + s19.length ≤ 9223372036854775807)) (
 chkO (decide ((((s15 ++ s17) ++ [45]) ++ s19).length + [45].length ≤ 9223372036854775807)) (
 optO (C lb n F_r03_two [x9]) fun r20 =>
 optO (CV.asS r20) fun s21 =>
 chkO (decide (((((s15 ++ s17) ++ [45]) ++ s19) ++ [45]).length + s21.length ≤ 9223372036854775807)) (
 some (.str (((((s15 ++ s17) ++ [45]) ++ s19) ++ [45]) ++ s21)))))))) := by kernel_rfl

/-! airline/airlineref03.Date -/
noncomputable def r03_Date_L1 (lb : Bool) (n : Nat) (k24 : Nat) (i17 : Int) (i18 : Int) (i19 : Int) : Option CV :=
  hold (loopC (E0 lb n 0 994) 0 (loopTemps (sub (B F_r03_Date) [1, 1, 1, 0, 0, 0]) ++ []) [] (sub (B F_r03_Date) [1, 1, 1, 0, 0, 0]) (blockK 0 (seqK (E0 lb n 0 996) (sub (B F_r03_Date) [1, 1, 1, 0]) (sub (B F_r03_Date) [1, 1, 1, 1]) (retK Tryd.prog (R F_r03_Date) 0 (outK (tightF Tryd.prog F_r03_Date))))) k24 ⟨fr 33 [(0, .val (.int .i64 i17)), (2, .val (.int .i64 0)), (3, .val (.int .i64 0)), (4, .val (.int .i64 0)), (5, .val (.int .i64 i18)), (6, .val (.int .i64 i19))], [bx 33 []], KK⟩)

noncomputable def r03_Date_J2 (lb : Bool) (n : Nat) (i29 : Int) (i30 : Int) (i31 : Int) : Option CV :=
  hold (E0 lb n 0 996 (sub (B F_r03_Date) [1, 1, 1, 1]) (retK Tryd.prog (R F_r03_Date) 0 (outK (tightF Tryd.prog F_r03_Date))) ⟨fr 33 [(0, .val (.int .i64 i29)), (2, .val (.int .i64 0)), (3, .val (.int .i64 0)), (4, .val (.int .i64 0)), (5, .val (.int .i64 i30)), (6, .val (.int .i64 i31))], [bx 33 []], KK⟩)

theorem r03_Date_J2_eq (lb : Bool) (n : Nat) (i29 : Int) (i30 : Int) (i31 : Int) :
  r03_Date_J2 lb n i29 i30 i31 =
 some (.tup [.int .i64 i30, .int .i64 i31, .int .i64 (IntKind.wrap .i64 (i29 + 1))]) := (hold_eq _).trans (by kernel_rfl)

theorem r03_Date_L1_succ (lb : Bool) (n k24 : Nat) (i17 : Int) (i18 : Int) (i19 : Int) :
  r03_Date_L1 lb n (k24 + 1) i17 i18 i19 =
 optO (C lb n F_r03_Length [.int .i64 i18, .int .i64 i19]) fun r25 =>
 optO (CV.asI .i64 r25) fun i26 =>
 bif (decide (i17 ≥ i26)) then
 (optO (C lb n F_r03_Length [.int .i64 i18, .int .i64 i19]) fun r27 =>
 optO (CV.asI .i64 r27) fun i28 =>
 bif ((IntKind.wrap .i64 (i19 + 1)) == 13) then
 (r03_Date_L1 lb n k24  (IntKind.wrap .i64 (i17 - i28)) (IntKind.wrap .i64 (i18 + 1)) 1)
 else
 (r03_Date_L1 lb n k24  (IntKind.wrap .i64 (i17 - i28)) i18 (IntKind.wrap .i64 (i19 + 1))))
 else
 (r03_Date_J2 lb n  i17 i18 i19) := (hold_eq _).trans (by kernel_rfl)

theorem r03_Date_L1_zero (lb : Bool) (n : Nat) (i17 : Int) (i18 : Int) (i19 : Int) :
  r03_Date_L1 lb n 0 i17 i18 i19 =
 none := (hold_eq _).trans (by kernel_rfl)

theorem r03_Date_eq (lb : Bool) (n : Nat) (a1 : Int) :
  top lb n F_r03_Date [.int .i64 a1] =
 bif (decide (a1 < 0)) then
 (some (.tup [.int .i64 0, .int .i64 0, .int .i64 0]))
 else
 (bif (decide (a1 ≥ 36525)) then
 (some (.tup [.int .i64 0, .int .i64 0, .int .i64 0]))
 else
 (r03_Date_L1 lb n n  a1 2000 1)) := by kernel_rfl

/-! airline/airlineref03.two -/
theorem r03_two_eq (lb : Bool) (n : Nat) (a1 : Int) :
  top lb n F_r03_two [.int .i64 a1] =
 optO (bytesOf [[CV.int .u8 (IntKind.wrap .u8 (IntKind.wrap .i64 (48 + (IntKind.wrap .i64 (Int.tdiv a1 10)))))], [CV.int .u8 (IntKind.wrap .u8 (IntKind.wrap .i64 (48 + (Int.tmod a1 10))))]]) fun s2 =>
 some (.str s2) := by kernel_rfl

/-! airline/airlineref03.Length -/
noncomputable def r03_Length_J1 (lb : Bool) (n : Nat) (a1 : Int) (b2 : Int) (b3 : Bool) : Option CV :=
  hold (E0 lb n 0 995 (sub (B F_r03_Length) [1, 0, 1, 0, 1]) (blockK 0 (seqK (E0 lb n 0 998) (sub (B F_r03_Length) [1, 0]) (sub (B F_r03_Length) [1, 1]) (retK Tryd.prog (R F_r03_Length) 0 (outK (tightF Tryd.prog F_r03_Length))))) ⟨fr 16 [(0, .val (.int .i64 a1)), (1, .val (.int .i64 b2)), (4, .val (.int .i64 0)), (5, .val (.int .i64 b2)), (6, .val (.bool b3))], [bx 16 []], KK⟩)

theorem r03_Length_J1_eq (lb : Bool) (n : Nat) (a1 : Int) (b2 : Int) (b3 : Bool) :
  r03_Length_J1 lb n a1 b2 b3 =
 bif b3 then
 (some (.int .i64 30))
 else
 (bif (b2 == 2) then
 (bif ((Int.tmod a1 4) == 0) then
 (some (.int .i64 29))
 else
 (some (.int .i64 28)))
 else
 (some (.int .i64 31))) := (hold_eq _).trans (by kernel_rfl)

theorem r03_Length_eq (lb : Bool) (n : Nat) (a1 : Int) (b2 : Int) :
  top lb n F_r03_Length [.int .i64 a1, .int .i64 b2] =
 bif (b2 == 4) then
 (r03_Length_J1 lb n a1 b2 (b2 == 4))
 else
 (bif (b2 == 6) then
 (r03_Length_J1 lb n a1 b2 (b2 == 6))
 else
 (bif (b2 == 9) then
 (r03_Length_J1 lb n a1 b2 (b2 == 9))
 else
 (r03_Length_J1 lb n a1 b2 (b2 == 11)))) := by kernel_rfl

end Go.Proofs
