/- Equations of functions, printed by program. Conditions: none. -/
import Derived.Test.YtifjdkimbamdkaaGreatDoorEv
namespace Go.Proofs
open Go.Am
set_option maxRecDepth 100000
set_option linter.unusedVariables false
/-! airline/airlinelaw07.FlightChecks -/
theorem l07_FlightChecks_eq (lb : Bool) (n : Nat) (aairn1 : Bool) (aair2 : List (List CV)) (adisn3 : Bool) (adis4 : List (List CV)) (bcar5 : List UInt8) (bnum6 : Int) (bperfro7 : Int) (bperto9 : Int) (bperday10 : Int) (blegn11 : Bool) (bleg12 : List (List CV)) :
  top lb n F_l07_FlightChecks [.agg [.list aairn1 aair2, .list adisn3 adis4], .agg [.str bcar5, .int .i64 bnum6, .int .i64 bperfro7, .int .i64 bperto9, .int .i64 bperday10, .list blegn11 bleg12]] =
 optO (C lb n F_r07_Big [.agg [.list aairn1 aair2, .list adisn3 adis4], .agg [.str bcar5, .int .i64 bnum6, .int .i64 bperfro7, .int .i64 bperto9, .int .i64 bperday10, .list blegn11 bleg12]]) fun r13 =>
 optO (CV.asB r13) fun b14 =>
 bif b14 then
 (optO (C lb n F_l07_awake []) fun r15 =>
 some (r15))
 else
 (optO (C lb n F_r06_Check [.agg [.list aairn1 aair2, .list adisn3 adis4]]) fun r17 =>
 optO (CV.asL r17) fun p18 =>
 bif (decide ((p18.2.length : Int) > 0)) then
 (optO (C lb n F_l07_awake []) fun r19 =>
 some (r19))
 else
 (optO (C lb n F_flight_Check [.agg [.list aairn1 aair2, .list adisn3 adis4], .agg [.str bcar5, .int .i64 bnum6, .int .i64 bperfro7, .int .i64 bperto9, .int .i64 bperday10, .list blegn11 bleg12]]) fun r20 =>
 optO (C lb n F_r07_Check [.agg [.list aairn1 aair2, .list adisn3 adis4], .agg [.str bcar5, .int .i64 bnum6, .int .i64 bperfro7, .int .i64 bperto9, .int .i64 bperday10, .list blegn11 bleg12]]) fun r21 =>
 optO (C lb n F_r07_SameFaults [r20, r21]) fun r22 =>
 optO (CV.asB r22) fun b23 =>
 bif b23 then
 (optO (C lb n F_l07_awake []) fun r24 =>
 some (r24))
 else
 (some (.bool false)))) := by kernel_rfl

/-! airline/airlineref07.SameFaults -/
noncomputable def r07_SameFaults_L1 (lb : Bool) (n : Nat) (k28 : Nat) (an1 : Bool) (a2 : List (List CV)) (bn3 : Bool) (b4 : List (List CV)) (i17 : Int) : Option CV :=
  hold (loopC (E0 lb n 0 994) 0 (loopTemps (sub (B F_r07_SameFaults) [1, 1, 0, 1, 0, 0]) ++ []) [] (sub (B F_r07_SameFaults) [1, 1, 0, 1, 0, 0]) (blockK 0 (seqK (E0 lb n 0 997) (sub (B F_r07_SameFaults) [1, 1, 0]) (sub (B F_r07_SameFaults) [1, 1, 1]) (retK Tryz.prog (R F_r07_SameFaults) 0 (outK (tightF Tryz.prog F_r07_SameFaults))))) k28 ⟨fr 26 [(0, .val (.list an1 a2)), (1, .val (.list bn3 b4)), (4, .val (.bool false)), (5, .val (.int .i64 i17))], [bx 26 []], KK⟩)

noncomputable def r07_SameFaults_J2 (lb : Bool) (n : Nat) (an1 : Bool) (a2 : List (List CV)) (bn3 : Bool) (b4 : List (List CV)) (i40 : Int) : Option CV :=
  hold (E0 lb n 0 997 (sub (B F_r07_SameFaults) [1, 1, 1]) (retK Tryz.prog (R F_r07_SameFaults) 0 (outK (tightF Tryz.prog F_r07_SameFaults))) ⟨fr 26 [(0, .val (.list an1 a2)), (1, .val (.list bn3 b4)), (4, .val (.bool false)), (5, .val (.int .i64 i40))], [bx 26 []], KK⟩)

theorem r07_SameFaults_J2_eq (lb : Bool) (n : Nat) (an1 : Bool) (a2 : List (List CV)) (bn3 : Bool) (b4 : List (List CV)) (i40 : Int) :
  r07_SameFaults_J2 lb n an1 a2 bn3 b4 i40 =
 some (.bool true) := (hold_eq _).trans (by kernel_rfl)

theorem r07_SameFaults_L1_succ (lb : Bool) (n k28 : Nat) (an1 : Bool) (a2 : List (List CV)) (bn3 : Bool) (b4 : List (List CV)) (i17 : Int) :
  r07_SameFaults_L1 lb n (k28 + 1) an1 a2 bn3 b4 i17 =
 bif (decide (i17 < (a2.length : Int))) then
 (optO (atL a2 i17) fun c29 =>
 chkO (c29.length == 2) (
 optO (c29[0]?) fun x30 =>
 optO (c29[1]?) fun x31 =>
 optO (atL b4 i17) fun c33 =>
 chkO (c33.length == 2) (
 optO (c33[0]?) fun x34 =>
 optO (c33[1]?) fun x35 =>
 optO (CV.asI .i64 x30) fun i36 =>
 optO (CV.asI .i64 x34) fun i37 =>
 optO (CV.asS x31) fun s38 =>
 optO (CV.asS x35) fun s39 =>
 bif (!((i36 == i37) && ((s38 == s39) && true))) then
 (some (.bool false))
 else
 (r07_SameFaults_L1 lb n k28 an1 a2 bn3 b4 (IntKind.wrap .i64 (i17 + 1))))))
 else
 (r07_SameFaults_J2 lb n an1 a2 bn3 b4 i17) := (hold_eq _).trans (by kernel_rfl)

theorem r07_SameFaults_L1_zero (lb : Bool) (n : Nat) (an1 : Bool) (a2 : List (List CV)) (bn3 : Bool) (b4 : List (List CV)) (i17 : Int) :
  r07_SameFaults_L1 lb n 0 an1 a2 bn3 b4 i17 =
 none := (hold_eq _).trans (by kernel_rfl)

theorem r07_SameFaults_eq (lb : Bool) (n : Nat) (an1 : Bool) (a2 : List (List CV)) (bn3 : Bool) (b4 : List (List CV)) :
  top lb n F_r07_SameFaults [.list an1 a2, .list bn3 b4] =
 bif ((a2.length : Int) != (b4.length : Int)) then
 (some (.bool false))
 else
 (r07_SameFaults_L1 lb n n an1 a2 bn3 b4 0) := by kernel_rfl

/-! airline/flight.Path -/
noncomputable def flight_Path_L1 (lb : Bool) (n : Nat) (k52 : Nat) (aairn1 : Bool) (aair2 : List (List CV)) (adisn3 : Bool) (adis4 : List (List CV)) (bcar5 : List UInt8) (bnum6 : Int) (bperfro7 : Int) (bperto9 : Int) (bperday10 : Int) (blegn11 : Bool) (bleg12 : List (List CV)) (ccar13 : List UInt8) (cnum14 : Int) (cday15 : Int) (cfro17 : List UInt8) (cto18 : List UInt8) (cdep19 : Int) (carr20 : Int) (x23 : CV) (x25 : CV) (r21 : CV) (p27 : Bool × List (List CV)) (i40 : Int) : Option CV :=
  hold (loopC (E1 lb n 1 995) 1 (loopTemps (sub (B F_slices_IndexFunc_api_Dated) [1, 0, 1, 0, 0]) ++ [5]) [] (sub (B F_slices_IndexFunc_api_Dated) [1, 0, 1, 0, 0]) (blockK 0 (seqK (E1 lb n 1 998) (sub (B F_slices_IndexFunc_api_Dated) [1, 0]) (sub (B F_slices_IndexFunc_api_Dated) [1, 1]) (retK Tryz.prog (R F_slices_IndexFunc_api_Dated) 1 (inlK (opAt (opsOf (sub (B F_flight_Path) [1, 1, 1, 1, 0])) 2) ⟨fr 96 [(0, .val (.agg [.list aairn1 aair2, .list adisn3 adis4])), (1, .val (.agg [.str bcar5, .int .i64 bnum6, .int .i64 bperfro7, .int .i64 bperto9, .int .i64 bperday10, .list blegn11 bleg12])), (2, .val (.agg [.str ccar13, .int .i64 cnum14, .int .i64 cday15, .str cfro17, .str cto18, .int .i64 cdep19, .int .i64 carr20])), (3, .ptr 0 3 0), (4, .ptr 0 4 0), (5, .ptr 0 5 0), (6, .lst true true 55 []), (7, .val (.int .i64 0)), (8, .val x23), (9, .val x25), (27, .val r21), (28, .val (.agg [.list aairn1 aair2, .list adisn3 adis4])), (29, .val (.agg [.str bcar5, .int .i64 bnum6, .int .i64 bperfro7, .int .i64 bperto9, .int .i64 bperday10, .list blegn11 bleg12])), (30, .ptr 0 5 2), (31, .val (.int .i64 cday15)), (32, .val r21), (33, .val x23), (34, .val x25), (38, .val x23), (39, .clo F_flight_Path_1 [.ptr 0 5 0])], [bx 96 [(3, some [.val (.list aairn1 aair2), .val (.list adisn3 adis4)]), (4, some [.val (.str bcar5), .val (.int .i64 bnum6), .val (.int .i64 bperfro7), .val (.int .i64 bperto9), .val (.int .i64 bperday10), .val (.list blegn11 bleg12)]), (5, some [.val (.str ccar13), .val (.int .i64 cnum14), .val (.int .i64 cday15), .val (.str cfro17), .val (.str cto18), .val (.int .i64 cdep19), .val (.int .i64 carr20)])]], KK⟩ (opsK Tryz.prog (C lb n) (I9 lb n) 0 (opsOf (sub (B F_flight_Path) [1, 1, 1, 1, 0])) ((opsOf (sub (B F_flight_Path) [1, 1, 1, 1, 0])).drop 3) ((seqK (E0 lb n 0 995) (sub (B F_flight_Path) [1, 1, 1, 1, 0]) (sub (B F_flight_Path) [1, 1, 1, 1, 1]) (retK Tryz.prog (R F_flight_Path) 0 (outK (tightF Tryz.prog F_flight_Path)))) .normal)))))) k52 ⟨fr 19 [(0, .val x23), (1, .clo F_flight_Path_1 [.ptr 0 5 0]), (4, .val (.int .i64 0)), (6, .val x23), (7, .val (.int .i64 (p27.2.length : Int))), (8, .val (.int .i64 i40))], [bx 96 [(3, some [.val (.list aairn1 aair2), .val (.list adisn3 adis4)]), (4, some [.val (.str bcar5), .val (.int .i64 bnum6), .val (.int .i64 bperfro7), .val (.int .i64 bperto9), .val (.int .i64 bperday10), .val (.list blegn11 bleg12)]), (5, some [.val (.str ccar13), .val (.int .i64 cnum14), .val (.int .i64 cday15), .val (.str cfro17), .val (.str cto18), .val (.int .i64 cdep19), .val (.int .i64 carr20)])], bx 19 []], KK⟩)

noncomputable def flight_Path_L2 (lb : Bool) (n : Nat) (k87 : Nat) (aairn1 : Bool) (aair2 : List (List CV)) (adisn3 : Bool) (adis4 : List (List CV)) (bcar5 : List UInt8) (bnum6 : Int) (bperfro7 : Int) (bperto9 : Int) (bperday10 : Int) (blegn11 : Bool) (bleg12 : List (List CV)) (ccar13 : List UInt8) (cnum14 : Int) (cday15 : Int) (cfro17 : List UInt8) (cto18 : List UInt8) (cdep19 : Int) (carr20 : Int) (p65 : Bool × List (List CV)) (i40 : Int) (x25 : CV) (r21 : CV) (x23 : CV) (i76 : Int) : Option CV :=
  hold (loopC (E1 lb n 1 995) 1 (loopTemps (sub (B F_slices_IndexFunc_api_Dated) [1, 0, 1, 0, 0]) ++ [5]) [] (sub (B F_slices_IndexFunc_api_Dated) [1, 0, 1, 0, 0]) (blockK 0 (seqK (E1 lb n 1 998) (sub (B F_slices_IndexFunc_api_Dated) [1, 0]) (sub (B F_slices_IndexFunc_api_Dated) [1, 1]) (retK Tryz.prog (R F_slices_IndexFunc_api_Dated) 1 (inlK (opAt (opsOf (sub (B F_flight_Path) [1, 1, 1, 1, 1, 1, 1, 0])) 2) ⟨fr 96 [(0, .val (.agg [.list aairn1 aair2, .list adisn3 adis4])), (1, .val (.agg [.str bcar5, .int .i64 bnum6, .int .i64 bperfro7, .int .i64 bperto9, .int .i64 bperday10, .list blegn11 bleg12])), (2, .val (.agg [.str ccar13, .int .i64 cnum14, .int .i64 cday15, .str cfro17, .str cto18, .int .i64 cdep19, .int .i64 carr20])), (3, .ptr 0 3 0), (4, .ptr 0 4 0), (5, .ptr 0 5 0), (6, .lst true true 55 []), (7, .val (.int .i64 0)), (8, .val (.list p65.1 ((p65.2.take ((p65.2.length : Int).toNat)).drop i40.toNat))), (9, .val x25), (10, .val (.int .i64 i40)), (27, .val r21), (28, .val (.agg [.list aairn1 aair2, .list adisn3 adis4])), (29, .val (.agg [.str bcar5, .int .i64 bnum6, .int .i64 bperfro7, .int .i64 bperto9, .int .i64 bperday10, .list blegn11 bleg12])), (30, .ptr 0 5 2), (31, .val (.int .i64 cday15)), (32, .val r21), (33, .val x23), (34, .val x25), (38, .val x23), (39, .clo F_flight_Path_1 [.ptr 0 5 0]), (40, .val (.int .i64 i40)), (43, .val x23), (44, .val (.int .i64 i40)), (45, .val (.list p65.1 ((p65.2.take ((p65.2.length : Int).toNat)).drop i40.toNat))), (46, .val (.list p65.1 ((p65.2.take ((p65.2.length : Int).toNat)).drop i40.toNat))), (47, .clo F_flight_Path_2 [.ptr 0 5 0])], [bx 96 [(3, some [.val (.list aairn1 aair2), .val (.list adisn3 adis4)]), (4, some [.val (.str bcar5), .val (.int .i64 bnum6), .val (.int .i64 bperfro7), .val (.int .i64 bperto9), .val (.int .i64 bperday10), .val (.list blegn11 bleg12)]), (5, some [.val (.str ccar13), .val (.int .i64 cnum14), .val (.int .i64 cday15), .val (.str cfro17), .val (.str cto18), .val (.int .i64 cdep19), .val (.int .i64 carr20)])]], KK⟩ (opsK Tryz.prog (C lb n) (I9 lb n) 0 (opsOf (sub (B F_flight_Path) [1, 1, 1, 1, 1, 1, 1, 0])) ((opsOf (sub (B F_flight_Path) [1, 1, 1, 1, 1, 1, 1, 0])).drop 3) ((seqK (E0 lb n 0 992) (sub (B F_flight_Path) [1, 1, 1, 1, 1, 1, 1, 0]) (sub (B F_flight_Path) [1, 1, 1, 1, 1, 1, 1, 1]) (retK Tryz.prog (R F_flight_Path) 0 (outK (tightF Tryz.prog F_flight_Path)))) .normal)))))) k87 ⟨fr 19 [(0, .val (.list p65.1 ((p65.2.take ((p65.2.length : Int).toNat)).drop i40.toNat))), (1, .clo F_flight_Path_2 [.ptr 0 5 0]), (4, .val (.int .i64 0)), (6, .val (.list p65.1 ((p65.2.take ((p65.2.length : Int).toNat)).drop i40.toNat))), (7, .val (.int .i64 (((p65.2.take ((p65.2.length : Int).toNat)).drop i40.toNat).length : Int))), (8, .val (.int .i64 i76))], [bx 96 [(3, some [.val (.list aairn1 aair2), .val (.list adisn3 adis4)]), (4, some [.val (.str bcar5), .val (.int .i64 bnum6), .val (.int .i64 bperfro7), .val (.int .i64 bperto9), .val (.int .i64 bperday10), .val (.list blegn11 bleg12)]), (5, some [.val (.str ccar13), .val (.int .i64 cnum14), .val (.int .i64 cday15), .val (.str cfro17), .val (.str cto18), .val (.int .i64 cdep19), .val (.int .i64 carr20)])], bx 19 []], KK⟩)

noncomputable def flight_Path_L3 (lb : Bool) (n : Nat) (k124 : Nat) (aairn1 : Bool) (aair2 : List (List CV)) (adisn3 : Bool) (adis4 : List (List CV)) (bcar5 : List UInt8) (bnum6 : Int) (bperfro7 : Int) (bperto9 : Int) (bperday10 : Int) (blegn11 : Bool) (bleg12 : List (List CV)) (ccar13 : List UInt8) (cnum14 : Int) (cday15 : Int) (cfro17 : List UInt8) (cto18 : List UInt8) (cdep19 : Int) (carr20 : Int) (p65 : Bool × List (List CV)) (i40 : Int) (x25 : CV) (i76 : Int) (r21 : CV) (x23 : CV) (i103 : Int) (l113 : List (List CV)) (i114 : Int) : Option CV :=
  hold (loopC (E0 lb n 0 986) 0 (loopTemps (sub (B F_flight_Path) [1, 1, 1, 1, 1, 1, 1, 1, 1, 1, 0, 1, 0, 0]) ++ []) [14] (sub (B F_flight_Path) [1, 1, 1, 1, 1, 1, 1, 1, 1, 1, 0, 1, 0, 0]) (blockK 1 (seqK (E0 lb n 0 989) (sub (B F_flight_Path) [1, 1, 1, 1, 1, 1, 1, 1, 1, 1, 0]) (sub (B F_flight_Path) [1, 1, 1, 1, 1, 1, 1, 1, 1, 1, 1]) (retK Tryz.prog (R F_flight_Path) 0 (outK (tightF Tryz.prog F_flight_Path))))) k124 ⟨fr 96 [(0, .val (.agg [.list aairn1 aair2, .list adisn3 adis4])), (1, .val (.agg [.str bcar5, .int .i64 bnum6, .int .i64 bperfro7, .int .i64 bperto9, .int .i64 bperday10, .list blegn11 bleg12])), (2, .val (.agg [.str ccar13, .int .i64 cnum14, .int .i64 cday15, .str cfro17, .str cto18, .int .i64 cdep19, .int .i64 carr20])), (3, .ptr 0 3 0), (4, .ptr 0 4 0), (5, .ptr 0 5 0), (6, .lst true true 55 []), (7, .val (.int .i64 0)), (8, .val (.list p65.1 ((p65.2.take ((p65.2.length : Int).toNat)).drop i40.toNat))), (9, .val x25), (10, .val (.int .i64 i40)), (11, .val (.int .i64 i76)), (12, .lst true false 55 l113), (27, .val r21), (28, .val (.agg [.list aairn1 aair2, .list adisn3 adis4])), (29, .val (.agg [.str bcar5, .int .i64 bnum6, .int .i64 bperfro7, .int .i64 bperto9, .int .i64 bperday10, .list blegn11 bleg12])), (30, .ptr 0 5 2), (31, .val (.int .i64 cday15)), (32, .val r21), (33, .val x23), (34, .val x25), (38, .val x23), (39, .clo F_flight_Path_1 [.ptr 0 5 0]), (40, .val (.int .i64 i40)), (43, .val x23), (44, .val (.int .i64 i40)), (45, .val (.list p65.1 ((p65.2.take ((p65.2.length : Int).toNat)).drop i40.toNat))), (46, .val (.list p65.1 ((p65.2.take ((p65.2.length : Int).toNat)).drop i40.toNat))), (47, .clo F_flight_Path_2 [.ptr 0 5 0]), (48, .val (.int .i64 i76)), (49, .val (.bool (decide (i76 < 0)))), (52, .val (.bool (i103 != carr20))), (70, .val (.int .i64 i76)), (71, .val (.int .i64 (IntKind.wrap .i64 (i76 + 1)))), (72, .val (.list false [])), (73, .val (.list p65.1 ((p65.2.take ((p65.2.length : Int).toNat)).drop i40.toNat))), (74, .val (.int .i64 i76)), (75, .val (.int .i64 (IntKind.wrap .i64 (i76 + 1)))), (76, .val (.list p65.1 ((((p65.2.take ((p65.2.length : Int).toNat)).drop i40.toNat).take ((IntKind.wrap .i64 (i76 + 1)).toNat)).drop 0))), (77, .val (.int .i64 (((((p65.2.take ((p65.2.length : Int).toNat)).drop i40.toNat).take ((IntKind.wrap .i64 (i76 + 1)).toNat)).drop 0).length : Int))), (78, .val (.int .i64 i114))], [bx 96 [(3, some [.val (.list aairn1 aair2), .val (.list adisn3 adis4)]), (4, some [.val (.str bcar5), .val (.int .i64 bnum6), .val (.int .i64 bperfro7), .val (.int .i64 bperto9), .val (.int .i64 bperday10), .val (.list blegn11 bleg12)]), (5, some [.val (.str ccar13), .val (.int .i64 cnum14), .val (.int .i64 cday15), .val (.str cfro17), .val (.str cto18), .val (.int .i64 cdep19), .val (.int .i64 carr20)])]], KK⟩)

noncomputable def flight_Path_J4 (lb : Bool) (n : Nat) (aairn1 : Bool) (aair2 : List (List CV)) (adisn3 : Bool) (adis4 : List (List CV)) (bcar5 : List UInt8) (bnum6 : Int) (bperfro7 : Int) (bperto9 : Int) (bperday10 : Int) (blegn11 : Bool) (bleg12 : List (List CV)) (ccar13 : List UInt8) (cnum14 : Int) (cday15 : Int) (cfro17 : List UInt8) (cto18 : List UInt8) (cdep19 : Int) (carr20 : Int) (p65 : Bool × List (List CV)) (i40 : Int) (x25 : CV) (i76 : Int) (r21 : CV) (x23 : CV) (i103 : Int) (b134 : Bool) (l135 : List (List CV)) : Option CV :=
  hold (E0 lb n 0 989 (sub (B F_flight_Path) [1, 1, 1, 1, 1, 1, 1, 1, 1, 1, 1]) (retK Tryz.prog (R F_flight_Path) 0 (outK (tightF Tryz.prog F_flight_Path))) ⟨fr 96 [(0, .val (.agg [.list aairn1 aair2, .list adisn3 adis4])), (1, .val (.agg [.str bcar5, .int .i64 bnum6, .int .i64 bperfro7, .int .i64 bperto9, .int .i64 bperday10, .list blegn11 bleg12])), (2, .val (.agg [.str ccar13, .int .i64 cnum14, .int .i64 cday15, .str cfro17, .str cto18, .int .i64 cdep19, .int .i64 carr20])), (3, .ptr 0 3 0), (4, .ptr 0 4 0), (5, .ptr 0 5 0), (6, .lst true true 55 []), (7, .val (.int .i64 0)), (8, .val (.list p65.1 ((p65.2.take ((p65.2.length : Int).toNat)).drop i40.toNat))), (9, .val x25), (10, .val (.int .i64 i40)), (11, .val (.int .i64 i76)), (12, .lst true b134 55 l135), (27, .val r21), (28, .val (.agg [.list aairn1 aair2, .list adisn3 adis4])), (29, .val (.agg [.str bcar5, .int .i64 bnum6, .int .i64 bperfro7, .int .i64 bperto9, .int .i64 bperday10, .list blegn11 bleg12])), (30, .ptr 0 5 2), (31, .val (.int .i64 cday15)), (32, .val r21), (33, .val x23), (34, .val x25), (38, .val x23), (39, .clo F_flight_Path_1 [.ptr 0 5 0]), (40, .val (.int .i64 i40)), (43, .val x23), (44, .val (.int .i64 i40)), (45, .val (.list p65.1 ((p65.2.take ((p65.2.length : Int).toNat)).drop i40.toNat))), (46, .val (.list p65.1 ((p65.2.take ((p65.2.length : Int).toNat)).drop i40.toNat))), (47, .clo F_flight_Path_2 [.ptr 0 5 0]), (48, .val (.int .i64 i76)), (49, .val (.bool (decide (i76 < 0)))), (52, .val (.bool (i103 != carr20))), (70, .val (.int .i64 i76)), (71, .val (.int .i64 (IntKind.wrap .i64 (i76 + 1)))), (72, .val (.list false []))], [bx 96 [(3, some [.val (.list aairn1 aair2), .val (.list adisn3 adis4)]), (4, some [.val (.str bcar5), .val (.int .i64 bnum6), .val (.int .i64 bperfro7), .val (.int .i64 bperto9), .val (.int .i64 bperday10), .val (.list blegn11 bleg12)]), (5, some [.val (.str ccar13), .val (.int .i64 cnum14), .val (.int .i64 cday15), .val (.str cfro17), .val (.str cto18), .val (.int .i64 cdep19), .val (.int .i64 carr20)])]], KK⟩)

theorem flight_Path_J4_eq (lb : Bool) (n : Nat) (aairn1 : Bool) (aair2 : List (List CV)) (adisn3 : Bool) (adis4 : List (List CV)) (bcar5 : List UInt8) (bnum6 : Int) (bperfro7 : Int) (bperto9 : Int) (bperday10 : Int) (blegn11 : Bool) (bleg12 : List (List CV)) (ccar13 : List UInt8) (cnum14 : Int) (cday15 : Int) (cfro17 : List UInt8) (cto18 : List UInt8) (cdep19 : Int) (carr20 : Int) (p65 : Bool × List (List CV)) (i40 : Int) (x25 : CV) (i76 : Int) (r21 : CV) (x23 : CV) (i103 : Int) (b134 : Bool) (l135 : List (List CV)) :
  flight_Path_J4 lb n aairn1 aair2 adisn3 adis4 bcar5 bnum6 bperfro7 bperto9 bperday10 blegn11 bleg12 ccar13 cnum14 cday15 cfro17 cto18 cdep19 carr20 p65 i40 x25 i76 r21 x23 i103 b134 l135 =
 some (.tup [.list b134 l135, .int .i64 0]) := (hold_eq _).trans (by kernel_rfl)

theorem flight_Path_L3_succ (lb : Bool) (n k124 : Nat) (aairn1 : Bool) (aair2 : List (List CV)) (adisn3 : Bool) (adis4 : List (List CV)) (bcar5 : List UInt8) (bnum6 : Int) (bperfro7 : Int) (bperto9 : Int) (bperday10 : Int) (blegn11 : Bool) (bleg12 : List (List CV)) (ccar13 : List UInt8) (cnum14 : Int) (cday15 : Int) (cfro17 : List UInt8) (cto18 : List UInt8) (cdep19 : Int) (carr20 : Int) (p65 : Bool × List (List CV)) (i40 : Int) (x25 : CV) (i76 : Int) (r21 : CV) (x23 : CV) (i103 : Int) (l113 : List (List CV)) (i114 : Int) :
  flight_Path_L3 lb n (k124 + 1) aairn1 aair2 adisn3 adis4 bcar5 bnum6 bperfro7 bperto9 bperday10 blegn11 bleg12 ccar13 cnum14 cday15 cfro17 cto18 cdep19 carr20 p65 i40 x25 i76 r21 x23 i103 l113 i114 =
 bif (decide (i114 < (((((p65.2.take ((p65.2.length : Int).toNat)).drop i40.toNat).take ((IntKind.wrap .i64 (i76 + 1)).toNat)).drop 0).length : Int))) then
 (optO (atL ((((p65.2.take ((p65.2.length : Int).toNat)).drop i40.toNat).take ((IntKind.wrap .i64 (i76 + 1)).toNat)).drop 0) i114) fun c125 =>
 chkO (c125.length == 8) (
 optO (c125[0]?) fun x126 =>
 optO (c125[1]?) fun x127 =>
 optO (c125[2]?) fun x128 =>
 optO (c125[3]?) fun x129 =>
 optO (c125[4]?) fun x130 =>
 optO (c125[5]?) fun x131 =>
 optO (c125[6]?) fun x132 =>
 optO (c125[7]?) fun x133 =>
 chkO (CV.isCell x129) (
 chkO (room (l113.length + 1) 48) (
 flight_Path_L3 lb n k124 aairn1 aair2 adisn3 adis4 bcar5 bnum6 bperfro7 bperto9 bperday10 blegn11 bleg12 ccar13 cnum14 cday15 cfro17 cto18 cdep19 carr20 p65 i40 x25 i76 r21 x23 i103 (l113 ++ [[CV.str bcar5, CV.int .i64 bnum6, CV.int .i64 cday15, x129]]) (IntKind.wrap .i64 (i114 + 1))))))
 else
 (flight_Path_J4 lb n aairn1 aair2 adisn3 adis4 bcar5 bnum6 bperfro7 bperto9 bperday10 blegn11 bleg12 ccar13 cnum14 cday15 cfro17 cto18 cdep19 carr20 p65 i40 x25 i76 r21 x23 i103 false l113) := (hold_eq _).trans (by kernel_rfl)

theorem flight_Path_L3_zero (lb : Bool) (n : Nat) (aairn1 : Bool) (aair2 : List (List CV)) (adisn3 : Bool) (adis4 : List (List CV)) (bcar5 : List UInt8) (bnum6 : Int) (bperfro7 : Int) (bperto9 : Int) (bperday10 : Int) (blegn11 : Bool) (bleg12 : List (List CV)) (ccar13 : List UInt8) (cnum14 : Int) (cday15 : Int) (cfro17 : List UInt8) (cto18 : List UInt8) (cdep19 : Int) (carr20 : Int) (p65 : Bool × List (List CV)) (i40 : Int) (x25 : CV) (i76 : Int) (r21 : CV) (x23 : CV) (i103 : Int) (l113 : List (List CV)) (i114 : Int) :
  flight_Path_L3 lb n 0 aairn1 aair2 adisn3 adis4 bcar5 bnum6 bperfro7 bperto9 bperday10 blegn11 bleg12 ccar13 cnum14 cday15 cfro17 cto18 cdep19 carr20 p65 i40 x25 i76 r21 x23 i103 l113 i114 =
 none := (hold_eq _).trans (by kernel_rfl)

noncomputable def flight_Path_J5 (lb : Bool) (n : Nat) (aairn1 : Bool) (aair2 : List (List CV)) (adisn3 : Bool) (adis4 : List (List CV)) (bcar5 : List UInt8) (bnum6 : Int) (bperfro7 : Int) (bperto9 : Int) (bperday10 : Int) (blegn11 : Bool) (bleg12 : List (List CV)) (ccar13 : List UInt8) (cnum14 : Int) (cday15 : Int) (cfro17 : List UInt8) (cto18 : List UInt8) (cdep19 : Int) (carr20 : Int) (p65 : Bool × List (List CV)) (i40 : Int) (x25 : CV) (r21 : CV) (x23 : CV) : Option CV :=
  hold (E1 lb n 1 998 (sub (B F_slices_IndexFunc_api_Dated) [1, 1]) (retK Tryz.prog (R F_slices_IndexFunc_api_Dated) 1 (inlK (opAt (opsOf (sub (B F_flight_Path) [1, 1, 1, 1, 1, 1, 1, 0])) 2) ⟨fr 96 [(0, .val (.agg [.list aairn1 aair2, .list adisn3 adis4])), (1, .val (.agg [.str bcar5, .int .i64 bnum6, .int .i64 bperfro7, .int .i64 bperto9, .int .i64 bperday10, .list blegn11 bleg12])), (2, .val (.agg [.str ccar13, .int .i64 cnum14, .int .i64 cday15, .str cfro17, .str cto18, .int .i64 cdep19, .int .i64 carr20])), (3, .ptr 0 3 0), (4, .ptr 0 4 0), (5, .ptr 0 5 0), (6, .lst true true 55 []), (7, .val (.int .i64 0)), (8, .val (.list p65.1 ((p65.2.take ((p65.2.length : Int).toNat)).drop i40.toNat))), (9, .val x25), (10, .val (.int .i64 i40)), (27, .val r21), (28, .val (.agg [.list aairn1 aair2, .list adisn3 adis4])), (29, .val (.agg [.str bcar5, .int .i64 bnum6, .int .i64 bperfro7, .int .i64 bperto9, .int .i64 bperday10, .list blegn11 bleg12])), (30, .ptr 0 5 2), (31, .val (.int .i64 cday15)), (32, .val r21), (33, .val x23), (34, .val x25), (38, .val x23), (39, .clo F_flight_Path_1 [.ptr 0 5 0]), (40, .val (.int .i64 i40)), (43, .val x23), (44, .val (.int .i64 i40)), (45, .val (.list p65.1 ((p65.2.take ((p65.2.length : Int).toNat)).drop i40.toNat))), (46, .val (.list p65.1 ((p65.2.take ((p65.2.length : Int).toNat)).drop i40.toNat))), (47, .clo F_flight_Path_2 [.ptr 0 5 0])], [bx 96 [(3, some [.val (.list aairn1 aair2), .val (.list adisn3 adis4)]), (4, some [.val (.str bcar5), .val (.int .i64 bnum6), .val (.int .i64 bperfro7), .val (.int .i64 bperto9), .val (.int .i64 bperday10), .val (.list blegn11 bleg12)]), (5, some [.val (.str ccar13), .val (.int .i64 cnum14), .val (.int .i64 cday15), .val (.str cfro17), .val (.str cto18), .val (.int .i64 cdep19), .val (.int .i64 carr20)])]], KK⟩ (opsK Tryz.prog (C lb n) (I9 lb n) 0 (opsOf (sub (B F_flight_Path) [1, 1, 1, 1, 1, 1, 1, 0])) ((opsOf (sub (B F_flight_Path) [1, 1, 1, 1, 1, 1, 1, 0])).drop 3) ((seqK (E0 lb n 0 992) (sub (B F_flight_Path) [1, 1, 1, 1, 1, 1, 1, 0]) (sub (B F_flight_Path) [1, 1, 1, 1, 1, 1, 1, 1]) (retK Tryz.prog (R F_flight_Path) 0 (outK (tightF Tryz.prog F_flight_Path)))) .normal)))) ⟨fr 19 [(0, .val (.list p65.1 ((p65.2.take ((p65.2.length : Int).toNat)).drop i40.toNat))), (1, .clo F_flight_Path_2 [.ptr 0 5 0]), (4, .val (.int .i64 0))], [bx 96 [(3, some [.val (.list aairn1 aair2), .val (.list adisn3 adis4)]), (4, some [.val (.str bcar5), .val (.int .i64 bnum6), .val (.int .i64 bperfro7), .val (.int .i64 bperto9), .val (.int .i64 bperday10), .val (.list blegn11 bleg12)]), (5, some [.val (.str ccar13), .val (.int .i64 cnum14), .val (.int .i64 cday15), .val (.str cfro17), .val (.str cto18), .val (.int .i64 cdep19), .val (.int .i64 carr20)])], bx 19 []], KK⟩)

theorem flight_Path_J5_eq (lb : Bool) (n : Nat) (aairn1 : Bool) (aair2 : List (List CV)) (adisn3 : Bool) (adis4 : List (List CV)) (bcar5 : List UInt8) (bnum6 : Int) (bperfro7 : Int) (bperto9 : Int) (bperday10 : Int) (blegn11 : Bool) (bleg12 : List (List CV)) (ccar13 : List UInt8) (cnum14 : Int) (cday15 : Int) (cfro17 : List UInt8) (cto18 : List UInt8) (cdep19 : Int) (carr20 : Int) (p65 : Bool × List (List CV)) (i40 : Int) (x25 : CV) (r21 : CV) (x23 : CV) :
  flight_Path_J5 lb n aairn1 aair2 adisn3 adis4 bcar5 bnum6 bperfro7 bperto9 bperday10 blegn11 bleg12 ccar13 cnum14 cday15 cfro17 cto18 cdep19 carr20 p65 i40 x25 r21 x23 =
 some (.tup [.list true [], .int .i64 14]) := (hold_eq _).trans (by kernel_rfl)

theorem flight_Path_L2_succ (lb : Bool) (n k87 : Nat) (aairn1 : Bool) (aair2 : List (List CV)) (adisn3 : Bool) (adis4 : List (List CV)) (bcar5 : List UInt8) (bnum6 : Int) (bperfro7 : Int) (bperto9 : Int) (bperday10 : Int) (blegn11 : Bool) (bleg12 : List (List CV)) (ccar13 : List UInt8) (cnum14 : Int) (cday15 : Int) (cfro17 : List UInt8) (cto18 : List UInt8) (cdep19 : Int) (carr20 : Int) (p65 : Bool × List (List CV)) (i40 : Int) (x25 : CV) (r21 : CV) (x23 : CV) (i76 : Int) :
  flight_Path_L2 lb n (k87 + 1) aairn1 aair2 adisn3 adis4 bcar5 bnum6 bperfro7 bperto9 bperday10 blegn11 bleg12 ccar13 cnum14 cday15 cfro17 cto18 cdep19 carr20 p65 i40 x25 r21 x23 i76 =
 bif (decide (i76 < (((p65.2.take ((p65.2.length : Int).toNat)).drop i40.toNat).length : Int))) then
 (optO (atL ((p65.2.take ((p65.2.length : Int).toNat)).drop i40.toNat) i76) fun c88 =>
 chkO (c88.length == 8) (
 optO (c88[0]?) fun x89 =>
 optO (c88[1]?) fun x90 =>
 optO (c88[2]?) fun x91 =>
 optO (c88[3]?) fun x92 =>
 optO (c88[4]?) fun x93 =>
 optO (c88[5]?) fun x94 =>
 optO (c88[6]?) fun x95 =>
 optO (c88[7]?) fun x96 =>
 optO (CV.asS x93) fun s97 =>
 bif (s97 == cto18) then
 (bif (decide (i76 < 0)) then
 (some (.tup [.list true [], .int .i64 14]))
 else
 (optO (atL ((p65.2.take ((p65.2.length : Int).toNat)).drop i40.toNat) 0) fun c98 =>
 chkO (c98.length == 8) (
 optO (c98[5]?) fun x99 =>
 optO (CV.asI .i64 x99) fun i100 =>
 bif (i100 != cdep19) then
 (some (.tup [.list true [], .int .i64 13]))
 else
 (optO (atL ((p65.2.take ((p65.2.length : Int).toNat)).drop i40.toNat) i76) fun c101 =>
 chkO (c101.length == 8) (
 optO (c101[6]?) fun x102 =>
 optO (CV.asI .i64 x102) fun i103 =>
 bif (i103 != carr20) then
 (some (.tup [.list true [], .int .i64 13]))
 else
 (chkO (decide (0 ≤ (0 : Int)) && decide ((0 : Int) ≤ ((IntKind.wrap .i64 (i76 + 1)) : Int)) && decide (((IntKind.wrap .i64 (i76 + 1)) : Int) * 48 ≤ 140737488355328) && decide (((IntKind.wrap .i64 (i76 + 1)) : Int) ≤ 140737488355328)) (
 chkO (((p65.2.take ((p65.2.length : Int).toNat)).drop i40.toNat).all (·.length == 8)) (
 chkO (decide ((0 : Int) ≤ (IntKind.wrap .i64 (i76 + 1)) ∧ (IntKind.wrap .i64 (i76 + 1)) ≤ (((p65.2.take ((p65.2.length : Int).toNat)).drop i40.toNat).length : Int))) (
 flight_Path_L3 lb n n aairn1 aair2 adisn3 adis4 bcar5 bnum6 bperfro7 bperto9 bperday10 blegn11 bleg12 ccar13 cnum14 cday15 cfro17 cto18 cdep19 carr20 p65 i40 x25 i76 r21 x23 i103 [] 0)))))))))
 else
 (flight_Path_L2 lb n k87 aairn1 aair2 adisn3 adis4 bcar5 bnum6 bperfro7 bperto9 bperday10 blegn11 bleg12 ccar13 cnum14 cday15 cfro17 cto18 cdep19 carr20 p65 i40 x25 r21 x23 (IntKind.wrap .i64 (i76 + 1)))))
 else
 (flight_Path_J5 lb n aairn1 aair2 adisn3 adis4 bcar5 bnum6 bperfro7 bperto9 bperday10 blegn11 bleg12 ccar13 cnum14 cday15 cfro17 cto18 cdep19 carr20 p65 i40 x25 r21 x23 ) := (hold_eq _).trans (by kernel_rfl)

theorem flight_Path_L2_zero (lb : Bool) (n : Nat) (aairn1 : Bool) (aair2 : List (List CV)) (adisn3 : Bool) (adis4 : List (List CV)) (bcar5 : List UInt8) (bnum6 : Int) (bperfro7 : Int) (bperto9 : Int) (bperday10 : Int) (blegn11 : Bool) (bleg12 : List (List CV)) (ccar13 : List UInt8) (cnum14 : Int) (cday15 : Int) (cfro17 : List UInt8) (cto18 : List UInt8) (cdep19 : Int) (carr20 : Int) (p65 : Bool × List (List CV)) (i40 : Int) (x25 : CV) (r21 : CV) (x23 : CV) (i76 : Int) :
  flight_Path_L2 lb n 0 aairn1 aair2 adisn3 adis4 bcar5 bnum6 bperfro7 bperto9 bperday10 blegn11 bleg12 ccar13 cnum14 cday15 cfro17 cto18 cdep19 carr20 p65 i40 x25 r21 x23 i76 =
 none := (hold_eq _).trans (by kernel_rfl)

noncomputable def flight_Path_J6 (lb : Bool) (n : Nat) (aairn1 : Bool) (aair2 : List (List CV)) (adisn3 : Bool) (adis4 : List (List CV)) (bcar5 : List UInt8) (bnum6 : Int) (bperfro7 : Int) (bperto9 : Int) (bperday10 : Int) (blegn11 : Bool) (bleg12 : List (List CV)) (ccar13 : List UInt8) (cnum14 : Int) (cday15 : Int) (cfro17 : List UInt8) (cto18 : List UInt8) (cdep19 : Int) (carr20 : Int) (x23 : CV) (x25 : CV) (r21 : CV) : Option CV :=
  hold (E1 lb n 1 998 (sub (B F_slices_IndexFunc_api_Dated) [1, 1]) (retK Tryz.prog (R F_slices_IndexFunc_api_Dated) 1 (inlK (opAt (opsOf (sub (B F_flight_Path) [1, 1, 1, 1, 0])) 2) ⟨fr 96 [(0, .val (.agg [.list aairn1 aair2, .list adisn3 adis4])), (1, .val (.agg [.str bcar5, .int .i64 bnum6, .int .i64 bperfro7, .int .i64 bperto9, .int .i64 bperday10, .list blegn11 bleg12])), (2, .val (.agg [.str ccar13, .int .i64 cnum14, .int .i64 cday15, .str cfro17, .str cto18, .int .i64 cdep19, .int .i64 carr20])), (3, .ptr 0 3 0), (4, .ptr 0 4 0), (5, .ptr 0 5 0), (6, .lst true true 55 []), (7, .val (.int .i64 0)), (8, .val x23), (9, .val x25), (27, .val r21), (28, .val (.agg [.list aairn1 aair2, .list adisn3 adis4])), (29, .val (.agg [.str bcar5, .int .i64 bnum6, .int .i64 bperfro7, .int .i64 bperto9, .int .i64 bperday10, .list blegn11 bleg12])), (30, .ptr 0 5 2), (31, .val (.int .i64 cday15)), (32, .val r21), (33, .val x23), (34, .val x25), (38, .val x23), (39, .clo F_flight_Path_1 [.ptr 0 5 0])], [bx 96 [(3, some [.val (.list aairn1 aair2), .val (.list adisn3 adis4)]), (4, some [.val (.str bcar5), .val (.int .i64 bnum6), .val (.int .i64 bperfro7), .val (.int .i64 bperto9), .val (.int .i64 bperday10), .val (.list blegn11 bleg12)]), (5, some [.val (.str ccar13), .val (.int .i64 cnum14), .val (.int .i64 cday15), .val (.str cfro17), .val (.str cto18), .val (.int .i64 cdep19), .val (.int .i64 carr20)])]], KK⟩ (opsK Tryz.prog (C lb n) (I9 lb n) 0 (opsOf (sub (B F_flight_Path) [1, 1, 1, 1, 0])) ((opsOf (sub (B F_flight_Path) [1, 1, 1, 1, 0])).drop 3) ((seqK (E0 lb n 0 995) (sub (B F_flight_Path) [1, 1, 1, 1, 0]) (sub (B F_flight_Path) [1, 1, 1, 1, 1]) (retK Tryz.prog (R F_flight_Path) 0 (outK (tightF Tryz.prog F_flight_Path)))) .normal)))) ⟨fr 19 [(0, .val x23), (1, .clo F_flight_Path_1 [.ptr 0 5 0]), (4, .val (.int .i64 0))], [bx 96 [(3, some [.val (.list aairn1 aair2), .val (.list adisn3 adis4)]), (4, some [.val (.str bcar5), .val (.int .i64 bnum6), .val (.int .i64 bperfro7), .val (.int .i64 bperto9), .val (.int .i64 bperday10), .val (.list blegn11 bleg12)]), (5, some [.val (.str ccar13), .val (.int .i64 cnum14), .val (.int .i64 cday15), .val (.str cfro17), .val (.str cto18), .val (.int .i64 cdep19), .val (.int .i64 carr20)])], bx 19 []], KK⟩)

theorem flight_Path_J6_eq (lb : Bool) (n : Nat) (aairn1 : Bool) (aair2 : List (List CV)) (adisn3 : Bool) (adis4 : List (List CV)) (bcar5 : List UInt8) (bnum6 : Int) (bperfro7 : Int) (bperto9 : Int) (bperday10 : Int) (blegn11 : Bool) (bleg12 : List (List CV)) (ccar13 : List UInt8) (cnum14 : Int) (cday15 : Int) (cfro17 : List UInt8) (cto18 : List UInt8) (cdep19 : Int) (carr20 : Int) (x23 : CV) (x25 : CV) (r21 : CV) :
  flight_Path_J6 lb n aairn1 aair2 adisn3 adis4 bcar5 bnum6 bperfro7 bperto9 bperday10 blegn11 bleg12 ccar13 cnum14 cday15 cfro17 cto18 cdep19 carr20 x23 x25 r21 =
 some (.tup [.list true [], .int .i64 14]) := (hold_eq _).trans (by kernel_rfl)

theorem flight_Path_L1_succ (lb : Bool) (n k52 : Nat) (aairn1 : Bool) (aair2 : List (List CV)) (adisn3 : Bool) (adis4 : List (List CV)) (bcar5 : List UInt8) (bnum6 : Int) (bperfro7 : Int) (bperto9 : Int) (bperday10 : Int) (blegn11 : Bool) (bleg12 : List (List CV)) (ccar13 : List UInt8) (cnum14 : Int) (cday15 : Int) (cfro17 : List UInt8) (cto18 : List UInt8) (cdep19 : Int) (carr20 : Int) (x23 : CV) (x25 : CV) (r21 : CV) (p27 : Bool × List (List CV)) (i40 : Int) :
  flight_Path_L1 lb n (k52 + 1) aairn1 aair2 adisn3 adis4 bcar5 bnum6 bperfro7 bperto9 bperday10 blegn11 bleg12 ccar13 cnum14 cday15 cfro17 cto18 cdep19 carr20 x23 x25 r21 p27 i40 =
 bif (decide (i40 < (p27.2.length : Int))) then
 (optO (CV.asL x23) fun p53 =>
 optO (atL p53.2 i40) fun c54 =>
 chkO (c54.length == 8) (
 optO (c54[0]?) fun x55 =>
 optO (c54[1]?) fun x56 =>
 optO (c54[2]?) fun x57 =>
 optO (c54[3]?) fun x58 =>
 optO (c54[4]?) fun x59 =>
 optO (c54[5]?) fun x60 =>
 optO (c54[6]?) fun x61 =>
 optO (c54[7]?) fun x62 =>
 optO (CV.asS x58) fun s63 =>
 bif (s63 == cfro17) then
 (bif (decide (i40 < 0)) then
 (some (.tup [.list true [], .int .i64 14]))
 else
 (optO (CV.asL x23) fun p65 =>
 chkO (p65.2.all (·.length == 8)) (
 chkO (decide ((0 : Int) ≤ i40 ∧ i40 ≤ (p65.2.length : Int))) (
 flight_Path_L2 lb n n aairn1 aair2 adisn3 adis4 bcar5 bnum6 bperfro7 bperto9 bperday10 blegn11 bleg12 ccar13 cnum14 cday15 cfro17 cto18 cdep19 carr20 p65 i40 x25 r21 x23 0))))
 else
 (flight_Path_L1 lb n k52 aairn1 aair2 adisn3 adis4 bcar5 bnum6 bperfro7 bperto9 bperday10 blegn11 bleg12 ccar13 cnum14 cday15 cfro17 cto18 cdep19 carr20 x23 x25 r21 p27 (IntKind.wrap .i64 (i40 + 1)))))
 else
 (flight_Path_J6 lb n aairn1 aair2 adisn3 adis4 bcar5 bnum6 bperfro7 bperto9 bperday10 blegn11 bleg12 ccar13 cnum14 cday15 cfro17 cto18 cdep19 carr20 x23 x25 r21 ) := (hold_eq _).trans (by kernel_rfl)

theorem flight_Path_L1_zero (lb : Bool) (n : Nat) (aairn1 : Bool) (aair2 : List (List CV)) (adisn3 : Bool) (adis4 : List (List CV)) (bcar5 : List UInt8) (bnum6 : Int) (bperfro7 : Int) (bperto9 : Int) (bperday10 : Int) (blegn11 : Bool) (bleg12 : List (List CV)) (ccar13 : List UInt8) (cnum14 : Int) (cday15 : Int) (cfro17 : List UInt8) (cto18 : List UInt8) (cdep19 : Int) (carr20 : Int) (x23 : CV) (x25 : CV) (r21 : CV) (p27 : Bool × List (List CV)) (i40 : Int) :
  flight_Path_L1 lb n 0 aairn1 aair2 adisn3 adis4 bcar5 bnum6 bperfro7 bperto9 bperday10 blegn11 bleg12 ccar13 cnum14 cday15 cfro17 cto18 cdep19 carr20 x23 x25 r21 p27 i40 =
 none := (hold_eq _).trans (by kernel_rfl)

theorem flight_Path_eq (lb : Bool) (n : Nat) (aairn1 : Bool) (aair2 : List (List CV)) (adisn3 : Bool) (adis4 : List (List CV)) (bcar5 : List UInt8) (bnum6 : Int) (bperfro7 : Int) (bperto9 : Int) (bperday10 : Int) (blegn11 : Bool) (bleg12 : List (List CV)) (ccar13 : List UInt8) (cnum14 : Int) (cday15 : Int) (cfro17 : List UInt8) (cto18 : List UInt8) (cdep19 : Int) (carr20 : Int) :
  top lb n F_flight_Path [.agg [.list aairn1 aair2, .list adisn3 adis4], .agg [.str bcar5, .int .i64 bnum6, .int .i64 bperfro7, .int .i64 bperto9, .int .i64 bperday10, .list blegn11 bleg12], .agg [.str ccar13, .int .i64 cnum14, .int .i64 cday15, .str cfro17, .str cto18, .int .i64 cdep19, .int .i64 carr20]] =
 bif (!(ccar13 == bcar5)) then
 (some (.tup [.list true [], .int .i64 7]))
 else
 (bif (cnum14 != bnum6) then
 (some (.tup [.list true [], .int .i64 7]))
 else
 (optO (C lb n F_flight_Legs [.agg [.list aairn1 aair2, .list adisn3 adis4], .agg [.str bcar5, .int .i64 bnum6, .int .i64 bperfro7, .int .i64 bperto9, .int .i64 bperday10, .list blegn11 bleg12], .int .i64 cday15]) fun r21 =>
 optO (CV.asT r21) fun t22 =>
 optO (t22[0]?) fun x23 =>
 optO (CV.asT r21) fun t24 =>
 optO (t24[1]?) fun x25 =>
 optO (CV.asI .i64 x25) fun i26 =>
 bif (i26 != 0) then
 (some (.tup [.list true [], x25]))
 else
 (optO (CV.asL x23) fun p27 =>
 flight_Path_L1 lb n n aairn1 aair2 adisn3 adis4 bcar5 bnum6 bperfro7 bperto9 bperday10 blegn11 bleg12 ccar13 cnum14 cday15 cfro17 cto18 cdep19 carr20 x23 x25 r21 p27 0))) := by kernel_rfl

/-! airline/airlineref07.Path -/
noncomputable def r07_Path_L1 (lb : Bool) (n : Nat) (k198 : Nat) (aairn1 : Bool) (aair2 : List (List CV)) (adisn3 : Bool) (adis4 : List (List CV)) (bcar5 : List UInt8) (bnum6 : Int) (bperfro7 : Int) (bperto9 : Int) (bperday10 : Int) (blegn11 : Bool) (bleg12 : List (List CV)) (ccar13 : List UInt8) (cnum14 : Int) (cday15 : Int) (cfro17 : List UInt8) (cto18 : List UInt8) (cdep19 : Int) (carr20 : Int) (x23 : CV) (x25 : CV) (r21 : CV) (i113 : Int) : Option CV :=
  hold (loopC (E0 lb n 0 992) 0 (loopTemps (sub (B F_r07_Path) [1, 1, 1, 1, 0, 1, 0, 0]) ++ [11, 11]) [] (sub (B F_r07_Path) [1, 1, 1, 1, 0, 1, 0, 0]) (blockK 0 (seqK (E0 lb n 0 995) (sub (B F_r07_Path) [1, 1, 1, 1, 0]) (sub (B F_r07_Path) [1, 1, 1, 1, 1]) (retK Tryz.prog (R F_r07_Path) 0 (outK (tightF Tryz.prog F_r07_Path))))) k198 ⟨fr 78 [(0, .val (.agg [.list aairn1 aair2, .list adisn3 adis4])), (1, .val (.agg [.str bcar5, .int .i64 bnum6, .int .i64 bperfro7, .int .i64 bperto9, .int .i64 bperday10, .list blegn11 bleg12])), (2, .val (.agg [.str ccar13, .int .i64 cnum14, .int .i64 cday15, .str cfro17, .str cto18, .int .i64 cdep19, .int .i64 carr20])), (3, .ptr 0 3 0), (4, .ptr 0 4 0), (5, .ptr 0 5 0), (6, .lst true true 55 []), (7, .val (.int .i64 0)), (8, .val x23), (9, .val x25), (10, .val (.int .i64 i113)), (24, .val r21), (25, .val (.agg [.list aairn1 aair2, .list adisn3 adis4])), (26, .val (.agg [.str bcar5, .int .i64 bnum6, .int .i64 bperfro7, .int .i64 bperto9, .int .i64 bperday10, .list blegn11 bleg12])), (27, .ptr 0 5 2), (28, .val (.int .i64 cday15)), (29, .val r21), (30, .val x23), (31, .val x25)], [bx 78 [(3, some [.val (.list aairn1 aair2), .val (.list adisn3 adis4)]), (4, some [.val (.str bcar5), .val (.int .i64 bnum6), .val (.int .i64 bperfro7), .val (.int .i64 bperto9), .val (.int .i64 bperday10), .val (.list blegn11 bleg12)]), (5, some [.val (.str ccar13), .val (.int .i64 cnum14), .val (.int .i64 cday15), .val (.str cfro17), .val (.str cto18), .val (.int .i64 cdep19), .val (.int .i64 carr20)])]], KK⟩)

noncomputable def r07_Path_L2 (lb : Bool) (n : Nat) (k256 : Nat) (k198 : Nat) (aairn1 : Bool) (aair2 : List (List CV)) (adisn3 : Bool) (adis4 : List (List CV)) (bcar5 : List UInt8) (bnum6 : Int) (bperfro7 : Int) (bperto9 : Int) (bperday10 : Int) (blegn11 : Bool) (bleg12 : List (List CV)) (ccar13 : List UInt8) (cnum14 : Int) (cday15 : Int) (cfro17 : List UInt8) (cto18 : List UInt8) (cdep19 : Int) (carr20 : Int) (x23 : CV) (x25 : CV) (i113 : Int) (r21 : CV) (i228 : Int) : Option CV :=
  hold (loopC (E0 lb n 0 986) 0 (loopTemps (sub (B F_r07_Path) [1, 1, 1, 1, 0, 1, 0, 0, 1, 0, 0, 1, 0, 0]) ++ []) [] (sub (B F_r07_Path) [1, 1, 1, 1, 0, 1, 0, 0, 1, 0, 0, 1, 0, 0]) (blockK 2 (blockK 1 (seqK (E0 lb n 0 990) (sub (B F_r07_Path) [1, 1, 1, 1, 0, 1, 0, 0, 1, 0]) (sub (B F_r07_Path) [1, 1, 1, 1, 0, 1, 0, 0, 1, 1]) (loopK 0 (loopTemps (sub (B F_r07_Path) [1, 1, 1, 1, 0, 1, 0, 0]) ++ [11, 11]) [] (loopC (E0 lb n 0 992) 0 (loopTemps (sub (B F_r07_Path) [1, 1, 1, 1, 0, 1, 0, 0]) ++ [11, 11]) [] (sub (B F_r07_Path) [1, 1, 1, 1, 0, 1, 0, 0]) (blockK 0 (seqK (E0 lb n 0 995) (sub (B F_r07_Path) [1, 1, 1, 1, 0]) (sub (B F_r07_Path) [1, 1, 1, 1, 1]) (retK Tryz.prog (R F_r07_Path) 0 (outK (tightF Tryz.prog F_r07_Path))))) k198) (blockK 0 (seqK (E0 lb n 0 995) (sub (B F_r07_Path) [1, 1, 1, 1, 0]) (sub (B F_r07_Path) [1, 1, 1, 1, 1]) (retK Tryz.prog (R F_r07_Path) 0 (outK (tightF Tryz.prog F_r07_Path))))))))) k256 ⟨fr 78 [(0, .val (.agg [.list aairn1 aair2, .list adisn3 adis4])), (1, .val (.agg [.str bcar5, .int .i64 bnum6, .int .i64 bperfro7, .int .i64 bperto9, .int .i64 bperday10, .list blegn11 bleg12])), (2, .val (.agg [.str ccar13, .int .i64 cnum14, .int .i64 cday15, .str cfro17, .str cto18, .int .i64 cdep19, .int .i64 carr20])), (3, .ptr 0 3 0), (4, .ptr 0 4 0), (5, .ptr 0 5 0), (6, .lst true true 55 []), (7, .val (.int .i64 0)), (8, .val x23), (9, .val x25), (10, .val (.int .i64 i113)), (11, .val (.int .i64 i228)), (24, .val r21), (25, .val (.agg [.list aairn1 aair2, .list adisn3 adis4])), (26, .val (.agg [.str bcar5, .int .i64 bnum6, .int .i64 bperfro7, .int .i64 bperto9, .int .i64 bperday10, .list blegn11 bleg12])), (27, .ptr 0 5 2), (28, .val (.int .i64 cday15)), (29, .val r21), (30, .val x23), (31, .val x25), (41, .val (.int .i64 i113))], [bx 78 [(3, some [.val (.list aairn1 aair2), .val (.list adisn3 adis4)]), (4, some [.val (.str bcar5), .val (.int .i64 bnum6), .val (.int .i64 bperfro7), .val (.int .i64 bperto9), .val (.int .i64 bperday10), .val (.list blegn11 bleg12)]), (5, some [.val (.str ccar13), .val (.int .i64 cnum14), .val (.int .i64 cday15), .val (.str cfro17), .val (.str cto18), .val (.int .i64 cdep19), .val (.int .i64 carr20)])]], KK⟩)

noncomputable def r07_Path_J3 (lb : Bool) (n : Nat) (k198 : Nat) (aairn1 : Bool) (aair2 : List (List CV)) (adisn3 : Bool) (adis4 : List (List CV)) (bcar5 : List UInt8) (bnum6 : Int) (bperfro7 : Int) (bperto9 : Int) (bperday10 : Int) (blegn11 : Bool) (bleg12 : List (List CV)) (ccar13 : List UInt8) (cnum14 : Int) (cday15 : Int) (cfro17 : List UInt8) (cto18 : List UInt8) (cdep19 : Int) (carr20 : Int) (x23 : CV) (x25 : CV) (i113 : Int) (r21 : CV) (i284 : Int) : Option CV :=
  hold (E0 lb n 0 990 (sub (B F_r07_Path) [1, 1, 1, 1, 0, 1, 0, 0, 1, 1]) (loopK 0 (loopTemps (sub (B F_r07_Path) [1, 1, 1, 1, 0, 1, 0, 0]) ++ [11, 11]) [] (loopC (E0 lb n 0 992) 0 (loopTemps (sub (B F_r07_Path) [1, 1, 1, 1, 0, 1, 0, 0]) ++ [11, 11]) [] (sub (B F_r07_Path) [1, 1, 1, 1, 0, 1, 0, 0]) (blockK 0 (seqK (E0 lb n 0 995) (sub (B F_r07_Path) [1, 1, 1, 1, 0]) (sub (B F_r07_Path) [1, 1, 1, 1, 1]) (retK Tryz.prog (R F_r07_Path) 0 (outK (tightF Tryz.prog F_r07_Path))))) k198) (blockK 0 (seqK (E0 lb n 0 995) (sub (B F_r07_Path) [1, 1, 1, 1, 0]) (sub (B F_r07_Path) [1, 1, 1, 1, 1]) (retK Tryz.prog (R F_r07_Path) 0 (outK (tightF Tryz.prog F_r07_Path)))))) ⟨fr 78 [(0, .val (.agg [.list aairn1 aair2, .list adisn3 adis4])), (1, .val (.agg [.str bcar5, .int .i64 bnum6, .int .i64 bperfro7, .int .i64 bperto9, .int .i64 bperday10, .list blegn11 bleg12])), (2, .val (.agg [.str ccar13, .int .i64 cnum14, .int .i64 cday15, .str cfro17, .str cto18, .int .i64 cdep19, .int .i64 carr20])), (3, .ptr 0 3 0), (4, .ptr 0 4 0), (5, .ptr 0 5 0), (6, .lst true true 55 []), (7, .val (.int .i64 0)), (8, .val x23), (9, .val x25), (10, .val (.int .i64 i113)), (11, .val (.int .i64 i284)), (24, .val r21), (25, .val (.agg [.list aairn1 aair2, .list adisn3 adis4])), (26, .val (.agg [.str bcar5, .int .i64 bnum6, .int .i64 bperfro7, .int .i64 bperto9, .int .i64 bperday10, .list blegn11 bleg12])), (27, .ptr 0 5 2), (28, .val (.int .i64 cday15)), (29, .val r21), (30, .val x23), (31, .val x25)], [bx 78 [(3, some [.val (.list aairn1 aair2), .val (.list adisn3 adis4)]), (4, some [.val (.str bcar5), .val (.int .i64 bnum6), .val (.int .i64 bperfro7), .val (.int .i64 bperto9), .val (.int .i64 bperday10), .val (.list blegn11 bleg12)]), (5, some [.val (.str ccar13), .val (.int .i64 cnum14), .val (.int .i64 cday15), .val (.str cfro17), .val (.str cto18), .val (.int .i64 cdep19), .val (.int .i64 carr20)])]], KK⟩)

theorem r07_Path_J3_eq (lb : Bool) (n : Nat) (k198 : Nat) (aairn1 : Bool) (aair2 : List (List CV)) (adisn3 : Bool) (adis4 : List (List CV)) (bcar5 : List UInt8) (bnum6 : Int) (bperfro7 : Int) (bperto9 : Int) (bperday10 : Int) (blegn11 : Bool) (bleg12 : List (List CV)) (ccar13 : List UInt8) (cnum14 : Int) (cday15 : Int) (cfro17 : List UInt8) (cto18 : List UInt8) (cdep19 : Int) (carr20 : Int) (x23 : CV) (x25 : CV) (i113 : Int) (r21 : CV) (i284 : Int) :
  r07_Path_J3 lb n k198 aairn1 aair2 adisn3 adis4 bcar5 bnum6 bperfro7 bperto9 bperday10 blegn11 bleg12 ccar13 cnum14 cday15 cfro17 cto18 cdep19 carr20 x23 x25 i113 r21 i284 =
 r07_Path_L1 lb n k198 aairn1 aair2 adisn3 adis4 bcar5 bnum6 bperfro7 bperto9 bperday10 blegn11 bleg12 ccar13 cnum14 cday15 cfro17 cto18 cdep19 carr20 x23 x25 r21 (IntKind.wrap .i64 (i113 + 1)) := (hold_eq _).trans (by kernel_rfl)

theorem r07_Path_L2_succ (lb : Bool) (n k256 : Nat) (k198 : Nat) (aairn1 : Bool) (aair2 : List (List CV)) (adisn3 : Bool) (adis4 : List (List CV)) (bcar5 : List UInt8) (bnum6 : Int) (bperfro7 : Int) (bperto9 : Int) (bperday10 : Int) (blegn11 : Bool) (bleg12 : List (List CV)) (ccar13 : List UInt8) (cnum14 : Int) (cday15 : Int) (cfro17 : List UInt8) (cto18 : List UInt8) (cdep19 : Int) (carr20 : Int) (x23 : CV) (x25 : CV) (i113 : Int) (r21 : CV) (i228 : Int) :
  r07_Path_L2 lb n (k256 + 1) k198 aairn1 aair2 adisn3 adis4 bcar5 bnum6 bperfro7 bperto9 bperday10 blegn11 bleg12 ccar13 cnum14 cday15 cfro17 cto18 cdep19 carr20 x23 x25 i113 r21 i228 =
 optO (CV.asL x23) fun p257 =>
 bif (decide (i228 < (p257.2.length : Int))) then
 (optO (CV.asL x23) fun p258 =>
 optO (atL p258.2 i113) fun c259 =>
 chkO (c259.length == 8) (
 optO (c259[3]?) fun x260 =>
 optO (CV.asS x260) fun s261 =>
 bif (!(s261 == cfro17)) then
 (r07_Path_L2 lb n k256 k198 aairn1 aair2 adisn3 adis4 bcar5 bnum6 bperfro7 bperto9 bperday10 blegn11 bleg12 ccar13 cnum14 cday15 cfro17 cto18 cdep19 carr20 x23 x25 i113 r21 (IntKind.wrap .i64 (i228 + 1)))
 else
 (optO (CV.asL x23) fun p262 =>
 optO (atL p262.2 i228) fun c263 =>
 chkO (c263.length == 8) (
 optO (c263[4]?) fun x264 =>
 optO (CV.asS x264) fun s265 =>
 bif (!(s265 == cto18)) then
 (r07_Path_L2 lb n k256 k198 aairn1 aair2 adisn3 adis4 bcar5 bnum6 bperfro7 bperto9 bperday10 blegn11 bleg12 ccar13 cnum14 cday15 cfro17 cto18 cdep19 carr20 x23 x25 i113 r21 (IntKind.wrap .i64 (i228 + 1)))
 else
 (optO (C lb n F_r07_seg [x23, .int .i64 i113, .int .i64 i228]) fun r266 =>
 optO (CV.asA r266) fun c267 =>
 optO (c267[0]?) fun x268 =>
 optO (c267[1]?) fun x269 =>
 optO (c267[2]?) fun x270 =>
 optO (c267[3]?) fun x271 =>
 optO (c267[4]?) fun x272 =>
 optO (c267[5]?) fun x273 =>
 optO (c267[6]?) fun x274 =>
 optO (CV.asS x268) fun s275 =>
 optO (CV.asI .i64 x269) fun i276 =>
 optO (CV.asI .i64 x270) fun i277 =>
 optO (CV.asS x271) fun s278 =>
 optO (CV.asS x272) fun s279 =>
 optO (CV.asI .i64 x273) fun i280 =>
 optO (CV.asI .i64 x274) fun i281 =>
 bif (!((s275 == ccar13) && ((i276 == cnum14) && ((i277 == cday15) && ((s278 == cfro17) && ((s279 == cto18) && ((i280 == cdep19) && ((i281 == carr20) && true)))))))) then
 (some (.tup [.list true [], .int .i64 13]))
 else
 (optO (CV.asL x23) fun p282 =>
 chkO (p282.2.all (·.length == 8)) (
 chkO (decide ((0 : Int) ≤ (IntKind.wrap .i64 (i228 + 1)) ∧ (IntKind.wrap .i64 (i228 + 1)) ≤ (p282.2.length : Int))) (
 chkO (decide ((0 : Int) ≤ i113 ∧ i113 ≤ (IntKind.wrap .i64 (i228 + 1)))) (
 optO (C lb n F_r07_Ids [.list p282.1 ((p282.2.take ((IntKind.wrap .i64 (i228 + 1)).toNat)).drop i113.toNat)]) fun r283 =>
 some (.tup [r283, .int .i64 0]))))))))))
 else
 (r07_Path_J3 lb n k198 aairn1 aair2 adisn3 adis4 bcar5 bnum6 bperfro7 bperto9 bperday10 blegn11 bleg12 ccar13 cnum14 cday15 cfro17 cto18 cdep19 carr20 x23 x25 i113 r21 i228) := (hold_eq _).trans (by kernel_rfl)

theorem r07_Path_L2_zero (lb : Bool) (n : Nat) (k198 : Nat) (aairn1 : Bool) (aair2 : List (List CV)) (adisn3 : Bool) (adis4 : List (List CV)) (bcar5 : List UInt8) (bnum6 : Int) (bperfro7 : Int) (bperto9 : Int) (bperday10 : Int) (blegn11 : Bool) (bleg12 : List (List CV)) (ccar13 : List UInt8) (cnum14 : Int) (cday15 : Int) (cfro17 : List UInt8) (cto18 : List UInt8) (cdep19 : Int) (carr20 : Int) (x23 : CV) (x25 : CV) (i113 : Int) (r21 : CV) (i228 : Int) :
  r07_Path_L2 lb n 0 k198 aairn1 aair2 adisn3 adis4 bcar5 bnum6 bperfro7 bperto9 bperday10 blegn11 bleg12 ccar13 cnum14 cday15 cfro17 cto18 cdep19 carr20 x23 x25 i113 r21 i228 =
 none := (hold_eq _).trans (by kernel_rfl)

noncomputable def r07_Path_J4 (lb : Bool) (n : Nat) (aairn1 : Bool) (aair2 : List (List CV)) (adisn3 : Bool) (adis4 : List (List CV)) (bcar5 : List UInt8) (bnum6 : Int) (bperfro7 : Int) (bperto9 : Int) (bperday10 : Int) (blegn11 : Bool) (bleg12 : List (List CV)) (ccar13 : List UInt8) (cnum14 : Int) (cday15 : Int) (cfro17 : List UInt8) (cto18 : List UInt8) (cdep19 : Int) (carr20 : Int) (x23 : CV) (x25 : CV) (r21 : CV) (i285 : Int) : Option CV :=
  hold (E0 lb n 0 995 (sub (B F_r07_Path) [1, 1, 1, 1, 1]) (retK Tryz.prog (R F_r07_Path) 0 (outK (tightF Tryz.prog F_r07_Path))) ⟨fr 78 [(0, .val (.agg [.list aairn1 aair2, .list adisn3 adis4])), (1, .val (.agg [.str bcar5, .int .i64 bnum6, .int .i64 bperfro7, .int .i64 bperto9, .int .i64 bperday10, .list blegn11 bleg12])), (2, .val (.agg [.str ccar13, .int .i64 cnum14, .int .i64 cday15, .str cfro17, .str cto18, .int .i64 cdep19, .int .i64 carr20])), (3, .ptr 0 3 0), (4, .ptr 0 4 0), (5, .ptr 0 5 0), (6, .lst true true 55 []), (7, .val (.int .i64 0)), (8, .val x23), (9, .val x25), (10, .val (.int .i64 i285)), (24, .val r21), (25, .val (.agg [.list aairn1 aair2, .list adisn3 adis4])), (26, .val (.agg [.str bcar5, .int .i64 bnum6, .int .i64 bperfro7, .int .i64 bperto9, .int .i64 bperday10, .list blegn11 bleg12])), (27, .ptr 0 5 2), (28, .val (.int .i64 cday15)), (29, .val r21), (30, .val x23), (31, .val x25)], [bx 78 [(3, some [.val (.list aairn1 aair2), .val (.list adisn3 adis4)]), (4, some [.val (.str bcar5), .val (.int .i64 bnum6), .val (.int .i64 bperfro7), .val (.int .i64 bperto9), .val (.int .i64 bperday10), .val (.list blegn11 bleg12)]), (5, some [.val (.str ccar13), .val (.int .i64 cnum14), .val (.int .i64 cday15), .val (.str cfro17), .val (.str cto18), .val (.int .i64 cdep19), .val (.int .i64 carr20)])]], KK⟩)

theorem r07_Path_J4_eq (lb : Bool) (n : Nat) (aairn1 : Bool) (aair2 : List (List CV)) (adisn3 : Bool) (adis4 : List (List CV)) (bcar5 : List UInt8) (bnum6 : Int) (bperfro7 : Int) (bperto9 : Int) (bperday10 : Int) (blegn11 : Bool) (bleg12 : List (List CV)) (ccar13 : List UInt8) (cnum14 : Int) (cday15 : Int) (cfro17 : List UInt8) (cto18 : List UInt8) (cdep19 : Int) (carr20 : Int) (x23 : CV) (x25 : CV) (r21 : CV) (i285 : Int) :
  r07_Path_J4 lb n aairn1 aair2 adisn3 adis4 bcar5 bnum6 bperfro7 bperto9 bperday10 blegn11 bleg12 ccar13 cnum14 cday15 cfro17 cto18 cdep19 carr20 x23 x25 r21 i285 =
 some (.tup [.list true [], .int .i64 14]) := (hold_eq _).trans (by kernel_rfl)

theorem r07_Path_L1_succ (lb : Bool) (n k198 : Nat) (aairn1 : Bool) (aair2 : List (List CV)) (adisn3 : Bool) (adis4 : List (List CV)) (bcar5 : List UInt8) (bnum6 : Int) (bperfro7 : Int) (bperto9 : Int) (bperday10 : Int) (blegn11 : Bool) (bleg12 : List (List CV)) (ccar13 : List UInt8) (cnum14 : Int) (cday15 : Int) (cfro17 : List UInt8) (cto18 : List UInt8) (cdep19 : Int) (carr20 : Int) (x23 : CV) (x25 : CV) (r21 : CV) (i113 : Int) :
  r07_Path_L1 lb n (k198 + 1) aairn1 aair2 adisn3 adis4 bcar5 bnum6 bperfro7 bperto9 bperday10 blegn11 bleg12 ccar13 cnum14 cday15 cfro17 cto18 cdep19 carr20 x23 x25 r21 i113 =
 optO (CV.asL x23) fun p199 =>
 bif (decide (i113 < (p199.2.length : Int))) then
 (r07_Path_L2 lb n n k198 aairn1 aair2 adisn3 adis4 bcar5 bnum6 bperfro7 bperto9 bperday10 blegn11 bleg12 ccar13 cnum14 cday15 cfro17 cto18 cdep19 carr20 x23 x25 i113 r21 i113)
 else
 (r07_Path_J4 lb n aairn1 aair2 adisn3 adis4 bcar5 bnum6 bperfro7 bperto9 bperday10 blegn11 bleg12 ccar13 cnum14 cday15 cfro17 cto18 cdep19 carr20 x23 x25 r21 i113) := (hold_eq _).trans (by kernel_rfl)

theorem r07_Path_L1_zero (lb : Bool) (n : Nat) (aairn1 : Bool) (aair2 : List (List CV)) (adisn3 : Bool) (adis4 : List (List CV)) (bcar5 : List UInt8) (bnum6 : Int) (bperfro7 : Int) (bperto9 : Int) (bperday10 : Int) (blegn11 : Bool) (bleg12 : List (List CV)) (ccar13 : List UInt8) (cnum14 : Int) (cday15 : Int) (cfro17 : List UInt8) (cto18 : List UInt8) (cdep19 : Int) (carr20 : Int) (x23 : CV) (x25 : CV) (r21 : CV) (i113 : Int) :
  r07_Path_L1 lb n 0 aairn1 aair2 adisn3 adis4 bcar5 bnum6 bperfro7 bperto9 bperday10 blegn11 bleg12 ccar13 cnum14 cday15 cfro17 cto18 cdep19 carr20 x23 x25 r21 i113 =
 none := (hold_eq _).trans (by kernel_rfl)

theorem r07_Path_eq (lb : Bool) (n : Nat) (aairn1 : Bool) (aair2 : List (List CV)) (adisn3 : Bool) (adis4 : List (List CV)) (bcar5 : List UInt8) (bnum6 : Int) (bperfro7 : Int) (bperto9 : Int) (bperday10 : Int) (blegn11 : Bool) (bleg12 : List (List CV)) (ccar13 : List UInt8) (cnum14 : Int) (cday15 : Int) (cfro17 : List UInt8) (cto18 : List UInt8) (cdep19 : Int) (carr20 : Int) :
  top lb n F_r07_Path [.agg [.list aairn1 aair2, .list adisn3 adis4], .agg [.str bcar5, .int .i64 bnum6, .int .i64 bperfro7, .int .i64 bperto9, .int .i64 bperday10, .list blegn11 bleg12], .agg [.str ccar13, .int .i64 cnum14, .int .i64 cday15, .str cfro17, .str cto18, .int .i64 cdep19, .int .i64 carr20]] =
 bif (!(ccar13 == bcar5)) then
 (some (.tup [.list true [], .int .i64 7]))
 else
 (bif (cnum14 != bnum6) then
 (some (.tup [.list true [], .int .i64 7]))
 else
 (optO (C lb n F_r07_Legs [.agg [.list aairn1 aair2, .list adisn3 adis4], .agg [.str bcar5, .int .i64 bnum6, .int .i64 bperfro7, .int .i64 bperto9, .int .i64 bperday10, .list blegn11 bleg12], .int .i64 cday15]) fun r21 =>
 optO (CV.asT r21) fun t22 =>
 optO (t22[0]?) fun x23 =>
 optO (CV.asT r21) fun t24 =>
 optO (t24[1]?) fun x25 =>
 optO (CV.asI .i64 x25) fun i26 =>
 bif (i26 != 0) then
 (some (.tup [.list true [], x25]))
 else
 (r07_Path_L1 lb n n aairn1 aair2 adisn3 adis4 bcar5 bnum6 bperfro7 bperto9 bperday10 blegn11 bleg12 ccar13 cnum14 cday15 cfro17 cto18 cdep19 carr20 x23 x25 r21 0))) := by kernel_rfl

/-! airline/airlineref07.SameIds -/
noncomputable def r07_SameIds_L1 (lb : Bool) (n : Nat) (k45 : Nat) (an1 : Bool) (a2 : List (List CV)) (bn3 : Bool) (b4 : List (List CV)) (i25 : Int) : Option CV :=
  hold (loopC (E0 lb n 0 994) 0 (loopTemps (sub (B F_r07_SameIds) [1, 1, 0, 1, 0, 0]) ++ []) [] (sub (B F_r07_SameIds) [1, 1, 0, 1, 0, 0]) (blockK 0 (seqK (E0 lb n 0 997) (sub (B F_r07_SameIds) [1, 1, 0]) (sub (B F_r07_SameIds) [1, 1, 1]) (retK Tryz.prog (R F_r07_SameIds) 0 (outK (tightF Tryz.prog F_r07_SameIds))))) k45 ⟨fr 26 [(0, .val (.list an1 a2)), (1, .val (.list bn3 b4)), (4, .val (.bool false)), (5, .val (.int .i64 i25))], [bx 26 []], KK⟩)

noncomputable def r07_SameIds_J2 (lb : Bool) (n : Nat) (an1 : Bool) (a2 : List (List CV)) (bn3 : Bool) (b4 : List (List CV)) (i65 : Int) : Option CV :=
  hold (E0 lb n 0 997 (sub (B F_r07_SameIds) [1, 1, 1]) (retK Tryz.prog (R F_r07_SameIds) 0 (outK (tightF Tryz.prog F_r07_SameIds))) ⟨fr 26 [(0, .val (.list an1 a2)), (1, .val (.list bn3 b4)), (4, .val (.bool false)), (5, .val (.int .i64 i65))], [bx 26 []], KK⟩)

theorem r07_SameIds_J2_eq (lb : Bool) (n : Nat) (an1 : Bool) (a2 : List (List CV)) (bn3 : Bool) (b4 : List (List CV)) (i65 : Int) :
  r07_SameIds_J2 lb n an1 a2 bn3 b4 i65 =
 some (.bool true) := (hold_eq _).trans (by kernel_rfl)

theorem r07_SameIds_L1_succ (lb : Bool) (n k45 : Nat) (an1 : Bool) (a2 : List (List CV)) (bn3 : Bool) (b4 : List (List CV)) (i25 : Int) :
  r07_SameIds_L1 lb n (k45 + 1) an1 a2 bn3 b4 i25 =
 bif (decide (i25 < (a2.length : Int))) then
 (optO (atL a2 i25) fun c46 =>
 chkO (c46.length == 4) (
 optO (c46[0]?) fun x47 =>
 optO (c46[1]?) fun x48 =>
 optO (c46[2]?) fun x49 =>
 optO (c46[3]?) fun x50 =>
 optO (atL b4 i25) fun c51 =>
 chkO (c51.length == 4) (
 optO (c51[0]?) fun x52 =>
 optO (c51[1]?) fun x53 =>
 optO (c51[2]?) fun x54 =>
 optO (c51[3]?) fun x55 =>
 optO (CV.asS x47) fun s56 =>
 optO (CV.asS x52) fun s57 =>
 optO (CV.asI .i64 x48) fun i58 =>
 optO (CV.asI .i64 x53) fun i59 =>
 optO (CV.asI .i64 x49) fun i60 =>
 optO (CV.asI .i64 x54) fun i61 =>
 optO (CV.asS x50) fun s62 =>
 optO (CV.asS x55) fun s63 =>
 bif (!((s56 == s57) && ((i58 == i59) && ((i60 == i61) && ((s62 == s63) && true))))) then
 (some (.bool false))
 else
 (r07_SameIds_L1 lb n k45 an1 a2 bn3 b4 (IntKind.wrap .i64 (i25 + 1))))))
 else
 (r07_SameIds_J2 lb n an1 a2 bn3 b4 i25) := (hold_eq _).trans (by kernel_rfl)

theorem r07_SameIds_L1_zero (lb : Bool) (n : Nat) (an1 : Bool) (a2 : List (List CV)) (bn3 : Bool) (b4 : List (List CV)) (i25 : Int) :
  r07_SameIds_L1 lb n 0 an1 a2 bn3 b4 i25 =
 none := (hold_eq _).trans (by kernel_rfl)

theorem r07_SameIds_eq (lb : Bool) (n : Nat) (an1 : Bool) (a2 : List (List CV)) (bn3 : Bool) (b4 : List (List CV)) :
  top lb n F_r07_SameIds [.list an1 a2, .list bn3 b4] =
 bif ((a2.length : Int) != (b4.length : Int)) then
 (some (.bool false))
 else
 (r07_SameIds_L1 lb n n an1 a2 bn3 b4 0) := by kernel_rfl

/-! airline/airlineref07.Ids -/
noncomputable def r07_Ids_L1 (lb : Bool) (n : Nat) (k24 : Nat) (an1 : Bool) (a2 : List (List CV)) (b12 : Bool) (l13 : List (List CV)) (i14 : Int) : Option CV :=
  hold (loopC (E0 lb n 0 994) 0 (loopTemps (sub (B F_r07_Ids) [1, 1, 0, 1, 0, 0]) ++ []) [] (sub (B F_r07_Ids) [1, 1, 0, 1, 0, 0]) (blockK 0 (seqK (E0 lb n 0 997) (sub (B F_r07_Ids) [1, 1, 0]) (sub (B F_r07_Ids) [1, 1, 1]) (retK Tryz.prog (R F_r07_Ids) 0 (outK (tightF Tryz.prog F_r07_Ids))))) k24 ⟨fr 36 [(0, .val (.list an1 a2)), (2, .lst true true 55 []), (3, .lst true b12 55 l13), (4, .val (.int .i64 i14))], [bx 36 []], KK⟩)

noncomputable def r07_Ids_J2 (lb : Bool) (n : Nat) (an1 : Bool) (a2 : List (List CV)) (b34 : Bool) (l35 : List (List CV)) (i36 : Int) : Option CV :=
  hold (E0 lb n 0 997 (sub (B F_r07_Ids) [1, 1, 1]) (retK Tryz.prog (R F_r07_Ids) 0 (outK (tightF Tryz.prog F_r07_Ids))) ⟨fr 36 [(0, .val (.list an1 a2)), (2, .lst true true 55 []), (3, .lst true b34 55 l35), (4, .val (.int .i64 i36))], [bx 36 []], KK⟩)

theorem r07_Ids_J2_eq (lb : Bool) (n : Nat) (an1 : Bool) (a2 : List (List CV)) (b34 : Bool) (l35 : List (List CV)) (i36 : Int) :
  r07_Ids_J2 lb n an1 a2 b34 l35 i36 =
 some (.list b34 l35) := (hold_eq _).trans (by kernel_rfl)

theorem r07_Ids_L1_succ (lb : Bool) (n k24 : Nat) (an1 : Bool) (a2 : List (List CV)) (b12 : Bool) (l13 : List (List CV)) (i14 : Int) :
  r07_Ids_L1 lb n (k24 + 1) an1 a2 b12 l13 i14 =
 bif (decide (i14 < (a2.length : Int))) then
 (optO (atL a2 i14) fun c25 =>
 chkO (c25.length == 8) (
 optO (c25[0]?) fun x26 =>
 optO (atL a2 i14) fun c27 =>
 chkO (c27.length == 8) (
 optO (c27[1]?) fun x28 =>
 optO (atL a2 i14) fun c29 =>
 chkO (c29.length == 8) (
 optO (c29[2]?) fun x30 =>
 optO (atL a2 i14) fun c31 =>
 chkO (c31.length == 8) (
 optO (c31[3]?) fun x33 =>
 chkO (CV.isCell x26) (
 chkO (CV.isCell x28) (
 chkO (CV.isCell x30) (
 chkO (CV.isCell x33) (
 chkO (room (l13.length + 1) 48) (
 r07_Ids_L1 lb n k24 an1 a2 (b12 && false) (l13 ++ [[x26, x28, x30, x33]]) (IntKind.wrap .i64 (i14 + 1))))))))))))
 else
 (r07_Ids_J2 lb n an1 a2 b12 l13 i14) := (hold_eq _).trans (by kernel_rfl)

theorem r07_Ids_L1_zero (lb : Bool) (n : Nat) (an1 : Bool) (a2 : List (List CV)) (b12 : Bool) (l13 : List (List CV)) (i14 : Int) :
  r07_Ids_L1 lb n 0 an1 a2 b12 l13 i14 =
 none := (hold_eq _).trans (by kernel_rfl)

theorem r07_Ids_eq (lb : Bool) (n : Nat) (an1 : Bool) (a2 : List (List CV)) :
  top lb n F_r07_Ids [.list an1 a2] =
 r07_Ids_L1 lb n n an1 a2 true [] 0 := by kernel_rfl

/-! airline/airlinelaw07.FlightPaths -/
theorem l07_FlightPaths_eq (lb : Bool) (n : Nat) (aairn1 : Bool) (aair2 : List (List CV)) (adisn3 : Bool) (adis4 : List (List CV)) (bcar5 : List UInt8) (bnum6 : Int) (bperfro7 : Int) (bperto9 : Int) (bperday10 : Int) (blegn11 : Bool) (bleg12 : List (List CV)) (ccar13 : List UInt8) (cnum14 : Int) (cday15 : Int) (cfro17 : List UInt8) (cto18 : List UInt8) (cdep19 : Int) (carr20 : Int) :
  top lb n F_l07_FlightPaths [.agg [.list aairn1 aair2, .list adisn3 adis4], .agg [.str bcar5, .int .i64 bnum6, .int .i64 bperfro7, .int .i64 bperto9, .int .i64 bperday10, .list blegn11 bleg12], .agg [.str ccar13, .int .i64 cnum14, .int .i64 cday15, .str cfro17, .str cto18, .int .i64 cdep19, .int .i64 carr20]] =
 optO (C lb n F_l07_right [.agg [.list aairn1 aair2, .list adisn3 adis4], .agg [.str bcar5, .int .i64 bnum6, .int .i64 bperfro7, .int .i64 bperto9, .int .i64 bperday10, .list blegn11 bleg12]]) fun r21 =>
 optO (CV.asB r21) fun b22 =>
 bif (!b22) then
 (optO (C lb n F_l07_awake []) fun r23 =>
 some (r23))
 else
 (optO (C lb n F_flight_Path [.agg [.list aairn1 aair2, .list adisn3 adis4], .agg [.str bcar5, .int .i64 bnum6, .int .i64 bperfro7, .int .i64 bperto9, .int .i64 bperday10, .list blegn11 bleg12], .agg [.str ccar13, .int .i64 cnum14, .int .i64 cday15, .str cfro17, .str cto18, .int .i64 cdep19, .int .i64 carr20]]) fun r24 =>
 optO (CV.asT r24) fun t25 =>
 optO (t25[0]?) fun x26 =>
 optO (CV.asT r24) fun t27 =>
 optO (t27[1]?) fun x28 =>
 optO (C lb n F_r07_Path [.agg [.list aairn1 aair2, .list adisn3 adis4], .agg [.str bcar5, .int .i64 bnum6, .int .i64 bperfro7, .int .i64 bperto9, .int .i64 bperday10, .list blegn11 bleg12], .agg [.str ccar13, .int .i64 cnum14, .int .i64 cday15, .str cfro17, .str cto18, .int .i64 cdep19, .int .i64 carr20]]) fun r29 =>
 optO (CV.asT r29) fun t30 =>
 optO (t30[0]?) fun x31 =>
 optO (CV.asT r29) fun t33 =>
 optO (t33[1]?) fun x34 =>
 optO (C lb n F_r07_SameIds [x26, x31]) fun r35 =>
 optO (CV.asB r35) fun b36 =>
 bif b36 then
 (optO (CV.asI .i64 x28) fun i37 =>
 optO (CV.asI .i64 x34) fun i38 =>
 bif (i37 == i38) then
 (optO (C lb n F_l07_awake []) fun r39 =>
 some (r39))
 else
 (some (.bool false)))
 else
 (some (.bool false))) := by kernel_rfl

/-! airline/airlinelaw07.FlightCovers -/
noncomputable def l07_FlightCovers_L1 (lb : Bool) (n : Nat) (k261 : Nat) (aairn1 : Bool) (aair2 : List (List CV)) (adisn3 : Bool) (adis4 : List (List CV)) (bcar5 : List UInt8) (bnum6 : Int) (bperfro7 : Int) (bperto9 : Int) (bperday10 : Int) (blegn11 : Bool) (bleg12 : List (List CV)) (c13 : Int) (x20 : CV) (x22 : CV) (r18 : CV) (i142 : Int) (i143 : Int) : Option CV :=
  hold (loopC (E0 lb n 0 992) 0 (loopTemps (sub (B F_l07_FlightCovers) [1, 1, 1, 1, 0, 1, 0, 0]) ++ [11, 12, 13, 11]) [] (sub (B F_l07_FlightCovers) [1, 1, 1, 1, 0, 1, 0, 0]) (blockK 0 (seqK (E0 lb n 0 995) (sub (B F_l07_FlightCovers) [1, 1, 1, 1, 0]) (sub (B F_l07_FlightCovers) [1, 1, 1, 1, 1]) (retK Tryz.prog (R F_l07_FlightCovers) 0 (outK (tightF Tryz.prog F_l07_FlightCovers))))) k261 ⟨fr 123 [(0, .val (.agg [.list aairn1 aair2, .list adisn3 adis4])), (1, .val (.agg [.str bcar5, .int .i64 bnum6, .int .i64 bperfro7, .int .i64 bperto9, .int .i64 bperday10, .list blegn11 bleg12])), (2, .val (.int .i64 c13)), (3, .ptr 0 3 0), (4, .ptr 0 4 0), (6, .val (.bool false)), (7, .val x20), (8, .val x22), (9, .val (.int .i64 i142)), (10, .val (.int .i64 i143)), (19, .val r18), (20, .val (.agg [.list aairn1 aair2, .list adisn3 adis4])), (21, .val (.agg [.str bcar5, .int .i64 bnum6, .int .i64 bperfro7, .int .i64 bperto9, .int .i64 bperday10, .list blegn11 bleg12])), (22, .val (.int .i64 c13)), (23, .val r18), (24, .val x20), (25, .val x22)], [bx 123 [(3, some [.val (.list aairn1 aair2), .val (.list adisn3 adis4)]), (4, some [.val (.str bcar5), .val (.int .i64 bnum6), .val (.int .i64 bperfro7), .val (.int .i64 bperto9), .val (.int .i64 bperday10), .val (.list blegn11 bleg12)])]], KK⟩)

noncomputable def l07_FlightCovers_L2 (lb : Bool) (n : Nat) (k341 : Nat) (k261 : Nat) (aairn1 : Bool) (aair2 : List (List CV)) (adisn3 : Bool) (adis4 : List (List CV)) (bcar5 : List UInt8) (bnum6 : Int) (bperfro7 : Int) (bperto9 : Int) (bperday10 : Int) (blegn11 : Bool) (bleg12 : List (List CV)) (c13 : Int) (x20 : CV) (x22 : CV) (i143 : Int) (r18 : CV) (i301 : Int) (i302 : Int) : Option CV :=
  hold (loopC (E0 lb n 0 986) 0 (loopTemps (sub (B F_l07_FlightCovers) [1, 1, 1, 1, 0, 1, 0, 0, 1, 0, 0, 1, 0, 0]) ++ [12, 13]) [] (sub (B F_l07_FlightCovers) [1, 1, 1, 1, 0, 1, 0, 0, 1, 0, 0, 1, 0, 0]) (blockK 2 (blockK 1 (seqK (E0 lb n 0 990) (sub (B F_l07_FlightCovers) [1, 1, 1, 1, 0, 1, 0, 0, 1, 0]) (sub (B F_l07_FlightCovers) [1, 1, 1, 1, 0, 1, 0, 0, 1, 1]) (loopK 0 (loopTemps (sub (B F_l07_FlightCovers) [1, 1, 1, 1, 0, 1, 0, 0]) ++ [11, 12, 13, 11]) [] (loopC (E0 lb n 0 992) 0 (loopTemps (sub (B F_l07_FlightCovers) [1, 1, 1, 1, 0, 1, 0, 0]) ++ [11, 12, 13, 11]) [] (sub (B F_l07_FlightCovers) [1, 1, 1, 1, 0, 1, 0, 0]) (blockK 0 (seqK (E0 lb n 0 995) (sub (B F_l07_FlightCovers) [1, 1, 1, 1, 0]) (sub (B F_l07_FlightCovers) [1, 1, 1, 1, 1]) (retK Tryz.prog (R F_l07_FlightCovers) 0 (outK (tightF Tryz.prog F_l07_FlightCovers))))) k261) (blockK 0 (seqK (E0 lb n 0 995) (sub (B F_l07_FlightCovers) [1, 1, 1, 1, 0]) (sub (B F_l07_FlightCovers) [1, 1, 1, 1, 1]) (retK Tryz.prog (R F_l07_FlightCovers) 0 (outK (tightF Tryz.prog F_l07_FlightCovers))))))))) k341 ⟨fr 123 [(0, .val (.agg [.list aairn1 aair2, .list adisn3 adis4])), (1, .val (.agg [.str bcar5, .int .i64 bnum6, .int .i64 bperfro7, .int .i64 bperto9, .int .i64 bperday10, .list blegn11 bleg12])), (2, .val (.int .i64 c13)), (3, .ptr 0 3 0), (4, .ptr 0 4 0), (6, .val (.bool false)), (7, .val x20), (8, .val x22), (9, .val (.int .i64 i301)), (10, .val (.int .i64 i143)), (11, .val (.int .i64 i302)), (19, .val r18), (20, .val (.agg [.list aairn1 aair2, .list adisn3 adis4])), (21, .val (.agg [.str bcar5, .int .i64 bnum6, .int .i64 bperfro7, .int .i64 bperto9, .int .i64 bperday10, .list blegn11 bleg12])), (22, .val (.int .i64 c13)), (23, .val r18), (24, .val x20), (25, .val x22), (38, .val (.int .i64 i143))], [bx 123 [(3, some [.val (.list aairn1 aair2), .val (.list adisn3 adis4)]), (4, some [.val (.str bcar5), .val (.int .i64 bnum6), .val (.int .i64 bperfro7), .val (.int .i64 bperto9), .val (.int .i64 bperday10), .val (.list blegn11 bleg12)])]], KK⟩)

noncomputable def l07_FlightCovers_J3 (lb : Bool) (n : Nat) (k261 : Nat) (aairn1 : Bool) (aair2 : List (List CV)) (adisn3 : Bool) (adis4 : List (List CV)) (bcar5 : List UInt8) (bnum6 : Int) (bperfro7 : Int) (bperto9 : Int) (bperday10 : Int) (blegn11 : Bool) (bleg12 : List (List CV)) (c13 : Int) (x20 : CV) (x22 : CV) (i143 : Int) (r18 : CV) (i380 : Int) (i381 : Int) : Option CV :=
  hold (E0 lb n 0 990 (sub (B F_l07_FlightCovers) [1, 1, 1, 1, 0, 1, 0, 0, 1, 1]) (loopK 0 (loopTemps (sub (B F_l07_FlightCovers) [1, 1, 1, 1, 0, 1, 0, 0]) ++ [11, 12, 13, 11]) [] (loopC (E0 lb n 0 992) 0 (loopTemps (sub (B F_l07_FlightCovers) [1, 1, 1, 1, 0, 1, 0, 0]) ++ [11, 12, 13, 11]) [] (sub (B F_l07_FlightCovers) [1, 1, 1, 1, 0, 1, 0, 0]) (blockK 0 (seqK (E0 lb n 0 995) (sub (B F_l07_FlightCovers) [1, 1, 1, 1, 0]) (sub (B F_l07_FlightCovers) [1, 1, 1, 1, 1]) (retK Tryz.prog (R F_l07_FlightCovers) 0 (outK (tightF Tryz.prog F_l07_FlightCovers))))) k261) (blockK 0 (seqK (E0 lb n 0 995) (sub (B F_l07_FlightCovers) [1, 1, 1, 1, 0]) (sub (B F_l07_FlightCovers) [1, 1, 1, 1, 1]) (retK Tryz.prog (R F_l07_FlightCovers) 0 (outK (tightF Tryz.prog F_l07_FlightCovers)))))) ⟨fr 123 [(0, .val (.agg [.list aairn1 aair2, .list adisn3 adis4])), (1, .val (.agg [.str bcar5, .int .i64 bnum6, .int .i64 bperfro7, .int .i64 bperto9, .int .i64 bperday10, .list blegn11 bleg12])), (2, .val (.int .i64 c13)), (3, .ptr 0 3 0), (4, .ptr 0 4 0), (6, .val (.bool false)), (7, .val x20), (8, .val x22), (9, .val (.int .i64 i380)), (10, .val (.int .i64 i143)), (11, .val (.int .i64 i381)), (19, .val r18), (20, .val (.agg [.list aairn1 aair2, .list adisn3 adis4])), (21, .val (.agg [.str bcar5, .int .i64 bnum6, .int .i64 bperfro7, .int .i64 bperto9, .int .i64 bperday10, .list blegn11 bleg12])), (22, .val (.int .i64 c13)), (23, .val r18), (24, .val x20), (25, .val x22)], [bx 123 [(3, some [.val (.list aairn1 aair2), .val (.list adisn3 adis4)]), (4, some [.val (.str bcar5), .val (.int .i64 bnum6), .val (.int .i64 bperfro7), .val (.int .i64 bperto9), .val (.int .i64 bperday10), .val (.list blegn11 bleg12)])]], KK⟩)

theorem l07_FlightCovers_J3_eq (lb : Bool) (n : Nat) (k261 : Nat) (aairn1 : Bool) (aair2 : List (List CV)) (adisn3 : Bool) (adis4 : List (List CV)) (bcar5 : List UInt8) (bnum6 : Int) (bperfro7 : Int) (bperto9 : Int) (bperday10 : Int) (blegn11 : Bool) (bleg12 : List (List CV)) (c13 : Int) (x20 : CV) (x22 : CV) (i143 : Int) (r18 : CV) (i380 : Int) (i381 : Int) :
  l07_FlightCovers_J3 lb n k261 aairn1 aair2 adisn3 adis4 bcar5 bnum6 bperfro7 bperto9 bperday10 blegn11 bleg12 c13 x20 x22 i143 r18 i380 i381 =
 l07_FlightCovers_L1 lb n k261 aairn1 aair2 adisn3 adis4 bcar5 bnum6 bperfro7 bperto9 bperday10 blegn11 bleg12 c13 x20 x22 r18 i380 (IntKind.wrap .i64 (i143 + 1)) := (hold_eq _).trans (by kernel_rfl)

theorem l07_FlightCovers_L2_succ (lb : Bool) (n k341 : Nat) (k261 : Nat) (aairn1 : Bool) (aair2 : List (List CV)) (adisn3 : Bool) (adis4 : List (List CV)) (bcar5 : List UInt8) (bnum6 : Int) (bperfro7 : Int) (bperto9 : Int) (bperday10 : Int) (blegn11 : Bool) (bleg12 : List (List CV)) (c13 : Int) (x20 : CV) (x22 : CV) (i143 : Int) (r18 : CV) (i301 : Int) (i302 : Int) :
  l07_FlightCovers_L2 lb n (k341 + 1) k261 aairn1 aair2 adisn3 adis4 bcar5 bnum6 bperfro7 bperto9 bperday10 blegn11 bleg12 c13 x20 x22 i143 r18 i301 i302 =
 bif (decide (i302 < (bleg12.length : Int))) then
 (optO (CV.asL x20) fun p342 =>
 bif (decide (i301 ≥ (p342.2.length : Int))) then
 (some (.bool false))
 else
 (optO (CV.asL x20) fun p343 =>
 optO (atL p343.2 i301) fun c344 =>
 chkO (c344.length == 7) (
 optO (c344[0]?) fun x345 =>
 optO (c344[1]?) fun x346 =>
 optO (c344[2]?) fun x347 =>
 optO (c344[3]?) fun x348 =>
 optO (c344[4]?) fun x349 =>
 optO (c344[5]?) fun x350 =>
 optO (c344[6]?) fun x351 =>
 optO (C lb n F_flight_Path [.agg [.list aairn1 aair2, .list adisn3 adis4], .agg [.str bcar5, .int .i64 bnum6, .int .i64 bperfro7, .int .i64 bperto9, .int .i64 bperday10, .list blegn11 bleg12], .agg [x345, x346, x347, x348, x349, x350, x351]]) fun r352 =>
 optO (CV.asT r352) fun t353 =>
 optO (t353[0]?) fun x354 =>
 optO (CV.asT r352) fun t355 =>
 optO (t355[1]?) fun x356 =>
 optO (CV.asI .i64 x356) fun i357 =>
 bif (i357 != 0) then
 (some (.bool false))
 else
 (optO (CV.asL x354) fun p358 =>
 bif ((p358.2.length : Int) != (IntKind.wrap .i64 ((IntKind.wrap .i64 (i302 - i143)) + 1))) then
 (some (.bool false))
 else
 (optO (CV.asL x354) fun p359 =>
 optO (atL p359.2 0) fun c360 =>
 chkO (c360.length == 4) (
 optO (c360[3]?) fun x361 =>
 optO (atL bleg12 i143) fun c362 =>
 chkO (c362.length == 5) (
 optO (c362[0]?) fun x363 =>
 optO (CV.asS x361) fun s364 =>
 optO (CV.asS x363) fun s365 =>
 bif (!(s364 == s365)) then
 (some (.bool false))
 else
 (optO (CV.asL x354) fun p366 =>
 optO (atL p366.2 (IntKind.wrap .i64 (i302 - i143))) fun c367 =>
 chkO (c367.length == 4) (
 optO (c367[3]?) fun x368 =>
 optO (atL bleg12 i302) fun c369 =>
 chkO (c369.length == 5) (
 optO (c369[0]?) fun x370 =>
 optO (CV.asS x368) fun s371 =>
 optO (CV.asS x370) fun s372 =>
 bif (!(s371 == s372)) then
 (some (.bool false))
 else
 (optO (CV.asL x20) fun p373 =>
 optO (atL p373.2 i301) fun c374 =>
 chkO (c374.length == 7) (
 optO (c374[4]?) fun x375 =>
 optO (atL bleg12 i302) fun c376 =>
 chkO (c376.length == 5) (
 optO (c376[1]?) fun x377 =>
 optO (CV.asS x375) fun s378 =>
 optO (CV.asS x377) fun s379 =>
 bif (!(s378 == s379)) then
 (some (.bool false))
 else
 (l07_FlightCovers_L2 lb n k341 k261 aairn1 aair2 adisn3 adis4 bcar5 bnum6 bperfro7 bperto9 bperday10 blegn11 bleg12 c13 x20 x22 i143 r18 (IntKind.wrap .i64 (i301 + 1)) (IntKind.wrap .i64 (i302 + 1))))))))))))))))
 else
 (l07_FlightCovers_J3 lb n k261 aairn1 aair2 adisn3 adis4 bcar5 bnum6 bperfro7 bperto9 bperday10 blegn11 bleg12 c13 x20 x22 i143 r18 i301 i302) := (hold_eq _).trans (by kernel_rfl)

theorem l07_FlightCovers_L2_zero (lb : Bool) (n : Nat) (k261 : Nat) (aairn1 : Bool) (aair2 : List (List CV)) (adisn3 : Bool) (adis4 : List (List CV)) (bcar5 : List UInt8) (bnum6 : Int) (bperfro7 : Int) (bperto9 : Int) (bperday10 : Int) (blegn11 : Bool) (bleg12 : List (List CV)) (c13 : Int) (x20 : CV) (x22 : CV) (i143 : Int) (r18 : CV) (i301 : Int) (i302 : Int) :
  l07_FlightCovers_L2 lb n 0 k261 aairn1 aair2 adisn3 adis4 bcar5 bnum6 bperfro7 bperto9 bperday10 blegn11 bleg12 c13 x20 x22 i143 r18 i301 i302 =
 none := (hold_eq _).trans (by kernel_rfl)

noncomputable def l07_FlightCovers_J4 (lb : Bool) (n : Nat) (aairn1 : Bool) (aair2 : List (List CV)) (adisn3 : Bool) (adis4 : List (List CV)) (bcar5 : List UInt8) (bnum6 : Int) (bperfro7 : Int) (bperto9 : Int) (bperday10 : Int) (blegn11 : Bool) (bleg12 : List (List CV)) (c13 : Int) (x20 : CV) (x22 : CV) (r18 : CV) (i382 : Int) (i383 : Int) : Option CV :=
  hold (E0 lb n 0 995 (sub (B F_l07_FlightCovers) [1, 1, 1, 1, 1]) (retK Tryz.prog (R F_l07_FlightCovers) 0 (outK (tightF Tryz.prog F_l07_FlightCovers))) ⟨fr 123 [(0, .val (.agg [.list aairn1 aair2, .list adisn3 adis4])), (1, .val (.agg [.str bcar5, .int .i64 bnum6, .int .i64 bperfro7, .int .i64 bperto9, .int .i64 bperday10, .list blegn11 bleg12])), (2, .val (.int .i64 c13)), (3, .ptr 0 3 0), (4, .ptr 0 4 0), (6, .val (.bool false)), (7, .val x20), (8, .val x22), (9, .val (.int .i64 i382)), (10, .val (.int .i64 i383)), (19, .val r18), (20, .val (.agg [.list aairn1 aair2, .list adisn3 adis4])), (21, .val (.agg [.str bcar5, .int .i64 bnum6, .int .i64 bperfro7, .int .i64 bperto9, .int .i64 bperday10, .list blegn11 bleg12])), (22, .val (.int .i64 c13)), (23, .val r18), (24, .val x20), (25, .val x22)], [bx 123 [(3, some [.val (.list aairn1 aair2), .val (.list adisn3 adis4)]), (4, some [.val (.str bcar5), .val (.int .i64 bnum6), .val (.int .i64 bperfro7), .val (.int .i64 bperto9), .val (.int .i64 bperday10), .val (.list blegn11 bleg12)])]], KK⟩)

theorem l07_FlightCovers_J4_eq (lb : Bool) (n : Nat) (aairn1 : Bool) (aair2 : List (List CV)) (adisn3 : Bool) (adis4 : List (List CV)) (bcar5 : List UInt8) (bnum6 : Int) (bperfro7 : Int) (bperto9 : Int) (bperday10 : Int) (blegn11 : Bool) (bleg12 : List (List CV)) (c13 : Int) (x20 : CV) (x22 : CV) (r18 : CV) (i382 : Int) (i383 : Int) :
  l07_FlightCovers_J4 lb n aairn1 aair2 adisn3 adis4 bcar5 bnum6 bperfro7 bperto9 bperday10 blegn11 bleg12 c13 x20 x22 r18 i382 i383 =
 optO (CV.asL x20) fun p384 =>
 bif (i382 == (p384.2.length : Int)) then
 (optO (C lb n F_l07_awake []) fun r385 =>
 some (r385))
 else
 (some (.bool false)) := (hold_eq _).trans (by kernel_rfl)

theorem l07_FlightCovers_L1_succ (lb : Bool) (n k261 : Nat) (aairn1 : Bool) (aair2 : List (List CV)) (adisn3 : Bool) (adis4 : List (List CV)) (bcar5 : List UInt8) (bnum6 : Int) (bperfro7 : Int) (bperto9 : Int) (bperday10 : Int) (blegn11 : Bool) (bleg12 : List (List CV)) (c13 : Int) (x20 : CV) (x22 : CV) (r18 : CV) (i142 : Int) (i143 : Int) :
  l07_FlightCovers_L1 lb n (k261 + 1) aairn1 aair2 adisn3 adis4 bcar5 bnum6 bperfro7 bperto9 bperday10 blegn11 bleg12 c13 x20 x22 r18 i142 i143 =
 bif (decide (i143 < (bleg12.length : Int))) then
 (optO (CV.asL x20) fun p262 =>
 bif (decide ((p262.2.length : Int) > 0)) then
 (l07_FlightCovers_L2 lb n n k261 aairn1 aair2 adisn3 adis4 bcar5 bnum6 bperfro7 bperto9 bperday10 blegn11 bleg12 c13 x20 x22 i143 r18 i142 i143)
 else
 (l07_FlightCovers_J4 lb n aairn1 aair2 adisn3 adis4 bcar5 bnum6 bperfro7 bperto9 bperday10 blegn11 bleg12 c13 x20 x22 r18 i142 i143))
 else
 (l07_FlightCovers_J4 lb n aairn1 aair2 adisn3 adis4 bcar5 bnum6 bperfro7 bperto9 bperday10 blegn11 bleg12 c13 x20 x22 r18 i142 i143) := (hold_eq _).trans (by kernel_rfl)

theorem l07_FlightCovers_L1_zero (lb : Bool) (n : Nat) (aairn1 : Bool) (aair2 : List (List CV)) (adisn3 : Bool) (adis4 : List (List CV)) (bcar5 : List UInt8) (bnum6 : Int) (bperfro7 : Int) (bperto9 : Int) (bperday10 : Int) (blegn11 : Bool) (bleg12 : List (List CV)) (c13 : Int) (x20 : CV) (x22 : CV) (r18 : CV) (i142 : Int) (i143 : Int) :
  l07_FlightCovers_L1 lb n 0 aairn1 aair2 adisn3 adis4 bcar5 bnum6 bperfro7 bperto9 bperday10 blegn11 bleg12 c13 x20 x22 r18 i142 i143 =
 none := (hold_eq _).trans (by kernel_rfl)

theorem l07_FlightCovers_eq (lb : Bool) (n : Nat) (aairn1 : Bool) (aair2 : List (List CV)) (adisn3 : Bool) (adis4 : List (List CV)) (bcar5 : List UInt8) (bnum6 : Int) (bperfro7 : Int) (bperto9 : Int) (bperday10 : Int) (blegn11 : Bool) (bleg12 : List (List CV)) (c13 : Int) :
  top lb n F_l07_FlightCovers [.agg [.list aairn1 aair2, .list adisn3 adis4], .agg [.str bcar5, .int .i64 bnum6, .int .i64 bperfro7, .int .i64 bperto9, .int .i64 bperday10, .list blegn11 bleg12], .int .i64 c13] =
 optO (C lb n F_l07_right [.agg [.list aairn1 aair2, .list adisn3 adis4], .agg [.str bcar5, .int .i64 bnum6, .int .i64 bperfro7, .int .i64 bperto9, .int .i64 bperday10, .list blegn11 bleg12]]) fun r14 =>
 optO (CV.asB r14) fun b15 =>
 bif (!b15) then
 (optO (C lb n F_l07_awake []) fun r17 =>
 some (r17))
 else
 (optO (C lb n F_flight_Segs [.agg [.list aairn1 aair2, .list adisn3 adis4], .agg [.str bcar5, .int .i64 bnum6, .int .i64 bperfro7, .int .i64 bperto9, .int .i64 bperday10, .list blegn11 bleg12], .int .i64 c13]) fun r18 =>
 optO (CV.asT r18) fun t19 =>
 optO (t19[0]?) fun x20 =>
 optO (CV.asT r18) fun t21 =>
 optO (t21[1]?) fun x22 =>
 l07_FlightCovers_L1 lb n n aairn1 aair2 adisn3 adis4 bcar5 bnum6 bperfro7 bperto9 bperday10 blegn11 bleg12 c13 x20 x22 r18 0 0) := by kernel_rfl

end Go.Proofs
