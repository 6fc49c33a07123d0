/- Equations of functions, printed by program. Conditions: none. -/
import Derived.Test.YtiffhngfneikoaaDoorEv
namespace Go.Proofs
open Go.Am
set_option maxRecDepth 100000
set_option linter.unusedVariables false
/-! airline/airlinelaw22.RoutingChecks -/
theorem l22_RoutingChecks_eq (lb : Bool) (n : Nat) (anum1 : Int) (alinn2 : Bool) (alin3 : List (List CV)) (amil4 : Int) :
  top lb n F_l22_RoutingChecks [.agg [.int .i64 anum1, .list alinn2 alin3, .int .i64 amil4]] =
 optO (C lb n F_l22_big [.agg [.int .i64 anum1, .list alinn2 alin3, .int .i64 amil4]]) fun r5 =>
 optO (CV.asB r5) fun b6 =>
 bif b6 then
 (optO (C lb n F_l22_awake []) fun r7 =>
 some (r7))
 else
 (optO (C lb n F_routing_Check [.agg [.int .i64 anum1, .list alinn2 alin3, .int .i64 amil4]]) fun r9 =>
 optO (C lb n F_r22_Check [.agg [.int .i64 anum1, .list alinn2 alin3, .int .i64 amil4]]) fun r10 =>
 optO (C lb n F_r07_SameFaults [r9, r10]) fun r11 =>
 optO (CV.asB r11) fun b12 =>
 bif b12 then
 (optO (C lb n F_l22_awake []) fun r13 =>
 some (r13))
 else
 (some (.bool false))) := by kernel_rfl

/-! airline/airlinelaw22.RoutingAllows -/
theorem l22_RoutingAllows_eq (lb : Bool) (n : Nat) (anum1 : Int) (alinn2 : Bool) (alin3 : List (List CV)) (amil4 : Int) (bn5 : Bool) (b6 : List (List CV)) :
  top lb n F_l22_RoutingAllows [.agg [.int .i64 anum1, .list alinn2 alin3, .int .i64 amil4], .list bn5 b6] =
 optO (C lb n F_l22_big [.agg [.int .i64 anum1, .list alinn2 alin3, .int .i64 amil4]]) fun r7 =>
 optO (CV.asB r7) fun b9 =>
 bif b9 then
 (optO (C lb n F_l22_awake []) fun r10 =>
 some (r10))
 else
 (optO (C lb n F_r22_Check [.agg [.int .i64 anum1, .list alinn2 alin3, .int .i64 amil4]]) fun r11 =>
 optO (CV.asL r11) fun p12 =>
 bif (decide ((p12.2.length : Int) > 0)) then
 (optO (C lb n F_l22_awake []) fun r13 =>
 some (r13))
 else
 (optO (C lb n F_r01_Long [.list bn5 b6, .int .i64 200]) fun r14 =>
 optO (CV.asB r14) fun b15 =>
 bif b15 then
 (optO (C lb n F_l22_awake []) fun r17 =>
 some (r17))
 else
 (optO (C lb n F_routing_Allows [.agg [.int .i64 anum1, .list alinn2 alin3, .int .i64 amil4], .list bn5 b6]) fun r18 =>
 optO (C lb n F_r22_Allows [.agg [.int .i64 anum1, .list alinn2 alin3, .int .i64 amil4], .list bn5 b6]) fun r19 =>
 optO (CV.asB r18) fun b20 =>
 optO (CV.asB r19) fun b21 =>
 bif (b20 == b21) then
 (optO (C lb n F_l22_awake []) fun r22 =>
 some (r22))
 else
 (some (.bool false))))) := by kernel_rfl

/-! airline/airlinelaw22.big -/
noncomputable def l22_big_L1 (lb : Bool) (n : Nat) (k21 : Nat) (anum1 : Int) (alinn2 : Bool) (alin3 : List (List CV)) (amil4 : Int) (i12 : Int) (i13 : Int) : Option CV :=
  hold (loopC (E0 lb n 0 994) 0 (loopTemps (sub (B F_l22_big) [1, 1, 0, 1, 0, 0]) ++ []) [] (sub (B F_l22_big) [1, 1, 0, 1, 0, 0]) (blockK 0 (seqK (E0 lb n 0 997) (sub (B F_l22_big) [1, 1, 0]) (sub (B F_l22_big) [1, 1, 1]) (retK Tryd.prog (R F_l22_big) 0 (outK (tightF Tryd.prog F_l22_big))))) k21 ⟨fr 41 [(0, .val (.agg [.int .i64 anum1, .list alinn2 alin3, .int .i64 amil4])), (1, .ptr 0 1 0), (2, .val (.bool false)), (3, .val (.int .i64 i12)), (4, .val (.int .i64 i13))], [bx 41 [(1, some [.val (.int .i64 anum1), .val (.list alinn2 alin3), .val (.int .i64 amil4)])]], KK⟩)

noncomputable def l22_big_J2 (lb : Bool) (n : Nat) (anum1 : Int) (alinn2 : Bool) (alin3 : List (List CV)) (amil4 : Int) (i28 : Int) (i29 : Int) : Option CV :=
  hold (E0 lb n 0 997 (sub (B F_l22_big) [1, 1, 1]) (retK Tryd.prog (R F_l22_big) 0 (outK (tightF Tryd.prog F_l22_big))) ⟨fr 41 [(0, .val (.agg [.int .i64 anum1, .list alinn2 alin3, .int .i64 amil4])), (1, .ptr 0 1 0), (2, .val (.bool false)), (3, .val (.int .i64 i28)), (4, .val (.int .i64 i29))], [bx 41 [(1, some [.val (.int .i64 anum1), .val (.list alinn2 alin3), .val (.int .i64 amil4)])]], KK⟩)

theorem l22_big_J2_eq (lb : Bool) (n : Nat) (anum1 : Int) (alinn2 : Bool) (alin3 : List (List CV)) (amil4 : Int) (i28 : Int) (i29 : Int) :
  l22_big_J2 lb n anum1 alinn2 alin3 amil4 i28 i29 =
 bif (decide (i28 > 2000)) then
 (some (.bool true))
 else
 (some (.bool (decide ((alin3.length : Int) > 140)))) := (hold_eq _).trans (by kernel_rfl)

theorem l22_big_L1_succ (lb : Bool) (n k21 : Nat) (anum1 : Int) (alinn2 : Bool) (alin3 : List (List CV)) (amil4 : Int) (i12 : Int) (i13 : Int) :
  l22_big_L1 lb n (k21 + 1) anum1 alinn2 alin3 amil4 i12 i13 =
 bif (decide (i13 < (alin3.length : Int))) then
 (bif (decide (i13 < 200)) then
 (optO (atL alin3 i13) fun c22 =>
 chkO (c22.length == 2) (
 optO (c22[0]?) fun x23 =>
 optO (CV.asS x23) fun s24 =>
 optO (atL alin3 i13) fun c25 =>
 chkO (c25.length == 2) (
 optO (c25[1]?) fun x26 =>
 optO (CV.asS x26) fun s27 =>
 l22_big_L1 lb n k21 anum1 alinn2 alin3 amil4 (IntKind.wrap .i64 ((IntKind.wrap .i64 (i12 + (s24.length : Int))) + (s27.length : Int))) (IntKind.wrap .i64 (i13 + 1)))))
 else
 (l22_big_J2 lb n anum1 alinn2 alin3 amil4 i12 i13))
 else
 (l22_big_J2 lb n anum1 alinn2 alin3 amil4 i12 i13) := (hold_eq _).trans (by kernel_rfl)

theorem l22_big_L1_zero (lb : Bool) (n : Nat) (anum1 : Int) (alinn2 : Bool) (alin3 : List (List CV)) (amil4 : Int) (i12 : Int) (i13 : Int) :
  l22_big_L1 lb n 0 anum1 alinn2 alin3 amil4 i12 i13 =
 none := (hold_eq _).trans (by kernel_rfl)

theorem l22_big_eq (lb : Bool) (n : Nat) (anum1 : Int) (alinn2 : Bool) (alin3 : List (List CV)) (amil4 : Int) :
  top lb n F_l22_big [.agg [.int .i64 anum1, .list alinn2 alin3, .int .i64 amil4]] =
 l22_big_L1 lb n n anum1 alinn2 alin3 amil4 0 0 := by kernel_rfl

/-! airline/airlineref07.SameFaults -/
noncomputable def r07_SameFaults_L1 (lb : Bool) (n : Nat) (k28 : Nat) (an1 : Bool) (a2 : List (List CV)) (bn3 : Bool) (b4 : List (List CV)) (i17 : Int) : Option CV :=
  hold (loopC (E0 lb n 0 994) 0 (loopTemps (sub (B F_r07_SameFaults) [1, 1, 0, 1, 0, 0]) ++ []) [] (sub (B F_r07_SameFaults) [1, 1, 0, 1, 0, 0]) (blockK 0 (seqK (E0 lb n 0 997) (sub (B F_r07_SameFaults) [1, 1, 0]) (sub (B F_r07_SameFaults) [1, 1, 1]) (retK Tryd.prog (R F_r07_SameFaults) 0 (outK (tightF Tryd.prog F_r07_SameFaults))))) k28 ⟨fr 26 [(0, .val (.list an1 a2)), (1, .val (.list bn3 b4)), (4, .val (.bool false)), (5, .val (.int .i64 i17))], [bx 26 []], KK⟩)

noncomputable def r07_SameFaults_J2 (lb : Bool) (n : Nat) (an1 : Bool) (a2 : List (List CV)) (bn3 : Bool) (b4 : List (List CV)) (i40 : Int) : Option CV :=
  hold (E0 lb n 0 997 (sub (B F_r07_SameFaults) [1, 1, 1]) (retK Tryd.prog (R F_r07_SameFaults) 0 (outK (tightF Tryd.prog F_r07_SameFaults))) ⟨fr 26 [(0, .val (.list an1 a2)), (1, .val (.list bn3 b4)), (4, .val (.bool false)), (5, .val (.int .i64 i40))], [bx 26 []], KK⟩)

theorem r07_SameFaults_J2_eq (lb : Bool) (n : Nat) (an1 : Bool) (a2 : List (List CV)) (bn3 : Bool) (b4 : List (List CV)) (i40 : Int) :
  r07_SameFaults_J2 lb n an1 a2 bn3 b4 i40 =
 some (.bool true) := (hold_eq _).trans (by kernel_rfl)

theorem r07_SameFaults_L1_succ (lb : Bool) (n k28 : Nat) (an1 : Bool) (a2 : List (List CV)) (bn3 : Bool) (b4 : List (List CV)) (i17 : Int) :
  r07_SameFaults_L1 lb n (k28 + 1) an1 a2 bn3 b4 i17 =
 bif (decide (i17 < (a2.length : Int))) then
 (optO (atL a2 i17) fun c29 =>
 chkO (c29.length == 2) (
 optO (c29[0]?) fun x30 =>
 optO (c29[1]?) fun x31 =>
 optO (atL b4 i17) fun c33 =>
 chkO (c33.length == 2) (
 optO (c33[0]?) fun x34 =>
 optO (c33[1]?) fun x35 =>
 optO (CV.asI .i64 x30) fun i36 =>
 optO (CV.asI .i64 x34) fun i37 =>
 optO (CV.asS x31) fun s38 =>
 optO (CV.asS x35) fun s39 =>
 bif (!((i36 == i37) && ((s38 == s39) && true))) then
 (some (.bool false))
 else
 (r07_SameFaults_L1 lb n k28 an1 a2 bn3 b4 (IntKind.wrap .i64 (i17 + 1))))))
 else
 (r07_SameFaults_J2 lb n an1 a2 bn3 b4 i17) := (hold_eq _).trans (by kernel_rfl)

theorem r07_SameFaults_L1_zero (lb : Bool) (n : Nat) (an1 : Bool) (a2 : List (List CV)) (bn3 : Bool) (b4 : List (List CV)) (i17 : Int) :
  r07_SameFaults_L1 lb n 0 an1 a2 bn3 b4 i17 =
 none := (hold_eq _).trans (by kernel_rfl)

theorem r07_SameFaults_eq (lb : Bool) (n : Nat) (an1 : Bool) (a2 : List (List CV)) (bn3 : Bool) (b4 : List (List CV)) :
  top lb n F_r07_SameFaults [.list an1 a2, .list bn3 b4] =
 bif ((a2.length : Int) != (b4.length : Int)) then
 (some (.bool false))
 else
 (r07_SameFaults_L1 lb n n an1 a2 bn3 b4 0) := by kernel_rfl

/-! airline/routing.Check -/
noncomputable def routing_Check_J1 (lb : Bool) (n : Nat) (anum1 : Int) (alinn2 : Bool) (alin3 : List (List CV)) (amil4 : Int) (b5 : Bool) (l6 : List (List CV)) : Option CV :=
  hold (E0 lb n 0 996 (sub (B F_routing_Check) [1, 1, 1, 1]) (retK Tryd.prog (R F_routing_Check) 0 (outK (tightF Tryd.prog F_routing_Check))) ⟨fr 59 [(0, .val (.agg [.int .i64 anum1, .list alinn2 alin3, .int .i64 amil4])), (1, .ptr 0 1 0), (2, .lst true true 102 []), (3, .ptr 0 3 0), (4, .clo F_routing_Check_1 [.ptr 0 3 0]), (8, .clo F_routing_Check_1 [.ptr 0 3 0])], [bx 59 [(1, some [.val (.int .i64 anum1), .val (.list alinn2 alin3), .val (.int .i64 amil4)]), (3, some [.lst true b5 102 l6])]], KK⟩)

noncomputable def routing_Check_J2 (lb : Bool) (n : Nat) (anum1 : Int) (alinn2 : Bool) (alin3 : List (List CV)) (amil4 : Int) (b7 : Bool) (l9 : List (List CV)) : Option CV :=
  hold (E0 lb n 0 995 (sub (B F_routing_Check) [1, 1, 1, 1, 1]) (retK Tryd.prog (R F_routing_Check) 0 (outK (tightF Tryd.prog F_routing_Check))) ⟨fr 59 [(0, .val (.agg [.int .i64 anum1, .list alinn2 alin3, .int .i64 amil4])), (1, .ptr 0 1 0), (2, .lst true true 102 []), (3, .ptr 0 3 0), (4, .clo F_routing_Check_1 [.ptr 0 3 0]), (8, .clo F_routing_Check_1 [.ptr 0 3 0])], [bx 59 [(1, some [.val (.int .i64 anum1), .val (.list alinn2 alin3), .val (.int .i64 amil4)]), (3, some [.lst true b7 102 l9])]], KK⟩)

theorem routing_Check_J2_eq (lb : Bool) (n : Nat) (anum1 : Int) (alinn2 : Bool) (alin3 : List (List CV)) (amil4 : Int) (b7 : Bool) (l9 : List (List CV)) :
  routing_Check_J2 lb n anum1 alinn2 alin3 amil4 b7 l9 =
 bif (decide (amil4 < 0)) then
 (chkO (room (l9.length + 1) 24) (
 some (.list (b7 && false) (l9 ++ [[CV.int .i64 2, CV.str [109, 105, 108, 101, 115]]]))))
 else
 (bif (decide (amil4 > 99999)) then
 (chkO (room (l9.length + 1) 24) (
 some (.list (b7 && false) (l9 ++ [[CV.int .i64 2, CV.str [109, 105, 108, 101, 115]]]))))
 else
 (some (.list b7 l9))) := (hold_eq _).trans (by kernel_rfl)

noncomputable def routing_Check_L3 (lb : Bool) (n : Nat) (k55 : Nat) (anum1 : Int) (alinn2 : Bool) (alin3 : List (List CV)) (amil4 : Int) (i31 : Int) (b33 : Bool) (l34 : List (List CV)) : Option CV :=
  hold (loopC (E0 lb n 0 990) 0 (loopTemps (sub (B F_routing_Check) [1, 1, 1, 1, 0, 1, 1, 1, 0, 0]) ++ [5, 7]) [] (sub (B F_routing_Check) [1, 1, 1, 1, 0, 1, 1, 1, 0, 0]) (blockK 0 (condK (sub (B F_routing_Check) [1, 1, 1, 1, 0, 1, 0]) (sub (B F_routing_Check) [1, 1, 1, 1, 0, 1, 1]) (seqK (E0 lb n 0 995) (sub (B F_routing_Check) [1, 1, 1, 1, 0]) (sub (B F_routing_Check) [1, 1, 1, 1, 1]) (retK Tryd.prog (R F_routing_Check) 0 (outK (tightF Tryd.prog F_routing_Check)))))) k55 ⟨fr 59 [(0, .val (.agg [.int .i64 anum1, .list alinn2 alin3, .int .i64 amil4])), (1, .ptr 0 1 0), (2, .lst true true 102 []), (3, .ptr 0 3 0), (4, .clo F_routing_Check_1 [.ptr 0 3 0]), (8, .clo F_routing_Check_1 [.ptr 0 3 0]), (19, .ptr 0 1 1), (20, .val (.list alinn2 alin3)), (21, .val (.int .i64 (alin3.length : Int))), (22, .val (.bool (decide ((alin3.length : Int) > 128)))), (25, .ptr 0 1 1), (26, .val (.list alinn2 alin3)), (27, .val (.int .i64 (alin3.length : Int))), (28, .val (.int .i64 i31))], [bx 59 [(1, some [.val (.int .i64 anum1), .val (.list alinn2 alin3), .val (.int .i64 amil4)]), (3, some [.lst true b33 102 l34])]], KK⟩)

noncomputable def routing_Check_L4 (lb : Bool) (n : Nat) (k72 : Nat) (k55 : Nat) (anum1 : Int) (alinn2 : Bool) (alin3 : List (List CV)) (amil4 : Int) (i31 : Int) (r56 : CV) (p57 : Bool × List (List CV)) (i63 : Int) (b65 : Bool) (l66 : List (List CV)) : Option CV :=
  hold (loopC (E0 lb n 0 982) 0 (loopTemps (sub (B F_routing_Check) [1, 1, 1, 1, 0, 1, 1, 1, 0, 0, 1, 1, 0, 0, 1, 1, 0, 0]) ++ [7]) [] (sub (B F_routing_Check) [1, 1, 1, 1, 0, 1, 1, 1, 0, 0, 1, 1, 0, 0, 1, 1, 0, 0]) (blockK 2 (blockK 1 (seqK (E0 lb n 0 987) (sub (B F_routing_Check) [1, 1, 1, 1, 0, 1, 1, 1, 0, 0, 1, 1, 0]) (sub (B F_routing_Check) [1, 1, 1, 1, 0, 1, 1, 1, 0, 0, 1, 1, 1]) (loopK 0 (loopTemps (sub (B F_routing_Check) [1, 1, 1, 1, 0, 1, 1, 1, 0, 0]) ++ [5, 7]) [] (loopC (E0 lb n 0 990) 0 (loopTemps (sub (B F_routing_Check) [1, 1, 1, 1, 0, 1, 1, 1, 0, 0]) ++ [5, 7]) [] (sub (B F_routing_Check) [1, 1, 1, 1, 0, 1, 1, 1, 0, 0]) (blockK 0 (condK (sub (B F_routing_Check) [1, 1, 1, 1, 0, 1, 0]) (sub (B F_routing_Check) [1, 1, 1, 1, 0, 1, 1]) (seqK (E0 lb n 0 995) (sub (B F_routing_Check) [1, 1, 1, 1, 0]) (sub (B F_routing_Check) [1, 1, 1, 1, 1]) (retK Tryd.prog (R F_routing_Check) 0 (outK (tightF Tryd.prog F_routing_Check)))))) k55) (blockK 0 (condK (sub (B F_routing_Check) [1, 1, 1, 1, 0, 1, 0]) (sub (B F_routing_Check) [1, 1, 1, 1, 0, 1, 1]) (seqK (E0 lb n 0 995) (sub (B F_routing_Check) [1, 1, 1, 1, 0]) (sub (B F_routing_Check) [1, 1, 1, 1, 1]) (retK Tryd.prog (R F_routing_Check) 0 (outK (tightF Tryd.prog F_routing_Check)))))))))) k72 ⟨fr 59 [(0, .val (.agg [.int .i64 anum1, .list alinn2 alin3, .int .i64 amil4])), (1, .ptr 0 1 0), (2, .lst true true 102 []), (3, .ptr 0 3 0), (4, .clo F_routing_Check_1 [.ptr 0 3 0]), (5, .val (.int .i64 i31)), (8, .clo F_routing_Check_1 [.ptr 0 3 0]), (19, .ptr 0 1 1), (20, .val (.list alinn2 alin3)), (21, .val (.int .i64 (alin3.length : Int))), (22, .val (.bool (decide ((alin3.length : Int) > 128)))), (25, .ptr 0 1 1), (26, .val (.list alinn2 alin3)), (27, .val (.int .i64 (alin3.length : Int))), (28, .val (.int .i64 i31)), (29, .val (.bool (decide (i31 < (alin3.length : Int))))), (30, .val (.int .i64 i31)), (31, .ptr 0 1 1), (32, .val (.list alinn2 alin3)), (33, .val (.int .i64 i31)), (34, .val r56), (35, .val (.int .i64 (p57.2.length : Int))), (36, .val (.int .i64 i63))], [bx 59 [(1, some [.val (.int .i64 anum1), .val (.list alinn2 alin3), .val (.int .i64 amil4)]), (3, some [.lst true b65 102 l66])]], KK⟩)

noncomputable def routing_Check_J5 (lb : Bool) (n : Nat) (k55 : Nat) (anum1 : Int) (alinn2 : Bool) (alin3 : List (List CV)) (amil4 : Int) (i31 : Int) (i78 : Int) (b79 : Bool) (l80 : List (List CV)) : Option CV :=
  hold (E0 lb n 0 987 (sub (B F_routing_Check) [1, 1, 1, 1, 0, 1, 1, 1, 0, 0, 1, 1, 1]) (loopK 0 (loopTemps (sub (B F_routing_Check) [1, 1, 1, 1, 0, 1, 1, 1, 0, 0]) ++ [5, 7]) [] (loopC (E0 lb n 0 990) 0 (loopTemps (sub (B F_routing_Check) [1, 1, 1, 1, 0, 1, 1, 1, 0, 0]) ++ [5, 7]) [] (sub (B F_routing_Check) [1, 1, 1, 1, 0, 1, 1, 1, 0, 0]) (blockK 0 (condK (sub (B F_routing_Check) [1, 1, 1, 1, 0, 1, 0]) (sub (B F_routing_Check) [1, 1, 1, 1, 0, 1, 1]) (seqK (E0 lb n 0 995) (sub (B F_routing_Check) [1, 1, 1, 1, 0]) (sub (B F_routing_Check) [1, 1, 1, 1, 1]) (retK Tryd.prog (R F_routing_Check) 0 (outK (tightF Tryd.prog F_routing_Check)))))) k55) (blockK 0 (condK (sub (B F_routing_Check) [1, 1, 1, 1, 0, 1, 0]) (sub (B F_routing_Check) [1, 1, 1, 1, 0, 1, 1]) (seqK (E0 lb n 0 995) (sub (B F_routing_Check) [1, 1, 1, 1, 0]) (sub (B F_routing_Check) [1, 1, 1, 1, 1]) (retK Tryd.prog (R F_routing_Check) 0 (outK (tightF Tryd.prog F_routing_Check))))))) ⟨fr 59 [(0, .val (.agg [.int .i64 anum1, .list alinn2 alin3, .int .i64 amil4])), (1, .ptr 0 1 0), (2, .lst true true 102 []), (3, .ptr 0 3 0), (4, .clo F_routing_Check_1 [.ptr 0 3 0]), (5, .val (.int .i64 i78)), (8, .clo F_routing_Check_1 [.ptr 0 3 0]), (19, .ptr 0 1 1), (20, .val (.list alinn2 alin3)), (21, .val (.int .i64 (alin3.length : Int))), (22, .val (.bool (decide ((alin3.length : Int) > 128)))), (25, .ptr 0 1 1), (26, .val (.list alinn2 alin3)), (27, .val (.int .i64 (alin3.length : Int))), (28, .val (.int .i64 i31)), (29, .val (.bool (decide (i31 < (alin3.length : Int)))))], [bx 59 [(1, some [.val (.int .i64 anum1), .val (.list alinn2 alin3), .val (.int .i64 amil4)]), (3, some [.lst true b79 102 l80])]], KK⟩)

theorem routing_Check_J5_eq (lb : Bool) (n : Nat) (k55 : Nat) (anum1 : Int) (alinn2 : Bool) (alin3 : List (List CV)) (amil4 : Int) (i31 : Int) (i78 : Int) (b79 : Bool) (l80 : List (List CV)) :
  routing_Check_J5 lb n k55 anum1 alinn2 alin3 amil4 i31 i78 b79 l80 =
 routing_Check_L3 lb n k55 anum1 alinn2 alin3 amil4 (IntKind.wrap .i64 (i31 + 1)) b79 l80 := (hold_eq _).trans (by kernel_rfl)

theorem routing_Check_L4_succ (lb : Bool) (n k72 : Nat) (k55 : Nat) (anum1 : Int) (alinn2 : Bool) (alin3 : List (List CV)) (amil4 : Int) (i31 : Int) (r56 : CV) (p57 : Bool × List (List CV)) (i63 : Int) (b65 : Bool) (l66 : List (List CV)) :
  routing_Check_L4 lb n (k72 + 1) k55 anum1 alinn2 alin3 amil4 i31 r56 p57 i63 b65 l66 =
 bif (decide (i63 < (p57.2.length : Int))) then
 (optO (CV.asL r56) fun p73 =>
 optO (atL p73.2 i63) fun c74 =>
 chkO (c74.length == 1) (
 optO (c74[0]?) fun x75 =>
 optO (C lb n F_text_Decimal [.int .i64 i31]) fun r76 =>
 optO (CV.asS r76) fun s77 =>
 chkO (decide (([108, 105, 110, 107, 32] : List UInt8).length + s77.length ≤ 9223372036854775807)) (
 chkO (CV.isCell x75) (
 chkO (room (l66.length + 1) 24) (
 routing_Check_L4 lb n k72 k55 anum1 alinn2 alin3 amil4 i31 r56 p57 (IntKind.wrap .i64 (i63 + 1)) (b65 && false) (l66 ++ [[x75, CV.str (([108, 105, 110, 107, 32] : List UInt8) ++ s77)]]))))))
 else
 (routing_Check_J5 lb n k55 anum1 alinn2 alin3 amil4 i31 i31 b65 l66) := (hold_eq _).trans (by kernel_rfl)

theorem routing_Check_L4_zero (lb : Bool) (n : Nat) (k55 : Nat) (anum1 : Int) (alinn2 : Bool) (alin3 : List (List CV)) (amil4 : Int) (i31 : Int) (r56 : CV) (p57 : Bool × List (List CV)) (i63 : Int) (b65 : Bool) (l66 : List (List CV)) :
  routing_Check_L4 lb n 0 k55 anum1 alinn2 alin3 amil4 i31 r56 p57 i63 b65 l66 =
 none := (hold_eq _).trans (by kernel_rfl)

theorem routing_Check_L3_succ (lb : Bool) (n k55 : Nat) (anum1 : Int) (alinn2 : Bool) (alin3 : List (List CV)) (amil4 : Int) (i31 : Int) (b33 : Bool) (l34 : List (List CV)) :
  routing_Check_L3 lb n (k55 + 1) anum1 alinn2 alin3 amil4 i31 b33 l34 =
 bif (decide (i31 < (alin3.length : Int))) then
 (optO (C lb n F_routing_link [.list alinn2 alin3, .int .i64 i31]) fun r56 =>
 optO (CV.asL r56) fun p57 =>
 routing_Check_L4 lb n n k55 anum1 alinn2 alin3 amil4 i31 r56 p57 0 b33 l34)
 else
 (routing_Check_J2 lb n anum1 alinn2 alin3 amil4 b33 l34) := (hold_eq _).trans (by kernel_rfl)

theorem routing_Check_L3_zero (lb : Bool) (n : Nat) (anum1 : Int) (alinn2 : Bool) (alin3 : List (List CV)) (amil4 : Int) (i31 : Int) (b33 : Bool) (l34 : List (List CV)) :
  routing_Check_L3 lb n 0 anum1 alinn2 alin3 amil4 i31 b33 l34 =
 none := (hold_eq _).trans (by kernel_rfl)

theorem routing_Check_J1_eq (lb : Bool) (n : Nat) (anum1 : Int) (alinn2 : Bool) (alin3 : List (List CV)) (amil4 : Int) (b5 : Bool) (l6 : List (List CV)) :
  routing_Check_J1 lb n anum1 alinn2 alin3 amil4 b5 l6 =
 bif (decide ((alin3.length : Int) > 128)) then
 (chkO (room (l6.length + 1) 24) (
 routing_Check_J2 lb n anum1 alinn2 alin3 amil4 (b5 && false) (l6 ++ [[CV.int .i64 4, CV.str [108, 105, 110, 107, 115]]])))
 else
 (routing_Check_L3 lb n n anum1 alinn2 alin3 amil4 0 b5 l6) := (hold_eq _).trans (by kernel_rfl)

theorem routing_Check_eq (lb : Bool) (n : Nat) (anum1 : Int) (alinn2 : Bool) (alin3 : List (List CV)) (amil4 : Int) :
  top lb n F_routing_Check [.agg [.int .i64 anum1, .list alinn2 alin3, .int .i64 amil4]] =
 bif (decide (anum1 < 1)) then
 (routing_Check_J1 lb n anum1 alinn2 alin3 amil4 false [[CV.int .i64 2, CV.str [110, 117, 109, 98, 101, 114]]])
 else
 (bif (decide (anum1 > 9999)) then
 (routing_Check_J1 lb n anum1 alinn2 alin3 amil4 false [[CV.int .i64 2, CV.str [110, 117, 109, 98, 101, 114]]])
 else
 (routing_Check_J1 lb n anum1 alinn2 alin3 amil4 true [])) := by kernel_rfl

/-! airline/airlineref22.Check -/
noncomputable def r22_Check_J1 (lb : Bool) (n : Nat) (anum1 : Int) (alinn2 : Bool) (alin3 : List (List CV)) (amil4 : Int) (b5 : Bool) (l6 : List (List CV)) : Option CV :=
  hold (E0 lb n 0 997 (sub (B F_r22_Check) [1, 1, 1]) (retK Tryd.prog (R F_r22_Check) 0 (outK (tightF Tryd.prog F_r22_Check))) ⟨fr 101 [(0, .val (.agg [.int .i64 anum1, .list alinn2 alin3, .int .i64 amil4])), (1, .ptr 0 1 0), (2, .lst true true 102 []), (3, .lst true b5 102 l6)], [bx 101 [(1, some [.val (.int .i64 anum1), .val (.list alinn2 alin3), .val (.int .i64 amil4)])]], KK⟩)

noncomputable def r22_Check_J2 (lb : Bool) (n : Nat) (anum1 : Int) (alinn2 : Bool) (alin3 : List (List CV)) (amil4 : Int) (b7 : Bool) (l9 : List (List CV)) : Option CV :=
  hold (E0 lb n 0 996 (sub (B F_r22_Check) [1, 1, 1, 1]) (retK Tryd.prog (R F_r22_Check) 0 (outK (tightF Tryd.prog F_r22_Check))) ⟨fr 101 [(0, .val (.agg [.int .i64 anum1, .list alinn2 alin3, .int .i64 amil4])), (1, .ptr 0 1 0), (2, .lst true true 102 []), (3, .lst true b7 102 l9)], [bx 101 [(1, some [.val (.int .i64 anum1), .val (.list alinn2 alin3), .val (.int .i64 amil4)])]], KK⟩)

noncomputable def r22_Check_L3 (lb : Bool) (n : Nat) (k103 : Nat) (anum1 : Int) (alinn2 : Bool) (alin3 : List (List CV)) (amil4 : Int) (b73 : Bool) (l74 : List (List CV)) (i75 : Int) : Option CV :=
  hold (loopC (E0 lb n 0 992) 0 (loopTemps (sub (B F_r22_Check) [1, 1, 1, 1, 0, 1, 0, 0]) ++ [6]) [5] (sub (B F_r22_Check) [1, 1, 1, 1, 0, 1, 0, 0]) (blockK 0 (seqK (E0 lb n 0 995) (sub (B F_r22_Check) [1, 1, 1, 1, 0]) (sub (B F_r22_Check) [1, 1, 1, 1, 1]) (retK Tryd.prog (R F_r22_Check) 0 (outK (tightF Tryd.prog F_r22_Check))))) k103 ⟨fr 101 [(0, .val (.agg [.int .i64 anum1, .list alinn2 alin3, .int .i64 amil4])), (1, .ptr 0 1 0), (2, .lst true true 102 []), (3, .lst true b73 102 l74), (4, .val (.int .i64 i75))], [bx 101 [(1, some [.val (.int .i64 anum1), .val (.list alinn2 alin3), .val (.int .i64 amil4)])]], KK⟩)

noncomputable def r22_Check_J4 (lb : Bool) (n : Nat) (k103 : Nat) (anum1 : Int) (alinn2 : Bool) (alin3 : List (List CV)) (amil4 : Int) (i75 : Int) (s108 : List UInt8) (c104 : List CV) (x105 : CV) (x106 : CV) (r107 : CV) (b111 : Bool) (l112 : List (List CV)) : Option CV :=
  hold (E0 lb n 0 986 (sub (B F_r22_Check) [1, 1, 1, 1, 0, 1, 0, 0, 1, 0, 0, 1, 1, 1]) (blockK 1 (seqK (E0 lb n 0 990) (sub (B F_r22_Check) [1, 1, 1, 1, 0, 1, 0, 0, 1, 0]) (sub (B F_r22_Check) [1, 1, 1, 1, 0, 1, 0, 0, 1, 1]) (loopK 0 (loopTemps (sub (B F_r22_Check) [1, 1, 1, 1, 0, 1, 0, 0]) ++ [6]) [5] (loopC (E0 lb n 0 992) 0 (loopTemps (sub (B F_r22_Check) [1, 1, 1, 1, 0, 1, 0, 0]) ++ [6]) [5] (sub (B F_r22_Check) [1, 1, 1, 1, 0, 1, 0, 0]) (blockK 0 (seqK (E0 lb n 0 995) (sub (B F_r22_Check) [1, 1, 1, 1, 0]) (sub (B F_r22_Check) [1, 1, 1, 1, 1]) (retK Tryd.prog (R F_r22_Check) 0 (outK (tightF Tryd.prog F_r22_Check))))) k103) (blockK 0 (seqK (E0 lb n 0 995) (sub (B F_r22_Check) [1, 1, 1, 1, 0]) (sub (B F_r22_Check) [1, 1, 1, 1, 1]) (retK Tryd.prog (R F_r22_Check) 0 (outK (tightF Tryd.prog F_r22_Check)))))))) ⟨fr 101 [(0, .val (.agg [.int .i64 anum1, .list alinn2 alin3, .int .i64 amil4])), (1, .ptr 0 1 0), (2, .lst true true 102 []), (3, .lst true b111 102 l112), (4, .val (.int .i64 i75)), (5, .ptr 0 5 0), (6, .val (.str (([108, 105, 110, 107, 32] : List UInt8) ++ s108))), (40, .ptr 0 1 1), (41, .val (.list alinn2 alin3)), (42, .val (.int .i64 i75)), (43, .cptr c104 0), (44, .val (.agg [x105, x106])), (45, .val (.int .i64 i75)), (46, .val r107), (47, .val (.str (([108, 105, 110, 107, 32] : List UInt8) ++ s108)))], [bx 101 [(1, some [.val (.int .i64 anum1), .val (.list alinn2 alin3), .val (.int .i64 amil4)]), (5, some [.val x105, .val x106])]], KK⟩)

noncomputable def r22_Check_J5 (lb : Bool) (n : Nat) (k103 : Nat) (anum1 : Int) (alinn2 : Bool) (alin3 : List (List CV)) (amil4 : Int) (i75 : Int) (s108 : List UInt8) (c104 : List CV) (x105 : CV) (x106 : CV) (r107 : CV) (b115 : Bool) (l116 : List (List CV)) : Option CV :=
  hold (E0 lb n 0 985 (sub (B F_r22_Check) [1, 1, 1, 1, 0, 1, 0, 0, 1, 0, 0, 1, 1, 1, 1]) (blockK 1 (seqK (E0 lb n 0 990) (sub (B F_r22_Check) [1, 1, 1, 1, 0, 1, 0, 0, 1, 0]) (sub (B F_r22_Check) [1, 1, 1, 1, 0, 1, 0, 0, 1, 1]) (loopK 0 (loopTemps (sub (B F_r22_Check) [1, 1, 1, 1, 0, 1, 0, 0]) ++ [6]) [5] (loopC (E0 lb n 0 992) 0 (loopTemps (sub (B F_r22_Check) [1, 1, 1, 1, 0, 1, 0, 0]) ++ [6]) [5] (sub (B F_r22_Check) [1, 1, 1, 1, 0, 1, 0, 0]) (blockK 0 (seqK (E0 lb n 0 995) (sub (B F_r22_Check) [1, 1, 1, 1, 0]) (sub (B F_r22_Check) [1, 1, 1, 1, 1]) (retK Tryd.prog (R F_r22_Check) 0 (outK (tightF Tryd.prog F_r22_Check))))) k103) (blockK 0 (seqK (E0 lb n 0 995) (sub (B F_r22_Check) [1, 1, 1, 1, 0]) (sub (B F_r22_Check) [1, 1, 1, 1, 1]) (retK Tryd.prog (R F_r22_Check) 0 (outK (tightF Tryd.prog F_r22_Check)))))))) ⟨fr 101 [(0, .val (.agg [.int .i64 anum1, .list alinn2 alin3, .int .i64 amil4])), (1, .ptr 0 1 0), (2, .lst true true 102 []), (3, .lst true b115 102 l116), (4, .val (.int .i64 i75)), (5, .ptr 0 5 0), (6, .val (.str (([108, 105, 110, 107, 32] : List UInt8) ++ s108))), (40, .ptr 0 1 1), (41, .val (.list alinn2 alin3)), (42, .val (.int .i64 i75)), (43, .cptr c104 0), (44, .val (.agg [x105, x106])), (45, .val (.int .i64 i75)), (46, .val r107), (47, .val (.str (([108, 105, 110, 107, 32] : List UInt8) ++ s108)))], [bx 101 [(1, some [.val (.int .i64 anum1), .val (.list alinn2 alin3), .val (.int .i64 amil4)]), (5, some [.val x105, .val x106])]], KK⟩)

theorem r22_Check_J5_eq (lb : Bool) (n : Nat) (k103 : Nat) (anum1 : Int) (alinn2 : Bool) (alin3 : List (List CV)) (amil4 : Int) (i75 : Int) (s108 : List UInt8) (c104 : List CV) (x105 : CV) (x106 : CV) (r107 : CV) (b115 : Bool) (l116 : List (List CV)) :
  r22_Check_J5 lb n k103 anum1 alinn2 alin3 amil4 i75 s108 c104 x105 x106 r107 b115 l116 =
 chkO (alin3.all (·.length == 2)) (
 chkO (decide ((0 : Int) ≤ i75 ∧ i75 ≤ (alin3.length : Int))) (
 optO (C lb n F_r22_Link [.list alinn2 ((alin3.take i75.toNat).drop 0), x105, x106]) fun r117 =>
 optO (CV.asI .i64 r117) fun i118 =>
 bif (decide (i118 ≥ 0)) then
 (chkO (room (l116.length + 1) 24) (
 r22_Check_L3 lb n k103 anum1 alinn2 alin3 amil4 (b115 && false) (l116 ++ [[CV.int .i64 6, CV.str (([108, 105, 110, 107, 32] : List UInt8) ++ s108)]]) (IntKind.wrap .i64 (i75 + 1))))
 else
 (r22_Check_L3 lb n k103 anum1 alinn2 alin3 amil4 b115 l116 (IntKind.wrap .i64 (i75 + 1))))) := (hold_eq _).trans (by kernel_rfl)

theorem r22_Check_J4_eq (lb : Bool) (n : Nat) (k103 : Nat) (anum1 : Int) (alinn2 : Bool) (alin3 : List (List CV)) (amil4 : Int) (i75 : Int) (s108 : List UInt8) (c104 : List CV) (x105 : CV) (x106 : CV) (r107 : CV) (b111 : Bool) (l112 : List (List CV)) :
  r22_Check_J4 lb n k103 anum1 alinn2 alin3 amil4 i75 s108 c104 x105 x106 r107 b111 l112 =
 optO (CV.asS x105) fun s113 =>
 optO (CV.asS x106) fun s114 =>
 bif (s113 == s114) then
 (chkO (room (l112.length + 1) 24) (
 r22_Check_J5 lb n k103 anum1 alinn2 alin3 amil4 i75 s108 c104 x105 x106 r107 (b111 && false) (l112 ++ [[CV.int .i64 2, CV.str (([108, 105, 110, 107, 32] : List UInt8) ++ s108)]])))
 else
 (r22_Check_J5 lb n k103 anum1 alinn2 alin3 amil4 i75 s108 c104 x105 x106 r107 b111 l112) := (hold_eq _).trans (by kernel_rfl)

noncomputable def r22_Check_J6 (lb : Bool) (n : Nat) (anum1 : Int) (alinn2 : Bool) (alin3 : List (List CV)) (amil4 : Int) (b121 : Bool) (l122 : List (List CV)) (i123 : Int) : Option CV :=
  hold (E0 lb n 0 995 (sub (B F_r22_Check) [1, 1, 1, 1, 1]) (retK Tryd.prog (R F_r22_Check) 0 (outK (tightF Tryd.prog F_r22_Check))) ⟨fr 101 [(0, .val (.agg [.int .i64 anum1, .list alinn2 alin3, .int .i64 amil4])), (1, .ptr 0 1 0), (2, .lst true true 102 []), (3, .lst true b121 102 l122), (4, .val (.int .i64 i123))], [bx 101 [(1, some [.val (.int .i64 anum1), .val (.list alinn2 alin3), .val (.int .i64 amil4)])]], KK⟩)

theorem r22_Check_J6_eq (lb : Bool) (n : Nat) (anum1 : Int) (alinn2 : Bool) (alin3 : List (List CV)) (amil4 : Int) (b121 : Bool) (l122 : List (List CV)) (i123 : Int) :
  r22_Check_J6 lb n anum1 alinn2 alin3 amil4 b121 l122 i123 =
 bif (decide (amil4 < 0)) then
 (chkO (room (l122.length + 1) 24) (
 some (.list (b121 && false) (l122 ++ [[CV.int .i64 2, CV.str [109, 105, 108, 101, 115]]]))))
 else
 (bif (decide (amil4 > 99999)) then
 (chkO (room (l122.length + 1) 24) (
 some (.list (b121 && false) (l122 ++ [[CV.int .i64 2, CV.str [109, 105, 108, 101, 115]]]))))
 else
 (some (.list b121 l122))) := (hold_eq _).trans (by kernel_rfl)

theorem r22_Check_L3_succ (lb : Bool) (n k103 : Nat) (anum1 : Int) (alinn2 : Bool) (alin3 : List (List CV)) (amil4 : Int) (b73 : Bool) (l74 : List (List CV)) (i75 : Int) :
  r22_Check_L3 lb n (k103 + 1) anum1 alinn2 alin3 amil4 b73 l74 i75 =
 bif (decide (i75 < (alin3.length : Int))) then
 (bif (decide ((alin3.length : Int) ≤ 128)) then
 (optO (atL alin3 i75) fun c104 =>
 chkO (c104.length == 2) (
 optO (c104[0]?) fun x105 =>
 optO (c104[1]?) fun x106 =>
 optO (C lb n F_r01_Decimal [.int .i64 i75]) fun r107 =>
 optO (CV.asS r107) fun s108 =>
 chkO (decide (([108, 105, 110, 107, 32] : List UInt8).length + s108.length ≤ 9223372036854775807)) (
 optO (C lb n F_r01_Airport [x105]) fun r109 =>
 optO (CV.asB r109) fun b110 =>
 bif (!b110) then
 (chkO (room (l74.length + 1) 24) (
 r22_Check_J4 lb n k103 anum1 alinn2 alin3 amil4 i75 s108 c104 x105 x106 r107 (b73 && false) (l74 ++ [[CV.int .i64 5, CV.str (([108, 105, 110, 107, 32] : List UInt8) ++ s108)]])))
 else
 (optO (C lb n F_r01_Airport [x106]) fun r119 =>
 optO (CV.asB r119) fun b120 =>
 bif (!b120) then
 (chkO (room (l74.length + 1) 24) (
 r22_Check_J4 lb n k103 anum1 alinn2 alin3 amil4 i75 s108 c104 x105 x106 r107 (b73 && false) (l74 ++ [[CV.int .i64 5, CV.str (([108, 105, 110, 107, 32] : List UInt8) ++ s108)]])))
 else
 (r22_Check_J4 lb n k103 anum1 alinn2 alin3 amil4 i75 s108 c104 x105 x106 r107 b73 l74)))))
 else
 (r22_Check_J6 lb n anum1 alinn2 alin3 amil4 b73 l74 i75))
 else
 (r22_Check_J6 lb n anum1 alinn2 alin3 amil4 b73 l74 i75) := (hold_eq _).trans (by kernel_rfl)

theorem r22_Check_L3_zero (lb : Bool) (n : Nat) (anum1 : Int) (alinn2 : Bool) (alin3 : List (List CV)) (amil4 : Int) (b73 : Bool) (l74 : List (List CV)) (i75 : Int) :
  r22_Check_L3 lb n 0 anum1 alinn2 alin3 amil4 b73 l74 i75 =
 none := (hold_eq _).trans (by kernel_rfl)

theorem r22_Check_J2_eq (lb : Bool) (n : Nat) (anum1 : Int) (alinn2 : Bool) (alin3 : List (List CV)) (amil4 : Int) (b7 : Bool) (l9 : List (List CV)) :
  r22_Check_J2 lb n anum1 alinn2 alin3 amil4 b7 l9 =
 r22_Check_L3 lb n n anum1 alinn2 alin3 amil4 b7 l9 0 := (hold_eq _).trans (by kernel_rfl)

theorem r22_Check_J1_eq (lb : Bool) (n : Nat) (anum1 : Int) (alinn2 : Bool) (alin3 : List (List CV)) (amil4 : Int) (b5 : Bool) (l6 : List (List CV)) :
  r22_Check_J1 lb n anum1 alinn2 alin3 amil4 b5 l6 =
 bif (decide ((alin3.length : Int) > 128)) then
 (chkO (room (l6.length + 1) 24) (
 r22_Check_J2 lb n anum1 alinn2 alin3 amil4 (b5 && false) (l6 ++ [[CV.int .i64 4, CV.str [108, 105, 110, 107, 115]]])))
 else
 (r22_Check_J2 lb n anum1 alinn2 alin3 amil4 b5 l6) := (hold_eq _).trans (by kernel_rfl)

theorem r22_Check_eq (lb : Bool) (n : Nat) (anum1 : Int) (alinn2 : Bool) (alin3 : List (List CV)) (amil4 : Int) :
  top lb n F_r22_Check [.agg [.int .i64 anum1, .list alinn2 alin3, .int .i64 amil4]] =
 bif (decide (anum1 < 1)) then
 (r22_Check_J1 lb n anum1 alinn2 alin3 amil4 false [[CV.int .i64 2, CV.str [110, 117, 109, 98, 101, 114]]])
 else
 (bif (decide (anum1 > 9999)) then
 (r22_Check_J1 lb n anum1 alinn2 alin3 amil4 false [[CV.int .i64 2, CV.str [110, 117, 109, 98, 101, 114]]])
 else
 (r22_Check_J1 lb n anum1 alinn2 alin3 amil4 true [])) := by kernel_rfl

/-! airline/routing.Allows -/
noncomputable def routing_Allows_L1 (lb : Bool) (n : Nat) (k22 : Nat) (anum1 : Int) (alinn2 : Bool) (alin3 : List (List CV)) (amil4 : Int) (bn5 : Bool) (b6 : List (List CV)) (i14 : Int) : Option CV :=
  hold (loopC (E0 lb n 0 994) 0 (loopTemps (sub (B F_routing_Allows) [1, 1, 0, 1, 0, 0]) ++ []) [] (sub (B F_routing_Allows) [1, 1, 0, 1, 0, 0]) (blockK 0 (seqK (E0 lb n 0 997) (sub (B F_routing_Allows) [1, 1, 0]) (sub (B F_routing_Allows) [1, 1, 1]) (retK Tryd.prog (R F_routing_Allows) 0 (outK (tightF Tryd.prog F_routing_Allows))))) k22 ⟨fr 30 [(0, .val (.agg [.int .i64 anum1, .list alinn2 alin3, .int .i64 amil4])), (1, .val (.list bn5 b6)), (2, .ptr 0 2 0), (4, .val (.bool false)), (5, .val (.int .i64 i14))], [bx 30 [(2, some [.val (.int .i64 anum1), .val (.list alinn2 alin3), .val (.int .i64 amil4)])]], KK⟩)

noncomputable def routing_Allows_J2 (lb : Bool) (n : Nat) (anum1 : Int) (alinn2 : Bool) (alin3 : List (List CV)) (amil4 : Int) (bn5 : Bool) (b6 : List (List CV)) (i29 : Int) : Option CV :=
  hold (E0 lb n 0 997 (sub (B F_routing_Allows) [1, 1, 1]) (retK Tryd.prog (R F_routing_Allows) 0 (outK (tightF Tryd.prog F_routing_Allows))) ⟨fr 30 [(0, .val (.agg [.int .i64 anum1, .list alinn2 alin3, .int .i64 amil4])), (1, .val (.list bn5 b6)), (2, .ptr 0 2 0), (4, .val (.bool false)), (5, .val (.int .i64 i29))], [bx 30 [(2, some [.val (.int .i64 anum1), .val (.list alinn2 alin3), .val (.int .i64 amil4)])]], KK⟩)

theorem routing_Allows_J2_eq (lb : Bool) (n : Nat) (anum1 : Int) (alinn2 : Bool) (alin3 : List (List CV)) (amil4 : Int) (bn5 : Bool) (b6 : List (List CV)) (i29 : Int) :
  routing_Allows_J2 lb n anum1 alinn2 alin3 amil4 bn5 b6 i29 =
 some (.bool true) := (hold_eq _).trans (by kernel_rfl)

theorem routing_Allows_L1_succ (lb : Bool) (n k22 : Nat) (anum1 : Int) (alinn2 : Bool) (alin3 : List (List CV)) (amil4 : Int) (bn5 : Bool) (b6 : List (List CV)) (i14 : Int) :
  routing_Allows_L1 lb n (k22 + 1) anum1 alinn2 alin3 amil4 bn5 b6 i14 =
 bif (decide (i14 < (b6.length : Int))) then
 (optO (atL b6 (IntKind.wrap .i64 (i14 - 1))) fun c23 =>
 chkO (c23.length == 1) (
 optO (c23[0]?) fun x24 =>
 optO (atL b6 i14) fun c25 =>
 chkO (c25.length == 1) (
 optO (c25[0]?) fun x26 =>
 chkO (CV.isCell x24) (
 chkO (CV.isCell x26) (
 optO (C lb n F_slices_Contains_api_Link [.list alinn2 alin3, .agg [x24, x26]]) fun r27 =>
 optO (CV.asB r27) fun b28 =>
 bif (!b28) then
 (some (.bool false))
 else
 (routing_Allows_L1 lb n k22 anum1 alinn2 alin3 amil4 bn5 b6 (IntKind.wrap .i64 (i14 + 1))))))))
 else
 (routing_Allows_J2 lb n anum1 alinn2 alin3 amil4 bn5 b6 i14) := (hold_eq _).trans (by kernel_rfl)

theorem routing_Allows_L1_zero (lb : Bool) (n : Nat) (anum1 : Int) (alinn2 : Bool) (alin3 : List (List CV)) (amil4 : Int) (bn5 : Bool) (b6 : List (List CV)) (i14 : Int) :
  routing_Allows_L1 lb n 0 anum1 alinn2 alin3 amil4 bn5 b6 i14 =
 none := (hold_eq _).trans (by kernel_rfl)

theorem routing_Allows_eq (lb : Bool) (n : Nat) (anum1 : Int) (alinn2 : Bool) (alin3 : List (List CV)) (amil4 : Int) (bn5 : Bool) (b6 : List (List CV)) :
  top lb n F_routing_Allows [.agg [.int .i64 anum1, .list alinn2 alin3, .int .i64 amil4], .list bn5 b6] =
 bif ((alin3.length : Int) == 0) then
 (some (.bool true))
 else
 (routing_Allows_L1 lb n n anum1 alinn2 alin3 amil4 bn5 b6 1) := by kernel_rfl

/-! airline/airlineref22.Allows -/
noncomputable def r22_Allows_L1 (lb : Bool) (n : Nat) (k22 : Nat) (anum1 : Int) (alinn2 : Bool) (alin3 : List (List CV)) (amil4 : Int) (bn5 : Bool) (b6 : List (List CV)) (i14 : Int) : Option CV :=
  hold (loopC (E0 lb n 0 995) 0 (loopTemps (sub (B F_r22_Allows) [1, 0, 1, 0, 0]) ++ []) [] (sub (B F_r22_Allows) [1, 0, 1, 0, 0]) (blockK 0 (seqK (E0 lb n 0 998) (sub (B F_r22_Allows) [1, 0]) (sub (B F_r22_Allows) [1, 1]) (retK Tryd.prog (R F_r22_Allows) 0 (outK (tightF Tryd.prog F_r22_Allows))))) k22 ⟨fr 31 [(0, .val (.agg [.int .i64 anum1, .list alinn2 alin3, .int .i64 amil4])), (1, .val (.list bn5 b6)), (2, .ptr 0 2 0), (4, .val (.bool false)), (5, .val (.int .i64 i14))], [bx 31 [(2, some [.val (.int .i64 anum1), .val (.list alinn2 alin3), .val (.int .i64 amil4)])]], KK⟩)

noncomputable def r22_Allows_J2 (lb : Bool) (n : Nat) (anum1 : Int) (alinn2 : Bool) (alin3 : List (List CV)) (amil4 : Int) (bn5 : Bool) (b6 : List (List CV)) (i29 : Int) : Option CV :=
  hold (E0 lb n 0 998 (sub (B F_r22_Allows) [1, 1]) (retK Tryd.prog (R F_r22_Allows) 0 (outK (tightF Tryd.prog F_r22_Allows))) ⟨fr 31 [(0, .val (.agg [.int .i64 anum1, .list alinn2 alin3, .int .i64 amil4])), (1, .val (.list bn5 b6)), (2, .ptr 0 2 0), (4, .val (.bool false)), (5, .val (.int .i64 i29))], [bx 31 [(2, some [.val (.int .i64 anum1), .val (.list alinn2 alin3), .val (.int .i64 amil4)])]], KK⟩)

theorem r22_Allows_J2_eq (lb : Bool) (n : Nat) (anum1 : Int) (alinn2 : Bool) (alin3 : List (List CV)) (amil4 : Int) (bn5 : Bool) (b6 : List (List CV)) (i29 : Int) :
  r22_Allows_J2 lb n anum1 alinn2 alin3 amil4 bn5 b6 i29 =
 some (.bool true) := (hold_eq _).trans (by kernel_rfl)

theorem r22_Allows_L1_succ (lb : Bool) (n k22 : Nat) (anum1 : Int) (alinn2 : Bool) (alin3 : List (List CV)) (amil4 : Int) (bn5 : Bool) (b6 : List (List CV)) (i14 : Int) :
  r22_Allows_L1 lb n (k22 + 1) anum1 alinn2 alin3 amil4 bn5 b6 i14 =
 bif (decide (i14 < (b6.length : Int))) then
 (bif (decide ((alin3.length : Int) > 0)) then
 (optO (atL b6 (IntKind.wrap .i64 (i14 - 1))) fun c23 =>
 chkO (c23.length == 1) (
 optO (c23[0]?) fun x24 =>
 optO (atL b6 i14) fun c25 =>
 chkO (c25.length == 1) (
 optO (c25[0]?) fun x26 =>
 optO (C lb n F_r22_Link [.list alinn2 alin3, x24, x26]) fun r27 =>
 optO (CV.asI .i64 r27) fun i28 =>
 bif (decide (i28 < 0)) then
 (some (.bool false))
 else
 (r22_Allows_L1 lb n k22 anum1 alinn2 alin3 amil4 bn5 b6 (IntKind.wrap .i64 (i14 + 1))))))
 else
 (r22_Allows_J2 lb n anum1 alinn2 alin3 amil4 bn5 b6 i14))
 else
 (r22_Allows_J2 lb n anum1 alinn2 alin3 amil4 bn5 b6 i14) := (hold_eq _).trans (by kernel_rfl)

theorem r22_Allows_L1_zero (lb : Bool) (n : Nat) (anum1 : Int) (alinn2 : Bool) (alin3 : List (List CV)) (amil4 : Int) (bn5 : Bool) (b6 : List (List CV)) (i14 : Int) :
  r22_Allows_L1 lb n 0 anum1 alinn2 alin3 amil4 bn5 b6 i14 =
 none := (hold_eq _).trans (by kernel_rfl)

theorem r22_Allows_eq (lb : Bool) (n : Nat) (anum1 : Int) (alinn2 : Bool) (alin3 : List (List CV)) (amil4 : Int) (bn5 : Bool) (b6 : List (List CV)) :
  top lb n F_r22_Allows [.agg [.int .i64 anum1, .list alinn2 alin3, .int .i64 amil4], .list bn5 b6] =
 r22_Allows_L1 lb n n anum1 alinn2 alin3 amil4 bn5 b6 1 := by kernel_rfl

/-! airline/routing.link -/
noncomputable def routing_link_J1 (lb : Bool) (n : Nat) (an1 : Bool) (a2 : List (List CV)) (b3 : Int) (c4 : List CV) (x5 : CV) (x6 : CV) (b10 : Bool) (l11 : List (List CV)) : Option CV :=
  hold (E0 lb n 0 996 (sub (B F_routing_link) [1, 1, 1, 1]) (retK Tryd.prog (R F_routing_link) 0 (outK (tightF Tryd.prog F_routing_link))) ⟨fr 41 [(0, .val (.list an1 a2)), (1, .val (.int .i64 b3)), (4, .lst true true 27 []), (5, .lst true b10 27 l11), (6, .ptr 0 6 0), (7, .val (.list an1 a2)), (8, .val (.int .i64 b3)), (9, .cptr c4 0), (10, .val (.agg [x5, x6]))], [bx 41 [(6, some [.val x5, .val x6])]], KK⟩)

noncomputable def routing_link_J2 (lb : Bool) (n : Nat) (an1 : Bool) (a2 : List (List CV)) (b3 : Int) (c4 : List CV) (x5 : CV) (x6 : CV) (b14 : Bool) (l15 : List (List CV)) : Option CV :=
  hold (E0 lb n 0 995 (sub (B F_routing_link) [1, 1, 1, 1, 1]) (retK Tryd.prog (R F_routing_link) 0 (outK (tightF Tryd.prog F_routing_link))) ⟨fr 41 [(0, .val (.list an1 a2)), (1, .val (.int .i64 b3)), (4, .lst true true 27 []), (5, .lst true b14 27 l15), (6, .ptr 0 6 0), (7, .val (.list an1 a2)), (8, .val (.int .i64 b3)), (9, .cptr c4 0), (10, .val (.agg [x5, x6]))], [bx 41 [(6, some [.val x5, .val x6])]], KK⟩)

theorem routing_link_J2_eq (lb : Bool) (n : Nat) (an1 : Bool) (a2 : List (List CV)) (b3 : Int) (c4 : List CV) (x5 : CV) (x6 : CV) (b14 : Bool) (l15 : List (List CV)) :
  routing_link_J2 lb n an1 a2 b3 c4 x5 x6 b14 l15 =
 chkO (a2.all (·.length == 2)) (
 chkO (decide ((0 : Int) ≤ b3 ∧ b3 ≤ (a2.length : Int))) (
 optO (C lb n F_slices_Contains_api_Link [.list an1 ((a2.take b3.toNat).drop 0), .agg [x5, x6]]) fun r17 =>
 optO (CV.asB r17) fun b18 =>
 bif b18 then
 (chkO (room (l15.length + 1) 8) (
 some (.list (b14 && false) (l15 ++ [[CV.int .i64 6]]))))
 else
 (some (.list b14 l15)))) := (hold_eq _).trans (by kernel_rfl)

theorem routing_link_J1_eq (lb : Bool) (n : Nat) (an1 : Bool) (a2 : List (List CV)) (b3 : Int) (c4 : List CV) (x5 : CV) (x6 : CV) (b10 : Bool) (l11 : List (List CV)) :
  routing_link_J1 lb n an1 a2 b3 c4 x5 x6 b10 l11 =
 optO (CV.asS x5) fun s12 =>
 optO (CV.asS x6) fun s13 =>
 bif (s12 == s13) then
 (chkO (room (l11.length + 1) 8) (
 routing_link_J2 lb n an1 a2 b3 c4 x5 x6 (b10 && false) (l11 ++ [[CV.int .i64 2]])))
 else
 (routing_link_J2 lb n an1 a2 b3 c4 x5 x6 b10 l11) := (hold_eq _).trans (by kernel_rfl)

theorem routing_link_eq (lb : Bool) (n : Nat) (an1 : Bool) (a2 : List (List CV)) (b3 : Int) :
  top lb n F_routing_link [.list an1 a2, .int .i64 b3] =
 optO (atL a2 b3) fun c4 =>
 chkO (c4.length == 2) (
 optO (c4[0]?) fun x5 =>
 optO (c4[1]?) fun x6 =>
 optO (C lb n F_text_Airport [x5]) fun r7 =>
 optO (CV.asB r7) fun b9 =>
 bif (!b9) then
 (routing_link_J1 lb n an1 a2 b3 c4 x5 x6 false [[CV.int .i64 5]])
 else
 (optO (C lb n F_text_Airport [x6]) fun r19 =>
 optO (CV.asB r19) fun b20 =>
 bif (!b20) then
 (routing_link_J1 lb n an1 a2 b3 c4 x5 x6 false [[CV.int .i64 5]])
 else
 (routing_link_J1 lb n an1 a2 b3 c4 x5 x6 true []))) := by kernel_rfl

/-! airline/airlineref22.Link -/
noncomputable def r22_Link_L1 (lb : Bool) (n : Nat) (k21 : Nat) (an1 : Bool) (a2 : List (List CV)) (b3 : List UInt8) (c4 : List UInt8) (i13 : Int) : Option CV :=
  hold (loopC (E0 lb n 0 995) 0 (loopTemps (sub (B F_r22_Link) [1, 0, 1, 0, 0]) ++ []) [] (sub (B F_r22_Link) [1, 0, 1, 0, 0]) (blockK 0 (seqK (E0 lb n 0 998) (sub (B F_r22_Link) [1, 0]) (sub (B F_r22_Link) [1, 1]) (retK Tryd.prog (R F_r22_Link) 0 (outK (tightF Tryd.prog F_r22_Link))))) k21 ⟨fr 31 [(0, .val (.list an1 a2)), (1, .val (.str b3)), (2, .val (.str c4)), (6, .val (.int .i64 0)), (7, .val (.int .i64 i13))], [bx 31 []], KK⟩)

noncomputable def r22_Link_J2 (lb : Bool) (n : Nat) (an1 : Bool) (a2 : List (List CV)) (b3 : List UInt8) (c4 : List UInt8) (i28 : Int) : Option CV :=
  hold (E0 lb n 0 998 (sub (B F_r22_Link) [1, 1]) (retK Tryd.prog (R F_r22_Link) 0 (outK (tightF Tryd.prog F_r22_Link))) ⟨fr 31 [(0, .val (.list an1 a2)), (1, .val (.str b3)), (2, .val (.str c4)), (6, .val (.int .i64 0)), (7, .val (.int .i64 i28))], [bx 31 []], KK⟩)

theorem r22_Link_J2_eq (lb : Bool) (n : Nat) (an1 : Bool) (a2 : List (List CV)) (b3 : List UInt8) (c4 : List UInt8) (i28 : Int) :
  r22_Link_J2 lb n an1 a2 b3 c4 i28 =
 some (.int .i64 (-1)) := (hold_eq _).trans (by kernel_rfl)

theorem r22_Link_L1_succ (lb : Bool) (n k21 : Nat) (an1 : Bool) (a2 : List (List CV)) (b3 : List UInt8) (c4 : List UInt8) (i13 : Int) :
  r22_Link_L1 lb n (k21 + 1) an1 a2 b3 c4 i13 =
 bif (decide (i13 < (a2.length : Int))) then
 (optO (atL a2 i13) fun c22 =>
 chkO (c22.length == 2) (
 optO (c22[0]?) fun x23 =>
 optO (CV.asS x23) fun s24 =>
 bif (s24 == b3) then
 (optO (atL a2 i13) fun c25 =>
 chkO (c25.length == 2) (
 optO (c25[1]?) fun x26 =>
 optO (CV.asS x26) fun s27 =>
 bif (s27 == c4) then
 (some (.int .i64 i13))
 else
 (r22_Link_L1 lb n k21 an1 a2 b3 c4 (IntKind.wrap .i64 (i13 + 1)))))
 else
 (r22_Link_L1 lb n k21 an1 a2 b3 c4 (IntKind.wrap .i64 (i13 + 1)))))
 else
 (r22_Link_J2 lb n an1 a2 b3 c4 i13) := (hold_eq _).trans (by kernel_rfl)

theorem r22_Link_L1_zero (lb : Bool) (n : Nat) (an1 : Bool) (a2 : List (List CV)) (b3 : List UInt8) (c4 : List UInt8) (i13 : Int) :
  r22_Link_L1 lb n 0 an1 a2 b3 c4 i13 =
 none := (hold_eq _).trans (by kernel_rfl)

theorem r22_Link_eq (lb : Bool) (n : Nat) (an1 : Bool) (a2 : List (List CV)) (b3 : List UInt8) (c4 : List UInt8) :
  top lb n F_r22_Link [.list an1 a2, .str b3, .str c4] =
 r22_Link_L1 lb n n an1 a2 b3 c4 0 := by kernel_rfl

/-! slices.Contains[[]airline/api.Link,airline/api.Link] -/
theorem slices_Contains_api_Link_eq (lb : Bool) (n : Nat) (an1 : Bool) (a2 : List (List CV)) (bfro3 : List UInt8) (bto4 : List UInt8) :
  top lb n F_slices_Contains_api_Link [.list an1 a2, .agg [.str bfro3, .str bto4]] =
 optO (C lb n F_slices_Index_api_Link [.list an1 a2, .agg [.str bfro3, .str bto4]]) fun r5 =>
 optO (CV.asI .i64 r5) fun i6 =>
 some (.bool (decide (i6 ≥ 0))) := by kernel_rfl

/-! slices.Index[[]airline/api.Link,airline/api.Link] -/
noncomputable def slices_Index_api_Link_L1 (lb : Bool) (n : Nat) (k18 : Nat) (an1 : Bool) (a2 : List (List CV)) (bfro3 : List UInt8) (bto4 : List UInt8) (i11 : Int) : Option CV :=
  hold (loopC (E0 lb n 0 995) 0 (loopTemps (sub (B F_slices_Index_api_Link) [1, 0, 1, 0, 0]) ++ [5]) [] (sub (B F_slices_Index_api_Link) [1, 0, 1, 0, 0]) (blockK 0 (seqK (E0 lb n 0 998) (sub (B F_slices_Index_api_Link) [1, 0]) (sub (B F_slices_Index_api_Link) [1, 1]) (retK Tryd.prog (R F_slices_Index_api_Link) 0 (outK (tightF Tryd.prog F_slices_Index_api_Link))))) k18 ⟨fr 19 [(0, .val (.list an1 a2)), (1, .val (.agg [.str bfro3, .str bto4])), (3, .ptr 0 3 0), (4, .val (.int .i64 0)), (6, .val (.list an1 a2)), (7, .val (.int .i64 (a2.length : Int))), (8, .val (.int .i64 i11))], [bx 19 [(3, some [.val (.str bfro3), .val (.str bto4)])]], KK⟩)

noncomputable def slices_Index_api_Link_J2 (lb : Bool) (n : Nat) (an1 : Bool) (a2 : List (List CV)) (bfro3 : List UInt8) (bto4 : List UInt8) : Option CV :=
  hold (E0 lb n 0 998 (sub (B F_slices_Index_api_Link) [1, 1]) (retK Tryd.prog (R F_slices_Index_api_Link) 0 (outK (tightF Tryd.prog F_slices_Index_api_Link))) ⟨fr 19 [(0, .val (.list an1 a2)), (1, .val (.agg [.str bfro3, .str bto4])), (3, .ptr 0 3 0), (4, .val (.int .i64 0))], [bx 19 [(3, some [.val (.str bfro3), .val (.str bto4)])]], KK⟩)

theorem slices_Index_api_Link_J2_eq (lb : Bool) (n : Nat) (an1 : Bool) (a2 : List (List CV)) (bfro3 : List UInt8) (bto4 : List UInt8) :
  slices_Index_api_Link_J2 lb n an1 a2 bfro3 bto4 =
 some (.int .i64 (-1)) := (hold_eq _).trans (by kernel_rfl)

theorem slices_Index_api_Link_L1_succ (lb : Bool) (n k18 : Nat) (an1 : Bool) (a2 : List (List CV)) (bfro3 : List UInt8) (bto4 : List UInt8) (i11 : Int) :
  slices_Index_api_Link_L1 lb n (k18 + 1) an1 a2 bfro3 bto4 i11 =
 bif (decide (i11 < (a2.length : Int))) then
 (optO (atL a2 i11) fun c19 =>
 chkO (c19.length == 2) (
 optO (c19[0]?) fun x20 =>
 optO (c19[1]?) fun x21 =>
 optO (CV.asS x20) fun s22 =>
 optO (CV.asS x21) fun s23 =>
 bif ((bfro3 == s22) && ((bto4 == s23) && true)) then
 (some (.int .i64 i11))
 else
 (slices_Index_api_Link_L1 lb n k18 an1 a2 bfro3 bto4 (IntKind.wrap .i64 (i11 + 1)))))
 else
 (slices_Index_api_Link_J2 lb n an1 a2 bfro3 bto4 ) := (hold_eq _).trans (by kernel_rfl)

theorem slices_Index_api_Link_L1_zero (lb : Bool) (n : Nat) (an1 : Bool) (a2 : List (List CV)) (bfro3 : List UInt8) (bto4 : List UInt8) (i11 : Int) :
  slices_Index_api_Link_L1 lb n 0 an1 a2 bfro3 bto4 i11 =
 none := (hold_eq _).trans (by kernel_rfl)

theorem slices_Index_api_Link_eq (lb : Bool) (n : Nat) (an1 : Bool) (a2 : List (List CV)) (bfro3 : List UInt8) (bto4 : List UInt8) :
  top lb n F_slices_Index_api_Link [.list an1 a2, .agg [.str bfro3, .str bto4]] =
 slices_Index_api_Link_L1 lb n n an1 a2 bfro3 bto4 0 := by kernel_rfl

end Go.Proofs
