/- Equations of functions, printed by program. Conditions: none. -/
import Derived.Test.YtiffhngfneikoaaDoorEv
namespace Go.Proofs
open Go.Am
set_option maxRecDepth 100000
set_option linter.unusedVariables false
/-! airline/airlinelaw22.RoutingTexts -/
noncomputable def l22_RoutingTexts_J1 (lb : Bool) (n : Nat) (anum1 : Int) (alinn2 : Bool) (alin3 : List (List CV)) (amil4 : Int) (b5 : List UInt8) (x13 : CV) (x15 : CV) (x19 : CV) (x21 : CV) (x26 : CV) (x36 : CV) (r11 : CV) (r17 : CV) (r22 : CV) (x24 : CV) (r31 : CV) (x34 : CV) (x28 : CV) (x29 : CV) (x30 : CV) (x38 : CV) (x39 : CV) (x40 : CV) (v57 : CV) (v58 : CV) : Option CV :=
  hold (E0 lb n 0 992 (sub (B F_l22_RoutingTexts) [1, 1, 1, 1, 1, 1, 1, 1]) (retK Tryd.prog (R F_l22_RoutingTexts) 0 (outK (tightF Tryd.prog F_l22_RoutingTexts))) ⟨fr 100 [(0, .val (.agg [.int .i64 anum1, .list alinn2 alin3, .int .i64 amil4])), (1, .val (.str b5)), (2, .ptr 0 2 0), (4, .val (.bool false)), (5, .val x13), (6, .val x15), (7, .val x19), (8, .val x21), (9, .ptr 0 9 0), (10, .val x26), (11, .ptr 0 11 0), (12, .val x36), (13, .val v57), (14, .val v58), (25, .val r11), (26, .val (.agg [.int .i64 anum1, .list alinn2 alin3, .int .i64 amil4])), (27, .val r11), (28, .val x13), (29, .val x15), (30, .val r17), (31, .val (.agg [.int .i64 anum1, .list alinn2 alin3, .int .i64 amil4])), (32, .val r17), (33, .val x19), (34, .val x21), (35, .val r22), (36, .val (.str b5)), (37, .val r22), (38, .val x24), (39, .val x26), (40, .val r31), (41, .val (.str b5)), (42, .val r31), (43, .val x34), (44, .val x36)], [bx 100 [(2, some [.val (.int .i64 anum1), .val (.list alinn2 alin3), .val (.int .i64 amil4)]), (9, some [.val x28, .val x29, .val x30]), (11, some [.val x38, .val x39, .val x40])]], KK⟩)

theorem l22_RoutingTexts_J1_eq (lb : Bool) (n : Nat) (anum1 : Int) (alinn2 : Bool) (alin3 : List (List CV)) (amil4 : Int) (b5 : List UInt8) (x13 : CV) (x15 : CV) (x19 : CV) (x21 : CV) (x26 : CV) (x36 : CV) (r11 : CV) (r17 : CV) (r22 : CV) (x24 : CV) (r31 : CV) (x34 : CV) (x28 : CV) (x29 : CV) (x30 : CV) (x38 : CV) (x39 : CV) (x40 : CV) (v57 : CV) (v58 : CV) :
  l22_RoutingTexts_J1 lb n anum1 alinn2 alin3 amil4 b5 x13 x15 x19 x21 x26 x36 r11 r17 r22 x24 r31 x34 x28 x29 x30 x38 x39 x40 v57 v58 =
 optO (CV.asI .i64 x15) fun i59 =>
 bif (i59 != 0) then
 (optO (CV.asS x13) fun s60 =>
 bif (s60 == []) then
 (optO (C lb n F_l22_awake []) fun r61 =>
 some (r61))
 else
 (some (.bool false)))
 else
 (optO (C lb n F_routing_Parse [x13]) fun r62 =>
 optO (CV.asT r62) fun t63 =>
 optO (t63[0]?) fun x65 =>
 optO (CV.asT r62) fun t66 =>
 optO (t66[1]?) fun x67 =>
 optO (CV.asA x65) fun c68 =>
 chkO (c68.length == 3) (
 optO (c68[0]?) fun x69 =>
 optO (c68[1]?) fun x70 =>
 optO (c68[2]?) fun x71 =>
 optO (C lb n F_r22_Same [.agg [x69, x70, x71], .agg [.int .i64 anum1, .list alinn2 alin3, .int .i64 amil4]]) fun r72 =>
 optO (CV.asB r72) fun b73 =>
 bif b73 then
 (optO (CV.asI .i64 x67) fun i74 =>
 bif (i74 == 0) then
 (optO (C lb n F_l22_awake []) fun r75 =>
 some (r75))
 else
 (some (.bool false)))
 else
 (some (.bool false)))) := (hold_eq _).trans (by kernel_rfl)

noncomputable def l22_RoutingTexts_J2 (lb : Bool) (n : Nat) (anum1 : Int) (alinn2 : Bool) (alin3 : List (List CV)) (amil4 : Int) (b5 : List UInt8) (x13 : CV) (x15 : CV) (x19 : CV) (x21 : CV) (x26 : CV) (x36 : CV) (r11 : CV) (r17 : CV) (r22 : CV) (x24 : CV) (r31 : CV) (x34 : CV) (x28 : CV) (x29 : CV) (x30 : CV) (x38 : CV) (x39 : CV) (x40 : CV) : Option CV :=
  hold (E0 lb n 0 992 (sub (B F_l22_RoutingTexts) [1, 1, 1, 1, 1, 1, 1, 1]) (retK Tryd.prog (R F_l22_RoutingTexts) 0 (outK (tightF Tryd.prog F_l22_RoutingTexts))) ⟨fr 100 [(0, .val (.agg [.int .i64 anum1, .list alinn2 alin3, .int .i64 amil4])), (1, .val (.str b5)), (2, .ptr 0 2 0), (4, .val (.bool false)), (5, .val x13), (6, .val x15), (7, .val x19), (8, .val x21), (9, .ptr 0 9 0), (10, .val x26), (11, .ptr 0 11 0), (12, .val x36), (25, .val r11), (26, .val (.agg [.int .i64 anum1, .list alinn2 alin3, .int .i64 amil4])), (27, .val r11), (28, .val x13), (29, .val x15), (30, .val r17), (31, .val (.agg [.int .i64 anum1, .list alinn2 alin3, .int .i64 amil4])), (32, .val r17), (33, .val x19), (34, .val x21), (35, .val r22), (36, .val (.str b5)), (37, .val r22), (38, .val x24), (39, .val x26), (40, .val r31), (41, .val (.str b5)), (42, .val r31), (43, .val x34), (44, .val x36)], [bx 100 [(2, some [.val (.int .i64 anum1), .val (.list alinn2 alin3), .val (.int .i64 amil4)]), (9, some [.val x28, .val x29, .val x30]), (11, some [.val x38, .val x39, .val x40])]], KK⟩)

theorem l22_RoutingTexts_J2_eq (lb : Bool) (n : Nat) (anum1 : Int) (alinn2 : Bool) (alin3 : List (List CV)) (amil4 : Int) (b5 : List UInt8) (x13 : CV) (x15 : CV) (x19 : CV) (x21 : CV) (x26 : CV) (x36 : CV) (r11 : CV) (r17 : CV) (r22 : CV) (x24 : CV) (r31 : CV) (x34 : CV) (x28 : CV) (x29 : CV) (x30 : CV) (x38 : CV) (x39 : CV) (x40 : CV) :
  l22_RoutingTexts_J2 lb n anum1 alinn2 alin3 amil4 b5 x13 x15 x19 x21 x26 x36 r11 r17 r22 x24 r31 x34 x28 x29 x30 x38 x39 x40 =
 optO (CV.asI .i64 x15) fun i76 =>
 bif (i76 != 0) then
 (optO (CV.asS x13) fun s77 =>
 bif (s77 == []) then
 (optO (C lb n F_l22_awake []) fun r78 =>
 some (r78))
 else
 (some (.bool false)))
 else
 (optO (C lb n F_routing_Parse [x13]) fun r79 =>
 optO (CV.asT r79) fun t80 =>
 optO (t80[0]?) fun x81 =>
 optO (CV.asT r79) fun t82 =>
 optO (t82[1]?) fun x83 =>
 optO (CV.asA x81) fun c84 =>
 chkO (c84.length == 3) (
 optO (c84[0]?) fun x85 =>
 optO (c84[1]?) fun x86 =>
 optO (c84[2]?) fun x87 =>
 optO (C lb n F_r22_Same [.agg [x85, x86, x87], .agg [.int .i64 anum1, .list alinn2 alin3, .int .i64 amil4]]) fun r88 =>
 optO (CV.asB r88) fun b89 =>
 bif b89 then
 (optO (CV.asI .i64 x83) fun i90 =>
 bif (i90 == 0) then
 (optO (C lb n F_l22_awake []) fun r91 =>
 some (r91))
 else
 (some (.bool false)))
 else
 (some (.bool false)))) := (hold_eq _).trans (by kernel_rfl)

theorem l22_RoutingTexts_eq (lb : Bool) (n : Nat) (anum1 : Int) (alinn2 : Bool) (alin3 : List (List CV)) (amil4 : Int) (b5 : List UInt8) :
  top lb n F_l22_RoutingTexts [.agg [.int .i64 anum1, .list alinn2 alin3, .int .i64 amil4], .str b5] =
 optO (C lb n F_l22_big [.agg [.int .i64 anum1, .list alinn2 alin3, .int .i64 amil4]]) fun r6 =>
 optO (CV.asB r6) fun b7 =>
 bif b7 then
 (optO (C lb n F_l22_awake []) fun r9 =>
 some (r9))
 else
 (bif (decide ((b5.length : Int) > 400)) then
 (optO (C lb n F_l22_awake []) fun r10 =>
 some (r10))
 else
 (optO (C lb n F_routing_Print [.agg [.int .i64 anum1, .list alinn2 alin3, .int .i64 amil4]]) fun r11 =>
 optO (CV.asT r11) fun t12 =>
 optO (t12[0]?) fun x13 =>
 optO (CV.asT r11) fun t14 =>
 optO (t14[1]?) fun x15 =>
 optO (C lb n F_r22_Print [.agg [.int .i64 anum1, .list alinn2 alin3, .int .i64 amil4]]) fun r17 =>
 optO (CV.asT r17) fun t18 =>
 optO (t18[0]?) fun x19 =>
 optO (CV.asT r17) fun t20 =>
 optO (t20[1]?) fun x21 =>
 optO (C lb n F_routing_Parse [.str b5]) fun r22 =>
 optO (CV.asT r22) fun t23 =>
 optO (t23[0]?) fun x24 =>
 optO (CV.asT r22) fun t25 =>
 optO (t25[1]?) fun x26 =>
 optO (CV.asA x24) fun c27 =>
 chkO (c27.length == 3) (
 optO (c27[0]?) fun x28 =>
 optO (c27[1]?) fun x29 =>
 optO (c27[2]?) fun x30 =>
 optO (C lb n F_r22_Parse [.str b5]) fun r31 =>
 optO (CV.asT r31) fun t33 =>
 optO (t33[0]?) fun x34 =>
 optO (CV.asT r31) fun t35 =>
 optO (t35[1]?) fun x36 =>
 optO (CV.asA x34) fun c37 =>
 chkO (c37.length == 3) (
 optO (c37[0]?) fun x38 =>
 optO (c37[1]?) fun x39 =>
 optO (c37[2]?) fun x40 =>
 optO (CV.asS x13) fun s41 =>
 optO (CV.asS x19) fun s42 =>
 bif (!(s41 == s42)) then
 (some (.bool false))
 else
 (optO (CV.asI .i64 x15) fun i43 =>
 optO (CV.asI .i64 x21) fun i44 =>
 bif (i43 != i44) then
 (some (.bool false))
 else
 (optO (C lb n F_r22_Same [.agg [x28, x29, x30], .agg [x38, x39, x40]]) fun r45 =>
 optO (CV.asB r45) fun b46 =>
 bif (!b46) then
 (some (.bool false))
 else
 (optO (CV.asI .i64 x26) fun i47 =>
 optO (CV.asI .i64 x36) fun i48 =>
 bif (i47 != i48) then
 (some (.bool false))
 else
 (optO (CV.asI .i64 x26) fun i49 =>
 bif (i49 == 0) then
 (optO (C lb n F_routing_Print [.agg [x28, x29, x30]]) fun r50 =>
 optO (CV.asT r50) fun t51 =>
 optO (t51[0]?) fun x52 =>
 optO (CV.asT r50) fun t53 =>
 optO (t53[1]?) fun x54 =>
 optO (CV.asS x52) fun s55 =>
 bif (!(s55 == b5)) then
 (some (.bool false))
 else
 (optO (CV.asI .i64 x54) fun i56 =>
 bif (i56 != 0) then
 (some (.bool false))
 else
 (l22_RoutingTexts_J1 lb n anum1 alinn2 alin3 amil4 b5 x13 x15 x19 x21 x26 x36 r11 r17 r22 x24 r31 x34 x28 x29 x30 x38 x39 x40 x52 x54)))
 else
 (l22_RoutingTexts_J2 lb n anum1 alinn2 alin3 amil4 b5 x13 x15 x19 x21 x26 x36 r11 r17 r22 x24 r31 x34 x28 x29 x30 x38 x39 x40 ))))))))) := by kernel_rfl

/-! airline/routing.Print -/
noncomputable def routing_Print_L1 (lb : Bool) (n : Nat) (k26 : Nat) (anum1 : Int) (alinn2 : Bool) (alin3 : List (List CV)) (amil4 : Int) (r5 : CV) (r11 : CV) (r12 : CV) (l19 : List (List CV)) (i20 : Int) : Option CV :=
  hold (loopC (E0 lb n 0 993) 0 (loopTemps (sub (B F_routing_Print) [1, 1, 1, 0, 1, 0, 0]) ++ []) [7] (sub (B F_routing_Print) [1, 1, 1, 0, 1, 0, 0]) (blockK 0 (seqK (E0 lb n 0 996) (sub (B F_routing_Print) [1, 1, 1, 0]) (sub (B F_routing_Print) [1, 1, 1, 1]) (retK Tryd.prog (R F_routing_Print) 0 (outK (tightF Tryd.prog F_routing_Print))))) k26 ⟨fr 43 [(0, .val (.agg [.int .i64 anum1, .list alinn2 alin3, .int .i64 amil4])), (1, .ptr 0 1 0), (2, .val (.str [])), (3, .val (.int .i64 0)), (4, .val r5), (5, .lst true false 9 l19), (17, .ptr 0 1 0), (18, .val (.int .i64 anum1)), (19, .val r11), (20, .ptr 0 1 2), (21, .val (.int .i64 amil4)), (22, .val r12), (23, .val (.list false [[r11], [r12]])), (24, .ptr 0 1 1), (25, .val (.list alinn2 alin3)), (26, .val (.int .i64 (alin3.length : Int))), (27, .val (.int .i64 i20))], [bx 43 [(1, some [.val (.int .i64 anum1), .val (.list alinn2 alin3), .val (.int .i64 amil4)])]], KK⟩)

noncomputable def routing_Print_J2 (lb : Bool) (n : Nat) (anum1 : Int) (alinn2 : Bool) (alin3 : List (List CV)) (amil4 : Int) (r5 : CV) (r11 : CV) (r12 : CV) (b33 : Bool) (l34 : List (List CV)) : Option CV :=
  hold (E0 lb n 0 996 (sub (B F_routing_Print) [1, 1, 1, 1]) (retK Tryd.prog (R F_routing_Print) 0 (outK (tightF Tryd.prog F_routing_Print))) ⟨fr 43 [(0, .val (.agg [.int .i64 anum1, .list alinn2 alin3, .int .i64 amil4])), (1, .ptr 0 1 0), (2, .val (.str [])), (3, .val (.int .i64 0)), (4, .val r5), (5, .lst true b33 9 l34), (17, .ptr 0 1 0), (18, .val (.int .i64 anum1)), (19, .val r11), (20, .ptr 0 1 2), (21, .val (.int .i64 amil4)), (22, .val r12), (23, .val (.list false [[r11], [r12]]))], [bx 43 [(1, some [.val (.int .i64 anum1), .val (.list alinn2 alin3), .val (.int .i64 amil4)])]], KK⟩)

theorem routing_Print_J2_eq (lb : Bool) (n : Nat) (anum1 : Int) (alinn2 : Bool) (alin3 : List (List CV)) (amil4 : Int) (r5 : CV) (r11 : CV) (r12 : CV) (b33 : Bool) (l34 : List (List CV)) :
  routing_Print_J2 lb n anum1 alinn2 alin3 amil4 r5 r11 r12 b33 l34 =
 optO (C lb n F_text_Join [.list b33 l34]) fun r35 =>
 some (.tup [r35, .int .i64 0]) := (hold_eq _).trans (by kernel_rfl)

theorem routing_Print_L1_succ (lb : Bool) (n k26 : Nat) (anum1 : Int) (alinn2 : Bool) (alin3 : List (List CV)) (amil4 : Int) (r5 : CV) (r11 : CV) (r12 : CV) (l19 : List (List CV)) (i20 : Int) :
  routing_Print_L1 lb n (k26 + 1) anum1 alinn2 alin3 amil4 r5 r11 r12 l19 i20 =
 bif (decide (i20 < (alin3.length : Int))) then
 (optO (atL alin3 i20) fun c27 =>
 chkO (c27.length == 2) (
 optO (c27[0]?) fun x28 =>
 optO (c27[1]?) fun x29 =>
 optO (CV.asS x28) fun s30 =>
 chkO (decide (s30.length + [45].length ≤ 9223372036854775807)) (
 optO (CV.asS x29) fun s31 =>
 chkO (decide ((s30 ++ [45]).length + s31.length ≤ 9223372036854775807)) (
 chkO (room (l19.length + 1) 16) (
 routing_Print_L1 lb n k26 anum1 alinn2 alin3 amil4 r5 r11 r12 (l19 ++ [[CV.str ((s30 ++ [45]) ++ s31)]]) (IntKind.wrap .i64 (i20 + 1)))))))
 else
 (routing_Print_J2 lb n anum1 alinn2 alin3 amil4 r5 r11 r12 false l19) := (hold_eq _).trans (by kernel_rfl)

theorem routing_Print_L1_zero (lb : Bool) (n : Nat) (anum1 : Int) (alinn2 : Bool) (alin3 : List (List CV)) (amil4 : Int) (r5 : CV) (r11 : CV) (r12 : CV) (l19 : List (List CV)) (i20 : Int) :
  routing_Print_L1 lb n 0 anum1 alinn2 alin3 amil4 r5 r11 r12 l19 i20 =
 none := (hold_eq _).trans (by kernel_rfl)

theorem routing_Print_eq (lb : Bool) (n : Nat) (anum1 : Int) (alinn2 : Bool) (alin3 : List (List CV)) (amil4 : Int) :
  top lb n F_routing_Print [.agg [.int .i64 anum1, .list alinn2 alin3, .int .i64 amil4]] =
 optO (C lb n F_routing_Check [.agg [.int .i64 anum1, .list alinn2 alin3, .int .i64 amil4]]) fun r5 =>
 optO (CV.asL r5) fun p6 =>
 bif (decide ((p6.2.length : Int) > 0)) then
 (optO (CV.asL r5) fun p7 =>
 optO (atL p7.2 0) fun c9 =>
 chkO (c9.length == 2) (
 optO (c9[0]?) fun x10 =>
 some (.tup [.str [], x10])))
 else
 (optO (C lb n F_text_Decimal [.int .i64 anum1]) fun r11 =>
 optO (C lb n F_text_Decimal [.int .i64 amil4]) fun r12 =>
 chkO (CV.isCell r11) (
 chkO (CV.isCell r12) (
 routing_Print_L1 lb n n anum1 alinn2 alin3 amil4 r5 r11 r12 [[r11], [r12]] 0))) := by kernel_rfl

/-! airline/airlineref22.Print -/
noncomputable def r22_Print_L1 (lb : Bool) (n : Nat) (k28 : Nat) (anum1 : Int) (alinn2 : Bool) (alin3 : List (List CV)) (amil4 : Int) (r5 : CV) (r11 : CV) (r12 : CV) (l20 : List (List CV)) (i21 : Int) : Option CV :=
  hold (loopC (E0 lb n 0 992) 0 (loopTemps (sub (B F_r22_Print) [1, 1, 1, 1, 0, 1, 0, 0]) ++ []) [] (sub (B F_r22_Print) [1, 1, 1, 1, 0, 1, 0, 0]) (blockK 0 (seqK (E0 lb n 0 995) (sub (B F_r22_Print) [1, 1, 1, 1, 0]) (sub (B F_r22_Print) [1, 1, 1, 1, 1]) (retK Tryd.prog (R F_r22_Print) 0 (outK (tightF Tryd.prog F_r22_Print))))) k28 ⟨fr 49 [(0, .val (.agg [.int .i64 anum1, .list alinn2 alin3, .int .i64 amil4])), (1, .ptr 0 1 0), (2, .val (.str [])), (3, .val (.int .i64 0)), (4, .val r5), (5, .lst true false 9 l20), (6, .val (.int .i64 i21)), (7, .val (.agg [.int .i64 anum1, .list alinn2 alin3, .int .i64 amil4])), (8, .val r5), (16, .ptr 0 1 0), (17, .val (.int .i64 anum1)), (18, .val r11), (19, .ptr 0 1 2), (20, .val (.int .i64 amil4)), (21, .val r12), (22, .val (.list false [[r11], [r12]]))], [bx 49 [(1, some [.val (.int .i64 anum1), .val (.list alinn2 alin3), .val (.int .i64 amil4)])]], KK⟩)

noncomputable def r22_Print_J2 (lb : Bool) (n : Nat) (anum1 : Int) (alinn2 : Bool) (alin3 : List (List CV)) (amil4 : Int) (r5 : CV) (r11 : CV) (r12 : CV) (b36 : Bool) (l37 : List (List CV)) (i38 : Int) : Option CV :=
  hold (E0 lb n 0 995 (sub (B F_r22_Print) [1, 1, 1, 1, 1]) (retK Tryd.prog (R F_r22_Print) 0 (outK (tightF Tryd.prog F_r22_Print))) ⟨fr 49 [(0, .val (.agg [.int .i64 anum1, .list alinn2 alin3, .int .i64 amil4])), (1, .ptr 0 1 0), (2, .val (.str [])), (3, .val (.int .i64 0)), (4, .val r5), (5, .lst true b36 9 l37), (6, .val (.int .i64 i38)), (7, .val (.agg [.int .i64 anum1, .list alinn2 alin3, .int .i64 amil4])), (8, .val r5), (16, .ptr 0 1 0), (17, .val (.int .i64 anum1)), (18, .val r11), (19, .ptr 0 1 2), (20, .val (.int .i64 amil4)), (21, .val r12), (22, .val (.list false [[r11], [r12]]))], [bx 49 [(1, some [.val (.int .i64 anum1), .val (.list alinn2 alin3), .val (.int .i64 amil4)])]], KK⟩)

theorem r22_Print_J2_eq (lb : Bool) (n : Nat) (anum1 : Int) (alinn2 : Bool) (alin3 : List (List CV)) (amil4 : Int) (r5 : CV) (r11 : CV) (r12 : CV) (b36 : Bool) (l37 : List (List CV)) (i38 : Int) :
  r22_Print_J2 lb n anum1 alinn2 alin3 amil4 r5 r11 r12 b36 l37 i38 =
 optO (C lb n F_r01_Join [.list b36 l37]) fun r39 =>
 some (.tup [r39, .int .i64 0]) := (hold_eq _).trans (by kernel_rfl)

theorem r22_Print_L1_succ (lb : Bool) (n k28 : Nat) (anum1 : Int) (alinn2 : Bool) (alin3 : List (List CV)) (amil4 : Int) (r5 : CV) (r11 : CV) (r12 : CV) (l20 : List (List CV)) (i21 : Int) :
  r22_Print_L1 lb n (k28 + 1) anum1 alinn2 alin3 amil4 r5 r11 r12 l20 i21 =
 bif (decide (i21 < (alin3.length : Int))) then
 (optO (atL alin3 i21) fun c29 =>
 chkO (c29.length == 2) (
 optO (c29[0]?) fun x30 =>
 optO (CV.asS x30) fun s31 =>
 chkO (decide (s31.length + [45].length ≤ 9223372036854775807)) (
 optO (atL alin3 i21) fun c33 =>
 chkO (c33.length == 2) (
 optO (c33[1]?) fun x34 =>
 optO (CV.asS x34) fun s35 =>
 chkO (decide ((s31 ++ [45]).length + s35.length ≤ 9223372036854775807)) (
 chkO (room (l20.length + 1) 16) (
 r22_Print_L1 lb n k28 anum1 alinn2 alin3 amil4 r5 r11 r12 (l20 ++ [[CV.str ((s31 ++ [45]) ++ s35)]]) (IntKind.wrap .i64 (i21 + 1))))))))
 else
 (r22_Print_J2 lb n anum1 alinn2 alin3 amil4 r5 r11 r12 false l20 i21) := (hold_eq _).trans (by kernel_rfl)

theorem r22_Print_L1_zero (lb : Bool) (n : Nat) (anum1 : Int) (alinn2 : Bool) (alin3 : List (List CV)) (amil4 : Int) (r5 : CV) (r11 : CV) (r12 : CV) (l20 : List (List CV)) (i21 : Int) :
  r22_Print_L1 lb n 0 anum1 alinn2 alin3 amil4 r5 r11 r12 l20 i21 =
 none := (hold_eq _).trans (by kernel_rfl)

theorem r22_Print_eq (lb : Bool) (n : Nat) (anum1 : Int) (alinn2 : Bool) (alin3 : List (List CV)) (amil4 : Int) :
  top lb n F_r22_Print [.agg [.int .i64 anum1, .list alinn2 alin3, .int .i64 amil4]] =
 optO (C lb n F_r22_Check [.agg [.int .i64 anum1, .list alinn2 alin3, .int .i64 amil4]]) fun r5 =>
 optO (CV.asL r5) fun p6 =>
 bif (decide ((p6.2.length : Int) > 0)) then
 (optO (CV.asL r5) fun p7 =>
 optO (atL p7.2 0) fun c9 =>
 chkO (c9.length == 2) (
 optO (c9[0]?) fun x10 =>
 some (.tup [.str [], x10])))
 else
 (optO (C lb n F_r01_Decimal [.int .i64 anum1]) fun r11 =>
 optO (C lb n F_r01_Decimal [.int .i64 amil4]) fun r12 =>
 chkO (CV.isCell r11) (
 chkO (CV.isCell r12) (
 r22_Print_L1 lb n n anum1 alinn2 alin3 amil4 r5 r11 r12 [[r11], [r12]] 0))) := by kernel_rfl

/-! airline/routing.Parse -/
noncomputable def routing_Parse_L1 (lb : Bool) (n : Nat) (k50 : Nat) (a1 : List UInt8) (x4 : CV) (x27 : CV) (r2 : CV) (x6 : CV) (p29 : Bool × List (List CV)) (x15 : CV) (x25 : CV) (i39 : Int) (b40 : Bool) (l41 : List (List CV)) : Option CV :=
  hold (loopC (E0 lb n 0 989) 0 (loopTemps (sub (B F_routing_Parse) [1, 1, 1, 1, 1, 1, 1, 0, 1, 0, 0]) ++ [8]) [] (sub (B F_routing_Parse) [1, 1, 1, 1, 1, 1, 1, 0, 1, 0, 0]) (blockK 0 (seqK (E0 lb n 0 992) (sub (B F_routing_Parse) [1, 1, 1, 1, 1, 1, 1, 0]) (sub (B F_routing_Parse) [1, 1, 1, 1, 1, 1, 1, 1]) (retK Tryd.prog (R F_routing_Parse) 0 (outK (tightF Tryd.prog F_routing_Parse))))) k50 ⟨fr 86 [(0, .val (.str a1)), (2, .ptr 0 2 0), (3, .val (.int .i64 0)), (4, .val x4), (5, .val x27), (6, .ptr 0 6 0), (10, .val r2), (11, .val (.str a1)), (12, .val r2), (13, .val x4), (14, .val x6), (47, .val x4), (48, .val (.list p29.1 ((p29.2.take ((p29.2.length : Int).toNat)).drop 2))), (49, .val (.int .i64 (((p29.2.take ((p29.2.length : Int).toNat)).drop 2).length : Int))), (50, .val (.int .i64 i39))], [bx 86 [(2, some [.val (.int .i64 0), .lst true true 100 [], .val (.int .i64 0)]), (6, some [.val x15, .lst true b40 100 l41, .val x25])]], KK⟩)

noncomputable def routing_Parse_J2 (lb : Bool) (n : Nat) (a1 : List UInt8) (x4 : CV) (x27 : CV) (r2 : CV) (x6 : CV) (x15 : CV) (x25 : CV) (b59 : Bool) (l60 : List (List CV)) : Option CV :=
  hold (E0 lb n 0 992 (sub (B F_routing_Parse) [1, 1, 1, 1, 1, 1, 1, 1]) (retK Tryd.prog (R F_routing_Parse) 0 (outK (tightF Tryd.prog F_routing_Parse))) ⟨fr 86 [(0, .val (.str a1)), (2, .ptr 0 2 0), (3, .val (.int .i64 0)), (4, .val x4), (5, .val x27), (6, .ptr 0 6 0), (10, .val r2), (11, .val (.str a1)), (12, .val r2), (13, .val x4), (14, .val x6)], [bx 86 [(2, some [.val (.int .i64 0), .lst true true 100 [], .val (.int .i64 0)]), (6, some [.val x15, .lst true b59 100 l60, .val x25])]], KK⟩)

theorem routing_Parse_J2_eq (lb : Bool) (n : Nat) (a1 : List UInt8) (x4 : CV) (x27 : CV) (r2 : CV) (x6 : CV) (x15 : CV) (x25 : CV) (b59 : Bool) (l60 : List (List CV)) :
  routing_Parse_J2 lb n a1 x4 x27 r2 x6 x15 x25 b59 l60 =
 optO (C lb n F_routing_Check [.agg [x15, .list b59 l60, x25]]) fun r61 =>
 optO (CV.asL r61) fun p62 =>
 bif (decide ((p62.2.length : Int) > 0)) then
 (optO (CV.asL r61) fun p63 =>
 optO (atL p63.2 0) fun c65 =>
 chkO (c65.length == 2) (
 optO (c65[0]?) fun x66 =>
 some (.tup [.agg [.int .i64 0, .list true [], .int .i64 0], x66])))
 else
 (some (.tup [.agg [x15, .list b59 l60, x25], .int .i64 0])) := (hold_eq _).trans (by kernel_rfl)

theorem routing_Parse_L1_succ (lb : Bool) (n k50 : Nat) (a1 : List UInt8) (x4 : CV) (x27 : CV) (r2 : CV) (x6 : CV) (p29 : Bool × List (List CV)) (x15 : CV) (x25 : CV) (i39 : Int) (b40 : Bool) (l41 : List (List CV)) :
  routing_Parse_L1 lb n (k50 + 1) a1 x4 x27 r2 x6 p29 x15 x25 i39 b40 l41 =
 bif (decide (i39 < (((p29.2.take ((p29.2.length : Int).toNat)).drop 2).length : Int))) then
 (optO (atL ((p29.2.take ((p29.2.length : Int).toNat)).drop 2) i39) fun c51 =>
 chkO (c51.length == 1) (
 optO (c51[0]?) fun x52 =>
 optO (CV.asS x52) fun s53 =>
 bif ((s53.length : Int) != 7) then
 (some (.tup [.agg [.int .i64 0, .list true [], .int .i64 0], .int .i64 3]))
 else
 (optO (CV.asS x52) fun s54 =>
 chkO (decide ((0 : Int) ≤ 3 ∧ 3 ≤ (s54.length : Int))) (
 optO (C lb n F_strings_IndexByte [.str ((s54.take ((s54.length : Int).toNat)).drop 3), .int .u8 45]) fun r55 =>
 optO (CV.asI .i64 r55) fun i56 =>
 bif (i56 != 0) then
 (some (.tup [.agg [.int .i64 0, .list true [], .int .i64 0], .int .i64 3]))
 else
 (optO (CV.asS x52) fun s57 =>
 chkO (decide ((0 : Int) ≤ 3 ∧ 3 ≤ (s57.length : Int))) (
 optO (CV.asS x52) fun s58 =>
 chkO (decide ((0 : Int) ≤ 4 ∧ 4 ≤ (s58.length : Int))) (
 chkO (room (l41.length + 1) 32) (
 routing_Parse_L1 lb n k50 a1 x4 x27 r2 x6 p29 x15 x25 (IntKind.wrap .i64 (i39 + 1)) (b40 && false) (l41 ++ [[CV.str ((s57.take 3).drop 0), CV.str ((s58.take ((s58.length : Int).toNat)).drop 4)]])))))))))
 else
 (routing_Parse_J2 lb n a1 x4 x27 r2 x6 x15 x25 b40 l41) := (hold_eq _).trans (by kernel_rfl)

theorem routing_Parse_L1_zero (lb : Bool) (n : Nat) (a1 : List UInt8) (x4 : CV) (x27 : CV) (r2 : CV) (x6 : CV) (p29 : Bool × List (List CV)) (x15 : CV) (x25 : CV) (i39 : Int) (b40 : Bool) (l41 : List (List CV)) :
  routing_Parse_L1 lb n 0 a1 x4 x27 r2 x6 p29 x15 x25 i39 b40 l41 =
 none := (hold_eq _).trans (by kernel_rfl)

theorem routing_Parse_eq (lb : Bool) (n : Nat) (a1 : List UInt8) :
  top lb n F_routing_Parse [.str a1] =
 optO (C lb n F_text_Words [.str a1]) fun r2 =>
 optO (CV.asT r2) fun t3 =>
 optO (t3[0]?) fun x4 =>
 optO (CV.asT r2) fun t5 =>
 optO (t5[1]?) fun x6 =>
 optO (CV.asI .i64 x6) fun i7 =>
 bif (i7 != 0) then
 (some (.tup [.agg [.int .i64 0, .list true [], .int .i64 0], x6]))
 else
 (optO (CV.asL x4) fun p9 =>
 bif (decide ((p9.2.length : Int) < 2)) then
 (some (.tup [.agg [.int .i64 0, .list true [], .int .i64 0], .int .i64 3]))
 else
 (optO (CV.asL x4) fun p10 =>
 optO (atL p10.2 0) fun c11 =>
 chkO (c11.length == 1) (
 optO (c11[0]?) fun x12 =>
 optO (C lb n F_text_Number [x12]) fun r13 =>
 optO (CV.asT r13) fun t14 =>
 optO (t14[0]?) fun x15 =>
 optO (CV.asT r13) fun t17 =>
 optO (t17[1]?) fun x18 =>
 chkO (CV.isCell x15) (
 optO (CV.asI .i64 x18) fun i19 =>
 bif (i19 != 0) then
 (some (.tup [.agg [.int .i64 0, .list true [], .int .i64 0], x18]))
 else
 (optO (CV.asL x4) fun p20 =>
 optO (atL p20.2 1) fun c21 =>
 chkO (c21.length == 1) (
 optO (c21[0]?) fun x22 =>
 optO (C lb n F_text_Number [x22]) fun r23 =>
 optO (CV.asT r23) fun t24 =>
 optO (t24[0]?) fun x25 =>
 optO (CV.asT r23) fun t26 =>
 optO (t26[1]?) fun x27 =>
 chkO (CV.isCell x25) (
 optO (CV.asI .i64 x27) fun i28 =>
 bif (i28 != 0) then
 (some (.tup [.agg [.int .i64 0, .list true [], .int .i64 0], x27]))
 else
 (optO (CV.asL x4) fun p29 =>
 chkO (p29.2.all (·.length == 1)) (
 chkO (decide ((0 : Int) ≤ 2 ∧ 2 ≤ (p29.2.length : Int))) (
 routing_Parse_L1 lb n n a1 x4 x27 r2 x6 p29 x15 x25 0 true [])))))))))) := by kernel_rfl

/-! airline/airlineref22.Parse -/
noncomputable def r22_Parse_L1 (lb : Bool) (n : Nat) (k49 : Nat) (a1 : List UInt8) (x4 : CV) (x27 : CV) (x15 : CV) (x25 : CV) (r2 : CV) (x6 : CV) (r13 : CV) (c11 : List CV) (x12 : CV) (x18 : CV) (r23 : CV) (c21 : List CV) (x22 : CV) : Option CV :=
  hold (loopC (E0 lb n 0 987) 0 (loopTemps (sub (B F_r22_Parse) [1, 1, 1, 1, 1, 1, 1, 1, 1, 0, 1, 0, 0]) ++ []) [] (sub (B F_r22_Parse) [1, 1, 1, 1, 1, 1, 1, 1, 1, 0, 1, 0, 0]) (blockK 0 (seqK (E0 lb n 0 990) (sub (B F_r22_Parse) [1, 1, 1, 1, 1, 1, 1, 1, 1, 0]) (sub (B F_r22_Parse) [1, 1, 1, 1, 1, 1, 1, 1, 1, 1]) (retK Tryd.prog (R F_r22_Parse) 0 (outK (tightF Tryd.prog F_r22_Parse))))) k49 ⟨fr 97 [(0, .val (.str a1)), (2, .ptr 0 2 0), (3, .val (.int .i64 0)), (4, .val x4), (5, .val x27), (6, .val x15), (7, .val x25), (8, .ptr 0 8 0), (9, .val (.int .i64 2)), (11, .val r2), (12, .val (.str a1)), (13, .val r2), (14, .val x4), (15, .val x6), (24, .val r13), (25, .val x4), (26, .cptr c11 0), (27, .val x12), (28, .val r13), (29, .val x15), (30, .val x18), (35, .val r23), (36, .val x4), (37, .cptr c21 0), (38, .val x22), (39, .val r23), (40, .val x25), (41, .val x27), (46, .val x15), (47, .val x25), (48, .val (.agg [x15, .list true [], x25]))], [bx 97 [(2, some [.val (.int .i64 0), .lst true true 100 [], .val (.int .i64 0)]), (8, some [.val x15, .val (.list true []), .val x25])]], KK⟩)

noncomputable def r22_Parse_L2 (lb : Bool) (n : Nat) (k107 : Nat) (a1 : List UInt8) (x4 : CV) (x27 : CV) (x15 : CV) (x25 : CV) (r2 : CV) (x6 : CV) (r13 : CV) (c11 : List CV) (x12 : CV) (x18 : CV) (r23 : CV) (c21 : List CV) (x22 : CV) (i87 : Int) (l88 : List (List CV)) : Option CV :=
  hold (loopC (E0 lb n 0 987) 0 (loopTemps (sub (B F_r22_Parse) [1, 1, 1, 1, 1, 1, 1, 1, 1, 0, 1, 0, 0]) ++ []) [] (sub (B F_r22_Parse) [1, 1, 1, 1, 1, 1, 1, 1, 1, 0, 1, 0, 0]) (blockK 0 (seqK (E0 lb n 0 990) (sub (B F_r22_Parse) [1, 1, 1, 1, 1, 1, 1, 1, 1, 0]) (sub (B F_r22_Parse) [1, 1, 1, 1, 1, 1, 1, 1, 1, 1]) (retK Tryd.prog (R F_r22_Parse) 0 (outK (tightF Tryd.prog F_r22_Parse))))) k107 ⟨fr 97 [(0, .val (.str a1)), (2, .ptr 0 2 0), (3, .val (.int .i64 0)), (4, .val x4), (5, .val x27), (6, .val x15), (7, .val x25), (8, .ptr 0 8 0), (9, .val (.int .i64 i87)), (11, .val r2), (12, .val (.str a1)), (13, .val r2), (14, .val x4), (15, .val x6), (24, .val r13), (25, .val x4), (26, .cptr c11 0), (27, .val x12), (28, .val r13), (29, .val x15), (30, .val x18), (35, .val r23), (36, .val x4), (37, .cptr c21 0), (38, .val x22), (39, .val r23), (40, .val x25), (41, .val x27), (46, .val x15), (47, .val x25), (48, .val (.agg [x15, .list true [], x25]))], [bx 97 [(2, some [.val (.int .i64 0), .lst true true 100 [], .val (.int .i64 0)]), (8, some [.val x15, .lst true false 100 l88, .val x25])]], KK⟩)

noncomputable def r22_Parse_J3 (lb : Bool) (n : Nat) (a1 : List UInt8) (x4 : CV) (x27 : CV) (x15 : CV) (x25 : CV) (r2 : CV) (x6 : CV) (r13 : CV) (c11 : List CV) (x12 : CV) (x18 : CV) (r23 : CV) (c21 : List CV) (x22 : CV) (i126 : Int) (b127 : Bool) (l128 : List (List CV)) : Option CV :=
  hold (E0 lb n 0 990 (sub (B F_r22_Parse) [1, 1, 1, 1, 1, 1, 1, 1, 1, 1]) (retK Tryd.prog (R F_r22_Parse) 0 (outK (tightF Tryd.prog F_r22_Parse))) ⟨fr 97 [(0, .val (.str a1)), (2, .ptr 0 2 0), (3, .val (.int .i64 0)), (4, .val x4), (5, .val x27), (6, .val x15), (7, .val x25), (8, .ptr 0 8 0), (9, .val (.int .i64 i126)), (11, .val r2), (12, .val (.str a1)), (13, .val r2), (14, .val x4), (15, .val x6), (24, .val r13), (25, .val x4), (26, .cptr c11 0), (27, .val x12), (28, .val r13), (29, .val x15), (30, .val x18), (35, .val r23), (36, .val x4), (37, .cptr c21 0), (38, .val x22), (39, .val r23), (40, .val x25), (41, .val x27), (46, .val x15), (47, .val x25), (48, .val (.agg [x15, .list true [], x25]))], [bx 97 [(2, some [.val (.int .i64 0), .lst true true 100 [], .val (.int .i64 0)]), (8, some [.val x15, .lst true b127 100 l128, .val x25])]], KK⟩)

theorem r22_Parse_J3_eq (lb : Bool) (n : Nat) (a1 : List UInt8) (x4 : CV) (x27 : CV) (x15 : CV) (x25 : CV) (r2 : CV) (x6 : CV) (r13 : CV) (c11 : List CV) (x12 : CV) (x18 : CV) (r23 : CV) (c21 : List CV) (x22 : CV) (i126 : Int) (b127 : Bool) (l128 : List (List CV)) :
  r22_Parse_J3 lb n a1 x4 x27 x15 x25 r2 x6 r13 c11 x12 x18 r23 c21 x22 i126 b127 l128 =
 optO (C lb n F_r22_Check [.agg [x15, .list b127 l128, x25]]) fun r129 =>
 optO (CV.asL r129) fun p130 =>
 bif (decide ((p130.2.length : Int) > 0)) then
 (optO (CV.asL r129) fun p131 =>
 optO (atL p131.2 0) fun c132 =>
 chkO (c132.length == 2) (
 optO (c132[0]?) fun x133 =>
 some (.tup [.agg [.int .i64 0, .list true [], .int .i64 0], x133])))
 else
 (some (.tup [.agg [x15, .list b127 l128, x25], .int .i64 0])) := (hold_eq _).trans (by kernel_rfl)

theorem r22_Parse_L2_succ (lb : Bool) (n k107 : Nat) (a1 : List UInt8) (x4 : CV) (x27 : CV) (x15 : CV) (x25 : CV) (r2 : CV) (x6 : CV) (r13 : CV) (c11 : List CV) (x12 : CV) (x18 : CV) (r23 : CV) (c21 : List CV) (x22 : CV) (i87 : Int) (l88 : List (List CV)) :
  r22_Parse_L2 lb n (k107 + 1) a1 x4 x27 x15 x25 r2 x6 r13 c11 x12 x18 r23 c21 x22 i87 l88 =
 optO (CV.asL x4) fun p108 =>
 bif (decide (i87 < (p108.2.length : Int))) then
 (optO (CV.asL x4) fun p109 =>
 optO (atL p109.2 i87) fun c110 =>
 chkO (c110.length == 1) (
 optO (c110[0]?) fun x111 =>
 optO (CV.asS x111) fun s112 =>
 bif ((s112.length : Int) != 7) then
 (some (.tup [.agg [.int .i64 0, .list true [], .int .i64 0], .int .i64 3]))
 else
 (optO (CV.asL x4) fun p113 =>
 optO (atL p113.2 i87) fun c114 =>
 chkO (c114.length == 1) (
 optO (c114[0]?) fun x115 =>
 optO (CV.asS x115) fun s116 =>
 optO (atS s116 3) fun c117 =>
 bif ((c117.toNat : Int) != 45) then
 (some (.tup [.agg [.int .i64 0, .list true [], .int .i64 0], .int .i64 3]))
 else
 (optO (CV.asL x4) fun p118 =>
 optO (atL p118.2 i87) fun c119 =>
 chkO (c119.length == 1) (
 optO (c119[0]?) fun x120 =>
 optO (CV.asS x120) fun s121 =>
 chkO (decide ((0 : Int) ≤ 3 ∧ 3 ≤ (s121.length : Int))) (
 optO (CV.asL x4) fun p122 =>
 optO (atL p122.2 i87) fun c123 =>
 chkO (c123.length == 1) (
 optO (c123[0]?) fun x124 =>
 optO (CV.asS x124) fun s125 =>
 chkO (decide ((0 : Int) ≤ 4 ∧ 4 ≤ (s125.length : Int))) (
 chkO (room (l88.length + 1) 32) (
 r22_Parse_L2 lb n k107 a1 x4 x27 x15 x25 r2 x6 r13 c11 x12 x18 r23 c21 x22 (IntKind.wrap .i64 (i87 + 1)) (l88 ++ [[CV.str ((s121.take 3).drop 0), CV.str ((s125.take ((s125.length : Int).toNat)).drop 4)]])))))))))))
 else
 (r22_Parse_J3 lb n a1 x4 x27 x15 x25 r2 x6 r13 c11 x12 x18 r23 c21 x22 i87 false l88) := (hold_eq _).trans (by kernel_rfl)

theorem r22_Parse_L2_zero (lb : Bool) (n : Nat) (a1 : List UInt8) (x4 : CV) (x27 : CV) (x15 : CV) (x25 : CV) (r2 : CV) (x6 : CV) (r13 : CV) (c11 : List CV) (x12 : CV) (x18 : CV) (r23 : CV) (c21 : List CV) (x22 : CV) (i87 : Int) (l88 : List (List CV)) :
  r22_Parse_L2 lb n 0 a1 x4 x27 x15 x25 r2 x6 r13 c11 x12 x18 r23 c21 x22 i87 l88 =
 none := (hold_eq _).trans (by kernel_rfl)

noncomputable def r22_Parse_J4 (lb : Bool) (n : Nat) (a1 : List UInt8) (x4 : CV) (x27 : CV) (x15 : CV) (x25 : CV) (r2 : CV) (x6 : CV) (r13 : CV) (c11 : List CV) (x12 : CV) (x18 : CV) (r23 : CV) (c21 : List CV) (x22 : CV) (i134 : Int) : Option CV :=
  hold (E0 lb n 0 990 (sub (B F_r22_Parse) [1, 1, 1, 1, 1, 1, 1, 1, 1, 1]) (retK Tryd.prog (R F_r22_Parse) 0 (outK (tightF Tryd.prog F_r22_Parse))) ⟨fr 97 [(0, .val (.str a1)), (2, .ptr 0 2 0), (3, .val (.int .i64 0)), (4, .val x4), (5, .val x27), (6, .val x15), (7, .val x25), (8, .ptr 0 8 0), (9, .val (.int .i64 i134)), (11, .val r2), (12, .val (.str a1)), (13, .val r2), (14, .val x4), (15, .val x6), (24, .val r13), (25, .val x4), (26, .cptr c11 0), (27, .val x12), (28, .val r13), (29, .val x15), (30, .val x18), (35, .val r23), (36, .val x4), (37, .cptr c21 0), (38, .val x22), (39, .val r23), (40, .val x25), (41, .val x27), (46, .val x15), (47, .val x25), (48, .val (.agg [x15, .list true [], x25]))], [bx 97 [(2, some [.val (.int .i64 0), .lst true true 100 [], .val (.int .i64 0)]), (8, some [.val x15, .val (.list true []), .val x25])]], KK⟩)

theorem r22_Parse_J4_eq (lb : Bool) (n : Nat) (a1 : List UInt8) (x4 : CV) (x27 : CV) (x15 : CV) (x25 : CV) (r2 : CV) (x6 : CV) (r13 : CV) (c11 : List CV) (x12 : CV) (x18 : CV) (r23 : CV) (c21 : List CV) (x22 : CV) (i134 : Int) :
  r22_Parse_J4 lb n a1 x4 x27 x15 x25 r2 x6 r13 c11 x12 x18 r23 c21 x22 i134 =
 optO (C lb n F_r22_Check [.agg [x15, .list true [], x25]]) fun r135 =>
 optO (CV.asL r135) fun p136 =>
 bif (decide ((p136.2.length : Int) > 0)) then
 (optO (CV.asL r135) fun p137 =>
 optO (atL p137.2 0) fun c138 =>
 chkO (c138.length == 2) (
 optO (c138[0]?) fun x139 =>
 some (.tup [.agg [.int .i64 0, .list true [], .int .i64 0], x139])))
 else
 (some (.tup [.agg [x15, .list true [], x25], .int .i64 0])) := (hold_eq _).trans (by kernel_rfl)

theorem r22_Parse_L1_succ (lb : Bool) (n k49 : Nat) (a1 : List UInt8) (x4 : CV) (x27 : CV) (x15 : CV) (x25 : CV) (r2 : CV) (x6 : CV) (r13 : CV) (c11 : List CV) (x12 : CV) (x18 : CV) (r23 : CV) (c21 : List CV) (x22 : CV) :
  r22_Parse_L1 lb n (k49 + 1) a1 x4 x27 x15 x25 r2 x6 r13 c11 x12 x18 r23 c21 x22 =
 optO (CV.asL x4) fun p50 =>
 bif (decide ((2 : Int) < (p50.2.length : Int))) then
 (optO (CV.asL x4) fun p51 =>
 optO (atL p51.2 2) fun c52 =>
 chkO (c52.length == 1) (
 optO (c52[0]?) fun x53 =>
 optO (CV.asS x53) fun s54 =>
 bif ((s54.length : Int) != 7) then
 (some (.tup [.agg [.int .i64 0, .list true [], .int .i64 0], .int .i64 3]))
 else
 (optO (CV.asL x4) fun p55 =>
 optO (atL p55.2 2) fun c56 =>
 chkO (c56.length == 1) (
 optO (c56[0]?) fun x57 =>
 optO (CV.asS x57) fun s58 =>
 optO (atS s58 3) fun c59 =>
 bif ((c59.toNat : Int) != 45) then
 (some (.tup [.agg [.int .i64 0, .list true [], .int .i64 0], .int .i64 3]))
 else
 (optO (CV.asL x4) fun p60 =>
 optO (atL p60.2 2) fun c61 =>
 chkO (c61.length == 1) (
 optO (c61[0]?) fun x62 =>
 optO (CV.asS x62) fun s63 =>
 chkO (decide ((0 : Int) ≤ 3 ∧ 3 ≤ (s63.length : Int))) (
 optO (CV.asL x4) fun p65 =>
 optO (atL p65.2 2) fun c66 =>
 chkO (c66.length == 1) (
 optO (c66[0]?) fun x67 =>
 optO (CV.asS x67) fun s68 =>
 chkO (decide ((0 : Int) ≤ 4 ∧ 4 ≤ (s68.length : Int))) (
 r22_Parse_L2 lb n k49 a1 x4 x27 x15 x25 r2 x6 r13 c11 x12 x18 r23 c21 x22 3 [[CV.str ((s63.take 3).drop 0), CV.str ((s68.take ((s68.length : Int).toNat)).drop 4)]])))))))))
 else
 (r22_Parse_J4 lb n a1 x4 x27 x15 x25 r2 x6 r13 c11 x12 x18 r23 c21 x22 2) := (hold_eq _).trans (by kernel_rfl)

theorem r22_Parse_L1_zero (lb : Bool) (n : Nat) (a1 : List UInt8) (x4 : CV) (x27 : CV) (x15 : CV) (x25 : CV) (r2 : CV) (x6 : CV) (r13 : CV) (c11 : List CV) (x12 : CV) (x18 : CV) (r23 : CV) (c21 : List CV) (x22 : CV) :
  r22_Parse_L1 lb n 0 a1 x4 x27 x15 x25 r2 x6 r13 c11 x12 x18 r23 c21 x22 =
 none := (hold_eq _).trans (by kernel_rfl)

theorem r22_Parse_eq (lb : Bool) (n : Nat) (a1 : List UInt8) :
  top lb n F_r22_Parse [.str a1] =
 optO (C lb n F_r01_Words [.str a1]) fun r2 =>
 optO (CV.asT r2) fun t3 =>
 optO (t3[0]?) fun x4 =>
 optO (CV.asT r2) fun t5 =>
 optO (t5[1]?) fun x6 =>
 optO (CV.asI .i64 x6) fun i7 =>
 bif (i7 != 0) then
 (some (.tup [.agg [.int .i64 0, .list true [], .int .i64 0], x6]))
 else
 (optO (CV.asL x4) fun p9 =>
 bif (decide ((p9.2.length : Int) < 2)) then
 (some (.tup [.agg [.int .i64 0, .list true [], .int .i64 0], .int .i64 3]))
 else
 (optO (CV.asL x4) fun p10 =>
 optO (atL p10.2 0) fun c11 =>
 chkO (c11.length == 1) (
 optO (c11[0]?) fun x12 =>
 optO (C lb n F_r01_Number [x12]) fun r13 =>
 optO (CV.asT r13) fun t14 =>
 optO (t14[0]?) fun x15 =>
 optO (CV.asT r13) fun t17 =>
 optO (t17[1]?) fun x18 =>
 optO (CV.asI .i64 x18) fun i19 =>
 bif (i19 != 0) then
 (some (.tup [.agg [.int .i64 0, .list true [], .int .i64 0], x18]))
 else
 (optO (CV.asL x4) fun p20 =>
 optO (atL p20.2 1) fun c21 =>
 chkO (c21.length == 1) (
 optO (c21[0]?) fun x22 =>
 optO (C lb n F_r01_Number [x22]) fun r23 =>
 optO (CV.asT r23) fun t24 =>
 optO (t24[0]?) fun x25 =>
 optO (CV.asT r23) fun t26 =>
 optO (t26[1]?) fun x27 =>
 optO (CV.asI .i64 x27) fun i28 =>
 bif (i28 != 0) then
 (some (.tup [.agg [.int .i64 0, .list true [], .int .i64 0], x27]))
 else
 (chkO (CV.isCell x15) (
 chkO (CV.isCell x25) (
 r22_Parse_L1 lb n n a1 x4 x27 x15 x25 r2 x6 r13 c11 x12 x18 r23 c21 x22 )))))))) := by kernel_rfl

/-! airline/airlineref22.Same -/
noncomputable def r22_Same_L1 (lb : Bool) (n : Nat) (k33 : Nat) (anum1 : Int) (alinn2 : Bool) (alin3 : List (List CV)) (amil4 : Int) (bnum5 : Int) (blinn6 : Bool) (blin7 : List (List CV)) (bmil9 : Int) (i21 : Int) : Option CV :=
  hold (loopC (E0 lb n 0 994) 0 (loopTemps (sub (B F_r22_Same) [1, 1, 0, 1, 0, 0]) ++ []) [] (sub (B F_r22_Same) [1, 1, 0, 1, 0, 0]) (blockK 0 (seqK (E0 lb n 0 997) (sub (B F_r22_Same) [1, 1, 0]) (sub (B F_r22_Same) [1, 1, 1]) (retK Tryd.prog (R F_r22_Same) 0 (outK (tightF Tryd.prog F_r22_Same))))) k33 ⟨fr 45 [(0, .val (.agg [.int .i64 anum1, .list alinn2 alin3, .int .i64 amil4])), (1, .val (.agg [.int .i64 bnum5, .list blinn6 blin7, .int .i64 bmil9])), (2, .ptr 0 2 0), (3, .ptr 0 3 0), (4, .val (.bool false)), (5, .val (.int .i64 i21))], [bx 45 [(2, some [.val (.int .i64 anum1), .val (.list alinn2 alin3), .val (.int .i64 amil4)]), (3, some [.val (.int .i64 bnum5), .val (.list blinn6 blin7), .val (.int .i64 bmil9)])]], KK⟩)

noncomputable def r22_Same_J2 (lb : Bool) (n : Nat) (anum1 : Int) (alinn2 : Bool) (alin3 : List (List CV)) (amil4 : Int) (bnum5 : Int) (blinn6 : Bool) (blin7 : List (List CV)) (bmil9 : Int) (i44 : Int) : Option CV :=
  hold (E0 lb n 0 997 (sub (B F_r22_Same) [1, 1, 1]) (retK Tryd.prog (R F_r22_Same) 0 (outK (tightF Tryd.prog F_r22_Same))) ⟨fr 45 [(0, .val (.agg [.int .i64 anum1, .list alinn2 alin3, .int .i64 amil4])), (1, .val (.agg [.int .i64 bnum5, .list blinn6 blin7, .int .i64 bmil9])), (2, .ptr 0 2 0), (3, .ptr 0 3 0), (4, .val (.bool false)), (5, .val (.int .i64 i44))], [bx 45 [(2, some [.val (.int .i64 anum1), .val (.list alinn2 alin3), .val (.int .i64 amil4)]), (3, some [.val (.int .i64 bnum5), .val (.list blinn6 blin7), .val (.int .i64 bmil9)])]], KK⟩)

theorem r22_Same_J2_eq (lb : Bool) (n : Nat) (anum1 : Int) (alinn2 : Bool) (alin3 : List (List CV)) (amil4 : Int) (bnum5 : Int) (blinn6 : Bool) (blin7 : List (List CV)) (bmil9 : Int) (i44 : Int) :
  r22_Same_J2 lb n anum1 alinn2 alin3 amil4 bnum5 blinn6 blin7 bmil9 i44 =
 some (.bool true) := (hold_eq _).trans (by kernel_rfl)

theorem r22_Same_L1_succ (lb : Bool) (n k33 : Nat) (anum1 : Int) (alinn2 : Bool) (alin3 : List (List CV)) (amil4 : Int) (bnum5 : Int) (blinn6 : Bool) (blin7 : List (List CV)) (bmil9 : Int) (i21 : Int) :
  r22_Same_L1 lb n (k33 + 1) anum1 alinn2 alin3 amil4 bnum5 blinn6 blin7 bmil9 i21 =
 bif (decide (i21 < (alin3.length : Int))) then
 (optO (atL alin3 i21) fun c34 =>
 chkO (c34.length == 2) (
 optO (c34[0]?) fun x35 =>
 optO (c34[1]?) fun x36 =>
 optO (atL blin7 i21) fun c37 =>
 chkO (c37.length == 2) (
 optO (c37[0]?) fun x38 =>
 optO (c37[1]?) fun x39 =>
 optO (CV.asS x35) fun s40 =>
 optO (CV.asS x38) fun s41 =>
 optO (CV.asS x36) fun s42 =>
 optO (CV.asS x39) fun s43 =>
 bif (!((s40 == s41) && ((s42 == s43) && true))) then
 (some (.bool false))
 else
 (r22_Same_L1 lb n k33 anum1 alinn2 alin3 amil4 bnum5 blinn6 blin7 bmil9 (IntKind.wrap .i64 (i21 + 1))))))
 else
 (r22_Same_J2 lb n anum1 alinn2 alin3 amil4 bnum5 blinn6 blin7 bmil9 i21) := (hold_eq _).trans (by kernel_rfl)

theorem r22_Same_L1_zero (lb : Bool) (n : Nat) (anum1 : Int) (alinn2 : Bool) (alin3 : List (List CV)) (amil4 : Int) (bnum5 : Int) (blinn6 : Bool) (blin7 : List (List CV)) (bmil9 : Int) (i21 : Int) :
  r22_Same_L1 lb n 0 anum1 alinn2 alin3 amil4 bnum5 blinn6 blin7 bmil9 i21 =
 none := (hold_eq _).trans (by kernel_rfl)

theorem r22_Same_eq (lb : Bool) (n : Nat) (anum1 : Int) (alinn2 : Bool) (alin3 : List (List CV)) (amil4 : Int) (bnum5 : Int) (blinn6 : Bool) (blin7 : List (List CV)) (bmil9 : Int) :
  top lb n F_r22_Same [.agg [.int .i64 anum1, .list alinn2 alin3, .int .i64 amil4], .agg [.int .i64 bnum5, .list blinn6 blin7, .int .i64 bmil9]] =
 bif (anum1 != bnum5) then
 (some (.bool false))
 else
 (bif (amil4 != bmil9) then
 (some (.bool false))
 else
 (bif ((alin3.length : Int) != (blin7.length : Int)) then
 (some (.bool false))
 else
 (r22_Same_L1 lb n n anum1 alinn2 alin3 amil4 bnum5 blinn6 blin7 bmil9 0))) := by kernel_rfl

end Go.Proofs
