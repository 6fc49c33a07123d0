/- Equations of functions, printed by program. Conditions: none. -/
import Derived.Test.YtmefepdgnkhagaaGreatDoorEv
namespace Go.Proofs
open Go.Am
set_option maxRecDepth 100000
set_option linter.unusedVariables false
/-! airline/rule.Pay -/
noncomputable def rule_Pay_L1 (lb : Nat) (n : Nat) (k46 : Nat) (anum1 : Int) (awhekin2 : Int) (awheln3 : Bool) (awhel4 : List (List CV)) (awhea5 : Int) (awheb6 : Int) (awheperfro7 : Int) (awheperto9 : Int) (awheperday10 : Int) (awhetexn11 : Bool) (awhetex12 : List (List CV)) (acomn13 : Bool) (acom14 : List (List CV)) (amin15 : Int) (amax17 : Int) (acha18 : Int) (aref19 : Int) (apern20 : Bool) (aper21 : List (List CV)) (b22 : List UInt8) (c23 : Int) (i35 : Int) : Option CV :=
  hold (loopC (E0 lb n 0 995) 0 (loopTemps (sub (B F_rule_Pay) [1, 0, 1, 0, 0]) ++ []) [9] (sub (B F_rule_Pay) [1, 0, 1, 0, 0]) (blockK 0 (seqK (E0 lb n 0 998) (sub (B F_rule_Pay) [1, 0]) (sub (B F_rule_Pay) [1, 1]) (retK Tryz.prog (R F_rule_Pay) 0 (outK (tightF Tryz.prog F_rule_Pay))))) k46 ⟨fr 33 [(0, .val (.agg [.int .i64 anum1, .int .i64 awhekin2, .list awheln3 awhel4, .int .i64 awhea5, .int .i64 awheb6, .int .i64 awheperfro7, .int .i64 awheperto9, .int .i64 awheperday10, .list awhetexn11 awhetex12, .list acomn13 acom14, .int .i64 amin15, .int .i64 amax17, .int .i64 acha18, .int .i64 aref19, .list apern20 aper21])), (1, .val (.str b22)), (2, .val (.int .i64 c23)), (3, .ptr 0 3 0), (6, .val (.int .i64 0)), (7, .val (.int .i64 0)), (10, .ptr 0 3 14), (11, .val (.list apern20 aper21)), (12, .val (.int .i64 (aper21.length : Int))), (13, .val (.int .i64 i35))], [bx 33 [(3, some [.val (.int .i64 anum1), .val (.int .i64 awhekin2), .val (.list awheln3 awhel4), .val (.int .i64 awhea5), .val (.int .i64 awheb6), .val (.int .i64 awheperfro7), .val (.int .i64 awheperto9), .val (.int .i64 awheperday10), .val (.list awhetexn11 awhetex12), .val (.list acomn13 acom14), .val (.int .i64 amin15), .val (.int .i64 amax17), .val (.int .i64 acha18), .val (.int .i64 aref19), .val (.list apern20 aper21)])]], KK⟩)

noncomputable def rule_Pay_J2 (lb : Nat) (n : Nat) (anum1 : Int) (awhekin2 : Int) (awheln3 : Bool) (awhel4 : List (List CV)) (awhea5 : Int) (awheb6 : Int) (awheperfro7 : Int) (awheperto9 : Int) (awheperday10 : Int) (awhetexn11 : Bool) (awhetex12 : List (List CV)) (acomn13 : Bool) (acom14 : List (List CV)) (amin15 : Int) (amax17 : Int) (acha18 : Int) (aref19 : Int) (apern20 : Bool) (aper21 : List (List CV)) (b22 : List UInt8) (c23 : Int) : Option CV :=
  hold (E0 lb n 0 998 (sub (B F_rule_Pay) [1, 1]) (retK Tryz.prog (R F_rule_Pay) 0 (outK (tightF Tryz.prog F_rule_Pay))) ⟨fr 33 [(0, .val (.agg [.int .i64 anum1, .int .i64 awhekin2, .list awheln3 awhel4, .int .i64 awhea5, .int .i64 awheb6, .int .i64 awheperfro7, .int .i64 awheperto9, .int .i64 awheperday10, .list awhetexn11 awhetex12, .list acomn13 acom14, .int .i64 amin15, .int .i64 amax17, .int .i64 acha18, .int .i64 aref19, .list apern20 aper21])), (1, .val (.str b22)), (2, .val (.int .i64 c23)), (3, .ptr 0 3 0), (6, .val (.int .i64 0)), (7, .val (.int .i64 0))], [bx 33 [(3, some [.val (.int .i64 anum1), .val (.int .i64 awhekin2), .val (.list awheln3 awhel4), .val (.int .i64 awhea5), .val (.int .i64 awheb6), .val (.int .i64 awheperfro7), .val (.int .i64 awheperto9), .val (.int .i64 awheperday10), .val (.list awhetexn11 awhetex12), .val (.list acomn13 acom14), .val (.int .i64 amin15), .val (.int .i64 amax17), .val (.int .i64 acha18), .val (.int .i64 aref19), .val (.list apern20 aper21)])]], KK⟩)

theorem rule_Pay_J2_eq (lb : Nat) (n : Nat) (anum1 : Int) (awhekin2 : Int) (awheln3 : Bool) (awhel4 : List (List CV)) (awhea5 : Int) (awheb6 : Int) (awheperfro7 : Int) (awheperto9 : Int) (awheperday10 : Int) (awhetexn11 : Bool) (awhetex12 : List (List CV)) (acomn13 : Bool) (acom14 : List (List CV)) (amin15 : Int) (amax17 : Int) (acha18 : Int) (aref19 : Int) (apern20 : Bool) (aper21 : List (List CV)) (b22 : List UInt8) (c23 : Int) :
  rule_Pay_J2 lb n anum1 awhekin2 awheln3 awhel4 awhea5 awheb6 awheperfro7 awheperto9 awheperday10 awhetexn11 awhetex12 acomn13 acom14 amin15 amax17 acha18 aref19 apern20 aper21 b22 c23 =
 optO (C lb n F_money_Percent [.int .i64 c23, .int .i64 10000]) fun r57 =>
 optO (CV.asT r57) fun t58 =>
 optO (t58[0]?) fun x59 =>
 optO (CV.asT r57) fun t60 =>
 optO (t60[1]?) fun x61 =>
 some (.tup [x59, x61]) := (hold_eq _).trans (by kernel_rfl)

theorem rule_Pay_L1_succ (lb : Nat) (n k46 : Nat) (anum1 : Int) (awhekin2 : Int) (awheln3 : Bool) (awhel4 : List (List CV)) (awhea5 : Int) (awheb6 : Int) (awheperfro7 : Int) (awheperto9 : Int) (awheperday10 : Int) (awhetexn11 : Bool) (awhetex12 : List (List CV)) (acomn13 : Bool) (acom14 : List (List CV)) (amin15 : Int) (amax17 : Int) (acha18 : Int) (aref19 : Int) (apern20 : Bool) (aper21 : List (List CV)) (b22 : List UInt8) (c23 : Int) (i35 : Int) :
  rule_Pay_L1 lb n (k46 + 1) anum1 awhekin2 awheln3 awhel4 awhea5 awheb6 awheperfro7 awheperto9 awheperday10 awhetexn11 awhetex12 acomn13 acom14 amin15 amax17 acha18 aref19 apern20 aper21 b22 c23 i35 =
 bif (decide (i35 < (aper21.length : Int))) then
 (optO (atL aper21 i35) fun c47 =>
 chkO (c47.length == 2) (
 optO (c47[0]?) fun x48 =>
 optO (c47[1]?) fun x49 =>
 optO (CV.asS x48) fun s50 =>
 bif (s50 == b22) then
 (optO (CV.asI .i64 x49) fun i51 =>
 optO (C lb n F_money_Percent [.int .i64 c23, .int .i64 (IntKind.wrap .i64 (100 * i51))]) fun r52 =>
 optO (CV.asT r52) fun t53 =>
 optO (t53[0]?) fun x54 =>
 optO (CV.asT r52) fun t55 =>
 optO (t55[1]?) fun x56 =>
 some (.tup [x54, x56]))
 else
 (rule_Pay_L1 lb n k46 anum1 awhekin2 awheln3 awhel4 awhea5 awheb6 awheperfro7 awheperto9 awheperday10 awhetexn11 awhetex12 acomn13 acom14 amin15 amax17 acha18 aref19 apern20 aper21 b22 c23 (IntKind.wrap .i64 (i35 + 1)))))
 else
 (rule_Pay_J2 lb n anum1 awhekin2 awheln3 awhel4 awhea5 awheb6 awheperfro7 awheperto9 awheperday10 awhetexn11 awhetex12 acomn13 acom14 amin15 amax17 acha18 aref19 apern20 aper21 b22 c23 ) := (hold_eq _).trans (by kernel_rfl)

theorem rule_Pay_L1_zero (lb : Nat) (n : Nat) (anum1 : Int) (awhekin2 : Int) (awheln3 : Bool) (awhel4 : List (List CV)) (awhea5 : Int) (awheb6 : Int) (awheperfro7 : Int) (awheperto9 : Int) (awheperday10 : Int) (awhetexn11 : Bool) (awhetex12 : List (List CV)) (acomn13 : Bool) (acom14 : List (List CV)) (amin15 : Int) (amax17 : Int) (acha18 : Int) (aref19 : Int) (apern20 : Bool) (aper21 : List (List CV)) (b22 : List UInt8) (c23 : Int) (i35 : Int) :
  rule_Pay_L1 lb n 0 anum1 awhekin2 awheln3 awhel4 awhea5 awheb6 awheperfro7 awheperto9 awheperday10 awhetexn11 awhetex12 acomn13 acom14 amin15 amax17 acha18 aref19 apern20 aper21 b22 c23 i35 =
 none := (hold_eq _).trans (by kernel_rfl)

theorem rule_Pay_eq (lb : Nat) (n : Nat) (anum1 : Int) (awhekin2 : Int) (awheln3 : Bool) (awhel4 : List (List CV)) (awhea5 : Int) (awheb6 : Int) (awheperfro7 : Int) (awheperto9 : Int) (awheperday10 : Int) (awhetexn11 : Bool) (awhetex12 : List (List CV)) (acomn13 : Bool) (acom14 : List (List CV)) (amin15 : Int) (amax17 : Int) (acha18 : Int) (aref19 : Int) (apern20 : Bool) (aper21 : List (List CV)) (b22 : List UInt8) (c23 : Int) :
  top lb n F_rule_Pay [.agg [.int .i64 anum1, .int .i64 awhekin2, .list awheln3 awhel4, .int .i64 awhea5, .int .i64 awheb6, .int .i64 awheperfro7, .int .i64 awheperto9, .int .i64 awheperday10, .list awhetexn11 awhetex12, .list acomn13 acom14, .int .i64 amin15, .int .i64 amax17, .int .i64 acha18, .int .i64 aref19, .list apern20 aper21], .str b22, .int .i64 c23] =
 rule_Pay_L1 lb n n anum1 awhekin2 awheln3 awhel4 awhea5 awheb6 awheperfro7 awheperto9 awheperday10 awhetexn11 awhetex12 acomn13 acom14 amin15 amax17 acha18 aref19 apern20 aper21 b22 c23 0 := by kernel_rfl

/-! airline/airlineref21.Pay -/
noncomputable def r21_Pay_L1 (lb : Nat) (n : Nat) (k48 : Nat) (anum1 : Int) (awhekin2 : Int) (awheln3 : Bool) (awhel4 : List (List CV)) (awhea5 : Int) (awheb6 : Int) (awheperfro7 : Int) (awheperto9 : Int) (awheperday10 : Int) (awhetexn11 : Bool) (awhetex12 : List (List CV)) (acomn13 : Bool) (acom14 : List (List CV)) (amin15 : Int) (amax17 : Int) (acha18 : Int) (aref19 : Int) (apern20 : Bool) (aper21 : List (List CV)) (b22 : List UInt8) (c23 : Int) (i36 : Int) : Option CV :=
  hold (loopC (E0 lb n 0 995) 0 (loopTemps (sub (B F_r21_Pay) [1, 0, 1, 0, 0]) ++ []) [] (sub (B F_r21_Pay) [1, 0, 1, 0, 0]) (blockK 0 (seqK (E0 lb n 0 998) (sub (B F_r21_Pay) [1, 0]) (sub (B F_r21_Pay) [1, 1]) (retK Tryz.prog (R F_r21_Pay) 0 (outK (tightF Tryz.prog F_r21_Pay))))) k48 ⟨fr 39 [(0, .val (.agg [.int .i64 anum1, .int .i64 awhekin2, .list awheln3 awhel4, .int .i64 awhea5, .int .i64 awheb6, .int .i64 awheperfro7, .int .i64 awheperto9, .int .i64 awheperday10, .list awhetexn11 awhetex12, .list acomn13 acom14, .int .i64 amin15, .int .i64 amax17, .int .i64 acha18, .int .i64 aref19, .list apern20 aper21])), (1, .val (.str b22)), (2, .val (.int .i64 c23)), (3, .ptr 0 3 0), (6, .val (.int .i64 0)), (7, .val (.int .i64 0)), (8, .val (.int .i64 i36))], [bx 39 [(3, some [.val (.int .i64 anum1), .val (.int .i64 awhekin2), .val (.list awheln3 awhel4), .val (.int .i64 awhea5), .val (.int .i64 awheb6), .val (.int .i64 awheperfro7), .val (.int .i64 awheperto9), .val (.int .i64 awheperday10), .val (.list awhetexn11 awhetex12), .val (.list acomn13 acom14), .val (.int .i64 amin15), .val (.int .i64 amax17), .val (.int .i64 acha18), .val (.int .i64 aref19), .val (.list apern20 aper21)])]], KK⟩)

noncomputable def r21_Pay_J2 (lb : Nat) (n : Nat) (anum1 : Int) (awhekin2 : Int) (awheln3 : Bool) (awhel4 : List (List CV)) (awhea5 : Int) (awheb6 : Int) (awheperfro7 : Int) (awheperto9 : Int) (awheperday10 : Int) (awhetexn11 : Bool) (awhetex12 : List (List CV)) (acomn13 : Bool) (acom14 : List (List CV)) (amin15 : Int) (amax17 : Int) (acha18 : Int) (aref19 : Int) (apern20 : Bool) (aper21 : List (List CV)) (b22 : List UInt8) (c23 : Int) (i60 : Int) : Option CV :=
  hold (E0 lb n 0 998 (sub (B F_r21_Pay) [1, 1]) (retK Tryz.prog (R F_r21_Pay) 0 (outK (tightF Tryz.prog F_r21_Pay))) ⟨fr 39 [(0, .val (.agg [.int .i64 anum1, .int .i64 awhekin2, .list awheln3 awhel4, .int .i64 awhea5, .int .i64 awheb6, .int .i64 awheperfro7, .int .i64 awheperto9, .int .i64 awheperday10, .list awhetexn11 awhetex12, .list acomn13 acom14, .int .i64 amin15, .int .i64 amax17, .int .i64 acha18, .int .i64 aref19, .list apern20 aper21])), (1, .val (.str b22)), (2, .val (.int .i64 c23)), (3, .ptr 0 3 0), (6, .val (.int .i64 0)), (7, .val (.int .i64 0)), (8, .val (.int .i64 i60))], [bx 39 [(3, some [.val (.int .i64 anum1), .val (.int .i64 awhekin2), .val (.list awheln3 awhel4), .val (.int .i64 awhea5), .val (.int .i64 awheb6), .val (.int .i64 awheperfro7), .val (.int .i64 awheperto9), .val (.int .i64 awheperday10), .val (.list awhetexn11 awhetex12), .val (.list acomn13 acom14), .val (.int .i64 amin15), .val (.int .i64 amax17), .val (.int .i64 acha18), .val (.int .i64 aref19), .val (.list apern20 aper21)])]], KK⟩)

theorem r21_Pay_J2_eq (lb : Nat) (n : Nat) (anum1 : Int) (awhekin2 : Int) (awheln3 : Bool) (awhel4 : List (List CV)) (awhea5 : Int) (awheb6 : Int) (awheperfro7 : Int) (awheperto9 : Int) (awheperday10 : Int) (awhetexn11 : Bool) (awhetex12 : List (List CV)) (acomn13 : Bool) (acom14 : List (List CV)) (amin15 : Int) (amax17 : Int) (acha18 : Int) (aref19 : Int) (apern20 : Bool) (aper21 : List (List CV)) (b22 : List UInt8) (c23 : Int) (i60 : Int) :
  r21_Pay_J2 lb n anum1 awhekin2 awheln3 awhel4 awhea5 awheb6 awheperfro7 awheperto9 awheperday10 awhetexn11 awhetex12 acomn13 acom14 amin15 amax17 acha18 aref19 apern20 aper21 b22 c23 i60 =
 optO (C lb n F_r02_Percent [.int .i64 c23, .int .i64 10000]) fun r61 =>
 optO (CV.asT r61) fun t62 =>
 optO (t62[0]?) fun x63 =>
 optO (CV.asT r61) fun t65 =>
 optO (t65[1]?) fun x66 =>
 some (.tup [x63, x66]) := (hold_eq _).trans (by kernel_rfl)

theorem r21_Pay_L1_succ (lb : Nat) (n k48 : Nat) (anum1 : Int) (awhekin2 : Int) (awheln3 : Bool) (awhel4 : List (List CV)) (awhea5 : Int) (awheb6 : Int) (awheperfro7 : Int) (awheperto9 : Int) (awheperday10 : Int) (awhetexn11 : Bool) (awhetex12 : List (List CV)) (acomn13 : Bool) (acom14 : List (List CV)) (amin15 : Int) (amax17 : Int) (acha18 : Int) (aref19 : Int) (apern20 : Bool) (aper21 : List (List CV)) (b22 : List UInt8) (c23 : Int) (i36 : Int) :
  r21_Pay_L1 lb n (k48 + 1) anum1 awhekin2 awheln3 awhel4 awhea5 awheb6 awheperfro7 awheperto9 awheperday10 awhetexn11 awhetex12 acomn13 acom14 amin15 amax17 acha18 aref19 apern20 aper21 b22 c23 i36 =
 bif (decide (i36 < (aper21.length : Int))) then
 (optO (atL aper21 i36) fun c49 =>
 chkO (c49.length == 2) (
 optO (c49[0]?) fun x50 =>
 optO (CV.asS x50) fun s51 =>
 bif (s51 == b22) then
 (optO (atL aper21 i36) fun c52 =>
 chkO (c52.length == 2) (
 optO (c52[1]?) fun x53 =>
 optO (CV.asI .i64 x53) fun i54 =>
 optO (C lb n F_r02_Percent [.int .i64 c23, .int .i64 (IntKind.wrap .i64 (100 * i54))]) fun r55 =>
 optO (CV.asT r55) fun t56 =>
 optO (t56[0]?) fun x57 =>
 optO (CV.asT r55) fun t58 =>
 optO (t58[1]?) fun x59 =>
 some (.tup [x57, x59])))
 else
 (r21_Pay_L1 lb n k48 anum1 awhekin2 awheln3 awhel4 awhea5 awheb6 awheperfro7 awheperto9 awheperday10 awhetexn11 awhetex12 acomn13 acom14 amin15 amax17 acha18 aref19 apern20 aper21 b22 c23 (IntKind.wrap .i64 (i36 + 1)))))
 else
 (r21_Pay_J2 lb n anum1 awhekin2 awheln3 awhel4 awhea5 awheb6 awheperfro7 awheperto9 awheperday10 awhetexn11 awhetex12 acomn13 acom14 amin15 amax17 acha18 aref19 apern20 aper21 b22 c23 i36) := (hold_eq _).trans (by kernel_rfl)

theorem r21_Pay_L1_zero (lb : Nat) (n : Nat) (anum1 : Int) (awhekin2 : Int) (awheln3 : Bool) (awhel4 : List (List CV)) (awhea5 : Int) (awheb6 : Int) (awheperfro7 : Int) (awheperto9 : Int) (awheperday10 : Int) (awhetexn11 : Bool) (awhetex12 : List (List CV)) (acomn13 : Bool) (acom14 : List (List CV)) (amin15 : Int) (amax17 : Int) (acha18 : Int) (aref19 : Int) (apern20 : Bool) (aper21 : List (List CV)) (b22 : List UInt8) (c23 : Int) (i36 : Int) :
  r21_Pay_L1 lb n 0 anum1 awhekin2 awheln3 awhel4 awhea5 awheb6 awheperfro7 awheperto9 awheperday10 awhetexn11 awhetex12 acomn13 acom14 amin15 amax17 acha18 aref19 apern20 aper21 b22 c23 i36 =
 none := (hold_eq _).trans (by kernel_rfl)

theorem r21_Pay_eq (lb : Nat) (n : Nat) (anum1 : Int) (awhekin2 : Int) (awheln3 : Bool) (awhel4 : List (List CV)) (awhea5 : Int) (awheb6 : Int) (awheperfro7 : Int) (awheperto9 : Int) (awheperday10 : Int) (awhetexn11 : Bool) (awhetex12 : List (List CV)) (acomn13 : Bool) (acom14 : List (List CV)) (amin15 : Int) (amax17 : Int) (acha18 : Int) (aref19 : Int) (apern20 : Bool) (aper21 : List (List CV)) (b22 : List UInt8) (c23 : Int) :
  top lb n F_r21_Pay [.agg [.int .i64 anum1, .int .i64 awhekin2, .list awheln3 awhel4, .int .i64 awhea5, .int .i64 awheb6, .int .i64 awheperfro7, .int .i64 awheperto9, .int .i64 awheperday10, .list awhetexn11 awhetex12, .list acomn13 acom14, .int .i64 amin15, .int .i64 amax17, .int .i64 acha18, .int .i64 aref19, .list apern20 aper21], .str b22, .int .i64 c23] =
 r21_Pay_L1 lb n n anum1 awhekin2 awheln3 awhel4 awhea5 awheb6 awheperfro7 awheperto9 awheperday10 awhetexn11 awhetex12 acomn13 acom14 amin15 amax17 acha18 aref19 apern20 aper21 b22 c23 0 := by kernel_rfl

/-! airline/money.Percent -/
noncomputable def money_Percent_J1 (lb : Nat) (n : Nat) (a1 : Int) (b2 : Int) (x14 : CV) (x17 : CV) (r10 : CV) (r7 : CV) (r9 : CV) (x12 : CV) (i20 : Int) : Option CV :=
  hold (E0 lb n 0 995 (sub (B F_money_Percent) [1, 1, 1, 1, 1]) (retK Tryz.prog (R F_money_Percent) 0 (outK (tightF Tryz.prog F_money_Percent))) ⟨fr 56 [(0, .val (.int .i64 a1)), (1, .val (.int .i64 b2)), (4, .val (.int .i64 0)), (5, .val (.int .i64 0)), (6, .val (.int .u64 i20)), (7, .val x14), (8, .val x17), (9, .val (.bool (!((decide (a1 < 0)) == (decide (b2 < 0)))))), (18, .val r10), (19, .val (.int .i64 a1)), (20, .val r7), (21, .val (.int .i64 b2)), (22, .val r9), (23, .val r10), (24, .val x12), (25, .val x14), (26, .val x17), (27, .val (.int .i64 a1)), (28, .val (.bool (decide (a1 < 0)))), (29, .val (.int .i64 b2)), (30, .val (.bool (decide (b2 < 0)))), (31, .val (.bool (!((decide (a1 < 0)) == (decide (b2 < 0))))))], [bx 56 []], KK⟩)

theorem money_Percent_J1_eq (lb : Nat) (n : Nat) (a1 : Int) (b2 : Int) (x14 : CV) (x17 : CV) (r10 : CV) (r7 : CV) (r9 : CV) (x12 : CV) (i20 : Int) :
  money_Percent_J1 lb n a1 b2 x14 x17 r10 r7 r9 x12 i20 =
 optO (CV.asB x17) fun b21 =>
 bif (!b21) then
 (some (.tup [.int .i64 0, .int .i64 11]))
 else
 (bif (decide (i20 > 1099511627776)) then
 (some (.tup [.int .i64 0, .int .i64 11]))
 else
 (bif (!((decide (a1 < 0)) == (decide (b2 < 0)))) then
 (some (.tup [.int .i64 (IntKind.wrap .i64 (0 - (IntKind.wrap .i64 (i20)))), .int .i64 0]))
 else
 (some (.tup [.int .i64 (IntKind.wrap .i64 (i20)), .int .i64 0])))) := (hold_eq _).trans (by kernel_rfl)

noncomputable def money_Percent_J2 (lb : Nat) (n : Nat) (a1 : Int) (b2 : Int) (x12 : CV) (x14 : CV) (x17 : CV) (r10 : CV) (r7 : CV) (r9 : CV) : Option CV :=
  hold (E0 lb n 0 995 (sub (B F_money_Percent) [1, 1, 1, 1, 1]) (retK Tryz.prog (R F_money_Percent) 0 (outK (tightF Tryz.prog F_money_Percent))) ⟨fr 56 [(0, .val (.int .i64 a1)), (1, .val (.int .i64 b2)), (4, .val (.int .i64 0)), (5, .val (.int .i64 0)), (6, .val x12), (7, .val x14), (8, .val x17), (9, .val (.bool (!((decide (a1 < 0)) == (decide (b2 < 0)))))), (18, .val r10), (19, .val (.int .i64 a1)), (20, .val r7), (21, .val (.int .i64 b2)), (22, .val r9), (23, .val r10), (24, .val x12), (25, .val x14), (26, .val x17), (27, .val (.int .i64 a1)), (28, .val (.bool (decide (a1 < 0)))), (29, .val (.int .i64 b2)), (30, .val (.bool (decide (b2 < 0)))), (31, .val (.bool (!((decide (a1 < 0)) == (decide (b2 < 0))))))], [bx 56 []], KK⟩)

theorem money_Percent_J2_eq (lb : Nat) (n : Nat) (a1 : Int) (b2 : Int) (x12 : CV) (x14 : CV) (x17 : CV) (r10 : CV) (r7 : CV) (r9 : CV) :
  money_Percent_J2 lb n a1 b2 x12 x14 x17 r10 r7 r9 =
 optO (CV.asB x17) fun b24 =>
 bif (!b24) then
 (some (.tup [.int .i64 0, .int .i64 11]))
 else
 (optO (CV.asI .u64 x12) fun i25 =>
 bif (decide (i25 > 1099511627776)) then
 (some (.tup [.int .i64 0, .int .i64 11]))
 else
 (bif (!((decide (a1 < 0)) == (decide (b2 < 0)))) then
 (optO (CV.asI .u64 x12) fun i26 =>
 some (.tup [.int .i64 (IntKind.wrap .i64 (0 - (IntKind.wrap .i64 (i26)))), .int .i64 0]))
 else
 (optO (CV.asI .u64 x12) fun i27 =>
 some (.tup [.int .i64 (IntKind.wrap .i64 (i27)), .int .i64 0])))) := (hold_eq _).trans (by kernel_rfl)

theorem money_Percent_eq (lb : Nat) (n : Nat) (a1 : Int) (b2 : Int) :
  top lb n F_money_Percent [.int .i64 a1, .int .i64 b2] =
 optO (C lb n F_money_fits [.int .i64 a1]) fun r3 =>
 optO (CV.asB r3) fun b4 =>
 bif (!b4) then
 (some (.tup [.int .i64 0, .int .i64 11]))
 else
 (optO (C lb n F_money_fits [.int .i64 b2]) fun r5 =>
 optO (CV.asB r5) fun b6 =>
 bif (!b6) then
 (some (.tup [.int .i64 0, .int .i64 11]))
 else
 (optO (C lb n F_money_size [.int .i64 a1]) fun r7 =>
 optO (C lb n F_money_size [.int .i64 b2]) fun r9 =>
 optO (C lb n F_money_scale [r7, r9, .int .u64 10000]) fun r10 =>
 optO (CV.asT r10) fun t11 =>
 optO (t11[0]?) fun x12 =>
 optO (CV.asT r10) fun t13 =>
 optO (t13[1]?) fun x14 =>
 optO (CV.asT r10) fun t15 =>
 optO (t15[2]?) fun x17 =>
 optO (CV.asI .u64 x14) fun i18 =>
 bif (decide (i18 > 5000)) then
 (optO (CV.asI .u64 x12) fun i19 =>
 money_Percent_J1 lb n a1 b2 x14 x17 r10 r7 r9 x12 (IntKind.wrap .u64 (i19 + 1)))
 else
 (optO (CV.asI .u64 x14) fun i22 =>
 bif (i22 == 5000) then
 (bif (!(!((decide (a1 < 0)) == (decide (b2 < 0))))) then
 (optO (CV.asI .u64 x12) fun i23 =>
 money_Percent_J1 lb n a1 b2 x14 x17 r10 r7 r9 x12 (IntKind.wrap .u64 (i23 + 1)))
 else
 (money_Percent_J2 lb n a1 b2 x12 x14 x17 r10 r7 r9 ))
 else
 (money_Percent_J2 lb n a1 b2 x12 x14 x17 r10 r7 r9 )))) := by kernel_rfl

/-! airline/money.scale -/
theorem money_scale_eq (lb : Nat) (n : Nat) (a1 : Int) (b2 : Int) (c3 : Int) :
  top lb n F_money_scale [.int .u64 a1, .int .u64 b2, .int .u64 c3] =
 optO (C lb n F_math_bits_Mul64 [.int .u64 a1, .int .u64 b2]) fun r4 =>
 optO (CV.asT r4) fun t5 =>
 optO (t5[0]?) fun x6 =>
 optO (CV.asT r4) fun t7 =>
 optO (t7[1]?) fun x9 =>
 optO (CV.asI .u64 x6) fun i10 =>
 bif (decide (i10 ≥ c3)) then
 (some (.tup [.int .u64 0, .int .u64 0, .bool false]))
 else
 (optO (C lb n F_math_bits_Div64 [x6, x9, .int .u64 c3]) fun r11 =>
 optO (CV.asT r11) fun t12 =>
 optO (t12[0]?) fun x13 =>
 optO (CV.asT r11) fun t14 =>
 optO (t14[1]?) fun x15 =>
 some (.tup [x13, x15, .bool true])) := by kernel_rfl

/-! airline/money.size -/
theorem money_size_eq (lb : Nat) (n : Nat) (a1 : Int) :
  top lb n F_money_size [.int .i64 a1] =
 bif (decide (a1 < 0)) then
 (some (.int .u64 (IntKind.wrap .u64 (0 - (IntKind.wrap .u64 (a1))))))
 else
 (some (.int .u64 (IntKind.wrap .u64 (a1)))) := by kernel_rfl

/-! airline/money.fits -/
theorem money_fits_eq (lb : Nat) (n : Nat) (a1 : Int) :
  top lb n F_money_fits [.int .i64 a1] =
 bif (decide (a1 ≥ (-1099511627776))) then
 (some (.bool (decide (a1 ≤ 1099511627776))))
 else
 (some (.bool false)) := by kernel_rfl

/-! math/bits.Mul64 -/
theorem math_bits_Mul64_eq (lb : Nat) (n : Nat) (a1 : Int) (b2 : Int) :
  top lb n F_math_bits_Mul64 [.int .u64 a1, .int .u64 b2] =
 some (.tup [.int .u64 (IntKind.wrap .u64 ((IntKind.wrap .u64 ((IntKind.wrap .u64 ((Int.fdiv a1 (2 ^ 32)) * (Int.fdiv b2 (2 ^ 32)))) + (Int.fdiv (IntKind.wrap .u64 ((IntKind.wrap .u64 ((Int.fdiv a1 (2 ^ 32)) * (IntKind.wrap .u64 ((BitVec.ofInt 64 b2 &&& BitVec.ofInt 64 4294967295).toNat)))) + (Int.fdiv (IntKind.wrap .u64 ((IntKind.wrap .u64 ((BitVec.ofInt 64 a1 &&& BitVec.ofInt 64 4294967295).toNat)) * (IntKind.wrap .u64 ((BitVec.ofInt 64 b2 &&& BitVec.ofInt 64 4294967295).toNat)))) (2 ^ 32)))) (2 ^ 32)))) + (Int.fdiv (IntKind.wrap .u64 ((IntKind.wrap .u64 ((BitVec.ofInt 64 (IntKind.wrap .u64 ((IntKind.wrap .u64 ((Int.fdiv a1 (2 ^ 32)) * (IntKind.wrap .u64 ((BitVec.ofInt 64 b2 &&& BitVec.ofInt 64 4294967295).toNat)))) + (Int.fdiv (IntKind.wrap .u64 ((IntKind.wrap .u64 ((BitVec.ofInt 64 a1 &&& BitVec.ofInt 64 4294967295).toNat)) * (IntKind.wrap .u64 ((BitVec.ofInt 64 b2 &&& BitVec.ofInt 64 4294967295).toNat)))) (2 ^ 32)))) &&& BitVec.ofInt 64 4294967295).toNat)) + (IntKind.wrap .u64 ((IntKind.wrap .u64 ((BitVec.ofInt 64 a1 &&& BitVec.ofInt 64 4294967295).toNat)) * (Int.fdiv b2 (2 ^ 32)))))) (2 ^ 32)))), .int .u64 (IntKind.wrap .u64 (a1 * b2))]) := by kernel_rfl

/-! math/bits.Div64 -/
noncomputable def math_bits_Div64_J1 (lb : Nat) (n : Nat) (a1 : Int) (b2 : Int) (c3 : Int) : Option CV :=
  hold (E0 lb n 0 998 (sub (B F_math_bits_Div64) [1, 1]) (retK Tryz.prog (R F_math_bits_Div64) 0 (outK (tightF Tryz.prog F_math_bits_Div64))) ⟨fr 135 [(0, .val (.int .u64 a1)), (1, .val (.int .u64 b2)), (2, .val (.int .u64 c3)), (6, .val (.int .u64 0)), (7, .val (.int .u64 0))], [bx 135 []], KK⟩)

noncomputable def math_bits_Div64_J2 (lb : Nat) (n : Nat) (a1 : Int) (b2 : Int) (c3 : Int) : Option CV :=
  hold (E0 lb n 0 997 (sub (B F_math_bits_Div64) [1, 1, 1]) (retK Tryz.prog (R F_math_bits_Div64) 0 (outK (tightF Tryz.prog F_math_bits_Div64))) ⟨fr 135 [(0, .val (.int .u64 a1)), (1, .val (.int .u64 b2)), (2, .val (.int .u64 c3)), (6, .val (.int .u64 0)), (7, .val (.int .u64 0))], [bx 135 []], KK⟩)

noncomputable def math_bits_Div64_L3 (lb : Nat) (n : Nat) (k11 : Nat) (a1 : Int) (b2 : Int) (c3 : Int) (i5 : Int) (r4 : CV) (i9 : Int) (i10 : Int) : Option CV :=
  hold (loopC (E0 lb n 0 983) 0 (loopTemps (sub (B F_math_bits_Div64) [1, 1, 1, 1, 1, 1, 1, 1, 1, 1, 1, 1, 1, 1, 0, 0, 0]) ++ []) [] (sub (B F_math_bits_Div64) [1, 1, 1, 1, 1, 1, 1, 1, 1, 1, 1, 1, 1, 1, 0, 0, 0]) (blockK 0 (seqK (E0 lb n 0 985) (sub (B F_math_bits_Div64) [1, 1, 1, 1, 1, 1, 1, 1, 1, 1, 1, 1, 1, 1, 0]) (sub (B F_math_bits_Div64) [1, 1, 1, 1, 1, 1, 1, 1, 1, 1, 1, 1, 1, 1, 1]) (retK Tryz.prog (R F_math_bits_Div64) 0 (outK (tightF Tryz.prog F_math_bits_Div64))))) k11 ⟨fr 135 [(0, .val (.int .u64 a1)), (1, .val (.int .u64 b2)), (2, .val (.int .u64 (IntKind.wrap .u64 (c3 * 2 ^ (min ((IntKind.wrap .u64 (i5))).toNat 64))))), (6, .val (.int .u64 0)), (7, .val (.int .u64 0)), (8, .val (.int .u64 (IntKind.wrap .u64 (i5)))), (9, .val (.int .u64 (Int.fdiv (IntKind.wrap .u64 (c3 * 2 ^ (min ((IntKind.wrap .u64 (i5))).toNat 64))) (2 ^ 32)))), (10, .val (.int .u64 (IntKind.wrap .u64 ((BitVec.ofInt 64 (IntKind.wrap .u64 (c3 * 2 ^ (min ((IntKind.wrap .u64 (i5))).toNat 64))) &&& BitVec.ofInt 64 4294967295).toNat)))), (11, .val (.int .u64 (IntKind.wrap .u64 ((BitVec.ofInt 64 (IntKind.wrap .u64 (a1 * 2 ^ (min ((IntKind.wrap .u64 (i5))).toNat 64))) ||| BitVec.ofInt 64 (Int.fdiv b2 (2 ^ (min ((IntKind.wrap .u64 (64 - (IntKind.wrap .u64 (i5))))).toNat 64)))).toNat)))), (12, .val (.int .u64 (IntKind.wrap .u64 (b2 * 2 ^ (min ((IntKind.wrap .u64 (i5))).toNat 64))))), (13, .val (.int .u64 (Int.fdiv (IntKind.wrap .u64 (b2 * 2 ^ (min ((IntKind.wrap .u64 (i5))).toNat 64))) (2 ^ 32)))), (14, .val (.int .u64 (IntKind.wrap .u64 ((BitVec.ofInt 64 (IntKind.wrap .u64 (b2 * 2 ^ (min ((IntKind.wrap .u64 (i5))).toNat 64))) &&& BitVec.ofInt 64 4294967295).toNat)))), (15, .val (.int .u64 i9)), (16, .val (.int .u64 i10)), (34, .val (.int .u64 c3)), (35, .val r4), (36, .val (.int .u64 (IntKind.wrap .u64 (i5)))), (37, .val (.int .u64 c3)), (38, .val (.int .u64 (IntKind.wrap .u64 (i5)))), (39, .val (.int .u64 (IntKind.wrap .u64 (c3 * 2 ^ (min ((IntKind.wrap .u64 (i5))).toNat 64))))), (40, .val (.int .u64 (IntKind.wrap .u64 (c3 * 2 ^ (min ((IntKind.wrap .u64 (i5))).toNat 64))))), (41, .val (.int .u64 (Int.fdiv (IntKind.wrap .u64 (c3 * 2 ^ (min ((IntKind.wrap .u64 (i5))).toNat 64))) (2 ^ 32)))), (42, .val (.int .u64 (IntKind.wrap .u64 (c3 * 2 ^ (min ((IntKind.wrap .u64 (i5))).toNat 64))))), (43, .val (.int .u64 (IntKind.wrap .u64 ((BitVec.ofInt 64 (IntKind.wrap .u64 (c3 * 2 ^ (min ((IntKind.wrap .u64 (i5))).toNat 64))) &&& BitVec.ofInt 64 4294967295).toNat)))), (44, .val (.int .u64 a1)), (45, .val (.int .u64 (IntKind.wrap .u64 (i5)))), (46, .val (.int .u64 (IntKind.wrap .u64 (a1 * 2 ^ (min ((IntKind.wrap .u64 (i5))).toNat 64))))), (47, .val (.int .u64 b2)), (48, .val (.int .u64 (IntKind.wrap .u64 (i5)))), (49, .val (.int .u64 (IntKind.wrap .u64 (64 - (IntKind.wrap .u64 (i5)))))), (50, .val (.int .u64 (Int.fdiv b2 (2 ^ (min ((IntKind.wrap .u64 (64 - (IntKind.wrap .u64 (i5))))).toNat 64))))), (51, .val (.int .u64 (IntKind.wrap .u64 ((BitVec.ofInt 64 (IntKind.wrap .u64 (a1 * 2 ^ (min ((IntKind.wrap .u64 (i5))).toNat 64))) ||| BitVec.ofInt 64 (Int.fdiv b2 (2 ^ (min ((IntKind.wrap .u64 (64 - (IntKind.wrap .u64 (i5))))).toNat 64)))).toNat)))), (52, .val (.int .u64 b2)), (53, .val (.int .u64 (IntKind.wrap .u64 (i5)))), (54, .val (.int .u64 (IntKind.wrap .u64 (b2 * 2 ^ (min ((IntKind.wrap .u64 (i5))).toNat 64))))), (55, .val (.int .u64 (IntKind.wrap .u64 (b2 * 2 ^ (min ((IntKind.wrap .u64 (i5))).toNat 64))))), (56, .val (.int .u64 (Int.fdiv (IntKind.wrap .u64 (b2 * 2 ^ (min ((IntKind.wrap .u64 (i5))).toNat 64))) (2 ^ 32)))), (57, .val (.int .u64 (IntKind.wrap .u64 (b2 * 2 ^ (min ((IntKind.wrap .u64 (i5))).toNat 64))))), (58, .val (.int .u64 (IntKind.wrap .u64 ((BitVec.ofInt 64 (IntKind.wrap .u64 (b2 * 2 ^ (min ((IntKind.wrap .u64 (i5))).toNat 64))) &&& BitVec.ofInt 64 4294967295).toNat)))), (59, .val (.int .u64 (IntKind.wrap .u64 ((BitVec.ofInt 64 (IntKind.wrap .u64 (a1 * 2 ^ (min ((IntKind.wrap .u64 (i5))).toNat 64))) ||| BitVec.ofInt 64 (Int.fdiv b2 (2 ^ (min ((IntKind.wrap .u64 (64 - (IntKind.wrap .u64 (i5))))).toNat 64)))).toNat)))), (60, .val (.int .u64 (Int.fdiv (IntKind.wrap .u64 (c3 * 2 ^ (min ((IntKind.wrap .u64 (i5))).toNat 64))) (2 ^ 32)))), (61, .val (.int .u64 (IntKind.wrap .u64 (Int.tdiv (IntKind.wrap .u64 ((BitVec.ofInt 64 (IntKind.wrap .u64 (a1 * 2 ^ (min ((IntKind.wrap .u64 (i5))).toNat 64))) ||| BitVec.ofInt 64 (Int.fdiv b2 (2 ^ (min ((IntKind.wrap .u64 (64 - (IntKind.wrap .u64 (i5))))).toNat 64)))).toNat)) (Int.fdiv (IntKind.wrap .u64 (c3 * 2 ^ (min ((IntKind.wrap .u64 (i5))).toNat 64))) (2 ^ 32)))))), (62, .val (.int .u64 (IntKind.wrap .u64 ((BitVec.ofInt 64 (IntKind.wrap .u64 (a1 * 2 ^ (min ((IntKind.wrap .u64 (i5))).toNat 64))) ||| BitVec.ofInt 64 (Int.fdiv b2 (2 ^ (min ((IntKind.wrap .u64 (64 - (IntKind.wrap .u64 (i5))))).toNat 64)))).toNat)))), (63, .val (.int .u64 (IntKind.wrap .u64 (Int.tdiv (IntKind.wrap .u64 ((BitVec.ofInt 64 (IntKind.wrap .u64 (a1 * 2 ^ (min ((IntKind.wrap .u64 (i5))).toNat 64))) ||| BitVec.ofInt 64 (Int.fdiv b2 (2 ^ (min ((IntKind.wrap .u64 (64 - (IntKind.wrap .u64 (i5))))).toNat 64)))).toNat)) (Int.fdiv (IntKind.wrap .u64 (c3 * 2 ^ (min ((IntKind.wrap .u64 (i5))).toNat 64))) (2 ^ 32)))))), (64, .val (.int .u64 (Int.fdiv (IntKind.wrap .u64 (c3 * 2 ^ (min ((IntKind.wrap .u64 (i5))).toNat 64))) (2 ^ 32)))), (65, .val (.int .u64 (IntKind.wrap .u64 ((IntKind.wrap .u64 (Int.tdiv (IntKind.wrap .u64 ((BitVec.ofInt 64 (IntKind.wrap .u64 (a1 * 2 ^ (min ((IntKind.wrap .u64 (i5))).toNat 64))) ||| BitVec.ofInt 64 (Int.fdiv b2 (2 ^ (min ((IntKind.wrap .u64 (64 - (IntKind.wrap .u64 (i5))))).toNat 64)))).toNat)) (Int.fdiv (IntKind.wrap .u64 (c3 * 2 ^ (min ((IntKind.wrap .u64 (i5))).toNat 64))) (2 ^ 32)))) * (Int.fdiv (IntKind.wrap .u64 (c3 * 2 ^ (min ((IntKind.wrap .u64 (i5))).toNat 64))) (2 ^ 32)))))), (66, .val (.int .u64 (IntKind.wrap .u64 ((IntKind.wrap .u64 ((BitVec.ofInt 64 (IntKind.wrap .u64 (a1 * 2 ^ (min ((IntKind.wrap .u64 (i5))).toNat 64))) ||| BitVec.ofInt 64 (Int.fdiv b2 (2 ^ (min ((IntKind.wrap .u64 (64 - (IntKind.wrap .u64 (i5))))).toNat 64)))).toNat)) - (IntKind.wrap .u64 ((IntKind.wrap .u64 (Int.tdiv (IntKind.wrap .u64 ((BitVec.ofInt 64 (IntKind.wrap .u64 (a1 * 2 ^ (min ((IntKind.wrap .u64 (i5))).toNat 64))) ||| BitVec.ofInt 64 (Int.fdiv b2 (2 ^ (min ((IntKind.wrap .u64 (64 - (IntKind.wrap .u64 (i5))))).toNat 64)))).toNat)) (Int.fdiv (IntKind.wrap .u64 (c3 * 2 ^ (min ((IntKind.wrap .u64 (i5))).toNat 64))) (2 ^ 32)))) * (Int.fdiv (IntKind.wrap .u64 (c3 * 2 ^ (min ((IntKind.wrap .u64 (i5))).toNat 64))) (2 ^ 32))))))))], [bx 135 []], KK⟩)

noncomputable def math_bits_Div64_J4 (lb : Nat) (n : Nat) (a1 : Int) (b2 : Int) (c3 : Int) (i5 : Int) (r4 : CV) (i12 : Int) (i13 : Int) : Option CV :=
  hold (E0 lb n 0 985 (sub (B F_math_bits_Div64) [1, 1, 1, 1, 1, 1, 1, 1, 1, 1, 1, 1, 1, 1, 1]) (retK Tryz.prog (R F_math_bits_Div64) 0 (outK (tightF Tryz.prog F_math_bits_Div64))) ⟨fr 135 [(0, .val (.int .u64 a1)), (1, .val (.int .u64 b2)), (2, .val (.int .u64 (IntKind.wrap .u64 (c3 * 2 ^ (min ((IntKind.wrap .u64 (i5))).toNat 64))))), (6, .val (.int .u64 0)), (7, .val (.int .u64 0)), (8, .val (.int .u64 (IntKind.wrap .u64 (i5)))), (9, .val (.int .u64 (Int.fdiv (IntKind.wrap .u64 (c3 * 2 ^ (min ((IntKind.wrap .u64 (i5))).toNat 64))) (2 ^ 32)))), (10, .val (.int .u64 (IntKind.wrap .u64 ((BitVec.ofInt 64 (IntKind.wrap .u64 (c3 * 2 ^ (min ((IntKind.wrap .u64 (i5))).toNat 64))) &&& BitVec.ofInt 64 4294967295).toNat)))), (11, .val (.int .u64 (IntKind.wrap .u64 ((BitVec.ofInt 64 (IntKind.wrap .u64 (a1 * 2 ^ (min ((IntKind.wrap .u64 (i5))).toNat 64))) ||| BitVec.ofInt 64 (Int.fdiv b2 (2 ^ (min ((IntKind.wrap .u64 (64 - (IntKind.wrap .u64 (i5))))).toNat 64)))).toNat)))), (12, .val (.int .u64 (IntKind.wrap .u64 (b2 * 2 ^ (min ((IntKind.wrap .u64 (i5))).toNat 64))))), (13, .val (.int .u64 (Int.fdiv (IntKind.wrap .u64 (b2 * 2 ^ (min ((IntKind.wrap .u64 (i5))).toNat 64))) (2 ^ 32)))), (14, .val (.int .u64 (IntKind.wrap .u64 ((BitVec.ofInt 64 (IntKind.wrap .u64 (b2 * 2 ^ (min ((IntKind.wrap .u64 (i5))).toNat 64))) &&& BitVec.ofInt 64 4294967295).toNat)))), (15, .val (.int .u64 i12)), (16, .val (.int .u64 i13)), (34, .val (.int .u64 c3)), (35, .val r4), (36, .val (.int .u64 (IntKind.wrap .u64 (i5)))), (37, .val (.int .u64 c3)), (38, .val (.int .u64 (IntKind.wrap .u64 (i5)))), (39, .val (.int .u64 (IntKind.wrap .u64 (c3 * 2 ^ (min ((IntKind.wrap .u64 (i5))).toNat 64))))), (40, .val (.int .u64 (IntKind.wrap .u64 (c3 * 2 ^ (min ((IntKind.wrap .u64 (i5))).toNat 64))))), (41, .val (.int .u64 (Int.fdiv (IntKind.wrap .u64 (c3 * 2 ^ (min ((IntKind.wrap .u64 (i5))).toNat 64))) (2 ^ 32)))), (42, .val (.int .u64 (IntKind.wrap .u64 (c3 * 2 ^ (min ((IntKind.wrap .u64 (i5))).toNat 64))))), (43, .val (.int .u64 (IntKind.wrap .u64 ((BitVec.ofInt 64 (IntKind.wrap .u64 (c3 * 2 ^ (min ((IntKind.wrap .u64 (i5))).toNat 64))) &&& BitVec.ofInt 64 4294967295).toNat)))), (44, .val (.int .u64 a1)), (45, .val (.int .u64 (IntKind.wrap .u64 (i5)))), (46, .val (.int .u64 (IntKind.wrap .u64 (a1 * 2 ^ (min ((IntKind.wrap .u64 (i5))).toNat 64))))), (47, .val (.int .u64 b2)), (48, .val (.int .u64 (IntKind.wrap .u64 (i5)))), (49, .val (.int .u64 (IntKind.wrap .u64 (64 - (IntKind.wrap .u64 (i5)))))), (50, .val (.int .u64 (Int.fdiv b2 (2 ^ (min ((IntKind.wrap .u64 (64 - (IntKind.wrap .u64 (i5))))).toNat 64))))), (51, .val (.int .u64 (IntKind.wrap .u64 ((BitVec.ofInt 64 (IntKind.wrap .u64 (a1 * 2 ^ (min ((IntKind.wrap .u64 (i5))).toNat 64))) ||| BitVec.ofInt 64 (Int.fdiv b2 (2 ^ (min ((IntKind.wrap .u64 (64 - (IntKind.wrap .u64 (i5))))).toNat 64)))).toNat)))), (52, .val (.int .u64 b2)), (53, .val (.int .u64 (IntKind.wrap .u64 (i5)))), (54, .val (.int .u64 (IntKind.wrap .u64 (b2 * 2 ^ (min ((IntKind.wrap .u64 (i5))).toNat 64))))), (55, .val (.int .u64 (IntKind.wrap .u64 (b2 * 2 ^ (min ((IntKind.wrap .u64 (i5))).toNat 64))))), (56, .val (.int .u64 (Int.fdiv (IntKind.wrap .u64 (b2 * 2 ^ (min ((IntKind.wrap .u64 (i5))).toNat 64))) (2 ^ 32)))), (57, .val (.int .u64 (IntKind.wrap .u64 (b2 * 2 ^ (min ((IntKind.wrap .u64 (i5))).toNat 64))))), (58, .val (.int .u64 (IntKind.wrap .u64 ((BitVec.ofInt 64 (IntKind.wrap .u64 (b2 * 2 ^ (min ((IntKind.wrap .u64 (i5))).toNat 64))) &&& BitVec.ofInt 64 4294967295).toNat)))), (59, .val (.int .u64 (IntKind.wrap .u64 ((BitVec.ofInt 64 (IntKind.wrap .u64 (a1 * 2 ^ (min ((IntKind.wrap .u64 (i5))).toNat 64))) ||| BitVec.ofInt 64 (Int.fdiv b2 (2 ^ (min ((IntKind.wrap .u64 (64 - (IntKind.wrap .u64 (i5))))).toNat 64)))).toNat)))), (60, .val (.int .u64 (Int.fdiv (IntKind.wrap .u64 (c3 * 2 ^ (min ((IntKind.wrap .u64 (i5))).toNat 64))) (2 ^ 32)))), (61, .val (.int .u64 (IntKind.wrap .u64 (Int.tdiv (IntKind.wrap .u64 ((BitVec.ofInt 64 (IntKind.wrap .u64 (a1 * 2 ^ (min ((IntKind.wrap .u64 (i5))).toNat 64))) ||| BitVec.ofInt 64 (Int.fdiv b2 (2 ^ (min ((IntKind.wrap .u64 (64 - (IntKind.wrap .u64 (i5))))).toNat 64)))).toNat)) (Int.fdiv (IntKind.wrap .u64 (c3 * 2 ^ (min ((IntKind.wrap .u64 (i5))).toNat 64))) (2 ^ 32)))))), (62, .val (.int .u64 (IntKind.wrap .u64 ((BitVec.ofInt 64 (IntKind.wrap .u64 (a1 * 2 ^ (min ((IntKind.wrap .u64 (i5))).toNat 64))) ||| BitVec.ofInt 64 (Int.fdiv b2 (2 ^ (min ((IntKind.wrap .u64 (64 - (IntKind.wrap .u64 (i5))))).toNat 64)))).toNat)))), (63, .val (.int .u64 (IntKind.wrap .u64 (Int.tdiv (IntKind.wrap .u64 ((BitVec.ofInt 64 (IntKind.wrap .u64 (a1 * 2 ^ (min ((IntKind.wrap .u64 (i5))).toNat 64))) ||| BitVec.ofInt 64 (Int.fdiv b2 (2 ^ (min ((IntKind.wrap .u64 (64 - (IntKind.wrap .u64 (i5))))).toNat 64)))).toNat)) (Int.fdiv (IntKind.wrap .u64 (c3 * 2 ^ (min ((IntKind.wrap .u64 (i5))).toNat 64))) (2 ^ 32)))))), (64, .val (.int .u64 (Int.fdiv (IntKind.wrap .u64 (c3 * 2 ^ (min ((IntKind.wrap .u64 (i5))).toNat 64))) (2 ^ 32)))), (65, .val (.int .u64 (IntKind.wrap .u64 ((IntKind.wrap .u64 (Int.tdiv (IntKind.wrap .u64 ((BitVec.ofInt 64 (IntKind.wrap .u64 (a1 * 2 ^ (min ((IntKind.wrap .u64 (i5))).toNat 64))) ||| BitVec.ofInt 64 (Int.fdiv b2 (2 ^ (min ((IntKind.wrap .u64 (64 - (IntKind.wrap .u64 (i5))))).toNat 64)))).toNat)) (Int.fdiv (IntKind.wrap .u64 (c3 * 2 ^ (min ((IntKind.wrap .u64 (i5))).toNat 64))) (2 ^ 32)))) * (Int.fdiv (IntKind.wrap .u64 (c3 * 2 ^ (min ((IntKind.wrap .u64 (i5))).toNat 64))) (2 ^ 32)))))), (66, .val (.int .u64 (IntKind.wrap .u64 ((IntKind.wrap .u64 ((BitVec.ofInt 64 (IntKind.wrap .u64 (a1 * 2 ^ (min ((IntKind.wrap .u64 (i5))).toNat 64))) ||| BitVec.ofInt 64 (Int.fdiv b2 (2 ^ (min ((IntKind.wrap .u64 (64 - (IntKind.wrap .u64 (i5))))).toNat 64)))).toNat)) - (IntKind.wrap .u64 ((IntKind.wrap .u64 (Int.tdiv (IntKind.wrap .u64 ((BitVec.ofInt 64 (IntKind.wrap .u64 (a1 * 2 ^ (min ((IntKind.wrap .u64 (i5))).toNat 64))) ||| BitVec.ofInt 64 (Int.fdiv b2 (2 ^ (min ((IntKind.wrap .u64 (64 - (IntKind.wrap .u64 (i5))))).toNat 64)))).toNat)) (Int.fdiv (IntKind.wrap .u64 (c3 * 2 ^ (min ((IntKind.wrap .u64 (i5))).toNat 64))) (2 ^ 32)))) * (Int.fdiv (IntKind.wrap .u64 (c3 * 2 ^ (min ((IntKind.wrap .u64 (i5))).toNat 64))) (2 ^ 32))))))))], [bx 135 []], KK⟩)

noncomputable def math_bits_Div64_L5 (lb : Nat) (n : Nat) (k19 : Nat) (a1 : Int) (b2 : Int) (c3 : Int) (i5 : Int) (i12 : Int) (r4 : CV) (i17 : Int) (i18 : Int) : Option CV :=
  hold (loopC (E0 lb n 0 979) 0 (loopTemps (sub (B F_math_bits_Div64) [1, 1, 1, 1, 1, 1, 1, 1, 1, 1, 1, 1, 1, 1, 1, 1, 1, 1, 0, 0, 0]) ++ []) [] (sub (B F_math_bits_Div64) [1, 1, 1, 1, 1, 1, 1, 1, 1, 1, 1, 1, 1, 1, 1, 1, 1, 1, 0, 0, 0]) (blockK 2 (seqK (E0 lb n 0 981) (sub (B F_math_bits_Div64) [1, 1, 1, 1, 1, 1, 1, 1, 1, 1, 1, 1, 1, 1, 1, 1, 1, 1, 0]) (sub (B F_math_bits_Div64) [1, 1, 1, 1, 1, 1, 1, 1, 1, 1, 1, 1, 1, 1, 1, 1, 1, 1, 1]) (retK Tryz.prog (R F_math_bits_Div64) 0 (outK (tightF Tryz.prog F_math_bits_Div64))))) k19 ⟨fr 135 [(0, .val (.int .u64 a1)), (1, .val (.int .u64 b2)), (2, .val (.int .u64 (IntKind.wrap .u64 (c3 * 2 ^ (min ((IntKind.wrap .u64 (i5))).toNat 64))))), (6, .val (.int .u64 0)), (7, .val (.int .u64 0)), (8, .val (.int .u64 (IntKind.wrap .u64 (i5)))), (9, .val (.int .u64 (Int.fdiv (IntKind.wrap .u64 (c3 * 2 ^ (min ((IntKind.wrap .u64 (i5))).toNat 64))) (2 ^ 32)))), (10, .val (.int .u64 (IntKind.wrap .u64 ((BitVec.ofInt 64 (IntKind.wrap .u64 (c3 * 2 ^ (min ((IntKind.wrap .u64 (i5))).toNat 64))) &&& BitVec.ofInt 64 4294967295).toNat)))), (11, .val (.int .u64 (IntKind.wrap .u64 ((BitVec.ofInt 64 (IntKind.wrap .u64 (a1 * 2 ^ (min ((IntKind.wrap .u64 (i5))).toNat 64))) ||| BitVec.ofInt 64 (Int.fdiv b2 (2 ^ (min ((IntKind.wrap .u64 (64 - (IntKind.wrap .u64 (i5))))).toNat 64)))).toNat)))), (12, .val (.int .u64 (IntKind.wrap .u64 (b2 * 2 ^ (min ((IntKind.wrap .u64 (i5))).toNat 64))))), (13, .val (.int .u64 (Int.fdiv (IntKind.wrap .u64 (b2 * 2 ^ (min ((IntKind.wrap .u64 (i5))).toNat 64))) (2 ^ 32)))), (14, .val (.int .u64 (IntKind.wrap .u64 ((BitVec.ofInt 64 (IntKind.wrap .u64 (b2 * 2 ^ (min ((IntKind.wrap .u64 (i5))).toNat 64))) &&& BitVec.ofInt 64 4294967295).toNat)))), (15, .val (.int .u64 i12)), (16, .val (.int .u64 i17)), (17, .val (.int .u64 (IntKind.wrap .u64 ((IntKind.wrap .u64 ((IntKind.wrap .u64 ((IntKind.wrap .u64 ((BitVec.ofInt 64 (IntKind.wrap .u64 (a1 * 2 ^ (min ((IntKind.wrap .u64 (i5))).toNat 64))) ||| BitVec.ofInt 64 (Int.fdiv b2 (2 ^ (min ((IntKind.wrap .u64 (64 - (IntKind.wrap .u64 (i5))))).toNat 64)))).toNat)) * 4294967296)) + (Int.fdiv (IntKind.wrap .u64 (b2 * 2 ^ (min ((IntKind.wrap .u64 (i5))).toNat 64))) (2 ^ 32)))) - (IntKind.wrap .u64 (i12 * (IntKind.wrap .u64 (c3 * 2 ^ (min ((IntKind.wrap .u64 (i5))).toNat 64))))))))), (18, .val (.int .u64 i18)), (34, .val (.int .u64 c3)), (35, .val r4), (36, .val (.int .u64 (IntKind.wrap .u64 (i5)))), (37, .val (.int .u64 c3)), (38, .val (.int .u64 (IntKind.wrap .u64 (i5)))), (39, .val (.int .u64 (IntKind.wrap .u64 (c3 * 2 ^ (min ((IntKind.wrap .u64 (i5))).toNat 64))))), (40, .val (.int .u64 (IntKind.wrap .u64 (c3 * 2 ^ (min ((IntKind.wrap .u64 (i5))).toNat 64))))), (41, .val (.int .u64 (Int.fdiv (IntKind.wrap .u64 (c3 * 2 ^ (min ((IntKind.wrap .u64 (i5))).toNat 64))) (2 ^ 32)))), (42, .val (.int .u64 (IntKind.wrap .u64 (c3 * 2 ^ (min ((IntKind.wrap .u64 (i5))).toNat 64))))), (43, .val (.int .u64 (IntKind.wrap .u64 ((BitVec.ofInt 64 (IntKind.wrap .u64 (c3 * 2 ^ (min ((IntKind.wrap .u64 (i5))).toNat 64))) &&& BitVec.ofInt 64 4294967295).toNat)))), (44, .val (.int .u64 a1)), (45, .val (.int .u64 (IntKind.wrap .u64 (i5)))), (46, .val (.int .u64 (IntKind.wrap .u64 (a1 * 2 ^ (min ((IntKind.wrap .u64 (i5))).toNat 64))))), (47, .val (.int .u64 b2)), (48, .val (.int .u64 (IntKind.wrap .u64 (i5)))), (49, .val (.int .u64 (IntKind.wrap .u64 (64 - (IntKind.wrap .u64 (i5)))))), (50, .val (.int .u64 (Int.fdiv b2 (2 ^ (min ((IntKind.wrap .u64 (64 - (IntKind.wrap .u64 (i5))))).toNat 64))))), (51, .val (.int .u64 (IntKind.wrap .u64 ((BitVec.ofInt 64 (IntKind.wrap .u64 (a1 * 2 ^ (min ((IntKind.wrap .u64 (i5))).toNat 64))) ||| BitVec.ofInt 64 (Int.fdiv b2 (2 ^ (min ((IntKind.wrap .u64 (64 - (IntKind.wrap .u64 (i5))))).toNat 64)))).toNat)))), (52, .val (.int .u64 b2)), (53, .val (.int .u64 (IntKind.wrap .u64 (i5)))), (54, .val (.int .u64 (IntKind.wrap .u64 (b2 * 2 ^ (min ((IntKind.wrap .u64 (i5))).toNat 64))))), (55, .val (.int .u64 (IntKind.wrap .u64 (b2 * 2 ^ (min ((IntKind.wrap .u64 (i5))).toNat 64))))), (56, .val (.int .u64 (Int.fdiv (IntKind.wrap .u64 (b2 * 2 ^ (min ((IntKind.wrap .u64 (i5))).toNat 64))) (2 ^ 32)))), (57, .val (.int .u64 (IntKind.wrap .u64 (b2 * 2 ^ (min ((IntKind.wrap .u64 (i5))).toNat 64))))), (58, .val (.int .u64 (IntKind.wrap .u64 ((BitVec.ofInt 64 (IntKind.wrap .u64 (b2 * 2 ^ (min ((IntKind.wrap .u64 (i5))).toNat 64))) &&& BitVec.ofInt 64 4294967295).toNat)))), (59, .val (.int .u64 (IntKind.wrap .u64 ((BitVec.ofInt 64 (IntKind.wrap .u64 (a1 * 2 ^ (min ((IntKind.wrap .u64 (i5))).toNat 64))) ||| BitVec.ofInt 64 (Int.fdiv b2 (2 ^ (min ((IntKind.wrap .u64 (64 - (IntKind.wrap .u64 (i5))))).toNat 64)))).toNat)))), (60, .val (.int .u64 (Int.fdiv (IntKind.wrap .u64 (c3 * 2 ^ (min ((IntKind.wrap .u64 (i5))).toNat 64))) (2 ^ 32)))), (61, .val (.int .u64 (IntKind.wrap .u64 (Int.tdiv (IntKind.wrap .u64 ((BitVec.ofInt 64 (IntKind.wrap .u64 (a1 * 2 ^ (min ((IntKind.wrap .u64 (i5))).toNat 64))) ||| BitVec.ofInt 64 (Int.fdiv b2 (2 ^ (min ((IntKind.wrap .u64 (64 - (IntKind.wrap .u64 (i5))))).toNat 64)))).toNat)) (Int.fdiv (IntKind.wrap .u64 (c3 * 2 ^ (min ((IntKind.wrap .u64 (i5))).toNat 64))) (2 ^ 32)))))), (62, .val (.int .u64 (IntKind.wrap .u64 ((BitVec.ofInt 64 (IntKind.wrap .u64 (a1 * 2 ^ (min ((IntKind.wrap .u64 (i5))).toNat 64))) ||| BitVec.ofInt 64 (Int.fdiv b2 (2 ^ (min ((IntKind.wrap .u64 (64 - (IntKind.wrap .u64 (i5))))).toNat 64)))).toNat)))), (63, .val (.int .u64 (IntKind.wrap .u64 (Int.tdiv (IntKind.wrap .u64 ((BitVec.ofInt 64 (IntKind.wrap .u64 (a1 * 2 ^ (min ((IntKind.wrap .u64 (i5))).toNat 64))) ||| BitVec.ofInt 64 (Int.fdiv b2 (2 ^ (min ((IntKind.wrap .u64 (64 - (IntKind.wrap .u64 (i5))))).toNat 64)))).toNat)) (Int.fdiv (IntKind.wrap .u64 (c3 * 2 ^ (min ((IntKind.wrap .u64 (i5))).toNat 64))) (2 ^ 32)))))), (64, .val (.int .u64 (Int.fdiv (IntKind.wrap .u64 (c3 * 2 ^ (min ((IntKind.wrap .u64 (i5))).toNat 64))) (2 ^ 32)))), (65, .val (.int .u64 (IntKind.wrap .u64 ((IntKind.wrap .u64 (Int.tdiv (IntKind.wrap .u64 ((BitVec.ofInt 64 (IntKind.wrap .u64 (a1 * 2 ^ (min ((IntKind.wrap .u64 (i5))).toNat 64))) ||| BitVec.ofInt 64 (Int.fdiv b2 (2 ^ (min ((IntKind.wrap .u64 (64 - (IntKind.wrap .u64 (i5))))).toNat 64)))).toNat)) (Int.fdiv (IntKind.wrap .u64 (c3 * 2 ^ (min ((IntKind.wrap .u64 (i5))).toNat 64))) (2 ^ 32)))) * (Int.fdiv (IntKind.wrap .u64 (c3 * 2 ^ (min ((IntKind.wrap .u64 (i5))).toNat 64))) (2 ^ 32)))))), (66, .val (.int .u64 (IntKind.wrap .u64 ((IntKind.wrap .u64 ((BitVec.ofInt 64 (IntKind.wrap .u64 (a1 * 2 ^ (min ((IntKind.wrap .u64 (i5))).toNat 64))) ||| BitVec.ofInt 64 (Int.fdiv b2 (2 ^ (min ((IntKind.wrap .u64 (64 - (IntKind.wrap .u64 (i5))))).toNat 64)))).toNat)) - (IntKind.wrap .u64 ((IntKind.wrap .u64 (Int.tdiv (IntKind.wrap .u64 ((BitVec.ofInt 64 (IntKind.wrap .u64 (a1 * 2 ^ (min ((IntKind.wrap .u64 (i5))).toNat 64))) ||| BitVec.ofInt 64 (Int.fdiv b2 (2 ^ (min ((IntKind.wrap .u64 (64 - (IntKind.wrap .u64 (i5))))).toNat 64)))).toNat)) (Int.fdiv (IntKind.wrap .u64 (c3 * 2 ^ (min ((IntKind.wrap .u64 (i5))).toNat 64))) (2 ^ 32)))) * (Int.fdiv (IntKind.wrap .u64 (c3 * 2 ^ (min ((IntKind.wrap .u64 (i5))).toNat 64))) (2 ^ 32)))))))), (86, .val (.int .u64 (IntKind.wrap .u64 ((BitVec.ofInt 64 (IntKind.wrap .u64 (a1 * 2 ^ (min ((IntKind.wrap .u64 (i5))).toNat 64))) ||| BitVec.ofInt 64 (Int.fdiv b2 (2 ^ (min ((IntKind.wrap .u64 (64 - (IntKind.wrap .u64 (i5))))).toNat 64)))).toNat)))), (87, .val (.int .u64 (IntKind.wrap .u64 ((IntKind.wrap .u64 ((BitVec.ofInt 64 (IntKind.wrap .u64 (a1 * 2 ^ (min ((IntKind.wrap .u64 (i5))).toNat 64))) ||| BitVec.ofInt 64 (Int.fdiv b2 (2 ^ (min ((IntKind.wrap .u64 (64 - (IntKind.wrap .u64 (i5))))).toNat 64)))).toNat)) * 4294967296)))), (88, .val (.int .u64 (Int.fdiv (IntKind.wrap .u64 (b2 * 2 ^ (min ((IntKind.wrap .u64 (i5))).toNat 64))) (2 ^ 32)))), (89, .val (.int .u64 (IntKind.wrap .u64 ((IntKind.wrap .u64 ((IntKind.wrap .u64 ((BitVec.ofInt 64 (IntKind.wrap .u64 (a1 * 2 ^ (min ((IntKind.wrap .u64 (i5))).toNat 64))) ||| BitVec.ofInt 64 (Int.fdiv b2 (2 ^ (min ((IntKind.wrap .u64 (64 - (IntKind.wrap .u64 (i5))))).toNat 64)))).toNat)) * 4294967296)) + (Int.fdiv (IntKind.wrap .u64 (b2 * 2 ^ (min ((IntKind.wrap .u64 (i5))).toNat 64))) (2 ^ 32)))))), (90, .val (.int .u64 i12)), (91, .val (.int .u64 (IntKind.wrap .u64 (c3 * 2 ^ (min ((IntKind.wrap .u64 (i5))).toNat 64))))), (92, .val (.int .u64 (IntKind.wrap .u64 (i12 * (IntKind.wrap .u64 (c3 * 2 ^ (min ((IntKind.wrap .u64 (i5))).toNat 64))))))), (93, .val (.int .u64 (IntKind.wrap .u64 ((IntKind.wrap .u64 ((IntKind.wrap .u64 ((IntKind.wrap .u64 ((BitVec.ofInt 64 (IntKind.wrap .u64 (a1 * 2 ^ (min ((IntKind.wrap .u64 (i5))).toNat 64))) ||| BitVec.ofInt 64 (Int.fdiv b2 (2 ^ (min ((IntKind.wrap .u64 (64 - (IntKind.wrap .u64 (i5))))).toNat 64)))).toNat)) * 4294967296)) + (Int.fdiv (IntKind.wrap .u64 (b2 * 2 ^ (min ((IntKind.wrap .u64 (i5))).toNat 64))) (2 ^ 32)))) - (IntKind.wrap .u64 (i12 * (IntKind.wrap .u64 (c3 * 2 ^ (min ((IntKind.wrap .u64 (i5))).toNat 64))))))))), (94, .val (.int .u64 (IntKind.wrap .u64 ((IntKind.wrap .u64 ((IntKind.wrap .u64 ((IntKind.wrap .u64 ((BitVec.ofInt 64 (IntKind.wrap .u64 (a1 * 2 ^ (min ((IntKind.wrap .u64 (i5))).toNat 64))) ||| BitVec.ofInt 64 (Int.fdiv b2 (2 ^ (min ((IntKind.wrap .u64 (64 - (IntKind.wrap .u64 (i5))))).toNat 64)))).toNat)) * 4294967296)) + (Int.fdiv (IntKind.wrap .u64 (b2 * 2 ^ (min ((IntKind.wrap .u64 (i5))).toNat 64))) (2 ^ 32)))) - (IntKind.wrap .u64 (i12 * (IntKind.wrap .u64 (c3 * 2 ^ (min ((IntKind.wrap .u64 (i5))).toNat 64))))))))), (95, .val (.int .u64 (Int.fdiv (IntKind.wrap .u64 (c3 * 2 ^ (min ((IntKind.wrap .u64 (i5))).toNat 64))) (2 ^ 32)))), (96, .val (.int .u64 (IntKind.wrap .u64 (Int.tdiv (IntKind.wrap .u64 ((IntKind.wrap .u64 ((IntKind.wrap .u64 ((IntKind.wrap .u64 ((BitVec.ofInt 64 (IntKind.wrap .u64 (a1 * 2 ^ (min ((IntKind.wrap .u64 (i5))).toNat 64))) ||| BitVec.ofInt 64 (Int.fdiv b2 (2 ^ (min ((IntKind.wrap .u64 (64 - (IntKind.wrap .u64 (i5))))).toNat 64)))).toNat)) * 4294967296)) + (Int.fdiv (IntKind.wrap .u64 (b2 * 2 ^ (min ((IntKind.wrap .u64 (i5))).toNat 64))) (2 ^ 32)))) - (IntKind.wrap .u64 (i12 * (IntKind.wrap .u64 (c3 * 2 ^ (min ((IntKind.wrap .u64 (i5))).toNat 64))))))) (Int.fdiv (IntKind.wrap .u64 (c3 * 2 ^ (min ((IntKind.wrap .u64 (i5))).toNat 64))) (2 ^ 32)))))), (97, .val (.int .u64 (IntKind.wrap .u64 ((IntKind.wrap .u64 ((IntKind.wrap .u64 ((IntKind.wrap .u64 ((BitVec.ofInt 64 (IntKind.wrap .u64 (a1 * 2 ^ (min ((IntKind.wrap .u64 (i5))).toNat 64))) ||| BitVec.ofInt 64 (Int.fdiv b2 (2 ^ (min ((IntKind.wrap .u64 (64 - (IntKind.wrap .u64 (i5))))).toNat 64)))).toNat)) * 4294967296)) + (Int.fdiv (IntKind.wrap .u64 (b2 * 2 ^ (min ((IntKind.wrap .u64 (i5))).toNat 64))) (2 ^ 32)))) - (IntKind.wrap .u64 (i12 * (IntKind.wrap .u64 (c3 * 2 ^ (min ((IntKind.wrap .u64 (i5))).toNat 64))))))))), (98, .val (.int .u64 (IntKind.wrap .u64 (Int.tdiv (IntKind.wrap .u64 ((IntKind.wrap .u64 ((IntKind.wrap .u64 ((IntKind.wrap .u64 ((BitVec.ofInt 64 (IntKind.wrap .u64 (a1 * 2 ^ (min ((IntKind.wrap .u64 (i5))).toNat 64))) ||| BitVec.ofInt 64 (Int.fdiv b2 (2 ^ (min ((IntKind.wrap .u64 (64 - (IntKind.wrap .u64 (i5))))).toNat 64)))).toNat)) * 4294967296)) + (Int.fdiv (IntKind.wrap .u64 (b2 * 2 ^ (min ((IntKind.wrap .u64 (i5))).toNat 64))) (2 ^ 32)))) - (IntKind.wrap .u64 (i12 * (IntKind.wrap .u64 (c3 * 2 ^ (min ((IntKind.wrap .u64 (i5))).toNat 64))))))) (Int.fdiv (IntKind.wrap .u64 (c3 * 2 ^ (min ((IntKind.wrap .u64 (i5))).toNat 64))) (2 ^ 32)))))), (99, .val (.int .u64 (Int.fdiv (IntKind.wrap .u64 (c3 * 2 ^ (min ((IntKind.wrap .u64 (i5))).toNat 64))) (2 ^ 32)))), (100, .val (.int .u64 (IntKind.wrap .u64 ((IntKind.wrap .u64 (Int.tdiv (IntKind.wrap .u64 ((IntKind.wrap .u64 ((IntKind.wrap .u64 ((IntKind.wrap .u64 ((BitVec.ofInt 64 (IntKind.wrap .u64 (a1 * 2 ^ (min ((IntKind.wrap .u64 (i5))).toNat 64))) ||| BitVec.ofInt 64 (Int.fdiv b2 (2 ^ (min ((IntKind.wrap .u64 (64 - (IntKind.wrap .u64 (i5))))).toNat 64)))).toNat)) * 4294967296)) + (Int.fdiv (IntKind.wrap .u64 (b2 * 2 ^ (min ((IntKind.wrap .u64 (i5))).toNat 64))) (2 ^ 32)))) - (IntKind.wrap .u64 (i12 * (IntKind.wrap .u64 (c3 * 2 ^ (min ((IntKind.wrap .u64 (i5))).toNat 64))))))) (Int.fdiv (IntKind.wrap .u64 (c3 * 2 ^ (min ((IntKind.wrap .u64 (i5))).toNat 64))) (2 ^ 32)))) * (Int.fdiv (IntKind.wrap .u64 (c3 * 2 ^ (min ((IntKind.wrap .u64 (i5))).toNat 64))) (2 ^ 32)))))), (101, .val (.int .u64 (IntKind.wrap .u64 ((IntKind.wrap .u64 ((IntKind.wrap .u64 ((IntKind.wrap .u64 ((IntKind.wrap .u64 ((BitVec.ofInt 64 (IntKind.wrap .u64 (a1 * 2 ^ (min ((IntKind.wrap .u64 (i5))).toNat 64))) ||| BitVec.ofInt 64 (Int.fdiv b2 (2 ^ (min ((IntKind.wrap .u64 (64 - (IntKind.wrap .u64 (i5))))).toNat 64)))).toNat)) * 4294967296)) + (Int.fdiv (IntKind.wrap .u64 (b2 * 2 ^ (min ((IntKind.wrap .u64 (i5))).toNat 64))) (2 ^ 32)))) - (IntKind.wrap .u64 (i12 * (IntKind.wrap .u64 (c3 * 2 ^ (min ((IntKind.wrap .u64 (i5))).toNat 64))))))) - (IntKind.wrap .u64 ((IntKind.wrap .u64 (Int.tdiv (IntKind.wrap .u64 ((IntKind.wrap .u64 ((IntKind.wrap .u64 ((IntKind.wrap .u64 ((BitVec.ofInt 64 (IntKind.wrap .u64 (a1 * 2 ^ (min ((IntKind.wrap .u64 (i5))).toNat 64))) ||| BitVec.ofInt 64 (Int.fdiv b2 (2 ^ (min ((IntKind.wrap .u64 (64 - (IntKind.wrap .u64 (i5))))).toNat 64)))).toNat)) * 4294967296)) + (Int.fdiv (IntKind.wrap .u64 (b2 * 2 ^ (min ((IntKind.wrap .u64 (i5))).toNat 64))) (2 ^ 32)))) - (IntKind.wrap .u64 (i12 * (IntKind.wrap .u64 (c3 * 2 ^ (min ((IntKind.wrap .u64 (i5))).toNat 64))))))) (Int.fdiv (IntKind.wrap .u64 (c3 * 2 ^ (min ((IntKind.wrap .u64 (i5))).toNat 64))) (2 ^ 32)))) * (Int.fdiv (IntKind.wrap .u64 (c3 * 2 ^ (min ((IntKind.wrap .u64 (i5))).toNat 64))) (2 ^ 32))))))))], [bx 135 []], KK⟩)

noncomputable def math_bits_Div64_J6 (lb : Nat) (n : Nat) (a1 : Int) (b2 : Int) (c3 : Int) (i5 : Int) (i12 : Int) (r4 : CV) (i20 : Int) (i21 : Int) : Option CV :=
  hold (E0 lb n 0 981 (sub (B F_math_bits_Div64) [1, 1, 1, 1, 1, 1, 1, 1, 1, 1, 1, 1, 1, 1, 1, 1, 1, 1, 1]) (retK Tryz.prog (R F_math_bits_Div64) 0 (outK (tightF Tryz.prog F_math_bits_Div64))) ⟨fr 135 [(0, .val (.int .u64 a1)), (1, .val (.int .u64 b2)), (2, .val (.int .u64 (IntKind.wrap .u64 (c3 * 2 ^ (min ((IntKind.wrap .u64 (i5))).toNat 64))))), (6, .val (.int .u64 0)), (7, .val (.int .u64 0)), (8, .val (.int .u64 (IntKind.wrap .u64 (i5)))), (9, .val (.int .u64 (Int.fdiv (IntKind.wrap .u64 (c3 * 2 ^ (min ((IntKind.wrap .u64 (i5))).toNat 64))) (2 ^ 32)))), (10, .val (.int .u64 (IntKind.wrap .u64 ((BitVec.ofInt 64 (IntKind.wrap .u64 (c3 * 2 ^ (min ((IntKind.wrap .u64 (i5))).toNat 64))) &&& BitVec.ofInt 64 4294967295).toNat)))), (11, .val (.int .u64 (IntKind.wrap .u64 ((BitVec.ofInt 64 (IntKind.wrap .u64 (a1 * 2 ^ (min ((IntKind.wrap .u64 (i5))).toNat 64))) ||| BitVec.ofInt 64 (Int.fdiv b2 (2 ^ (min ((IntKind.wrap .u64 (64 - (IntKind.wrap .u64 (i5))))).toNat 64)))).toNat)))), (12, .val (.int .u64 (IntKind.wrap .u64 (b2 * 2 ^ (min ((IntKind.wrap .u64 (i5))).toNat 64))))), (13, .val (.int .u64 (Int.fdiv (IntKind.wrap .u64 (b2 * 2 ^ (min ((IntKind.wrap .u64 (i5))).toNat 64))) (2 ^ 32)))), (14, .val (.int .u64 (IntKind.wrap .u64 ((BitVec.ofInt 64 (IntKind.wrap .u64 (b2 * 2 ^ (min ((IntKind.wrap .u64 (i5))).toNat 64))) &&& BitVec.ofInt 64 4294967295).toNat)))), (15, .val (.int .u64 i12)), (16, .val (.int .u64 i20)), (17, .val (.int .u64 (IntKind.wrap .u64 ((IntKind.wrap .u64 ((IntKind.wrap .u64 ((IntKind.wrap .u64 ((BitVec.ofInt 64 (IntKind.wrap .u64 (a1 * 2 ^ (min ((IntKind.wrap .u64 (i5))).toNat 64))) ||| BitVec.ofInt 64 (Int.fdiv b2 (2 ^ (min ((IntKind.wrap .u64 (64 - (IntKind.wrap .u64 (i5))))).toNat 64)))).toNat)) * 4294967296)) + (Int.fdiv (IntKind.wrap .u64 (b2 * 2 ^ (min ((IntKind.wrap .u64 (i5))).toNat 64))) (2 ^ 32)))) - (IntKind.wrap .u64 (i12 * (IntKind.wrap .u64 (c3 * 2 ^ (min ((IntKind.wrap .u64 (i5))).toNat 64))))))))), (18, .val (.int .u64 i21)), (34, .val (.int .u64 c3)), (35, .val r4), (36, .val (.int .u64 (IntKind.wrap .u64 (i5)))), (37, .val (.int .u64 c3)), (38, .val (.int .u64 (IntKind.wrap .u64 (i5)))), (39, .val (.int .u64 (IntKind.wrap .u64 (c3 * 2 ^ (min ((IntKind.wrap .u64 (i5))).toNat 64))))), (40, .val (.int .u64 (IntKind.wrap .u64 (c3 * 2 ^ (min ((IntKind.wrap .u64 (i5))).toNat 64))))), (41, .val (.int .u64 (Int.fdiv (IntKind.wrap .u64 (c3 * 2 ^ (min ((IntKind.wrap .u64 (i5))).toNat 64))) (2 ^ 32)))), (42, .val (.int .u64 (IntKind.wrap .u64 (c3 * 2 ^ (min ((IntKind.wrap .u64 (i5))).toNat 64))))), (43, .val (.int .u64 (IntKind.wrap .u64 ((BitVec.ofInt 64 (IntKind.wrap .u64 (c3 * 2 ^ (min ((IntKind.wrap .u64 (i5))).toNat 64))) &&& BitVec.ofInt 64 4294967295).toNat)))), (44, .val (.int .u64 a1)), (45, .val (.int .u64 (IntKind.wrap .u64 (i5)))), (46, .val (.int .u64 (IntKind.wrap .u64 (a1 * 2 ^ (min ((IntKind.wrap .u64 (i5))).toNat 64))))), (47, .val (.int .u64 b2)), (48, .val (.int .u64 (IntKind.wrap .u64 (i5)))), (49, .val (.int .u64 (IntKind.wrap .u64 (64 - (IntKind.wrap .u64 (i5)))))), (50, .val (.int .u64 (Int.fdiv b2 (2 ^ (min ((IntKind.wrap .u64 (64 - (IntKind.wrap .u64 (i5))))).toNat 64))))), (51, .val (.int .u64 (IntKind.wrap .u64 ((BitVec.ofInt 64 (IntKind.wrap .u64 (a1 * 2 ^ (min ((IntKind.wrap .u64 (i5))).toNat 64))) ||| BitVec.ofInt 64 (Int.fdiv b2 (2 ^ (min ((IntKind.wrap .u64 (64 - (IntKind.wrap .u64 (i5))))).toNat 64)))).toNat)))), (52, .val (.int .u64 b2)), (53, .val (.int .u64 (IntKind.wrap .u64 (i5)))), (54, .val (.int .u64 (IntKind.wrap .u64 (b2 * 2 ^ (min ((IntKind.wrap .u64 (i5))).toNat 64))))), (55, .val (.int .u64 (IntKind.wrap .u64 (b2 * 2 ^ (min ((IntKind.wrap .u64 (i5))).toNat 64))))), (56, .val (.int .u64 (Int.fdiv (IntKind.wrap .u64 (b2 * 2 ^ (min ((IntKind.wrap .u64 (i5))).toNat 64))) (2 ^ 32)))), (57, .val (.int .u64 (IntKind.wrap .u64 (b2 * 2 ^ (min ((IntKind.wrap .u64 (i5))).toNat 64))))), (58, .val (.int .u64 (IntKind.wrap .u64 ((BitVec.ofInt 64 (IntKind.wrap .u64 (b2 * 2 ^ (min ((IntKind.wrap .u64 (i5))).toNat 64))) &&& BitVec.ofInt 64 4294967295).toNat)))), (59, .val (.int .u64 (IntKind.wrap .u64 ((BitVec.ofInt 64 (IntKind.wrap .u64 (a1 * 2 ^ (min ((IntKind.wrap .u64 (i5))).toNat 64))) ||| BitVec.ofInt 64 (Int.fdiv b2 (2 ^ (min ((IntKind.wrap .u64 (64 - (IntKind.wrap .u64 (i5))))).toNat 64)))).toNat)))), (60, .val (.int .u64 (Int.fdiv (IntKind.wrap .u64 (c3 * 2 ^ (min ((IntKind.wrap .u64 (i5))).toNat 64))) (2 ^ 32)))), (61, .val (.int .u64 (IntKind.wrap .u64 (Int.tdiv (IntKind.wrap .u64 ((BitVec.ofInt 64 (IntKind.wrap .u64 (a1 * 2 ^ (min ((IntKind.wrap .u64 (i5))).toNat 64))) ||| BitVec.ofInt 64 (Int.fdiv b2 (2 ^ (min ((IntKind.wrap .u64 (64 - (IntKind.wrap .u64 (i5))))).toNat 64)))).toNat)) (Int.fdiv (IntKind.wrap .u64 (c3 * 2 ^ (min ((IntKind.wrap .u64 (i5))).toNat 64))) (2 ^ 32)))))), (62, .val (.int .u64 (IntKind.wrap .u64 ((BitVec.ofInt 64 (IntKind.wrap .u64 (a1 * 2 ^ (min ((IntKind.wrap .u64 (i5))).toNat 64))) ||| BitVec.ofInt 64 (Int.fdiv b2 (2 ^ (min ((IntKind.wrap .u64 (64 - (IntKind.wrap .u64 (i5))))).toNat 64)))).toNat)))), (63, .val (.int .u64 (IntKind.wrap .u64 (Int.tdiv (IntKind.wrap .u64 ((BitVec.ofInt 64 (IntKind.wrap .u64 (a1 * 2 ^ (min ((IntKind.wrap .u64 (i5))).toNat 64))) ||| BitVec.ofInt 64 (Int.fdiv b2 (2 ^ (min ((IntKind.wrap .u64 (64 - (IntKind.wrap .u64 (i5))))).toNat 64)))).toNat)) (Int.fdiv (IntKind.wrap .u64 (c3 * 2 ^ (min ((IntKind.wrap .u64 (i5))).toNat 64))) (2 ^ 32)))))), (64, .val (.int .u64 (Int.fdiv (IntKind.wrap .u64 (c3 * 2 ^ (min ((IntKind.wrap .u64 (i5))).toNat 64))) (2 ^ 32)))), (65, .val (.int .u64 (IntKind.wrap .u64 ((IntKind.wrap .u64 (Int.tdiv (IntKind.wrap .u64 ((BitVec.ofInt 64 (IntKind.wrap .u64 (a1 * 2 ^ (min ((IntKind.wrap .u64 (i5))).toNat 64))) ||| BitVec.ofInt 64 (Int.fdiv b2 (2 ^ (min ((IntKind.wrap .u64 (64 - (IntKind.wrap .u64 (i5))))).toNat 64)))).toNat)) (Int.fdiv (IntKind.wrap .u64 (c3 * 2 ^ (min ((IntKind.wrap .u64 (i5))).toNat 64))) (2 ^ 32)))) * (Int.fdiv (IntKind.wrap .u64 (c3 * 2 ^ (min ((IntKind.wrap .u64 (i5))).toNat 64))) (2 ^ 32)))))), (66, .val (.int .u64 (IntKind.wrap .u64 ((IntKind.wrap .u64 ((BitVec.ofInt 64 (IntKind.wrap .u64 (a1 * 2 ^ (min ((IntKind.wrap .u64 (i5))).toNat 64))) ||| BitVec.ofInt 64 (Int.fdiv b2 (2 ^ (min ((IntKind.wrap .u64 (64 - (IntKind.wrap .u64 (i5))))).toNat 64)))).toNat)) - (IntKind.wrap .u64 ((IntKind.wrap .u64 (Int.tdiv (IntKind.wrap .u64 ((BitVec.ofInt 64 (IntKind.wrap .u64 (a1 * 2 ^ (min ((IntKind.wrap .u64 (i5))).toNat 64))) ||| BitVec.ofInt 64 (Int.fdiv b2 (2 ^ (min ((IntKind.wrap .u64 (64 - (IntKind.wrap .u64 (i5))))).toNat 64)))).toNat)) (Int.fdiv (IntKind.wrap .u64 (c3 * 2 ^ (min ((IntKind.wrap .u64 (i5))).toNat 64))) (2 ^ 32)))) * (Int.fdiv (IntKind.wrap .u64 (c3 * 2 ^ (min ((IntKind.wrap .u64 (i5))).toNat 64))) (2 ^ 32)))))))), (86, .val (.int .u64 (IntKind.wrap .u64 ((BitVec.ofInt 64 (IntKind.wrap .u64 (a1 * 2 ^ (min ((IntKind.wrap .u64 (i5))).toNat 64))) ||| BitVec.ofInt 64 (Int.fdiv b2 (2 ^ (min ((IntKind.wrap .u64 (64 - (IntKind.wrap .u64 (i5))))).toNat 64)))).toNat)))), (87, .val (.int .u64 (IntKind.wrap .u64 ((IntKind.wrap .u64 ((BitVec.ofInt 64 (IntKind.wrap .u64 (a1 * 2 ^ (min ((IntKind.wrap .u64 (i5))).toNat 64))) ||| BitVec.ofInt 64 (Int.fdiv b2 (2 ^ (min ((IntKind.wrap .u64 (64 - (IntKind.wrap .u64 (i5))))).toNat 64)))).toNat)) * 4294967296)))), (88, .val (.int .u64 (Int.fdiv (IntKind.wrap .u64 (b2 * 2 ^ (min ((IntKind.wrap .u64 (i5))).toNat 64))) (2 ^ 32)))), (89, .val (.int .u64 (IntKind.wrap .u64 ((IntKind.wrap .u64 ((IntKind.wrap .u64 ((BitVec.ofInt 64 (IntKind.wrap .u64 (a1 * 2 ^ (min ((IntKind.wrap .u64 (i5))).toNat 64))) ||| BitVec.ofInt 64 (Int.fdiv b2 (2 ^ (min ((IntKind.wrap .u64 (64 - (IntKind.wrap .u64 (i5))))).toNat 64)))).toNat)) * 4294967296)) + (Int.fdiv (IntKind.wrap .u64 (b2 * 2 ^ (min ((IntKind.wrap .u64 (i5))).toNat 64))) (2 ^ 32)))))), (90, .val (.int .u64 i12)), (91, .val (.int .u64 (IntKind.wrap .u64 (c3 * 2 ^ (min ((IntKind.wrap .u64 (i5))).toNat 64))))), (92, .val (.int .u64 (IntKind.wrap .u64 (i12 * (IntKind.wrap .u64 (c3 * 2 ^ (min ((IntKind.wrap .u64 (i5))).toNat 64))))))), (93, .val (.int .u64 (IntKind.wrap .u64 ((IntKind.wrap .u64 ((IntKind.wrap .u64 ((IntKind.wrap .u64 ((BitVec.ofInt 64 (IntKind.wrap .u64 (a1 * 2 ^ (min ((IntKind.wrap .u64 (i5))).toNat 64))) ||| BitVec.ofInt 64 (Int.fdiv b2 (2 ^ (min ((IntKind.wrap .u64 (64 - (IntKind.wrap .u64 (i5))))).toNat 64)))).toNat)) * 4294967296)) + (Int.fdiv (IntKind.wrap .u64 (b2 * 2 ^ (min ((IntKind.wrap .u64 (i5))).toNat 64))) (2 ^ 32)))) - (IntKind.wrap .u64 (i12 * (IntKind.wrap .u64 (c3 * 2 ^ (min ((IntKind.wrap .u64 (i5))).toNat 64))))))))), (94, .val (.int .u64 (IntKind.wrap .u64 ((IntKind.wrap .u64 ((IntKind.wrap .u64 ((IntKind.wrap .u64 ((BitVec.ofInt 64 (IntKind.wrap .u64 (a1 * 2 ^ (min ((IntKind.wrap .u64 (i5))).toNat 64))) ||| BitVec.ofInt 64 (Int.fdiv b2 (2 ^ (min ((IntKind.wrap .u64 (64 - (IntKind.wrap .u64 (i5))))).toNat 64)))).toNat)) * 4294967296)) + (Int.fdiv (IntKind.wrap .u64 (b2 * 2 ^ (min ((IntKind.wrap .u64 (i5))).toNat 64))) (2 ^ 32)))) - (IntKind.wrap .u64 (i12 * (IntKind.wrap .u64 (c3 * 2 ^ (min ((IntKind.wrap .u64 (i5))).toNat 64))))))))), (95, .val (.int .u64 (Int.fdiv (IntKind.wrap .u64 (c3 * 2 ^ (min ((IntKind.wrap .u64 (i5))).toNat 64))) (2 ^ 32)))), (96, .val (.int .u64 (IntKind.wrap .u64 (Int.tdiv (IntKind.wrap .u64 ((IntKind.wrap .u64 ((IntKind.wrap .u64 ((IntKind.wrap .u64 ((BitVec.ofInt 64 (IntKind.wrap .u64 (a1 * 2 ^ (min ((IntKind.wrap .u64 (i5))).toNat 64))) ||| BitVec.ofInt 64 (Int.fdiv b2 (2 ^ (min ((IntKind.wrap .u64 (64 - (IntKind.wrap .u64 (i5))))).toNat 64)))).toNat)) * 4294967296)) + (Int.fdiv (IntKind.wrap .u64 (b2 * 2 ^ (min ((IntKind.wrap .u64 (i5))).toNat 64))) (2 ^ 32)))) - (IntKind.wrap .u64 (i12 * (IntKind.wrap .u64 (c3 * 2 ^ (min ((IntKind.wrap .u64 (i5))).toNat 64))))))) (Int.fdiv (IntKind.wrap .u64 (c3 * 2 ^ (min ((IntKind.wrap .u64 (i5))).toNat 64))) (2 ^ 32)))))), (97, .val (.int .u64 (IntKind.wrap .u64 ((IntKind.wrap .u64 ((IntKind.wrap .u64 ((IntKind.wrap .u64 ((BitVec.ofInt 64 (IntKind.wrap .u64 (a1 * 2 ^ (min ((IntKind.wrap .u64 (i5))).toNat 64))) ||| BitVec.ofInt 64 (Int.fdiv b2 (2 ^ (min ((IntKind.wrap .u64 (64 - (IntKind.wrap .u64 (i5))))).toNat 64)))).toNat)) * 4294967296)) + (Int.fdiv (IntKind.wrap .u64 (b2 * 2 ^ (min ((IntKind.wrap .u64 (i5))).toNat 64))) (2 ^ 32)))) - (IntKind.wrap .u64 (i12 * (IntKind.wrap .u64 (c3 * 2 ^ (min ((IntKind.wrap .u64 (i5))).toNat 64))))))))), (98, .val (.int .u64 (IntKind.wrap .u64 (Int.tdiv (IntKind.wrap .u64 ((IntKind.wrap .u64 ((IntKind.wrap .u64 ((IntKind.wrap .u64 ((BitVec.ofInt 64 (IntKind.wrap .u64 (a1 * 2 ^ (min ((IntKind.wrap .u64 (i5))).toNat 64))) ||| BitVec.ofInt 64 (Int.fdiv b2 (2 ^ (min ((IntKind.wrap .u64 (64 - (IntKind.wrap .u64 (i5))))).toNat 64)))).toNat)) * 4294967296)) + (Int.fdiv (IntKind.wrap .u64 (b2 * 2 ^ (min ((IntKind.wrap .u64 (i5))).toNat 64))) (2 ^ 32)))) - (IntKind.wrap .u64 (i12 * (IntKind.wrap .u64 (c3 * 2 ^ (min ((IntKind.wrap .u64 (i5))).toNat 64))))))) (Int.fdiv (IntKind.wrap .u64 (c3 * 2 ^ (min ((IntKind.wrap .u64 (i5))).toNat 64))) (2 ^ 32)))))), (99, .val (.int .u64 (Int.fdiv (IntKind.wrap .u64 (c3 * 2 ^ (min ((IntKind.wrap .u64 (i5))).toNat 64))) (2 ^ 32)))), (100, .val (.int .u64 (IntKind.wrap .u64 ((IntKind.wrap .u64 (Int.tdiv (IntKind.wrap .u64 ((IntKind.wrap .u64 ((IntKind.wrap .u64 ((IntKind.wrap .u64 ((BitVec.ofInt 64 (IntKind.wrap .u64 (a1 * 2 ^ (min ((IntKind.wrap .u64 (i5))).toNat 64))) ||| BitVec.ofInt 64 (Int.fdiv b2 (2 ^ (min ((IntKind.wrap .u64 (64 - (IntKind.wrap .u64 (i5))))).toNat 64)))).toNat)) * 4294967296)) + (Int.fdiv (IntKind.wrap .u64 (b2 * 2 ^ (min ((IntKind.wrap .u64 (i5))).toNat 64))) (2 ^ 32)))) - (IntKind.wrap .u64 (i12 * (IntKind.wrap .u64 (c3 * 2 ^ (min ((IntKind.wrap .u64 (i5))).toNat 64))))))) (Int.fdiv (IntKind.wrap .u64 (c3 * 2 ^ (min ((IntKind.wrap .u64 (i5))).toNat 64))) (2 ^ 32)))) * (Int.fdiv (IntKind.wrap .u64 (c3 * 2 ^ (min ((IntKind.wrap .u64 (i5))).toNat 64))) (2 ^ 32)))))), (101, .val (.int .u64 (IntKind.wrap .u64 ((IntKind.wrap .u64 ((IntKind.wrap .u64 ((IntKind.wrap .u64 ((IntKind.wrap .u64 ((BitVec.ofInt 64 (IntKind.wrap .u64 (a1 * 2 ^ (min ((IntKind.wrap .u64 (i5))).toNat 64))) ||| BitVec.ofInt 64 (Int.fdiv b2 (2 ^ (min ((IntKind.wrap .u64 (64 - (IntKind.wrap .u64 (i5))))).toNat 64)))).toNat)) * 4294967296)) + (Int.fdiv (IntKind.wrap .u64 (b2 * 2 ^ (min ((IntKind.wrap .u64 (i5))).toNat 64))) (2 ^ 32)))) - (IntKind.wrap .u64 (i12 * (IntKind.wrap .u64 (c3 * 2 ^ (min ((IntKind.wrap .u64 (i5))).toNat 64))))))) - (IntKind.wrap .u64 ((IntKind.wrap .u64 (Int.tdiv (IntKind.wrap .u64 ((IntKind.wrap .u64 ((IntKind.wrap .u64 ((IntKind.wrap .u64 ((BitVec.ofInt 64 (IntKind.wrap .u64 (a1 * 2 ^ (min ((IntKind.wrap .u64 (i5))).toNat 64))) ||| BitVec.ofInt 64 (Int.fdiv b2 (2 ^ (min ((IntKind.wrap .u64 (64 - (IntKind.wrap .u64 (i5))))).toNat 64)))).toNat)) * 4294967296)) + (Int.fdiv (IntKind.wrap .u64 (b2 * 2 ^ (min ((IntKind.wrap .u64 (i5))).toNat 64))) (2 ^ 32)))) - (IntKind.wrap .u64 (i12 * (IntKind.wrap .u64 (c3 * 2 ^ (min ((IntKind.wrap .u64 (i5))).toNat 64))))))) (Int.fdiv (IntKind.wrap .u64 (c3 * 2 ^ (min ((IntKind.wrap .u64 (i5))).toNat 64))) (2 ^ 32)))) * (Int.fdiv (IntKind.wrap .u64 (c3 * 2 ^ (min ((IntKind.wrap .u64 (i5))).toNat 64))) (2 ^ 32))))))))], [bx 135 []], KK⟩)

theorem math_bits_Div64_J6_eq (lb : Nat) (n : Nat) (a1 : Int) (b2 : Int) (c3 : Int) (i5 : Int) (i12 : Int) (r4 : CV) (i20 : Int) (i21 : Int) :
  math_bits_Div64_J6 lb n a1 b2 c3 i5 i12 r4 i20 i21 =
 chkO (decide (0 ≤ (IntKind.wrap .u64 (i5)))) (
 some (.tup [.int .u64 (IntKind.wrap .u64 ((IntKind.wrap .u64 (i12 * 4294967296)) + i21)), .int .u64 (Int.fdiv (IntKind.wrap .u64 ((IntKind.wrap .u64 ((IntKind.wrap .u64 ((IntKind.wrap .u64 ((IntKind.wrap .u64 ((IntKind.wrap .u64 ((IntKind.wrap .u64 ((BitVec.ofInt 64 (IntKind.wrap .u64 (a1 * 2 ^ (min ((IntKind.wrap .u64 (i5))).toNat 64))) ||| BitVec.ofInt 64 (Int.fdiv b2 (2 ^ (min ((IntKind.wrap .u64 (64 - (IntKind.wrap .u64 (i5))))).toNat 64)))).toNat)) * 4294967296)) + (Int.fdiv (IntKind.wrap .u64 (b2 * 2 ^ (min ((IntKind.wrap .u64 (i5))).toNat 64))) (2 ^ 32)))) - (IntKind.wrap .u64 (i12 * (IntKind.wrap .u64 (c3 * 2 ^ (min ((IntKind.wrap .u64 (i5))).toNat 64))))))) * 4294967296)) + (IntKind.wrap .u64 ((BitVec.ofInt 64 (IntKind.wrap .u64 (b2 * 2 ^ (min ((IntKind.wrap .u64 (i5))).toNat 64))) &&& BitVec.ofInt 64 4294967295).toNat)))) - (IntKind.wrap .u64 (i21 * (IntKind.wrap .u64 (c3 * 2 ^ (min ((IntKind.wrap .u64 (i5))).toNat 64))))))) (2 ^ (min ((IntKind.wrap .u64 (i5))).toNat 64)))])) := (hold_eq _).trans (by kernel_rfl)

theorem math_bits_Div64_L5_succ (lb : Nat) (n k19 : Nat) (a1 : Int) (b2 : Int) (c3 : Int) (i5 : Int) (i12 : Int) (r4 : CV) (i17 : Int) (i18 : Int) :
  math_bits_Div64_L5 lb n (k19 + 1) a1 b2 c3 i5 i12 r4 i17 i18 =
 bif (decide (i18 ≥ 4294967296)) then
 (bif (decide ((IntKind.wrap .u64 (i17 + (Int.fdiv (IntKind.wrap .u64 (c3 * 2 ^ (min ((IntKind.wrap .u64 (i5))).toNat 64))) (2 ^ 32)))) ≥ 4294967296)) then
 (math_bits_Div64_J6 lb n a1 b2 c3 i5 i12 r4 (IntKind.wrap .u64 (i17 + (Int.fdiv (IntKind.wrap .u64 (c3 * 2 ^ (min ((IntKind.wrap .u64 (i5))).toNat 64))) (2 ^ 32)))) (IntKind.wrap .u64 (i18 - 1)))
 else
 (math_bits_Div64_L5 lb n k19 a1 b2 c3 i5 i12 r4 (IntKind.wrap .u64 (i17 + (Int.fdiv (IntKind.wrap .u64 (c3 * 2 ^ (min ((IntKind.wrap .u64 (i5))).toNat 64))) (2 ^ 32)))) (IntKind.wrap .u64 (i18 - 1))))
 else
 (bif (decide ((IntKind.wrap .u64 (i18 * (IntKind.wrap .u64 ((BitVec.ofInt 64 (IntKind.wrap .u64 (c3 * 2 ^ (min ((IntKind.wrap .u64 (i5))).toNat 64))) &&& BitVec.ofInt 64 4294967295).toNat)))) > (IntKind.wrap .u64 ((IntKind.wrap .u64 (4294967296 * i17)) + (IntKind.wrap .u64 ((BitVec.ofInt 64 (IntKind.wrap .u64 (b2 * 2 ^ (min ((IntKind.wrap .u64 (i5))).toNat 64))) &&& BitVec.ofInt 64 4294967295).toNat)))))) then
 (bif (decide ((IntKind.wrap .u64 (i17 + (Int.fdiv (IntKind.wrap .u64 (c3 * 2 ^ (min ((IntKind.wrap .u64 (i5))).toNat 64))) (2 ^ 32)))) ≥ 4294967296)) then
 (math_bits_Div64_J6 lb n a1 b2 c3 i5 i12 r4 (IntKind.wrap .u64 (i17 + (Int.fdiv (IntKind.wrap .u64 (c3 * 2 ^ (min ((IntKind.wrap .u64 (i5))).toNat 64))) (2 ^ 32)))) (IntKind.wrap .u64 (i18 - 1)))
 else
 (math_bits_Div64_L5 lb n k19 a1 b2 c3 i5 i12 r4 (IntKind.wrap .u64 (i17 + (Int.fdiv (IntKind.wrap .u64 (c3 * 2 ^ (min ((IntKind.wrap .u64 (i5))).toNat 64))) (2 ^ 32)))) (IntKind.wrap .u64 (i18 - 1))))
 else
 (math_bits_Div64_J6 lb n a1 b2 c3 i5 i12 r4 i17 i18)) := (hold_eq _).trans (by kernel_rfl)

theorem math_bits_Div64_L5_zero (lb : Nat) (n : Nat) (a1 : Int) (b2 : Int) (c3 : Int) (i5 : Int) (i12 : Int) (r4 : CV) (i17 : Int) (i18 : Int) :
  math_bits_Div64_L5 lb n 0 a1 b2 c3 i5 i12 r4 i17 i18 =
 none := (hold_eq _).trans (by kernel_rfl)

theorem math_bits_Div64_J4_eq (lb : Nat) (n : Nat) (a1 : Int) (b2 : Int) (c3 : Int) (i5 : Int) (r4 : CV) (i12 : Int) (i13 : Int) :
  math_bits_Div64_J4 lb n a1 b2 c3 i5 r4 i12 i13 =
 chkO ((Int.fdiv (IntKind.wrap .u64 (c3 * 2 ^ (min ((IntKind.wrap .u64 (i5))).toNat 64))) (2 ^ 32)) != 0) (
 math_bits_Div64_L5 lb n n a1 b2 c3 i5 i12 r4 (IntKind.wrap .u64 ((IntKind.wrap .u64 ((IntKind.wrap .u64 ((IntKind.wrap .u64 ((IntKind.wrap .u64 ((BitVec.ofInt 64 (IntKind.wrap .u64 (a1 * 2 ^ (min ((IntKind.wrap .u64 (i5))).toNat 64))) ||| BitVec.ofInt 64 (Int.fdiv b2 (2 ^ (min ((IntKind.wrap .u64 (64 - (IntKind.wrap .u64 (i5))))).toNat 64)))).toNat)) * 4294967296)) + (Int.fdiv (IntKind.wrap .u64 (b2 * 2 ^ (min ((IntKind.wrap .u64 (i5))).toNat 64))) (2 ^ 32)))) - (IntKind.wrap .u64 (i12 * (IntKind.wrap .u64 (c3 * 2 ^ (min ((IntKind.wrap .u64 (i5))).toNat 64))))))) - (IntKind.wrap .u64 ((IntKind.wrap .u64 (Int.tdiv (IntKind.wrap .u64 ((IntKind.wrap .u64 ((IntKind.wrap .u64 ((IntKind.wrap .u64 ((BitVec.ofInt 64 (IntKind.wrap .u64 (a1 * 2 ^ (min ((IntKind.wrap .u64 (i5))).toNat 64))) ||| BitVec.ofInt 64 (Int.fdiv b2 (2 ^ (min ((IntKind.wrap .u64 (64 - (IntKind.wrap .u64 (i5))))).toNat 64)))).toNat)) * 4294967296)) + (Int.fdiv (IntKind.wrap .u64 (b2 * 2 ^ (min ((IntKind.wrap .u64 (i5))).toNat 64))) (2 ^ 32)))) - (IntKind.wrap .u64 (i12 * (IntKind.wrap .u64 (c3 * 2 ^ (min ((IntKind.wrap .u64 (i5))).toNat 64))))))) (Int.fdiv (IntKind.wrap .u64 (c3 * 2 ^ (min ((IntKind.wrap .u64 (i5))).toNat 64))) (2 ^ 32)))) * (Int.fdiv (IntKind.wrap .u64 (c3 * 2 ^ (min ((IntKind.wrap .u64 (i5))).toNat 64))) (2 ^ 32)))))) (IntKind.wrap .u64 (Int.tdiv (IntKind.wrap .u64 ((IntKind.wrap .u64 ((IntKind.wrap .u64 ((IntKind.wrap .u64 ((BitVec.ofInt 64 (IntKind.wrap .u64 (a1 * 2 ^ (min ((IntKind.wrap .u64 (i5))).toNat 64))) ||| BitVec.ofInt 64 (Int.fdiv b2 (2 ^ (min ((IntKind.wrap .u64 (64 - (IntKind.wrap .u64 (i5))))).toNat 64)))).toNat)) * 4294967296)) + (Int.fdiv (IntKind.wrap .u64 (b2 * 2 ^ (min ((IntKind.wrap .u64 (i5))).toNat 64))) (2 ^ 32)))) - (IntKind.wrap .u64 (i12 * (IntKind.wrap .u64 (c3 * 2 ^ (min ((IntKind.wrap .u64 (i5))).toNat 64))))))) (Int.fdiv (IntKind.wrap .u64 (c3 * 2 ^ (min ((IntKind.wrap .u64 (i5))).toNat 64))) (2 ^ 32))))) := (hold_eq _).trans (by kernel_rfl)

theorem math_bits_Div64_L3_succ (lb : Nat) (n k11 : Nat) (a1 : Int) (b2 : Int) (c3 : Int) (i5 : Int) (r4 : CV) (i9 : Int) (i10 : Int) :
  math_bits_Div64_L3 lb n (k11 + 1) a1 b2 c3 i5 r4 i9 i10 =
 bif (decide (i9 ≥ 4294967296)) then
 (bif (decide ((IntKind.wrap .u64 (i10 + (Int.fdiv (IntKind.wrap .u64 (c3 * 2 ^ (min ((IntKind.wrap .u64 (i5))).toNat 64))) (2 ^ 32)))) ≥ 4294967296)) then
 (math_bits_Div64_J4 lb n a1 b2 c3 i5 r4 (IntKind.wrap .u64 (i9 - 1)) (IntKind.wrap .u64 (i10 + (Int.fdiv (IntKind.wrap .u64 (c3 * 2 ^ (min ((IntKind.wrap .u64 (i5))).toNat 64))) (2 ^ 32)))))
 else
 (math_bits_Div64_L3 lb n k11 a1 b2 c3 i5 r4 (IntKind.wrap .u64 (i9 - 1)) (IntKind.wrap .u64 (i10 + (Int.fdiv (IntKind.wrap .u64 (c3 * 2 ^ (min ((IntKind.wrap .u64 (i5))).toNat 64))) (2 ^ 32))))))
 else
 (bif (decide ((IntKind.wrap .u64 (i9 * (IntKind.wrap .u64 ((BitVec.ofInt 64 (IntKind.wrap .u64 (c3 * 2 ^ (min ((IntKind.wrap .u64 (i5))).toNat 64))) &&& BitVec.ofInt 64 4294967295).toNat)))) > (IntKind.wrap .u64 ((IntKind.wrap .u64 (4294967296 * i10)) + (Int.fdiv (IntKind.wrap .u64 (b2 * 2 ^ (min ((IntKind.wrap .u64 (i5))).toNat 64))) (2 ^ 32)))))) then
 (bif (decide ((IntKind.wrap .u64 (i10 + (Int.fdiv (IntKind.wrap .u64 (c3 * 2 ^ (min ((IntKind.wrap .u64 (i5))).toNat 64))) (2 ^ 32)))) ≥ 4294967296)) then
 (math_bits_Div64_J4 lb n a1 b2 c3 i5 r4 (IntKind.wrap .u64 (i9 - 1)) (IntKind.wrap .u64 (i10 + (Int.fdiv (IntKind.wrap .u64 (c3 * 2 ^ (min ((IntKind.wrap .u64 (i5))).toNat 64))) (2 ^ 32)))))
 else
 (math_bits_Div64_L3 lb n k11 a1 b2 c3 i5 r4 (IntKind.wrap .u64 (i9 - 1)) (IntKind.wrap .u64 (i10 + (Int.fdiv (IntKind.wrap .u64 (c3 * 2 ^ (min ((IntKind.wrap .u64 (i5))).toNat 64))) (2 ^ 32))))))
 else
 (math_bits_Div64_J4 lb n a1 b2 c3 i5 r4 i9 i10)) := (hold_eq _).trans (by kernel_rfl)

theorem math_bits_Div64_L3_zero (lb : Nat) (n : Nat) (a1 : Int) (b2 : Int) (c3 : Int) (i5 : Int) (r4 : CV) (i9 : Int) (i10 : Int) :
  math_bits_Div64_L3 lb n 0 a1 b2 c3 i5 r4 i9 i10 =
 none := (hold_eq _).trans (by kernel_rfl)

theorem math_bits_Div64_J2_eq (lb : Nat) (n : Nat) (a1 : Int) (b2 : Int) (c3 : Int) :
  math_bits_Div64_J2 lb n a1 b2 c3 =
 bif (a1 == 0) then
 (chkO (c3 != 0) (
 chkO (c3 != 0) (
 some (.tup [.int .u64 (IntKind.wrap .u64 (Int.tdiv b2 c3)), .int .u64 (Int.tmod b2 c3)]))))
 else
 (optO (C lb n F_math_bits_LeadingZeros64 [.int .u64 c3]) fun r4 =>
 optO (CV.asI .i64 r4) fun i5 =>
 chkO (decide (0 ≤ (IntKind.wrap .u64 (i5)))) (
 chkO (decide (0 ≤ (IntKind.wrap .u64 (i5)))) (
 chkO (decide (0 ≤ (IntKind.wrap .u64 (64 - (IntKind.wrap .u64 (i5)))))) (
 chkO (decide (0 ≤ (IntKind.wrap .u64 (i5)))) (
 chkO ((Int.fdiv (IntKind.wrap .u64 (c3 * 2 ^ (min ((IntKind.wrap .u64 (i5))).toNat 64))) (2 ^ 32)) != 0) (
 math_bits_Div64_L3 lb n n a1 b2 c3 i5 r4 (IntKind.wrap .u64 (Int.tdiv (IntKind.wrap .u64 ((BitVec.ofInt 64 (IntKind.wrap .u64 (a1 * 2 ^ (min ((IntKind.wrap .u64 (i5))).toNat 64))) ||| BitVec.ofInt 64 (Int.fdiv b2 (2 ^ (min ((IntKind.wrap .u64 (64 - (IntKind.wrap .u64 (i5))))).toNat 64)))).toNat)) (Int.fdiv (IntKind.wrap .u64 (c3 * 2 ^ (min ((IntKind.wrap .u64 (i5))).toNat 64))) (2 ^ 32)))) (IntKind.wrap .u64 ((IntKind.wrap .u64 ((BitVec.ofInt 64 (IntKind.wrap .u64 (a1 * 2 ^ (min ((IntKind.wrap .u64 (i5))).toNat 64))) ||| BitVec.ofInt 64 (Int.fdiv b2 (2 ^ (min ((IntKind.wrap .u64 (64 - (IntKind.wrap .u64 (i5))))).toNat 64)))).toNat)) - (IntKind.wrap .u64 ((IntKind.wrap .u64 (Int.tdiv (IntKind.wrap .u64 ((BitVec.ofInt 64 (IntKind.wrap .u64 (a1 * 2 ^ (min ((IntKind.wrap .u64 (i5))).toNat 64))) ||| BitVec.ofInt 64 (Int.fdiv b2 (2 ^ (min ((IntKind.wrap .u64 (64 - (IntKind.wrap .u64 (i5))))).toNat 64)))).toNat)) (Int.fdiv (IntKind.wrap .u64 (c3 * 2 ^ (min ((IntKind.wrap .u64 (i5))).toNat 64))) (2 ^ 32)))) * (Int.fdiv (IntKind.wrap .u64 (c3 * 2 ^ (min ((IntKind.wrap .u64 (i5))).toNat 64))) (2 ^ 32)))))))))))) := (hold_eq _).trans (by kernel_rfl)

theorem math_bits_Div64_J1_eq (lb : Nat) (n : Nat) (a1 : Int) (b2 : Int) (c3 : Int) :
  math_bits_Div64_J1 lb n a1 b2 c3 =
 bif (decide (c3 ≤ a1)) then
 (none)
 else
 (math_bits_Div64_J2 lb n a1 b2 c3 ) := (hold_eq _).trans (by kernel_rfl)

theorem math_bits_Div64_eq (lb : Nat) (n : Nat) (a1 : Int) (b2 : Int) (c3 : Int) :
  top lb n F_math_bits_Div64 [.int .u64 a1, .int .u64 b2, .int .u64 c3] =
 bif (c3 == 0) then
 (none)
 else
 (math_bits_Div64_J1 lb n a1 b2 c3 ) := by kernel_rfl

/-! airline/airlineref02.Percent -/
theorem r02_Percent_eq (lb : Nat) (n : Nat) (a1 : Int) (b2 : Int) :
  top lb n F_r02_Percent [.int .i64 a1, .int .i64 b2] =
 optO (C lb n F_r02_Amount [.int .i64 a1]) fun r3 =>
 optO (CV.asB r3) fun b4 =>
 bif (!b4) then
 (some (.tup [.int .i64 0, .int .i64 11]))
 else
 (optO (C lb n F_r02_Amount [.int .i64 b2]) fun r5 =>
 optO (CV.asB r5) fun b6 =>
 bif (!b6) then
 (some (.tup [.int .i64 0, .int .i64 11]))
 else
 (optO (C lb n F_r02_floor [.int .i64 b2, .int .i64 10000]) fun r7 =>
 optO (CV.asT r7) fun t9 =>
 optO (t9[0]?) fun x10 =>
 optO (CV.asT r7) fun t11 =>
 optO (t11[1]?) fun x12 =>
 bif (a1 != 0) then
 (optO (C lb n F_r02_size [x10]) fun r13 =>
 optO (C lb n F_r02_size [.int .i64 a1]) fun r14 =>
 optO (CV.asI .i64 r14) fun i15 =>
 chkO (i15 != 0) (
 optO (CV.asI .i64 r13) fun i17 =>
 bif (decide (i17 > (IntKind.wrap .i64 (Int.tdiv 2199023255552 i15)))) then
 (some (.tup [.int .i64 0, .int .i64 11]))
 else
 (optO (CV.asI .i64 x12) fun i18 =>
 optO (C lb n F_r02_floor [.int .i64 (IntKind.wrap .i64 ((IntKind.wrap .i64 ((IntKind.wrap .i64 (2 * a1)) * i18)) + 10000)), .int .i64 20000]) fun r19 =>
 optO (CV.asT r19) fun t20 =>
 optO (t20[0]?) fun x21 =>
 optO (CV.asT r19) fun t22 =>
 optO (t22[1]?) fun x23 =>
 optO (CV.asI .i64 x10) fun i24 =>
 optO (CV.asI .i64 x21) fun i25 =>
 optO (C lb n F_r02_Amount [.int .i64 (IntKind.wrap .i64 ((IntKind.wrap .i64 (a1 * i24)) + i25))]) fun r26 =>
 optO (CV.asB r26) fun b27 =>
 bif (!b27) then
 (some (.tup [.int .i64 0, .int .i64 11]))
 else
 (optO (CV.asI .i64 x10) fun i28 =>
 optO (CV.asI .i64 x21) fun i29 =>
 some (.tup [.int .i64 (IntKind.wrap .i64 ((IntKind.wrap .i64 (a1 * i28)) + i29)), .int .i64 0])))))
 else
 (optO (CV.asI .i64 x12) fun i30 =>
 optO (C lb n F_r02_floor [.int .i64 (IntKind.wrap .i64 ((IntKind.wrap .i64 ((IntKind.wrap .i64 (2 * a1)) * i30)) + 10000)), .int .i64 20000]) fun r31 =>
 optO (CV.asT r31) fun t33 =>
 optO (t33[0]?) fun x34 =>
 optO (CV.asT r31) fun t35 =>
 optO (t35[1]?) fun x36 =>
 optO (CV.asI .i64 x10) fun i37 =>
 optO (CV.asI .i64 x34) fun i38 =>
 optO (C lb n F_r02_Amount [.int .i64 (IntKind.wrap .i64 ((IntKind.wrap .i64 (a1 * i37)) + i38))]) fun r39 =>
 optO (CV.asB r39) fun b40 =>
 bif (!b40) then
 (some (.tup [.int .i64 0, .int .i64 11]))
 else
 (optO (CV.asI .i64 x10) fun i41 =>
 optO (CV.asI .i64 x34) fun i42 =>
 some (.tup [.int .i64 (IntKind.wrap .i64 ((IntKind.wrap .i64 (a1 * i41)) + i42)), .int .i64 0]))))) := by kernel_rfl

/-! airline/airlineref02.Amount -/
theorem r02_Amount_eq (lb : Nat) (n : Nat) (a1 : Int) :
  top lb n F_r02_Amount [.int .i64 a1] =
 bif (decide (a1 ≥ (-1099511627776))) then
 (some (.bool (decide (a1 ≤ 1099511627776))))
 else
 (some (.bool false)) := by kernel_rfl

/-! airline/airlineref02.floor -/
theorem r02_floor_eq (lb : Nat) (n : Nat) (a1 : Int) (b2 : Int) :
  top lb n F_r02_floor [.int .i64 a1, .int .i64 b2] =
 chkO (b2 != 0) (
 chkO (b2 != 0) (
 bif (decide ((Int.tmod a1 b2) < 0)) then
 (some (.tup [.int .i64 (IntKind.wrap .i64 ((IntKind.wrap .i64 (Int.tdiv a1 b2)) - 1)), .int .i64 (IntKind.wrap .i64 ((Int.tmod a1 b2) + b2))]))
 else
 (some (.tup [.int .i64 (IntKind.wrap .i64 (Int.tdiv a1 b2)), .int .i64 (Int.tmod a1 b2)])))) := by kernel_rfl

/-! airline/airlineref02.size -/
theorem r02_size_eq (lb : Nat) (n : Nat) (a1 : Int) :
  top lb n F_r02_size [.int .i64 a1] =
 bif (decide (a1 < 0)) then
 (some (.int .i64 (IntKind.wrap .i64 (0 - a1))))
 else
 (some (.int .i64 a1)) := by kernel_rfl

/-! airline/airlinelaw21.RulePays -/
theorem l21_RulePays_eq (lb : Nat) (n : Nat) (anum1 : Int) (awhekin2 : Int) (awheln3 : Bool) (awhel4 : List (List CV)) (awhea5 : Int) (awheb6 : Int) (awheperfro7 : Int) (awheperto9 : Int) (awheperday10 : Int) (awhetexn11 : Bool) (awhetex12 : List (List CV)) (acomn13 : Bool) (acom14 : List (List CV)) (amin15 : Int) (amax17 : Int) (acha18 : Int) (aref19 : Int) (apern20 : Bool) (aper21 : List (List CV)) (b22 : List UInt8) (c23 : Int) :
  top lb n F_l21_RulePays [.agg [.int .i64 anum1, .int .i64 awhekin2, .list awheln3 awhel4, .int .i64 awhea5, .int .i64 awheb6, .int .i64 awheperfro7, .int .i64 awheperto9, .int .i64 awheperday10, .list awhetexn11 awhetex12, .list acomn13 acom14, .int .i64 amin15, .int .i64 amax17, .int .i64 acha18, .int .i64 aref19, .list apern20 aper21], .str b22, .int .i64 c23] =
 optO (C lb n F_l21_Small [.agg [.int .i64 anum1, .int .i64 awhekin2, .list awheln3 awhel4, .int .i64 awhea5, .int .i64 awheb6, .int .i64 awheperfro7, .int .i64 awheperto9, .int .i64 awheperday10, .list awhetexn11 awhetex12, .list acomn13 acom14, .int .i64 amin15, .int .i64 amax17, .int .i64 acha18, .int .i64 aref19, .list apern20 aper21]]) fun r24 =>
 optO (CV.asB r24) fun b25 =>
 bif (!b25) then
 (optO (C lb n F_l21_awake []) fun r26 =>
 some (r26))
 else
 (optO (C lb n F_r21_Check [.agg [.int .i64 anum1, .int .i64 awhekin2, .list awheln3 awhel4, .int .i64 awhea5, .int .i64 awheb6, .int .i64 awheperfro7, .int .i64 awheperto9, .int .i64 awheperday10, .list awhetexn11 awhetex12, .list acomn13 acom14, .int .i64 amin15, .int .i64 amax17, .int .i64 acha18, .int .i64 aref19, .list apern20 aper21]]) fun r27 =>
 optO (CV.asL r27) fun p28 =>
 bif (decide ((p28.2.length : Int) > 0)) then
 (optO (C lb n F_l21_awake []) fun r29 =>
 some (r29))
 else
 (optO (C lb n F_rule_Pay [.agg [.int .i64 anum1, .int .i64 awhekin2, .list awheln3 awhel4, .int .i64 awhea5, .int .i64 awheb6, .int .i64 awheperfro7, .int .i64 awheperto9, .int .i64 awheperday10, .list awhetexn11 awhetex12, .list acomn13 acom14, .int .i64 amin15, .int .i64 amax17, .int .i64 acha18, .int .i64 aref19, .list apern20 aper21], .str b22, .int .i64 c23]) fun r30 =>
 optO (CV.asT r30) fun t31 =>
 optO (t31[0]?) fun x33 =>
 optO (CV.asT r30) fun t34 =>
 optO (t34[1]?) fun x35 =>
 optO (C lb n F_r21_Pay [.agg [.int .i64 anum1, .int .i64 awhekin2, .list awheln3 awhel4, .int .i64 awhea5, .int .i64 awheb6, .int .i64 awheperfro7, .int .i64 awheperto9, .int .i64 awheperday10, .list awhetexn11 awhetex12, .list acomn13 acom14, .int .i64 amin15, .int .i64 amax17, .int .i64 acha18, .int .i64 aref19, .list apern20 aper21], .str b22, .int .i64 c23]) fun r36 =>
 optO (CV.asT r36) fun t37 =>
 optO (t37[0]?) fun x38 =>
 optO (CV.asT r36) fun t39 =>
 optO (t39[1]?) fun x40 =>
 optO (CV.asI .i64 x33) fun i41 =>
 optO (CV.asI .i64 x38) fun i42 =>
 bif (i41 == i42) then
 (optO (CV.asI .i64 x35) fun i43 =>
 optO (CV.asI .i64 x40) fun i44 =>
 bif (i43 == i44) then
 (optO (C lb n F_l21_awake []) fun r45 =>
 some (r45))
 else
 (some (.bool false)))
 else
 (some (.bool false)))) := by kernel_rfl

end Go.Proofs
