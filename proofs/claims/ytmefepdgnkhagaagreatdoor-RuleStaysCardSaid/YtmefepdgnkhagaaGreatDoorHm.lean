/- Equations of functions, printed by program. Conditions: none. -/
import Derived.Test.YtmefepdgnkhagaaGreatDoorEv
namespace Go.Proofs
open Go.Am
set_option maxRecDepth 100000
set_option linter.unusedVariables false
/-! airline/rule.Mix -/
theorem rule_Mix_eq (lb : Nat) (n : Nat) (anum1 : Int) (awhekin2 : Int) (awheln3 : Bool) (awhel4 : List (List CV)) (awhea5 : Int) (awheb6 : Int) (awheperfro7 : Int) (awheperto9 : Int) (awheperday10 : Int) (awhetexn11 : Bool) (awhetex12 : List (List CV)) (acomn13 : Bool) (acom14 : List (List CV)) (amin15 : Int) (amax17 : Int) (acha18 : Int) (aref19 : Int) (apern20 : Bool) (aper21 : List (List CV)) (bnum22 : Int) (bwhekin23 : Int) (bwheln24 : Bool) (bwhel25 : List (List CV)) (bwhea26 : Int) (bwheb27 : Int) (bwheperfro28 : Int) (bwheperto29 : Int) (bwheperday30 : Int) (bwhetexn31 : Bool) (bwhetex33 : List (List CV)) (bcomn34 : Bool) (bcom35 : List (List CV)) (bmin36 : Int) (bmax37 : Int) (bcha38 : Int) (bref39 : Int) (bpern40 : Bool) (bper41 : List (List CV)) :
  top lb n F_rule_Mix [.agg [.int .i64 anum1, .int .i64 awhekin2, .list awheln3 awhel4, .int .i64 awhea5, .int .i64 awheb6, .int .i64 awheperfro7, .int .i64 awheperto9, .int .i64 awheperday10, .list awhetexn11 awhetex12, .list acomn13 acom14, .int .i64 amin15, .int .i64 amax17, .int .i64 acha18, .int .i64 aref19, .list apern20 aper21], .agg [.int .i64 bnum22, .int .i64 bwhekin23, .list bwheln24 bwhel25, .int .i64 bwhea26, .int .i64 bwheb27, .int .i64 bwheperfro28, .int .i64 bwheperto29, .int .i64 bwheperday30, .list bwhetexn31 bwhetex33, .list bcomn34 bcom35, .int .i64 bmin36, .int .i64 bmax37, .int .i64 bcha38, .int .i64 bref39, .list bpern40 bper41]] =
 optO (C lb n F_rule_Mix_1 [.agg [.int .i64 anum1, .int .i64 awhekin2, .list awheln3 awhel4, .int .i64 awhea5, .int .i64 awheb6, .int .i64 awheperfro7, .int .i64 awheperto9, .int .i64 awheperday10, .list awhetexn11 awhetex12, .list acomn13 acom14, .int .i64 amin15, .int .i64 amax17, .int .i64 acha18, .int .i64 aref19, .list apern20 aper21], .agg [.int .i64 bnum22, .int .i64 bwhekin23, .list bwheln24 bwhel25, .int .i64 bwhea26, .int .i64 bwheb27, .int .i64 bwheperfro28, .int .i64 bwheperto29, .int .i64 bwheperday30, .list bwhetexn31 bwhetex33, .list bcomn34 bcom35, .int .i64 bmin36, .int .i64 bmax37, .int .i64 bcha38, .int .i64 bref39, .list bpern40 bper41]]) fun r42 =>
 optO (CV.asB r42) fun b43 =>
 bif b43 then
 (optO (C lb n F_rule_Mix_1 [.agg [.int .i64 bnum22, .int .i64 bwhekin23, .list bwheln24 bwhel25, .int .i64 bwhea26, .int .i64 bwheb27, .int .i64 bwheperfro28, .int .i64 bwheperto29, .int .i64 bwheperday30, .list bwhetexn31 bwhetex33, .list bcomn34 bcom35, .int .i64 bmin36, .int .i64 bmax37, .int .i64 bcha38, .int .i64 bref39, .list bpern40 bper41], .agg [.int .i64 anum1, .int .i64 awhekin2, .list awheln3 awhel4, .int .i64 awhea5, .int .i64 awheb6, .int .i64 awheperfro7, .int .i64 awheperto9, .int .i64 awheperday10, .list awhetexn11 awhetex12, .list acomn13 acom14, .int .i64 amin15, .int .i64 amax17, .int .i64 acha18, .int .i64 aref19, .list apern20 aper21]]) fun r44 =>
 some (r44))
 else
 (some (.bool false)) := by kernel_rfl

/-! airline/rule.Mix$1 -/
theorem rule_Mix_1_eq (lb : Nat) (n : Nat) (anum1 : Int) (awhekin2 : Int) (awheln3 : Bool) (awhel4 : List (List CV)) (awhea5 : Int) (awheb6 : Int) (awheperfro7 : Int) (awheperto9 : Int) (awheperday10 : Int) (awhetexn11 : Bool) (awhetex12 : List (List CV)) (acomn13 : Bool) (acom14 : List (List CV)) (amin15 : Int) (amax17 : Int) (acha18 : Int) (aref19 : Int) (apern20 : Bool) (aper21 : List (List CV)) (bnum22 : Int) (bwhekin23 : Int) (bwheln24 : Bool) (bwhel25 : List (List CV)) (bwhea26 : Int) (bwheb27 : Int) (bwheperfro28 : Int) (bwheperto29 : Int) (bwheperday30 : Int) (bwhetexn31 : Bool) (bwhetex33 : List (List CV)) (bcomn34 : Bool) (bcom35 : List (List CV)) (bmin36 : Int) (bmax37 : Int) (bcha38 : Int) (bref39 : Int) (bpern40 : Bool) (bper41 : List (List CV)) :
  top lb n F_rule_Mix_1 [.agg [.int .i64 anum1, .int .i64 awhekin2, .list awheln3 awhel4, .int .i64 awhea5, .int .i64 awheb6, .int .i64 awheperfro7, .int .i64 awheperto9, .int .i64 awheperday10, .list awhetexn11 awhetex12, .list acomn13 acom14, .int .i64 amin15, .int .i64 amax17, .int .i64 acha18, .int .i64 aref19, .list apern20 aper21], .agg [.int .i64 bnum22, .int .i64 bwhekin23, .list bwheln24 bwhel25, .int .i64 bwhea26, .int .i64 bwheb27, .int .i64 bwheperfro28, .int .i64 bwheperto29, .int .i64 bwheperday30, .list bwhetexn31 bwhetex33, .list bcomn34 bcom35, .int .i64 bmin36, .int .i64 bmax37, .int .i64 bcha38, .int .i64 bref39, .list bpern40 bper41]] =
 bif ((acom14.length : Int) == 0) then
 (some (.bool true))
 else
 (optO (C lb n F_slices_Contains_int [.list acomn13 acom14, .int .i64 bnum22]) fun r42 =>
 some (r42)) := by kernel_rfl

/-! airline/airlineref21.Mix -/
theorem r21_Mix_eq (lb : Nat) (n : Nat) (anum1 : Int) (awhekin2 : Int) (awheln3 : Bool) (awhel4 : List (List CV)) (awhea5 : Int) (awheb6 : Int) (awheperfro7 : Int) (awheperto9 : Int) (awheperday10 : Int) (awhetexn11 : Bool) (awhetex12 : List (List CV)) (acomn13 : Bool) (acom14 : List (List CV)) (amin15 : Int) (amax17 : Int) (acha18 : Int) (aref19 : Int) (apern20 : Bool) (aper21 : List (List CV)) (bnum22 : Int) (bwhekin23 : Int) (bwheln24 : Bool) (bwhel25 : List (List CV)) (bwhea26 : Int) (bwheb27 : Int) (bwheperfro28 : Int) (bwheperto29 : Int) (bwheperday30 : Int) (bwhetexn31 : Bool) (bwhetex33 : List (List CV)) (bcomn34 : Bool) (bcom35 : List (List CV)) (bmin36 : Int) (bmax37 : Int) (bcha38 : Int) (bref39 : Int) (bpern40 : Bool) (bper41 : List (List CV)) :
  top lb n F_r21_Mix [.agg [.int .i64 anum1, .int .i64 awhekin2, .list awheln3 awhel4, .int .i64 awhea5, .int .i64 awheb6, .int .i64 awheperfro7, .int .i64 awheperto9, .int .i64 awheperday10, .list awhetexn11 awhetex12, .list acomn13 acom14, .int .i64 amin15, .int .i64 amax17, .int .i64 acha18, .int .i64 aref19, .list apern20 aper21], .agg [.int .i64 bnum22, .int .i64 bwhekin23, .list bwheln24 bwhel25, .int .i64 bwhea26, .int .i64 bwheb27, .int .i64 bwheperfro28, .int .i64 bwheperto29, .int .i64 bwheperday30, .list bwhetexn31 bwhetex33, .list bcomn34 bcom35, .int .i64 bmin36, .int .i64 bmax37, .int .i64 bcha38, .int .i64 bref39, .list bpern40 bper41]] =
 optO (C lb n F_r21_mixes [.agg [.int .i64 anum1, .int .i64 awhekin2, .list awheln3 awhel4, .int .i64 awhea5, .int .i64 awheb6, .int .i64 awheperfro7, .int .i64 awheperto9, .int .i64 awheperday10, .list awhetexn11 awhetex12, .list acomn13 acom14, .int .i64 amin15, .int .i64 amax17, .int .i64 acha18, .int .i64 aref19, .list apern20 aper21], .int .i64 bnum22]) fun r42 =>
 optO (CV.asB r42) fun b43 =>
 bif b43 then
 (optO (C lb n F_r21_mixes [.agg [.int .i64 bnum22, .int .i64 bwhekin23, .list bwheln24 bwhel25, .int .i64 bwhea26, .int .i64 bwheb27, .int .i64 bwheperfro28, .int .i64 bwheperto29, .int .i64 bwheperday30, .list bwhetexn31 bwhetex33, .list bcomn34 bcom35, .int .i64 bmin36, .int .i64 bmax37, .int .i64 bcha38, .int .i64 bref39, .list bpern40 bper41], .int .i64 anum1]) fun r44 =>
 some (r44))
 else
 (some (.bool false)) := by kernel_rfl

/-! airline/airlineref21.mixes -/
noncomputable def r21_mixes_L1 (lb : Nat) (n : Nat) (k30 : Nat) (anum1 : Int) (awhekin2 : Int) (awheln3 : Bool) (awhel4 : List (List CV)) (awhea5 : Int) (awheb6 : Int) (awheperfro7 : Int) (awheperto9 : Int) (awheperday10 : Int) (awhetexn11 : Bool) (awhetex12 : List (List CV)) (acomn13 : Bool) (acom14 : List (List CV)) (amin15 : Int) (amax17 : Int) (acha18 : Int) (aref19 : Int) (apern20 : Bool) (aper21 : List (List CV)) (b22 : Int) (i26 : Int) : Option CV :=
  hold (loopC (E0 lb n 0 995) 0 (loopTemps (sub (B F_r21_mixes) [1, 0, 1, 0, 0]) ++ []) [] (sub (B F_r21_mixes) [1, 0, 1, 0, 0]) (blockK 0 (seqK (E0 lb n 0 998) (sub (B F_r21_mixes) [1, 0]) (sub (B F_r21_mixes) [1, 1]) (retK Tryz.prog (R F_r21_mixes) 0 (outK (tightF Tryz.prog F_r21_mixes))))) k30 ⟨fr 24 [(0, .val (.agg [.int .i64 anum1, .int .i64 awhekin2, .list awheln3 awhel4, .int .i64 awhea5, .int .i64 awheb6, .int .i64 awheperfro7, .int .i64 awheperto9, .int .i64 awheperday10, .list awhetexn11 awhetex12, .list acomn13 acom14, .int .i64 amin15, .int .i64 amax17, .int .i64 acha18, .int .i64 aref19, .list apern20 aper21])), (1, .val (.int .i64 b22)), (2, .ptr 0 2 0), (4, .val (.bool false)), (5, .val (.int .i64 i26))], [bx 24 [(2, some [.val (.int .i64 anum1), .val (.int .i64 awhekin2), .val (.list awheln3 awhel4), .val (.int .i64 awhea5), .val (.int .i64 awheb6), .val (.int .i64 awheperfro7), .val (.int .i64 awheperto9), .val (.int .i64 awheperday10), .val (.list awhetexn11 awhetex12), .val (.list acomn13 acom14), .val (.int .i64 amin15), .val (.int .i64 amax17), .val (.int .i64 acha18), .val (.int .i64 aref19), .val (.list apern20 aper21)])]], KK⟩)

noncomputable def r21_mixes_J2 (lb : Nat) (n : Nat) (anum1 : Int) (awhekin2 : Int) (awheln3 : Bool) (awhel4 : List (List CV)) (awhea5 : Int) (awheb6 : Int) (awheperfro7 : Int) (awheperto9 : Int) (awheperday10 : Int) (awhetexn11 : Bool) (awhetex12 : List (List CV)) (acomn13 : Bool) (acom14 : List (List CV)) (amin15 : Int) (amax17 : Int) (acha18 : Int) (aref19 : Int) (apern20 : Bool) (aper21 : List (List CV)) (b22 : Int) (i35 : Int) : Option CV :=
  hold (E0 lb n 0 998 (sub (B F_r21_mixes) [1, 1]) (retK Tryz.prog (R F_r21_mixes) 0 (outK (tightF Tryz.prog F_r21_mixes))) ⟨fr 24 [(0, .val (.agg [.int .i64 anum1, .int .i64 awhekin2, .list awheln3 awhel4, .int .i64 awhea5, .int .i64 awheb6, .int .i64 awheperfro7, .int .i64 awheperto9, .int .i64 awheperday10, .list awhetexn11 awhetex12, .list acomn13 acom14, .int .i64 amin15, .int .i64 amax17, .int .i64 acha18, .int .i64 aref19, .list apern20 aper21])), (1, .val (.int .i64 b22)), (2, .ptr 0 2 0), (4, .val (.bool false)), (5, .val (.int .i64 i35))], [bx 24 [(2, some [.val (.int .i64 anum1), .val (.int .i64 awhekin2), .val (.list awheln3 awhel4), .val (.int .i64 awhea5), .val (.int .i64 awheb6), .val (.int .i64 awheperfro7), .val (.int .i64 awheperto9), .val (.int .i64 awheperday10), .val (.list awhetexn11 awhetex12), .val (.list acomn13 acom14), .val (.int .i64 amin15), .val (.int .i64 amax17), .val (.int .i64 acha18), .val (.int .i64 aref19), .val (.list apern20 aper21)])]], KK⟩)

theorem r21_mixes_J2_eq (lb : Nat) (n : Nat) (anum1 : Int) (awhekin2 : Int) (awheln3 : Bool) (awhel4 : List (List CV)) (awhea5 : Int) (awheb6 : Int) (awheperfro7 : Int) (awheperto9 : Int) (awheperday10 : Int) (awhetexn11 : Bool) (awhetex12 : List (List CV)) (acomn13 : Bool) (acom14 : List (List CV)) (amin15 : Int) (amax17 : Int) (acha18 : Int) (aref19 : Int) (apern20 : Bool) (aper21 : List (List CV)) (b22 : Int) (i35 : Int) :
  r21_mixes_J2 lb n anum1 awhekin2 awheln3 awhel4 awhea5 awheb6 awheperfro7 awheperto9 awheperday10 awhetexn11 awhetex12 acomn13 acom14 amin15 amax17 acha18 aref19 apern20 aper21 b22 i35 =
 some (.bool ((acom14.length : Int) == 0)) := (hold_eq _).trans (by kernel_rfl)

theorem r21_mixes_L1_succ (lb : Nat) (n k30 : Nat) (anum1 : Int) (awhekin2 : Int) (awheln3 : Bool) (awhel4 : List (List CV)) (awhea5 : Int) (awheb6 : Int) (awheperfro7 : Int) (awheperto9 : Int) (awheperday10 : Int) (awhetexn11 : Bool) (awhetex12 : List (List CV)) (acomn13 : Bool) (acom14 : List (List CV)) (amin15 : Int) (amax17 : Int) (acha18 : Int) (aref19 : Int) (apern20 : Bool) (aper21 : List (List CV)) (b22 : Int) (i26 : Int) :
  r21_mixes_L1 lb n (k30 + 1) anum1 awhekin2 awheln3 awhel4 awhea5 awheb6 awheperfro7 awheperto9 awheperday10 awhetexn11 awhetex12 acomn13 acom14 amin15 amax17 acha18 aref19 apern20 aper21 b22 i26 =
 bif (decide (i26 < (acom14.length : Int))) then
 (optO (atL acom14 i26) fun c31 =>
 chkO (c31.length == 1) (
 optO (c31[0]?) fun x33 =>
 optO (CV.asI .i64 x33) fun i34 =>
 bif (i34 == b22) then
 (some (.bool true))
 else
 (r21_mixes_L1 lb n k30 anum1 awhekin2 awheln3 awhel4 awhea5 awheb6 awheperfro7 awheperto9 awheperday10 awhetexn11 awhetex12 acomn13 acom14 amin15 amax17 acha18 aref19 apern20 aper21 b22 (IntKind.wrap .i64 (i26 + 1)))))
 else
 (r21_mixes_J2 lb n anum1 awhekin2 awheln3 awhel4 awhea5 awheb6 awheperfro7 awheperto9 awheperday10 awhetexn11 awhetex12 acomn13 acom14 amin15 amax17 acha18 aref19 apern20 aper21 b22 i26) := (hold_eq _).trans (by kernel_rfl)

theorem r21_mixes_L1_zero (lb : Nat) (n : Nat) (anum1 : Int) (awhekin2 : Int) (awheln3 : Bool) (awhel4 : List (List CV)) (awhea5 : Int) (awheb6 : Int) (awheperfro7 : Int) (awheperto9 : Int) (awheperday10 : Int) (awhetexn11 : Bool) (awhetex12 : List (List CV)) (acomn13 : Bool) (acom14 : List (List CV)) (amin15 : Int) (amax17 : Int) (acha18 : Int) (aref19 : Int) (apern20 : Bool) (aper21 : List (List CV)) (b22 : Int) (i26 : Int) :
  r21_mixes_L1 lb n 0 anum1 awhekin2 awheln3 awhel4 awhea5 awheb6 awheperfro7 awheperto9 awheperday10 awhetexn11 awhetex12 acomn13 acom14 amin15 amax17 acha18 aref19 apern20 aper21 b22 i26 =
 none := (hold_eq _).trans (by kernel_rfl)

theorem r21_mixes_eq (lb : Nat) (n : Nat) (anum1 : Int) (awhekin2 : Int) (awheln3 : Bool) (awhel4 : List (List CV)) (awhea5 : Int) (awheb6 : Int) (awheperfro7 : Int) (awheperto9 : Int) (awheperday10 : Int) (awhetexn11 : Bool) (awhetex12 : List (List CV)) (acomn13 : Bool) (acom14 : List (List CV)) (amin15 : Int) (amax17 : Int) (acha18 : Int) (aref19 : Int) (apern20 : Bool) (aper21 : List (List CV)) (b22 : Int) :
  top lb n F_r21_mixes [.agg [.int .i64 anum1, .int .i64 awhekin2, .list awheln3 awhel4, .int .i64 awhea5, .int .i64 awheb6, .int .i64 awheperfro7, .int .i64 awheperto9, .int .i64 awheperday10, .list awhetexn11 awhetex12, .list acomn13 acom14, .int .i64 amin15, .int .i64 amax17, .int .i64 acha18, .int .i64 aref19, .list apern20 aper21], .int .i64 b22] =
 r21_mixes_L1 lb n n anum1 awhekin2 awheln3 awhel4 awhea5 awheb6 awheperfro7 awheperto9 awheperday10 awhetexn11 awhetex12 acomn13 acom14 amin15 amax17 acha18 aref19 apern20 aper21 b22 0 := by kernel_rfl

/-! slices.Contains[[]int,int] -/
theorem slices_Contains_int_eq (lb : Nat) (n : Nat) (an1 : Bool) (a2 : List (List CV)) (b3 : Int) :
  top lb n F_slices_Contains_int [.list an1 a2, .int .i64 b3] =
 optO (C lb n F_slices_Index_int [.list an1 a2, .int .i64 b3]) fun r4 =>
 optO (CV.asI .i64 r4) fun i5 =>
 some (.bool (decide (i5 ≥ 0))) := by kernel_rfl

/-! slices.Index[[]int,int] -/
noncomputable def slices_Index_int_L1 (lb : Nat) (n : Nat) (k12 : Nat) (an1 : Bool) (a2 : List (List CV)) (b3 : Int) (i7 : Int) : Option CV :=
  hold (loopC (E0 lb n 0 995) 0 (loopTemps (sub (B F_slices_Index_int) [1, 0, 1, 0, 0]) ++ [5]) [] (sub (B F_slices_Index_int) [1, 0, 1, 0, 0]) (blockK 0 (seqK (E0 lb n 0 998) (sub (B F_slices_Index_int) [1, 0]) (sub (B F_slices_Index_int) [1, 1]) (retK Tryz.prog (R F_slices_Index_int) 0 (outK (tightF Tryz.prog F_slices_Index_int))))) k12 ⟨fr 19 [(0, .val (.list an1 a2)), (1, .val (.int .i64 b3)), (4, .val (.int .i64 0)), (6, .val (.list an1 a2)), (7, .val (.int .i64 (a2.length : Int))), (8, .val (.int .i64 i7))], [bx 19 []], KK⟩)

noncomputable def slices_Index_int_J2 (lb : Nat) (n : Nat) (an1 : Bool) (a2 : List (List CV)) (b3 : Int) : Option CV :=
  hold (E0 lb n 0 998 (sub (B F_slices_Index_int) [1, 1]) (retK Tryz.prog (R F_slices_Index_int) 0 (outK (tightF Tryz.prog F_slices_Index_int))) ⟨fr 19 [(0, .val (.list an1 a2)), (1, .val (.int .i64 b3)), (4, .val (.int .i64 0))], [bx 19 []], KK⟩)

theorem slices_Index_int_J2_eq (lb : Nat) (n : Nat) (an1 : Bool) (a2 : List (List CV)) (b3 : Int) :
  slices_Index_int_J2 lb n an1 a2 b3 =
 some (.int .i64 (-1)) := (hold_eq _).trans (by kernel_rfl)

theorem slices_Index_int_L1_succ (lb : Nat) (n k12 : Nat) (an1 : Bool) (a2 : List (List CV)) (b3 : Int) (i7 : Int) :
  slices_Index_int_L1 lb n (k12 + 1) an1 a2 b3 i7 =
 bif (decide (i7 < (a2.length : Int))) then
 (optO (atL a2 i7) fun c13 =>
 chkO (c13.length == 1) (
 optO (c13[0]?) fun x14 =>
 optO (CV.asI .i64 x14) fun i15 =>
 bif (b3 == i15) then
 (some (.int .i64 i7))
 else
 (slices_Index_int_L1 lb n k12 an1 a2 b3 (IntKind.wrap .i64 (i7 + 1)))))
 else
 (slices_Index_int_J2 lb n an1 a2 b3 ) := (hold_eq _).trans (by kernel_rfl)

theorem slices_Index_int_L1_zero (lb : Nat) (n : Nat) (an1 : Bool) (a2 : List (List CV)) (b3 : Int) (i7 : Int) :
  slices_Index_int_L1 lb n 0 an1 a2 b3 i7 =
 none := (hold_eq _).trans (by kernel_rfl)

theorem slices_Index_int_eq (lb : Nat) (n : Nat) (an1 : Bool) (a2 : List (List CV)) (b3 : Int) :
  top lb n F_slices_Index_int [.list an1 a2, .int .i64 b3] =
 slices_Index_int_L1 lb n n an1 a2 b3 0 := by kernel_rfl

/-! airline/airlinelaw21.RuleMixes -/
theorem l21_RuleMixes_eq (lb : Nat) (n : Nat) (anum1 : Int) (awhekin2 : Int) (awheln3 : Bool) (awhel4 : List (List CV)) (awhea5 : Int) (awheb6 : Int) (awheperfro7 : Int) (awheperto9 : Int) (awheperday10 : Int) (awhetexn11 : Bool) (awhetex12 : List (List CV)) (acomn13 : Bool) (acom14 : List (List CV)) (amin15 : Int) (amax17 : Int) (acha18 : Int) (aref19 : Int) (apern20 : Bool) (aper21 : List (List CV)) (bnum22 : Int) (bwhekin23 : Int) (bwheln24 : Bool) (bwhel25 : List (List CV)) (bwhea26 : Int) (bwheb27 : Int) (bwheperfro28 : Int) (bwheperto29 : Int) (bwheperday30 : Int) (bwhetexn31 : Bool) (bwhetex33 : List (List CV)) (bcomn34 : Bool) (bcom35 : List (List CV)) (bmin36 : Int) (bmax37 : Int) (bcha38 : Int) (bref39 : Int) (bpern40 : Bool) (bper41 : List (List CV)) :
  top lb n F_l21_RuleMixes [.agg [.int .i64 anum1, .int .i64 awhekin2, .list awheln3 awhel4, .int .i64 awhea5, .int .i64 awheb6, .int .i64 awheperfro7, .int .i64 awheperto9, .int .i64 awheperday10, .list awhetexn11 awhetex12, .list acomn13 acom14, .int .i64 amin15, .int .i64 amax17, .int .i64 acha18, .int .i64 aref19, .list apern20 aper21], .agg [.int .i64 bnum22, .int .i64 bwhekin23, .list bwheln24 bwhel25, .int .i64 bwhea26, .int .i64 bwheb27, .int .i64 bwheperfro28, .int .i64 bwheperto29, .int .i64 bwheperday30, .list bwhetexn31 bwhetex33, .list bcomn34 bcom35, .int .i64 bmin36, .int .i64 bmax37, .int .i64 bcha38, .int .i64 bref39, .list bpern40 bper41]] =
 bif (decide ((acom14.length : Int) > 100)) then
 (optO (C lb n F_l21_awake []) fun r42 =>
 some (r42))
 else
 (bif (decide ((bcom35.length : Int) > 100)) then
 (optO (C lb n F_l21_awake []) fun r43 =>
 some (r43))
 else
 (optO (C lb n F_rule_Mix [.agg [.int .i64 anum1, .int .i64 awhekin2, .list awheln3 awhel4, .int .i64 awhea5, .int .i64 awheb6, .int .i64 awheperfro7, .int .i64 awheperto9, .int .i64 awheperday10, .list awhetexn11 awhetex12, .list acomn13 acom14, .int .i64 amin15, .int .i64 amax17, .int .i64 acha18, .int .i64 aref19, .list apern20 aper21], .agg [.int .i64 bnum22, .int .i64 bwhekin23, .list bwheln24 bwhel25, .int .i64 bwhea26, .int .i64 bwheb27, .int .i64 bwheperfro28, .int .i64 bwheperto29, .int .i64 bwheperday30, .list bwhetexn31 bwhetex33, .list bcomn34 bcom35, .int .i64 bmin36, .int .i64 bmax37, .int .i64 bcha38, .int .i64 bref39, .list bpern40 bper41]]) fun r44 =>
 optO (C lb n F_r21_Mix [.agg [.int .i64 anum1, .int .i64 awhekin2, .list awheln3 awhel4, .int .i64 awhea5, .int .i64 awheb6, .int .i64 awheperfro7, .int .i64 awheperto9, .int .i64 awheperday10, .list awhetexn11 awhetex12, .list acomn13 acom14, .int .i64 amin15, .int .i64 amax17, .int .i64 acha18, .int .i64 aref19, .list apern20 aper21], .agg [.int .i64 bnum22, .int .i64 bwhekin23, .list bwheln24 bwhel25, .int .i64 bwhea26, .int .i64 bwheb27, .int .i64 bwheperfro28, .int .i64 bwheperto29, .int .i64 bwheperday30, .list bwhetexn31 bwhetex33, .list bcomn34 bcom35, .int .i64 bmin36, .int .i64 bmax37, .int .i64 bcha38, .int .i64 bref39, .list bpern40 bper41]]) fun r45 =>
 optO (CV.asB r44) fun b46 =>
 optO (CV.asB r45) fun b47 =>
 bif (b46 == b47) then
 (optO (C lb n F_rule_Mix [.agg [.int .i64 bnum22, .int .i64 bwhekin23, .list bwheln24 bwhel25, .int .i64 bwhea26, .int .i64 bwheb27, .int .i64 bwheperfro28, .int .i64 bwheperto29, .int .i64 bwheperday30, .list bwhetexn31 bwhetex33, .list bcomn34 bcom35, .int .i64 bmin36, .int .i64 bmax37, .int .i64 bcha38, .int .i64 bref39, .list bpern40 bper41], .agg [.int .i64 anum1, .int .i64 awhekin2, .list awheln3 awhel4, .int .i64 awhea5, .int .i64 awheb6, .int .i64 awheperfro7, .int .i64 awheperto9, .int .i64 awheperday10, .list awhetexn11 awhetex12, .list acomn13 acom14, .int .i64 amin15, .int .i64 amax17, .int .i64 acha18, .int .i64 aref19, .list apern20 aper21]]) fun r48 =>
 optO (C lb n F_rule_Mix [.agg [.int .i64 anum1, .int .i64 awhekin2, .list awheln3 awhel4, .int .i64 awhea5, .int .i64 awheb6, .int .i64 awheperfro7, .int .i64 awheperto9, .int .i64 awheperday10, .list awhetexn11 awhetex12, .list acomn13 acom14, .int .i64 amin15, .int .i64 amax17, .int .i64 acha18, .int .i64 aref19, .list apern20 aper21], .agg [.int .i64 bnum22, .int .i64 bwhekin23, .list bwheln24 bwhel25, .int .i64 bwhea26, .int .i64 bwheb27, .int .i64 bwheperfro28, .int .i64 bwheperto29, .int .i64 bwheperday30, .list bwhetexn31 bwhetex33, .list bcomn34 bcom35, .int .i64 bmin36, .int .i64 bmax37, .int .i64 bcha38, .int .i64 bref39, .list bpern40 bper41]]) fun r49 =>
 optO (CV.asB r48) fun b50 =>
 optO (CV.asB r49) fun b51 =>
 bif (b50 == b51) then
 (optO (C lb n F_l21_awake []) fun r52 =>
 some (r52))
 else
 (some (.bool false)))
 else
 (some (.bool false)))) := by kernel_rfl

end Go.Proofs
