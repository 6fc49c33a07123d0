/- Equations of functions, printed by program. Conditions: none. -/
import Derived.Test.YtdcpdknginpohaaGreatDoorEv
namespace Go.Proofs
open Go.Am
set_option maxRecDepth 100000
set_option linter.unusedVariables false
/-! airline/airlineref01.Decimal -/
theorem r01_Decimal_eq (lb : Nat) (n : Nat) (a1 : Int) :
  top lb n F_r01_Decimal [.int .i64 a1] =
 bif (decide (a1 < 0)) then
 (optO (C lb n F_r01_digits [.int .u64 (IntKind.wrap .u64 ((IntKind.wrap .u64 (IntKind.wrap .i64 (0 - (IntKind.wrap .i64 (a1 + 1))))) + 1))]) fun r2 =>
 optO (CV.asS r2) fun s3 =>
 chkO (decide (([45] : List UInt8).length + s3.length ≤ 9223372036854775807)) (
 some (.str (([45] : List UInt8) ++ s3))))
 else
 (optO (C lb n F_r01_digits [.int .u64 (IntKind.wrap .u64 (a1))]) fun r4 =>
 some (r4)) := by kernel_rfl

/-! airline/text.Decimal -/
theorem text_Decimal_eq (lb : Nat) (n : Nat) (a1 : Int) :
  top lb n F_text_Decimal [.int .i64 a1] =
 optO (C lb n F_strconv_Itoa [.int .i64 a1]) fun r2 =>
 some (r2) := by kernel_rfl

/-! airline/text.Join -/
noncomputable def text_Join_L1 (lb : Nat) (n : Nat) (k19 : Nat) (an1 : Bool) (a2 : List (List CV)) (l11 : List (List CV)) (i12 : Int) : Option CV :=
  hold (loopC (E0 lb n 0 994) 0 (loopTemps (sub (B F_text_Join) [1, 1, 0, 1, 0, 0]) ++ [5, 5]) [] (sub (B F_text_Join) [1, 1, 0, 1, 0, 0]) (blockK 0 (seqK (E0 lb n 0 997) (sub (B F_text_Join) [1, 1, 0]) (sub (B F_text_Join) [1, 1, 1]) (retK Tryz.prog (R F_text_Join) 0 (outK (tightF Tryz.prog F_text_Join))))) k19 ⟨fr 27 [(0, .val (.list an1 a2)), (2, .val (.str [])), (3, .lst true false 9 l11), (6, .val (.list an1 a2)), (7, .val (.int .i64 (a2.length : Int))), (8, .val (.list false [])), (9, .val (.list an1 a2)), (10, .val (.int .i64 (a2.length : Int))), (11, .val (.int .i64 i12))], [bx 27 []], KK⟩)

noncomputable def text_Join_J2 (lb : Nat) (n : Nat) (an1 : Bool) (a2 : List (List CV)) (b25 : Bool) (l26 : List (List CV)) : Option CV :=
  hold (E0 lb n 0 997 (sub (B F_text_Join) [1, 1, 1]) (retK Tryz.prog (R F_text_Join) 0 (outK (tightF Tryz.prog F_text_Join))) ⟨fr 27 [(0, .val (.list an1 a2)), (2, .val (.str [])), (3, .lst true b25 9 l26), (6, .val (.list an1 a2)), (7, .val (.int .i64 (a2.length : Int))), (8, .val (.list false []))], [bx 27 []], KK⟩)

theorem text_Join_J2_eq (lb : Nat) (n : Nat) (an1 : Bool) (a2 : List (List CV)) (b25 : Bool) (l26 : List (List CV)) :
  text_Join_J2 lb n an1 a2 b25 l26 =
 optO (C lb n F_strings_Join [.list b25 l26, .str [32]]) fun r27 =>
 some (r27) := (hold_eq _).trans (by kernel_rfl)

theorem text_Join_L1_succ (lb : Nat) (n k19 : Nat) (an1 : Bool) (a2 : List (List CV)) (l11 : List (List CV)) (i12 : Int) :
  text_Join_L1 lb n (k19 + 1) an1 a2 l11 i12 =
 bif (decide (i12 < (a2.length : Int))) then
 (optO (atL a2 i12) fun c20 =>
 chkO (c20.length == 1) (
 optO (c20[0]?) fun x21 =>
 optO (C lb n F_text_plain [x21]) fun r22 =>
 optO (CV.asB r22) fun b23 =>
 bif (!b23) then
 (optO (C lb n F_text_Quote [x21]) fun r24 =>
 chkO (CV.isCell r24) (
 chkO (room (l11.length + 1) 16) (
 text_Join_L1 lb n k19 an1 a2 (l11 ++ [[r24]]) (IntKind.wrap .i64 (i12 + 1)))))
 else
 (chkO (CV.isCell x21) (
 chkO (room (l11.length + 1) 16) (
 text_Join_L1 lb n k19 an1 a2 (l11 ++ [[x21]]) (IntKind.wrap .i64 (i12 + 1)))))))
 else
 (text_Join_J2 lb n an1 a2 false l11) := (hold_eq _).trans (by kernel_rfl)

theorem text_Join_eq (lb : Nat) (n : Nat) (an1 : Bool) (a2 : List (List CV)) :
  top lb n F_text_Join [.list an1 a2] =
 chkO (decide (0 ≤ (0 : Int)) && decide ((0 : Int) ≤ ((a2.length : Int) : Int)) && decide (((a2.length : Int) : Int) * 16 ≤ 140737488355328) && decide (((a2.length : Int) : Int) ≤ 140737488355328)) (
 text_Join_L1 lb n n an1 a2 [] 0) := by kernel_rfl

/-! airline/airlineref01.Airport -/
theorem r01_Airport_eq (lb : Nat) (n : Nat) (a1 : List UInt8) :
  top lb n F_r01_Airport [.str a1] =
 optO (C lb n F_r01_letters [.str a1, .int .i64 3]) fun r2 =>
 some (r2) := by kernel_rfl

/-! airline/airlineref01.Code -/
noncomputable def r01_Code_L1 (lb : Nat) (n : Nat) (k20 : Nat) (a1 : List UInt8) (b2 : Int) (c3 : Int) (i12 : Int) : Option CV :=
  hold (loopC (E0 lb n 0 995) 0 (loopTemps (sub (B F_r01_Code) [1, 0, 1, 0, 0]) ++ []) [] (sub (B F_r01_Code) [1, 0, 1, 0, 0]) (blockK 0 (seqK (E0 lb n 0 998) (sub (B F_r01_Code) [1, 0]) (sub (B F_r01_Code) [1, 1]) (retK Tryz.prog (R F_r01_Code) 0 (outK (tightF Tryz.prog F_r01_Code))))) k20 ⟨fr 36 [(0, .val (.str a1)), (1, .val (.int .i64 b2)), (2, .val (.int .i64 c3)), (6, .val (.bool false)), (7, .val (.int .i64 i12))], [bx 36 []], KK⟩)

noncomputable def r01_Code_J2 (lb : Nat) (n : Nat) (a1 : List UInt8) (b2 : Int) (c3 : Int) (i27 : Int) : Option CV :=
  hold (E0 lb n 0 998 (sub (B F_r01_Code) [1, 1]) (retK Tryz.prog (R F_r01_Code) 0 (outK (tightF Tryz.prog F_r01_Code))) ⟨fr 36 [(0, .val (.str a1)), (1, .val (.int .i64 b2)), (2, .val (.int .i64 c3)), (6, .val (.bool false)), (7, .val (.int .i64 i27))], [bx 36 []], KK⟩)

theorem r01_Code_J2_eq (lb : Nat) (n : Nat) (a1 : List UInt8) (b2 : Int) (c3 : Int) (i27 : Int) :
  r01_Code_J2 lb n a1 b2 c3 i27 =
 bif (decide ((a1.length : Int) ≥ b2)) then
 (some (.bool (decide ((a1.length : Int) ≤ c3))))
 else
 (some (.bool false)) := (hold_eq _).trans (by kernel_rfl)

theorem r01_Code_L1_succ (lb : Nat) (n k20 : Nat) (a1 : List UInt8) (b2 : Int) (c3 : Int) (i12 : Int) :
  r01_Code_L1 lb n (k20 + 1) a1 b2 c3 i12 =
 bif (decide (i12 < (a1.length : Int))) then
 (optO (atS a1 i12) fun c21 =>
 optO (C lb n F_r01_upper [.int .u8 (c21.toNat : Int)]) fun r22 =>
 optO (CV.asB r22) fun b23 =>
 bif (!b23) then
 (optO (atS a1 i12) fun c24 =>
 optO (C lb n F_r01_digit [.int .u8 (c24.toNat : Int)]) fun r25 =>
 optO (CV.asB r25) fun b26 =>
 bif (!b26) then
 (some (.bool false))
 else
 (r01_Code_L1 lb n k20 a1 b2 c3 (IntKind.wrap .i64 (i12 + 1))))
 else
 (r01_Code_L1 lb n k20 a1 b2 c3 (IntKind.wrap .i64 (i12 + 1))))
 else
 (r01_Code_J2 lb n a1 b2 c3 i12) := (hold_eq _).trans (by kernel_rfl)

theorem r01_Code_eq (lb : Nat) (n : Nat) (a1 : List UInt8) (b2 : Int) (c3 : Int) :
  top lb n F_r01_Code [.str a1, .int .i64 b2, .int .i64 c3] =
 r01_Code_L1 lb n n a1 b2 c3 0 := by kernel_rfl

/-! airline/airlineref01.Join -/
noncomputable def r01_Join_L1 (lb : Nat) (n : Nat) (k33 : Nat) (an1 : Bool) (a2 : List (List CV)) (b14 : Bool) (l15 : List (List CV)) (i17 : Int) : Option CV :=
  hold (loopC (E0 lb n 0 994) 0 (loopTemps (sub (B F_r01_Join) [1, 1, 0, 1, 0, 0]) ++ [5, 5]) [] (sub (B F_r01_Join) [1, 1, 0, 1, 0, 0]) (blockK 0 (seqK (E0 lb n 0 997) (sub (B F_r01_Join) [1, 1, 0]) (sub (B F_r01_Join) [1, 1, 1]) (retK Tryz.prog (R F_r01_Join) 0 (outK (tightF Tryz.prog F_r01_Join))))) k33 ⟨fr 31 [(0, .val (.list an1 a2)), (2, .val (.str [])), (3, .lst true b14 5 l15), (4, .val (.int .i64 i17))], [bx 31 []], KK⟩)

noncomputable def r01_Join_J2 (lb : Nat) (n : Nat) (k33 : Nat) (an1 : Bool) (a2 : List (List CV)) (i17 : Int) (b34 : Bool) (l35 : List (List CV)) : Option CV :=
  hold (E0 lb n 0 990 (sub (B F_r01_Join) [1, 1, 0, 1, 0, 0, 1, 0, 0, 1]) (blockK 1 (seqK (E0 lb n 0 992) (sub (B F_r01_Join) [1, 1, 0, 1, 0, 0, 1, 0]) (sub (B F_r01_Join) [1, 1, 0, 1, 0, 0, 1, 1]) (loopK 0 (loopTemps (sub (B F_r01_Join) [1, 1, 0, 1, 0, 0]) ++ [5, 5]) [] (loopC (E0 lb n 0 994) 0 (loopTemps (sub (B F_r01_Join) [1, 1, 0, 1, 0, 0]) ++ [5, 5]) [] (sub (B F_r01_Join) [1, 1, 0, 1, 0, 0]) (blockK 0 (seqK (E0 lb n 0 997) (sub (B F_r01_Join) [1, 1, 0]) (sub (B F_r01_Join) [1, 1, 1]) (retK Tryz.prog (R F_r01_Join) 0 (outK (tightF Tryz.prog F_r01_Join))))) k33) (blockK 0 (seqK (E0 lb n 0 997) (sub (B F_r01_Join) [1, 1, 0]) (sub (B F_r01_Join) [1, 1, 1]) (retK Tryz.prog (R F_r01_Join) 0 (outK (tightF Tryz.prog F_r01_Join)))))))) ⟨fr 31 [(0, .val (.list an1 a2)), (2, .val (.str [])), (3, .lst true b34 5 l35), (4, .val (.int .i64 i17))], [bx 31 []], KK⟩)

theorem r01_Join_J2_eq (lb : Nat) (n : Nat) (k33 : Nat) (an1 : Bool) (a2 : List (List CV)) (i17 : Int) (b34 : Bool) (l35 : List (List CV)) :
  r01_Join_J2 lb n k33 an1 a2 i17 b34 l35 =
 optO (atL a2 i17) fun c36 =>
 chkO (c36.length == 1) (
 optO (c36[0]?) fun x37 =>
 optO (C lb n F_r01_plain [x37]) fun r38 =>
 optO (CV.asB r38) fun b39 =>
 bif (!b39) then
 (optO (C lb n F_r01_Quote [x37]) fun r40 =>
 optO (CV.asS r40) fun s41 =>
 chkO ((s41.map fun c => [CV.int .u8 c.toNat]).all (·.length == 1)) (
 chkO (room (l35.length + (s41.map fun c => [CV.int .u8 c.toNat]).length) 1) (
 r01_Join_L1 lb n k33 an1 a2 (b34 && ((s41.map fun c => [CV.int .u8 c.toNat]).isEmpty)) (l35 ++ (s41.map fun c => [CV.int .u8 c.toNat])) (IntKind.wrap .i64 (i17 + 1)))))
 else
 (optO (CV.asS x37) fun s42 =>
 chkO ((s42.map fun c => [CV.int .u8 c.toNat]).all (·.length == 1)) (
 chkO (room (l35.length + (s42.map fun c => [CV.int .u8 c.toNat]).length) 1) (
 r01_Join_L1 lb n k33 an1 a2 (b34 && ((s42.map fun c => [CV.int .u8 c.toNat]).isEmpty)) (l35 ++ (s42.map fun c => [CV.int .u8 c.toNat])) (IntKind.wrap .i64 (i17 + 1)))))) := (hold_eq _).trans (by kernel_rfl)

noncomputable def r01_Join_J3 (lb : Nat) (n : Nat) (an1 : Bool) (a2 : List (List CV)) (b43 : Bool) (l44 : List (List CV)) (i45 : Int) : Option CV :=
  hold (E0 lb n 0 997 (sub (B F_r01_Join) [1, 1, 1]) (retK Tryz.prog (R F_r01_Join) 0 (outK (tightF Tryz.prog F_r01_Join))) ⟨fr 31 [(0, .val (.list an1 a2)), (2, .val (.str [])), (3, .lst true b43 5 l44), (4, .val (.int .i64 i45))], [bx 31 []], KK⟩)

theorem r01_Join_J3_eq (lb : Nat) (n : Nat) (an1 : Bool) (a2 : List (List CV)) (b43 : Bool) (l44 : List (List CV)) (i45 : Int) :
  r01_Join_J3 lb n an1 a2 b43 l44 i45 =
 optO (bytesOf l44) fun s46 =>
 some (.str s46) := (hold_eq _).trans (by kernel_rfl)

theorem r01_Join_L1_succ (lb : Nat) (n k33 : Nat) (an1 : Bool) (a2 : List (List CV)) (b14 : Bool) (l15 : List (List CV)) (i17 : Int) :
  r01_Join_L1 lb n (k33 + 1) an1 a2 b14 l15 i17 =
 bif (decide (i17 < (a2.length : Int))) then
 (bif (decide (i17 > 0)) then
 (chkO (room (l15.length + 1) 1) (
 r01_Join_J2 lb n k33 an1 a2 i17 (b14 && false) (l15 ++ [[CV.int .u8 32]])))
 else
 (r01_Join_J2 lb n k33 an1 a2 i17 b14 l15))
 else
 (r01_Join_J3 lb n an1 a2 b14 l15 i17) := (hold_eq _).trans (by kernel_rfl)

theorem r01_Join_eq (lb : Nat) (n : Nat) (an1 : Bool) (a2 : List (List CV)) :
  top lb n F_r01_Join [.list an1 a2] =
 r01_Join_L1 lb n n an1 a2 true [] 0 := by kernel_rfl

/-! airline/text.Words -/
noncomputable def text_Words_L1 (lb : Nat) (n : Nat) (k43 : Nat) (a1 : List UInt8) (x4 : CV) (x6 : CV) (r2 : CV) (p9 : Bool × List (List CV)) (p10 : Bool × List (List CV)) (l27 : List (List CV)) (i28 : Int) : Option CV :=
  hold (loopC (E0 lb n 0 991) 0 (loopTemps (sub (B F_text_Words) [1, 1, 1, 1, 1, 0, 1, 0, 0]) ++ [8, 9, 10, 8]) [] (sub (B F_text_Words) [1, 1, 1, 1, 1, 0, 1, 0, 0]) (blockK 0 (seqK (E0 lb n 0 994) (sub (B F_text_Words) [1, 1, 1, 1, 1, 0]) (sub (B F_text_Words) [1, 1, 1, 1, 1, 1]) (retK Tryz.prog (R F_text_Words) 0 (outK (tightF Tryz.prog F_text_Words))))) k43 ⟨fr 50 [(0, .val (.str a1)), (2, .lst true true 9 []), (3, .val (.int .i64 0)), (4, .val x4), (5, .val x6), (6, .lst true false 9 l27), (13, .val r2), (14, .val (.str a1)), (15, .val r2), (16, .val x4), (17, .val x6), (20, .val x4), (21, .val (.int .i64 (p9.2.length : Int))), (22, .val (.list false [])), (23, .val x4), (24, .val (.int .i64 (p10.2.length : Int))), (25, .val (.int .i64 i28))], [bx 50 []], KK⟩)

noncomputable def text_Words_J2 (lb : Nat) (n : Nat) (a1 : List UInt8) (x4 : CV) (x6 : CV) (r2 : CV) (p9 : Bool × List (List CV)) (b57 : Bool) (l58 : List (List CV)) : Option CV :=
  hold (E0 lb n 0 994 (sub (B F_text_Words) [1, 1, 1, 1, 1, 1]) (retK Tryz.prog (R F_text_Words) 0 (outK (tightF Tryz.prog F_text_Words))) ⟨fr 50 [(0, .val (.str a1)), (2, .lst true true 9 []), (3, .val (.int .i64 0)), (4, .val x4), (5, .val x6), (6, .lst true b57 9 l58), (13, .val r2), (14, .val (.str a1)), (15, .val r2), (16, .val x4), (17, .val x6), (20, .val x4), (21, .val (.int .i64 (p9.2.length : Int))), (22, .val (.list false []))], [bx 50 []], KK⟩)

theorem text_Words_J2_eq (lb : Nat) (n : Nat) (a1 : List UInt8) (x4 : CV) (x6 : CV) (r2 : CV) (p9 : Bool × List (List CV)) (b57 : Bool) (l58 : List (List CV)) :
  text_Words_J2 lb n a1 x4 x6 r2 p9 b57 l58 =
 some (.tup [.list b57 l58, .int .i64 0]) := (hold_eq _).trans (by kernel_rfl)

theorem text_Words_L1_succ (lb : Nat) (n k43 : Nat) (a1 : List UInt8) (x4 : CV) (x6 : CV) (r2 : CV) (p9 : Bool × List (List CV)) (p10 : Bool × List (List CV)) (l27 : List (List CV)) (i28 : Int) :
  text_Words_L1 lb n (k43 + 1) a1 x4 x6 r2 p9 p10 l27 i28 =
 bif (decide (i28 < (p10.2.length : Int))) then
 (optO (CV.asL x4) fun p44 =>
 optO (atL p44.2 i28) fun c45 =>
 chkO (c45.length == 1) (
 optO (c45[0]?) fun x46 =>
 optO (C lb n F_text_plain [x46]) fun r47 =>
 optO (CV.asB r47) fun b48 =>
 bif (!b48) then
 (optO (C lb n F_text_Unquote [x46]) fun r49 =>
 optO (CV.asT r49) fun t50 =>
 optO (t50[0]?) fun x51 =>
 optO (CV.asT r49) fun t52 =>
 optO (t52[1]?) fun x53 =>
 optO (CV.asI .i64 x53) fun i54 =>
 bif (i54 != 0) then
 (some (.tup [.list true [], .int .i64 3]))
 else
 (optO (C lb n F_text_plain [x51]) fun r55 =>
 optO (CV.asB r55) fun b56 =>
 bif b56 then
 (some (.tup [.list true [], .int .i64 3]))
 else
 (chkO (CV.isCell x51) (
 chkO (room (l27.length + 1) 16) (
 text_Words_L1 lb n k43 a1 x4 x6 r2 p9 p10 (l27 ++ [[x51]]) (IntKind.wrap .i64 (i28 + 1)))))))
 else
 (chkO (CV.isCell x46) (
 chkO (room (l27.length + 1) 16) (
 text_Words_L1 lb n k43 a1 x4 x6 r2 p9 p10 (l27 ++ [[x46]]) (IntKind.wrap .i64 (i28 + 1)))))))
 else
 (text_Words_J2 lb n a1 x4 x6 r2 p9 false l27) := (hold_eq _).trans (by kernel_rfl)

theorem text_Words_eq (lb : Nat) (n : Nat) (a1 : List UInt8) :
  top lb n F_text_Words [.str a1] =
 bif (a1 == []) then
 (some (.tup [.list true [], .int .i64 0]))
 else
 (optO (C lb n F_text_cut [.str a1]) fun r2 =>
 optO (CV.asT r2) fun t3 =>
 optO (t3[0]?) fun x4 =>
 optO (CV.asT r2) fun t5 =>
 optO (t5[1]?) fun x6 =>
 optO (CV.asB x6) fun b7 =>
 bif (!b7) then
 (some (.tup [.list true [], .int .i64 3]))
 else
 (optO (CV.asL x4) fun p9 =>
 chkO (decide (0 ≤ (0 : Int)) && decide ((0 : Int) ≤ ((p9.2.length : Int) : Int)) && decide (((p9.2.length : Int) : Int) * 16 ≤ 140737488355328) && decide (((p9.2.length : Int) : Int) ≤ 140737488355328)) (
 optO (CV.asL x4) fun p10 =>
 text_Words_L1 lb n n a1 x4 x6 r2 p9 p10 [] 0))) := by kernel_rfl

/-! airline/text.Number -/
theorem text_Number_eq (lb : Nat) (n : Nat) (a1 : List UInt8) :
  top lb n F_text_Number [.str a1] =
 optO (C lb n F_strings_TrimPrefix [.str a1, .str [45]]) fun r2 =>
 optO (CV.asS r2) fun s3 =>
 bif (s3 == []) then
 (some (.tup [.int .i64 0, .int .i64 3]))
 else
 (optO (C lb n F_text_every [r2, .fn F_text_digit]) fun r4 =>
 optO (CV.asB r4) fun b5 =>
 bif (!b5) then
 (some (.tup [.int .i64 0, .int .i64 3]))
 else
 (optO (CV.asS r2) fun s6 =>
 optO (atS s6 0) fun c7 =>
 bif ((c7.toNat : Int) == 48) then
 (bif (!(a1 == [48])) then
 (some (.tup [.int .i64 0, .int .i64 3]))
 else
 (optO (C lb n F_strconv_Atoi [.str a1]) fun r9 =>
 optO (CV.asT r9) fun t10 =>
 optO (t10[0]?) fun x11 =>
 optO (CV.asT r9) fun t12 =>
 optO (t12[1]?) fun x13 =>
 optO (CV.asE x13) fun e14 =>
 bif (!e14) then
 (some (.tup [.int .i64 0, .int .i64 4]))
 else
 (some (.tup [x11, .int .i64 0]))))
 else
 (optO (C lb n F_strconv_Atoi [.str a1]) fun r15 =>
 optO (CV.asT r15) fun t17 =>
 optO (t17[0]?) fun x18 =>
 optO (CV.asT r15) fun t19 =>
 optO (t19[1]?) fun x20 =>
 optO (CV.asE x20) fun e21 =>
 bif (!e21) then
 (some (.tup [.int .i64 0, .int .i64 4]))
 else
 (some (.tup [x18, .int .i64 0]))))) := by kernel_rfl

/-! airline/airlineref01.Words -/
noncomputable def r01_Words_L1 (lb : Nat) (n : Nat) (k38 : Nat) (a1 : List UInt8) (b22 : Bool) (l23 : List (List CV)) (i24 : Int) : Option CV :=
  hold (loopC (E0 lb n 0 994) 0 (loopTemps (sub (B F_r01_Words) [1, 1, 0, 1, 0, 0]) ++ [6, 7, 8, 9, 7]) [] (sub (B F_r01_Words) [1, 1, 0, 1, 0, 0]) (blockK 0 (seqK (E0 lb n 0 997) (sub (B F_r01_Words) [1, 1, 0]) (sub (B F_r01_Words) [1, 1, 1]) (retK Tryz.prog (R F_r01_Words) 0 (outK (tightF Tryz.prog F_r01_Words))))) k38 ⟨fr 49 [(0, .val (.str a1)), (2, .lst true true 9 []), (3, .val (.int .i64 0)), (4, .lst true b22 9 l23), (5, .val (.int .i64 i24))], [bx 49 []], KK⟩)

noncomputable def r01_Words_J2 (lb : Nat) (n : Nat) (a1 : List UInt8) (b51 : Bool) (l52 : List (List CV)) (i53 : Int) : Option CV :=
  hold (E0 lb n 0 997 (sub (B F_r01_Words) [1, 1, 1]) (retK Tryz.prog (R F_r01_Words) 0 (outK (tightF Tryz.prog F_r01_Words))) ⟨fr 49 [(0, .val (.str a1)), (2, .lst true true 9 []), (3, .val (.int .i64 0)), (4, .lst true b51 9 l52), (5, .val (.int .i64 i53))], [bx 49 []], KK⟩)

theorem r01_Words_J2_eq (lb : Nat) (n : Nat) (a1 : List UInt8) (b51 : Bool) (l52 : List (List CV)) (i53 : Int) :
  r01_Words_J2 lb n a1 b51 l52 i53 =
 optO (C lb n F_r01_Join [.list b51 l52]) fun r54 =>
 optO (CV.asS r54) fun s55 =>
 bif (!(s55 == a1)) then
 (some (.tup [.list true [], .int .i64 3]))
 else
 (some (.tup [.list b51 l52, .int .i64 0])) := (hold_eq _).trans (by kernel_rfl)

theorem r01_Words_L1_succ (lb : Nat) (n k38 : Nat) (a1 : List UInt8) (b22 : Bool) (l23 : List (List CV)) (i24 : Int) :
  r01_Words_L1 lb n (k38 + 1) a1 b22 l23 i24 =
 bif (decide (i24 < (a1.length : Int))) then
 (optO (C lb n F_r01_end [.str a1, .int .i64 i24]) fun r39 =>
 optO (CV.asN r39) fun i40 =>
 chkO (decide ((0 : Int) ≤ i40 ∧ i40 ≤ (a1.length : Int))) (
 chkO (decide ((0 : Int) ≤ i24 ∧ i24 ≤ i40)) (
 bif (decide ((((a1.take i40.toNat).drop i24.toNat).length : Int) > 0)) then
 (optO (atS ((a1.take i40.toNat).drop i24.toNat) 0) fun c41 =>
 bif ((c41.toNat : Int) == 34) then
 (optO (C lb n F_r01_Unquote [.str ((a1.take i40.toNat).drop i24.toNat)]) fun r42 =>
 optO (CV.asT r42) fun t43 =>
 optO (t43[0]?) fun x44 =>
 optO (CV.asT r42) fun t45 =>
 optO (t45[1]?) fun x46 =>
 optO (CV.asI .i64 x46) fun i47 =>
 bif (i47 != 0) then
 (some (.tup [.list true [], x46]))
 else
 (chkO (CV.isCell x44) (
 chkO (room (l23.length + 1) 16) (
 optO (CV.asI .i64 r39) fun i48 =>
 r01_Words_L1 lb n k38 a1 (b22 && false) (l23 ++ [[x44]]) (IntKind.wrap .i64 (i48 + 1))))))
 else
 (chkO (room (l23.length + 1) 16) (
 optO (CV.asI .i64 r39) fun i49 =>
 r01_Words_L1 lb n k38 a1 (b22 && false) (l23 ++ [[CV.str ((a1.take i40.toNat).drop i24.toNat)]]) (IntKind.wrap .i64 (i49 + 1)))))
 else
 (chkO (room (l23.length + 1) 16) (
 optO (CV.asI .i64 r39) fun i50 =>
 r01_Words_L1 lb n k38 a1 (b22 && false) (l23 ++ [[CV.str ((a1.take i40.toNat).drop i24.toNat)]]) (IntKind.wrap .i64 (i50 + 1)))))))
 else
 (r01_Words_J2 lb n a1 b22 l23 i24) := (hold_eq _).trans (by kernel_rfl)

theorem r01_Words_eq (lb : Nat) (n : Nat) (a1 : List UInt8) :
  top lb n F_r01_Words [.str a1] =
 r01_Words_L1 lb n n a1 true [] 0 := by kernel_rfl

/-! airline/airlineref01.Number -/
noncomputable def r01_Number_J1 (lb : Nat) (n : Nat) (a1 : List UInt8) (c2 : UInt8) (s3 : List UInt8) : Option CV :=
  hold (E0 lb n 0 996 (sub (B F_r01_Number) [1, 1, 1, 1]) (retK Tryz.prog (R F_r01_Number) 0 (outK (tightF Tryz.prog F_r01_Number))) ⟨fr 81 [(0, .val (.str a1)), (2, .val (.int .i64 0)), (3, .val (.int .i64 0)), (4, .val (.bool ((c2.toNat : Int) == 45))), (5, .val (.str s3)), (9, .val (.str a1)), (10, .val (.int .i64 (a1.length : Int))), (11, .val (.bool (decide ((a1.length : Int) > 0)))), (12, .val (.bool true)), (13, .val (.str a1)), (14, .val (.int .u8 (c2.toNat : Int))), (15, .val (.bool ((c2.toNat : Int) == 45))), (16, .val (.bool ((c2.toNat : Int) == 45))), (17, .val (.str a1))], [bx 81 []], KK⟩)

noncomputable def r01_Number_L2 (lb : Nat) (n : Nat) (k13 : Nat) (a1 : List UInt8) (c2 : UInt8) (s3 : List UInt8) (i9 : Int) : Option CV :=
  hold (loopC (E0 lb n 0 991) 0 (loopTemps (sub (B F_r01_Number) [1, 1, 1, 1, 1, 0, 1, 0, 0]) ++ []) [] (sub (B F_r01_Number) [1, 1, 1, 1, 1, 0, 1, 0, 0]) (blockK 0 (seqK (E0 lb n 0 994) (sub (B F_r01_Number) [1, 1, 1, 1, 1, 0]) (sub (B F_r01_Number) [1, 1, 1, 1, 1, 1]) (retK Tryz.prog (R F_r01_Number) 0 (outK (tightF Tryz.prog F_r01_Number))))) k13 ⟨fr 81 [(0, .val (.str a1)), (2, .val (.int .i64 0)), (3, .val (.int .i64 0)), (4, .val (.bool ((c2.toNat : Int) == 45))), (5, .val (.str s3)), (6, .val (.int .i64 i9)), (9, .val (.str a1)), (10, .val (.int .i64 (a1.length : Int))), (11, .val (.bool (decide ((a1.length : Int) > 0)))), (12, .val (.bool true)), (13, .val (.str a1)), (14, .val (.int .u8 (c2.toNat : Int))), (15, .val (.bool ((c2.toNat : Int) == 45))), (16, .val (.bool ((c2.toNat : Int) == 45))), (17, .val (.str a1))], [bx 81 []], KK⟩)

noncomputable def r01_Number_J3 (lb : Nat) (n : Nat) (a1 : List UInt8) (c2 : UInt8) (s3 : List UInt8) (i18 : Int) : Option CV :=
  hold (E0 lb n 0 994 (sub (B F_r01_Number) [1, 1, 1, 1, 1, 1]) (retK Tryz.prog (R F_r01_Number) 0 (outK (tightF Tryz.prog F_r01_Number))) ⟨fr 81 [(0, .val (.str a1)), (2, .val (.int .i64 0)), (3, .val (.int .i64 0)), (4, .val (.bool ((c2.toNat : Int) == 45))), (5, .val (.str s3)), (6, .val (.int .i64 i18)), (9, .val (.str a1)), (10, .val (.int .i64 (a1.length : Int))), (11, .val (.bool (decide ((a1.length : Int) > 0)))), (12, .val (.bool true)), (13, .val (.str a1)), (14, .val (.int .u8 (c2.toNat : Int))), (15, .val (.bool ((c2.toNat : Int) == 45))), (16, .val (.bool ((c2.toNat : Int) == 45))), (17, .val (.str a1))], [bx 81 []], KK⟩)

noncomputable def r01_Number_L4 (lb : Nat) (n : Nat) (k23 : Nat) (a1 : List UInt8) (c2 : UInt8) (s3 : List UInt8) (i18 : Int) (i20 : Int) (i21 : Int) : Option CV :=
  hold (loopC (E0 lb n 0 988) 0 (loopTemps (sub (B F_r01_Number) [1, 1, 1, 1, 1, 1, 1, 1, 0, 1, 0, 0]) ++ []) [] (sub (B F_r01_Number) [1, 1, 1, 1, 1, 1, 1, 1, 0, 1, 0, 0]) (blockK 2 (seqK (E0 lb n 0 991) (sub (B F_r01_Number) [1, 1, 1, 1, 1, 1, 1, 1, 0]) (sub (B F_r01_Number) [1, 1, 1, 1, 1, 1, 1, 1, 1]) (retK Tryz.prog (R F_r01_Number) 0 (outK (tightF Tryz.prog F_r01_Number))))) k23 ⟨fr 81 [(0, .val (.str a1)), (2, .val (.int .i64 0)), (3, .val (.int .i64 0)), (4, .val (.bool ((c2.toNat : Int) == 45))), (5, .val (.str s3)), (6, .val (.int .i64 i18)), (7, .val (.int .u64 i20)), (8, .val (.int .i64 i21)), (9, .val (.str a1)), (10, .val (.int .i64 (a1.length : Int))), (11, .val (.bool (decide ((a1.length : Int) > 0)))), (12, .val (.bool true)), (13, .val (.str a1)), (14, .val (.int .u8 (c2.toNat : Int))), (15, .val (.bool ((c2.toNat : Int) == 45))), (16, .val (.bool ((c2.toNat : Int) == 45))), (17, .val (.str a1))], [bx 81 []], KK⟩)

noncomputable def r01_Number_J5 (lb : Nat) (n : Nat) (a1 : List UInt8) (c2 : UInt8) (s3 : List UInt8) (i18 : Int) (i25 : Int) (i26 : Int) : Option CV :=
  hold (E0 lb n 0 991 (sub (B F_r01_Number) [1, 1, 1, 1, 1, 1, 1, 1, 1]) (retK Tryz.prog (R F_r01_Number) 0 (outK (tightF Tryz.prog F_r01_Number))) ⟨fr 81 [(0, .val (.str a1)), (2, .val (.int .i64 0)), (3, .val (.int .i64 0)), (4, .val (.bool ((c2.toNat : Int) == 45))), (5, .val (.str s3)), (6, .val (.int .i64 i18)), (7, .val (.int .u64 i25)), (8, .val (.int .i64 i26)), (9, .val (.str a1)), (10, .val (.int .i64 (a1.length : Int))), (11, .val (.bool (decide ((a1.length : Int) > 0)))), (12, .val (.bool true)), (13, .val (.str a1)), (14, .val (.int .u8 (c2.toNat : Int))), (15, .val (.bool ((c2.toNat : Int) == 45))), (16, .val (.bool ((c2.toNat : Int) == 45))), (17, .val (.str a1))], [bx 81 []], KK⟩)

theorem r01_Number_J5_eq (lb : Nat) (n : Nat) (a1 : List UInt8) (c2 : UInt8) (s3 : List UInt8) (i18 : Int) (i25 : Int) (i26 : Int) :
  r01_Number_J5 lb n a1 c2 s3 i18 i25 i26 =
 bif ((c2.toNat : Int) == 45) then
 (bif (decide (i25 ≤ 9223372036854775808)) then
 (some (.tup [.int .i64 (IntKind.wrap .i64 ((IntKind.wrap .i64 (0 - (IntKind.wrap .i64 (IntKind.wrap .u64 (i25 - 1))))) - 1)), .int .i64 0]))
 else
 (bif ((c2.toNat : Int) == 45) then
 (some (.tup [.int .i64 0, .int .i64 4]))
 else
 (bif (decide (i25 ≥ 9223372036854775808)) then
 (some (.tup [.int .i64 0, .int .i64 4]))
 else
 (some (.tup [.int .i64 (IntKind.wrap .i64 (i25)), .int .i64 0])))))
 else
 (bif ((c2.toNat : Int) == 45) then
 (some (.tup [.int .i64 0, .int .i64 4]))
 else
 (bif (decide (i25 ≥ 9223372036854775808)) then
 (some (.tup [.int .i64 0, .int .i64 4]))
 else
 (some (.tup [.int .i64 (IntKind.wrap .i64 (i25)), .int .i64 0])))) := (hold_eq _).trans (by kernel_rfl)

theorem r01_Number_L4_succ (lb : Nat) (n k23 : Nat) (a1 : List UInt8) (c2 : UInt8) (s3 : List UInt8) (i18 : Int) (i20 : Int) (i21 : Int) :
  r01_Number_L4 lb n (k23 + 1) a1 c2 s3 i18 i20 i21 =
 bif (decide (i21 < (s3.length : Int))) then
 (optO (atS s3 i21) fun c24 =>
 r01_Number_L4 lb n k23 a1 c2 s3 i18 (IntKind.wrap .u64 ((IntKind.wrap .u64 (10 * i20)) + (IntKind.wrap .u64 (IntKind.wrap .u8 ((c24.toNat : Int) - 48))))) (IntKind.wrap .i64 (i21 + 1)))
 else
 (r01_Number_J5 lb n a1 c2 s3 i18 i20 i21) := (hold_eq _).trans (by kernel_rfl)

theorem r01_Number_J3_eq (lb : Nat) (n : Nat) (a1 : List UInt8) (c2 : UInt8) (s3 : List UInt8) (i18 : Int) :
  r01_Number_J3 lb n a1 c2 s3 i18 =
 bif (decide ((s3.length : Int) > 19)) then
 (some (.tup [.int .i64 0, .int .i64 4]))
 else
 (r01_Number_L4 lb n n a1 c2 s3 i18 0 0) := (hold_eq _).trans (by kernel_rfl)

theorem r01_Number_L2_succ (lb : Nat) (n k13 : Nat) (a1 : List UInt8) (c2 : UInt8) (s3 : List UInt8) (i9 : Int) :
  r01_Number_L2 lb n (k13 + 1) a1 c2 s3 i9 =
 bif (decide (i9 < (s3.length : Int))) then
 (optO (atS s3 i9) fun c14 =>
 optO (C lb n F_r01_digit [.int .u8 (c14.toNat : Int)]) fun r15 =>
 optO (CV.asB r15) fun b17 =>
 bif (!b17) then
 (some (.tup [.int .i64 0, .int .i64 3]))
 else
 (r01_Number_L2 lb n k13 a1 c2 s3 (IntKind.wrap .i64 (i9 + 1))))
 else
 (r01_Number_J3 lb n a1 c2 s3 i9) := (hold_eq _).trans (by kernel_rfl)

theorem r01_Number_J1_eq (lb : Nat) (n : Nat) (a1 : List UInt8) (c2 : UInt8) (s3 : List UInt8) :
  r01_Number_J1 lb n a1 c2 s3 =
 bif (s3 == []) then
 (some (.tup [.int .i64 0, .int .i64 3]))
 else
 (optO (atS s3 0) fun c4 =>
 bif ((c4.toNat : Int) == 48) then
 (bif ((c2.toNat : Int) == 45) then
 (some (.tup [.int .i64 0, .int .i64 3]))
 else
 (bif (decide ((s3.length : Int) > 1)) then
 (some (.tup [.int .i64 0, .int .i64 3]))
 else
 (r01_Number_L2 lb n n a1 c2 s3 0)))
 else
 (r01_Number_L2 lb n n a1 c2 s3 0)) := (hold_eq _).trans (by kernel_rfl)

noncomputable def r01_Number_J6 (lb : Nat) (n : Nat) (a1 : List UInt8) : Option CV :=
  hold (E0 lb n 0 996 (sub (B F_r01_Number) [1, 1, 1, 1]) (retK Tryz.prog (R F_r01_Number) 0 (outK (tightF Tryz.prog F_r01_Number))) ⟨fr 81 [(0, .val (.str a1)), (2, .val (.int .i64 0)), (3, .val (.int .i64 0)), (4, .val (.bool false)), (5, .val (.str a1)), (9, .val (.str a1)), (10, .val (.int .i64 (a1.length : Int))), (11, .val (.bool (decide ((a1.length : Int) > 0)))), (12, .val (.bool false)), (13, .undef), (14, .undef), (15, .undef), (16, .val (.bool false)), (17, .val (.str a1))], [bx 81 []], KK⟩)

noncomputable def r01_Number_L7 (lb : Nat) (n : Nat) (k44 : Nat) (a1 : List UInt8) (i40 : Int) : Option CV :=
  hold (loopC (E0 lb n 0 991) 0 (loopTemps (sub (B F_r01_Number) [1, 1, 1, 1, 1, 0, 1, 0, 0]) ++ []) [] (sub (B F_r01_Number) [1, 1, 1, 1, 1, 0, 1, 0, 0]) (blockK 0 (seqK (E0 lb n 0 994) (sub (B F_r01_Number) [1, 1, 1, 1, 1, 0]) (sub (B F_r01_Number) [1, 1, 1, 1, 1, 1]) (retK Tryz.prog (R F_r01_Number) 0 (outK (tightF Tryz.prog F_r01_Number))))) k44 ⟨fr 81 [(0, .val (.str a1)), (2, .val (.int .i64 0)), (3, .val (.int .i64 0)), (4, .val (.bool false)), (5, .val (.str a1)), (6, .val (.int .i64 i40)), (9, .val (.str a1)), (10, .val (.int .i64 (a1.length : Int))), (11, .val (.bool (decide ((a1.length : Int) > 0)))), (12, .val (.bool false)), (13, .undef), (14, .undef), (15, .undef), (16, .val (.bool false)), (17, .val (.str a1))], [bx 81 []], KK⟩)

theorem r01_Number_J6_eq (lb : Nat) (n : Nat) (a1 : List UInt8) :
  r01_Number_J6 lb n a1 =
 bif (a1 == []) then
 (some (.tup [.int .i64 0, .int .i64 3]))
 else
 (optO (atS a1 0) fun c36 =>
 bif ((c36.toNat : Int) == 48) then
 (bif (decide ((a1.length : Int) > 1)) then
 (some (.tup [.int .i64 0, .int .i64 3]))
 else
 (r01_Number_L7 lb n n a1 0))
 else
 (r01_Number_L7 lb n n a1 0)) := (hold_eq _).trans (by kernel_rfl)

theorem r01_Number_eq (lb : Nat) (n : Nat) (a1 : List UInt8) :
  top lb n F_r01_Number [.str a1] =
 bif (decide ((a1.length : Int) > 0)) then
 (optO (atS a1 0) fun c2 =>
 bif ((c2.toNat : Int) == 45) then
 (chkO (decide ((0 : Int) ≤ 1 ∧ 1 ≤ (a1.length : Int))) (
 r01_Number_J1 lb n a1 c2 ((a1.take ((a1.length : Int).toNat)).drop 1)))
 else
 (r01_Number_J1 lb n a1 c2 a1))
 else
 (r01_Number_J6 lb n a1 ) := by kernel_rfl

/-! airline/text.Carrier -/
theorem text_Carrier_eq (lb : Nat) (n : Nat) (a1 : List UInt8) :
  top lb n F_text_Carrier [.str a1] =
 optO (C lb n F_text_Code [.str a1, .int .i64 2, .int .i64 2]) fun r2 =>
 optO (CV.asB r2) fun b3 =>
 bif b3 then
 (optO (C lb n F_text_every [.str a1, .fn F_text_digit]) fun r4 =>
 optO (CV.asB r4) fun b5 =>
 some (.bool (!b5)))
 else
 (some (.bool false)) := by kernel_rfl

/-! airline/text.Code -/
theorem text_Code_eq (lb : Nat) (n : Nat) (a1 : List UInt8) (b2 : Int) (c3 : Int) :
  top lb n F_text_Code [.str a1, .int .i64 b2, .int .i64 c3] =
 bif (decide ((a1.length : Int) ≥ b2)) then
 (bif (decide ((a1.length : Int) ≤ c3)) then
 (optO (C lb n F_text_every [.str a1, .fn F_text_Code_1]) fun r4 =>
 some (r4))
 else
 (some (.bool false)))
 else
 (some (.bool false)) := by kernel_rfl

/-! airline/airlineref01.Carrier -/
theorem r01_Carrier_eq (lb : Nat) (n : Nat) (a1 : List UInt8) :
  top lb n F_r01_Carrier [.str a1] =
 optO (C lb n F_r01_Code [.str a1, .int .i64 2, .int .i64 2]) fun r2 =>
 optO (CV.asB r2) fun b3 =>
 bif b3 then
 (optO (atS a1 0) fun c4 =>
 optO (C lb n F_r01_upper [.int .u8 (c4.toNat : Int)]) fun r5 =>
 optO (CV.asB r5) fun b6 =>
 bif b6 then
 (some (.bool true))
 else
 (optO (atS a1 1) fun c7 =>
 optO (C lb n F_r01_upper [.int .u8 (c7.toNat : Int)]) fun r9 =>
 some (r9)))
 else
 (some (.bool false)) := by kernel_rfl

/-! airline/airlineref01.digits -/
theorem r01_digits_eq (lb : Nat) (n : Nat) (a1 : Int) :
  top lb n F_r01_digits [.int .u64 a1] =
 bif (decide (a1 < 10)) then
 (chkO (decide ((0 : Int) ≤ (IntKind.wrap .u64 (a1 + 1)) ∧ (IntKind.wrap .u64 (a1 + 1)) ≤ 10)) (
 chkO (decide ((0 : Int) ≤ a1 ∧ a1 ≤ (IntKind.wrap .u64 (a1 + 1)))) (
 some (.str ((([48, 49, 50, 51, 52, 53, 54, 55, 56, 57] : List UInt8).take ((IntKind.wrap .u64 (a1 + 1)).toNat)).drop a1.toNat)))))
 else
 (optO (C lb n F_r01_digits [.int .u64 (IntKind.wrap .u64 (Int.tdiv a1 10))]) fun r2 =>
 chkO (decide ((0 : Int) ≤ (IntKind.wrap .u64 ((Int.tmod a1 10) + 1)) ∧ (IntKind.wrap .u64 ((Int.tmod a1 10) + 1)) ≤ 10)) (
 chkO (decide ((0 : Int) ≤ (Int.tmod a1 10) ∧ (Int.tmod a1 10) ≤ (IntKind.wrap .u64 ((Int.tmod a1 10) + 1)))) (
 optO (CV.asS r2) fun s3 =>
 chkO (decide (s3.length + ((([48, 49, 50, 51, 52, 53, 54, 55, 56, 57] : List UInt8).take ((IntKind.wrap .u64 ((Int.tmod a1 10) + 1)).toNat)).drop ((Int.tmod a1 10).toNat)).length ≤ 9223372036854775807)) (
 some (.str (s3 ++ ((([48, 49, 50, 51, 52, 53, 54, 55, 56, 57] : List UInt8).take ((IntKind.wrap .u64 ((Int.tmod a1 10) + 1)).toNat)).drop ((Int.tmod a1 10).toNat)))))))) := by kernel_rfl

/-! airline/text.Airport -/
theorem text_Airport_eq (lb : Nat) (n : Nat) (a1 : List UInt8) :
  top lb n F_text_Airport [.str a1] =
 bif ((a1.length : Int) == 3) then
 (optO (C lb n F_text_every [.str a1, .fn F_text_capital]) fun r2 =>
 some (r2))
 else
 (some (.bool false)) := by kernel_rfl

/-! airline/text.plain -/
theorem text_plain_eq (lb : Nat) (n : Nat) (a1 : List UInt8) :
  top lb n F_text_plain [.str a1] =
 bif (!(a1 == [])) then
 (optO (C lb n F_text_every [.str a1, .fn F_text_plain_1]) fun r2 =>
 some (r2))
 else
 (some (.bool false)) := by kernel_rfl

/-! airline/text.Quote -/
noncomputable def text_Quote_L1 (lb : Nat) (n : Nat) (k24 : Nat) (a1 : List UInt8) (l17 : List (List CV)) (i18 : Int) : Option CV :=
  hold (loopC (E0 lb n 0 993) 0 (loopTemps (sub (B F_text_Quote) [1, 1, 1, 0, 1, 0, 0]) ++ [4, 5, 25, 36]) [] (sub (B F_text_Quote) [1, 1, 1, 0, 1, 0, 0]) (blockK 0 (seqK (E0 lb n 0 996) (sub (B F_text_Quote) [1, 1, 1, 0]) (sub (B F_text_Quote) [1, 1, 1, 1]) (retK Tryz.prog (R F_text_Quote) 0 (outK (tightF Tryz.prog F_text_Quote))))) k24 ⟨fr 57 [(0, .val (.str a1)), (2, .val (.str [])), (3, .lst true false 5 l17), (6, .val (.str a1)), (7, .val (.int .i64 (a1.length : Int))), (8, .val (.int .i64 (IntKind.wrap .i64 ((a1.length : Int) + 2)))), (9, .val (.list false [])), (10, .val (.list false [])), (11, .lst true false 5 [[CV.int .u8 34]]), (12, .val (.list false [[CV.int .u8 34]])), (13, .val (.str a1)), (14, .val (.int .i64 (a1.length : Int))), (15, .val (.int .i64 i18))], [bx 57 []], KK⟩)

noncomputable def text_Quote_J2 (lb : Nat) (n : Nat) (a1 : List UInt8) (b30 : Bool) (l31 : List (List CV)) : Option CV :=
  hold (E0 lb n 0 996 (sub (B F_text_Quote) [1, 1, 1, 1]) (retK Tryz.prog (R F_text_Quote) 0 (outK (tightF Tryz.prog F_text_Quote))) ⟨fr 57 [(0, .val (.str a1)), (2, .val (.str [])), (3, .lst true b30 5 l31), (6, .val (.str a1)), (7, .val (.int .i64 (a1.length : Int))), (8, .val (.int .i64 (IntKind.wrap .i64 ((a1.length : Int) + 2)))), (9, .val (.list false [])), (10, .val (.list false [])), (11, .lst true false 5 [[CV.int .u8 34]]), (12, .val (.list false [[CV.int .u8 34]]))], [bx 57 []], KK⟩)

theorem text_Quote_J2_eq (lb : Nat) (n : Nat) (a1 : List UInt8) (b30 : Bool) (l31 : List (List CV)) :
  text_Quote_J2 lb n a1 b30 l31 =
 chkO (room (l31.length + 1) 1) (
 optO (bytesOf (l31 ++ [[CV.int .u8 34]])) fun s33 =>
 some (.str s33)) := (hold_eq _).trans (by kernel_rfl)

theorem text_Quote_L1_succ (lb : Nat) (n k24 : Nat) (a1 : List UInt8) (l17 : List (List CV)) (i18 : Int) :
  text_Quote_L1 lb n (k24 + 1) a1 l17 i18 =
 bif (decide (i18 < (a1.length : Int))) then
 (optO (atS a1 i18) fun c25 =>
 bif ((c25.toNat : Int) == 34) then
 (chkO (room (l17.length + 2) 1) (
 text_Quote_L1 lb n k24 a1 (l17 ++ [[CV.int .u8 92], [CV.int .u8 (c25.toNat : Int)]]) (IntKind.wrap .i64 (i18 + 1))))
 else
 (bif ((c25.toNat : Int) == 92) then
 (chkO (room (l17.length + 2) 1) (
 text_Quote_L1 lb n k24 a1 (l17 ++ [[CV.int .u8 92], [CV.int .u8 (c25.toNat : Int)]]) (IntKind.wrap .i64 (i18 + 1))))
 else
 (bif (decide ((c25.toNat : Int) < 32)) then
 (optO (atS [48, 49, 50, 51, 52, 53, 54, 55, 56, 57, 97, 98, 99, 100, 101, 102] (Int.fdiv (c25.toNat : Int) (2 ^ 4))) fun c26 =>
 optO (atS [48, 49, 50, 51, 52, 53, 54, 55, 56, 57, 97, 98, 99, 100, 101, 102] (IntKind.wrap .u8 ((BitVec.ofInt 8 (c25.toNat : Int) &&& BitVec.ofInt 8 15).toNat))) fun c27 =>
 chkO (room (l17.length + 4) 1) (
 text_Quote_L1 lb n k24 a1 (l17 ++ [[CV.int .u8 92], [CV.int .u8 120], [CV.int .u8 (c26.toNat : Int)], [CV.int .u8 (c27.toNat : Int)]]) (IntKind.wrap .i64 (i18 + 1))))
 else
 (bif (decide ((c25.toNat : Int) > 126)) then
 (optO (atS [48, 49, 50, 51, 52, 53, 54, 55, 56, 57, 97, 98, 99, 100, 101, 102] (Int.fdiv (c25.toNat : Int) (2 ^ 4))) fun c28 =>
 optO (atS [48, 49, 50, 51, 52, 53, 54, 55, 56, 57, 97, 98, 99, 100, 101, 102] (IntKind.wrap .u8 ((BitVec.ofInt 8 (c25.toNat : Int) &&& BitVec.ofInt 8 15).toNat))) fun c29 =>
 chkO (room (l17.length + 4) 1) (
 text_Quote_L1 lb n k24 a1 (l17 ++ [[CV.int .u8 92], [CV.int .u8 120], [CV.int .u8 (c28.toNat : Int)], [CV.int .u8 (c29.toNat : Int)]]) (IntKind.wrap .i64 (i18 + 1))))
 else
 (chkO (room (l17.length + 1) 1) (
 text_Quote_L1 lb n k24 a1 (l17 ++ [[CV.int .u8 (c25.toNat : Int)]]) (IntKind.wrap .i64 (i18 + 1))))))))
 else
 (text_Quote_J2 lb n a1 false l17) := (hold_eq _).trans (by kernel_rfl)

theorem text_Quote_eq (lb : Nat) (n : Nat) (a1 : List UInt8) :
  top lb n F_text_Quote [.str a1] =
 chkO (decide (0 ≤ (0 : Int)) && decide ((0 : Int) ≤ ((IntKind.wrap .i64 ((a1.length : Int) + 2)) : Int)) && decide (((IntKind.wrap .i64 ((a1.length : Int) + 2)) : Int) * 1 ≤ 140737488355328) && decide (((IntKind.wrap .i64 ((a1.length : Int) + 2)) : Int) ≤ 140737488355328)) (
 text_Quote_L1 lb n n a1 [[CV.int .u8 34]] 0) := by kernel_rfl

/-! airline/airlineref01.letters -/
noncomputable def r01_letters_L1 (lb : Nat) (n : Nat) (k11 : Nat) (a1 : List UInt8) (b2 : Int) (i6 : Int) : Option CV :=
  hold (loopC (E0 lb n 0 995) 0 (loopTemps (sub (B F_r01_letters) [1, 0, 1, 0, 0]) ++ []) [] (sub (B F_r01_letters) [1, 0, 1, 0, 0]) (blockK 0 (seqK (E0 lb n 0 998) (sub (B F_r01_letters) [1, 0]) (sub (B F_r01_letters) [1, 1]) (retK Tryz.prog (R F_r01_letters) 0 (outK (tightF Tryz.prog F_r01_letters))))) k11 ⟨fr 21 [(0, .val (.str a1)), (1, .val (.int .i64 b2)), (4, .val (.bool false)), (5, .val (.int .i64 i6))], [bx 21 []], KK⟩)

noncomputable def r01_letters_J2 (lb : Nat) (n : Nat) (a1 : List UInt8) (b2 : Int) (i15 : Int) : Option CV :=
  hold (E0 lb n 0 998 (sub (B F_r01_letters) [1, 1]) (retK Tryz.prog (R F_r01_letters) 0 (outK (tightF Tryz.prog F_r01_letters))) ⟨fr 21 [(0, .val (.str a1)), (1, .val (.int .i64 b2)), (4, .val (.bool false)), (5, .val (.int .i64 i15))], [bx 21 []], KK⟩)

theorem r01_letters_J2_eq (lb : Nat) (n : Nat) (a1 : List UInt8) (b2 : Int) (i15 : Int) :
  r01_letters_J2 lb n a1 b2 i15 =
 some (.bool ((a1.length : Int) == b2)) := (hold_eq _).trans (by kernel_rfl)

theorem r01_letters_L1_succ (lb : Nat) (n k11 : Nat) (a1 : List UInt8) (b2 : Int) (i6 : Int) :
  r01_letters_L1 lb n (k11 + 1) a1 b2 i6 =
 bif (decide (i6 < (a1.length : Int))) then
 (optO (atS a1 i6) fun c12 =>
 optO (C lb n F_r01_upper [.int .u8 (c12.toNat : Int)]) fun r13 =>
 optO (CV.asB r13) fun b14 =>
 bif (!b14) then
 (some (.bool false))
 else
 (r01_letters_L1 lb n k11 a1 b2 (IntKind.wrap .i64 (i6 + 1))))
 else
 (r01_letters_J2 lb n a1 b2 i6) := (hold_eq _).trans (by kernel_rfl)

theorem r01_letters_eq (lb : Nat) (n : Nat) (a1 : List UInt8) (b2 : Int) :
  top lb n F_r01_letters [.str a1, .int .i64 b2] =
 r01_letters_L1 lb n n a1 b2 0 := by kernel_rfl

/-! airline/airlineref01.upper -/
theorem r01_upper_eq (lb : Nat) (n : Nat) (a1 : Int) :
  top lb n F_r01_upper [.int .u8 a1] =
 bif (decide (a1 ≥ 65)) then
 (some (.bool (decide (a1 ≤ 90))))
 else
 (some (.bool false)) := by kernel_rfl

/-! airline/airlineref01.digit -/
theorem r01_digit_eq (lb : Nat) (n : Nat) (a1 : Int) :
  top lb n F_r01_digit [.int .u8 a1] =
 bif (decide (a1 ≥ 48)) then
 (some (.bool (decide (a1 ≤ 57))))
 else
 (some (.bool false)) := by kernel_rfl

/-! airline/airlineref01.plain -/
noncomputable def r01_plain_L1 (lb : Nat) (n : Nat) (k10 : Nat) (a1 : List UInt8) (i5 : Int) : Option CV :=
  hold (loopC (E0 lb n 0 995) 0 (loopTemps (sub (B F_r01_plain) [1, 0, 1, 0, 0]) ++ []) [] (sub (B F_r01_plain) [1, 0, 1, 0, 0]) (blockK 0 (seqK (E0 lb n 0 998) (sub (B F_r01_plain) [1, 0]) (sub (B F_r01_plain) [1, 1]) (retK Tryz.prog (R F_r01_plain) 0 (outK (tightF Tryz.prog F_r01_plain))))) k10 ⟨fr 28 [(0, .val (.str a1)), (2, .val (.bool false)), (3, .val (.int .i64 i5))], [bx 28 []], KK⟩)

noncomputable def r01_plain_J2 (lb : Nat) (n : Nat) (a1 : List UInt8) (i14 : Int) : Option CV :=
  hold (E0 lb n 0 998 (sub (B F_r01_plain) [1, 1]) (retK Tryz.prog (R F_r01_plain) 0 (outK (tightF Tryz.prog F_r01_plain))) ⟨fr 28 [(0, .val (.str a1)), (2, .val (.bool false)), (3, .val (.int .i64 i14))], [bx 28 []], KK⟩)

theorem r01_plain_J2_eq (lb : Nat) (n : Nat) (a1 : List UInt8) (i14 : Int) :
  r01_plain_J2 lb n a1 i14 =
 some (.bool (!(a1 == []))) := (hold_eq _).trans (by kernel_rfl)

theorem r01_plain_L1_succ (lb : Nat) (n k10 : Nat) (a1 : List UInt8) (i5 : Int) :
  r01_plain_L1 lb n (k10 + 1) a1 i5 =
 bif (decide (i5 < (a1.length : Int))) then
 (optO (atS a1 i5) fun c11 =>
 bif (decide ((c11.toNat : Int) < 33)) then
 (some (.bool false))
 else
 (optO (atS a1 i5) fun c12 =>
 bif (decide ((c12.toNat : Int) > 126)) then
 (some (.bool false))
 else
 (optO (atS a1 i5) fun c13 =>
 bif ((c13.toNat : Int) == 34) then
 (some (.bool false))
 else
 (r01_plain_L1 lb n k10 a1 (IntKind.wrap .i64 (i5 + 1))))))
 else
 (r01_plain_J2 lb n a1 i5) := (hold_eq _).trans (by kernel_rfl)

theorem r01_plain_eq (lb : Nat) (n : Nat) (a1 : List UInt8) :
  top lb n F_r01_plain [.str a1] =
 r01_plain_L1 lb n n a1 0 := by kernel_rfl

/-! airline/airlineref01.Quote -/
noncomputable def r01_Quote_L1 (lb : Nat) (n : Nat) (k24 : Nat) (a1 : List UInt8) (l17 : List (List CV)) (i18 : Int) : Option CV :=
  hold (loopC (E0 lb n 0 994) 0 (loopTemps (sub (B F_r01_Quote) [1, 1, 0, 1, 0, 0]) ++ [5]) [] (sub (B F_r01_Quote) [1, 1, 0, 1, 0, 0]) (blockK 0 (seqK (E0 lb n 0 997) (sub (B F_r01_Quote) [1, 1, 0]) (sub (B F_r01_Quote) [1, 1, 1]) (retK Tryz.prog (R F_r01_Quote) 0 (outK (tightF Tryz.prog F_r01_Quote))))) k24 ⟨fr 48 [(0, .val (.str a1)), (2, .val (.str [])), (3, .lst true false 5 l17), (4, .val (.int .i64 i18)), (6, .val (.list false [[CV.int .u8 34]]))], [bx 48 []], KK⟩)

noncomputable def r01_Quote_J2 (lb : Nat) (n : Nat) (a1 : List UInt8) (b30 : Bool) (l31 : List (List CV)) (i33 : Int) : Option CV :=
  hold (E0 lb n 0 997 (sub (B F_r01_Quote) [1, 1, 1]) (retK Tryz.prog (R F_r01_Quote) 0 (outK (tightF Tryz.prog F_r01_Quote))) ⟨fr 48 [(0, .val (.str a1)), (2, .val (.str [])), (3, .lst true b30 5 l31), (4, .val (.int .i64 i33)), (6, .val (.list false [[CV.int .u8 34]]))], [bx 48 []], KK⟩)

theorem r01_Quote_J2_eq (lb : Nat) (n : Nat) (a1 : List UInt8) (b30 : Bool) (l31 : List (List CV)) (i33 : Int) :
  r01_Quote_J2 lb n a1 b30 l31 i33 =
 chkO (room (l31.length + 1) 1) (
 optO (bytesOf (l31 ++ [[CV.int .u8 34]])) fun s34 =>
 some (.str s34)) := (hold_eq _).trans (by kernel_rfl)

theorem r01_Quote_L1_succ (lb : Nat) (n k24 : Nat) (a1 : List UInt8) (l17 : List (List CV)) (i18 : Int) :
  r01_Quote_L1 lb n (k24 + 1) a1 l17 i18 =
 bif (decide (i18 < (a1.length : Int))) then
 (optO (atS a1 i18) fun c25 =>
 bif (decide ((c25.toNat : Int) < 32)) then
 (optO (atS [48, 49, 50, 51, 52, 53, 54, 55, 56, 57, 97, 98, 99, 100, 101, 102] (IntKind.wrap .u8 (Int.tdiv (c25.toNat : Int) 16))) fun c26 =>
 optO (atS [48, 49, 50, 51, 52, 53, 54, 55, 56, 57, 97, 98, 99, 100, 101, 102] (Int.tmod (c25.toNat : Int) 16)) fun c27 =>
 chkO (room (l17.length + 4) 1) (
 r01_Quote_L1 lb n k24 a1 (l17 ++ [[CV.int .u8 92], [CV.int .u8 120], [CV.int .u8 (c26.toNat : Int)], [CV.int .u8 (c27.toNat : Int)]]) (IntKind.wrap .i64 (i18 + 1))))
 else
 (bif (decide ((c25.toNat : Int) > 126)) then
 (optO (atS [48, 49, 50, 51, 52, 53, 54, 55, 56, 57, 97, 98, 99, 100, 101, 102] (IntKind.wrap .u8 (Int.tdiv (c25.toNat : Int) 16))) fun c28 =>
 optO (atS [48, 49, 50, 51, 52, 53, 54, 55, 56, 57, 97, 98, 99, 100, 101, 102] (Int.tmod (c25.toNat : Int) 16)) fun c29 =>
 chkO (room (l17.length + 4) 1) (
 r01_Quote_L1 lb n k24 a1 (l17 ++ [[CV.int .u8 92], [CV.int .u8 120], [CV.int .u8 (c28.toNat : Int)], [CV.int .u8 (c29.toNat : Int)]]) (IntKind.wrap .i64 (i18 + 1))))
 else
 (bif ((c25.toNat : Int) == 34) then
 (chkO (room (l17.length + 1) 1) (
 chkO (room ((l17 ++ [[CV.int .u8 92]]).length + 1) 1) (
 r01_Quote_L1 lb n k24 a1 ((l17 ++ [[CV.int .u8 92]]) ++ [[CV.int .u8 (c25.toNat : Int)]]) (IntKind.wrap .i64 (i18 + 1)))))
 else
 (bif ((c25.toNat : Int) == 92) then
 (chkO (room (l17.length + 1) 1) (
 chkO (room ((l17 ++ [[CV.int .u8 92]]).length + 1) 1) (
 r01_Quote_L1 lb n k24 a1 ((l17 ++ [[CV.int .u8 92]]) ++ [[CV.int .u8 (c25.toNat : Int)]]) (IntKind.wrap .i64 (i18 + 1)))))
 else
 (chkO (room (l17.length + 1) 1) (
 r01_Quote_L1 lb n k24 a1 (l17 ++ [[CV.int .u8 (c25.toNat : Int)]]) (IntKind.wrap .i64 (i18 + 1))))))))
 else
 (r01_Quote_J2 lb n a1 false l17 i18) := (hold_eq _).trans (by kernel_rfl)

theorem r01_Quote_eq (lb : Nat) (n : Nat) (a1 : List UInt8) :
  top lb n F_r01_Quote [.str a1] =
 r01_Quote_L1 lb n n a1 [[CV.int .u8 34]] 0 := by kernel_rfl

/-! airline/text.cut -/
noncomputable def text_cut_L1 (lb : Nat) (n : Nat) (k65 : Nat) (a1 : List UInt8) (b58 : Bool) (l59 : List (List CV)) (i60 : Int) (b61 : Bool) (b62 : Bool) (p63 : Nat) : Option CV :=
  hold (loopC (E0 lb n 0 991) 0 (loopTemps (sub (B F_text_cut) [1, 0, 1, 1, 1, 0, 1, 0, 0]) ++ [8, 9, 16, 23, 25, 31, 36]) [] (sub (B F_text_cut) [1, 0, 1, 1, 1, 0, 1, 0, 0]) (blockK 0 (seqK (E0 lb n 0 994) (sub (B F_text_cut) [1, 0, 1, 1, 1, 0]) (sub (B F_text_cut) [1, 0, 1, 1, 1, 1]) (retK Tryz.prog (R F_text_cut) 0 (outK (tightF Tryz.prog F_text_cut))))) k65 ⟨fr 58 [(0, .val (.str a1)), (2, .lst true true 9 []), (3, .val (.bool false)), (4, .lst true b58 9 l59), (5, .val (.int .i64 i60)), (6, .val (.bool b61)), (7, .val (.bool b62)), (10, .val (.str a1)), (11, .siter a1 p63)], [bx 58 []], KK⟩)

noncomputable def text_cut_J2 (lb : Nat) (n : Nat) (a1 : List UInt8) (b66 : Bool) (l67 : List (List CV)) (i68 : Int) (b69 : Bool) (b70 : Bool) : Option CV :=
  hold (E0 lb n 0 994 (sub (B F_text_cut) [1, 0, 1, 1, 1, 1]) (retK Tryz.prog (R F_text_cut) 0 (outK (tightF Tryz.prog F_text_cut))) ⟨fr 58 [(0, .val (.str a1)), (2, .lst true true 9 []), (3, .val (.bool false)), (4, .lst true b66 9 l67), (5, .val (.int .i64 i68)), (6, .val (.bool b69)), (7, .val (.bool b70))], [bx 58 []], KK⟩)

theorem text_cut_J2_eq (lb : Nat) (n : Nat) (a1 : List UInt8) (b66 : Bool) (l67 : List (List CV)) (i68 : Int) (b69 : Bool) (b70 : Bool) :
  text_cut_J2 lb n a1 b66 l67 i68 b69 b70 =
 chkO (decide ((0 : Int) ≤ i68 ∧ i68 ≤ (a1.length : Int))) (
 chkO (room (l67.length + 1) 16) (
 some (.tup [.list (b66 && false) (l67 ++ [[CV.str ((a1.take ((a1.length : Int).toNat)).drop i68.toNat)]]), .bool true]))) := (hold_eq _).trans (by kernel_rfl)

theorem text_cut_L1_succ (lb : Nat) (n k65 : Nat) (a1 : List UInt8) (b58 : Bool) (l59 : List (List CV)) (i60 : Int) (b61 : Bool) (b62 : Bool) (p63 : Nat) :
  text_cut_L1 lb n (k65 + 1) a1 b58 l59 i60 b61 b62 p63 =
 bif (decide (p63 < a1.length)) then
 (bif (decide ((((Utf8.decode ⟨a1.toArray⟩ p63).1 : Nat) : Int) < 32)) then
 (some (.tup [.list true [], .bool false]))
 else
 (bif (decide ((((Utf8.decode ⟨a1.toArray⟩ p63).1 : Nat) : Int) > 126)) then
 (some (.tup [.list true [], .bool false]))
 else
 (bif b62 then
 (text_cut_L1 lb n k65 a1 b58 l59 i60 b61 false (p63 + (Utf8.decode ⟨a1.toArray⟩ p63).2))
 else
 (bif b61 then
 (bif ((((Utf8.decode ⟨a1.toArray⟩ p63).1 : Nat) : Int) == 92) then
 (text_cut_L1 lb n k65 a1 b58 l59 i60 b61 true (p63 + (Utf8.decode ⟨a1.toArray⟩ p63).2))
 else
 (bif ((((Utf8.decode ⟨a1.toArray⟩ p63).1 : Nat) : Int) == 34) then
 (text_cut_L1 lb n k65 a1 b58 l59 i60 (!b61) b62 (p63 + (Utf8.decode ⟨a1.toArray⟩ p63).2))
 else
 (bif ((((Utf8.decode ⟨a1.toArray⟩ p63).1 : Nat) : Int) == 32) then
 (bif (!b61) then
 (chkO (decide ((0 : Int) ≤ ((p63 : Nat) : Int) ∧ ((p63 : Nat) : Int) ≤ (a1.length : Int))) (
 chkO (decide ((0 : Int) ≤ i60 ∧ i60 ≤ ((p63 : Nat) : Int))) (
 chkO (room (l59.length + 1) 16) (
 text_cut_L1 lb n k65 a1 (b58 && false) (l59 ++ [[CV.str ((a1.take (((p63 : Nat) : Int).toNat)).drop i60.toNat)]]) (IntKind.wrap .i64 (((p63 : Nat) : Int) + 1)) b61 b62 (p63 + (Utf8.decode ⟨a1.toArray⟩ p63).2)))))
 else
 (text_cut_L1 lb n k65 a1 b58 l59 i60 b61 b62 (p63 + (Utf8.decode ⟨a1.toArray⟩ p63).2)))
 else
 (text_cut_L1 lb n k65 a1 b58 l59 i60 b61 b62 (p63 + (Utf8.decode ⟨a1.toArray⟩ p63).2)))))
 else
 (bif ((((Utf8.decode ⟨a1.toArray⟩ p63).1 : Nat) : Int) == 34) then
 (text_cut_L1 lb n k65 a1 b58 l59 i60 (!b61) b62 (p63 + (Utf8.decode ⟨a1.toArray⟩ p63).2))
 else
 (bif ((((Utf8.decode ⟨a1.toArray⟩ p63).1 : Nat) : Int) == 32) then
 (bif (!b61) then
 (chkO (decide ((0 : Int) ≤ ((p63 : Nat) : Int) ∧ ((p63 : Nat) : Int) ≤ (a1.length : Int))) (
 chkO (decide ((0 : Int) ≤ i60 ∧ i60 ≤ ((p63 : Nat) : Int))) (
 chkO (room (l59.length + 1) 16) (
 text_cut_L1 lb n k65 a1 (b58 && false) (l59 ++ [[CV.str ((a1.take (((p63 : Nat) : Int).toNat)).drop i60.toNat)]]) (IntKind.wrap .i64 (((p63 : Nat) : Int) + 1)) b61 b62 (p63 + (Utf8.decode ⟨a1.toArray⟩ p63).2)))))
 else
 (text_cut_L1 lb n k65 a1 b58 l59 i60 b61 b62 (p63 + (Utf8.decode ⟨a1.toArray⟩ p63).2)))
 else
 (text_cut_L1 lb n k65 a1 b58 l59 i60 b61 b62 (p63 + (Utf8.decode ⟨a1.toArray⟩ p63).2))))))))
 else
 (text_cut_J2 lb n a1 b58 l59 i60 b61 b62) := (hold_eq _).trans (by kernel_rfl)

theorem text_cut_eq (lb : Nat) (n : Nat) (a1 : List UInt8) :
  top lb n F_text_cut [.str a1] =
 text_cut_L1 lb n n a1 true [] 0 false false 0 := by kernel_rfl

/-! airline/text.Unquote -/
noncomputable def text_Unquote_L1 (lb : Nat) (n : Nat) (k26 : Nat) (a1 : List UInt8) (l15 : List (List CV)) (i17 : Int) : Option CV :=
  hold (loopC (E0 lb n 0 992) 0 (loopTemps (sub (B F_text_Unquote) [1, 1, 1, 1, 0, 1, 0, 0]) ++ [7, 8, 9, 7]) [] (sub (B F_text_Unquote) [1, 1, 1, 1, 0, 1, 0, 0]) (blockK 0 (seqK (E0 lb n 0 995) (sub (B F_text_Unquote) [1, 1, 1, 1, 0]) (sub (B F_text_Unquote) [1, 1, 1, 1, 1]) (retK Tryz.prog (R F_text_Unquote) 0 (outK (tightF Tryz.prog F_text_Unquote))))) k26 ⟨fr 75 [(0, .val (.str a1)), (2, .val (.str [])), (3, .val (.int .i64 0)), (4, .val (.str ((a1.take ((IntKind.wrap .i64 ((a1.length : Int) - 1)).toNat)).drop 1))), (5, .lst true false 5 l15), (6, .val (.int .i64 i17)), (26, .val (.str a1)), (27, .val (.str a1)), (28, .val (.int .i64 (a1.length : Int))), (29, .val (.int .i64 (IntKind.wrap .i64 ((a1.length : Int) - 1)))), (30, .val (.str ((a1.take ((IntKind.wrap .i64 ((a1.length : Int) - 1)).toNat)).drop 1))), (31, .val (.str ((a1.take ((IntKind.wrap .i64 ((a1.length : Int) - 1)).toNat)).drop 1))), (32, .val (.int .i64 (((a1.take ((IntKind.wrap .i64 ((a1.length : Int) - 1)).toNat)).drop 1).length : Int))), (33, .val (.list false []))], [bx 75 []], KK⟩)

noncomputable def text_Unquote_J2 (lb : Nat) (n : Nat) (a1 : List UInt8) (b36 : Bool) (l37 : List (List CV)) (i38 : Int) : Option CV :=
  hold (E0 lb n 0 995 (sub (B F_text_Unquote) [1, 1, 1, 1, 1]) (retK Tryz.prog (R F_text_Unquote) 0 (outK (tightF Tryz.prog F_text_Unquote))) ⟨fr 75 [(0, .val (.str a1)), (2, .val (.str [])), (3, .val (.int .i64 0)), (4, .val (.str ((a1.take ((IntKind.wrap .i64 ((a1.length : Int) - 1)).toNat)).drop 1))), (5, .lst true b36 5 l37), (6, .val (.int .i64 i38)), (26, .val (.str a1)), (27, .val (.str a1)), (28, .val (.int .i64 (a1.length : Int))), (29, .val (.int .i64 (IntKind.wrap .i64 ((a1.length : Int) - 1)))), (30, .val (.str ((a1.take ((IntKind.wrap .i64 ((a1.length : Int) - 1)).toNat)).drop 1))), (31, .val (.str ((a1.take ((IntKind.wrap .i64 ((a1.length : Int) - 1)).toNat)).drop 1))), (32, .val (.int .i64 (((a1.take ((IntKind.wrap .i64 ((a1.length : Int) - 1)).toNat)).drop 1).length : Int))), (33, .val (.list false []))], [bx 75 []], KK⟩)

theorem text_Unquote_J2_eq (lb : Nat) (n : Nat) (a1 : List UInt8) (b36 : Bool) (l37 : List (List CV)) (i38 : Int) :
  text_Unquote_J2 lb n a1 b36 l37 i38 =
 optO (bytesOf l37) fun s39 =>
 some (.tup [.str s39, .int .i64 0]) := (hold_eq _).trans (by kernel_rfl)

theorem text_Unquote_L1_succ (lb : Nat) (n k26 : Nat) (a1 : List UInt8) (l15 : List (List CV)) (i17 : Int) :
  text_Unquote_L1 lb n (k26 + 1) a1 l15 i17 =
 bif (decide (i17 < (((a1.take ((IntKind.wrap .i64 ((a1.length : Int) - 1)).toNat)).drop 1).length : Int))) then
 (optO (atS ((a1.take ((IntKind.wrap .i64 ((a1.length : Int) - 1)).toNat)).drop 1) i17) fun c27 =>
 bif ((c27.toNat : Int) == 34) then
 (some (.tup [.str [], .int .i64 3]))
 else
 (bif (decide ((c27.toNat : Int) < 32)) then
 (some (.tup [.str [], .int .i64 3]))
 else
 (bif (decide ((c27.toNat : Int) > 126)) then
 (some (.tup [.str [], .int .i64 3]))
 else
 (bif ((c27.toNat : Int) == 92) then
 (chkO (decide ((0 : Int) ≤ (IntKind.wrap .i64 (i17 + 1)) ∧ (IntKind.wrap .i64 (i17 + 1)) ≤ (((a1.take ((IntKind.wrap .i64 ((a1.length : Int) - 1)).toNat)).drop 1).length : Int))) (
 optO (C lb n F_text_escape [.str ((((a1.take ((IntKind.wrap .i64 ((a1.length : Int) - 1)).toNat)).drop 1).take ((((a1.take ((IntKind.wrap .i64 ((a1.length : Int) - 1)).toNat)).drop 1).length : Int).toNat)).drop ((IntKind.wrap .i64 (i17 + 1)).toNat))]) fun r28 =>
 optO (CV.asT r28) fun t29 =>
 optO (t29[0]?) fun x30 =>
 optO (CV.asT r28) fun t31 =>
 optO (t31[1]?) fun x33 =>
 optO (CV.asI .i64 x33) fun i34 =>
 bif (i34 == 0) then
 (some (.tup [.str [], .int .i64 3]))
 else
 (optO (CV.asI .i64 x33) fun i35 =>
 chkO (CV.isCell x30) (
 chkO (room (l15.length + 1) 1) (
 text_Unquote_L1 lb n k26 a1 (l15 ++ [[x30]]) (IntKind.wrap .i64 ((IntKind.wrap .i64 (i17 + i35)) + 1)))))))
 else
 (chkO (room (l15.length + 1) 1) (
 text_Unquote_L1 lb n k26 a1 (l15 ++ [[CV.int .u8 (c27.toNat : Int)]]) (IntKind.wrap .i64 (i17 + 1))))))))
 else
 (text_Unquote_J2 lb n a1 false l15 i17) := (hold_eq _).trans (by kernel_rfl)

theorem text_Unquote_eq (lb : Nat) (n : Nat) (a1 : List UInt8) :
  top lb n F_text_Unquote [.str a1] =
 bif (decide ((a1.length : Int) < 2)) then
 (some (.tup [.str [], .int .i64 3]))
 else
 (optO (atS a1 0) fun c2 =>
 bif ((c2.toNat : Int) != 34) then
 (some (.tup [.str [], .int .i64 3]))
 else
 (optO (atS a1 (IntKind.wrap .i64 ((a1.length : Int) - 1))) fun c3 =>
 bif ((c3.toNat : Int) != 34) then
 (some (.tup [.str [], .int .i64 3]))
 else
 (chkO (decide ((0 : Int) ≤ (IntKind.wrap .i64 ((a1.length : Int) - 1)) ∧ (IntKind.wrap .i64 ((a1.length : Int) - 1)) ≤ (a1.length : Int))) (
 chkO (decide ((0 : Int) ≤ 1 ∧ 1 ≤ (IntKind.wrap .i64 ((a1.length : Int) - 1)))) (
 chkO (decide (0 ≤ (0 : Int)) && decide ((0 : Int) ≤ ((((a1.take ((IntKind.wrap .i64 ((a1.length : Int) - 1)).toNat)).drop 1).length : Int) : Int)) && decide (((((a1.take ((IntKind.wrap .i64 ((a1.length : Int) - 1)).toNat)).drop 1).length : Int) : Int) * 1 ≤ 140737488355328) && decide (((((a1.take ((IntKind.wrap .i64 ((a1.length : Int) - 1)).toNat)).drop 1).length : Int) : Int) ≤ 140737488355328)) (
 text_Unquote_L1 lb n n a1 [] 0)))))) := by kernel_rfl

/-! airline/text.digit -/
theorem text_digit_eq (lb : Nat) (n : Nat) (a1 : Int) :
  top lb n F_text_digit [.int .u8 a1] =
 bif (decide (a1 ≥ 48)) then
 (some (.bool (decide (a1 ≤ 57))))
 else
 (some (.bool false)) := by kernel_rfl

/-! airline/airlineref01.end -/
noncomputable def r01_end_L1 (lb : Nat) (n : Nat) (k11 : Nat) (a1 : List UInt8) (b2 : Int) (c3 : UInt8) (i7 : Int) : Option CV :=
  hold (loopC (E0 lb n 0 991) 0 (loopTemps (sub (B F_r01_end) [1, 1, 0, 1, 0, 1, 0, 0, 0]) ++ []) [] (sub (B F_r01_end) [1, 1, 0, 1, 0, 1, 0, 0, 0]) (blockK 0 (seqK (E0 lb n 0 993) (sub (B F_r01_end) [1, 1, 0, 1, 0, 1, 0]) (sub (B F_r01_end) [1, 1, 0, 1, 0, 1, 1]) (condK (sub (B F_r01_end) [1, 1, 0, 1, 0]) (sub (B F_r01_end) [1, 1, 0, 1, 1]) (seqK (E0 lb n 0 997) (sub (B F_r01_end) [1, 1, 0]) (sub (B F_r01_end) [1, 1, 1]) (retK Tryz.prog (R F_r01_end) 0 (outK (tightF Tryz.prog F_r01_end))))))) k11 ⟨fr 58 [(0, .val (.str a1)), (1, .val (.int .i64 b2)), (4, .val (.int .i64 0)), (5, .val (.int .i64 i7)), (6, .val (.int .i64 b2)), (7, .val (.int .i64 b2)), (8, .val (.str a1)), (9, .val (.int .i64 (a1.length : Int))), (10, .val (.bool (decide (b2 < (a1.length : Int))))), (11, .val (.bool true)), (12, .val (.str a1)), (13, .val (.int .i64 b2)), (14, .val (.int .u8 (c3.toNat : Int))), (15, .val (.bool ((c3.toNat : Int) == 34))), (16, .val (.bool ((c3.toNat : Int) == 34))), (17, .val (.int .i64 b2)), (18, .val (.int .i64 (IntKind.wrap .i64 (b2 + 1))))], [bx 58 []], KK⟩)

noncomputable def r01_end_J2 (lb : Nat) (n : Nat) (a1 : List UInt8) (b2 : Int) (c3 : UInt8) (i14 : Int) : Option CV :=
  hold (E0 lb n 0 993 (sub (B F_r01_end) [1, 1, 0, 1, 0, 1, 1]) (condK (sub (B F_r01_end) [1, 1, 0, 1, 0]) (sub (B F_r01_end) [1, 1, 0, 1, 1]) (seqK (E0 lb n 0 997) (sub (B F_r01_end) [1, 1, 0]) (sub (B F_r01_end) [1, 1, 1]) (retK Tryz.prog (R F_r01_end) 0 (outK (tightF Tryz.prog F_r01_end))))) ⟨fr 58 [(0, .val (.str a1)), (1, .val (.int .i64 b2)), (4, .val (.int .i64 0)), (5, .val (.int .i64 i14)), (6, .val (.int .i64 b2)), (7, .val (.int .i64 b2)), (8, .val (.str a1)), (9, .val (.int .i64 (a1.length : Int))), (10, .val (.bool (decide (b2 < (a1.length : Int))))), (11, .val (.bool true)), (12, .val (.str a1)), (13, .val (.int .i64 b2)), (14, .val (.int .u8 (c3.toNat : Int))), (15, .val (.bool ((c3.toNat : Int) == 34))), (16, .val (.bool ((c3.toNat : Int) == 34))), (17, .val (.int .i64 b2)), (18, .val (.int .i64 (IntKind.wrap .i64 (b2 + 1))))], [bx 58 []], KK⟩)

theorem r01_end_J2_eq (lb : Nat) (n : Nat) (a1 : List UInt8) (b2 : Int) (c3 : UInt8) (i14 : Int) :
  r01_end_J2 lb n a1 b2 c3 i14 =
 bif (decide (i14 ≥ (a1.length : Int))) then
 (some (.int .i64 (a1.length : Int)))
 else
 (some (.int .i64 (IntKind.wrap .i64 (i14 + 1)))) := (hold_eq _).trans (by kernel_rfl)

theorem r01_end_L1_succ (lb : Nat) (n k11 : Nat) (a1 : List UInt8) (b2 : Int) (c3 : UInt8) (i7 : Int) :
  r01_end_L1 lb n (k11 + 1) a1 b2 c3 i7 =
 bif (decide (i7 < (a1.length : Int))) then
 (optO (atS a1 i7) fun c12 =>
 bif ((c12.toNat : Int) != 34) then
 (optO (atS a1 i7) fun c13 =>
 bif ((c13.toNat : Int) == 92) then
 (r01_end_L1 lb n k11 a1 b2 c3 (IntKind.wrap .i64 ((IntKind.wrap .i64 (i7 + 1)) + 1)))
 else
 (r01_end_L1 lb n k11 a1 b2 c3 (IntKind.wrap .i64 (i7 + 1))))
 else
 (r01_end_J2 lb n a1 b2 c3 i7))
 else
 (r01_end_J2 lb n a1 b2 c3 i7) := (hold_eq _).trans (by kernel_rfl)

noncomputable def r01_end_J3 (lb : Nat) (n : Nat) (a1 : List UInt8) (b2 : Int) : Option CV :=
  hold (E0 lb n 0 997 (sub (B F_r01_end) [1, 1, 1]) (retK Tryz.prog (R F_r01_end) 0 (outK (tightF Tryz.prog F_r01_end))) ⟨fr 58 [(0, .val (.str a1)), (1, .val (.int .i64 b2)), (4, .val (.int .i64 0)), (5, .val (.int .i64 b2)), (6, .val (.int .i64 b2))], [bx 58 []], KK⟩)

noncomputable def r01_end_L4 (lb : Nat) (n : Nat) (k19 : Nat) (a1 : List UInt8) (b2 : Int) (i17 : Int) : Option CV :=
  hold (loopC (E0 lb n 0 994) 0 (loopTemps (sub (B F_r01_end) [1, 1, 1, 0, 0, 0]) ++ []) [] (sub (B F_r01_end) [1, 1, 1, 0, 0, 0]) (blockK 2 (seqK (E0 lb n 0 996) (sub (B F_r01_end) [1, 1, 1, 0]) (sub (B F_r01_end) [1, 1, 1, 1]) (retK Tryz.prog (R F_r01_end) 0 (outK (tightF Tryz.prog F_r01_end))))) k19 ⟨fr 58 [(0, .val (.str a1)), (1, .val (.int .i64 b2)), (4, .val (.int .i64 0)), (5, .val (.int .i64 i17)), (6, .val (.int .i64 b2))], [bx 58 []], KK⟩)

noncomputable def r01_end_J5 (lb : Nat) (n : Nat) (a1 : List UInt8) (b2 : Int) (i21 : Int) : Option CV :=
  hold (E0 lb n 0 996 (sub (B F_r01_end) [1, 1, 1, 1]) (retK Tryz.prog (R F_r01_end) 0 (outK (tightF Tryz.prog F_r01_end))) ⟨fr 58 [(0, .val (.str a1)), (1, .val (.int .i64 b2)), (4, .val (.int .i64 0)), (5, .val (.int .i64 i21)), (6, .val (.int .i64 b2))], [bx 58 []], KK⟩)

theorem r01_end_J5_eq (lb : Nat) (n : Nat) (a1 : List UInt8) (b2 : Int) (i21 : Int) :
  r01_end_J5 lb n a1 b2 i21 =
 some (.int .i64 i21) := (hold_eq _).trans (by kernel_rfl)

theorem r01_end_L4_succ (lb : Nat) (n k19 : Nat) (a1 : List UInt8) (b2 : Int) (i17 : Int) :
  r01_end_L4 lb n (k19 + 1) a1 b2 i17 =
 bif (decide (i17 < (a1.length : Int))) then
 (optO (atS a1 i17) fun c20 =>
 bif ((c20.toNat : Int) != 32) then
 (r01_end_L4 lb n k19 a1 b2 (IntKind.wrap .i64 (i17 + 1)))
 else
 (r01_end_J5 lb n a1 b2 i17))
 else
 (r01_end_J5 lb n a1 b2 i17) := (hold_eq _).trans (by kernel_rfl)

theorem r01_end_J3_eq (lb : Nat) (n : Nat) (a1 : List UInt8) (b2 : Int) :
  r01_end_J3 lb n a1 b2 =
 r01_end_L4 lb n n a1 b2 b2 := (hold_eq _).trans (by kernel_rfl)

theorem r01_end_eq (lb : Nat) (n : Nat) (a1 : List UInt8) (b2 : Int) :
  top lb n F_r01_end [.str a1, .int .i64 b2] =
 bif (decide (b2 < (a1.length : Int))) then
 (optO (atS a1 b2) fun c3 =>
 bif ((c3.toNat : Int) == 34) then
 (r01_end_L1 lb n n a1 b2 c3 (IntKind.wrap .i64 (b2 + 1)))
 else
 (r01_end_J3 lb n a1 b2 ))
 else
 (r01_end_J3 lb n a1 b2 ) := by kernel_rfl

/-! airline/airlineref01.Unquote -/
noncomputable def r01_Unquote_L1 (lb : Nat) (n : Nat) (k46 : Nat) (a1 : List UInt8) (b26 : Bool) (l27 : List (List CV)) (i28 : Int) : Option CV :=
  hold (loopC (E0 lb n 0 994) 0 (loopTemps (sub (B F_r01_Unquote) [1, 1, 0, 1, 0, 0]) ++ []) [] (sub (B F_r01_Unquote) [1, 1, 0, 1, 0, 0]) (blockK 0 (seqK (E0 lb n 0 997) (sub (B F_r01_Unquote) [1, 1, 0]) (sub (B F_r01_Unquote) [1, 1, 1]) (retK Tryz.prog (R F_r01_Unquote) 0 (outK (tightF Tryz.prog F_r01_Unquote))))) k46 ⟨fr 81 [(0, .val (.str a1)), (2, .val (.str [])), (3, .val (.int .i64 0)), (4, .lst true b26 5 l27), (5, .val (.int .i64 i28))], [bx 81 []], KK⟩)

noncomputable def r01_Unquote_J2 (lb : Nat) (n : Nat) (a1 : List UInt8) (b63 : Bool) (l65 : List (List CV)) (i66 : Int) : Option CV :=
  hold (E0 lb n 0 997 (sub (B F_r01_Unquote) [1, 1, 1]) (retK Tryz.prog (R F_r01_Unquote) 0 (outK (tightF Tryz.prog F_r01_Unquote))) ⟨fr 81 [(0, .val (.str a1)), (2, .val (.str [])), (3, .val (.int .i64 0)), (4, .lst true b63 5 l65), (5, .val (.int .i64 i66))], [bx 81 []], KK⟩)

theorem r01_Unquote_J2_eq (lb : Nat) (n : Nat) (a1 : List UInt8) (b63 : Bool) (l65 : List (List CV)) (i66 : Int) :
  r01_Unquote_J2 lb n a1 b63 l65 i66 =
 optO (bytesOf l65) fun s67 =>
 optO (C lb n F_r01_Quote [.str s67]) fun r68 =>
 optO (CV.asS r68) fun s69 =>
 bif (!(s69 == a1)) then
 (some (.tup [.str [], .int .i64 3]))
 else
 (optO (bytesOf l65) fun s70 =>
 some (.tup [.str s70, .int .i64 0])) := (hold_eq _).trans (by kernel_rfl)

theorem r01_Unquote_L1_succ (lb : Nat) (n k46 : Nat) (a1 : List UInt8) (b26 : Bool) (l27 : List (List CV)) (i28 : Int) :
  r01_Unquote_L1 lb n (k46 + 1) a1 b26 l27 i28 =
 bif (decide (i28 < (IntKind.wrap .i64 ((a1.length : Int) - 1)))) then
 (optO (atS a1 i28) fun c47 =>
 bif ((c47.toNat : Int) != 92) then
 (optO (atS a1 i28) fun c48 =>
 chkO (room (l27.length + 1) 1) (
 r01_Unquote_L1 lb n k46 a1 (b26 && false) (l27 ++ [[CV.int .u8 (c48.toNat : Int)]]) (IntKind.wrap .i64 (i28 + 1))))
 else
 (optO (atS a1 (IntKind.wrap .i64 (i28 + 1))) fun c49 =>
 bif ((c49.toNat : Int) != 120) then
 (optO (atS a1 (IntKind.wrap .i64 (i28 + 1))) fun c50 =>
 chkO (room (l27.length + 1) 1) (
 r01_Unquote_L1 lb n k46 a1 (b26 && false) (l27 ++ [[CV.int .u8 (c50.toNat : Int)]]) (IntKind.wrap .i64 ((IntKind.wrap .i64 (i28 + 1)) + 1))))
 else
 (bif (decide ((IntKind.wrap .i64 ((IntKind.wrap .i64 (i28 + 1)) + 2)) ≥ (a1.length : Int))) then
 (some (.tup [.str [], .int .i64 3]))
 else
 (optO (atS a1 (IntKind.wrap .i64 ((IntKind.wrap .i64 (i28 + 1)) + 1))) fun c51 =>
 optO (C lb n F_r01_hex [.int .u8 (c51.toNat : Int)]) fun r52 =>
 optO (CV.asI .i64 r52) fun i53 =>
 bif (decide (i53 < 0)) then
 (some (.tup [.str [], .int .i64 3]))
 else
 (optO (atS a1 (IntKind.wrap .i64 ((IntKind.wrap .i64 (i28 + 1)) + 2))) fun c54 =>
 optO (C lb n F_r01_hex [.int .u8 (c54.toNat : Int)]) fun r55 =>
 optO (CV.asI .i64 r55) fun i56 =>
 bif (decide (i56 < 0)) then
 (some (.tup [.str [], .int .i64 3]))
 else
 (optO (atS a1 (IntKind.wrap .i64 ((IntKind.wrap .i64 (i28 + 1)) + 1))) fun c57 =>
 optO (C lb n F_r01_hex [.int .u8 (c57.toNat : Int)]) fun r58 =>
 optO (CV.asI .i64 r58) fun i59 =>
 optO (atS a1 (IntKind.wrap .i64 ((IntKind.wrap .i64 (i28 + 1)) + 2))) fun c60 =>
 optO (C lb n F_r01_hex [.int .u8 (c60.toNat : Int)]) fun r61 =>
 optO (CV.asI .i64 r61) fun i62 =>
 chkO (room (l27.length + 1) 1) (
 r01_Unquote_L1 lb n k46 a1 (b26 && false) (l27 ++ [[CV.int .u8 (IntKind.wrap .u8 (IntKind.wrap .i64 ((IntKind.wrap .i64 (16 * i59)) + i62)))]]) (IntKind.wrap .i64 ((IntKind.wrap .i64 ((IntKind.wrap .i64 (i28 + 1)) + 2)) + 1)))))))))
 else
 (r01_Unquote_J2 lb n a1 b26 l27 i28) := (hold_eq _).trans (by kernel_rfl)

theorem r01_Unquote_eq (lb : Nat) (n : Nat) (a1 : List UInt8) :
  top lb n F_r01_Unquote [.str a1] =
 r01_Unquote_L1 lb n n a1 true [] 1 := by kernel_rfl

/-! airline/text.Code$1 -/
theorem text_Code_1_eq (lb : Nat) (n : Nat) (a1 : Int) :
  top lb n F_text_Code_1 [.int .u8 a1] =
 optO (C lb n F_text_capital [.int .u8 a1]) fun r2 =>
 optO (CV.asB r2) fun b3 =>
 bif b3 then
 (some (.bool true))
 else
 (optO (C lb n F_text_digit [.int .u8 a1]) fun r4 =>
 some (r4)) := by kernel_rfl

/-! airline/text.capital -/
theorem text_capital_eq (lb : Nat) (n : Nat) (a1 : Int) :
  top lb n F_text_capital [.int .u8 a1] =
 bif (decide (a1 ≥ 65)) then
 (some (.bool (decide (a1 ≤ 90))))
 else
 (some (.bool false)) := by kernel_rfl

/-! airline/airlineref01.Country -/
/-! airline/text.plain$1 -/
theorem text_plain_1_eq (lb : Nat) (n : Nat) (a1 : Int) :
  top lb n F_text_plain_1 [.int .u8 a1] =
 bif (decide (a1 > 32)) then
 (bif (decide (a1 ≤ 126)) then
 (some (.bool (a1 != 34)))
 else
 (some (.bool false)))
 else
 (some (.bool false)) := by kernel_rfl

/-! airline/text.escape -/
theorem text_escape_eq (lb : Nat) (n : Nat) (a1 : List UInt8) :
  top lb n F_text_escape [.str a1] =
 bif (a1 == []) then
 (some (.tup [.int .u8 0, .int .i64 0]))
 else
 (optO (atS a1 0) fun c2 =>
 bif ((c2.toNat : Int) == 34) then
 (optO (atS a1 0) fun c3 =>
 some (.tup [.int .u8 (c3.toNat : Int), .int .i64 1]))
 else
 (optO (atS a1 0) fun c4 =>
 bif ((c4.toNat : Int) == 92) then
 (optO (atS a1 0) fun c5 =>
 some (.tup [.int .u8 (c5.toNat : Int), .int .i64 1]))
 else
 (optO (atS a1 0) fun c6 =>
 bif ((c6.toNat : Int) != 120) then
 (some (.tup [.int .u8 0, .int .i64 0]))
 else
 (bif (decide ((a1.length : Int) < 3)) then
 (some (.tup [.int .u8 0, .int .i64 0]))
 else
 (optO (atS a1 1) fun c7 =>
 optO (C lb n F_strings_IndexByte [.str [48, 49, 50, 51, 52, 53, 54, 55, 56, 57, 97, 98, 99, 100, 101, 102], .int .u8 (c7.toNat : Int)]) fun r9 =>
 optO (atS a1 2) fun c10 =>
 optO (C lb n F_strings_IndexByte [.str [48, 49, 50, 51, 52, 53, 54, 55, 56, 57, 97, 98, 99, 100, 101, 102], .int .u8 (c10.toNat : Int)]) fun r11 =>
 optO (CV.asI .i64 r9) fun i12 =>
 bif (decide (i12 < 0)) then
 (some (.tup [.int .u8 0, .int .i64 0]))
 else
 (optO (CV.asI .i64 r11) fun i13 =>
 bif (decide (i13 < 0)) then
 (some (.tup [.int .u8 0, .int .i64 0]))
 else
 (optO (CV.asI .i64 r9) fun i14 =>
 optO (CV.asI .i64 r11) fun i15 =>
 bif (decide ((IntKind.wrap .u8 (IntKind.wrap .i64 ((BitVec.ofInt 64 (IntKind.wrap .i64 (i14 * 2 ^ 4)) ||| BitVec.ofInt 64 i15).toNat))) ≥ 32)) then
 (bif (decide ((IntKind.wrap .u8 (IntKind.wrap .i64 ((BitVec.ofInt 64 (IntKind.wrap .i64 (i14 * 2 ^ 4)) ||| BitVec.ofInt 64 i15).toNat))) ≤ 126)) then
 (some (.tup [.int .u8 0, .int .i64 0]))
 else
 (some (.tup [.int .u8 (IntKind.wrap .u8 (IntKind.wrap .i64 ((BitVec.ofInt 64 (IntKind.wrap .i64 (i14 * 2 ^ 4)) ||| BitVec.ofInt 64 i15).toNat))), .int .i64 3])))
 else
 (some (.tup [.int .u8 (IntKind.wrap .u8 (IntKind.wrap .i64 ((BitVec.ofInt 64 (IntKind.wrap .i64 (i14 * 2 ^ 4)) ||| BitVec.ofInt 64 i15).toNat))), .int .i64 3]))))))))) := by kernel_rfl

/-! airline/airlineref01.hex -/
noncomputable def r01_hex_L1 (lb : Nat) (n : Nat) (k4 : Nat) (a1 : Int) (i2 : Int) : Option CV :=
  hold (loopC (E0 lb n 0 995) 0 (loopTemps (sub (B F_r01_hex) [1, 0, 1, 0, 0]) ++ []) [] (sub (B F_r01_hex) [1, 0, 1, 0, 0]) (blockK 0 (seqK (E0 lb n 0 998) (sub (B F_r01_hex) [1, 0]) (sub (B F_r01_hex) [1, 1]) (retK Tryz.prog (R F_r01_hex) 0 (outK (tightF Tryz.prog F_r01_hex))))) k4 ⟨fr 13 [(0, .val (.int .u8 a1)), (2, .val (.int .i64 0)), (3, .val (.int .i64 i2))], [bx 13 []], KK⟩)

noncomputable def r01_hex_J2 (lb : Nat) (n : Nat) (a1 : Int) (i6 : Int) : Option CV :=
  hold (E0 lb n 0 998 (sub (B F_r01_hex) [1, 1]) (retK Tryz.prog (R F_r01_hex) 0 (outK (tightF Tryz.prog F_r01_hex))) ⟨fr 13 [(0, .val (.int .u8 a1)), (2, .val (.int .i64 0)), (3, .val (.int .i64 i6))], [bx 13 []], KK⟩)

theorem r01_hex_J2_eq (lb : Nat) (n : Nat) (a1 : Int) (i6 : Int) :
  r01_hex_J2 lb n a1 i6 =
 some (.int .i64 (-1)) := (hold_eq _).trans (by kernel_rfl)

theorem r01_hex_L1_succ (lb : Nat) (n k4 : Nat) (a1 : Int) (i2 : Int) :
  r01_hex_L1 lb n (k4 + 1) a1 i2 =
 bif (decide (i2 < 16)) then
 (optO (atS [48, 49, 50, 51, 52, 53, 54, 55, 56, 57, 97, 98, 99, 100, 101, 102] i2) fun c5 =>
 bif ((c5.toNat : Int) == a1) then
 (some (.int .i64 i2))
 else
 (r01_hex_L1 lb n k4 a1 (IntKind.wrap .i64 (i2 + 1))))
 else
 (r01_hex_J2 lb n a1 i2) := (hold_eq _).trans (by kernel_rfl)

theorem r01_hex_eq (lb : Nat) (n : Nat) (a1 : Int) :
  top lb n F_r01_hex [.int .u8 a1] =
 r01_hex_L1 lb n n a1 0 := by kernel_rfl

/-! airline/text.every -/
noncomputable def text_every_text_digit_L1 (lb : Nat) (n : Nat) (k10 : Nat) (a1 : List UInt8) (i5 : Int) : Option CV :=
  hold (loopC (E0 lb n 0 995) 0 (loopTemps (sub (B F_text_every) [1, 0, 1, 0, 0]) ++ [5]) [] (sub (B F_text_every) [1, 0, 1, 0, 0]) (blockK 0 (seqK (E0 lb n 0 998) (sub (B F_text_every) [1, 0]) (sub (B F_text_every) [1, 1]) (retK Tryz.prog (R F_text_every) 0 (outK (tightF Tryz.prog F_text_every))))) k10 ⟨fr 18 [(0, .val (.str a1)), (1, .val (.fn F_text_digit)), (4, .val (.bool false)), (6, .val (.str a1)), (7, .val (.int .i64 (a1.length : Int))), (8, .val (.int .i64 i5))], [bx 18 []], KK⟩)

noncomputable def text_every_text_digit_J2 (lb : Nat) (n : Nat) (a1 : List UInt8) : Option CV :=
  hold (E0 lb n 0 998 (sub (B F_text_every) [1, 1]) (retK Tryz.prog (R F_text_every) 0 (outK (tightF Tryz.prog F_text_every))) ⟨fr 18 [(0, .val (.str a1)), (1, .val (.fn F_text_digit)), (4, .val (.bool false))], [bx 18 []], KK⟩)

theorem text_every_text_digit_J2_eq (lb : Nat) (n : Nat) (a1 : List UInt8) :
  text_every_text_digit_J2 lb n a1 =
 some (.bool true) := (hold_eq _).trans (by kernel_rfl)

theorem text_every_text_digit_L1_succ (lb : Nat) (n k10 : Nat) (a1 : List UInt8) (i5 : Int) :
  text_every_text_digit_L1 lb n (k10 + 1) a1 i5 =
 bif (decide (i5 < (a1.length : Int))) then
 (optO (atS a1 i5) fun c11 =>
 optO (C lb n F_text_digit [.int .u8 (c11.toNat : Int)]) fun r12 =>
 optO (CV.asB r12) fun b13 =>
 bif (!b13) then
 (some (.bool false))
 else
 (text_every_text_digit_L1 lb n k10 a1 (IntKind.wrap .i64 (i5 + 1))))
 else
 (text_every_text_digit_J2 lb n a1 ) := (hold_eq _).trans (by kernel_rfl)

theorem text_every_text_digit_eq (lb : Nat) (n : Nat) (a1 : List UInt8) :
  top lb n F_text_every [.str a1, .fn F_text_digit] =
 text_every_text_digit_L1 lb n n a1 0 := by kernel_rfl

/-! airline/text.every -/
noncomputable def text_every_text_capital_L1 (lb : Nat) (n : Nat) (k10 : Nat) (a1 : List UInt8) (i5 : Int) : Option CV :=
  hold (loopC (E0 lb n 0 995) 0 (loopTemps (sub (B F_text_every) [1, 0, 1, 0, 0]) ++ [5]) [] (sub (B F_text_every) [1, 0, 1, 0, 0]) (blockK 0 (seqK (E0 lb n 0 998) (sub (B F_text_every) [1, 0]) (sub (B F_text_every) [1, 1]) (retK Tryz.prog (R F_text_every) 0 (outK (tightF Tryz.prog F_text_every))))) k10 ⟨fr 18 [(0, .val (.str a1)), (1, .val (.fn F_text_capital)), (4, .val (.bool false)), (6, .val (.str a1)), (7, .val (.int .i64 (a1.length : Int))), (8, .val (.int .i64 i5))], [bx 18 []], KK⟩)

noncomputable def text_every_text_capital_J2 (lb : Nat) (n : Nat) (a1 : List UInt8) : Option CV :=
  hold (E0 lb n 0 998 (sub (B F_text_every) [1, 1]) (retK Tryz.prog (R F_text_every) 0 (outK (tightF Tryz.prog F_text_every))) ⟨fr 18 [(0, .val (.str a1)), (1, .val (.fn F_text_capital)), (4, .val (.bool false))], [bx 18 []], KK⟩)

theorem text_every_text_capital_J2_eq (lb : Nat) (n : Nat) (a1 : List UInt8) :
  text_every_text_capital_J2 lb n a1 =
 some (.bool true) := (hold_eq _).trans (by kernel_rfl)

theorem text_every_text_capital_L1_succ (lb : Nat) (n k10 : Nat) (a1 : List UInt8) (i5 : Int) :
  text_every_text_capital_L1 lb n (k10 + 1) a1 i5 =
 bif (decide (i5 < (a1.length : Int))) then
 (optO (atS a1 i5) fun c11 =>
 optO (C lb n F_text_capital [.int .u8 (c11.toNat : Int)]) fun r12 =>
 optO (CV.asB r12) fun b13 =>
 bif (!b13) then
 (some (.bool false))
 else
 (text_every_text_capital_L1 lb n k10 a1 (IntKind.wrap .i64 (i5 + 1))))
 else
 (text_every_text_capital_J2 lb n a1 ) := (hold_eq _).trans (by kernel_rfl)

theorem text_every_text_capital_eq (lb : Nat) (n : Nat) (a1 : List UInt8) :
  top lb n F_text_every [.str a1, .fn F_text_capital] =
 text_every_text_capital_L1 lb n n a1 0 := by kernel_rfl

/-! airline/text.every -/
noncomputable def text_every_text_Code_1_L1 (lb : Nat) (n : Nat) (k10 : Nat) (a1 : List UInt8) (i5 : Int) : Option CV :=
  hold (loopC (E0 lb n 0 995) 0 (loopTemps (sub (B F_text_every) [1, 0, 1, 0, 0]) ++ [5]) [] (sub (B F_text_every) [1, 0, 1, 0, 0]) (blockK 0 (seqK (E0 lb n 0 998) (sub (B F_text_every) [1, 0]) (sub (B F_text_every) [1, 1]) (retK Tryz.prog (R F_text_every) 0 (outK (tightF Tryz.prog F_text_every))))) k10 ⟨fr 18 [(0, .val (.str a1)), (1, .val (.fn F_text_Code_1)), (4, .val (.bool false)), (6, .val (.str a1)), (7, .val (.int .i64 (a1.length : Int))), (8, .val (.int .i64 i5))], [bx 18 []], KK⟩)

noncomputable def text_every_text_Code_1_J2 (lb : Nat) (n : Nat) (a1 : List UInt8) : Option CV :=
  hold (E0 lb n 0 998 (sub (B F_text_every) [1, 1]) (retK Tryz.prog (R F_text_every) 0 (outK (tightF Tryz.prog F_text_every))) ⟨fr 18 [(0, .val (.str a1)), (1, .val (.fn F_text_Code_1)), (4, .val (.bool false))], [bx 18 []], KK⟩)

theorem text_every_text_Code_1_J2_eq (lb : Nat) (n : Nat) (a1 : List UInt8) :
  text_every_text_Code_1_J2 lb n a1 =
 some (.bool true) := (hold_eq _).trans (by kernel_rfl)

theorem text_every_text_Code_1_L1_succ (lb : Nat) (n k10 : Nat) (a1 : List UInt8) (i5 : Int) :
  text_every_text_Code_1_L1 lb n (k10 + 1) a1 i5 =
 bif (decide (i5 < (a1.length : Int))) then
 (optO (atS a1 i5) fun c11 =>
 optO (C lb n F_text_Code_1 [.int .u8 (c11.toNat : Int)]) fun r12 =>
 optO (CV.asB r12) fun b13 =>
 bif (!b13) then
 (some (.bool false))
 else
 (text_every_text_Code_1_L1 lb n k10 a1 (IntKind.wrap .i64 (i5 + 1))))
 else
 (text_every_text_Code_1_J2 lb n a1 ) := (hold_eq _).trans (by kernel_rfl)

theorem text_every_text_Code_1_eq (lb : Nat) (n : Nat) (a1 : List UInt8) :
  top lb n F_text_every [.str a1, .fn F_text_Code_1] =
 text_every_text_Code_1_L1 lb n n a1 0 := by kernel_rfl

/-! airline/text.every -/
noncomputable def text_every_text_plain_1_L1 (lb : Nat) (n : Nat) (k10 : Nat) (a1 : List UInt8) (i5 : Int) : Option CV :=
  hold (loopC (E0 lb n 0 995) 0 (loopTemps (sub (B F_text_every) [1, 0, 1, 0, 0]) ++ [5]) [] (sub (B F_text_every) [1, 0, 1, 0, 0]) (blockK 0 (seqK (E0 lb n 0 998) (sub (B F_text_every) [1, 0]) (sub (B F_text_every) [1, 1]) (retK Tryz.prog (R F_text_every) 0 (outK (tightF Tryz.prog F_text_every))))) k10 ⟨fr 18 [(0, .val (.str a1)), (1, .val (.fn F_text_plain_1)), (4, .val (.bool false)), (6, .val (.str a1)), (7, .val (.int .i64 (a1.length : Int))), (8, .val (.int .i64 i5))], [bx 18 []], KK⟩)

noncomputable def text_every_text_plain_1_J2 (lb : Nat) (n : Nat) (a1 : List UInt8) : Option CV :=
  hold (E0 lb n 0 998 (sub (B F_text_every) [1, 1]) (retK Tryz.prog (R F_text_every) 0 (outK (tightF Tryz.prog F_text_every))) ⟨fr 18 [(0, .val (.str a1)), (1, .val (.fn F_text_plain_1)), (4, .val (.bool false))], [bx 18 []], KK⟩)

theorem text_every_text_plain_1_J2_eq (lb : Nat) (n : Nat) (a1 : List UInt8) :
  text_every_text_plain_1_J2 lb n a1 =
 some (.bool true) := (hold_eq _).trans (by kernel_rfl)

theorem text_every_text_plain_1_L1_succ (lb : Nat) (n k10 : Nat) (a1 : List UInt8) (i5 : Int) :
  text_every_text_plain_1_L1 lb n (k10 + 1) a1 i5 =
 bif (decide (i5 < (a1.length : Int))) then
 (optO (atS a1 i5) fun c11 =>
 optO (C lb n F_text_plain_1 [.int .u8 (c11.toNat : Int)]) fun r12 =>
 optO (CV.asB r12) fun b13 =>
 bif (!b13) then
 (some (.bool false))
 else
 (text_every_text_plain_1_L1 lb n k10 a1 (IntKind.wrap .i64 (i5 + 1))))
 else
 (text_every_text_plain_1_J2 lb n a1 ) := (hold_eq _).trans (by kernel_rfl)

theorem text_every_text_plain_1_eq (lb : Nat) (n : Nat) (a1 : List UInt8) :
  top lb n F_text_every [.str a1, .fn F_text_plain_1] =
 text_every_text_plain_1_L1 lb n n a1 0 := by kernel_rfl

end Go.Proofs
