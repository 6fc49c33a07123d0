/- Equations of functions, printed by program. Conditions: none. -/
import Derived.Test.YtiffhngfneikoaaDoorEv
namespace Go.Proofs
open Go.Am
set_option maxRecDepth 100000
set_option linter.unusedVariables false
/-! airline/airlinelaw36.JournalTexts -/
theorem l36_JournalTexts_eq (lb : Bool) (n : Nat) (an1 : Bool) (a2 : List (List CV)) (b3 : List UInt8) :
  top lb n F_l36_JournalTexts [.list an1 a2, .str b3] =
 optO (C lb n F_r36_Big [.list an1 a2]) fun r4 =>
 optO (CV.asB r4) fun b5 =>
 bif b5 then
 (optO (C lb n F_l36_awake []) fun r6 =>
 some (r6))
 else
 (bif (decide ((b3.length : Int) > 1000)) then
 (optO (C lb n F_l36_awake []) fun r7 =>
 some (r7))
 else
 (optO (C lb n F_l36_to [.list an1 a2]) fun r9 =>
 optO (C lb n F_journal_Print [r9]) fun r10 =>
 optO (C lb n F_journal_Parse [.str b3]) fun r11 =>
 optO (CV.asT r11) fun t12 =>
 optO (t12[0]?) fun x13 =>
 optO (CV.asT r11) fun t14 =>
 optO (t14[1]?) fun x15 =>
 optO (CV.asT r11) fun t17 =>
 optO (t17[2]?) fun x18 =>
 optO (C lb n F_r36_Parse [.str b3]) fun r19 =>
 optO (CV.asT r19) fun t20 =>
 optO (t20[0]?) fun x21 =>
 optO (CV.asT r19) fun t22 =>
 optO (t22[1]?) fun x23 =>
 optO (CV.asT r19) fun t24 =>
 optO (t24[2]?) fun x25 =>
 optO (C lb n F_r36_Print [.list an1 a2]) fun r26 =>
 optO (CV.asS r10) fun s27 =>
 optO (CV.asS r26) fun s28 =>
 bif (!(s27 == s28)) then
 (some (.bool false))
 else
 (optO (C lb n F_l36_from [x13]) fun r29 =>
 optO (C lb n F_r36_Same [r29, x21]) fun r30 =>
 optO (CV.asB r30) fun b31 =>
 bif (!b31) then
 (some (.bool false))
 else
 (optO (CV.asI .i64 x15) fun i33 =>
 optO (CV.asI .i64 x23) fun i34 =>
 bif (i33 != i34) then
 (some (.bool false))
 else
 (optO (CV.asI .i64 x18) fun i35 =>
 optO (CV.asI .i64 x25) fun i36 =>
 bif (i35 != i36) then
 (some (.bool false))
 else
 (optO (CV.asI .i64 x18) fun i37 =>
 bif (i37 == 0) then
 (optO (C lb n F_journal_Print [x13]) fun r38 =>
 optO (CV.asS r38) fun s39 =>
 bif (!(s39 == b3)) then
 (some (.bool false))
 else
 (optO (C lb n F_journal_Parse [r10]) fun r40 =>
 optO (CV.asT r40) fun t41 =>
 optO (t41[0]?) fun x42 =>
 optO (CV.asT r40) fun t43 =>
 optO (t43[1]?) fun x44 =>
 optO (CV.asT r40) fun t45 =>
 optO (t45[2]?) fun x46 =>
 optO (C lb n F_l36_from [x42]) fun r47 =>
 optO (C lb n F_r36_Same [r47, .list an1 a2]) fun r48 =>
 optO (CV.asB r48) fun b49 =>
 bif b49 then
 (optO (CV.asI .i64 x44) fun i50 =>
 bif (i50 == 0) then
 (optO (CV.asI .i64 x46) fun i51 =>
 bif (i51 == 0) then
 (optO (C lb n F_l36_awake []) fun r52 =>
 some (r52))
 else
 (some (.bool false)))
 else
 (some (.bool false)))
 else
 (some (.bool false))))
 else
 (optO (C lb n F_journal_Parse [r10]) fun r53 =>
 optO (CV.asT r53) fun t54 =>
 optO (t54[0]?) fun x55 =>
 optO (CV.asT r53) fun t56 =>
 optO (t56[1]?) fun x57 =>
 optO (CV.asT r53) fun t58 =>
 optO (t58[2]?) fun x59 =>
 optO (C lb n F_l36_from [x55]) fun r60 =>
 optO (C lb n F_r36_Same [r60, .list an1 a2]) fun r61 =>
 optO (CV.asB r61) fun b62 =>
 bif b62 then
 (optO (CV.asI .i64 x57) fun i63 =>
 bif (i63 == 0) then
 (optO (CV.asI .i64 x59) fun i65 =>
 bif (i65 == 0) then
 (optO (C lb n F_l36_awake []) fun r66 =>
 some (r66))
 else
 (some (.bool false)))
 else
 (some (.bool false)))
 else
 (some (.bool false))))))))) := by kernel_rfl

/-! airline/journal.Parse -/
noncomputable def journal_Parse_L1 (lb : Bool) (n : Nat) (k46 : Nat) (v22 : CV) (b23 : Bool) (l24 : List (List CV)) (i25 : Int) : Option CV :=
  hold (loopC (E0 lb n 0 994) 0 (loopTemps (sub (B F_journal_Parse) [1, 1, 0, 1, 0, 0]) ++ [7, 8, 9, 11]) [10] (sub (B F_journal_Parse) [1, 1, 0, 1, 0, 0]) (blockK 0 (seqK (E0 lb n 0 997) (sub (B F_journal_Parse) [1, 1, 0]) (sub (B F_journal_Parse) [1, 1, 1]) (retK Tryd.prog (R F_journal_Parse) 0 (outK (tightF Tryd.prog F_journal_Parse))))) k46 ⟨fr 40 [(0, .val v22), (2, .lst true true 34 []), (3, .val (.int .i64 0)), (4, .val (.int .i64 0)), (5, .lst true b23 34 l24), (6, .val (.int .i64 i25))], [bx 40 []], KK⟩)

noncomputable def journal_Parse_J2 (lb : Bool) (n : Nat) (v67 : CV) (b68 : Bool) (l69 : List (List CV)) (i70 : Int) : Option CV :=
  hold (E0 lb n 0 997 (sub (B F_journal_Parse) [1, 1, 1]) (retK Tryd.prog (R F_journal_Parse) 0 (outK (tightF Tryd.prog F_journal_Parse))) ⟨fr 40 [(0, .val v67), (2, .lst true true 34 []), (3, .val (.int .i64 0)), (4, .val (.int .i64 0)), (5, .lst true b68 34 l69), (6, .val (.int .i64 i70))], [bx 40 []], KK⟩)

theorem journal_Parse_J2_eq (lb : Bool) (n : Nat) (v67 : CV) (b68 : Bool) (l69 : List (List CV)) (i70 : Int) :
  journal_Parse_J2 lb n v67 b68 l69 i70 =
 some (.tup [.list b68 l69, .int .i64 0, .int .i64 0]) := (hold_eq _).trans (by kernel_rfl)

theorem journal_Parse_L1_succ (lb : Bool) (n k46 : Nat) (v22 : CV) (b23 : Bool) (l24 : List (List CV)) (i25 : Int) :
  journal_Parse_L1 lb n (k46 + 1) v22 b23 l24 i25 =
 optO (CV.asS v22) fun s47 =>
 bif (!(s47 == [])) then
 (optO (C lb n F_strings_Cut [v22, .str [10]]) fun r48 =>
 optO (CV.asT r48) fun t49 =>
 optO (t49[0]?) fun x50 =>
 optO (CV.asT r48) fun t51 =>
 optO (t51[1]?) fun x52 =>
 optO (CV.asT r48) fun t53 =>
 optO (t53[2]?) fun x54 =>
 optO (CV.asB x54) fun b55 =>
 bif (!b55) then
 (some (.tup [.list true [], .int .i64 i25, .int .i64 3]))
 else
 (optO (C lb n F_journal_record [x50]) fun r56 =>
 optO (CV.asT r56) fun t57 =>
 optO (t57[0]?) fun x58 =>
 optO (CV.asT r56) fun t59 =>
 optO (t59[1]?) fun x60 =>
 optO (CV.asA x58) fun c61 =>
 chkO (c61.length == 3) (
 optO (c61[0]?) fun x62 =>
 optO (c61[1]?) fun x63 =>
 optO (c61[2]?) fun x65 =>
 optO (CV.asI .i64 x60) fun i66 =>
 bif (i66 != 0) then
 (some (.tup [.list true [], .int .i64 i25, x60]))
 else
 (chkO (room (l24.length + 1) 32) (
 journal_Parse_L1 lb n k46  x52 (b23 && false) (l24 ++ [[x62, x63, x65]]) (IntKind.wrap .i64 (i25 + 1)))))))
 else
 (journal_Parse_J2 lb n  v22 b23 l24 i25) := (hold_eq _).trans (by kernel_rfl)

theorem journal_Parse_L1_zero (lb : Bool) (n : Nat) (v22 : CV) (b23 : Bool) (l24 : List (List CV)) (i25 : Int) :
  journal_Parse_L1 lb n 0 v22 b23 l24 i25 =
 none := (hold_eq _).trans (by kernel_rfl)

theorem journal_Parse_eq (lb : Bool) (n : Nat) (a1 : List UInt8) :
  top lb n F_journal_Parse [.str a1] =
 journal_Parse_L1 lb n n  (.str a1) true [] 1 := by kernel_rfl

/-! airline/airlineref36.Parse -/
noncomputable def r36_Parse_L1 (lb : Bool) (n : Nat) (k37 : Nat) (a1 : List UInt8) (r2 : CV) (b19 : Bool) (l20 : List (List CV)) (i21 : Int) : Option CV :=
  hold (loopC (E0 lb n 0 993) 0 (loopTemps (sub (B F_r36_Parse) [1, 1, 1, 0, 1, 0, 0]) ++ [9]) [8] (sub (B F_r36_Parse) [1, 1, 1, 0, 1, 0, 0]) (blockK 0 (seqK (E0 lb n 0 996) (sub (B F_r36_Parse) [1, 1, 1, 0]) (sub (B F_r36_Parse) [1, 1, 1, 1]) (retK Tryd.prog (R F_r36_Parse) 0 (outK (tightF Tryd.prog F_r36_Parse))))) k37 ⟨fr 46 [(0, .val (.str a1)), (2, .lst true true 37 []), (3, .val (.int .i64 0)), (4, .val (.int .i64 0)), (5, .lst true b19 37 l20), (6, .val r2), (7, .val (.int .i64 i21)), (10, .val (.str a1)), (11, .val r2)], [bx 46 []], KK⟩)

noncomputable def r36_Parse_J2 (lb : Bool) (n : Nat) (a1 : List UInt8) (r2 : CV) (b52 : Bool) (l53 : List (List CV)) (i54 : Int) : Option CV :=
  hold (E0 lb n 0 996 (sub (B F_r36_Parse) [1, 1, 1, 1]) (retK Tryd.prog (R F_r36_Parse) 0 (outK (tightF Tryd.prog F_r36_Parse))) ⟨fr 46 [(0, .val (.str a1)), (2, .lst true true 37 []), (3, .val (.int .i64 0)), (4, .val (.int .i64 0)), (5, .lst true b52 37 l53), (6, .val r2), (7, .val (.int .i64 i54)), (10, .val (.str a1)), (11, .val r2)], [bx 46 []], KK⟩)

theorem r36_Parse_J2_eq (lb : Bool) (n : Nat) (a1 : List UInt8) (r2 : CV) (b52 : Bool) (l53 : List (List CV)) (i54 : Int) :
  r36_Parse_J2 lb n a1 r2 b52 l53 i54 =
 optO (CV.asL r2) fun p55 =>
 optO (CV.asL r2) fun p56 =>
 optO (atL p56.2 (IntKind.wrap .i64 ((p55.2.length : Int) - 1))) fun c57 =>
 chkO (c57.length == 1) (
 optO (c57[0]?) fun x58 =>
 optO (CV.asS x58) fun s59 =>
 bif (!(s59 == [])) then
 (optO (CV.asL r2) fun p60 =>
 some (.tup [.list true [], .int .i64 (p60.2.length : Int), .int .i64 3]))
 else
 (some (.tup [.list b52 l53, .int .i64 0, .int .i64 0]))) := (hold_eq _).trans (by kernel_rfl)

theorem r36_Parse_L1_succ (lb : Bool) (n k37 : Nat) (a1 : List UInt8) (r2 : CV) (b19 : Bool) (l20 : List (List CV)) (i21 : Int) :
  r36_Parse_L1 lb n (k37 + 1) a1 r2 b19 l20 i21 =
 optO (CV.asL r2) fun p38 =>
 bif (decide (i21 < (IntKind.wrap .i64 ((p38.2.length : Int) - 1)))) then
 (optO (CV.asL r2) fun p39 =>
 optO (atL p39.2 i21) fun c40 =>
 chkO (c40.length == 1) (
 optO (c40[0]?) fun x41 =>
 optO (C lb n F_r36_read [x41]) fun r42 =>
 optO (CV.asT r42) fun t43 =>
 optO (t43[0]?) fun x44 =>
 optO (CV.asT r42) fun t45 =>
 optO (t45[1]?) fun x46 =>
 optO (CV.asA x44) fun c47 =>
 chkO (c47.length == 3) (
 optO (c47[0]?) fun x48 =>
 optO (c47[1]?) fun x49 =>
 optO (c47[2]?) fun x50 =>
 optO (CV.asI .i64 x46) fun i51 =>
 bif (i51 != 0) then
 (some (.tup [.list true [], .int .i64 (IntKind.wrap .i64 (i21 + 1)), x46]))
 else
 (chkO (room (l20.length + 1) 32) (
 r36_Parse_L1 lb n k37 a1 r2 (b19 && false) (l20 ++ [[x48, x49, x50]]) (IntKind.wrap .i64 (i21 + 1)))))))
 else
 (r36_Parse_J2 lb n a1 r2 b19 l20 i21) := (hold_eq _).trans (by kernel_rfl)

theorem r36_Parse_L1_zero (lb : Bool) (n : Nat) (a1 : List UInt8) (r2 : CV) (b19 : Bool) (l20 : List (List CV)) (i21 : Int) :
  r36_Parse_L1 lb n 0 a1 r2 b19 l20 i21 =
 none := (hold_eq _).trans (by kernel_rfl)

theorem r36_Parse_eq (lb : Bool) (n : Nat) (a1 : List UInt8) :
  top lb n F_r36_Parse [.str a1] =
 optO (C lb n F_r04_Cut [.str a1, .int .u8 10]) fun r2 =>
 r36_Parse_L1 lb n n a1 r2 true [] 0 := by kernel_rfl

/-! airline/journal.record -/
theorem journal_record_eq (lb : Bool) (n : Nat) (a1 : List UInt8) :
  top lb n F_journal_record [.str a1] =
 optO (C lb n F_text_Words [.str a1]) fun r2 =>
 optO (CV.asT r2) fun t3 =>
 optO (t3[0]?) fun x4 =>
 optO (CV.asT r2) fun t5 =>
 optO (t5[1]?) fun x6 =>
 optO (CV.asI .i64 x6) fun i7 =>
 bif (i7 != 0) then
 (some (.tup [.agg [.int .i64 0, .str [], .int .i64 0], x6]))
 else
 (optO (CV.asL x4) fun p9 =>
 bif ((p9.2.length : Int) != 3) then
 (some (.tup [.agg [.int .i64 0, .str [], .int .i64 0], .int .i64 3]))
 else
 (optO (CV.asL x4) fun p10 =>
 optO (atL p10.2 2) fun c11 =>
 chkO (c11.length == 1) (
 optO (c11[0]?) fun x12 =>
 chkO (CV.isCell x12) (
 optO (CV.asL x4) fun p13 =>
 optO (atL p13.2 0) fun c14 =>
 chkO (c14.length == 1) (
 optO (c14[0]?) fun x15 =>
 optO (C lb n F_text_Number [x15]) fun r17 =>
 optO (CV.asT r17) fun t18 =>
 optO (t18[0]?) fun x19 =>
 optO (CV.asT r17) fun t20 =>
 optO (t20[1]?) fun x21 =>
 chkO (CV.isCell x19) (
 optO (CV.asI .i64 x21) fun i22 =>
 bif (i22 != 0) then
 (some (.tup [.agg [.int .i64 0, .str [], .int .i64 0], x21]))
 else
 (optO (CV.asL x4) fun p23 =>
 optO (atL p23.2 1) fun c24 =>
 chkO (c24.length == 1) (
 optO (c24[0]?) fun x25 =>
 optO (C lb n F_text_Number [x25]) fun r26 =>
 optO (CV.asT r26) fun t27 =>
 optO (t27[0]?) fun x28 =>
 optO (CV.asT r26) fun t29 =>
 optO (t29[1]?) fun x30 =>
 chkO (CV.isCell x28) (
 some (.tup [.agg [x19, x12, x28], x30])))))))))) := by kernel_rfl

/-! airline/airlineref04.Cut -/
noncomputable def r04_Cut_L1 (lb : Bool) (n : Nat) (k19 : Nat) (a1 : List UInt8) (b2 : Int) (b13 : Bool) (l14 : List (List CV)) (i15 : Int) (i17 : Int) : Option CV :=
  hold (loopC (E0 lb n 0 993) 0 (loopTemps (sub (B F_r04_Cut) [1, 1, 1, 0, 1, 0, 0]) ++ []) [] (sub (B F_r04_Cut) [1, 1, 1, 0, 1, 0, 0]) (blockK 0 (seqK (E0 lb n 0 996) (sub (B F_r04_Cut) [1, 1, 1, 0]) (sub (B F_r04_Cut) [1, 1, 1, 1]) (retK Tryd.prog (R F_r04_Cut) 0 (outK (tightF Tryd.prog F_r04_Cut))))) k19 ⟨fr 35 [(0, .val (.str a1)), (1, .val (.int .u8 b2)), (4, .lst true true 9 []), (5, .lst true b13 9 l14), (6, .val (.int .i64 i15)), (7, .val (.int .i64 i17))], [bx 35 []], KK⟩)

noncomputable def r04_Cut_J2 (lb : Bool) (n : Nat) (a1 : List UInt8) (b2 : Int) (b21 : Bool) (l22 : List (List CV)) (i23 : Int) (i24 : Int) : Option CV :=
  hold (E0 lb n 0 996 (sub (B F_r04_Cut) [1, 1, 1, 1]) (retK Tryd.prog (R F_r04_Cut) 0 (outK (tightF Tryd.prog F_r04_Cut))) ⟨fr 35 [(0, .val (.str a1)), (1, .val (.int .u8 b2)), (4, .lst true true 9 []), (5, .lst true b21 9 l22), (6, .val (.int .i64 i23)), (7, .val (.int .i64 i24))], [bx 35 []], KK⟩)

theorem r04_Cut_J2_eq (lb : Bool) (n : Nat) (a1 : List UInt8) (b2 : Int) (b21 : Bool) (l22 : List (List CV)) (i23 : Int) (i24 : Int) :
  r04_Cut_J2 lb n a1 b2 b21 l22 i23 i24 =
 some (.list b21 l22) := (hold_eq _).trans (by kernel_rfl)

theorem r04_Cut_L1_succ (lb : Bool) (n k19 : Nat) (a1 : List UInt8) (b2 : Int) (b13 : Bool) (l14 : List (List CV)) (i15 : Int) (i17 : Int) :
  r04_Cut_L1 lb n (k19 + 1) a1 b2 b13 l14 i15 i17 =
 bif (decide (i17 ≤ (a1.length : Int))) then
 (bif (i17 == (a1.length : Int)) then
 (chkO (decide ((0 : Int) ≤ i17 ∧ i17 ≤ (a1.length : Int))) (
 chkO (decide ((0 : Int) ≤ i15 ∧ i15 ≤ i17)) (
 chkO (room (l14.length + 1) 16) (
 r04_Cut_L1 lb n k19 a1 b2 (b13 && false) (l14 ++ [[CV.str ((a1.take i17.toNat).drop i15.toNat)]]) (IntKind.wrap .i64 (i17 + 1)) (IntKind.wrap .i64 (i17 + 1))))))
 else
 (optO (atS a1 i17) fun c20 =>
 bif ((c20.toNat : Int) == b2) then
 (chkO (decide ((0 : Int) ≤ i17 ∧ i17 ≤ (a1.length : Int))) (
 chkO (decide ((0 : Int) ≤ i15 ∧ i15 ≤ i17)) (
 chkO (room (l14.length + 1) 16) (
 r04_Cut_L1 lb n k19 a1 b2 (b13 && false) (l14 ++ [[CV.str ((a1.take i17.toNat).drop i15.toNat)]]) (IntKind.wrap .i64 (i17 + 1)) (IntKind.wrap .i64 (i17 + 1))))))
 else
 (r04_Cut_L1 lb n k19 a1 b2 b13 l14 i15 (IntKind.wrap .i64 (i17 + 1)))))
 else
 (r04_Cut_J2 lb n a1 b2 b13 l14 i15 i17) := (hold_eq _).trans (by kernel_rfl)

theorem r04_Cut_L1_zero (lb : Bool) (n : Nat) (a1 : List UInt8) (b2 : Int) (b13 : Bool) (l14 : List (List CV)) (i15 : Int) (i17 : Int) :
  r04_Cut_L1 lb n 0 a1 b2 b13 l14 i15 i17 =
 none := (hold_eq _).trans (by kernel_rfl)

theorem r04_Cut_eq (lb : Bool) (n : Nat) (a1 : List UInt8) (b2 : Int) :
  top lb n F_r04_Cut [.str a1, .int .u8 b2] =
 r04_Cut_L1 lb n n a1 b2 true [] 0 0 := by kernel_rfl

/-! airline/airlineref36.read -/
theorem r36_read_eq (lb : Bool) (n : Nat) (a1 : List UInt8) :
  top lb n F_r36_read [.str a1] =
 optO (C lb n F_r01_Words [.str a1]) fun r2 =>
 optO (CV.asT r2) fun t3 =>
 optO (t3[0]?) fun x4 =>
 optO (CV.asT r2) fun t5 =>
 optO (t5[1]?) fun x6 =>
 optO (CV.asI .i64 x6) fun i7 =>
 bif (i7 != 0) then
 (some (.tup [.agg [.int .i64 0, .str [], .int .i64 0], x6]))
 else
 (optO (CV.asL x4) fun p9 =>
 bif ((p9.2.length : Int) != 3) then
 (some (.tup [.agg [.int .i64 0, .str [], .int .i64 0], .int .i64 3]))
 else
 (optO (CV.asL x4) fun p10 =>
 optO (atL p10.2 0) fun c11 =>
 chkO (c11.length == 1) (
 optO (c11[0]?) fun x12 =>
 optO (C lb n F_r01_Number [x12]) fun r13 =>
 optO (CV.asT r13) fun t14 =>
 optO (t14[0]?) fun x15 =>
 optO (CV.asT r13) fun t17 =>
 optO (t17[1]?) fun x18 =>
 optO (CV.asI .i64 x18) fun i19 =>
 bif (i19 != 0) then
 (some (.tup [.agg [.int .i64 0, .str [], .int .i64 0], x18]))
 else
 (optO (CV.asL x4) fun p20 =>
 optO (atL p20.2 1) fun c21 =>
 chkO (c21.length == 1) (
 optO (c21[0]?) fun x22 =>
 optO (C lb n F_r01_Number [x22]) fun r23 =>
 optO (CV.asT r23) fun t24 =>
 optO (t24[0]?) fun x25 =>
 optO (CV.asT r23) fun t26 =>
 optO (t26[1]?) fun x27 =>
 optO (CV.asI .i64 x27) fun i28 =>
 bif (i28 != 0) then
 (some (.tup [.agg [.int .i64 0, .str [], .int .i64 0], x27]))
 else
 (optO (CV.asL x4) fun p29 =>
 optO (atL p29.2 2) fun c30 =>
 chkO (c30.length == 1) (
 optO (c30[0]?) fun x31 =>
 chkO (CV.isCell x15) (
 chkO (CV.isCell x31) (
 chkO (CV.isCell x25) (
 some (.tup [.agg [x15, x31, x25], .int .i64 0]))))))))))) := by kernel_rfl

end Go.Proofs
