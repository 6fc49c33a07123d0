/- Equations of functions, printed by program. Conditions: none. -/
import Derived.Test.YtlfopiicpgggfaaEv
namespace Go.Proofs
open Go.Am
set_option maxRecDepth 100000
set_option linter.unusedVariables false
/-! airline/airlinelaw31.StatusTells -/
noncomputable def l31_StatusTells_L1 (lb : Bool) (n : Nat) (k81 : Nat) (a1 : Int) (b2 : Int) (c3 : List UInt8) (x6 : CV) (x9 : CV) (x12 : CV) (x14 : CV) (x18 : CV) (x20 : CV) (x23 : CV) (x25 : CV) (x28 : CV) (x30 : CV) (x34 : CV) (x36 : CV) (r57 : CV) (r58 : CV) (r4 : CV) (r10 : CV) (r15 : CV) (r21 : CV) (r26 : CV) (r31 : CV) (i70 : Int) : Option CV :=
  loopC (E0 lb n 0 987) 0 (loopTemps (sub (B F_l31_StatusTells) [1, 1, 1, 1, 1, 1, 1, 1, 1, 0, 1, 0, 0]) ++ []) [] (sub (B F_l31_StatusTells) [1, 1, 1, 1, 1, 1, 1, 1, 1, 0, 1, 0, 0]) (blockK 0 (seqK (E0 lb n 0 990) (sub (B F_l31_StatusTells) [1, 1, 1, 1, 1, 1, 1, 1, 1, 0]) (sub (B F_l31_StatusTells) [1, 1, 1, 1, 1, 1, 1, 1, 1, 1]) (retK Try.prog (R F_l31_StatusTells) 0 outK))) k81 ⟨fr 129 [(0, .val (.int .i64 a1)), (1, .val (.int .i64 b2)), (2, .val (.str c3)), (6, .val (.bool false)), (7, .val x6), (8, .val x9), (9, .val x12), (10, .val x14), (11, .val x18), (12, .val x20), (13, .val x23), (14, .val x25), (15, .val x28), (16, .val x30), (17, .val x34), (18, .val x36), (19, .val r57), (20, .val r58), (21, .val (.int .i64 i70)), (22, .val r4), (23, .val (.int .i64 a1)), (24, .val (.int .i64 b2)), (25, .val r4), (26, .val x6), (27, .val x9), (28, .val r10), (29, .val (.int .i64 a1)), (30, .val (.int .i64 b2)), (31, .val r10), (32, .val x12), (33, .val x14), (34, .val r15), (35, .val (.int .i64 a1)), (36, .val r15), (37, .val x18), (38, .val x20), (39, .val r21), (40, .val (.int .i64 a1)), (41, .val r21), (42, .val x23), (43, .val x25), (44, .val r26), (45, .val (.str c3)), (46, .val r26), (47, .val x28), (48, .val x30), (49, .val r31), (50, .val (.str c3)), (51, .val r31), (52, .val x34), (53, .val x36), (96, .val (.int .i64 a1)), (97, .val r57), (98, .val (.int .i64 a1)), (99, .val r58)], [bx 129 []], KK⟩

noncomputable def l31_StatusTells_J2 (lb : Bool) (n : Nat) (a1 : Int) (b2 : Int) (c3 : List UInt8) (x6 : CV) (x9 : CV) (x12 : CV) (x14 : CV) (x18 : CV) (x20 : CV) (x23 : CV) (x25 : CV) (x28 : CV) (x30 : CV) (x34 : CV) (x36 : CV) (r57 : CV) (r58 : CV) (r4 : CV) (r10 : CV) (r15 : CV) (r21 : CV) (r26 : CV) (r31 : CV) (i92 : Int) : Option CV :=
  E0 lb n 0 990 (sub (B F_l31_StatusTells) [1, 1, 1, 1, 1, 1, 1, 1, 1, 1]) (retK Try.prog (R F_l31_StatusTells) 0 outK) ⟨fr 129 [(0, .val (.int .i64 a1)), (1, .val (.int .i64 b2)), (2, .val (.str c3)), (6, .val (.bool false)), (7, .val x6), (8, .val x9), (9, .val x12), (10, .val x14), (11, .val x18), (12, .val x20), (13, .val x23), (14, .val x25), (15, .val x28), (16, .val x30), (17, .val x34), (18, .val x36), (19, .val r57), (20, .val r58), (21, .val (.int .i64 i92)), (22, .val r4), (23, .val (.int .i64 a1)), (24, .val (.int .i64 b2)), (25, .val r4), (26, .val x6), (27, .val x9), (28, .val r10), (29, .val (.int .i64 a1)), (30, .val (.int .i64 b2)), (31, .val r10), (32, .val x12), (33, .val x14), (34, .val r15), (35, .val (.int .i64 a1)), (36, .val r15), (37, .val x18), (38, .val x20), (39, .val r21), (40, .val (.int .i64 a1)), (41, .val r21), (42, .val x23), (43, .val x25), (44, .val r26), (45, .val (.str c3)), (46, .val r26), (47, .val x28), (48, .val x30), (49, .val r31), (50, .val (.str c3)), (51, .val r31), (52, .val x34), (53, .val x36), (96, .val (.int .i64 a1)), (97, .val r57), (98, .val (.int .i64 a1)), (99, .val r58)], [bx 129 []], KK⟩

theorem l31_StatusTells_J2_eq (lb : Bool) (n : Nat) (a1 : Int) (b2 : Int) (c3 : List UInt8) (x6 : CV) (x9 : CV) (x12 : CV) (x14 : CV) (x18 : CV) (x20 : CV) (x23 : CV) (x25 : CV) (x28 : CV) (x30 : CV) (x34 : CV) (x36 : CV) (r57 : CV) (r58 : CV) (r4 : CV) (r10 : CV) (r15 : CV) (r21 : CV) (r26 : CV) (r31 : CV) (i92 : Int) :
  l31_StatusTells_J2 lb n a1 b2 c3 x6 x9 x12 x14 x18 x20 x23 x25 x28 x30 x34 x36 r57 r58 r4 r10 r15 r21 r26 r31 i92 =
 optO (CV.asL r57) fun p93 =>
 optO (CV.asL r58) fun p94 =>
 bif ((p93.2.length : Int) == (p94.2.length : Int)) then
 (optO (C lb n F_l31_knows []) fun r95 =>
 some (r95))
 else
 (some (.bool false)) := by kernel_rfl

theorem l31_StatusTells_L1_succ (lb : Bool) (n k81 : Nat) (a1 : Int) (b2 : Int) (c3 : List UInt8) (x6 : CV) (x9 : CV) (x12 : CV) (x14 : CV) (x18 : CV) (x20 : CV) (x23 : CV) (x25 : CV) (x28 : CV) (x30 : CV) (x34 : CV) (x36 : CV) (r57 : CV) (r58 : CV) (r4 : CV) (r10 : CV) (r15 : CV) (r21 : CV) (r26 : CV) (r31 : CV) (i70 : Int) :
  l31_StatusTells_L1 lb n (k81 + 1) a1 b2 c3 x6 x9 x12 x14 x18 x20 x23 x25 x28 x30 x34 x36 r57 r58 r4 r10 r15 r21 r26 r31 i70 =
 optO (CV.asL r57) fun p82 =>
 bif (decide (i70 < (p82.2.length : Int))) then
 (optO (CV.asL r58) fun p83 =>
 bif (decide (i70 < (p83.2.length : Int))) then
 (optO (CV.asL r57) fun p84 =>
 optO (atL p84.2 i70) fun c85 =>
 chkO (c85.length == 1) (
 optO (c85[0]?) fun x86 =>
 optO (CV.asL r58) fun p87 =>
 optO (atL p87.2 i70) fun c88 =>
 chkO (c88.length == 1) (
 optO (c88[0]?) fun x89 =>
 optO (CV.asI .i64 x86) fun i90 =>
 optO (CV.asI .i64 x89) fun i91 =>
 bif (i90 != i91) then
 (some (.bool false))
 else
 (l31_StatusTells_L1 lb n k81 a1 b2 c3 x6 x9 x12 x14 x18 x20 x23 x25 x28 x30 x34 x36 r57 r58 r4 r10 r15 r21 r26 r31 (IntKind.wrap .i64 (i70 + 1))))))
 else
 (l31_StatusTells_J2 lb n a1 b2 c3 x6 x9 x12 x14 x18 x20 x23 x25 x28 x30 x34 x36 r57 r58 r4 r10 r15 r21 r26 r31 i70))
 else
 (l31_StatusTells_J2 lb n a1 b2 c3 x6 x9 x12 x14 x18 x20 x23 x25 x28 x30 x34 x36 r57 r58 r4 r10 r15 r21 r26 r31 i70) := by kernel_rfl

theorem l31_StatusTells_L1_zero (lb : Bool) (n : Nat) (a1 : Int) (b2 : Int) (c3 : List UInt8) (x6 : CV) (x9 : CV) (x12 : CV) (x14 : CV) (x18 : CV) (x20 : CV) (x23 : CV) (x25 : CV) (x28 : CV) (x30 : CV) (x34 : CV) (x36 : CV) (r57 : CV) (r58 : CV) (r4 : CV) (r10 : CV) (r15 : CV) (r21 : CV) (r26 : CV) (r31 : CV) (i70 : Int) :
  l31_StatusTells_L1 lb n 0 a1 b2 c3 x6 x9 x12 x14 x18 x20 x23 x25 x28 x30 x34 x36 r57 r58 r4 r10 r15 r21 r26 r31 i70 =
 none := by kernel_rfl

theorem l31_StatusTells_eq (lb : Bool) (n : Nat) (a1 : Int) (b2 : Int) (c3 : List UInt8) :
  top lb n F_l31_StatusTells [.int .i64 a1, .int .i64 b2, .str c3] =
 optO (C lb n F_status_Next [.int .i64 a1, .int .i64 b2]) fun r4 =>
 optO (CV.asT r4) fun t5 =>
 optO (t5[0]?) fun x6 =>
 optO (CV.asT r4) fun t7 =>
 optO (t7[1]?) fun x9 =>
 optO (C lb n F_r31_Next [.int .i64 a1, .int .i64 b2]) fun r10 =>
 optO (CV.asT r10) fun t11 =>
 optO (t11[0]?) fun x12 =>
 optO (CV.asT r10) fun t13 =>
 optO (t13[1]?) fun x14 =>
 optO (C lb n F_status_Text [.int .i64 a1]) fun r15 =>
 optO (CV.asT r15) fun t17 =>
 optO (t17[0]?) fun x18 =>
 optO (CV.asT r15) fun t19 =>
 optO (t19[1]?) fun x20 =>
 optO (C lb n F_r31_Text [.int .i64 a1]) fun r21 =>
 optO (CV.asT r21) fun t22 =>
 optO (t22[0]?) fun x23 =>
 optO (CV.asT r21) fun t24 =>
 optO (t24[1]?) fun x25 =>
 optO (C lb n F_status_Parse [.str c3]) fun r26 =>
 optO (CV.asT r26) fun t27 =>
 optO (t27[0]?) fun x28 =>
 optO (CV.asT r26) fun t29 =>
 optO (t29[1]?) fun x30 =>
 optO (C lb n F_r31_Parse [.str c3]) fun r31 =>
 optO (CV.asT r31) fun t33 =>
 optO (t33[0]?) fun x34 =>
 optO (CV.asT r31) fun t35 =>
 optO (t35[1]?) fun x36 =>
 optO (CV.asI .i64 x6) fun i37 =>
 optO (CV.asI .i64 x12) fun i38 =>
 bif (i37 != i38) then
 (some (.bool false))
 else
 (optO (CV.asI .i64 x9) fun i39 =>
 optO (CV.asI .i64 x14) fun i40 =>
 bif (i39 != i40) then
 (some (.bool false))
 else
 (optO (CV.asS x18) fun s41 =>
 optO (CV.asS x23) fun s42 =>
 bif (!(s41 == s42)) then
 (some (.bool false))
 else
 (optO (CV.asI .i64 x20) fun i43 =>
 optO (CV.asI .i64 x25) fun i44 =>
 bif (i43 != i44) then
 (some (.bool false))
 else
 (optO (CV.asI .i64 x28) fun i45 =>
 optO (CV.asI .i64 x34) fun i46 =>
 bif (i45 != i46) then
 (some (.bool false))
 else
 (optO (CV.asI .i64 x30) fun i47 =>
 optO (CV.asI .i64 x36) fun i48 =>
 bif (i47 != i48) then
 (some (.bool false))
 else
 (optO (C lb n F_status_Seat [.int .i64 a1]) fun r49 =>
 optO (C lb n F_r31_Seat [.int .i64 a1]) fun r50 =>
 optO (CV.asB r49) fun b51 =>
 optO (CV.asB r50) fun b52 =>
 bif (!(b51 == b52)) then
 (some (.bool false))
 else
 (optO (C lb n F_status_Live [.int .i64 a1]) fun r53 =>
 optO (C lb n F_r31_Live [.int .i64 a1]) fun r54 =>
 optO (CV.asB r53) fun b55 =>
 optO (CV.asB r54) fun b56 =>
 bif (!(b55 == b56)) then
 (some (.bool false))
 else
 (optO (C lb n F_status_Events [.int .i64 a1]) fun r57 =>
 optO (C lb n F_r31_Events [.int .i64 a1]) fun r58 =>
 l31_StatusTells_L1 lb n n a1 b2 c3 x6 x9 x12 x14 x18 x20 x23 x25 x28 x30 x34 x36 r57 r58 r4 r10 r15 r21 r26 r31 0)))))))) := by kernel_rfl

/-! airline/airlinelaw31.StatusBack -/
theorem l31_StatusBack_eq (lb : Bool) (n : Nat) (a1 : Int) (b2 : List UInt8) :
  top lb n F_l31_StatusBack [.int .i64 a1, .str b2] =
 optO (C lb n F_status_Text [.int .i64 a1]) fun r3 =>
 optO (CV.asT r3) fun t4 =>
 optO (t4[0]?) fun x5 =>
 optO (CV.asT r3) fun t6 =>
 optO (t6[1]?) fun x7 =>
 optO (C lb n F_status_Parse [x5]) fun r9 =>
 optO (CV.asT r9) fun t10 =>
 optO (t10[0]?) fun x11 =>
 optO (CV.asT r9) fun t12 =>
 optO (t12[1]?) fun x13 =>
 optO (CV.asI .i64 x7) fun i14 =>
 bif (i14 == 0) then
 (optO (CV.asI .i64 x13) fun i15 =>
 bif (i15 != 0) then
 (some (.bool false))
 else
 (optO (CV.asI .i64 x11) fun i17 =>
 bif (i17 != a1) then
 (some (.bool false))
 else
 (optO (C lb n F_status_Parse [.str b2]) fun r18 =>
 optO (CV.asT r18) fun t19 =>
 optO (t19[0]?) fun x20 =>
 optO (CV.asT r18) fun t21 =>
 optO (t21[1]?) fun x22 =>
 optO (C lb n F_status_Text [x20]) fun r23 =>
 optO (CV.asT r23) fun t24 =>
 optO (t24[0]?) fun x25 =>
 optO (CV.asT r23) fun t26 =>
 optO (t26[1]?) fun x27 =>
 optO (CV.asI .i64 x22) fun i28 =>
 bif (i28 != 0) then
 (optO (C lb n F_l31_knows []) fun r29 =>
 some (r29))
 else
 (optO (CV.asI .i64 x27) fun i30 =>
 bif (i30 == 0) then
 (optO (CV.asS x25) fun s31 =>
 bif (s31 == b2) then
 (optO (C lb n F_l31_knows []) fun r33 =>
 some (r33))
 else
 (some (.bool false)))
 else
 (some (.bool false))))))
 else
 (optO (C lb n F_status_Parse [.str b2]) fun r34 =>
 optO (CV.asT r34) fun t35 =>
 optO (t35[0]?) fun x36 =>
 optO (CV.asT r34) fun t37 =>
 optO (t37[1]?) fun x38 =>
 optO (C lb n F_status_Text [x36]) fun r39 =>
 optO (CV.asT r39) fun t40 =>
 optO (t40[0]?) fun x41 =>
 optO (CV.asT r39) fun t42 =>
 optO (t42[1]?) fun x43 =>
 optO (CV.asI .i64 x38) fun i44 =>
 bif (i44 != 0) then
 (optO (C lb n F_l31_knows []) fun r45 =>
 some (r45))
 else
 (optO (CV.asI .i64 x43) fun i46 =>
 bif (i46 == 0) then
 (optO (CV.asS x41) fun s47 =>
 bif (s47 == b2) then
 (optO (C lb n F_l31_knows []) fun r48 =>
 some (r48))
 else
 (some (.bool false)))
 else
 (some (.bool false)))) := by kernel_rfl

/-! airline/airlinelaw31.StatusEnds -/
noncomputable def l31_StatusEnds_L1 (lb : Bool) (n : Nat) (k347 : Nat) (an1 : Bool) (a2 : List (List CV)) (v183 : CV) (i184 : Int) : Option CV :=
  loopC (E0 lb n 0 994) 0 (loopTemps (sub (B F_l31_StatusEnds) [1, 1, 0, 1, 0, 0]) ++ [5, 6, 7, 8, 9, 7, 9, 10, 11]) [] (sub (B F_l31_StatusEnds) [1, 1, 0, 1, 0, 0]) (blockK 0 (seqK (E0 lb n 0 997) (sub (B F_l31_StatusEnds) [1, 1, 0]) (sub (B F_l31_StatusEnds) [1, 1, 1]) (retK Try.prog (R F_l31_StatusEnds) 0 outK))) k347 ⟨fr 107 [(0, .val (.list an1 a2)), (2, .val (.bool false)), (3, .val v183), (4, .val (.int .i64 i184))], [bx 107 []], KK⟩

noncomputable def l31_StatusEnds_J2 (lb : Bool) (n : Nat) (k347 : Nat) (an1 : Bool) (a2 : List (List CV)) (v183 : CV) (i184 : Int) (v358 : CV) (v359 : CV) : Option CV :=
  E0 lb n 0 992 (sub (B F_l31_StatusEnds) [1, 1, 0, 1, 0, 0, 1, 1]) (loopK 0 (loopTemps (sub (B F_l31_StatusEnds) [1, 1, 0, 1, 0, 0]) ++ [5, 6, 7, 8, 9, 7, 9, 10, 11]) [] (loopC (E0 lb n 0 994) 0 (loopTemps (sub (B F_l31_StatusEnds) [1, 1, 0, 1, 0, 0]) ++ [5, 6, 7, 8, 9, 7, 9, 10, 11]) [] (sub (B F_l31_StatusEnds) [1, 1, 0, 1, 0, 0]) (blockK 0 (seqK (E0 lb n 0 997) (sub (B F_l31_StatusEnds) [1, 1, 0]) (sub (B F_l31_StatusEnds) [1, 1, 1]) (retK Try.prog (R F_l31_StatusEnds) 0 outK))) k347) (blockK 0 (seqK (E0 lb n 0 997) (sub (B F_l31_StatusEnds) [1, 1, 0]) (sub (B F_l31_StatusEnds) [1, 1, 1]) (retK Try.prog (R F_l31_StatusEnds) 0 outK)))) ⟨fr 107 [(0, .val (.list an1 a2)), (2, .val (.bool false)), (3, .val v183), (4, .val (.int .i64 i184)), (5, .val v358), (6, .val v359)], [bx 107 []], KK⟩

theorem l31_StatusEnds_J2_eq (lb : Bool) (n : Nat) (k347 : Nat) (an1 : Bool) (a2 : List (List CV)) (v183 : CV) (i184 : Int) (v358 : CV) (v359 : CV) :
  l31_StatusEnds_J2 lb n k347 an1 a2 v183 i184 v358 v359 =
 l31_StatusEnds_L1 lb n k347 an1 a2 v183 (IntKind.wrap .i64 (i184 + 1)) := by kernel_rfl

noncomputable def l31_StatusEnds_L3 (lb : Bool) (n : Nat) (k391 : Nat) (k347 : Nat) (an1 : Bool) (a2 : List (List CV)) (v183 : CV) (i184 : Int) (x352 : CV) (x354 : CV) (r372 : CV) (r350 : CV) (c348 : List CV) (x349 : CV) (b381 : Bool) (i382 : Int) : Option CV :=
  loopC (E0 lb n 0 982) 0 (loopTemps (sub (B F_l31_StatusEnds) [1, 1, 0, 1, 0, 0, 1, 0, 0, 1, 1, 1, 1, 1, 0, 1, 0, 0]) ++ []) [] (sub (B F_l31_StatusEnds) [1, 1, 0, 1, 0, 0, 1, 0, 0, 1, 1, 1, 1, 1, 0, 1, 0, 0]) (blockK 2 (seqK (E0 lb n 0 985) (sub (B F_l31_StatusEnds) [1, 1, 0, 1, 0, 0, 1, 0, 0, 1, 1, 1, 1, 1, 0]) (sub (B F_l31_StatusEnds) [1, 1, 0, 1, 0, 0, 1, 0, 0, 1, 1, 1, 1, 1, 1]) (blockK 1 (seqK (E0 lb n 0 992) (sub (B F_l31_StatusEnds) [1, 1, 0, 1, 0, 0, 1, 0]) (sub (B F_l31_StatusEnds) [1, 1, 0, 1, 0, 0, 1, 1]) (loopK 0 (loopTemps (sub (B F_l31_StatusEnds) [1, 1, 0, 1, 0, 0]) ++ [5, 6, 7, 8, 9, 7, 9, 10, 11]) [] (loopC (E0 lb n 0 994) 0 (loopTemps (sub (B F_l31_StatusEnds) [1, 1, 0, 1, 0, 0]) ++ [5, 6, 7, 8, 9, 7, 9, 10, 11]) [] (sub (B F_l31_StatusEnds) [1, 1, 0, 1, 0, 0]) (blockK 0 (seqK (E0 lb n 0 997) (sub (B F_l31_StatusEnds) [1, 1, 0]) (sub (B F_l31_StatusEnds) [1, 1, 1]) (retK Try.prog (R F_l31_StatusEnds) 0 outK))) k347) (blockK 0 (seqK (E0 lb n 0 997) (sub (B F_l31_StatusEnds) [1, 1, 0]) (sub (B F_l31_StatusEnds) [1, 1, 1]) (retK Try.prog (R F_l31_StatusEnds) 0 outK)))))))) k391 ⟨fr 107 [(0, .val (.list an1 a2)), (2, .val (.bool false)), (3, .val v183), (4, .val (.int .i64 i184)), (5, .val x352), (6, .val x354), (7, .val (.bool b381)), (8, .val r372), (9, .val (.int .i64 i382)), (22, .val r350), (23, .val v183), (24, .val (.list an1 a2)), (25, .val (.int .i64 i184)), (26, .cptr c348 0), (27, .val x349), (28, .val r350), (29, .val x352), (30, .val x354), (68, .val v183), (69, .val r372)], [bx 107 []], KK⟩

noncomputable def l31_StatusEnds_J4 (lb : Bool) (n : Nat) (k347 : Nat) (an1 : Bool) (a2 : List (List CV)) (v183 : CV) (i184 : Int) (x352 : CV) (x354 : CV) (r372 : CV) (r350 : CV) (c348 : List CV) (x349 : CV) (b400 : Bool) (i401 : Int) : Option CV :=
  E0 lb n 0 985 (sub (B F_l31_StatusEnds) [1, 1, 0, 1, 0, 0, 1, 0, 0, 1, 1, 1, 1, 1, 1]) (blockK 1 (seqK (E0 lb n 0 992) (sub (B F_l31_StatusEnds) [1, 1, 0, 1, 0, 0, 1, 0]) (sub (B F_l31_StatusEnds) [1, 1, 0, 1, 0, 0, 1, 1]) (loopK 0 (loopTemps (sub (B F_l31_StatusEnds) [1, 1, 0, 1, 0, 0]) ++ [5, 6, 7, 8, 9, 7, 9, 10, 11]) [] (loopC (E0 lb n 0 994) 0 (loopTemps (sub (B F_l31_StatusEnds) [1, 1, 0, 1, 0, 0]) ++ [5, 6, 7, 8, 9, 7, 9, 10, 11]) [] (sub (B F_l31_StatusEnds) [1, 1, 0, 1, 0, 0]) (blockK 0 (seqK (E0 lb n 0 997) (sub (B F_l31_StatusEnds) [1, 1, 0]) (sub (B F_l31_StatusEnds) [1, 1, 1]) (retK Try.prog (R F_l31_StatusEnds) 0 outK))) k347) (blockK 0 (seqK (E0 lb n 0 997) (sub (B F_l31_StatusEnds) [1, 1, 0]) (sub (B F_l31_StatusEnds) [1, 1, 1]) (retK Try.prog (R F_l31_StatusEnds) 0 outK)))))) ⟨fr 107 [(0, .val (.list an1 a2)), (2, .val (.bool false)), (3, .val v183), (4, .val (.int .i64 i184)), (5, .val x352), (6, .val x354), (7, .val (.bool b400)), (8, .val r372), (9, .val (.int .i64 i401)), (22, .val r350), (23, .val v183), (24, .val (.list an1 a2)), (25, .val (.int .i64 i184)), (26, .cptr c348 0), (27, .val x349), (28, .val r350), (29, .val x352), (30, .val x354), (68, .val v183), (69, .val r372)], [bx 107 []], KK⟩

noncomputable def l31_StatusEnds_J5 (lb : Bool) (n : Nat) (k347 : Nat) (an1 : Bool) (a2 : List (List CV)) (i184 : Int) (v410 : CV) (v411 : CV) (v412 : CV) (b413 : Bool) (v414 : CV) (i415 : Int) (v416 : CV) (v417 : CV) : Option CV :=
  E0 lb n 0 992 (sub (B F_l31_StatusEnds) [1, 1, 0, 1, 0, 0, 1, 1]) (loopK 0 (loopTemps (sub (B F_l31_StatusEnds) [1, 1, 0, 1, 0, 0]) ++ [5, 6, 7, 8, 9, 7, 9, 10, 11]) [] (loopC (E0 lb n 0 994) 0 (loopTemps (sub (B F_l31_StatusEnds) [1, 1, 0, 1, 0, 0]) ++ [5, 6, 7, 8, 9, 7, 9, 10, 11]) [] (sub (B F_l31_StatusEnds) [1, 1, 0, 1, 0, 0]) (blockK 0 (seqK (E0 lb n 0 997) (sub (B F_l31_StatusEnds) [1, 1, 0]) (sub (B F_l31_StatusEnds) [1, 1, 1]) (retK Try.prog (R F_l31_StatusEnds) 0 outK))) k347) (blockK 0 (seqK (E0 lb n 0 997) (sub (B F_l31_StatusEnds) [1, 1, 0]) (sub (B F_l31_StatusEnds) [1, 1, 1]) (retK Try.prog (R F_l31_StatusEnds) 0 outK)))) ⟨fr 107 [(0, .val (.list an1 a2)), (2, .val (.bool false)), (3, .val v410), (4, .val (.int .i64 i184)), (5, .val v411), (6, .val v412), (7, .val (.bool b413)), (8, .val v414), (9, .val (.int .i64 i415)), (10, .val v416), (11, .val v417)], [bx 107 []], KK⟩

theorem l31_StatusEnds_J5_eq (lb : Bool) (n : Nat) (k347 : Nat) (an1 : Bool) (a2 : List (List CV)) (i184 : Int) (v410 : CV) (v411 : CV) (v412 : CV) (b413 : Bool) (v414 : CV) (i415 : Int) (v416 : CV) (v417 : CV) :
  l31_StatusEnds_J5 lb n k347 an1 a2 i184 v410 v411 v412 b413 v414 i415 v416 v417 =
 l31_StatusEnds_L1 lb n k347 an1 a2 v410 (IntKind.wrap .i64 (i184 + 1)) := by kernel_rfl

theorem l31_StatusEnds_J4_eq (lb : Bool) (n : Nat) (k347 : Nat) (an1 : Bool) (a2 : List (List CV)) (v183 : CV) (i184 : Int) (x352 : CV) (x354 : CV) (r372 : CV) (r350 : CV) (c348 : List CV) (x349 : CV) (b400 : Bool) (i401 : Int) :
  l31_StatusEnds_J4 lb n k347 an1 a2 v183 i184 x352 x354 r372 r350 c348 x349 b400 i401 =
 bif (!b400) then
 (some (.bool false))
 else
 (optO (C lb n F_status_Next [x352, .int .i64 8]) fun r402 =>
 optO (CV.asT r402) fun t403 =>
 optO (t403[0]?) fun x404 =>
 optO (CV.asT r402) fun t405 =>
 optO (t405[1]?) fun x406 =>
 optO (CV.asI .i64 x352) fun i407 =>
 bif (i407 != 7) then
 (optO (CV.asI .i64 x404) fun i408 =>
 bif (i408 != 7) then
 (some (.bool false))
 else
 (optO (CV.asI .i64 x406) fun i409 =>
 bif (i409 != 0) then
 (some (.bool false))
 else
 (l31_StatusEnds_J5 lb n k347 an1 a2 i184 x352 x352 x354 b400 r372 i401 x404 x406)))
 else
 (l31_StatusEnds_J5 lb n k347 an1 a2 i184 x352 x352 x354 b400 r372 i401 x404 x406)) := by kernel_rfl

theorem l31_StatusEnds_L3_succ (lb : Bool) (n k391 : Nat) (k347 : Nat) (an1 : Bool) (a2 : List (List CV)) (v183 : CV) (i184 : Int) (x352 : CV) (x354 : CV) (r372 : CV) (r350 : CV) (c348 : List CV) (x349 : CV) (b381 : Bool) (i382 : Int) :
  l31_StatusEnds_L3 lb n (k391 + 1) k347 an1 a2 v183 i184 x352 x354 r372 r350 c348 x349 b381 i382 =
 optO (CV.asL r372) fun p392 =>
 bif (decide (i382 < (p392.2.length : Int))) then
 (bif b381 then
 (l31_StatusEnds_L3 lb n k391 k347 an1 a2 v183 i184 x352 x354 r372 r350 c348 x349 true (IntKind.wrap .i64 (i382 + 1)))
 else
 (optO (CV.asL r372) fun p393 =>
 optO (atL p393.2 i382) fun c394 =>
 chkO (c394.length == 1) (
 optO (c394[0]?) fun x395 =>
 optO (atL a2 i184) fun c396 =>
 chkO (c396.length == 1) (
 optO (c396[0]?) fun x397 =>
 optO (CV.asI .i64 x395) fun i398 =>
 optO (CV.asI .i64 x397) fun i399 =>
 l31_StatusEnds_L3 lb n k391 k347 an1 a2 v183 i184 x352 x354 r372 r350 c348 x349 (i398 == i399) (IntKind.wrap .i64 (i382 + 1))))))
 else
 (l31_StatusEnds_J4 lb n k347 an1 a2 v183 i184 x352 x354 r372 r350 c348 x349 b381 i382) := by kernel_rfl

theorem l31_StatusEnds_L3_zero (lb : Bool) (n : Nat) (k347 : Nat) (an1 : Bool) (a2 : List (List CV)) (v183 : CV) (i184 : Int) (x352 : CV) (x354 : CV) (r372 : CV) (r350 : CV) (c348 : List CV) (x349 : CV) (b381 : Bool) (i382 : Int) :
  l31_StatusEnds_L3 lb n 0 k347 an1 a2 v183 i184 x352 x354 r372 r350 c348 x349 b381 i382 =
 none := by kernel_rfl

noncomputable def l31_StatusEnds_J6 (lb : Bool) (n : Nat) (an1 : Bool) (a2 : List (List CV)) (v478 : CV) (i479 : Int) : Option CV :=
  E0 lb n 0 997 (sub (B F_l31_StatusEnds) [1, 1, 1]) (retK Try.prog (R F_l31_StatusEnds) 0 outK) ⟨fr 107 [(0, .val (.list an1 a2)), (2, .val (.bool false)), (3, .val v478), (4, .val (.int .i64 i479))], [bx 107 []], KK⟩

theorem l31_StatusEnds_J6_eq (lb : Bool) (n : Nat) (an1 : Bool) (a2 : List (List CV)) (v478 : CV) (i479 : Int) :
  l31_StatusEnds_J6 lb n an1 a2 v478 i479 =
 optO (C lb n F_l31_knows []) fun r480 =>
 some (r480) := by kernel_rfl

theorem l31_StatusEnds_L1_succ (lb : Bool) (n k347 : Nat) (an1 : Bool) (a2 : List (List CV)) (v183 : CV) (i184 : Int) :
  l31_StatusEnds_L1 lb n (k347 + 1) an1 a2 v183 i184 =
 bif (decide (i184 < (a2.length : Int))) then
 (bif (decide (i184 < 1000)) then
 (optO (atL a2 i184) fun c348 =>
 chkO (c348.length == 1) (
 optO (c348[0]?) fun x349 =>
 optO (C lb n F_status_Next [v183, x349]) fun r350 =>
 optO (CV.asT r350) fun t351 =>
 optO (t351[0]?) fun x352 =>
 optO (CV.asT r350) fun t353 =>
 optO (t353[1]?) fun x354 =>
 optO (CV.asI .i64 x354) fun i355 =>
 bif (i355 != 0) then
 (optO (CV.asI .i64 x354) fun i356 =>
 bif (i356 != 10) then
 (some (.bool false))
 else
 (optO (CV.asI .i64 x352) fun i357 =>
 bif (i357 != 0) then
 (some (.bool false))
 else
 (l31_StatusEnds_J2 lb n k347 an1 a2 v183 i184 x352 x354)))
 else
 (optO (CV.asI .i64 x352) fun i360 =>
 bif (i360 == 0) then
 (some (.bool false))
 else
 (optO (CV.asI .i64 v183) fun i361 =>
 bif (i361 == 7) then
 (some (.bool false))
 else
 (optO (C lb n F_status_Seat [x352]) fun r362 =>
 optO (CV.asB r362) fun b363 =>
 bif b363 then
 (optO (C lb n F_status_Seat [v183]) fun r364 =>
 optO (CV.asB r364) fun b365 =>
 bif (!b365) then
 (optO (atL a2 i184) fun c366 =>
 chkO (c366.length == 1) (
 optO (c366[0]?) fun x367 =>
 optO (CV.asI .i64 x367) fun i368 =>
 bif (i368 != 1) then
 (optO (atL a2 i184) fun c369 =>
 chkO (c369.length == 1) (
 optO (c369[0]?) fun x370 =>
 optO (CV.asI .i64 x370) fun i371 =>
 bif (i371 != 3) then
 (some (.bool false))
 else
 (optO (C lb n F_status_Events [v183]) fun r372 =>
 l31_StatusEnds_L3 lb n n k347 an1 a2 v183 i184 x352 x354 r372 r350 c348 x349 false 0)))
 else
 (optO (C lb n F_status_Events [v183]) fun r418 =>
 l31_StatusEnds_L3 lb n n k347 an1 a2 v183 i184 x352 x354 r418 r350 c348 x349 false 0)))
 else
 (optO (C lb n F_status_Events [v183]) fun r438 =>
 l31_StatusEnds_L3 lb n n k347 an1 a2 v183 i184 x352 x354 r438 r350 c348 x349 false 0))
 else
 (optO (C lb n F_status_Events [v183]) fun r458 =>
 l31_StatusEnds_L3 lb n n k347 an1 a2 v183 i184 x352 x354 r458 r350 c348 x349 false 0))))))
 else
 (l31_StatusEnds_J6 lb n an1 a2 v183 i184))
 else
 (l31_StatusEnds_J6 lb n an1 a2 v183 i184) := by kernel_rfl

theorem l31_StatusEnds_L1_zero (lb : Bool) (n : Nat) (an1 : Bool) (a2 : List (List CV)) (v183 : CV) (i184 : Int) :
  l31_StatusEnds_L1 lb n 0 an1 a2 v183 i184 =
 none := by kernel_rfl

theorem l31_StatusEnds_eq (lb : Bool) (n : Nat) (an1 : Bool) (a2 : List (List CV)) :
  top lb n F_l31_StatusEnds [.list an1 a2] =
 l31_StatusEnds_L1 lb n n an1 a2 (.int .i64 0) 0 := by kernel_rfl

/-! airline/status.Next -/
theorem status_Next_eq (lb : Bool) (n : Nat) (a1 : Int) (b2 : Int) :
  top lb n F_status_Next [.int .i64 a1, .int .i64 b2] =
 optO (C lb n F_status_after [.int .i64 a1, .int .i64 b2]) fun r3 =>
 optO (CV.asI .i64 r3) fun i4 =>
 bif (i4 == 0) then
 (some (.tup [.int .i64 0, .int .i64 10]))
 else
 (some (.tup [r3, .int .i64 0])) := by kernel_rfl

/-! airline/airlineref31.Next -/
theorem r31_Next_eq (lb : Bool) (n : Nat) (a1 : Int) (b2 : Int) :
  top lb n F_r31_Next [.int .i64 a1, .int .i64 b2] =
 optO (C lb n F_r31_step [.int .i64 a1, .int .i64 b2]) fun r3 =>
 optO (CV.asI .i64 r3) fun i4 =>
 bif (decide (i4 < 0)) then
 (some (.tup [.int .i64 0, .int .i64 10]))
 else
 (some (.tup [r3, .int .i64 0])) := by kernel_rfl

/-! airline/status.Text -/
theorem status_Text_eq (lb : Bool) (n : Nat) (a1 : Int) :
  top lb n F_status_Text [.int .i64 a1] =
 bif (decide (a1 < 1)) then
 (some (.tup [.str [], .int .i64 8]))
 else
 (bif (decide (a1 > 7)) then
 (some (.tup [.str [], .int .i64 8]))
 else
 (chkO (decide ((0 : Int) ≤ (IntKind.wrap .i64 (2 * a1)) ∧ (IntKind.wrap .i64 (2 * a1)) ≤ 14)) (
 chkO (decide ((0 : Int) ≤ (IntKind.wrap .i64 ((IntKind.wrap .i64 (2 * a1)) - 2)) ∧ (IntKind.wrap .i64 ((IntKind.wrap .i64 (2 * a1)) - 2)) ≤ (IntKind.wrap .i64 (2 * a1)))) (
 some (.tup [.str ((([72, 75, 72, 76, 75, 76, 84, 75, 85, 78, 85, 67, 88, 88] : List UInt8).take ((IntKind.wrap .i64 (2 * a1)).toNat)).drop ((IntKind.wrap .i64 ((IntKind.wrap .i64 (2 * a1)) - 2)).toNat)), .int .i64 0]))))) := by kernel_rfl

/-! airline/airlineref31.Text -/
theorem r31_Text_eq (lb : Bool) (n : Nat) (a1 : Int) :
  top lb n F_r31_Text [.int .i64 a1] =
 bif (decide (a1 ≤ 0)) then
 (some (.tup [.str [], .int .i64 8]))
 else
 (bif (decide (a1 > 7)) then
 (some (.tup [.str [], .int .i64 8]))
 else
 (optO (C lb n F_r31_texts []) fun r2 =>
 optO (CV.asL r2) fun p3 =>
 optO (atL p3.2 a1) fun c4 =>
 chkO (c4.length == 1) (
 optO (c4[0]?) fun x5 =>
 some (.tup [x5, .int .i64 0])))) := by kernel_rfl

/-! airline/status.Parse -/
noncomputable def status_Parse_L1 (lb : Bool) (n : Nat) (k3 : Nat) (a1 : List UInt8) (i2 : Int) : Option CV :=
  loopC (E0 lb n 0 995) 0 (loopTemps (sub (B F_status_Parse) [1, 0, 1, 0, 0]) ++ []) [] (sub (B F_status_Parse) [1, 0, 1, 0, 0]) (blockK 0 (seqK (E0 lb n 0 998) (sub (B F_status_Parse) [1, 0]) (sub (B F_status_Parse) [1, 1]) (retK Try.prog (R F_status_Parse) 0 outK))) k3 ⟨fr 18 [(0, .val (.str a1)), (2, .val (.int .i64 0)), (3, .val (.int .i64 0)), (4, .val (.int .i64 i2))], [bx 18 []], KK⟩

noncomputable def status_Parse_J2 (lb : Bool) (n : Nat) (a1 : List UInt8) (i4 : Int) : Option CV :=
  E0 lb n 0 998 (sub (B F_status_Parse) [1, 1]) (retK Try.prog (R F_status_Parse) 0 outK) ⟨fr 18 [(0, .val (.str a1)), (2, .val (.int .i64 0)), (3, .val (.int .i64 0)), (4, .val (.int .i64 i4))], [bx 18 []], KK⟩

theorem status_Parse_J2_eq (lb : Bool) (n : Nat) (a1 : List UInt8) (i4 : Int) :
  status_Parse_J2 lb n a1 i4 =
 some (.tup [.int .i64 0, .int .i64 3]) := by kernel_rfl

theorem status_Parse_L1_succ (lb : Bool) (n k3 : Nat) (a1 : List UInt8) (i2 : Int) :
  status_Parse_L1 lb n (k3 + 1) a1 i2 =
 bif (decide (i2 ≤ 7)) then
 (chkO (decide ((0 : Int) ≤ (IntKind.wrap .i64 (2 * i2)) ∧ (IntKind.wrap .i64 (2 * i2)) ≤ 14)) (
 chkO (decide ((0 : Int) ≤ (IntKind.wrap .i64 ((IntKind.wrap .i64 (2 * i2)) - 2)) ∧ (IntKind.wrap .i64 ((IntKind.wrap .i64 (2 * i2)) - 2)) ≤ (IntKind.wrap .i64 (2 * i2)))) (
 bif (((([72, 75, 72, 76, 75, 76, 84, 75, 85, 78, 85, 67, 88, 88] : List UInt8).take ((IntKind.wrap .i64 (2 * i2)).toNat)).drop ((IntKind.wrap .i64 ((IntKind.wrap .i64 (2 * i2)) - 2)).toNat)) == a1) then
 (some (.tup [.int .i64 i2, .int .i64 0]))
 else
 (status_Parse_L1 lb n k3 a1 (IntKind.wrap .i64 (i2 + 1))))))
 else
 (status_Parse_J2 lb n a1 i2) := by kernel_rfl

theorem status_Parse_L1_zero (lb : Bool) (n : Nat) (a1 : List UInt8) (i2 : Int) :
  status_Parse_L1 lb n 0 a1 i2 =
 none := by kernel_rfl

theorem status_Parse_eq (lb : Bool) (n : Nat) (a1 : List UInt8) :
  top lb n F_status_Parse [.str a1] =
 status_Parse_L1 lb n n a1 1 := by kernel_rfl

/-! airline/airlineref31.Parse -/
noncomputable def r31_Parse_L1 (lb : Bool) (n : Nat) (k19 : Nat) (a1 : List UInt8) (i10 : Int) : Option CV :=
  loopC (E0 lb n 0 995) 0 (loopTemps (sub (B F_r31_Parse) [1, 0, 1, 0, 0]) ++ []) [] (sub (B F_r31_Parse) [1, 0, 1, 0, 0]) (blockK 0 (seqK (E0 lb n 0 998) (sub (B F_r31_Parse) [1, 0]) (sub (B F_r31_Parse) [1, 1]) (retK Try.prog (R F_r31_Parse) 0 outK))) k19 ⟨fr 18 [(0, .val (.str a1)), (2, .val (.int .i64 0)), (3, .val (.int .i64 0)), (4, .val (.int .i64 i10))], [bx 18 []], KK⟩

noncomputable def r31_Parse_J2 (lb : Bool) (n : Nat) (a1 : List UInt8) (i27 : Int) : Option CV :=
  E0 lb n 0 998 (sub (B F_r31_Parse) [1, 1]) (retK Try.prog (R F_r31_Parse) 0 outK) ⟨fr 18 [(0, .val (.str a1)), (2, .val (.int .i64 0)), (3, .val (.int .i64 0)), (4, .val (.int .i64 i27))], [bx 18 []], KK⟩

theorem r31_Parse_J2_eq (lb : Bool) (n : Nat) (a1 : List UInt8) (i27 : Int) :
  r31_Parse_J2 lb n a1 i27 =
 some (.tup [.int .i64 0, .int .i64 3]) := by kernel_rfl

theorem r31_Parse_L1_succ (lb : Bool) (n k19 : Nat) (a1 : List UInt8) (i10 : Int) :
  r31_Parse_L1 lb n (k19 + 1) a1 i10 =
 optO (C lb n F_r31_texts []) fun r20 =>
 optO (CV.asL r20) fun p21 =>
 bif (decide (i10 < (p21.2.length : Int))) then
 (optO (C lb n F_r31_texts []) fun r22 =>
 optO (CV.asL r22) fun p23 =>
 optO (atL p23.2 i10) fun c24 =>
 chkO (c24.length == 1) (
 optO (c24[0]?) fun x25 =>
 optO (CV.asS x25) fun s26 =>
 bif (s26 == a1) then
 (some (.tup [.int .i64 i10, .int .i64 0]))
 else
 (r31_Parse_L1 lb n k19 a1 (IntKind.wrap .i64 (i10 + 1)))))
 else
 (r31_Parse_J2 lb n a1 i10) := by kernel_rfl

theorem r31_Parse_L1_zero (lb : Bool) (n : Nat) (a1 : List UInt8) (i10 : Int) :
  r31_Parse_L1 lb n 0 a1 i10 =
 none := by kernel_rfl

theorem r31_Parse_eq (lb : Bool) (n : Nat) (a1 : List UInt8) :
  top lb n F_r31_Parse [.str a1] =
 r31_Parse_L1 lb n n a1 1 := by kernel_rfl

/-! airline/status.Seat -/
theorem status_Seat_eq (lb : Bool) (n : Nat) (a1 : Int) :
  top lb n F_status_Seat [.int .i64 a1] =
 bif (a1 == 1) then
 (some (.bool true))
 else
 (bif (a1 == 3) then
 (some (.bool true))
 else
 (some (.bool (a1 == 4)))) := by kernel_rfl

/-! airline/airlineref31.Seat -/
theorem r31_Seat_eq (lb : Bool) (n : Nat) (a1 : Int) :
  top lb n F_r31_Seat [.int .i64 a1] =
 bif (a1 == 1) then
 (some (.bool true))
 else
 (bif (a1 == 3) then
 (some (.bool true))
 else
 (some (.bool (a1 == 4)))) := by kernel_rfl

/-! airline/status.Live -/
theorem status_Live_eq (lb : Bool) (n : Nat) (a1 : Int) :
  top lb n F_status_Live [.int .i64 a1] =
 optO (C lb n F_status_Seat [.int .i64 a1]) fun r2 =>
 optO (CV.asB r2) fun b3 =>
 bif b3 then
 (some (.bool true))
 else
 (some (.bool (a1 == 2))) := by kernel_rfl

/-! airline/airlineref31.Live -/
theorem r31_Live_eq (lb : Bool) (n : Nat) (a1 : Int) :
  top lb n F_r31_Live [.int .i64 a1] =
 optO (C lb n F_r31_Seat [.int .i64 a1]) fun r2 =>
 optO (CV.asB r2) fun b3 =>
 bif b3 then
 (some (.bool true))
 else
 (some (.bool (a1 == 2))) := by kernel_rfl

/-! airline/status.Events -/
noncomputable def status_Events_L1 (lb : Bool) (n : Nat) (k13 : Nat) (a1 : Int) (b7 : Bool) (l9 : List (List CV)) (i10 : Int) : Option CV :=
  loopC (E0 lb n 0 994) 0 (loopTemps (sub (B F_status_Events) [1, 1, 0, 1, 0, 0]) ++ []) [] (sub (B F_status_Events) [1, 1, 0, 1, 0, 0]) (blockK 0 (seqK (E0 lb n 0 997) (sub (B F_status_Events) [1, 1, 0]) (sub (B F_status_Events) [1, 1, 1]) (retK Try.prog (R F_status_Events) 0 outK))) k13 ⟨fr 18 [(0, .val (.int .i64 a1)), (2, .lst true true 3 []), (3, .lst true b7 3 l9), (4, .val (.int .i64 i10))], [bx 18 []], KK⟩

noncomputable def status_Events_J2 (lb : Bool) (n : Nat) (a1 : Int) (b17 : Bool) (l18 : List (List CV)) (i19 : Int) : Option CV :=
  E0 lb n 0 997 (sub (B F_status_Events) [1, 1, 1]) (retK Try.prog (R F_status_Events) 0 outK) ⟨fr 18 [(0, .val (.int .i64 a1)), (2, .lst true true 3 []), (3, .lst true b17 3 l18), (4, .val (.int .i64 i19))], [bx 18 []], KK⟩

theorem status_Events_J2_eq (lb : Bool) (n : Nat) (a1 : Int) (b17 : Bool) (l18 : List (List CV)) (i19 : Int) :
  status_Events_J2 lb n a1 b17 l18 i19 =
 some (.list b17 l18) := by kernel_rfl

theorem status_Events_L1_succ (lb : Bool) (n k13 : Nat) (a1 : Int) (b7 : Bool) (l9 : List (List CV)) (i10 : Int) :
  status_Events_L1 lb n (k13 + 1) a1 b7 l9 i10 =
 bif (decide (i10 ≤ 8)) then
 (optO (C lb n F_status_after [.int .i64 a1, .int .i64 i10]) fun r14 =>
 optO (CV.asI .i64 r14) fun i15 =>
 bif (i15 != 0) then
 (chkO (room (l9.length + 1) 8) (
 status_Events_L1 lb n k13 a1 (b7 && false) (l9 ++ [[.int .i64 i10]]) (IntKind.wrap .i64 (i10 + 1))))
 else
 (status_Events_L1 lb n k13 a1 b7 l9 (IntKind.wrap .i64 (i10 + 1))))
 else
 (status_Events_J2 lb n a1 b7 l9 i10) := by kernel_rfl

theorem status_Events_L1_zero (lb : Bool) (n : Nat) (a1 : Int) (b7 : Bool) (l9 : List (List CV)) (i10 : Int) :
  status_Events_L1 lb n 0 a1 b7 l9 i10 =
 none := by kernel_rfl

theorem status_Events_eq (lb : Bool) (n : Nat) (a1 : Int) :
  top lb n F_status_Events [.int .i64 a1] =
 status_Events_L1 lb n n a1 true [] 1 := by kernel_rfl

/-! airline/airlineref31.Events -/
noncomputable def r31_Events_L1 (lb : Bool) (n : Nat) (k13 : Nat) (a1 : Int) (b7 : Bool) (l9 : List (List CV)) (i10 : Int) : Option CV :=
  loopC (E0 lb n 0 994) 0 (loopTemps (sub (B F_r31_Events) [1, 1, 0, 1, 0, 0]) ++ []) [] (sub (B F_r31_Events) [1, 1, 0, 1, 0, 0]) (blockK 0 (seqK (E0 lb n 0 997) (sub (B F_r31_Events) [1, 1, 0]) (sub (B F_r31_Events) [1, 1, 1]) (retK Try.prog (R F_r31_Events) 0 outK))) k13 ⟨fr 18 [(0, .val (.int .i64 a1)), (2, .lst true true 3 []), (3, .lst true b7 3 l9), (4, .val (.int .i64 i10))], [bx 18 []], KK⟩

noncomputable def r31_Events_J2 (lb : Bool) (n : Nat) (a1 : Int) (b17 : Bool) (l18 : List (List CV)) (i19 : Int) : Option CV :=
  E0 lb n 0 997 (sub (B F_r31_Events) [1, 1, 1]) (retK Try.prog (R F_r31_Events) 0 outK) ⟨fr 18 [(0, .val (.int .i64 a1)), (2, .lst true true 3 []), (3, .lst true b17 3 l18), (4, .val (.int .i64 i19))], [bx 18 []], KK⟩

theorem r31_Events_J2_eq (lb : Bool) (n : Nat) (a1 : Int) (b17 : Bool) (l18 : List (List CV)) (i19 : Int) :
  r31_Events_J2 lb n a1 b17 l18 i19 =
 some (.list b17 l18) := by kernel_rfl

theorem r31_Events_L1_succ (lb : Bool) (n k13 : Nat) (a1 : Int) (b7 : Bool) (l9 : List (List CV)) (i10 : Int) :
  r31_Events_L1 lb n (k13 + 1) a1 b7 l9 i10 =
 bif (decide (i10 ≤ 8)) then
 (optO (C lb n F_r31_step [.int .i64 a1, .int .i64 i10]) fun r14 =>
 optO (CV.asI .i64 r14) fun i15 =>
 bif (decide (i15 ≥ 0)) then
 (chkO (room (l9.length + 1) 8) (
 r31_Events_L1 lb n k13 a1 (b7 && false) (l9 ++ [[.int .i64 i10]]) (IntKind.wrap .i64 (i10 + 1))))
 else
 (r31_Events_L1 lb n k13 a1 b7 l9 (IntKind.wrap .i64 (i10 + 1))))
 else
 (r31_Events_J2 lb n a1 b7 l9 i10) := by kernel_rfl

theorem r31_Events_L1_zero (lb : Bool) (n : Nat) (a1 : Int) (b7 : Bool) (l9 : List (List CV)) (i10 : Int) :
  r31_Events_L1 lb n 0 a1 b7 l9 i10 =
 none := by kernel_rfl

theorem r31_Events_eq (lb : Bool) (n : Nat) (a1 : Int) :
  top lb n F_r31_Events [.int .i64 a1] =
 r31_Events_L1 lb n n a1 true [] 1 := by kernel_rfl

/-! airline/airlinelaw31.knows -/
theorem l31_knows_eq (lb : Bool) (n : Nat)  :
  top lb n F_l31_knows [] =
 optO (C lb n F_status_Next [.int .i64 2, .int .i64 3]) fun r1 =>
 optO (CV.asT r1) fun t2 =>
 optO (t2[0]?) fun x3 =>
 optO (CV.asT r1) fun t4 =>
 optO (t4[1]?) fun x5 =>
 optO (C lb n F_status_Next [.int .i64 7, .int .i64 1]) fun r6 =>
 optO (CV.asT r6) fun t7 =>
 optO (t7[0]?) fun x9 =>
 optO (CV.asT r6) fun t10 =>
 optO (t10[1]?) fun x11 =>
 optO (C lb n F_status_Text [.int .i64 4]) fun r12 =>
 optO (CV.asT r12) fun t13 =>
 optO (t13[0]?) fun x14 =>
 optO (CV.asT r12) fun t15 =>
 optO (t15[1]?) fun x17 =>
 optO (C lb n F_status_Parse [.str [104, 107]]) fun r18 =>
 optO (CV.asT r18) fun t19 =>
 optO (t19[0]?) fun x20 =>
 optO (CV.asT r18) fun t21 =>
 optO (t21[1]?) fun x22 =>
 optO (C lb n F_status_Events [.int .i64 5]) fun r23 =>
 optO (CV.asI .i64 x3) fun i24 =>
 bif (i24 == 3) then
 (optO (CV.asI .i64 x5) fun i25 =>
 bif (i25 == 0) then
 (optO (CV.asI .i64 x11) fun i26 =>
 bif (i26 == 10) then
 (optO (CV.asS x14) fun s27 =>
 bif (s27 == [84, 75]) then
 (optO (CV.asI .i64 x17) fun i28 =>
 bif (i28 == 0) then
 (optO (CV.asI .i64 x22) fun i29 =>
 bif (i29 == 3) then
 (optO (CV.asL r23) fun p30 =>
 bif ((p30.2.length : Int) == 2) then
 (optO (CV.asL r23) fun p31 =>
 optO (atL p31.2 0) fun c33 =>
 chkO (c33.length == 1) (
 optO (c33[0]?) fun x34 =>
 optO (CV.asI .i64 x34) fun i35 =>
 bif (i35 == 1) then
 (optO (CV.asL r23) fun p36 =>
 optO (atL p36.2 1) fun c37 =>
 chkO (c37.length == 1) (
 optO (c37[0]?) fun x38 =>
 optO (CV.asI .i64 x38) fun i39 =>
 bif (i39 == 8) then
 (optO (C lb n F_status_Seat [.int .i64 2]) fun r40 =>
 optO (CV.asB r40) fun b41 =>
 bif (!b41) then
 (optO (C lb n F_status_Live [.int .i64 2]) fun r42 =>
 some (r42))
 else
 (some (.bool false)))
 else
 (some (.bool false))))
 else
 (some (.bool false))))
 else
 (some (.bool false)))
 else
 (some (.bool false)))
 else
 (some (.bool false)))
 else
 (some (.bool false)))
 else
 (some (.bool false)))
 else
 (some (.bool false)))
 else
 (some (.bool false)) := by kernel_rfl

/-! airline/status.after -/
theorem status_after_eq (lb : Bool) (n : Nat) (a1 : Int) (b2 : Int) :
  top lb n F_status_after [.int .i64 a1, .int .i64 b2] =
 bif (a1 == 0) then
 (bif (b2 == 1) then
 (some (.int .i64 1))
 else
 (bif (b2 == 2) then
 (some (.int .i64 2))
 else
 (some (.int .i64 0))))
 else
 (bif (a1 == 3) then
 (bif (b2 == 7) then
 (some (.int .i64 1))
 else
 (bif (b2 == 5) then
 (some (.int .i64 4))
 else
 (optO (C lb n F_status_dropped [.int .i64 b2]) fun r3 =>
 some (r3))))
 else
 (bif (a1 == 4) then
 (bif (b2 == 7) then
 (some (.int .i64 1))
 else
 (bif (b2 == 5) then
 (some (.int .i64 4))
 else
 (optO (C lb n F_status_dropped [.int .i64 b2]) fun r4 =>
 some (r4))))
 else
 (bif (a1 == 1) then
 (bif (b2 == 5) then
 (some (.int .i64 4))
 else
 (optO (C lb n F_status_dropped [.int .i64 b2]) fun r5 =>
 some (r5)))
 else
 (bif (a1 == 2) then
 (bif (b2 == 3) then
 (some (.int .i64 3))
 else
 (bif (b2 == 4) then
 (some (.int .i64 6))
 else
 (optO (C lb n F_status_dropped [.int .i64 b2]) fun r6 =>
 some (r6))))
 else
 (bif (a1 == 5) then
 (bif (b2 == 1) then
 (some (.int .i64 1))
 else
 (bif (b2 == 8) then
 (some (.int .i64 7))
 else
 (some (.int .i64 0))))
 else
 (bif (a1 == 6) then
 (bif (b2 == 8) then
 (some (.int .i64 7))
 else
 (some (.int .i64 0)))
 else
 (some (.int .i64 0)))))))) := by kernel_rfl

/-! airline/airlineref31.step -/
theorem r31_step_eq (lb : Bool) (n : Nat) (a1 : Int) (b2 : Int) :
  top lb n F_r31_step [.int .i64 a1, .int .i64 b2] =
 bif (a1 == 1) then
 (bif (b2 == 1) then
 (bif (a1 == 0) then
 (some (.int .i64 1))
 else
 (bif (a1 == 5) then
 (some (.int .i64 1))
 else
 (some (.int .i64 (-1)))))
 else
 (bif (b2 == 2) then
 (bif (a1 == 0) then
 (some (.int .i64 2))
 else
 (some (.int .i64 (-1))))
 else
 (bif (b2 == 3) then
 (bif (a1 == 2) then
 (some (.int .i64 3))
 else
 (some (.int .i64 (-1))))
 else
 (bif (b2 == 4) then
 (bif (a1 == 2) then
 (some (.int .i64 6))
 else
 (some (.int .i64 (-1))))
 else
 (bif (b2 == 5) then
 (some (.int .i64 4))
 else
 (bif (b2 == 6) then
 (some (.int .i64 5))
 else
 (bif (b2 == 7) then
 (bif (a1 == 3) then
 (some (.int .i64 1))
 else
 (bif (a1 == 4) then
 (some (.int .i64 1))
 else
 (some (.int .i64 (-1)))))
 else
 (bif (b2 == 8) then
 (bif (decide (a1 > 0)) then
 (bif (decide (a1 < 7)) then
 (some (.int .i64 7))
 else
 (some (.int .i64 (-1))))
 else
 (some (.int .i64 (-1))))
 else
 (some (.int .i64 (-1)))))))))))
 else
 (bif (a1 == 3) then
 (bif (b2 == 1) then
 (bif (a1 == 0) then
 (some (.int .i64 1))
 else
 (bif (a1 == 5) then
 (some (.int .i64 1))
 else
 (some (.int .i64 (-1)))))
 else
 (bif (b2 == 2) then
 (bif (a1 == 0) then
 (some (.int .i64 2))
 else
 (some (.int .i64 (-1))))
 else
 (bif (b2 == 3) then
 (bif (a1 == 2) then
 (some (.int .i64 3))
 else
 (some (.int .i64 (-1))))
 else
 (bif (b2 == 4) then
 (bif (a1 == 2) then
 (some (.int .i64 6))
 else
 (some (.int .i64 (-1))))
 else
 (bif (b2 == 5) then
 (some (.int .i64 4))
 else
 (bif (b2 == 6) then
 (some (.int .i64 5))
 else
 (bif (b2 == 7) then
 (bif (a1 == 3) then
 (some (.int .i64 1))
 else
 (bif (a1 == 4) then
 (some (.int .i64 1))
 else
 (some (.int .i64 (-1)))))
 else
 (bif (b2 == 8) then
 (bif (decide (a1 > 0)) then
 (bif (decide (a1 < 7)) then
 (some (.int .i64 7))
 else
 (some (.int .i64 (-1))))
 else
 (some (.int .i64 (-1))))
 else
 (some (.int .i64 (-1)))))))))))
 else
 (bif (b2 == 1) then
 (bif (a1 == 0) then
 (some (.int .i64 1))
 else
 (bif (a1 == 5) then
 (some (.int .i64 1))
 else
 (some (.int .i64 (-1)))))
 else
 (bif (b2 == 2) then
 (bif (a1 == 0) then
 (some (.int .i64 2))
 else
 (some (.int .i64 (-1))))
 else
 (bif (b2 == 3) then
 (bif (a1 == 2) then
 (some (.int .i64 3))
 else
 (some (.int .i64 (-1))))
 else
 (bif (b2 == 4) then
 (bif (a1 == 2) then
 (some (.int .i64 6))
 else
 (some (.int .i64 (-1))))
 else
 (bif (b2 == 5) then
 (bif (a1 == 4) then
 (some (.int .i64 4))
 else
 (some (.int .i64 (-1))))
 else
 (bif (b2 == 6) then
 (bif (a1 == 4) then
 (some (.int .i64 5))
 else
 (bif (a1 == 2) then
 (some (.int .i64 5))
 else
 (some (.int .i64 (-1)))))
 else
 (bif (b2 == 7) then
 (bif (a1 == 3) then
 (some (.int .i64 1))
 else
 (bif (a1 == 4) then
 (some (.int .i64 1))
 else
 (some (.int .i64 (-1)))))
 else
 (bif (b2 == 8) then
 (bif (decide (a1 > 0)) then
 (bif (decide (a1 < 7)) then
 (some (.int .i64 7))
 else
 (some (.int .i64 (-1))))
 else
 (some (.int .i64 (-1))))
 else
 (some (.int .i64 (-1)))))))))))) := by kernel_rfl

/-! airline/airlineref31.texts -/
theorem r31_texts_eq (lb : Bool) (n : Nat)  :
  top lb n F_r31_texts [] =
 some (.list false [[.str []], [.str [72, 75]], [.str [72, 76]], [.str [75, 76]], [.str [84, 75]], [.str [85, 78]], [.str [85, 67]], [.str [88, 88]]]) := by kernel_rfl

/-! airline/status.dropped -/
theorem status_dropped_eq (lb : Bool) (n : Nat) (a1 : Int) :
  top lb n F_status_dropped [.int .i64 a1] =
 bif (a1 == 6) then
 (some (.int .i64 5))
 else
 (bif (a1 == 8) then
 (some (.int .i64 7))
 else
 (some (.int .i64 0))) := by kernel_rfl

end Go.Proofs
