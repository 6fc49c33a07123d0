/- Equations of functions, printed by program. Conditions: none. -/
import Derived.Test.YtiffhngfneikoaaDoorEv
namespace Go.Proofs
open Go.Am
set_option maxRecDepth 100000
set_option linter.unusedVariables false
/-! airline/airlinelaw36.JournalSums -/
theorem l36_JournalSums_eq (lb : Bool) (n : Nat) (a1 : Int) (b2 : List UInt8) :
  top lb n F_l36_JournalSums [.int .i64 a1, .str b2] =
 bif (decide ((b2.length : Int) > 2000)) then
 (optO (C lb n F_l36_awake []) fun r3 =>
 some (r3))
 else
 (optO (C lb n F_journal_Sum [.int .i64 a1, .str b2]) fun r4 =>
 optO (C lb n F_r36_Sum [.int .i64 a1, .str b2]) fun r5 =>
 optO (CV.asI .i64 r4) fun i6 =>
 optO (CV.asI .i64 r5) fun i7 =>
 bif (i6 == i7) then
 (optO (C lb n F_l36_awake []) fun r9 =>
 some (r9))
 else
 (some (.bool false))) := by kernel_rfl

/-! airline/airlinelaw36.JournalVerifies -/
theorem l36_JournalVerifies_eq (lb : Bool) (n : Nat) (an1 : Bool) (a2 : List (List CV)) :
  top lb n F_l36_JournalVerifies [.list an1 a2] =
 optO (C lb n F_r36_Big [.list an1 a2]) fun r3 =>
 optO (CV.asB r3) fun b4 =>
 bif b4 then
 (optO (C lb n F_l36_awake []) fun r5 =>
 some (r5))
 else
 (optO (C lb n F_l36_to [.list an1 a2]) fun r6 =>
 optO (C lb n F_journal_Verify [r6]) fun r7 =>
 optO (CV.asT r7) fun t9 =>
 optO (t9[0]?) fun x10 =>
 optO (CV.asT r7) fun t11 =>
 optO (t11[1]?) fun x12 =>
 optO (C lb n F_r36_Verify [.list an1 a2]) fun r13 =>
 optO (CV.asT r13) fun t14 =>
 optO (t14[0]?) fun x15 =>
 optO (CV.asT r13) fun t17 =>
 optO (t17[1]?) fun x18 =>
 optO (CV.asI .i64 x10) fun i19 =>
 optO (CV.asI .i64 x15) fun i20 =>
 bif (i19 == i20) then
 (optO (CV.asI .i64 x12) fun i21 =>
 optO (CV.asI .i64 x18) fun i22 =>
 bif (i21 == i22) then
 (optO (C lb n F_l36_awake []) fun r23 =>
 some (r23))
 else
 (some (.bool false)))
 else
 (some (.bool false))) := by kernel_rfl

/-! airline/airlinelaw36.JournalClashes -/
theorem l36_JournalClashes_eq (lb : Bool) (n : Nat) (an1 : Bool) (a2 : List (List CV)) (bn3 : Bool) (b4 : List (List CV)) :
  top lb n F_l36_JournalClashes [.list an1 a2, .list bn3 b4] =
 optO (C lb n F_r36_Big [.list an1 a2]) fun r5 =>
 optO (CV.asB r5) fun b6 =>
 bif b6 then
 (optO (C lb n F_l36_awake []) fun r7 =>
 some (r7))
 else
 (optO (C lb n F_r36_Big [.list bn3 b4]) fun r9 =>
 optO (CV.asB r9) fun b10 =>
 bif b10 then
 (optO (C lb n F_l36_awake []) fun r11 =>
 some (r11))
 else
 (optO (C lb n F_l36_to [.list an1 a2]) fun r12 =>
 optO (C lb n F_l36_to [.list bn3 b4]) fun r13 =>
 optO (C lb n F_journal_Clash [r12, r13]) fun r14 =>
 optO (CV.asT r14) fun t15 =>
 optO (t15[0]?) fun x17 =>
 optO (CV.asT r14) fun t18 =>
 optO (t18[1]?) fun x19 =>
 optO (CV.asT r14) fun t20 =>
 optO (t20[2]?) fun x21 =>
 optO (CV.asA x17) fun c22 =>
 chkO (c22.length == 3) (
 optO (c22[0]?) fun x23 =>
 optO (c22[1]?) fun x24 =>
 optO (c22[2]?) fun x25 =>
 optO (CV.asA x19) fun c26 =>
 chkO (c26.length == 3) (
 optO (c26[0]?) fun x27 =>
 optO (c26[1]?) fun x28 =>
 optO (c26[2]?) fun x29 =>
 optO (C lb n F_r36_Clash [.list an1 a2, .list bn3 b4]) fun r30 =>
 optO (CV.asT r30) fun t31 =>
 optO (t31[0]?) fun x33 =>
 optO (CV.asT r30) fun t34 =>
 optO (t34[1]?) fun x35 =>
 optO (CV.asT r30) fun t36 =>
 optO (t36[2]?) fun x37 =>
 optO (CV.asA x33) fun c38 =>
 chkO (c38.length == 3) (
 optO (c38[0]?) fun x39 =>
 optO (c38[1]?) fun x40 =>
 optO (c38[2]?) fun x41 =>
 optO (CV.asA x35) fun c42 =>
 chkO (c42.length == 3) (
 optO (c42[0]?) fun x43 =>
 optO (c42[1]?) fun x44 =>
 optO (c42[2]?) fun x45 =>
 optO (CV.asB x21) fun b46 =>
 optO (CV.asB x37) fun b47 =>
 bif (!(b46 == b47)) then
 (some (.bool false))
 else
 (optO (CV.asI .i64 x23) fun i48 =>
 optO (CV.asI .i64 x39) fun i49 =>
 optO (CV.asS x24) fun s50 =>
 optO (CV.asS x40) fun s51 =>
 optO (CV.asI .i64 x25) fun i52 =>
 optO (CV.asI .i64 x41) fun i53 =>
 bif (!((i48 == i49) && ((s50 == s51) && ((i52 == i53) && true)))) then
 (some (.bool false))
 else
 (optO (CV.asI .i64 x27) fun i54 =>
 optO (CV.asI .i64 x43) fun i55 =>
 optO (CV.asS x28) fun s56 =>
 optO (CV.asS x44) fun s57 =>
 optO (CV.asI .i64 x29) fun i58 =>
 optO (CV.asI .i64 x45) fun i59 =>
 bif (!((i54 == i55) && ((s56 == s57) && ((i58 == i59) && true)))) then
 (some (.bool false))
 else
 (optO (C lb n F_l36_to [.list an1 a2]) fun r60 =>
 optO (C lb n F_journal_Verify [r60]) fun r61 =>
 optO (CV.asT r61) fun t62 =>
 optO (t62[0]?) fun x63 =>
 optO (CV.asT r61) fun t65 =>
 optO (t65[1]?) fun x66 =>
 optO (C lb n F_l36_to [.list bn3 b4]) fun r67 =>
 optO (C lb n F_journal_Verify [r67]) fun r68 =>
 optO (CV.asT r68) fun t69 =>
 optO (t69[0]?) fun x70 =>
 optO (CV.asT r68) fun t71 =>
 optO (t71[1]?) fun x72 =>
 optO (CV.asI .i64 x66) fun i73 =>
 bif (i73 != 0) then
 (optO (CV.asB x21) fun b74 =>
 bif (!b74) then
 (optO (C lb n F_l36_awake []) fun r75 =>
 some (r75))
 else
 (some (.bool false)))
 else
 (optO (CV.asI .i64 x72) fun i76 =>
 bif (i76 != 0) then
 (optO (CV.asB x21) fun b77 =>
 bif (!b77) then
 (optO (C lb n F_l36_awake []) fun r78 =>
 some (r78))
 else
 (some (.bool false)))
 else
 (bif ((a2.length : Int) == 0) then
 (optO (CV.asB x21) fun b79 =>
 bif (!b79) then
 (optO (C lb n F_l36_awake []) fun r80 =>
 some (r80))
 else
 (some (.bool false)))
 else
 (bif ((b4.length : Int) != (a2.length : Int)) then
 (optO (CV.asB x21) fun b81 =>
 bif (!b81) then
 (optO (C lb n F_l36_awake []) fun r82 =>
 some (r82))
 else
 (some (.bool false)))
 else
 (optO (atL a2 (IntKind.wrap .i64 ((a2.length : Int) - 1))) fun c83 =>
 chkO (c83.length == 3) (
 optO (c83[2]?) fun x84 =>
 optO (atL b4 (IntKind.wrap .i64 ((a2.length : Int) - 1))) fun c85 =>
 chkO (c85.length == 3) (
 optO (c85[2]?) fun x86 =>
 optO (CV.asI .i64 x84) fun i87 =>
 optO (CV.asI .i64 x86) fun i88 =>
 bif (i87 != i88) then
 (optO (CV.asB x21) fun b89 =>
 bif (!b89) then
 (optO (C lb n F_l36_awake []) fun r90 =>
 some (r90))
 else
 (some (.bool false)))
 else
 (optO (C lb n F_r36_Same [.list an1 a2, .list bn3 b4]) fun r91 =>
 optO (CV.asB x21) fun b92 =>
 optO (CV.asB r91) fun b93 =>
 bif (!(b92 == b93)) then
 (optO (CV.asB x21) fun b94 =>
 bif (!b94) then
 (optO (C lb n F_l36_awake []) fun r95 =>
 some (r95))
 else
 (optO (CV.asS x24) fun s96 =>
 optO (CV.asS x28) fun s97 =>
 bif (!(s96 == s97)) then
 (optO (CV.asI .i64 x25) fun i98 =>
 optO (CV.asI .i64 x29) fun i99 =>
 bif (i98 == i99) then
 (optO (C lb n F_l36_awake []) fun r100 =>
 some (r100))
 else
 (some (.bool false)))
 else
 (some (.bool false))))
 else
 (some (.bool false)))))))))))))))))) := by kernel_rfl

/-! airline/journal.Sum -/
noncomputable def journal_Sum_J1 (lb : Bool) (n : Nat) (a1 : Int) (b2 : List UInt8) (i3 : Int) : Option CV :=
  hold (E0 lb n 0 997 (sub (B F_journal_Sum) [1, 1, 1]) (retK Tryd.prog (R F_journal_Sum) 0 (outK (tightF Tryd.prog F_journal_Sum))) ⟨fr 31 [(0, .val (.int .i64 a1)), (1, .val (.str b2)), (4, .val (.int .i64 0)), (5, .val (.int .i64 i3)), (7, .val (.int .i64 a1)), (8, .val (.int .i64 (Int.tmod a1 2147483647)))], [bx 31 []], KK⟩)

noncomputable def journal_Sum_L2 (lb : Bool) (n : Nat) (k9 : Nat) (a1 : Int) (b2 : List UInt8) (i5 : Int) (i6 : Int) : Option CV :=
  hold (loopC (E0 lb n 0 993) 0 (loopTemps (sub (B F_journal_Sum) [1, 1, 1, 0, 1, 0, 0]) ++ [6]) [] (sub (B F_journal_Sum) [1, 1, 1, 0, 1, 0, 0]) (blockK 0 (seqK (E0 lb n 0 996) (sub (B F_journal_Sum) [1, 1, 1, 0]) (sub (B F_journal_Sum) [1, 1, 1, 1]) (retK Tryd.prog (R F_journal_Sum) 0 (outK (tightF Tryd.prog F_journal_Sum))))) k9 ⟨fr 31 [(0, .val (.int .i64 a1)), (1, .val (.str b2)), (4, .val (.int .i64 0)), (5, .val (.int .i64 i5)), (7, .val (.int .i64 a1)), (8, .val (.int .i64 (Int.tmod a1 2147483647))), (13, .val (.str b2)), (14, .val (.int .i64 (b2.length : Int))), (15, .val (.int .i64 i6))], [bx 31 []], KK⟩)

noncomputable def journal_Sum_J3 (lb : Bool) (n : Nat) (a1 : Int) (b2 : List UInt8) (i11 : Int) : Option CV :=
  hold (E0 lb n 0 996 (sub (B F_journal_Sum) [1, 1, 1, 1]) (retK Tryd.prog (R F_journal_Sum) 0 (outK (tightF Tryd.prog F_journal_Sum))) ⟨fr 31 [(0, .val (.int .i64 a1)), (1, .val (.str b2)), (4, .val (.int .i64 0)), (5, .val (.int .i64 i11)), (7, .val (.int .i64 a1)), (8, .val (.int .i64 (Int.tmod a1 2147483647)))], [bx 31 []], KK⟩)

theorem journal_Sum_J3_eq (lb : Bool) (n : Nat) (a1 : Int) (b2 : List UInt8) (i11 : Int) :
  journal_Sum_J3 lb n a1 b2 i11 =
 some (.int .i64 (Int.tmod (IntKind.wrap .i64 (257 * i11)) 2147483647)) := (hold_eq _).trans (by kernel_rfl)

theorem journal_Sum_L2_succ (lb : Bool) (n k9 : Nat) (a1 : Int) (b2 : List UInt8) (i5 : Int) (i6 : Int) :
  journal_Sum_L2 lb n (k9 + 1) a1 b2 i5 i6 =
 bif (decide (i6 < (b2.length : Int))) then
 (optO (atS b2 i6) fun c10 =>
 journal_Sum_L2 lb n k9 a1 b2 (Int.tmod (IntKind.wrap .i64 ((IntKind.wrap .i64 ((IntKind.wrap .i64 (257 * i5)) + (IntKind.wrap .i64 ((c10.toNat : Int))))) + 1)) 2147483647) (IntKind.wrap .i64 (i6 + 1)))
 else
 (journal_Sum_J3 lb n a1 b2 i5) := (hold_eq _).trans (by kernel_rfl)

theorem journal_Sum_L2_zero (lb : Bool) (n : Nat) (a1 : Int) (b2 : List UInt8) (i5 : Int) (i6 : Int) :
  journal_Sum_L2 lb n 0 a1 b2 i5 i6 =
 none := (hold_eq _).trans (by kernel_rfl)

theorem journal_Sum_J1_eq (lb : Bool) (n : Nat) (a1 : Int) (b2 : List UInt8) (i3 : Int) :
  journal_Sum_J1 lb n a1 b2 i3 =
 journal_Sum_L2 lb n n a1 b2 i3 0 := (hold_eq _).trans (by kernel_rfl)

theorem journal_Sum_eq (lb : Bool) (n : Nat) (a1 : Int) (b2 : List UInt8) :
  top lb n F_journal_Sum [.int .i64 a1, .str b2] =
 bif (decide ((Int.tmod a1 2147483647) < 0)) then
 (journal_Sum_J1 lb n a1 b2 (IntKind.wrap .i64 ((Int.tmod a1 2147483647) + 2147483647)))
 else
 (journal_Sum_J1 lb n a1 b2 (Int.tmod a1 2147483647)) := by kernel_rfl

/-! airline/airlineref36.Sum -/
noncomputable def r36_Sum_J1 (lb : Bool) (n : Nat) (a1 : Int) (b2 : List UInt8) (i3 : Int) : Option CV :=
  hold (E0 lb n 0 997 (sub (B F_r36_Sum) [1, 1, 1]) (retK Tryd.prog (R F_r36_Sum) 0 (outK (tightF Tryd.prog F_r36_Sum))) ⟨fr 31 [(0, .val (.int .i64 a1)), (1, .val (.str b2)), (4, .val (.int .i64 0)), (5, .val (.int .i64 i3)), (7, .val (.int .i64 a1)), (8, .val (.int .i64 (Int.tmod a1 2147483647)))], [bx 31 []], KK⟩)

noncomputable def r36_Sum_L2 (lb : Bool) (n : Nat) (k9 : Nat) (a1 : Int) (b2 : List UInt8) (i5 : Int) (i6 : Int) : Option CV :=
  hold (loopC (E0 lb n 0 993) 0 (loopTemps (sub (B F_r36_Sum) [1, 1, 1, 0, 1, 0, 0]) ++ []) [] (sub (B F_r36_Sum) [1, 1, 1, 0, 1, 0, 0]) (blockK 0 (seqK (E0 lb n 0 996) (sub (B F_r36_Sum) [1, 1, 1, 0]) (sub (B F_r36_Sum) [1, 1, 1, 1]) (retK Tryd.prog (R F_r36_Sum) 0 (outK (tightF Tryd.prog F_r36_Sum))))) k9 ⟨fr 31 [(0, .val (.int .i64 a1)), (1, .val (.str b2)), (4, .val (.int .i64 0)), (5, .val (.int .i64 i5)), (6, .val (.int .i64 i6)), (7, .val (.int .i64 a1)), (8, .val (.int .i64 (Int.tmod a1 2147483647)))], [bx 31 []], KK⟩)

noncomputable def r36_Sum_J3 (lb : Bool) (n : Nat) (a1 : Int) (b2 : List UInt8) (i11 : Int) (i12 : Int) : Option CV :=
  hold (E0 lb n 0 996 (sub (B F_r36_Sum) [1, 1, 1, 1]) (retK Tryd.prog (R F_r36_Sum) 0 (outK (tightF Tryd.prog F_r36_Sum))) ⟨fr 31 [(0, .val (.int .i64 a1)), (1, .val (.str b2)), (4, .val (.int .i64 0)), (5, .val (.int .i64 i11)), (6, .val (.int .i64 i12)), (7, .val (.int .i64 a1)), (8, .val (.int .i64 (Int.tmod a1 2147483647)))], [bx 31 []], KK⟩)

theorem r36_Sum_J3_eq (lb : Bool) (n : Nat) (a1 : Int) (b2 : List UInt8) (i11 : Int) (i12 : Int) :
  r36_Sum_J3 lb n a1 b2 i11 i12 =
 some (.int .i64 (Int.tmod (IntKind.wrap .i64 (257 * i11)) 2147483647)) := (hold_eq _).trans (by kernel_rfl)

theorem r36_Sum_L2_succ (lb : Bool) (n k9 : Nat) (a1 : Int) (b2 : List UInt8) (i5 : Int) (i6 : Int) :
  r36_Sum_L2 lb n (k9 + 1) a1 b2 i5 i6 =
 bif (decide (i6 < (b2.length : Int))) then
 (optO (atS b2 i6) fun c10 =>
 r36_Sum_L2 lb n k9 a1 b2 (Int.tmod (IntKind.wrap .i64 ((IntKind.wrap .i64 ((IntKind.wrap .i64 (257 * i5)) + (IntKind.wrap .i64 ((c10.toNat : Int))))) + 1)) 2147483647) (IntKind.wrap .i64 (i6 + 1)))
 else
 (r36_Sum_J3 lb n a1 b2 i5 i6) := (hold_eq _).trans (by kernel_rfl)

theorem r36_Sum_L2_zero (lb : Bool) (n : Nat) (a1 : Int) (b2 : List UInt8) (i5 : Int) (i6 : Int) :
  r36_Sum_L2 lb n 0 a1 b2 i5 i6 =
 none := (hold_eq _).trans (by kernel_rfl)

theorem r36_Sum_J1_eq (lb : Bool) (n : Nat) (a1 : Int) (b2 : List UInt8) (i3 : Int) :
  r36_Sum_J1 lb n a1 b2 i3 =
 r36_Sum_L2 lb n n a1 b2 i3 0 := (hold_eq _).trans (by kernel_rfl)

theorem r36_Sum_eq (lb : Bool) (n : Nat) (a1 : Int) (b2 : List UInt8) :
  top lb n F_r36_Sum [.int .i64 a1, .str b2] =
 bif (decide ((Int.tmod a1 2147483647) < 0)) then
 (r36_Sum_J1 lb n a1 b2 (IntKind.wrap .i64 ((Int.tmod a1 2147483647) + 2147483647)))
 else
 (r36_Sum_J1 lb n a1 b2 (Int.tmod a1 2147483647)) := by kernel_rfl

/-! airline/airlineref36.Big -/
noncomputable def r36_Big_L1 (lb : Bool) (n : Nat) (k12 : Nat) (an1 : Bool) (a2 : List (List CV)) (i6 : Int) (i7 : Int) : Option CV :=
  hold (loopC (E0 lb n 0 994) 0 (loopTemps (sub (B F_r36_Big) [1, 1, 0, 1, 0, 0]) ++ []) [] (sub (B F_r36_Big) [1, 1, 0, 1, 0, 0]) (blockK 0 (seqK (E0 lb n 0 997) (sub (B F_r36_Big) [1, 1, 0]) (sub (B F_r36_Big) [1, 1, 1]) (retK Tryd.prog (R F_r36_Big) 0 (outK (tightF Tryd.prog F_r36_Big))))) k12 ⟨fr 30 [(0, .val (.list an1 a2)), (2, .val (.bool false)), (3, .val (.int .i64 i6)), (4, .val (.int .i64 i7))], [bx 30 []], KK⟩)

noncomputable def r36_Big_J2 (lb : Bool) (n : Nat) (an1 : Bool) (a2 : List (List CV)) (i17 : Int) (i18 : Int) : Option CV :=
  hold (E0 lb n 0 997 (sub (B F_r36_Big) [1, 1, 1]) (retK Tryd.prog (R F_r36_Big) 0 (outK (tightF Tryd.prog F_r36_Big))) ⟨fr 30 [(0, .val (.list an1 a2)), (2, .val (.bool false)), (3, .val (.int .i64 i17)), (4, .val (.int .i64 i18))], [bx 30 []], KK⟩)

theorem r36_Big_J2_eq (lb : Bool) (n : Nat) (an1 : Bool) (a2 : List (List CV)) (i17 : Int) (i18 : Int) :
  r36_Big_J2 lb n an1 a2 i17 i18 =
 bif (decide (i17 > 2000)) then
 (some (.bool true))
 else
 (some (.bool (decide ((a2.length : Int) > 30)))) := (hold_eq _).trans (by kernel_rfl)

theorem r36_Big_L1_succ (lb : Bool) (n k12 : Nat) (an1 : Bool) (a2 : List (List CV)) (i6 : Int) (i7 : Int) :
  r36_Big_L1 lb n (k12 + 1) an1 a2 i6 i7 =
 bif (decide (i7 < (a2.length : Int))) then
 (bif (decide (i7 < 40)) then
 (optO (atL a2 i7) fun c13 =>
 chkO (c13.length == 3) (
 optO (c13[1]?) fun x14 =>
 optO (CV.asS x14) fun s15 =>
 r36_Big_L1 lb n k12 an1 a2 (IntKind.wrap .i64 (i6 + (s15.length : Int))) (IntKind.wrap .i64 (i7 + 1))))
 else
 (r36_Big_J2 lb n an1 a2 i6 i7))
 else
 (r36_Big_J2 lb n an1 a2 i6 i7) := (hold_eq _).trans (by kernel_rfl)

theorem r36_Big_L1_zero (lb : Bool) (n : Nat) (an1 : Bool) (a2 : List (List CV)) (i6 : Int) (i7 : Int) :
  r36_Big_L1 lb n 0 an1 a2 i6 i7 =
 none := (hold_eq _).trans (by kernel_rfl)

theorem r36_Big_eq (lb : Bool) (n : Nat) (an1 : Bool) (a2 : List (List CV)) :
  top lb n F_r36_Big [.list an1 a2] =
 r36_Big_L1 lb n n an1 a2 0 0 := by kernel_rfl

/-! airline/journal.Verify -/
noncomputable def journal_Verify_L1 (lb : Bool) (n : Nat) (k25 : Nat) (an1 : Bool) (a2 : List (List CV)) (v13 : CV) (i14 : Int) : Option CV :=
  hold (loopC (E0 lb n 0 994) 0 (loopTemps (sub (B F_journal_Verify) [1, 1, 0, 1, 0, 0]) ++ [5, 14, 22, 29]) [6] (sub (B F_journal_Verify) [1, 1, 0, 1, 0, 0]) (blockK 0 (seqK (E0 lb n 0 997) (sub (B F_journal_Verify) [1, 1, 0]) (sub (B F_journal_Verify) [1, 1, 1]) (retK Tryd.prog (R F_journal_Verify) 0 (outK (tightF Tryd.prog F_journal_Verify))))) k25 ⟨fr 44 [(0, .val (.list an1 a2)), (2, .val (.int .i64 0)), (3, .val (.int .i64 0)), (4, .val v13), (7, .val (.list an1 a2)), (8, .val (.int .i64 (a2.length : Int))), (9, .val (.int .i64 i14))], [bx 44 []], KK⟩)

noncomputable def journal_Verify_J2 (lb : Bool) (n : Nat) (an1 : Bool) (a2 : List (List CV)) (v36 : CV) : Option CV :=
  hold (E0 lb n 0 997 (sub (B F_journal_Verify) [1, 1, 1]) (retK Tryd.prog (R F_journal_Verify) 0 (outK (tightF Tryd.prog F_journal_Verify))) ⟨fr 44 [(0, .val (.list an1 a2)), (2, .val (.int .i64 0)), (3, .val (.int .i64 0)), (4, .val v36)], [bx 44 []], KK⟩)

theorem journal_Verify_J2_eq (lb : Bool) (n : Nat) (an1 : Bool) (a2 : List (List CV)) (v36 : CV) :
  journal_Verify_J2 lb n an1 a2 v36 =
 some (.tup [.int .i64 (a2.length : Int), .int .i64 0]) := (hold_eq _).trans (by kernel_rfl)

theorem journal_Verify_L1_succ (lb : Bool) (n k25 : Nat) (an1 : Bool) (a2 : List (List CV)) (v13 : CV) (i14 : Int) :
  journal_Verify_L1 lb n (k25 + 1) an1 a2 v13 i14 =
 bif (decide (i14 < (a2.length : Int))) then
 (optO (atL a2 i14) fun c26 =>
 chkO (c26.length == 3) (
 optO (c26[0]?) fun x27 =>
 optO (c26[1]?) fun x28 =>
 optO (c26[2]?) fun x29 =>
 optO (CV.asI .i64 x27) fun i30 =>
 bif (i30 != (IntKind.wrap .i64 (i14 + 1))) then
 (some (.tup [.int .i64 (IntKind.wrap .i64 (i14 + 1)), .int .i64 29]))
 else
 (optO (CV.asS x28) fun s31 =>
 bif (decide ((s31.length : Int) > 65536)) then
 (some (.tup [.int .i64 (IntKind.wrap .i64 (i14 + 1)), .int .i64 4]))
 else
 (optO (C lb n F_journal_Sum [v13, x28]) fun r33 =>
 optO (CV.asI .i64 x29) fun i34 =>
 optO (CV.asI .i64 r33) fun i35 =>
 bif (i34 != i35) then
 (some (.tup [.int .i64 (IntKind.wrap .i64 (i14 + 1)), .int .i64 37]))
 else
 (journal_Verify_L1 lb n k25 an1 a2 x29 (IntKind.wrap .i64 (i14 + 1)))))))
 else
 (journal_Verify_J2 lb n an1 a2 v13) := (hold_eq _).trans (by kernel_rfl)

theorem journal_Verify_L1_zero (lb : Bool) (n : Nat) (an1 : Bool) (a2 : List (List CV)) (v13 : CV) (i14 : Int) :
  journal_Verify_L1 lb n 0 an1 a2 v13 i14 =
 none := (hold_eq _).trans (by kernel_rfl)

theorem journal_Verify_eq (lb : Bool) (n : Nat) (an1 : Bool) (a2 : List (List CV)) :
  top lb n F_journal_Verify [.list an1 a2] =
 journal_Verify_L1 lb n n an1 a2 (.int .i64 0) 0 := by kernel_rfl

/-! airline/airlinelaw36.to -/
noncomputable def l36_to_L1 (lb : Bool) (n : Nat) (k15 : Nat) (an1 : Bool) (a2 : List (List CV)) (b7 : Bool) (l9 : List (List CV)) (i10 : Int) : Option CV :=
  hold (loopC (E0 lb n 0 994) 0 (loopTemps (sub (B F_l36_to) [1, 1, 0, 1, 0, 0]) ++ []) [] (sub (B F_l36_to) [1, 1, 0, 1, 0, 0]) (blockK 0 (seqK (E0 lb n 0 997) (sub (B F_l36_to) [1, 1, 0]) (sub (B F_l36_to) [1, 1, 1]) (retK Tryd.prog (R F_l36_to) 0 (outK (tightF Tryd.prog F_l36_to))))) k15 ⟨fr 19 [(0, .val (.list an1 a2)), (2, .lst true true 34 []), (3, .lst true b7 34 l9), (4, .val (.int .i64 i10))], [bx 19 []], KK⟩)

noncomputable def l36_to_J2 (lb : Bool) (n : Nat) (an1 : Bool) (a2 : List (List CV)) (b21 : Bool) (l22 : List (List CV)) (i23 : Int) : Option CV :=
  hold (E0 lb n 0 997 (sub (B F_l36_to) [1, 1, 1]) (retK Tryd.prog (R F_l36_to) 0 (outK (tightF Tryd.prog F_l36_to))) ⟨fr 19 [(0, .val (.list an1 a2)), (2, .lst true true 34 []), (3, .lst true b21 34 l22), (4, .val (.int .i64 i23))], [bx 19 []], KK⟩)

theorem l36_to_J2_eq (lb : Bool) (n : Nat) (an1 : Bool) (a2 : List (List CV)) (b21 : Bool) (l22 : List (List CV)) (i23 : Int) :
  l36_to_J2 lb n an1 a2 b21 l22 i23 =
 some (.list b21 l22) := (hold_eq _).trans (by kernel_rfl)

theorem l36_to_L1_succ (lb : Bool) (n k15 : Nat) (an1 : Bool) (a2 : List (List CV)) (b7 : Bool) (l9 : List (List CV)) (i10 : Int) :
  l36_to_L1 lb n (k15 + 1) an1 a2 b7 l9 i10 =
 bif (decide (i10 < (a2.length : Int))) then
 (optO (atL a2 i10) fun c17 =>
 chkO (c17.length == 3) (
 optO (c17[0]?) fun x18 =>
 optO (c17[1]?) fun x19 =>
 optO (c17[2]?) fun x20 =>
 chkO (room (l9.length + 1) 32) (
 l36_to_L1 lb n k15 an1 a2 (b7 && false) (l9 ++ [[x18, x19, x20]]) (IntKind.wrap .i64 (i10 + 1)))))
 else
 (l36_to_J2 lb n an1 a2 b7 l9 i10) := (hold_eq _).trans (by kernel_rfl)

theorem l36_to_L1_zero (lb : Bool) (n : Nat) (an1 : Bool) (a2 : List (List CV)) (b7 : Bool) (l9 : List (List CV)) (i10 : Int) :
  l36_to_L1 lb n 0 an1 a2 b7 l9 i10 =
 none := (hold_eq _).trans (by kernel_rfl)

theorem l36_to_eq (lb : Bool) (n : Nat) (an1 : Bool) (a2 : List (List CV)) :
  top lb n F_l36_to [.list an1 a2] =
 l36_to_L1 lb n n an1 a2 true [] 0 := by kernel_rfl

/-! airline/airlineref36.Verify -/
noncomputable def r36_Verify_L1 (lb : Bool) (n : Nat) (k34 : Nat) (an1 : Bool) (a2 : List (List CV)) (v18 : CV) (i19 : Int) : Option CV :=
  hold (loopC (E0 lb n 0 994) 0 (loopTemps (sub (B F_r36_Verify) [1, 1, 0, 1, 0, 0]) ++ []) [] (sub (B F_r36_Verify) [1, 1, 0, 1, 0, 0]) (blockK 0 (seqK (E0 lb n 0 997) (sub (B F_r36_Verify) [1, 1, 0]) (sub (B F_r36_Verify) [1, 1, 1]) (retK Tryd.prog (R F_r36_Verify) 0 (outK (tightF Tryd.prog F_r36_Verify))))) k34 ⟨fr 49 [(0, .val (.list an1 a2)), (2, .val (.int .i64 0)), (3, .val (.int .i64 0)), (4, .val v18), (5, .val (.int .i64 i19))], [bx 49 []], KK⟩)

noncomputable def r36_Verify_J2 (lb : Bool) (n : Nat) (an1 : Bool) (a2 : List (List CV)) (v48 : CV) (i49 : Int) : Option CV :=
  hold (E0 lb n 0 997 (sub (B F_r36_Verify) [1, 1, 1]) (retK Tryd.prog (R F_r36_Verify) 0 (outK (tightF Tryd.prog F_r36_Verify))) ⟨fr 49 [(0, .val (.list an1 a2)), (2, .val (.int .i64 0)), (3, .val (.int .i64 0)), (4, .val v48), (5, .val (.int .i64 i49))], [bx 49 []], KK⟩)

theorem r36_Verify_J2_eq (lb : Bool) (n : Nat) (an1 : Bool) (a2 : List (List CV)) (v48 : CV) (i49 : Int) :
  r36_Verify_J2 lb n an1 a2 v48 i49 =
 some (.tup [.int .i64 (a2.length : Int), .int .i64 0]) := (hold_eq _).trans (by kernel_rfl)

theorem r36_Verify_L1_succ (lb : Bool) (n k34 : Nat) (an1 : Bool) (a2 : List (List CV)) (v18 : CV) (i19 : Int) :
  r36_Verify_L1 lb n (k34 + 1) an1 a2 v18 i19 =
 bif (decide (i19 < (a2.length : Int))) then
 (optO (atL a2 i19) fun c35 =>
 chkO (c35.length == 3) (
 optO (c35[1]?) fun x36 =>
 optO (C lb n F_r36_Sum [v18, x36]) fun r37 =>
 optO (atL a2 i19) fun c38 =>
 chkO (c38.length == 3) (
 optO (c38[0]?) fun x39 =>
 optO (CV.asI .i64 x39) fun i40 =>
 bif (i40 != (IntKind.wrap .i64 (i19 + 1))) then
 (some (.tup [.int .i64 (IntKind.wrap .i64 (i19 + 1)), .int .i64 29]))
 else
 (optO (atL a2 i19) fun c41 =>
 chkO (c41.length == 3) (
 optO (c41[1]?) fun x42 =>
 optO (CV.asS x42) fun s43 =>
 bif (decide ((s43.length : Int) > 65536)) then
 (some (.tup [.int .i64 (IntKind.wrap .i64 (i19 + 1)), .int .i64 4]))
 else
 (optO (atL a2 i19) fun c44 =>
 chkO (c44.length == 3) (
 optO (c44[2]?) fun x45 =>
 optO (CV.asI .i64 x45) fun i46 =>
 optO (CV.asI .i64 r37) fun i47 =>
 bif (i46 != i47) then
 (some (.tup [.int .i64 (IntKind.wrap .i64 (i19 + 1)), .int .i64 37]))
 else
 (r36_Verify_L1 lb n k34 an1 a2 r37 (IntKind.wrap .i64 (i19 + 1))))))))))
 else
 (r36_Verify_J2 lb n an1 a2 v18 i19) := (hold_eq _).trans (by kernel_rfl)

theorem r36_Verify_L1_zero (lb : Bool) (n : Nat) (an1 : Bool) (a2 : List (List CV)) (v18 : CV) (i19 : Int) :
  r36_Verify_L1 lb n 0 an1 a2 v18 i19 =
 none := (hold_eq _).trans (by kernel_rfl)

theorem r36_Verify_eq (lb : Bool) (n : Nat) (an1 : Bool) (a2 : List (List CV)) :
  top lb n F_r36_Verify [.list an1 a2] =
 r36_Verify_L1 lb n n an1 a2 (.int .i64 0) 0 := by kernel_rfl

/-! airline/journal.Clash -/
noncomputable def journal_Clash_L1 (lb : Bool) (n : Nat) (k78 : Nat) (an1 : Bool) (a2 : List (List CV)) (bn3 : Bool) (b4 : List (List CV)) (x7 : CV) (x10 : CV) (x13 : CV) (x15 : CV) (x19 : CV) (x21 : CV) (x24 : CV) (x26 : CV) (r5 : CV) (r11 : CV) (r17 : CV) (r22 : CV) (i54 : Int) : Option CV :=
  hold (loopC (E0 lb n 0 990) 0 (loopTemps (sub (B F_journal_Clash) [1, 1, 1, 1, 1, 1, 0, 1, 0, 0]) ++ []) [] (sub (B F_journal_Clash) [1, 1, 1, 1, 1, 1, 0, 1, 0, 0]) (blockK 0 (seqK (E0 lb n 0 993) (sub (B F_journal_Clash) [1, 1, 1, 1, 1, 1, 0]) (sub (B F_journal_Clash) [1, 1, 1, 1, 1, 1, 1]) (retK Tryd.prog (R F_journal_Clash) 0 (outK (tightF Tryd.prog F_journal_Clash))))) k78 ⟨fr 82 [(0, .val (.list an1 a2)), (1, .val (.list bn3 b4)), (4, .ptr 0 4 0), (5, .ptr 0 5 0), (6, .val (.bool false)), (7, .val x7), (8, .val x10), (9, .val x13), (10, .val x15), (11, .val x19), (12, .val x21), (13, .val x24), (14, .val x26), (15, .val (.int .i64 i54)), (16, .val r5), (17, .val (.list an1 a2)), (18, .val r5), (19, .val x7), (20, .val x10), (21, .val r11), (22, .val (.list bn3 b4)), (23, .val r11), (24, .val x13), (25, .val x15), (26, .val r17), (27, .val (.list an1 a2)), (28, .val r17), (29, .val x19), (30, .val x21), (31, .val r22), (32, .val (.list bn3 b4)), (33, .val r22), (34, .val x24), (35, .val x26), (56, .val (.list an1 a2)), (57, .val (.int .i64 (a2.length : Int))), (58, .val (.int .i64 (IntKind.wrap .i64 ((a2.length : Int) - 1))))], [bx 82 [(4, some [.val (.int .i64 0), .val (.str []), .val (.int .i64 0)]), (5, some [.val (.int .i64 0), .val (.str []), .val (.int .i64 0)])]], KK⟩)

noncomputable def journal_Clash_J2 (lb : Bool) (n : Nat) (an1 : Bool) (a2 : List (List CV)) (bn3 : Bool) (b4 : List (List CV)) (x7 : CV) (x10 : CV) (x13 : CV) (x15 : CV) (x19 : CV) (x21 : CV) (x24 : CV) (x26 : CV) (r5 : CV) (r11 : CV) (r17 : CV) (r22 : CV) (i101 : Int) : Option CV :=
  hold (E0 lb n 0 993 (sub (B F_journal_Clash) [1, 1, 1, 1, 1, 1, 1]) (retK Tryd.prog (R F_journal_Clash) 0 (outK (tightF Tryd.prog F_journal_Clash))) ⟨fr 82 [(0, .val (.list an1 a2)), (1, .val (.list bn3 b4)), (4, .ptr 0 4 0), (5, .ptr 0 5 0), (6, .val (.bool false)), (7, .val x7), (8, .val x10), (9, .val x13), (10, .val x15), (11, .val x19), (12, .val x21), (13, .val x24), (14, .val x26), (15, .val (.int .i64 i101)), (16, .val r5), (17, .val (.list an1 a2)), (18, .val r5), (19, .val x7), (20, .val x10), (21, .val r11), (22, .val (.list bn3 b4)), (23, .val r11), (24, .val x13), (25, .val x15), (26, .val r17), (27, .val (.list an1 a2)), (28, .val r17), (29, .val x19), (30, .val x21), (31, .val r22), (32, .val (.list bn3 b4)), (33, .val r22), (34, .val x24), (35, .val x26)], [bx 82 [(4, some [.val (.int .i64 0), .val (.str []), .val (.int .i64 0)]), (5, some [.val (.int .i64 0), .val (.str []), .val (.int .i64 0)])]], KK⟩)

theorem journal_Clash_J2_eq (lb : Bool) (n : Nat) (an1 : Bool) (a2 : List (List CV)) (bn3 : Bool) (b4 : List (List CV)) (x7 : CV) (x10 : CV) (x13 : CV) (x15 : CV) (x19 : CV) (x21 : CV) (x24 : CV) (x26 : CV) (r5 : CV) (r11 : CV) (r17 : CV) (r22 : CV) (i101 : Int) :
  journal_Clash_J2 lb n an1 a2 bn3 b4 x7 x10 x13 x15 x19 x21 x24 x26 r5 r11 r17 r22 i101 =
 some (.tup [.agg [.int .i64 0, .str [], .int .i64 0], .agg [.int .i64 0, .str [], .int .i64 0], .bool false]) := (hold_eq _).trans (by kernel_rfl)

theorem journal_Clash_L1_succ (lb : Bool) (n k78 : Nat) (an1 : Bool) (a2 : List (List CV)) (bn3 : Bool) (b4 : List (List CV)) (x7 : CV) (x10 : CV) (x13 : CV) (x15 : CV) (x19 : CV) (x21 : CV) (x24 : CV) (x26 : CV) (r5 : CV) (r11 : CV) (r17 : CV) (r22 : CV) (i54 : Int) :
  journal_Clash_L1 lb n (k78 + 1) an1 a2 bn3 b4 x7 x10 x13 x15 x19 x21 x24 x26 r5 r11 r17 r22 i54 =
 bif (decide (i54 ≥ 0)) then
 (optO (atL a2 i54) fun c79 =>
 chkO (c79.length == 3) (
 optO (c79[0]?) fun x80 =>
 optO (c79[1]?) fun x81 =>
 optO (c79[2]?) fun x82 =>
 optO (atL b4 i54) fun c83 =>
 chkO (c83.length == 3) (
 optO (c83[0]?) fun x84 =>
 optO (c83[1]?) fun x85 =>
 optO (c83[2]?) fun x86 =>
 optO (CV.asI .i64 x80) fun i87 =>
 optO (CV.asI .i64 x84) fun i88 =>
 optO (CV.asS x81) fun s89 =>
 optO (CV.asS x85) fun s90 =>
 optO (CV.asI .i64 x82) fun i91 =>
 optO (CV.asI .i64 x86) fun i92 =>
 bif (!((i87 == i88) && ((s89 == s90) && ((i91 == i92) && true)))) then
 (optO (atL a2 i54) fun c93 =>
 chkO (c93.length == 3) (
 optO (c93[0]?) fun x94 =>
 optO (c93[1]?) fun x95 =>
 optO (c93[2]?) fun x96 =>
 optO (atL b4 i54) fun c97 =>
 chkO (c97.length == 3) (
 optO (c97[0]?) fun x98 =>
 optO (c97[1]?) fun x99 =>
 optO (c97[2]?) fun x100 =>
 some (.tup [.agg [x94, x95, x96], .agg [x98, x99, x100], .bool true]))))
 else
 (journal_Clash_L1 lb n k78 an1 a2 bn3 b4 x7 x10 x13 x15 x19 x21 x24 x26 r5 r11 r17 r22 (IntKind.wrap .i64 (i54 - 1))))))
 else
 (journal_Clash_J2 lb n an1 a2 bn3 b4 x7 x10 x13 x15 x19 x21 x24 x26 r5 r11 r17 r22 i54) := (hold_eq _).trans (by kernel_rfl)

theorem journal_Clash_L1_zero (lb : Bool) (n : Nat) (an1 : Bool) (a2 : List (List CV)) (bn3 : Bool) (b4 : List (List CV)) (x7 : CV) (x10 : CV) (x13 : CV) (x15 : CV) (x19 : CV) (x21 : CV) (x24 : CV) (x26 : CV) (r5 : CV) (r11 : CV) (r17 : CV) (r22 : CV) (i54 : Int) :
  journal_Clash_L1 lb n 0 an1 a2 bn3 b4 x7 x10 x13 x15 x19 x21 x24 x26 r5 r11 r17 r22 i54 =
 none := (hold_eq _).trans (by kernel_rfl)

theorem journal_Clash_eq (lb : Bool) (n : Nat) (an1 : Bool) (a2 : List (List CV)) (bn3 : Bool) (b4 : List (List CV)) :
  top lb n F_journal_Clash [.list an1 a2, .list bn3 b4] =
 optO (C lb n F_journal_Verify [.list an1 a2]) fun r5 =>
 optO (CV.asT r5) fun t6 =>
 optO (t6[0]?) fun x7 =>
 optO (CV.asT r5) fun t9 =>
 optO (t9[1]?) fun x10 =>
 optO (C lb n F_journal_Verify [.list bn3 b4]) fun r11 =>
 optO (CV.asT r11) fun t12 =>
 optO (t12[0]?) fun x13 =>
 optO (CV.asT r11) fun t14 =>
 optO (t14[1]?) fun x15 =>
 optO (C lb n F_journal_last [.list an1 a2]) fun r17 =>
 optO (CV.asT r17) fun t18 =>
 optO (t18[0]?) fun x19 =>
 optO (CV.asT r17) fun t20 =>
 optO (t20[1]?) fun x21 =>
 optO (C lb n F_journal_last [.list bn3 b4]) fun r22 =>
 optO (CV.asT r22) fun t23 =>
 optO (t23[0]?) fun x24 =>
 optO (CV.asT r22) fun t25 =>
 optO (t25[1]?) fun x26 =>
 optO (CV.asI .i64 x10) fun i27 =>
 bif (i27 != 0) then
 (some (.tup [.agg [.int .i64 0, .str [], .int .i64 0], .agg [.int .i64 0, .str [], .int .i64 0], .bool false]))
 else
 (optO (CV.asI .i64 x15) fun i28 =>
 bif (i28 != 0) then
 (some (.tup [.agg [.int .i64 0, .str [], .int .i64 0], .agg [.int .i64 0, .str [], .int .i64 0], .bool false]))
 else
 (bif ((a2.length : Int) != (b4.length : Int)) then
 (some (.tup [.agg [.int .i64 0, .str [], .int .i64 0], .agg [.int .i64 0, .str [], .int .i64 0], .bool false]))
 else
 (optO (CV.asI .i64 x21) fun i29 =>
 optO (CV.asI .i64 x26) fun i30 =>
 bif (i29 != i30) then
 (some (.tup [.agg [.int .i64 0, .str [], .int .i64 0], .agg [.int .i64 0, .str [], .int .i64 0], .bool false]))
 else
 (journal_Clash_L1 lb n n an1 a2 bn3 b4 x7 x10 x13 x15 x19 x21 x24 x26 r5 r11 r17 r22 (IntKind.wrap .i64 ((a2.length : Int) - 1)))))) := by kernel_rfl

/-! airline/airlineref36.Clash -/
noncomputable def r36_Clash_L1 (lb : Bool) (n : Nat) (k72 : Nat) (an1 : Bool) (a2 : List (List CV)) (bn3 : Bool) (b4 : List (List CV)) (x7 : CV) (x10 : CV) (x13 : CV) (x15 : CV) (r5 : CV) (r11 : CV) (i48 : Int) : Option CV :=
  hold (loopC (E0 lb n 0 992) 0 (loopTemps (sub (B F_r36_Clash) [1, 1, 1, 1, 0, 1, 0, 0]) ++ []) [] (sub (B F_r36_Clash) [1, 1, 1, 1, 0, 1, 0, 0]) (blockK 0 (seqK (E0 lb n 0 995) (sub (B F_r36_Clash) [1, 1, 1, 1, 0]) (sub (B F_r36_Clash) [1, 1, 1, 1, 1]) (retK Tryd.prog (R F_r36_Clash) 0 (outK (tightF Tryd.prog F_r36_Clash))))) k72 ⟨fr 85 [(0, .val (.list an1 a2)), (1, .val (.list bn3 b4)), (4, .ptr 0 4 0), (5, .ptr 0 5 0), (6, .val (.bool false)), (7, .val x7), (8, .val x10), (9, .val x13), (10, .val x15), (11, .val (.int .i64 i48)), (12, .val r5), (13, .val (.list an1 a2)), (14, .val r5), (15, .val x7), (16, .val x10), (17, .val r11), (18, .val (.list bn3 b4)), (19, .val r11), (20, .val x13), (21, .val x15), (59, .val (.list an1 a2)), (60, .val (.int .i64 (a2.length : Int))), (61, .val (.int .i64 (IntKind.wrap .i64 ((a2.length : Int) - 1))))], [bx 85 [(4, some [.val (.int .i64 0), .val (.str []), .val (.int .i64 0)]), (5, some [.val (.int .i64 0), .val (.str []), .val (.int .i64 0)])]], KK⟩)

noncomputable def r36_Clash_J2 (lb : Bool) (n : Nat) (an1 : Bool) (a2 : List (List CV)) (bn3 : Bool) (b4 : List (List CV)) (x7 : CV) (x10 : CV) (x13 : CV) (x15 : CV) (r5 : CV) (r11 : CV) (i95 : Int) : Option CV :=
  hold (E0 lb n 0 995 (sub (B F_r36_Clash) [1, 1, 1, 1, 1]) (retK Tryd.prog (R F_r36_Clash) 0 (outK (tightF Tryd.prog F_r36_Clash))) ⟨fr 85 [(0, .val (.list an1 a2)), (1, .val (.list bn3 b4)), (4, .ptr 0 4 0), (5, .ptr 0 5 0), (6, .val (.bool false)), (7, .val x7), (8, .val x10), (9, .val x13), (10, .val x15), (11, .val (.int .i64 i95)), (12, .val r5), (13, .val (.list an1 a2)), (14, .val r5), (15, .val x7), (16, .val x10), (17, .val r11), (18, .val (.list bn3 b4)), (19, .val r11), (20, .val x13), (21, .val x15)], [bx 85 [(4, some [.val (.int .i64 0), .val (.str []), .val (.int .i64 0)]), (5, some [.val (.int .i64 0), .val (.str []), .val (.int .i64 0)])]], KK⟩)

theorem r36_Clash_J2_eq (lb : Bool) (n : Nat) (an1 : Bool) (a2 : List (List CV)) (bn3 : Bool) (b4 : List (List CV)) (x7 : CV) (x10 : CV) (x13 : CV) (x15 : CV) (r5 : CV) (r11 : CV) (i95 : Int) :
  r36_Clash_J2 lb n an1 a2 bn3 b4 x7 x10 x13 x15 r5 r11 i95 =
 some (.tup [.agg [.int .i64 0, .str [], .int .i64 0], .agg [.int .i64 0, .str [], .int .i64 0], .bool false]) := (hold_eq _).trans (by kernel_rfl)

theorem r36_Clash_L1_succ (lb : Bool) (n k72 : Nat) (an1 : Bool) (a2 : List (List CV)) (bn3 : Bool) (b4 : List (List CV)) (x7 : CV) (x10 : CV) (x13 : CV) (x15 : CV) (r5 : CV) (r11 : CV) (i48 : Int) :
  r36_Clash_L1 lb n (k72 + 1) an1 a2 bn3 b4 x7 x10 x13 x15 r5 r11 i48 =
 bif (decide (i48 ≥ 0)) then
 (optO (atL a2 i48) fun c73 =>
 chkO (c73.length == 3) (
 optO (c73[0]?) fun x74 =>
 optO (c73[1]?) fun x75 =>
 optO (c73[2]?) fun x76 =>
 optO (atL b4 i48) fun c77 =>
 chkO (c77.length == 3) (
 optO (c77[0]?) fun x78 =>
 optO (c77[1]?) fun x79 =>
 optO (c77[2]?) fun x80 =>
 optO (CV.asI .i64 x74) fun i81 =>
 optO (CV.asI .i64 x78) fun i82 =>
 optO (CV.asS x75) fun s83 =>
 optO (CV.asS x79) fun s84 =>
 optO (CV.asI .i64 x76) fun i85 =>
 optO (CV.asI .i64 x80) fun i86 =>
 bif (!((i81 == i82) && ((s83 == s84) && ((i85 == i86) && true)))) then
 (optO (atL a2 i48) fun c87 =>
 chkO (c87.length == 3) (
 optO (c87[0]?) fun x88 =>
 optO (c87[1]?) fun x89 =>
 optO (c87[2]?) fun x90 =>
 optO (atL b4 i48) fun c91 =>
 chkO (c91.length == 3) (
 optO (c91[0]?) fun x92 =>
 optO (c91[1]?) fun x93 =>
 optO (c91[2]?) fun x94 =>
 some (.tup [.agg [x88, x89, x90], .agg [x92, x93, x94], .bool true]))))
 else
 (r36_Clash_L1 lb n k72 an1 a2 bn3 b4 x7 x10 x13 x15 r5 r11 (IntKind.wrap .i64 (i48 - 1))))))
 else
 (r36_Clash_J2 lb n an1 a2 bn3 b4 x7 x10 x13 x15 r5 r11 i48) := (hold_eq _).trans (by kernel_rfl)

theorem r36_Clash_L1_zero (lb : Bool) (n : Nat) (an1 : Bool) (a2 : List (List CV)) (bn3 : Bool) (b4 : List (List CV)) (x7 : CV) (x10 : CV) (x13 : CV) (x15 : CV) (r5 : CV) (r11 : CV) (i48 : Int) :
  r36_Clash_L1 lb n 0 an1 a2 bn3 b4 x7 x10 x13 x15 r5 r11 i48 =
 none := (hold_eq _).trans (by kernel_rfl)

theorem r36_Clash_eq (lb : Bool) (n : Nat) (an1 : Bool) (a2 : List (List CV)) (bn3 : Bool) (b4 : List (List CV)) :
  top lb n F_r36_Clash [.list an1 a2, .list bn3 b4] =
 optO (C lb n F_r36_Verify [.list an1 a2]) fun r5 =>
 optO (CV.asT r5) fun t6 =>
 optO (t6[0]?) fun x7 =>
 optO (CV.asT r5) fun t9 =>
 optO (t9[1]?) fun x10 =>
 optO (C lb n F_r36_Verify [.list bn3 b4]) fun r11 =>
 optO (CV.asT r11) fun t12 =>
 optO (t12[0]?) fun x13 =>
 optO (CV.asT r11) fun t14 =>
 optO (t14[1]?) fun x15 =>
 optO (CV.asI .i64 x10) fun i17 =>
 bif (i17 != 0) then
 (some (.tup [.agg [.int .i64 0, .str [], .int .i64 0], .agg [.int .i64 0, .str [], .int .i64 0], .bool false]))
 else
 (optO (CV.asI .i64 x15) fun i18 =>
 bif (i18 != 0) then
 (some (.tup [.agg [.int .i64 0, .str [], .int .i64 0], .agg [.int .i64 0, .str [], .int .i64 0], .bool false]))
 else
 (bif ((a2.length : Int) != (b4.length : Int)) then
 (some (.tup [.agg [.int .i64 0, .str [], .int .i64 0], .agg [.int .i64 0, .str [], .int .i64 0], .bool false]))
 else
 (bif ((a2.length : Int) == 0) then
 (some (.tup [.agg [.int .i64 0, .str [], .int .i64 0], .agg [.int .i64 0, .str [], .int .i64 0], .bool false]))
 else
 (optO (atL a2 (IntKind.wrap .i64 ((a2.length : Int) - 1))) fun c19 =>
 chkO (c19.length == 3) (
 optO (c19[2]?) fun x20 =>
 optO (atL b4 (IntKind.wrap .i64 ((b4.length : Int) - 1))) fun c21 =>
 chkO (c21.length == 3) (
 optO (c21[2]?) fun x22 =>
 optO (CV.asI .i64 x20) fun i23 =>
 optO (CV.asI .i64 x22) fun i24 =>
 bif (i23 != i24) then
 (some (.tup [.agg [.int .i64 0, .str [], .int .i64 0], .agg [.int .i64 0, .str [], .int .i64 0], .bool false]))
 else
 (r36_Clash_L1 lb n n an1 a2 bn3 b4 x7 x10 x13 x15 r5 r11 (IntKind.wrap .i64 ((a2.length : Int) - 1))))))))) := by kernel_rfl

/-! airline/airlineref36.Same -/
noncomputable def r36_Same_L1 (lb : Bool) (n : Nat) (k37 : Nat) (an1 : Bool) (a2 : List (List CV)) (bn3 : Bool) (b4 : List (List CV)) (i21 : Int) : Option CV :=
  hold (loopC (E0 lb n 0 994) 0 (loopTemps (sub (B F_r36_Same) [1, 1, 0, 1, 0, 0]) ++ []) [] (sub (B F_r36_Same) [1, 1, 0, 1, 0, 0]) (blockK 0 (seqK (E0 lb n 0 997) (sub (B F_r36_Same) [1, 1, 0]) (sub (B F_r36_Same) [1, 1, 1]) (retK Tryd.prog (R F_r36_Same) 0 (outK (tightF Tryd.prog F_r36_Same))))) k37 ⟨fr 26 [(0, .val (.list an1 a2)), (1, .val (.list bn3 b4)), (4, .val (.bool false)), (5, .val (.int .i64 i21))], [bx 26 []], KK⟩)

noncomputable def r36_Same_J2 (lb : Bool) (n : Nat) (an1 : Bool) (a2 : List (List CV)) (bn3 : Bool) (b4 : List (List CV)) (i52 : Int) : Option CV :=
  hold (E0 lb n 0 997 (sub (B F_r36_Same) [1, 1, 1]) (retK Tryd.prog (R F_r36_Same) 0 (outK (tightF Tryd.prog F_r36_Same))) ⟨fr 26 [(0, .val (.list an1 a2)), (1, .val (.list bn3 b4)), (4, .val (.bool false)), (5, .val (.int .i64 i52))], [bx 26 []], KK⟩)

theorem r36_Same_J2_eq (lb : Bool) (n : Nat) (an1 : Bool) (a2 : List (List CV)) (bn3 : Bool) (b4 : List (List CV)) (i52 : Int) :
  r36_Same_J2 lb n an1 a2 bn3 b4 i52 =
 some (.bool true) := (hold_eq _).trans (by kernel_rfl)

theorem r36_Same_L1_succ (lb : Bool) (n k37 : Nat) (an1 : Bool) (a2 : List (List CV)) (bn3 : Bool) (b4 : List (List CV)) (i21 : Int) :
  r36_Same_L1 lb n (k37 + 1) an1 a2 bn3 b4 i21 =
 bif (decide (i21 < (a2.length : Int))) then
 (optO (atL a2 i21) fun c38 =>
 chkO (c38.length == 3) (
 optO (c38[0]?) fun x39 =>
 optO (c38[1]?) fun x40 =>
 optO (c38[2]?) fun x41 =>
 optO (atL b4 i21) fun c42 =>
 chkO (c42.length == 3) (
 optO (c42[0]?) fun x43 =>
 optO (c42[1]?) fun x44 =>
 optO (c42[2]?) fun x45 =>
 optO (CV.asI .i64 x39) fun i46 =>
 optO (CV.asI .i64 x43) fun i47 =>
 optO (CV.asS x40) fun s48 =>
 optO (CV.asS x44) fun s49 =>
 optO (CV.asI .i64 x41) fun i50 =>
 optO (CV.asI .i64 x45) fun i51 =>
 bif (!((i46 == i47) && ((s48 == s49) && ((i50 == i51) && true)))) then
 (some (.bool false))
 else
 (r36_Same_L1 lb n k37 an1 a2 bn3 b4 (IntKind.wrap .i64 (i21 + 1))))))
 else
 (r36_Same_J2 lb n an1 a2 bn3 b4 i21) := (hold_eq _).trans (by kernel_rfl)

theorem r36_Same_L1_zero (lb : Bool) (n : Nat) (an1 : Bool) (a2 : List (List CV)) (bn3 : Bool) (b4 : List (List CV)) (i21 : Int) :
  r36_Same_L1 lb n 0 an1 a2 bn3 b4 i21 =
 none := (hold_eq _).trans (by kernel_rfl)

theorem r36_Same_eq (lb : Bool) (n : Nat) (an1 : Bool) (a2 : List (List CV)) (bn3 : Bool) (b4 : List (List CV)) :
  top lb n F_r36_Same [.list an1 a2, .list bn3 b4] =
 bif ((a2.length : Int) != (b4.length : Int)) then
 (some (.bool false))
 else
 (r36_Same_L1 lb n n an1 a2 bn3 b4 0) := by kernel_rfl

/-! airline/airlineref36.Of -/
noncomputable def r36_Of_L1 (lb : Bool) (n : Nat) (k19 : Nat) (an1 : Bool) (a2 : List (List CV)) (b9 : Bool) (l10 : List (List CV)) (v11 : CV) (i12 : Int) : Option CV :=
  hold (loopC (E0 lb n 0 993) 0 (loopTemps (sub (B F_r36_Of) [1, 1, 1, 0, 1, 0, 0]) ++ []) [] (sub (B F_r36_Of) [1, 1, 1, 0, 1, 0, 0]) (blockK 0 (seqK (E0 lb n 0 996) (sub (B F_r36_Of) [1, 1, 1, 0]) (sub (B F_r36_Of) [1, 1, 1, 1]) (retK Tryd.prog (R F_r36_Of) 0 (outK (tightF Tryd.prog F_r36_Of))))) k19 ⟨fr 30 [(0, .val (.list an1 a2)), (2, .lst true true 37 []), (3, .lst true b9 37 l10), (4, .val v11), (5, .val (.int .i64 i12))], [bx 30 []], KK⟩)

noncomputable def r36_Of_J2 (lb : Bool) (n : Nat) (an1 : Bool) (a2 : List (List CV)) (b25 : Bool) (l26 : List (List CV)) (v27 : CV) (i28 : Int) : Option CV :=
  hold (E0 lb n 0 996 (sub (B F_r36_Of) [1, 1, 1, 1]) (retK Tryd.prog (R F_r36_Of) 0 (outK (tightF Tryd.prog F_r36_Of))) ⟨fr 30 [(0, .val (.list an1 a2)), (2, .lst true true 37 []), (3, .lst true b25 37 l26), (4, .val v27), (5, .val (.int .i64 i28))], [bx 30 []], KK⟩)

theorem r36_Of_J2_eq (lb : Bool) (n : Nat) (an1 : Bool) (a2 : List (List CV)) (b25 : Bool) (l26 : List (List CV)) (v27 : CV) (i28 : Int) :
  r36_Of_J2 lb n an1 a2 b25 l26 v27 i28 =
 some (.list b25 l26) := (hold_eq _).trans (by kernel_rfl)

theorem r36_Of_L1_succ (lb : Bool) (n k19 : Nat) (an1 : Bool) (a2 : List (List CV)) (b9 : Bool) (l10 : List (List CV)) (v11 : CV) (i12 : Int) :
  r36_Of_L1 lb n (k19 + 1) an1 a2 b9 l10 v11 i12 =
 bif (decide (i12 < (a2.length : Int))) then
 (optO (atL a2 i12) fun c20 =>
 chkO (c20.length == 1) (
 optO (c20[0]?) fun x21 =>
 optO (C lb n F_r36_Sum [v11, x21]) fun r22 =>
 optO (atL a2 i12) fun c23 =>
 chkO (c23.length == 1) (
 optO (c23[0]?) fun x24 =>
 chkO (CV.isCell x24) (
 chkO (CV.isCell r22) (
 chkO (room (l10.length + 1) 32) (
 r36_Of_L1 lb n k19 an1 a2 (b9 && false) (l10 ++ [[CV.int .i64 (IntKind.wrap .i64 (i12 + 1)), x24, r22]]) r22 (IntKind.wrap .i64 (i12 + 1))))))))
 else
 (r36_Of_J2 lb n an1 a2 b9 l10 v11 i12) := (hold_eq _).trans (by kernel_rfl)

theorem r36_Of_L1_zero (lb : Bool) (n : Nat) (an1 : Bool) (a2 : List (List CV)) (b9 : Bool) (l10 : List (List CV)) (v11 : CV) (i12 : Int) :
  r36_Of_L1 lb n 0 an1 a2 b9 l10 v11 i12 =
 none := (hold_eq _).trans (by kernel_rfl)

theorem r36_Of_eq (lb : Bool) (n : Nat) (an1 : Bool) (a2 : List (List CV)) :
  top lb n F_r36_Of [.list an1 a2] =
 r36_Of_L1 lb n n an1 a2 true [] (.int .i64 0) 0 := by kernel_rfl

/-! airline/airlinelaw36.from -/
noncomputable def l36_from_L1 (lb : Bool) (n : Nat) (k15 : Nat) (an1 : Bool) (a2 : List (List CV)) (b7 : Bool) (l9 : List (List CV)) (i10 : Int) : Option CV :=
  hold (loopC (E0 lb n 0 994) 0 (loopTemps (sub (B F_l36_from) [1, 1, 0, 1, 0, 0]) ++ []) [] (sub (B F_l36_from) [1, 1, 0, 1, 0, 0]) (blockK 0 (seqK (E0 lb n 0 997) (sub (B F_l36_from) [1, 1, 0]) (sub (B F_l36_from) [1, 1, 1]) (retK Tryd.prog (R F_l36_from) 0 (outK (tightF Tryd.prog F_l36_from))))) k15 ⟨fr 19 [(0, .val (.list an1 a2)), (2, .lst true true 37 []), (3, .lst true b7 37 l9), (4, .val (.int .i64 i10))], [bx 19 []], KK⟩)

noncomputable def l36_from_J2 (lb : Bool) (n : Nat) (an1 : Bool) (a2 : List (List CV)) (b21 : Bool) (l22 : List (List CV)) (i23 : Int) : Option CV :=
  hold (E0 lb n 0 997 (sub (B F_l36_from) [1, 1, 1]) (retK Tryd.prog (R F_l36_from) 0 (outK (tightF Tryd.prog F_l36_from))) ⟨fr 19 [(0, .val (.list an1 a2)), (2, .lst true true 37 []), (3, .lst true b21 37 l22), (4, .val (.int .i64 i23))], [bx 19 []], KK⟩)

theorem l36_from_J2_eq (lb : Bool) (n : Nat) (an1 : Bool) (a2 : List (List CV)) (b21 : Bool) (l22 : List (List CV)) (i23 : Int) :
  l36_from_J2 lb n an1 a2 b21 l22 i23 =
 some (.list b21 l22) := (hold_eq _).trans (by kernel_rfl)

theorem l36_from_L1_succ (lb : Bool) (n k15 : Nat) (an1 : Bool) (a2 : List (List CV)) (b7 : Bool) (l9 : List (List CV)) (i10 : Int) :
  l36_from_L1 lb n (k15 + 1) an1 a2 b7 l9 i10 =
 bif (decide (i10 < (a2.length : Int))) then
 (optO (atL a2 i10) fun c17 =>
 chkO (c17.length == 3) (
 optO (c17[0]?) fun x18 =>
 optO (c17[1]?) fun x19 =>
 optO (c17[2]?) fun x20 =>
 chkO (room (l9.length + 1) 32) (
 l36_from_L1 lb n k15 an1 a2 (b7 && false) (l9 ++ [[x18, x19, x20]]) (IntKind.wrap .i64 (i10 + 1)))))
 else
 (l36_from_J2 lb n an1 a2 b7 l9 i10) := (hold_eq _).trans (by kernel_rfl)

theorem l36_from_L1_zero (lb : Bool) (n : Nat) (an1 : Bool) (a2 : List (List CV)) (b7 : Bool) (l9 : List (List CV)) (i10 : Int) :
  l36_from_L1 lb n 0 an1 a2 b7 l9 i10 =
 none := (hold_eq _).trans (by kernel_rfl)

theorem l36_from_eq (lb : Bool) (n : Nat) (an1 : Bool) (a2 : List (List CV)) :
  top lb n F_l36_from [.list an1 a2] =
 l36_from_L1 lb n n an1 a2 true [] 0 := by kernel_rfl

/-! airline/journal.Print -/
noncomputable def journal_Print_L1 (lb : Bool) (n : Nat) (k26 : Nat) (an1 : Bool) (a2 : List (List CV)) (i13 : Int) (b14 : Bool) (l15 : List (List CV)) : Option CV :=
  hold (loopC (E0 lb n 0 994) 0 (loopTemps (sub (B F_journal_Print) [1, 1, 0, 1, 0, 0]) ++ []) [5] (sub (B F_journal_Print) [1, 1, 0, 1, 0, 0]) (blockK 0 (seqK (E0 lb n 0 997) (sub (B F_journal_Print) [1, 1, 0]) (sub (B F_journal_Print) [1, 1, 1]) (retK Tryd.prog (R F_journal_Print) 0 (outK (tightF Tryd.prog F_journal_Print))))) k26 ⟨fr 26 [(0, .val (.list an1 a2)), (2, .val (.str [])), (3, .ptr 0 3 0), (6, .val (.list an1 a2)), (7, .val (.int .i64 (a2.length : Int))), (8, .val (.int .i64 i13))], [bx 26 [(3, some [.bld 128, .lst true b14 5 l15])]], KK⟩)

noncomputable def journal_Print_J2 (lb : Bool) (n : Nat) (an1 : Bool) (a2 : List (List CV)) (b37 : Bool) (l38 : List (List CV)) : Option CV :=
  hold (E0 lb n 0 997 (sub (B F_journal_Print) [1, 1, 1]) (retK Tryd.prog (R F_journal_Print) 0 (outK (tightF Tryd.prog F_journal_Print))) ⟨fr 26 [(0, .val (.list an1 a2)), (2, .val (.str [])), (3, .ptr 0 3 0)], [bx 26 [(3, some [.bld 128, .lst true b37 5 l38])]], KK⟩)

theorem journal_Print_J2_eq (lb : Bool) (n : Nat) (an1 : Bool) (a2 : List (List CV)) (b37 : Bool) (l38 : List (List CV)) :
  journal_Print_J2 lb n an1 a2 b37 l38 =
 optO (bytesOf l38) fun s39 =>
 some (.str s39) := (hold_eq _).trans (by kernel_rfl)

theorem journal_Print_L1_succ (lb : Bool) (n k26 : Nat) (an1 : Bool) (a2 : List (List CV)) (i13 : Int) (b14 : Bool) (l15 : List (List CV)) :
  journal_Print_L1 lb n (k26 + 1) an1 a2 i13 b14 l15 =
 bif (decide (i13 < (a2.length : Int))) then
 (optO (atL a2 i13) fun c27 =>
 chkO (c27.length == 3) (
 optO (c27[0]?) fun x28 =>
 optO (c27[1]?) fun x29 =>
 optO (c27[2]?) fun x30 =>
 optO (C lb n F_text_Decimal [x28]) fun r31 =>
 optO (C lb n F_text_Decimal [x30]) fun r33 =>
 chkO (CV.isCell r31) (
 chkO (CV.isCell r33) (
 chkO (CV.isCell x29) (
 optO (C lb n F_text_Join [.list false [[r31], [r33], [x29]]]) fun r34 =>
 optO (CV.asS r34) fun s35 =>
 chkO ((s35.map fun c => [CV.int .u8 c.toNat]).all (·.length == 1)) (
 chkO (room (l15.length + (s35.map fun c => [CV.int .u8 c.toNat]).length) 1) (
 optO (CV.asS r34) fun s36 =>
 chkO (room ((l15 ++ (s35.map fun c => [CV.int .u8 c.toNat])).length + 1) 1) (
 journal_Print_L1 lb n k26 an1 a2 (IntKind.wrap .i64 (i13 + 1)) ((b14 && ((s35.map fun c => [CV.int .u8 c.toNat]).isEmpty)) && false) ((l15 ++ (s35.map fun c => [CV.int .u8 c.toNat])) ++ [[CV.int .u8 10]])))))))))
 else
 (journal_Print_J2 lb n an1 a2 b14 l15) := (hold_eq _).trans (by kernel_rfl)

theorem journal_Print_L1_zero (lb : Bool) (n : Nat) (an1 : Bool) (a2 : List (List CV)) (i13 : Int) (b14 : Bool) (l15 : List (List CV)) :
  journal_Print_L1 lb n 0 an1 a2 i13 b14 l15 =
 none := (hold_eq _).trans (by kernel_rfl)

theorem journal_Print_eq (lb : Bool) (n : Nat) (an1 : Bool) (a2 : List (List CV)) :
  top lb n F_journal_Print [.list an1 a2] =
 journal_Print_L1 lb n n an1 a2 0 true [] := by kernel_rfl

/-! airline/airlineref36.Print -/
noncomputable def r36_Print_L1 (lb : Bool) (n : Nat) (k27 : Nat) (an1 : Bool) (a2 : List (List CV)) (s14 : List UInt8) (i15 : Int) : Option CV :=
  hold (loopC (E0 lb n 0 994) 0 (loopTemps (sub (B F_r36_Print) [1, 1, 0, 1, 0, 0]) ++ []) [] (sub (B F_r36_Print) [1, 1, 0, 1, 0, 0]) (blockK 0 (seqK (E0 lb n 0 997) (sub (B F_r36_Print) [1, 1, 0]) (sub (B F_r36_Print) [1, 1, 1]) (retK Tryd.prog (R F_r36_Print) 0 (outK (tightF Tryd.prog F_r36_Print))))) k27 ⟨fr 34 [(0, .val (.list an1 a2)), (2, .val (.str [])), (3, .val (.str s14)), (4, .val (.int .i64 i15))], [bx 34 []], KK⟩)

noncomputable def r36_Print_J2 (lb : Bool) (n : Nat) (an1 : Bool) (a2 : List (List CV)) (s39 : List UInt8) (i40 : Int) : Option CV :=
  hold (E0 lb n 0 997 (sub (B F_r36_Print) [1, 1, 1]) (retK Tryd.prog (R F_r36_Print) 0 (outK (tightF Tryd.prog F_r36_Print))) ⟨fr 34 [(0, .val (.list an1 a2)), (2, .val (.str [])), (3, .val (.str s39)), (4, .val (.int .i64 i40))], [bx 34 []], KK⟩)

theorem r36_Print_J2_eq (lb : Bool) (n : Nat) (an1 : Bool) (a2 : List (List CV)) (s39 : List UInt8) (i40 : Int) :
  r36_Print_J2 lb n an1 a2 s39 i40 =
 some (.str s39) := (hold_eq _).trans (by kernel_rfl)

theorem r36_Print_L1_succ (lb : Bool) (n k27 : Nat) (an1 : Bool) (a2 : List (List CV)) (s14 : List UInt8) (i15 : Int) :
  r36_Print_L1 lb n (k27 + 1) an1 a2 s14 i15 =
 bif (decide (i15 < (a2.length : Int))) then
 (optO (atL a2 i15) fun c28 =>
 chkO (c28.length == 3) (
 optO (c28[0]?) fun x29 =>
 optO (C lb n F_r01_Decimal [x29]) fun r30 =>
 optO (atL a2 i15) fun c31 =>
 chkO (c31.length == 3) (
 optO (c31[2]?) fun x33 =>
 optO (C lb n F_r01_Decimal [x33]) fun r34 =>
 optO (atL a2 i15) fun c35 =>
 chkO (c35.length == 3) (
 optO (c35[1]?) fun x36 =>
 chkO (CV.isCell r30) (
 chkO (CV.isCell r34) (
 chkO (CV.isCell x36) (
 optO (C lb n F_r01_Join [.list false [[r30], [r34], [x36]]]) fun r37 =>
 optO (CV.asS r37) fun s38 =>
 chkO (decide (s14.length + s38.length ≤ 9223372036854775807)) (
 chkO (decide ((s14 ++ s38).length + [10].length ≤ 9223372036854775807)) (
 r36_Print_L1 lb n k27 an1 a2 ((s14 ++ s38) ++ [10]) (IntKind.wrap .i64 (i15 + 1)))))))))))
 else
 (r36_Print_J2 lb n an1 a2 s14 i15) := (hold_eq _).trans (by kernel_rfl)

theorem r36_Print_L1_zero (lb : Bool) (n : Nat) (an1 : Bool) (a2 : List (List CV)) (s14 : List UInt8) (i15 : Int) :
  r36_Print_L1 lb n 0 an1 a2 s14 i15 =
 none := (hold_eq _).trans (by kernel_rfl)

theorem r36_Print_eq (lb : Bool) (n : Nat) (an1 : Bool) (a2 : List (List CV)) :
  top lb n F_r36_Print [.list an1 a2] =
 r36_Print_L1 lb n n an1 a2 [] 0 := by kernel_rfl

/-! airline/journal.last -/
theorem journal_last_eq (lb : Bool) (n : Nat) (an1 : Bool) (a2 : List (List CV)) :
  top lb n F_journal_last [.list an1 a2] =
 bif ((a2.length : Int) == 0) then
 (some (.tup [.int .i64 0, .int .i64 0]))
 else
 (optO (atL a2 (IntKind.wrap .i64 ((a2.length : Int) - 1))) fun c3 =>
 chkO (c3.length == 3) (
 optO (c3[0]?) fun x4 =>
 optO (c3[1]?) fun x5 =>
 optO (c3[2]?) fun x6 =>
 some (.tup [x4, x6]))) := by kernel_rfl

/-! slices.Clone[[]airline/journal.Record,airline/journal.Record] -/
theorem slices_Clone_journal_Record_eq (lb : Bool) (n : Nat) (an1 : Bool) (a2 : List (List CV)) :
  top lb n F_slices_Clone_journal_Record [.list an1 a2] =
 bif an1 then
 (some (.list true []))
 else
 (chkO (a2.all (·.length == 3)) (
 chkO (room (0 + a2.length) 32) (
 some (.list false a2)))) := by kernel_rfl

end Go.Proofs
