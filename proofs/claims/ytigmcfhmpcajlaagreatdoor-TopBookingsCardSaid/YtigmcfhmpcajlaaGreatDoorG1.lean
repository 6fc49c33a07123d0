/- Equations of functions, printed by program. Conditions: none. -/
import Derived.Test.YtigmcfhmpcajlaaGreatDoorEv
namespace Go.Proofs
open Go.Am
set_option maxRecDepth 100000
set_option linter.unusedVariables false
theorem QkX (lb n) (a1 : Int) :
 top lb n Qck [.int .i64 a1] =
 optO (C lb n Qe4 [.int .i64 a1]) fun r2 =>
 some (r2) := by kernel_rfl
theorem QnE (lb n) (a1 : LB) (b2 c3 : Int) :
 top lb n Qde [.str a1, .int .i64 b2, .int .i64 c3] =
 bif (decide ((a1.length : Int) ≥ b2)) then
 (bif (decide ((a1.length : Int) ≤ c3)) then
 (optO (C lb n Qao [.str a1, .fn QbL]) fun r4 =>
 some (r4))
 else
 (some (.bool false)))
 else
 (some (.bool false)) := by kernel_rfl
theorem QkK (lb n) (a1 : LB) :
 top lb n QeY [.str a1] =
 optO (C lb n Qde [.str a1, .int .i64 2, .int .i64 2]) fun r2 =>
 optO (CV.asB r2) fun b3 =>
 bif b3 then
 (optO (C lb n Qao [.str a1, .fn QbF]) fun r4 =>
 optO (CV.asB r4) fun b5 =>
 some (.bool (!b5)))
 else
 (some (.bool false)) := by kernel_rfl
theorem Qlj (lb n) (a1 : LB) :
 top lb n QdI [.str a1] =
 bif ((a1.length : Int) == 3) then
 (optO (C lb n Qao [.str a1, .fn QaZ]) fun r2 =>
 some (r2))
 else
 (some (.bool false)) := by kernel_rfl
theorem QmP (lb n) (a1 : LB) :
 top lb n Qgd [.str a1] =
 bif ((a1.length : Int) == 1) then
 (optO (atS a1 0) fun c2 =>
 optO (C lb n QaZ [.int .u8 (c2.toNat : Int)]) fun r3 =>
 some (r3))
 else
 (some (.bool false)) := by kernel_rfl
theorem QlD (lb n) (a1 : Int) :
 top lb n QbL [.int .u8 a1] =
 optO (C lb n QaZ [.int .u8 a1]) fun r2 =>
 optO (CV.asB r2) fun b3 =>
 bif b3 then
 (some (.bool true))
 else
 (optO (C lb n QbF [.int .u8 a1]) fun r4 =>
 some (r4)) := by kernel_rfl
theorem Qk3 (lb n) (a1 : Int) :
 top lb n QaZ [.int .u8 a1] =
 bif (decide (a1 ≥ 65)) then
 (some (.bool (decide (a1 ≤ 90))))
 else
 (some (.bool false)) := by kernel_rfl
theorem Qm2 (lb n) (a1 : Int) :
 top lb n QbF [.int .u8 a1] =
 bif (decide (a1 ≥ 48)) then
 (some (.bool (decide (a1 ≤ 57))))
 else
 (some (.bool false)) := by kernel_rfl
noncomputable def text_Name_L1 :=
 fun lb n (kd : Nat) a1 r2 (p3 : Bool × LL) yE =>
 hold (QaA (E0 lb n 0 994) 0 (Qag (sub (B Qa3) [1, 1, 0, 1, 0, 0]) ++ [4]) [] (sub (B Qa3) [1, 1, 0, 1, 0, 0]) (Qal 0 (seqK (E0 lb n 0 997) (sub (B Qa3) [1, 1, 0]) (sub (B Qa3) [1, 1, 1]) (retK Tryz.prog (R Qa3) 0 (outK (Qah Tryz.prog Qa3))))) kd ⟨fr 23 [(0, vS a1), (2, vB false), (8, vS a1), (9, vV r2), (10, .val (.int .i64 (p3.2.length : Int))), (11, vI yE)], [bx 23 []], KK⟩)
noncomputable def Qjt (lb n : Nat) (a1 : LB) : Option CV :=
 hold (E0 lb n 0 997 (sub (B Qa3) [1, 1, 1]) (retK Tryz.prog (R Qa3) 0 (outK (Qah Tryz.prog Qa3))) ⟨fr 23 [(0, vS a1), (2, vB false)], [bx 23 []], KK⟩)
theorem Qk9 (lb n : Nat) (a1 : LB) :
 Qjt lb n a1 =
 some (.bool true) := (Qai _).trans (by kernel_rfl)
theorem QfX (lb n kd : Nat) (a1 : LB) (r2 : CV) (p3 : Bool × LL) (yE : Int) :
 text_Name_L1 lb n (kd + 1) a1 r2 p3 yE =
 bif (decide (yE < (p3.2.length : Int))) then
 (optO (CV.asL r2) fun mM =>
 optO (atL mM.2 yE) fun c21 =>
 chkO (c21.length == 1) (
 optO (c21[0]?) fun gX =>
 optO (CV.asS gX) fun mO =>
 bif (mO == []) then
 (some (.bool false))
 else
 (optO (C lb n Qao [gX, .fn QaZ]) fun m9 =>
 optO (CV.asB m9) fun yH =>
 bif (!yH) then
 (some (.bool false))
 else
 (text_Name_L1 lb n kd a1 r2 p3 (IntKind.wrap .i64 (yE + 1))))))
 else
 (Qjt lb n a1 ) := (Qai _).trans (by kernel_rfl)
theorem Qi9 (lb n : Nat) (a1 : LB) :
 top lb n Qa3 [.str a1] =
 bif (decide ((a1.length : Int) > 30)) then
 (some (.bool false))
 else
 (optO (C lb n Qdi [.str a1, .str [32]]) fun r2 =>
 optO (CV.asL r2) fun p3 =>
 text_Name_L1 lb n n a1 r2 p3 0) := by kernel_rfl
noncomputable def QbG (lb n wU : Nat) (a1 : LB) (i5 : Int) : Option CV :=
 hold (QaA (E0 lb n 0 995) 0 (Qag (sub (B Qao) [1, 0, 1, 0, 0]) ++ [5]) [] (sub (B Qao) [1, 0, 1, 0, 0]) (Qal 0 (seqK (E0 lb n 0 998) (sub (B Qao) [1, 0]) (sub (B Qao) [1, 1]) (retK Tryz.prog (R Qao) 0 (outK (Qah Tryz.prog Qao))))) wU ⟨fr 18 [(0, vS a1), (1, .val (.fn QbF)), (4, vB false), (6, vS a1), (7, .val (.int .i64 (a1.length : Int))), (8, vI i5)], [bx 18 []], KK⟩)
noncomputable def Qdu (lb n : Nat) (a1 : LB) : Option CV :=
 hold (E0 lb n 0 998 (sub (B Qao) [1, 1]) (retK Tryz.prog (R Qao) 0 (outK (Qah Tryz.prog Qao))) ⟨fr 18 [(0, vS a1), (1, .val (.fn QbF)), (4, vB false)], [bx 18 []], KK⟩)
theorem QfC (lb n : Nat) (a1 : LB) :
 Qdu lb n a1 =
 some (.bool true) := (Qai _).trans (by kernel_rfl)
theorem QcM (lb n wU : Nat) (a1 : LB) (i5 : Int) :
 QbG lb n (wU + 1) a1 i5 =
 bif (decide (i5 < (a1.length : Int))) then
 (optO (atS a1 i5) fun c11 =>
 optO (C lb n QbF [.int .u8 (c11.toNat : Int)]) fun yB =>
 optO (CV.asB yB) fun wT =>
 bif (!wT) then
 (some (.bool false))
 else
 (QbG lb n wU a1 (IntKind.wrap .i64 (i5 + 1))))
 else
 (Qdu lb n a1 ) := (Qai _).trans (by kernel_rfl)
theorem Qgu (lb n : Nat) (a1 : LB) :
 top lb n Qao [.str a1, .fn QbF] =
 QbG lb n n a1 0 := by kernel_rfl
noncomputable def Qbu (lb n wU : Nat) (a1 : LB) (i5 : Int) : Option CV :=
 hold (QaA (E0 lb n 0 995) 0 (Qag (sub (B Qao) [1, 0, 1, 0, 0]) ++ [5]) [] (sub (B Qao) [1, 0, 1, 0, 0]) (Qal 0 (seqK (E0 lb n 0 998) (sub (B Qao) [1, 0]) (sub (B Qao) [1, 1]) (retK Tryz.prog (R Qao) 0 (outK (Qah Tryz.prog Qao))))) wU ⟨fr 18 [(0, vS a1), (1, .val (.fn QaZ)), (4, vB false), (6, vS a1), (7, .val (.int .i64 (a1.length : Int))), (8, vI i5)], [bx 18 []], KK⟩)
noncomputable def Qdd (lb n : Nat) (a1 : LB) : Option CV :=
 hold (E0 lb n 0 998 (sub (B Qao) [1, 1]) (retK Tryz.prog (R Qao) 0 (outK (Qah Tryz.prog Qao))) ⟨fr 18 [(0, vS a1), (1, .val (.fn QaZ)), (4, vB false)], [bx 18 []], KK⟩)
theorem QeL (lb n : Nat) (a1 : LB) :
 Qdd lb n a1 =
 some (.bool true) := (Qai _).trans (by kernel_rfl)
theorem Qcv (lb n wU : Nat) (a1 : LB) (i5 : Int) :
 Qbu lb n (wU + 1) a1 i5 =
 bif (decide (i5 < (a1.length : Int))) then
 (optO (atS a1 i5) fun c11 =>
 optO (C lb n QaZ [.int .u8 (c11.toNat : Int)]) fun yB =>
 optO (CV.asB yB) fun wT =>
 bif (!wT) then
 (some (.bool false))
 else
 (Qbu lb n wU a1 (IntKind.wrap .i64 (i5 + 1))))
 else
 (Qdd lb n a1 ) := (Qai _).trans (by kernel_rfl)
theorem QfP (lb n : Nat) (a1 : LB) :
 top lb n Qao [.str a1, .fn QaZ] =
 Qbu lb n n a1 0 := by kernel_rfl
noncomputable def Qbz (lb n wU : Nat) (a1 : LB) (i5 : Int) : Option CV :=
 hold (QaA (E0 lb n 0 995) 0 (Qag (sub (B Qao) [1, 0, 1, 0, 0]) ++ [5]) [] (sub (B Qao) [1, 0, 1, 0, 0]) (Qal 0 (seqK (E0 lb n 0 998) (sub (B Qao) [1, 0]) (sub (B Qao) [1, 1]) (retK Tryz.prog (R Qao) 0 (outK (Qah Tryz.prog Qao))))) wU ⟨fr 18 [(0, vS a1), (1, .val (.fn QbL)), (4, vB false), (6, vS a1), (7, .val (.int .i64 (a1.length : Int))), (8, vI i5)], [bx 18 []], KK⟩)
noncomputable def Qdk (lb n : Nat) (a1 : LB) : Option CV :=
 hold (E0 lb n 0 998 (sub (B Qao) [1, 1]) (retK Tryz.prog (R Qao) 0 (outK (Qah Tryz.prog Qao))) ⟨fr 18 [(0, vS a1), (1, .val (.fn QbL)), (4, vB false)], [bx 18 []], KK⟩)
theorem Qfi (lb n : Nat) (a1 : LB) :
 Qdk lb n a1 =
 some (.bool true) := (Qai _).trans (by kernel_rfl)
theorem QcD (lb n wU : Nat) (a1 : LB) (i5 : Int) :
 Qbz lb n (wU + 1) a1 i5 =
 bif (decide (i5 < (a1.length : Int))) then
 (optO (atS a1 i5) fun c11 =>
 optO (C lb n QbL [.int .u8 (c11.toNat : Int)]) fun yB =>
 optO (CV.asB yB) fun wT =>
 bif (!wT) then
 (some (.bool false))
 else
 (Qbz lb n wU a1 (IntKind.wrap .i64 (i5 + 1))))
 else
 (Qdk lb n a1 ) := (Qai _).trans (by kernel_rfl)
theorem QfZ (lb n : Nat) (a1 : LB) :
 top lb n Qao [.str a1, .fn QbL] =
 Qbz lb n n a1 0 := by kernel_rfl
end Go.Proofs
