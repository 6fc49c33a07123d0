/- Equations of functions, printed by program. Conditions: none. -/
import Derived.Test.YtdcpdknginpohaaGreatDoorEv
namespace Go.Proofs
open Go.Am
set_option maxRecDepth 100000
set_option linter.unusedVariables false
theorem Qn6 (lb n) (a1 : Int) :
 top lb n QcQ [.int .i64 a1] =
 bif (decide (a1 < 0)) then
 (optO (C lb n QdU [.int .u64 (IntKind.wrap .u64 ((IntKind.wrap .u64 (IntKind.wrap .i64 (0 - (IntKind.wrap .i64 (a1 + 1))))) + 1))]) fun r2 =>
 optO (CV.asS r2) fun s3 =>
 chkO (decide (([45] : LB).length + s3.length ≤ 9223372036854775807)) (
 some (.str (([45] : LB) ++ s3))))
 else
 (optO (C lb n QdU [.int .u64 (IntKind.wrap .u64 (a1))]) fun r4 =>
 some (r4)) := by kernel_rfl
theorem Qn0 (lb n) (a1 : LB) :
 top lb n QeE [.str a1] =
 optO (C lb n Qa2 [.str a1, .int .i64 3]) fun r2 =>
 some (r2) := by kernel_rfl
noncomputable def r01_Code_L1 :=
 fun lb n (yH : Nat) a1 b2 c3 j6 =>
 hold (Qas (E0 lb n 0 995) 0 (Qag (sub (B QbG) [1, 0, 1, 0, 0]) ++ []) [] (sub (B QbG) [1, 0, 1, 0, 0]) (Qaj 0 (seqK (E0 lb n 0 998) (sub (B QbG) [1, 0]) (sub (B QbG) [1, 1]) (retK Tryz.prog (R QbG) 0 (outK (Qaf Tryz.prog QbG))))) yH ⟨fr 36 [(0, vS a1), (1, vI b2), (2, vI c3), (6, vB false), (7, vI j6)], [bx 36 []], KK⟩)
noncomputable def QlR (lb n : Nat) (a1 : LB) (b2 c3 wD : Int) : Option CV :=
 hold (E0 lb n 0 998 (sub (B QbG) [1, 1]) (retK Tryz.prog (R QbG) 0 (outK (Qaf Tryz.prog QbG))) ⟨fr 36 [(0, vS a1), (1, vI b2), (2, vI c3), (6, vB false), (7, vI wD)], [bx 36 []], KK⟩)
theorem Qn9 (lb n : Nat) (a1 : LB) (b2 c3 wD : Int) :
 QlR lb n a1 b2 c3 wD =
 bif (decide ((a1.length : Int) ≥ b2)) then
 (some (.bool (decide ((a1.length : Int) ≤ c3))))
 else
 (some (.bool false)) := (Qad _).trans (by kernel_rfl)
theorem Qhx (lb n yH : Nat) (a1 : LB) (b2 c3 j6 : Int) :
 r01_Code_L1 lb n (yH + 1) a1 b2 c3 j6 =
 bif (decide (j6 < (a1.length : Int))) then
 (optO (atS a1 j6) fun c21 =>
 optO (C lb n QdC [.int .u8 (c21.toNat : Int)]) fun oI =>
 optO (CV.asB oI) fun vm =>
 bif (!vm) then
 (optO (atS a1 j6) fun c24 =>
 optO (C lb n Qid [.int .u8 (c24.toNat : Int)]) fun kB =>
 optO (CV.asB kB) fun gw =>
 bif (!gw) then
 (some (.bool false))
 else
 (r01_Code_L1 lb n yH a1 b2 c3 (IntKind.wrap .i64 (j6 + 1))))
 else
 (r01_Code_L1 lb n yH a1 b2 c3 (IntKind.wrap .i64 (j6 + 1))))
 else
 (QlR lb n a1 b2 c3 j6) := (Qad _).trans (by kernel_rfl)
theorem QrF (lb n : Nat) (a1 : LB) (b2 c3 : Int) :
 top lb n QbG [.str a1, .int .i64 b2, .int .i64 c3] =
 r01_Code_L1 lb n n a1 b2 c3 0 := by kernel_rfl
theorem Qn2 (lb n : Nat) (a1 : LB) :
 top lb n Qgr [.str a1] =
 optO (C lb n QbG [.str a1, .int .i64 2, .int .i64 2]) fun r2 =>
 optO (CV.asB r2) fun b3 =>
 bif b3 then
 (optO (atS a1 0) fun c4 =>
 optO (C lb n QdC [.int .u8 (c4.toNat : Int)]) fun r5 =>
 optO (CV.asB r5) fun b6 =>
 bif b6 then
 (some (.bool true))
 else
 (optO (atS a1 1) fun c7 =>
 optO (C lb n QdC [.int .u8 (c7.toNat : Int)]) fun r9 =>
 some (r9)))
 else
 (some (.bool false)) := by kernel_rfl
theorem QjR (lb n : Nat) (a1 : Int) :
 top lb n QdU [.int .u64 a1] =
 bif (decide (a1 < 10)) then
 (chkO (decide ((0 : Int) ≤ (IntKind.wrap .u64 (a1 + 1)) ∧ (IntKind.wrap .u64 (a1 + 1)) ≤ 10)) (
 chkO (decide ((0 : Int) ≤ a1 ∧ a1 ≤ (IntKind.wrap .u64 (a1 + 1)))) (
 some (.str ((([48, 49, 50, 51, 52, 53, 54, 55, 56, 57] : LB).take ((IntKind.wrap .u64 (a1 + 1)).toNat)).drop a1.toNat)))))
 else
 (optO (C lb n QdU [.int .u64 (IntKind.wrap .u64 (Int.tdiv a1 10))]) fun r2 =>
 chkO (decide ((0 : Int) ≤ (IntKind.wrap .u64 ((Int.tmod a1 10) + 1)) ∧ (IntKind.wrap .u64 ((Int.tmod a1 10) + 1)) ≤ 10)) (
 chkO (decide ((0 : Int) ≤ (Int.tmod a1 10) ∧ (Int.tmod a1 10) ≤ (IntKind.wrap .u64 ((Int.tmod a1 10) + 1)))) (
 optO (CV.asS r2) fun s3 =>
 chkO (decide (s3.length + ((([48, 49, 50, 51, 52, 53, 54, 55, 56, 57] : LB).take ((IntKind.wrap .u64 ((Int.tmod a1 10) + 1)).toNat)).drop ((Int.tmod a1 10).toNat)).length ≤ 9223372036854775807)) (
 some (.str (s3 ++ ((([48, 49, 50, 51, 52, 53, 54, 55, 56, 57] : LB).take ((IntKind.wrap .u64 ((Int.tmod a1 10) + 1)).toNat)).drop ((Int.tmod a1 10).toNat)))))))) := by kernel_rfl
noncomputable def Qeh (lb n oJ : Nat) (a1 : LB) (b2 i6 : Int) : Option CV :=
 hold (Qas (E0 lb n 0 995) 0 (Qag (sub (B Qa2) [1, 0, 1, 0, 0]) ++ []) [] (sub (B Qa2) [1, 0, 1, 0, 0]) (Qaj 0 (seqK (E0 lb n 0 998) (sub (B Qa2) [1, 0]) (sub (B Qa2) [1, 1]) (retK Tryz.prog (R Qa2) 0 (outK (Qaf Tryz.prog Qa2))))) oJ ⟨fr 21 [(0, vS a1), (1, vI b2), (4, vB false), (5, vI i6)], [bx 21 []], KK⟩)
noncomputable def QiA (lb n : Nat) (a1 : LB) (b2 yi : Int) : Option CV :=
 hold (E0 lb n 0 998 (sub (B Qa2) [1, 1]) (retK Tryz.prog (R Qa2) 0 (outK (Qaf Tryz.prog Qa2))) ⟨fr 21 [(0, vS a1), (1, vI b2), (4, vB false), (5, vI yi)], [bx 21 []], KK⟩)
theorem Qlo (lb n : Nat) (a1 : LB) (b2 yi : Int) :
 QiA lb n a1 b2 yi =
 some (.bool ((a1.length : Int) == b2)) := (Qad _).trans (by kernel_rfl)
theorem Qfu (lb n oJ : Nat) (a1 : LB) (b2 i6 : Int) :
 Qeh lb n (oJ + 1) a1 b2 i6 =
 bif (decide (i6 < (a1.length : Int))) then
 (optO (atS a1 i6) fun c12 =>
 optO (C lb n QdC [.int .u8 (c12.toNat : Int)]) fun vo =>
 optO (CV.asB vo) fun gq =>
 bif (!gq) then
 (some (.bool false))
 else
 (Qeh lb n oJ a1 b2 (IntKind.wrap .i64 (i6 + 1))))
 else
 (QiA lb n a1 b2 i6) := (Qad _).trans (by kernel_rfl)
theorem QnY (lb n : Nat) (a1 : LB) (b2 : Int) :
 top lb n Qa2 [.str a1, .int .i64 b2] =
 Qeh lb n n a1 b2 0 := by kernel_rfl
theorem QpS (lb n : Nat) (a1 : Int) :
 top lb n QdC [.int .u8 a1] =
 bif (decide (a1 ≥ 65)) then
 (some (.bool (decide (a1 ≤ 90))))
 else
 (some (.bool false)) := by kernel_rfl
theorem QqK (lb n : Nat) (a1 : Int) :
 top lb n Qid [.int .u8 a1] =
 bif (decide (a1 ≥ 48)) then
 (some (.bool (decide (a1 ≤ 57))))
 else
 (some (.bool false)) := by kernel_rfl
theorem Qoc (lb n : Nat) (a1 : LB) :
 top lb n Qgl [.str a1] =
 optO (C lb n Qa2 [.str a1, .int .i64 2]) fun r2 =>
 some (r2) := by kernel_rfl
end Go.Proofs
