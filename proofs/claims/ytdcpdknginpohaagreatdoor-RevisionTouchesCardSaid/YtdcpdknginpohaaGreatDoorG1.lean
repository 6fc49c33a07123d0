/- Equations of functions, printed by program. Conditions: none. -/
import Derived.Test.YtdcpdknginpohaaGreatDoorEv
namespace Go.Proofs
open Go.Am
set_option maxRecDepth 100000
set_option linter.unusedVariables false
theorem QmS (lb n) (a1 : Int) :
 top lb n QcE [.int .i64 a1] =
 bif (decide (a1 < 0)) then
 (optO (C lb n QdL [.int .u64 (IntKind.wrap .u64 ((IntKind.wrap .u64 (IntKind.wrap .i64 (0 - (IntKind.wrap .i64 (a1 + 1))))) + 1))]) fun r2 =>
 optO (CV.asS r2) fun s3 =>
 chkO (decide (([45] : LB).length + s3.length ≤ 9223372036854775807)) (
 some (.str (([45] : LB) ++ s3))))
 else
 (optO (C lb n QdL [.int .u64 (IntKind.wrap .u64 (a1))]) fun r4 =>
 some (r4)) := by kernel_rfl
theorem Qnk (lb n) (a1 : LB) :
 top lb n Qeb [.str a1] =
 optO (C lb n Qa3 [.str a1, .int .i64 3]) fun r2 =>
 some (r2) := by kernel_rfl
noncomputable def r01_Code_L1 :=
 fun lb n (yB : Nat) a1 b2 c3 yo =>
 hold (Qat (E0 lb n 0 995) 0 (Qag (sub (B QbB) [1, 0, 1, 0, 0]) ++ []) [] (sub (B QbB) [1, 0, 1, 0, 0]) (Qai 0 (seqK (E0 lb n 0 998) (sub (B QbB) [1, 0]) (sub (B QbB) [1, 1]) (retK Tryz.prog (R QbB) 0 (outK (Qaf Tryz.prog QbB))))) yB ⟨fr 36 [(0, vS a1), (1, vI b2), (2, vI c3), (6, vB false), (7, vI yo)], [bx 36 []], KK⟩)
noncomputable def Qlf (lb n : Nat) (a1 : LB) (b2 c3 vu : Int) : Option CV :=
 hold (E0 lb n 0 998 (sub (B QbB) [1, 1]) (retK Tryz.prog (R QbB) 0 (outK (Qaf Tryz.prog QbB))) ⟨fr 36 [(0, vS a1), (1, vI b2), (2, vI c3), (6, vB false), (7, vI vu)], [bx 36 []], KK⟩)
theorem Qnn (lb n : Nat) (a1 : LB) (b2 c3 vu : Int) :
 Qlf lb n a1 b2 c3 vu =
 bif (decide ((a1.length : Int) ≥ b2)) then
 (some (.bool (decide ((a1.length : Int) ≤ c3))))
 else
 (some (.bool false)) := (Qae _).trans (by kernel_rfl)
theorem QgD (lb n yB : Nat) (a1 : LB) (b2 c3 yo : Int) :
 r01_Code_L1 lb n (yB + 1) a1 b2 c3 yo =
 bif (decide (yo < (a1.length : Int))) then
 (optO (atS a1 yo) fun c21 =>
 optO (C lb n Qdo [.int .u8 (c21.toNat : Int)]) fun qi =>
 optO (CV.asB qi) fun vA =>
 bif (!vA) then
 (optO (atS a1 yo) fun c24 =>
 optO (C lb n Qhw [.int .u8 (c24.toNat : Int)]) fun mc =>
 optO (CV.asB mc) fun kv =>
 bif (!kv) then
 (some (.bool false))
 else
 (r01_Code_L1 lb n yB a1 b2 c3 (IntKind.wrap .i64 (yo + 1))))
 else
 (r01_Code_L1 lb n yB a1 b2 c3 (IntKind.wrap .i64 (yo + 1))))
 else
 (Qlf lb n a1 b2 c3 yo) := (Qae _).trans (by kernel_rfl)
theorem Qqt (lb n : Nat) (a1 : LB) (b2 c3 : Int) :
 top lb n QbB [.str a1, .int .i64 b2, .int .i64 c3] =
 r01_Code_L1 lb n n a1 b2 c3 0 := by kernel_rfl
theorem QmT (lb n : Nat) (a1 : LB) :
 top lb n QfT [.str a1] =
 optO (C lb n QbB [.str a1, .int .i64 2, .int .i64 2]) fun r2 =>
 optO (CV.asB r2) fun b3 =>
 bif b3 then
 (optO (atS a1 0) fun c4 =>
 optO (C lb n Qdo [.int .u8 (c4.toNat : Int)]) fun r5 =>
 optO (CV.asB r5) fun b6 =>
 bif b6 then
 (some (.bool true))
 else
 (optO (atS a1 1) fun c7 =>
 optO (C lb n Qdo [.int .u8 (c7.toNat : Int)]) fun r9 =>
 some (r9)))
 else
 (some (.bool false)) := by kernel_rfl
theorem Qi7 (lb n : Nat) (a1 : Int) :
 top lb n QdL [.int .u64 a1] =
 bif (decide (a1 < 10)) then
 (chkO (decide ((0 : Int) ≤ (IntKind.wrap .u64 (a1 + 1)) ∧ (IntKind.wrap .u64 (a1 + 1)) ≤ 10)) (
 chkO (decide ((0 : Int) ≤ a1 ∧ a1 ≤ (IntKind.wrap .u64 (a1 + 1)))) (
 some (.str ((([48, 49, 50, 51, 52, 53, 54, 55, 56, 57] : LB).take ((IntKind.wrap .u64 (a1 + 1)).toNat)).drop a1.toNat)))))
 else
 (optO (C lb n QdL [.int .u64 (IntKind.wrap .u64 (Int.tdiv a1 10))]) fun r2 =>
 chkO (decide ((0 : Int) ≤ (IntKind.wrap .u64 ((Int.tmod a1 10) + 1)) ∧ (IntKind.wrap .u64 ((Int.tmod a1 10) + 1)) ≤ 10)) (
 chkO (decide ((0 : Int) ≤ (Int.tmod a1 10) ∧ (Int.tmod a1 10) ≤ (IntKind.wrap .u64 ((Int.tmod a1 10) + 1)))) (
 optO (CV.asS r2) fun s3 =>
 chkO (decide (s3.length + ((([48, 49, 50, 51, 52, 53, 54, 55, 56, 57] : LB).take ((IntKind.wrap .u64 ((Int.tmod a1 10) + 1)).toNat)).drop ((Int.tmod a1 10).toNat)).length ≤ 9223372036854775807)) (
 some (.str (s3 ++ ((([48, 49, 50, 51, 52, 53, 54, 55, 56, 57] : LB).take ((IntKind.wrap .u64 ((Int.tmod a1 10) + 1)).toNat)).drop ((Int.tmod a1 10).toNat)))))))) := by kernel_rfl
noncomputable def QdT (lb n oU : Nat) (a1 : LB) (b2 i6 : Int) : Option CV :=
 hold (Qat (E0 lb n 0 995) 0 (Qag (sub (B Qa3) [1, 0, 1, 0, 0]) ++ []) [] (sub (B Qa3) [1, 0, 1, 0, 0]) (Qai 0 (seqK (E0 lb n 0 998) (sub (B Qa3) [1, 0]) (sub (B Qa3) [1, 1]) (retK Tryz.prog (R Qa3) 0 (outK (Qaf Tryz.prog Qa3))))) oU ⟨fr 21 [(0, vS a1), (1, vI b2), (4, vB false), (5, vI i6)], [bx 21 []], KK⟩)
noncomputable def Qh6 (lb n : Nat) (a1 : LB) (b2 yR : Int) : Option CV :=
 hold (E0 lb n 0 998 (sub (B Qa3) [1, 1]) (retK Tryz.prog (R Qa3) 0 (outK (Qaf Tryz.prog Qa3))) ⟨fr 21 [(0, vS a1), (1, vI b2), (4, vB false), (5, vI yR)], [bx 21 []], KK⟩)
theorem Qkv (lb n : Nat) (a1 : LB) (b2 yR : Int) :
 Qh6 lb n a1 b2 yR =
 some (.bool ((a1.length : Int) == b2)) := (Qae _).trans (by kernel_rfl)
theorem QeX (lb n oU : Nat) (a1 : LB) (b2 i6 : Int) :
 QdT lb n (oU + 1) a1 b2 i6 =
 bif (decide (i6 < (a1.length : Int))) then
 (optO (atS a1 i6) fun c12 =>
 optO (C lb n Qdo [.int .u8 (c12.toNat : Int)]) fun jS =>
 optO (CV.asB jS) fun gz =>
 bif (!gz) then
 (some (.bool false))
 else
 (QdT lb n oU a1 b2 (IntKind.wrap .i64 (i6 + 1))))
 else
 (Qh6 lb n a1 b2 i6) := (Qae _).trans (by kernel_rfl)
theorem Qm0 (lb n : Nat) (a1 : LB) (b2 : Int) :
 top lb n Qa3 [.str a1, .int .i64 b2] =
 QdT lb n n a1 b2 0 := by kernel_rfl
theorem QpI (lb n : Nat) (a1 : Int) :
 top lb n Qdo [.int .u8 a1] =
 bif (decide (a1 ≥ 65)) then
 (some (.bool (decide (a1 ≤ 90))))
 else
 (some (.bool false)) := by kernel_rfl
theorem Qpf (lb n : Nat) (a1 : Int) :
 top lb n Qhw [.int .u8 a1] =
 bif (decide (a1 ≥ 48)) then
 (some (.bool (decide (a1 ≤ 57))))
 else
 (some (.bool false)) := by kernel_rfl
theorem Qns (lb n : Nat) (a1 : LB) :
 top lb n QfX [.str a1] =
 optO (C lb n Qa3 [.str a1, .int .i64 2]) fun r2 =>
 some (r2) := by kernel_rfl
end Go.Proofs
