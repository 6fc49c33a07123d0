/- Equations of functions, printed by program. Conditions: none. -/
import Derived.Test.YtdcpdknginpohaaGreatDoorEv
namespace Go.Proofs
open Go.Am
set_option maxRecDepth 100000
set_option linter.unusedVariables false
theorem Qrq (lb n) (a1 : Int) :
 top lb n QdS [.int .i64 a1] =
 bif (decide (a1 < 0)) then
 (optO (C lb n QfG [.int .u64 (IntKind.wrap .u64 ((IntKind.wrap .u64 (IntKind.wrap .i64 (0 - (IntKind.wrap .i64 (a1 + 1))))) + 1))]) fun r2 =>
 optO (CV.asS r2) fun s3 =>
 chkO (decide (([45] : LB).length + s3.length ≤ 9223372036854775807)) (
 some (.str (([45] : LB) ++ s3))))
 else
 (optO (C lb n QfG [.int .u64 (IntKind.wrap .u64 (a1))]) fun r4 =>
 some (r4)) := by kernel_rfl
theorem Qpz (lb n) (a1 : Int) :
 top lb n QhI [.int .i64 a1] =
 optO (C lb n QeA [.int .i64 a1]) fun r2 =>
 some (r2) := by kernel_rfl
theorem Qq6 (lb n) (a1 : LB) :
 top lb n Qgq [.str a1] =
 optO (C lb n Qbz [.str a1, .int .i64 3]) fun r2 =>
 some (r2) := by kernel_rfl
noncomputable def r01_Code_L1 :=
 fun lb n (k5 : Nat) a1 b2 c3 vR =>
 hold (Qas (E0 lb n 0 995) 0 (Qad (sub (B Qci) [1, 0, 1, 0, 0]) ++ []) [] (sub (B Qci) [1, 0, 1, 0, 0]) (Qaj 0 (seqK (E0 lb n 0 998) (sub (B Qci) [1, 0]) (sub (B Qci) [1, 1]) (retK Tryz.prog (R Qci) 0 (outK (Qag Tryz.prog Qci))))) k5 ⟨fr 36 [(0, vS a1), (1, vI b2), (2, vI c3), (6, vB false), (7, vI vR)], [bx 36 []], KK⟩)
noncomputable def Qoa (lb n : Nat) (a1 : LB) (b2 c3 oI : Int) : Option CV :=
 hold (E0 lb n 0 998 (sub (B Qci) [1, 1]) (retK Tryz.prog (R Qci) 0 (outK (Qag Tryz.prog Qci))) ⟨fr 36 [(0, vS a1), (1, vI b2), (2, vI c3), (6, vB false), (7, vI oI)], [bx 36 []], KK⟩)
theorem Qrh (lb n : Nat) (a1 : LB) (b2 c3 oI : Int) :
 Qoa lb n a1 b2 c3 oI =
 bif (decide ((a1.length : Int) ≥ b2)) then
 (some (.bool (decide ((a1.length : Int) ≤ c3))))
 else
 (some (.bool false)) := (Qaf _).trans (by kernel_rfl)
theorem Qjm (lb n k5 : Nat) (a1 : LB) (b2 c3 vR : Int) :
 r01_Code_L1 lb n (k5 + 1) a1 b2 c3 vR =
 bif (decide (vR < (a1.length : Int))) then
 (optO (atS a1 vR) fun c21 =>
 optO (C lb n Qe5 [.int .u8 (c21.toNat : Int)]) fun qq =>
 optO (CV.asB qq) fun kE =>
 bif (!kE) then
 (optO (atS a1 vR) fun c24 =>
 optO (C lb n Qko [.int .u8 (c24.toNat : Int)]) fun nb =>
 optO (CV.asB nb) fun lg =>
 bif (!lg) then
 (some (.bool false))
 else
 (r01_Code_L1 lb n k5 a1 b2 c3 (IntKind.wrap .i64 (vR + 1))))
 else
 (r01_Code_L1 lb n k5 a1 b2 c3 (IntKind.wrap .i64 (vR + 1))))
 else
 (Qoa lb n a1 b2 c3 vR) := (Qaf _).trans (by kernel_rfl)
theorem QuW (lb n : Nat) (a1 : LB) (b2 c3 : Int) :
 top lb n Qci [.str a1, .int .i64 b2, .int .i64 c3] =
 r01_Code_L1 lb n n a1 b2 c3 0 := by kernel_rfl
theorem Qql (lb n : Nat) (a1 : LB) :
 top lb n QhE [.str a1] =
 optO (C lb n QhW [.str a1, .int .i64 2, .int .i64 2]) fun r2 =>
 optO (CV.asB r2) fun b3 =>
 bif b3 then
 (optO (C lb n QaX [.str a1, .fn QcT]) fun r4 =>
 optO (CV.asB r4) fun b5 =>
 some (.bool (!b5)))
 else
 (some (.bool false)) := by kernel_rfl
theorem Qtn (lb n : Nat) (a1 : LB) (b2 c3 : Int) :
 top lb n QhW [.str a1, .int .i64 b2, .int .i64 c3] =
 bif (decide ((a1.length : Int) ≥ b2)) then
 (bif (decide ((a1.length : Int) ≤ c3)) then
 (optO (C lb n QaX [.str a1, .fn Qc4]) fun r4 =>
 some (r4))
 else
 (some (.bool false)))
 else
 (some (.bool false)) := by kernel_rfl
theorem QqM (lb n : Nat) (a1 : LB) :
 top lb n Qir [.str a1] =
 optO (C lb n Qci [.str a1, .int .i64 2, .int .i64 2]) fun r2 =>
 optO (CV.asB r2) fun b3 =>
 bif b3 then
 (optO (atS a1 0) fun c4 =>
 optO (C lb n Qe5 [.int .u8 (c4.toNat : Int)]) fun r5 =>
 optO (CV.asB r5) fun b6 =>
 bif b6 then
 (some (.bool true))
 else
 (optO (atS a1 1) fun c7 =>
 optO (C lb n Qe5 [.int .u8 (c7.toNat : Int)]) fun r9 =>
 some (r9)))
 else
 (some (.bool false)) := by kernel_rfl
theorem QlS (lb n : Nat) (a1 : Int) :
 top lb n QfG [.int .u64 a1] =
 bif (decide (a1 < 10)) then
 (chkO (decide ((0 : Int) ≤ (IntKind.wrap .u64 (a1 + 1)) ∧ (IntKind.wrap .u64 (a1 + 1)) ≤ 10)) (
 chkO (decide ((0 : Int) ≤ a1 ∧ a1 ≤ (IntKind.wrap .u64 (a1 + 1)))) (
 some (.str ((([48, 49, 50, 51, 52, 53, 54, 55, 56, 57] : LB).take ((IntKind.wrap .u64 (a1 + 1)).toNat)).drop a1.toNat)))))
 else
 (optO (C lb n QfG [.int .u64 (IntKind.wrap .u64 (Int.tdiv a1 10))]) fun r2 =>
 chkO (decide ((0 : Int) ≤ (IntKind.wrap .u64 ((Int.tmod a1 10) + 1)) ∧ (IntKind.wrap .u64 ((Int.tmod a1 10) + 1)) ≤ 10)) (
 chkO (decide ((0 : Int) ≤ (Int.tmod a1 10) ∧ (Int.tmod a1 10) ≤ (IntKind.wrap .u64 ((Int.tmod a1 10) + 1)))) (
 optO (CV.asS r2) fun s3 =>
 chkO (decide (s3.length + ((([48, 49, 50, 51, 52, 53, 54, 55, 56, 57] : LB).take ((IntKind.wrap .u64 ((Int.tmod a1 10) + 1)).toNat)).drop ((Int.tmod a1 10).toNat)).length ≤ 9223372036854775807)) (
 some (.str (s3 ++ ((([48, 49, 50, 51, 52, 53, 54, 55, 56, 57] : LB).take ((IntKind.wrap .u64 ((Int.tmod a1 10) + 1)).toNat)).drop ((Int.tmod a1 10).toNat)))))))) := by kernel_rfl
noncomputable def QfT (lb n pC : Nat) (a1 : LB) (b2 i6 : Int) : Option CV :=
 hold (Qas (E0 lb n 0 995) 0 (Qad (sub (B Qbz) [1, 0, 1, 0, 0]) ++ []) [] (sub (B Qbz) [1, 0, 1, 0, 0]) (Qaj 0 (seqK (E0 lb n 0 998) (sub (B Qbz) [1, 0]) (sub (B Qbz) [1, 1]) (retK Tryz.prog (R Qbz) 0 (outK (Qag Tryz.prog Qbz))))) pC ⟨fr 21 [(0, vS a1), (1, vI b2), (4, vB false), (5, vI i6)], [bx 21 []], KK⟩)
noncomputable def QkE (lb n : Nat) (a1 : LB) (b2 kT : Int) : Option CV :=
 hold (E0 lb n 0 998 (sub (B Qbz) [1, 1]) (retK Tryz.prog (R Qbz) 0 (outK (Qag Tryz.prog Qbz))) ⟨fr 21 [(0, vS a1), (1, vI b2), (4, vB false), (5, vI kT)], [bx 21 []], KK⟩)
theorem QnX (lb n : Nat) (a1 : LB) (b2 kT : Int) :
 QkE lb n a1 b2 kT =
 some (.bool ((a1.length : Int) == b2)) := (Qaf _).trans (by kernel_rfl)
theorem Qhq (lb n pC : Nat) (a1 : LB) (b2 i6 : Int) :
 QfT lb n (pC + 1) a1 b2 i6 =
 bif (decide (i6 < (a1.length : Int))) then
 (optO (atS a1 i6) fun c12 =>
 optO (C lb n Qe5 [.int .u8 (c12.toNat : Int)]) fun gz =>
 optO (CV.asB gz) fun m6 =>
 bif (!m6) then
 (some (.bool false))
 else
 (QfT lb n pC a1 b2 (IntKind.wrap .i64 (i6 + 1))))
 else
 (QkE lb n a1 b2 i6) := (Qaf _).trans (by kernel_rfl)
theorem Qq4 (lb n : Nat) (a1 : LB) (b2 : Int) :
 top lb n Qbz [.str a1, .int .i64 b2] =
 QfT lb n n a1 b2 0 := by kernel_rfl
theorem Qt0 (lb n : Nat) (a1 : Int) :
 top lb n Qe5 [.int .u8 a1] =
 bif (decide (a1 ≥ 65)) then
 (some (.bool (decide (a1 ≤ 90))))
 else
 (some (.bool false)) := by kernel_rfl
theorem Qux (lb n : Nat) (a1 : Int) :
 top lb n Qko [.int .u8 a1] =
 bif (decide (a1 ≥ 48)) then
 (some (.bool (decide (a1 ≤ 57))))
 else
 (some (.bool false)) := by kernel_rfl
theorem QsM (lb n : Nat) (a1 : Int) :
 top lb n QcT [.int .u8 a1] =
 bif (decide (a1 ≥ 48)) then
 (some (.bool (decide (a1 ≤ 57))))
 else
 (some (.bool false)) := by kernel_rfl
theorem Qru (lb n : Nat) (a1 : Int) :
 top lb n Qc4 [.int .u8 a1] =
 optO (C lb n QhH [.int .u8 a1]) fun r2 =>
 optO (CV.asB r2) fun b3 =>
 bif b3 then
 (some (.bool true))
 else
 (optO (C lb n QcT [.int .u8 a1]) fun r4 =>
 some (r4)) := by kernel_rfl
theorem Qqd (lb n : Nat) (a1 : Int) :
 top lb n QhH [.int .u8 a1] =
 bif (decide (a1 ≥ 65)) then
 (some (.bool (decide (a1 ≤ 90))))
 else
 (some (.bool false)) := by kernel_rfl
theorem QqZ (lb n : Nat) (a1 : LB) :
 top lb n Qis [.str a1] =
 optO (C lb n Qbz [.str a1, .int .i64 2]) fun r2 =>
 some (r2) := by kernel_rfl
noncomputable def QcL (lb n oO : Nat) (a1 : LB) (i5 : Int) : Option CV :=
 hold (Qas (E0 lb n 0 995) 0 (Qad (sub (B QaX) [1, 0, 1, 0, 0]) ++ [5]) [] (sub (B QaX) [1, 0, 1, 0, 0]) (Qaj 0 (seqK (E0 lb n 0 998) (sub (B QaX) [1, 0]) (sub (B QaX) [1, 1]) (retK Tryz.prog (R QaX) 0 (outK (Qag Tryz.prog QaX))))) oO ⟨fr 18 [(0, vS a1), (1, .val (.fn QcT)), (4, vB false), (6, vS a1), (7, .val (.int .i64 (a1.length : Int))), (8, vI i5)], [bx 18 []], KK⟩)
noncomputable def QfH (lb n : Nat) (a1 : LB) : Option CV :=
 hold (E0 lb n 0 998 (sub (B QaX) [1, 1]) (retK Tryz.prog (R QaX) 0 (outK (Qag Tryz.prog QaX))) ⟨fr 18 [(0, vS a1), (1, .val (.fn QcT)), (4, vB false)], [bx 18 []], KK⟩)
theorem Qid (lb n : Nat) (a1 : LB) :
 QfH lb n a1 =
 some (.bool true) := (Qaf _).trans (by kernel_rfl)
theorem Qeb (lb n oO : Nat) (a1 : LB) (i5 : Int) :
 QcL lb n (oO + 1) a1 i5 =
 bif (decide (i5 < (a1.length : Int))) then
 (optO (atS a1 i5) fun c11 =>
 optO (C lb n QcT [.int .u8 (c11.toNat : Int)]) fun y6 =>
 optO (CV.asB y6) fun kx =>
 bif (!kx) then
 (some (.bool false))
 else
 (QcL lb n oO a1 (IntKind.wrap .i64 (i5 + 1))))
 else
 (QfH lb n a1 ) := (Qaf _).trans (by kernel_rfl)
theorem Qjl (lb n : Nat) (a1 : LB) :
 top lb n QaX [.str a1, .fn QcT] =
 QcL lb n n a1 0 := by kernel_rfl
noncomputable def QcF (lb n oO : Nat) (a1 : LB) (i5 : Int) : Option CV :=
 hold (Qas (E0 lb n 0 995) 0 (Qad (sub (B QaX) [1, 0, 1, 0, 0]) ++ [5]) [] (sub (B QaX) [1, 0, 1, 0, 0]) (Qaj 0 (seqK (E0 lb n 0 998) (sub (B QaX) [1, 0]) (sub (B QaX) [1, 1]) (retK Tryz.prog (R QaX) 0 (outK (Qag Tryz.prog QaX))))) oO ⟨fr 18 [(0, vS a1), (1, .val (.fn Qc4)), (4, vB false), (6, vS a1), (7, .val (.int .i64 (a1.length : Int))), (8, vI i5)], [bx 18 []], KK⟩)
noncomputable def Qfi (lb n : Nat) (a1 : LB) : Option CV :=
 hold (E0 lb n 0 998 (sub (B QaX) [1, 1]) (retK Tryz.prog (R QaX) 0 (outK (Qag Tryz.prog QaX))) ⟨fr 18 [(0, vS a1), (1, .val (.fn Qc4)), (4, vB false)], [bx 18 []], KK⟩)
theorem QhL (lb n : Nat) (a1 : LB) :
 Qfi lb n a1 =
 some (.bool true) := (Qaf _).trans (by kernel_rfl)
theorem Qd8 (lb n oO : Nat) (a1 : LB) (i5 : Int) :
 QcF lb n (oO + 1) a1 i5 =
 bif (decide (i5 < (a1.length : Int))) then
 (optO (atS a1 i5) fun c11 =>
 optO (C lb n Qc4 [.int .u8 (c11.toNat : Int)]) fun y6 =>
 optO (CV.asB y6) fun kx =>
 bif (!kx) then
 (some (.bool false))
 else
 (QcF lb n oO a1 (IntKind.wrap .i64 (i5 + 1))))
 else
 (Qfi lb n a1 ) := (Qaf _).trans (by kernel_rfl)
theorem QiX (lb n : Nat) (a1 : LB) :
 top lb n QaX [.str a1, .fn Qc4] =
 QcF lb n n a1 0 := by kernel_rfl
end Go.Proofs
