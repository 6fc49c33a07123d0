/- Equations of functions, printed by program. Conditions: none. -/
import Derived.Test.YtdcpdknginpohaaGreatDoorEv
namespace Go.Proofs
open Go.Am
set_option maxRecDepth 100000
set_option linter.unusedVariables false
theorem QrW (lb n) (a1 : Int) :
 top lb n Qd1 [.int .i64 a1] =
 bif (decide (a1 < 0)) then
 (optO (C lb n QfH [.int .u64 (IntKind.wrap .u64 ((IntKind.wrap .u64 (IntKind.wrap .i64 (0 - (IntKind.wrap .i64 (a1 + 1))))) + 1))]) fun r2 =>
 optO (CV.asS r2) fun s3 =>
 chkO (decide (([45] : LB).length + s3.length ≤ 9223372036854775807)) (
 some (.str (([45] : LB) ++ s3))))
 else
 (optO (C lb n QfH [.int .u64 (IntKind.wrap .u64 (a1))]) fun r4 =>
 some (r4)) := by kernel_rfl
theorem Qqv (lb n) (a1 : Int) :
 top lb n QhG [.int .i64 a1] =
 optO (C lb n QhJ [.int .i64 a1]) fun r2 =>
 some (r2) := by kernel_rfl
theorem Qr1 (lb n) (a1 : LB) :
 top lb n Qgl [.str a1] =
 optO (C lb n QbB [.str a1, .int .i64 3]) fun r2 =>
 some (r2) := by kernel_rfl
noncomputable def r01_Code_L1 :=
 fun lb n (oS : Nat) a1 b2 c3 kh =>
 hold (Qar (E0 lb n 0 995) 0 (Qad (sub (B Qcq) [1, 0, 1, 0, 0]) ++ []) [] (sub (B Qcq) [1, 0, 1, 0, 0]) (Qaj 0 (seqK (E0 lb n 0 998) (sub (B Qcq) [1, 0]) (sub (B Qcq) [1, 1]) (retK Tryz.prog (R Qcq) 0 (outK (Qaf Tryz.prog Qcq))))) oS ⟨fr 36 [(0, vS a1), (1, vI b2), (2, vI c3), (6, vB false), (7, vI kh)], [bx 36 []], KK⟩)
noncomputable def QoZ (lb n : Nat) (a1 : LB) (b2 c3 gp : Int) : Option CV :=
 hold (E0 lb n 0 998 (sub (B Qcq) [1, 1]) (retK Tryz.prog (R Qcq) 0 (outK (Qaf Tryz.prog Qcq))) ⟨fr 36 [(0, vS a1), (1, vI b2), (2, vI c3), (6, vB false), (7, vI gp)], [bx 36 []], KK⟩)
theorem Qrr (lb n : Nat) (a1 : LB) (b2 c3 gp : Int) :
 QoZ lb n a1 b2 c3 gp =
 bif (decide ((a1.length : Int) ≥ b2)) then
 (some (.bool (decide ((a1.length : Int) ≤ c3))))
 else
 (some (.bool false)) := (Qac _).trans (by kernel_rfl)
theorem Qjc (lb n oS : Nat) (a1 : LB) (b2 c3 kh : Int) :
 r01_Code_L1 lb n (oS + 1) a1 b2 c3 kh =
 bif (decide (kh < (a1.length : Int))) then
 (optO (atS a1 kh) fun c21 =>
 optO (C lb n Qfg [.int .u8 (c21.toNat : Int)]) fun th =>
 optO (CV.asB th) fun oj =>
 bif (!oj) then
 (optO (atS a1 kh) fun c24 =>
 optO (C lb n Qko [.int .u8 (c24.toNat : Int)]) fun n4 =>
 optO (CV.asB n4) fun tg =>
 bif (!tg) then
 (some (.bool false))
 else
 (r01_Code_L1 lb n oS a1 b2 c3 (IntKind.wrap .i64 (kh + 1))))
 else
 (r01_Code_L1 lb n oS a1 b2 c3 (IntKind.wrap .i64 (kh + 1))))
 else
 (QoZ lb n a1 b2 c3 kh) := (Qac _).trans (by kernel_rfl)
theorem QvC (lb n : Nat) (a1 : LB) (b2 c3 : Int) :
 top lb n Qcq [.str a1, .int .i64 b2, .int .i64 c3] =
 r01_Code_L1 lb n n a1 b2 c3 0 := by kernel_rfl
theorem QpX (lb n : Nat) (a1 : LB) :
 top lb n Qhy [.str a1] =
 optO (C lb n QhV [.str a1, .int .i64 2, .int .i64 2]) fun r2 =>
 optO (CV.asB r2) fun b3 =>
 bif b3 then
 (optO (C lb n QaX [.str a1, .fn QcU]) fun r4 =>
 optO (CV.asB r4) fun b5 =>
 some (.bool (!b5)))
 else
 (some (.bool false)) := by kernel_rfl
theorem QuG (lb n : Nat) (a1 : LB) (b2 c3 : Int) :
 top lb n QhV [.str a1, .int .i64 b2, .int .i64 c3] =
 bif (decide ((a1.length : Int) ≥ b2)) then
 (bif (decide ((a1.length : Int) ≤ c3)) then
 (optO (C lb n QaX [.str a1, .fn Qc7]) fun r4 =>
 some (r4))
 else
 (some (.bool false)))
 else
 (some (.bool false)) := by kernel_rfl
theorem Qr0 (lb n : Nat) (a1 : LB) :
 top lb n Qiu [.str a1] =
 optO (C lb n Qcq [.str a1, .int .i64 2, .int .i64 2]) fun r2 =>
 optO (CV.asB r2) fun b3 =>
 bif b3 then
 (optO (atS a1 0) fun c4 =>
 optO (C lb n Qfg [.int .u8 (c4.toNat : Int)]) fun r5 =>
 optO (CV.asB r5) fun b6 =>
 bif b6 then
 (some (.bool true))
 else
 (optO (atS a1 1) fun c7 =>
 optO (C lb n Qfg [.int .u8 (c7.toNat : Int)]) fun r9 =>
 some (r9)))
 else
 (some (.bool false)) := by kernel_rfl
theorem Qmf (lb n : Nat) (a1 : Int) :
 top lb n QfH [.int .u64 a1] =
 bif (decide (a1 < 10)) then
 (chkO (decide ((0 : Int) ≤ (IntKind.wrap .u64 (a1 + 1)) ∧ (IntKind.wrap .u64 (a1 + 1)) ≤ 10)) (
 chkO (decide ((0 : Int) ≤ a1 ∧ a1 ≤ (IntKind.wrap .u64 (a1 + 1)))) (
 some (.str ((([48, 49, 50, 51, 52, 53, 54, 55, 56, 57] : LB).take ((IntKind.wrap .u64 (a1 + 1)).toNat)).drop a1.toNat)))))
 else
 (optO (C lb n QfH [.int .u64 (IntKind.wrap .u64 (Int.tdiv a1 10))]) fun r2 =>
 chkO (decide ((0 : Int) ≤ (IntKind.wrap .u64 ((Int.tmod a1 10) + 1)) ∧ (IntKind.wrap .u64 ((Int.tmod a1 10) + 1)) ≤ 10)) (
 chkO (decide ((0 : Int) ≤ (Int.tmod a1 10) ∧ (Int.tmod a1 10) ≤ (IntKind.wrap .u64 ((Int.tmod a1 10) + 1)))) (
 optO (CV.asS r2) fun s3 =>
 chkO (decide (s3.length + ((([48, 49, 50, 51, 52, 53, 54, 55, 56, 57] : LB).take ((IntKind.wrap .u64 ((Int.tmod a1 10) + 1)).toNat)).drop ((Int.tmod a1 10).toNat)).length ≤ 9223372036854775807)) (
 some (.str (s3 ++ ((([48, 49, 50, 51, 52, 53, 54, 55, 56, 57] : LB).take ((IntKind.wrap .u64 ((Int.tmod a1 10) + 1)).toNat)).drop ((Int.tmod a1 10).toNat)))))))) := by kernel_rfl
noncomputable def Qf2 (lb n p8 : Nat) (a1 : LB) (b2 i6 : Int) : Option CV :=
 hold (Qar (E0 lb n 0 995) 0 (Qad (sub (B QbB) [1, 0, 1, 0, 0]) ++ []) [] (sub (B QbB) [1, 0, 1, 0, 0]) (Qaj 0 (seqK (E0 lb n 0 998) (sub (B QbB) [1, 0]) (sub (B QbB) [1, 1]) (retK Tryz.prog (R QbB) 0 (outK (Qaf Tryz.prog QbB))))) p8 ⟨fr 21 [(0, vS a1), (1, vI b2), (4, vB false), (5, vI i6)], [bx 21 []], KK⟩)
noncomputable def Qln (lb n : Nat) (a1 : LB) (b2 oQ : Int) : Option CV :=
 hold (E0 lb n 0 998 (sub (B QbB) [1, 1]) (retK Tryz.prog (R QbB) 0 (outK (Qaf Tryz.prog QbB))) ⟨fr 21 [(0, vS a1), (1, vI b2), (4, vB false), (5, vI oQ)], [bx 21 []], KK⟩)
theorem Qod (lb n : Nat) (a1 : LB) (b2 oQ : Int) :
 Qln lb n a1 b2 oQ =
 some (.bool ((a1.length : Int) == b2)) := (Qac _).trans (by kernel_rfl)
theorem Qhk (lb n p8 : Nat) (a1 : LB) (b2 i6 : Int) :
 Qf2 lb n (p8 + 1) a1 b2 i6 =
 bif (decide (i6 < (a1.length : Int))) then
 (optO (atS a1 i6) fun c12 =>
 optO (C lb n Qfg [.int .u8 (c12.toNat : Int)]) fun oM =>
 optO (CV.asB oM) fun kg =>
 bif (!kg) then
 (some (.bool false))
 else
 (Qf2 lb n p8 a1 b2 (IntKind.wrap .i64 (i6 + 1))))
 else
 (Qln lb n a1 b2 i6) := (Qac _).trans (by kernel_rfl)
theorem Qr2 (lb n : Nat) (a1 : LB) (b2 : Int) :
 top lb n QbB [.str a1, .int .i64 b2] =
 Qf2 lb n n a1 b2 0 := by kernel_rfl
theorem Qva (lb n : Nat) (a1 : Int) :
 top lb n Qfg [.int .u8 a1] =
 bif (decide (a1 ≥ 65)) then
 (some (.bool (decide (a1 ≤ 90))))
 else
 (some (.bool false)) := by kernel_rfl
theorem QuE (lb n : Nat) (a1 : Int) :
 top lb n Qko [.int .u8 a1] =
 bif (decide (a1 ≥ 48)) then
 (some (.bool (decide (a1 ≤ 57))))
 else
 (some (.bool false)) := by kernel_rfl
theorem Qtd (lb n : Nat) (a1 : Int) :
 top lb n QcU [.int .u8 a1] =
 bif (decide (a1 ≥ 48)) then
 (some (.bool (decide (a1 ≤ 57))))
 else
 (some (.bool false)) := by kernel_rfl
theorem QrR (lb n : Nat) (a1 : Int) :
 top lb n Qc7 [.int .u8 a1] =
 optO (C lb n QhO [.int .u8 a1]) fun r2 =>
 optO (CV.asB r2) fun b3 =>
 bif b3 then
 (some (.bool true))
 else
 (optO (C lb n QcU [.int .u8 a1]) fun r4 =>
 some (r4)) := by kernel_rfl
theorem Qqu (lb n : Nat) (a1 : Int) :
 top lb n QhO [.int .u8 a1] =
 bif (decide (a1 ≥ 65)) then
 (some (.bool (decide (a1 ≤ 90))))
 else
 (some (.bool false)) := by kernel_rfl
theorem Qri (lb n : Nat) (a1 : LB) :
 top lb n Qiv [.str a1] =
 optO (C lb n QbB [.str a1, .int .i64 2]) fun r2 =>
 some (r2) := by kernel_rfl
noncomputable def QcX (lb n gv : Nat) (a1 : LB) (i5 : Int) : Option CV :=
 hold (Qar (E0 lb n 0 995) 0 (Qad (sub (B QaX) [1, 0, 1, 0, 0]) ++ [5]) [] (sub (B QaX) [1, 0, 1, 0, 0]) (Qaj 0 (seqK (E0 lb n 0 998) (sub (B QaX) [1, 0]) (sub (B QaX) [1, 1]) (retK Tryz.prog (R QaX) 0 (outK (Qaf Tryz.prog QaX))))) gv ⟨fr 18 [(0, vS a1), (1, .val (.fn QcU)), (4, vB false), (6, vS a1), (7, .val (.int .i64 (a1.length : Int))), (8, vI i5)], [bx 18 []], KK⟩)
noncomputable def QfI (lb n : Nat) (a1 : LB) : Option CV :=
 hold (E0 lb n 0 998 (sub (B QaX) [1, 1]) (retK Tryz.prog (R QaX) 0 (outK (Qaf Tryz.prog QaX))) ⟨fr 18 [(0, vS a1), (1, .val (.fn QcU)), (4, vB false)], [bx 18 []], KK⟩)
theorem Qik (lb n : Nat) (a1 : LB) :
 QfI lb n a1 =
 some (.bool true) := (Qac _).trans (by kernel_rfl)
theorem Qej (lb n gv : Nat) (a1 : LB) (i5 : Int) :
 QcX lb n (gv + 1) a1 i5 =
 bif (decide (i5 < (a1.length : Int))) then
 (optO (atS a1 i5) fun c11 =>
 optO (C lb n QcU [.int .u8 (c11.toNat : Int)]) fun yJ =>
 optO (CV.asB yJ) fun kU =>
 bif (!kU) then
 (some (.bool false))
 else
 (QcX lb n gv a1 (IntKind.wrap .i64 (i5 + 1))))
 else
 (QfI lb n a1 ) := (Qac _).trans (by kernel_rfl)
theorem Qjf (lb n : Nat) (a1 : LB) :
 top lb n QaX [.str a1, .fn QcU] =
 QcX lb n n a1 0 := by kernel_rfl
noncomputable def QcJ (lb n gv : Nat) (a1 : LB) (i5 : Int) : Option CV :=
 hold (Qar (E0 lb n 0 995) 0 (Qad (sub (B QaX) [1, 0, 1, 0, 0]) ++ [5]) [] (sub (B QaX) [1, 0, 1, 0, 0]) (Qaj 0 (seqK (E0 lb n 0 998) (sub (B QaX) [1, 0]) (sub (B QaX) [1, 1]) (retK Tryz.prog (R QaX) 0 (outK (Qaf Tryz.prog QaX))))) gv ⟨fr 18 [(0, vS a1), (1, .val (.fn Qc7)), (4, vB false), (6, vS a1), (7, .val (.int .i64 (a1.length : Int))), (8, vI i5)], [bx 18 []], KK⟩)
noncomputable def Qfp (lb n : Nat) (a1 : LB) : Option CV :=
 hold (E0 lb n 0 998 (sub (B QaX) [1, 1]) (retK Tryz.prog (R QaX) 0 (outK (Qaf Tryz.prog QaX))) ⟨fr 18 [(0, vS a1), (1, .val (.fn Qc7)), (4, vB false)], [bx 18 []], KK⟩)
theorem QhE (lb n : Nat) (a1 : LB) :
 Qfp lb n a1 =
 some (.bool true) := (Qac _).trans (by kernel_rfl)
theorem Qd2 (lb n gv : Nat) (a1 : LB) (i5 : Int) :
 QcJ lb n (gv + 1) a1 i5 =
 bif (decide (i5 < (a1.length : Int))) then
 (optO (atS a1 i5) fun c11 =>
 optO (C lb n Qc7 [.int .u8 (c11.toNat : Int)]) fun yJ =>
 optO (CV.asB yJ) fun kU =>
 bif (!kU) then
 (some (.bool false))
 else
 (QcJ lb n gv a1 (IntKind.wrap .i64 (i5 + 1))))
 else
 (Qfp lb n a1 ) := (Qac _).trans (by kernel_rfl)
theorem QiN (lb n : Nat) (a1 : LB) :
 top lb n QaX [.str a1, .fn Qc7] =
 QcJ lb n n a1 0 := by kernel_rfl
end Go.Proofs
