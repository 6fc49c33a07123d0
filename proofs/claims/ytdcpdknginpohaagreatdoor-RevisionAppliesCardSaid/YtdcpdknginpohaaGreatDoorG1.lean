/- Equations of functions, printed by program. Conditions: none. -/
import Derived.Test.YtdcpdknginpohaaGreatDoorEv
namespace Go.Proofs
open Go.Am
set_option maxRecDepth 100000
set_option linter.unusedVariables false
theorem Qrh (lb n) (a1 : Int) :
 top lb n QdW [.int .i64 a1] =
 bif (decide (a1 < 0)) then
 (optO (C lb n QfG [.int .u64 (IntKind.wrap .u64 ((IntKind.wrap .u64 (IntKind.wrap .i64 (0 - (IntKind.wrap .i64 (a1 + 1))))) + 1))]) fun r2 =>
 optO (CV.asS r2) fun s3 =>
 chkO (decide (([45] : LB).length + s3.length ≤ 9223372036854775807)) (
 some (.str (([45] : LB) ++ s3))))
 else
 (optO (C lb n QfG [.int .u64 (IntKind.wrap .u64 (a1))]) fun r4 =>
 some (r4)) := by kernel_rfl
theorem Qqn (lb n) (a1 : Int) :
 top lb n Qhp [.int .i64 a1] =
 optO (C lb n Qhv [.int .i64 a1]) fun r2 =>
 some (r2) := by kernel_rfl
theorem QrD (lb n) (a1 : LB) :
 top lb n Qgg [.str a1] =
 optO (C lb n Qby [.str a1, .int .i64 3]) fun r2 =>
 some (r2) := by kernel_rfl
noncomputable def r01_Code_L1 :=
 fun lb n (oL : Nat) a1 b2 c3 kh =>
 hold (Qas (E0 lb n 0 995) 0 (Qad (sub (B Qcm) [1, 0, 1, 0, 0]) ++ []) [] (sub (B Qcm) [1, 0, 1, 0, 0]) (Qak 0 (seqK (E0 lb n 0 998) (sub (B Qcm) [1, 0]) (sub (B Qcm) [1, 1]) (retK Tryz.prog (R Qcm) 0 (outK (Qaf Tryz.prog Qcm))))) oL ⟨fr 36 [(0, vS a1), (1, vI b2), (2, vI c3), (6, vB false), (7, vI kh)], [bx 36 []], KK⟩)
noncomputable def Qoy (lb n : Nat) (a1 : LB) (b2 c3 gm : Int) : Option CV :=
 hold (E0 lb n 0 998 (sub (B Qcm) [1, 1]) (retK Tryz.prog (R Qcm) 0 (outK (Qaf Tryz.prog Qcm))) ⟨fr 36 [(0, vS a1), (1, vI b2), (2, vI c3), (6, vB false), (7, vI gm)], [bx 36 []], KK⟩)
theorem Qq6 (lb n : Nat) (a1 : LB) (b2 c3 gm : Int) :
 Qoy lb n a1 b2 c3 gm =
 bif (decide ((a1.length : Int) ≥ b2)) then
 (some (.bool (decide ((a1.length : Int) ≤ c3))))
 else
 (some (.bool false)) := (Qac _).trans (by kernel_rfl)
theorem Qi0 (lb n oL : Nat) (a1 : LB) (b2 c3 kh : Int) :
 r01_Code_L1 lb n (oL + 1) a1 b2 c3 kh =
 bif (decide (kh < (a1.length : Int))) then
 (optO (atS a1 kh) fun c21 =>
 optO (C lb n Qe8 [.int .u8 (c21.toNat : Int)]) fun qh =>
 optO (CV.asB qh) fun kR =>
 bif (!kR) then
 (optO (atS a1 kh) fun c24 =>
 optO (C lb n Qkr [.int .u8 (c24.toNat : Int)]) fun gE =>
 optO (CV.asB gE) fun rQ =>
 bif (!rQ) then
 (some (.bool false))
 else
 (r01_Code_L1 lb n oL a1 b2 c3 (IntKind.wrap .i64 (kh + 1))))
 else
 (r01_Code_L1 lb n oL a1 b2 c3 (IntKind.wrap .i64 (kh + 1))))
 else
 (Qoy lb n a1 b2 c3 kh) := (Qac _).trans (by kernel_rfl)
theorem Qvd (lb n : Nat) (a1 : LB) (b2 c3 : Int) :
 top lb n Qcm [.str a1, .int .i64 b2, .int .i64 c3] =
 r01_Code_L1 lb n n a1 b2 c3 0 := by kernel_rfl
theorem QqE (lb n : Nat) (a1 : LB) :
 top lb n Qhx [.str a1] =
 optO (C lb n Qh0 [.str a1, .int .i64 2, .int .i64 2]) fun r2 =>
 optO (CV.asB r2) fun b3 =>
 bif b3 then
 (optO (C lb n QaV [.str a1, .fn QcM]) fun r4 =>
 optO (CV.asB r4) fun b5 =>
 some (.bool (!b5)))
 else
 (some (.bool false)) := by kernel_rfl
theorem Qtu (lb n : Nat) (a1 : LB) (b2 c3 : Int) :
 top lb n Qh0 [.str a1, .int .i64 b2, .int .i64 c3] =
 bif (decide ((a1.length : Int) ≥ b2)) then
 (bif (decide ((a1.length : Int) ≤ c3)) then
 (optO (C lb n QaV [.str a1, .fn Qc0]) fun r4 =>
 some (r4))
 else
 (some (.bool false)))
 else
 (some (.bool false)) := by kernel_rfl
theorem Qrk (lb n : Nat) (a1 : LB) :
 top lb n Qin [.str a1] =
 optO (C lb n Qcm [.str a1, .int .i64 2, .int .i64 2]) fun r2 =>
 optO (CV.asB r2) fun b3 =>
 bif b3 then
 (optO (atS a1 0) fun c4 =>
 optO (C lb n Qe8 [.int .u8 (c4.toNat : Int)]) fun r5 =>
 optO (CV.asB r5) fun b6 =>
 bif b6 then
 (some (.bool true))
 else
 (optO (atS a1 1) fun c7 =>
 optO (C lb n Qe8 [.int .u8 (c7.toNat : Int)]) fun r9 =>
 some (r9)))
 else
 (some (.bool false)) := by kernel_rfl
theorem Qmb (lb n : Nat) (a1 : Int) :
 top lb n QfG [.int .u64 a1] =
 bif (decide (a1 < 10)) then
 (chkO (decide ((0 : Int) ≤ (IntKind.wrap .u64 (a1 + 1)) ∧ (IntKind.wrap .u64 (a1 + 1)) ≤ 10)) (
 chkO (decide ((0 : Int) ≤ a1 ∧ a1 ≤ (IntKind.wrap .u64 (a1 + 1)))) (
 some (.str ((([48, 49, 50, 51, 52, 53, 54, 55, 56, 57] : LB).take ((IntKind.wrap .u64 (a1 + 1)).toNat)).drop a1.toNat)))))
 else
 (optO (C lb n QfG [.int .u64 (IntKind.wrap .u64 (Int.tdiv a1 10))]) fun r2 =>
 chkO (decide ((0 : Int) ≤ (IntKind.wrap .u64 ((Int.tmod a1 10) + 1)) ∧ (IntKind.wrap .u64 ((Int.tmod a1 10) + 1)) ≤ 10)) (
 chkO (decide ((0 : Int) ≤ (Int.tmod a1 10) ∧ (Int.tmod a1 10) ≤ (IntKind.wrap .u64 ((Int.tmod a1 10) + 1)))) (
 optO (CV.asS r2) fun s3 =>
 chkO (decide (s3.length + ((([48, 49, 50, 51, 52, 53, 54, 55, 56, 57] : LB).take ((IntKind.wrap .u64 ((Int.tmod a1 10) + 1)).toNat)).drop ((Int.tmod a1 10).toNat)).length ≤ 9223372036854775807)) (
 some (.str (s3 ++ ((([48, 49, 50, 51, 52, 53, 54, 55, 56, 57] : LB).take ((IntKind.wrap .u64 ((Int.tmod a1 10) + 1)).toNat)).drop ((Int.tmod a1 10).toNat)))))))) := by kernel_rfl
noncomputable def QfW (lb n pS : Nat) (a1 : LB) (b2 i6 : Int) : Option CV :=
 hold (Qas (E0 lb n 0 995) 0 (Qad (sub (B Qby) [1, 0, 1, 0, 0]) ++ []) [] (sub (B Qby) [1, 0, 1, 0, 0]) (Qak 0 (seqK (E0 lb n 0 998) (sub (B Qby) [1, 0]) (sub (B Qby) [1, 1]) (retK Tryz.prog (R Qby) 0 (outK (Qaf Tryz.prog Qby))))) pS ⟨fr 21 [(0, vS a1), (1, vI b2), (4, vB false), (5, vI i6)], [bx 21 []], KK⟩)
noncomputable def Qle (lb n : Nat) (a1 : LB) (b2 oF : Int) : Option CV :=
 hold (E0 lb n 0 998 (sub (B Qby) [1, 1]) (retK Tryz.prog (R Qby) 0 (outK (Qaf Tryz.prog Qby))) ⟨fr 21 [(0, vS a1), (1, vI b2), (4, vB false), (5, vI oF)], [bx 21 []], KK⟩)
theorem Qof (lb n : Nat) (a1 : LB) (b2 oF : Int) :
 Qle lb n a1 b2 oF =
 some (.bool ((a1.length : Int) == b2)) := (Qac _).trans (by kernel_rfl)
theorem Qhg (lb n pS : Nat) (a1 : LB) (b2 i6 : Int) :
 QfW lb n (pS + 1) a1 b2 i6 =
 bif (decide (i6 < (a1.length : Int))) then
 (optO (atS a1 i6) fun c12 =>
 optO (C lb n Qe8 [.int .u8 (c12.toNat : Int)]) fun o4 =>
 optO (CV.asB o4) fun kf =>
 bif (!kf) then
 (some (.bool false))
 else
 (QfW lb n pS a1 b2 (IntKind.wrap .i64 (i6 + 1))))
 else
 (Qle lb n a1 b2 i6) := (Qac _).trans (by kernel_rfl)
theorem Qrf (lb n : Nat) (a1 : LB) (b2 : Int) :
 top lb n Qby [.str a1, .int .i64 b2] =
 QfW lb n n a1 b2 0 := by kernel_rfl
theorem Qte (lb n : Nat) (a1 : Int) :
 top lb n Qe8 [.int .u8 a1] =
 bif (decide (a1 ≥ 65)) then
 (some (.bool (decide (a1 ≤ 90))))
 else
 (some (.bool false)) := by kernel_rfl
theorem Qt4 (lb n : Nat) (a1 : Int) :
 top lb n Qkr [.int .u8 a1] =
 bif (decide (a1 ≥ 48)) then
 (some (.bool (decide (a1 ≤ 57))))
 else
 (some (.bool false)) := by kernel_rfl
theorem QsK (lb n : Nat) (a1 : Int) :
 top lb n QcM [.int .u8 a1] =
 bif (decide (a1 ≥ 48)) then
 (some (.bool (decide (a1 ≤ 57))))
 else
 (some (.bool false)) := by kernel_rfl
theorem Qrx (lb n : Nat) (a1 : Int) :
 top lb n Qc0 [.int .u8 a1] =
 optO (C lb n Qhq [.int .u8 a1]) fun r2 =>
 optO (CV.asB r2) fun b3 =>
 bif b3 then
 (some (.bool true))
 else
 (optO (C lb n QcM [.int .u8 a1]) fun r4 =>
 some (r4)) := by kernel_rfl
theorem QqC (lb n : Nat) (a1 : Int) :
 top lb n Qhq [.int .u8 a1] =
 bif (decide (a1 ≥ 65)) then
 (some (.bool (decide (a1 ≤ 90))))
 else
 (some (.bool false)) := by kernel_rfl
theorem QrI (lb n : Nat) (a1 : LB) :
 top lb n Qij [.str a1] =
 optO (C lb n Qby [.str a1, .int .i64 2]) fun r2 =>
 some (r2) := by kernel_rfl
noncomputable def QcN (lb n go : Nat) (a1 : LB) (i5 : Int) : Option CV :=
 hold (Qas (E0 lb n 0 995) 0 (Qad (sub (B QaV) [1, 0, 1, 0, 0]) ++ [5]) [] (sub (B QaV) [1, 0, 1, 0, 0]) (Qak 0 (seqK (E0 lb n 0 998) (sub (B QaV) [1, 0]) (sub (B QaV) [1, 1]) (retK Tryz.prog (R QaV) 0 (outK (Qaf Tryz.prog QaV))))) go ⟨fr 18 [(0, vS a1), (1, .val (.fn QcM)), (4, vB false), (6, vS a1), (7, .val (.int .i64 (a1.length : Int))), (8, vI i5)], [bx 18 []], KK⟩)
noncomputable def Qfy (lb n : Nat) (a1 : LB) : Option CV :=
 hold (E0 lb n 0 998 (sub (B QaV) [1, 1]) (retK Tryz.prog (R QaV) 0 (outK (Qaf Tryz.prog QaV))) ⟨fr 18 [(0, vS a1), (1, .val (.fn QcM)), (4, vB false)], [bx 18 []], KK⟩)
theorem Qie (lb n : Nat) (a1 : LB) :
 Qfy lb n a1 =
 some (.bool true) := (Qac _).trans (by kernel_rfl)
theorem Qee (lb n go : Nat) (a1 : LB) (i5 : Int) :
 QcN lb n (go + 1) a1 i5 =
 bif (decide (i5 < (a1.length : Int))) then
 (optO (atS a1 i5) fun c11 =>
 optO (C lb n QcM [.int .u8 (c11.toNat : Int)]) fun yN =>
 optO (CV.asB yN) fun kN =>
 bif (!kN) then
 (some (.bool false))
 else
 (QcN lb n go a1 (IntKind.wrap .i64 (i5 + 1))))
 else
 (Qfy lb n a1 ) := (Qac _).trans (by kernel_rfl)
theorem Qjd (lb n : Nat) (a1 : LB) :
 top lb n QaV [.str a1, .fn QcM] =
 QcN lb n n a1 0 := by kernel_rfl
noncomputable def QcG (lb n go : Nat) (a1 : LB) (i5 : Int) : Option CV :=
 hold (Qas (E0 lb n 0 995) 0 (Qad (sub (B QaV) [1, 0, 1, 0, 0]) ++ [5]) [] (sub (B QaV) [1, 0, 1, 0, 0]) (Qak 0 (seqK (E0 lb n 0 998) (sub (B QaV) [1, 0]) (sub (B QaV) [1, 1]) (retK Tryz.prog (R QaV) 0 (outK (Qaf Tryz.prog QaV))))) go ⟨fr 18 [(0, vS a1), (1, .val (.fn Qc0)), (4, vB false), (6, vS a1), (7, .val (.int .i64 (a1.length : Int))), (8, vI i5)], [bx 18 []], KK⟩)
noncomputable def Qfm (lb n : Nat) (a1 : LB) : Option CV :=
 hold (E0 lb n 0 998 (sub (B QaV) [1, 1]) (retK Tryz.prog (R QaV) 0 (outK (Qaf Tryz.prog QaV))) ⟨fr 18 [(0, vS a1), (1, .val (.fn Qc0)), (4, vB false)], [bx 18 []], KK⟩)
theorem QhC (lb n : Nat) (a1 : LB) :
 Qfm lb n a1 =
 some (.bool true) := (Qac _).trans (by kernel_rfl)
theorem Qd1 (lb n go : Nat) (a1 : LB) (i5 : Int) :
 QcG lb n (go + 1) a1 i5 =
 bif (decide (i5 < (a1.length : Int))) then
 (optO (atS a1 i5) fun c11 =>
 optO (C lb n Qc0 [.int .u8 (c11.toNat : Int)]) fun yN =>
 optO (CV.asB yN) fun kN =>
 bif (!kN) then
 (some (.bool false))
 else
 (QcG lb n go a1 (IntKind.wrap .i64 (i5 + 1))))
 else
 (Qfm lb n a1 ) := (Qac _).trans (by kernel_rfl)
theorem QiP (lb n : Nat) (a1 : LB) :
 top lb n QaV [.str a1, .fn Qc0] =
 QcG lb n n a1 0 := by kernel_rfl
end Go.Proofs
