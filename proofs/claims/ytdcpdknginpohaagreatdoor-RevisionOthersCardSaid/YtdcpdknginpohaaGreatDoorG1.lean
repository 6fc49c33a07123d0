/- Equations of functions, printed by program. Conditions: none. -/
import Derived.Test.YtdcpdknginpohaaGreatDoorEv
namespace Go.Proofs
open Go.Am
set_option maxRecDepth 100000
set_option linter.unusedVariables false
theorem Qq1 (lb n) (a1 : Int) :
 top lb n QdU [.int .i64 a1] =
 bif (decide (a1 < 0)) then
 (optO (C lb n Qfl [.int .u64 (IntKind.wrap .u64 ((IntKind.wrap .u64 (IntKind.wrap .i64 (0 - (IntKind.wrap .i64 (a1 + 1))))) + 1))]) fun r2 =>
 optO (CV.asS r2) fun s3 =>
 chkO (decide (([45] : LB).length + s3.length ≤ 9223372036854775807)) (
 some (.str (([45] : LB) ++ s3))))
 else
 (optO (C lb n Qfl [.int .u64 (IntKind.wrap .u64 (a1))]) fun r4 =>
 some (r4)) := by kernel_rfl
theorem Qp9 (lb n) (a1 : Int) :
 top lb n Qhb [.int .i64 a1] =
 optO (C lb n Qht [.int .i64 a1]) fun r2 =>
 some (r2) := by kernel_rfl
theorem Qqw (lb n) (a1 : LB) :
 top lb n Qf8 [.str a1] =
 optO (C lb n Qbw [.str a1, .int .i64 3]) fun r2 =>
 some (r2) := by kernel_rfl
noncomputable def r01_Code_L1 :=
 fun lb n (kP : Nat) a1 b2 c3 vH =>
 hold (Qau (E0 lb n 0 995) 0 (Qae (sub (B Qcc) [1, 0, 1, 0, 0]) ++ []) [] (sub (B Qcc) [1, 0, 1, 0, 0]) (Qal 0 (seqK (E0 lb n 0 998) (sub (B Qcc) [1, 0]) (sub (B Qcc) [1, 1]) (retK Tryz.prog (R Qcc) 0 (outK (Qaj Tryz.prog Qcc))))) kP ⟨fr 36 [(0, vS a1), (1, vI b2), (2, vI c3), (6, vB false), (7, vI vH)], [bx 36 []], KK⟩)
noncomputable def Qoy (lb n : Nat) (a1 : LB) (b2 c3 oj : Int) : Option CV :=
 hold (E0 lb n 0 998 (sub (B Qcc) [1, 1]) (retK Tryz.prog (R Qcc) 0 (outK (Qaj Tryz.prog Qcc))) ⟨fr 36 [(0, vS a1), (1, vI b2), (2, vI c3), (6, vB false), (7, vI oj)], [bx 36 []], KK⟩)
theorem Qqx (lb n : Nat) (a1 : LB) (b2 c3 oj : Int) :
 Qoy lb n a1 b2 c3 oj =
 bif (decide ((a1.length : Int) ≥ b2)) then
 (some (.bool (decide ((a1.length : Int) ≤ c3))))
 else
 (some (.bool false)) := (Qad _).trans (by kernel_rfl)
theorem Qi5 (lb n kP : Nat) (a1 : LB) (b2 c3 vH : Int) :
 r01_Code_L1 lb n (kP + 1) a1 b2 c3 vH =
 bif (decide (vH < (a1.length : Int))) then
 (optO (atS a1 vH) fun c21 =>
 optO (C lb n QeX [.int .u8 (c21.toNat : Int)]) fun gx =>
 optO (CV.asB gx) fun ks =>
 bif (!ks) then
 (optO (atS a1 vH) fun c24 =>
 optO (C lb n Qj7 [.int .u8 (c24.toNat : Int)]) fun oY =>
 optO (CV.asB oY) fun zj =>
 bif (!zj) then
 (some (.bool false))
 else
 (r01_Code_L1 lb n kP a1 b2 c3 (IntKind.wrap .i64 (vH + 1))))
 else
 (r01_Code_L1 lb n kP a1 b2 c3 (IntKind.wrap .i64 (vH + 1))))
 else
 (Qoy lb n a1 b2 c3 vH) := (Qad _).trans (by kernel_rfl)
theorem QuP (lb n : Nat) (a1 : LB) (b2 c3 : Int) :
 top lb n Qcc [.str a1, .int .i64 b2, .int .i64 c3] =
 r01_Code_L1 lb n n a1 b2 c3 0 := by kernel_rfl
theorem Qpj (lb n : Nat) (a1 : LB) :
 top lb n Qhw [.str a1] =
 optO (C lb n QhJ [.str a1, .int .i64 2, .int .i64 2]) fun r2 =>
 optO (CV.asB r2) fun b3 =>
 bif b3 then
 (optO (C lb n QaT [.str a1, .fn QcR]) fun r4 =>
 optO (CV.asB r4) fun b5 =>
 some (.bool (!b5)))
 else
 (some (.bool false)) := by kernel_rfl
theorem Qtf (lb n : Nat) (a1 : LB) (b2 c3 : Int) :
 top lb n QhJ [.str a1, .int .i64 b2, .int .i64 c3] =
 bif (decide ((a1.length : Int) ≥ b2)) then
 (bif (decide ((a1.length : Int) ≤ c3)) then
 (optO (C lb n QaT [.str a1, .fn Qc3]) fun r4 =>
 some (r4))
 else
 (some (.bool false)))
 else
 (some (.bool false)) := by kernel_rfl
theorem QqK (lb n : Nat) (a1 : LB) :
 top lb n Qh8 [.str a1] =
 optO (C lb n Qcc [.str a1, .int .i64 2, .int .i64 2]) fun r2 =>
 optO (CV.asB r2) fun b3 =>
 bif b3 then
 (optO (atS a1 0) fun c4 =>
 optO (C lb n QeX [.int .u8 (c4.toNat : Int)]) fun r5 =>
 optO (CV.asB r5) fun b6 =>
 bif b6 then
 (some (.bool true))
 else
 (optO (atS a1 1) fun c7 =>
 optO (C lb n QeX [.int .u8 (c7.toNat : Int)]) fun r9 =>
 some (r9)))
 else
 (some (.bool false)) := by kernel_rfl
theorem QlM (lb n : Nat) (a1 : Int) :
 top lb n Qfl [.int .u64 a1] =
 bif (decide (a1 < 10)) then
 (chkO (decide ((0 : Int) ≤ (IntKind.wrap .u64 (a1 + 1)) ∧ (IntKind.wrap .u64 (a1 + 1)) ≤ 10)) (
 chkO (decide ((0 : Int) ≤ a1 ∧ a1 ≤ (IntKind.wrap .u64 (a1 + 1)))) (
 some (.str ((([48, 49, 50, 51, 52, 53, 54, 55, 56, 57] : LB).take ((IntKind.wrap .u64 (a1 + 1)).toNat)).drop a1.toNat)))))
 else
 (optO (C lb n Qfl [.int .u64 (IntKind.wrap .u64 (Int.tdiv a1 10))]) fun r2 =>
 chkO (decide ((0 : Int) ≤ (IntKind.wrap .u64 ((Int.tmod a1 10) + 1)) ∧ (IntKind.wrap .u64 ((Int.tmod a1 10) + 1)) ≤ 10)) (
 chkO (decide ((0 : Int) ≤ (Int.tmod a1 10) ∧ (Int.tmod a1 10) ≤ (IntKind.wrap .u64 ((Int.tmod a1 10) + 1)))) (
 optO (CV.asS r2) fun s3 =>
 chkO (decide (s3.length + ((([48, 49, 50, 51, 52, 53, 54, 55, 56, 57] : LB).take ((IntKind.wrap .u64 ((Int.tmod a1 10) + 1)).toNat)).drop ((Int.tmod a1 10).toNat)).length ≤ 9223372036854775807)) (
 some (.str (s3 ++ ((([48, 49, 50, 51, 52, 53, 54, 55, 56, 57] : LB).take ((IntKind.wrap .u64 ((Int.tmod a1 10) + 1)).toNat)).drop ((Int.tmod a1 10).toNat)))))))) := by kernel_rfl
noncomputable def QfJ (lb n nH : Nat) (a1 : LB) (b2 i6 : Int) : Option CV :=
 hold (Qau (E0 lb n 0 995) 0 (Qae (sub (B Qbw) [1, 0, 1, 0, 0]) ++ []) [] (sub (B Qbw) [1, 0, 1, 0, 0]) (Qal 0 (seqK (E0 lb n 0 998) (sub (B Qbw) [1, 0]) (sub (B Qbw) [1, 1]) (retK Tryz.prog (R Qbw) 0 (outK (Qaj Tryz.prog Qbw))))) nH ⟨fr 21 [(0, vS a1), (1, vI b2), (4, vB false), (5, vI i6)], [bx 21 []], KK⟩)
noncomputable def Qkn (lb n : Nat) (a1 : LB) (b2 kM : Int) : Option CV :=
 hold (E0 lb n 0 998 (sub (B Qbw) [1, 1]) (retK Tryz.prog (R Qbw) 0 (outK (Qaj Tryz.prog Qbw))) ⟨fr 21 [(0, vS a1), (1, vI b2), (4, vB false), (5, vI kM)], [bx 21 []], KK⟩)
theorem QnW (lb n : Nat) (a1 : LB) (b2 kM : Int) :
 Qkn lb n a1 b2 kM =
 some (.bool ((a1.length : Int) == b2)) := (Qad _).trans (by kernel_rfl)
theorem Qg8 (lb n nH : Nat) (a1 : LB) (b2 i6 : Int) :
 QfJ lb n (nH + 1) a1 b2 i6 =
 bif (decide (i6 < (a1.length : Int))) then
 (optO (atS a1 i6) fun c12 =>
 optO (C lb n QeX [.int .u8 (c12.toNat : Int)]) fun oX =>
 optO (CV.asB oX) fun mK =>
 bif (!mK) then
 (some (.bool false))
 else
 (QfJ lb n nH a1 b2 (IntKind.wrap .i64 (i6 + 1))))
 else
 (Qkn lb n a1 b2 i6) := (Qad _).trans (by kernel_rfl)
theorem Qq8 (lb n : Nat) (a1 : LB) (b2 : Int) :
 top lb n Qbw [.str a1, .int .i64 b2] =
 QfJ lb n n a1 b2 0 := by kernel_rfl
theorem Qtu (lb n : Nat) (a1 : Int) :
 top lb n QeX [.int .u8 a1] =
 bif (decide (a1 ≥ 65)) then
 (some (.bool (decide (a1 ≤ 90))))
 else
 (some (.bool false)) := by kernel_rfl
theorem Qt4 (lb n : Nat) (a1 : Int) :
 top lb n Qj7 [.int .u8 a1] =
 bif (decide (a1 ≥ 48)) then
 (some (.bool (decide (a1 ≤ 57))))
 else
 (some (.bool false)) := by kernel_rfl
theorem Qsk (lb n : Nat) (a1 : Int) :
 top lb n QcR [.int .u8 a1] =
 bif (decide (a1 ≥ 48)) then
 (some (.bool (decide (a1 ≤ 57))))
 else
 (some (.bool false)) := by kernel_rfl
theorem Qrd (lb n : Nat) (a1 : Int) :
 top lb n Qc3 [.int .u8 a1] =
 optO (C lb n Qhm [.int .u8 a1]) fun r2 =>
 optO (CV.asB r2) fun b3 =>
 bif b3 then
 (some (.bool true))
 else
 (optO (C lb n QcR [.int .u8 a1]) fun r4 =>
 some (r4)) := by kernel_rfl
theorem Qph (lb n : Nat) (a1 : Int) :
 top lb n Qhm [.int .u8 a1] =
 bif (decide (a1 ≥ 65)) then
 (some (.bool (decide (a1 ≤ 90))))
 else
 (some (.bool false)) := by kernel_rfl
theorem Qqu (lb n : Nat) (a1 : LB) :
 top lb n Qh9 [.str a1] =
 optO (C lb n Qbw [.str a1, .int .i64 2]) fun r2 =>
 some (r2) := by kernel_rfl
noncomputable def QcO (lb n om : Nat) (a1 : LB) (i5 : Int) : Option CV :=
 hold (Qau (E0 lb n 0 995) 0 (Qae (sub (B QaT) [1, 0, 1, 0, 0]) ++ [5]) [] (sub (B QaT) [1, 0, 1, 0, 0]) (Qal 0 (seqK (E0 lb n 0 998) (sub (B QaT) [1, 0]) (sub (B QaT) [1, 1]) (retK Tryz.prog (R QaT) 0 (outK (Qaj Tryz.prog QaT))))) om ⟨fr 18 [(0, vS a1), (1, .val (.fn QcR)), (4, vB false), (6, vS a1), (7, .val (.int .i64 (a1.length : Int))), (8, vI i5)], [bx 18 []], KK⟩)
noncomputable def Qfu (lb n : Nat) (a1 : LB) : Option CV :=
 hold (E0 lb n 0 998 (sub (B QaT) [1, 1]) (retK Tryz.prog (R QaT) 0 (outK (Qaj Tryz.prog QaT))) ⟨fr 18 [(0, vS a1), (1, .val (.fn QcR)), (4, vB false)], [bx 18 []], KK⟩)
theorem QhX (lb n : Nat) (a1 : LB) :
 Qfu lb n a1 =
 some (.bool true) := (Qad _).trans (by kernel_rfl)
theorem Qd8 (lb n om : Nat) (a1 : LB) (i5 : Int) :
 QcO lb n (om + 1) a1 i5 =
 bif (decide (i5 < (a1.length : Int))) then
 (optO (atS a1 i5) fun c11 =>
 optO (C lb n QcR [.int .u8 (c11.toNat : Int)]) fun yH =>
 optO (CV.asB yH) fun kc =>
 bif (!kc) then
 (some (.bool false))
 else
 (QcO lb n om a1 (IntKind.wrap .i64 (i5 + 1))))
 else
 (Qfu lb n a1 ) := (Qad _).trans (by kernel_rfl)
theorem Qjf (lb n : Nat) (a1 : LB) :
 top lb n QaT [.str a1, .fn QcR] =
 QcO lb n n a1 0 := by kernel_rfl
noncomputable def QcD (lb n om : Nat) (a1 : LB) (i5 : Int) : Option CV :=
 hold (Qau (E0 lb n 0 995) 0 (Qae (sub (B QaT) [1, 0, 1, 0, 0]) ++ [5]) [] (sub (B QaT) [1, 0, 1, 0, 0]) (Qal 0 (seqK (E0 lb n 0 998) (sub (B QaT) [1, 0]) (sub (B QaT) [1, 1]) (retK Tryz.prog (R QaT) 0 (outK (Qaj Tryz.prog QaT))))) om ⟨fr 18 [(0, vS a1), (1, .val (.fn Qc3)), (4, vB false), (6, vS a1), (7, .val (.int .i64 (a1.length : Int))), (8, vI i5)], [bx 18 []], KK⟩)
noncomputable def Qe6 (lb n : Nat) (a1 : LB) : Option CV :=
 hold (E0 lb n 0 998 (sub (B QaT) [1, 1]) (retK Tryz.prog (R QaT) 0 (outK (Qaj Tryz.prog QaT))) ⟨fr 18 [(0, vS a1), (1, .val (.fn Qc3)), (4, vB false)], [bx 18 []], KK⟩)
theorem Qhq (lb n : Nat) (a1 : LB) :
 Qe6 lb n a1 =
 some (.bool true) := (Qad _).trans (by kernel_rfl)
theorem Qd2 (lb n om : Nat) (a1 : LB) (i5 : Int) :
 QcD lb n (om + 1) a1 i5 =
 bif (decide (i5 < (a1.length : Int))) then
 (optO (atS a1 i5) fun c11 =>
 optO (C lb n Qc3 [.int .u8 (c11.toNat : Int)]) fun yH =>
 optO (CV.asB yH) fun kc =>
 bif (!kc) then
 (some (.bool false))
 else
 (QcD lb n om a1 (IntKind.wrap .i64 (i5 + 1))))
 else
 (Qe6 lb n a1 ) := (Qad _).trans (by kernel_rfl)
theorem Qis (lb n : Nat) (a1 : LB) :
 top lb n QaT [.str a1, .fn Qc3] =
 QcD lb n n a1 0 := by kernel_rfl
end Go.Proofs
