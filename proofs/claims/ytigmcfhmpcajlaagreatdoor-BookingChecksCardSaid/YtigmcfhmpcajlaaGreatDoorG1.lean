/- Equations of functions, printed by program. Conditions: none. -/
import Derived.Test.YtigmcfhmpcajlaaGreatDoorEv
namespace Go.Proofs
open Go.Am
set_option maxRecDepth 100000
set_option linter.unusedVariables false
theorem Qmx (lb n) (a1 : Int) :
 top lb n QcD [.int .i64 a1] =
 optO (C lb n QfW [.int .i64 a1]) fun r2 =>
 some (r2) := by kernel_rfl
theorem Qpi (lb n) (a1 : LB) (b2 c3 : Int) :
 top lb n QdK [.str a1, .int .i64 b2, .int .i64 c3] =
 bif (decide ((a1.length : Int) ≥ b2)) then
 (bif (decide ((a1.length : Int) ≤ c3)) then
 (optO (C lb n Qag [.str a1, .fn Qb7]) fun r4 =>
 some (r4))
 else
 (some (.bool false)))
 else
 (some (.bool false)) := by kernel_rfl
theorem Qn7 (lb n) (a1 : Int) :
 top lb n Qc0 [.int .i64 a1] =
 bif (decide (a1 < 0)) then
 (optO (C lb n QdZ [.int .u64 (IntKind.wrap .u64 ((IntKind.wrap .u64 (IntKind.wrap .i64 (0 - (IntKind.wrap .i64 (a1 + 1))))) + 1))]) fun r2 =>
 optO (CV.asS r2) fun s3 =>
 chkO (decide (([45] : LB).length + s3.length ≤ 9223372036854775807)) (
 some (.str (([45] : LB) ++ s3))))
 else
 (optO (C lb n QdZ [.int .u64 (IntKind.wrap .u64 (a1))]) fun r4 =>
 some (r4)) := by kernel_rfl
noncomputable def r01_Code_L1 :=
 fun lb n (kp : Nat) a1 b2 c3 yR =>
 hold (QaC (E0 lb n 0 995) 0 (Qak (sub (B Qbl) [1, 0, 1, 0, 0]) ++ []) [] (sub (B Qbl) [1, 0, 1, 0, 0]) (Qao 0 (seqK (E0 lb n 0 998) (sub (B Qbl) [1, 0]) (sub (B Qbl) [1, 1]) (retK Tryz.prog (R Qbl) 0 (outK (Qaf Tryz.prog Qbl))))) kp ⟨fr 36 [(0, vS a1), (1, vI b2), (2, vI c3), (6, vB false), (7, vI yR)], [bx 36 []], KK⟩)
noncomputable def QlA (lb n : Nat) (a1 : LB) (b2 c3 yw : Int) : Option CV :=
 hold (E0 lb n 0 998 (sub (B Qbl) [1, 1]) (retK Tryz.prog (R Qbl) 0 (outK (Qaf Tryz.prog Qbl))) ⟨fr 36 [(0, vS a1), (1, vI b2), (2, vI c3), (6, vB false), (7, vI yw)], [bx 36 []], KK⟩)
theorem Qof (lb n : Nat) (a1 : LB) (b2 c3 yw : Int) :
 QlA lb n a1 b2 c3 yw =
 bif (decide ((a1.length : Int) ≥ b2)) then
 (some (.bool (decide ((a1.length : Int) ≤ c3))))
 else
 (some (.bool false)) := (Qae _).trans (by kernel_rfl)
theorem Qhn (lb n kp : Nat) (a1 : LB) (b2 c3 yR : Int) :
 r01_Code_L1 lb n (kp + 1) a1 b2 c3 yR =
 bif (decide (yR < (a1.length : Int))) then
 (optO (atS a1 yR) fun c21 =>
 optO (C lb n Qdb [.int .u8 (c21.toNat : Int)]) fun jn =>
 optO (CV.asB jn) fun pV =>
 bif (!pV) then
 (optO (atS a1 yR) fun c24 =>
 optO (C lb n Qid [.int .u8 (c24.toNat : Int)]) fun pJ =>
 optO (CV.asB pJ) fun qK =>
 bif (!qK) then
 (some (.bool false))
 else
 (r01_Code_L1 lb n kp a1 b2 c3 (IntKind.wrap .i64 (yR + 1))))
 else
 (r01_Code_L1 lb n kp a1 b2 c3 (IntKind.wrap .i64 (yR + 1))))
 else
 (QlA lb n a1 b2 c3 yR) := (Qae _).trans (by kernel_rfl)
theorem QqS (lb n : Nat) (a1 : LB) (b2 c3 : Int) :
 top lb n Qbl [.str a1, .int .i64 b2, .int .i64 c3] =
 r01_Code_L1 lb n n a1 b2 c3 0 := by kernel_rfl
theorem QmN (lb n : Nat) (a1 : LB) :
 top lb n QfR [.str a1] =
 optO (C lb n QdK [.str a1, .int .i64 2, .int .i64 2]) fun r2 =>
 optO (CV.asB r2) fun b3 =>
 bif b3 then
 (optO (C lb n Qag [.str a1, .fn QbZ]) fun r4 =>
 optO (CV.asB r4) fun b5 =>
 some (.bool (!b5)))
 else
 (some (.bool false)) := by kernel_rfl
theorem Qm8 (lb n : Nat) (a1 : LB) :
 top lb n Qep [.str a1] =
 bif ((a1.length : Int) == 3) then
 (optO (C lb n Qag [.str a1, .fn Qbi]) fun r2 =>
 some (r2))
 else
 (some (.bool false)) := by kernel_rfl
theorem Qpf (lb n : Nat) (a1 : LB) :
 top lb n Qhm [.str a1] =
 bif ((a1.length : Int) == 1) then
 (optO (atS a1 0) fun c2 =>
 optO (C lb n Qbi [.int .u8 (c2.toNat : Int)]) fun r3 =>
 some (r3))
 else
 (some (.bool false)) := by kernel_rfl
theorem QnS (lb n : Nat) (a1 : Int) :
 top lb n Qb7 [.int .u8 a1] =
 optO (C lb n Qbi [.int .u8 a1]) fun r2 =>
 optO (CV.asB r2) fun b3 =>
 bif b3 then
 (some (.bool true))
 else
 (optO (C lb n QbZ [.int .u8 a1]) fun r4 =>
 some (r4)) := by kernel_rfl
theorem QmK (lb n : Nat) (a1 : Int) :
 top lb n Qbi [.int .u8 a1] =
 bif (decide (a1 ≥ 65)) then
 (some (.bool (decide (a1 ≤ 90))))
 else
 (some (.bool false)) := by kernel_rfl
theorem Qo0 (lb n : Nat) (a1 : Int) :
 top lb n QbZ [.int .u8 a1] =
 bif (decide (a1 ≥ 48)) then
 (some (.bool (decide (a1 ≤ 57))))
 else
 (some (.bool false)) := by kernel_rfl
theorem QnJ (lb n : Nat) (a1 : LB) :
 top lb n QgN [.str a1] =
 optO (C lb n Qbl [.str a1, .int .i64 2, .int .i64 2]) fun r2 =>
 optO (CV.asB r2) fun b3 =>
 bif b3 then
 (optO (atS a1 0) fun c4 =>
 optO (C lb n Qdb [.int .u8 (c4.toNat : Int)]) fun r5 =>
 optO (CV.asB r5) fun b6 =>
 bif b6 then
 (some (.bool true))
 else
 (optO (atS a1 1) fun c7 =>
 optO (C lb n Qdb [.int .u8 (c7.toNat : Int)]) fun r9 =>
 some (r9)))
 else
 (some (.bool false)) := by kernel_rfl
theorem Qn1 (lb n : Nat) (a1 : LB) :
 top lb n QeQ [.str a1] =
 optO (C lb n Qa4 [.str a1, .int .i64 3]) fun r2 =>
 some (r2) := by kernel_rfl
theorem Qqt (lb n : Nat) (a1 : LB) :
 top lb n Qib [.str a1] =
 optO (C lb n Qa4 [.str a1, .int .i64 1]) fun r2 =>
 some (r2) := by kernel_rfl
theorem QjI (lb n : Nat) (a1 : Int) :
 top lb n QdZ [.int .u64 a1] =
 bif (decide (a1 < 10)) then
 (chkO (decide ((0 : Int) ≤ (IntKind.wrap .u64 (a1 + 1)) ∧ (IntKind.wrap .u64 (a1 + 1)) ≤ 10)) (
 chkO (decide ((0 : Int) ≤ a1 ∧ a1 ≤ (IntKind.wrap .u64 (a1 + 1)))) (
 some (.str ((([48, 49, 50, 51, 52, 53, 54, 55, 56, 57] : LB).take ((IntKind.wrap .u64 (a1 + 1)).toNat)).drop a1.toNat)))))
 else
 (optO (C lb n QdZ [.int .u64 (IntKind.wrap .u64 (Int.tdiv a1 10))]) fun r2 =>
 chkO (decide ((0 : Int) ≤ (IntKind.wrap .u64 ((Int.tmod a1 10) + 1)) ∧ (IntKind.wrap .u64 ((Int.tmod a1 10) + 1)) ≤ 10)) (
 chkO (decide ((0 : Int) ≤ (Int.tmod a1 10) ∧ (Int.tmod a1 10) ≤ (IntKind.wrap .u64 ((Int.tmod a1 10) + 1)))) (
 optO (CV.asS r2) fun s3 =>
 chkO (decide (s3.length + ((([48, 49, 50, 51, 52, 53, 54, 55, 56, 57] : LB).take ((IntKind.wrap .u64 ((Int.tmod a1 10) + 1)).toNat)).drop ((Int.tmod a1 10).toNat)).length ≤ 9223372036854775807)) (
 some (.str (s3 ++ ((([48, 49, 50, 51, 52, 53, 54, 55, 56, 57] : LB).take ((IntKind.wrap .u64 ((Int.tmod a1 10) + 1)).toNat)).drop ((Int.tmod a1 10).toNat)))))))) := by kernel_rfl
theorem Qpt (lb n : Nat) (a1 : Int) :
 top lb n Qdb [.int .u8 a1] =
 bif (decide (a1 ≥ 65)) then
 (some (.bool (decide (a1 ≤ 90))))
 else
 (some (.bool false)) := by kernel_rfl
theorem Qp0 (lb n : Nat) (a1 : Int) :
 top lb n Qid [.int .u8 a1] =
 bif (decide (a1 ≥ 48)) then
 (some (.bool (decide (a1 ≤ 57))))
 else
 (some (.bool false)) := by kernel_rfl
noncomputable def QdG (lb n yG : Nat) (a1 : LB) (x4 x6 r2 : CV) (p9 : Bool × LL) (ve : Bool × LL) (l27 : LL) (yV : Int) : Option CV :=
 hold (QaC (E0 lb n 0 991) 0 (Qak (sub (B QaN) [1, 1, 1, 1, 1, 0, 1, 0, 0]) ++ [8, 9, 10, 8]) [] (sub (B QaN) [1, 1, 1, 1, 1, 0, 1, 0, 0]) (Qao 0 (seqK (E0 lb n 0 994) (sub (B QaN) [1, 1, 1, 1, 1, 0]) (sub (B QaN) [1, 1, 1, 1, 1, 1]) (retK Tryz.prog (R QaN) 0 (outK (Qaf Tryz.prog QaN))))) yG ⟨fr 50 [(0, vS a1), (2, .lst true true 9 []), (3, vI 0), (4, vV x4), (5, vV x6), (6, .lst true false 9 l27), (13, vV r2), (14, vS a1), (15, vV r2), (16, vV x4), (17, vV x6), (20, vV x4), (21, .val (.int .i64 (p9.2.length : Int))), (22, .val (.list false [])), (23, vV x4), (24, .val (.int .i64 (ve.2.length : Int))), (25, vI yV)], [bx 50 []], KK⟩)
noncomputable def QjB (lb n : Nat) (a1 : LB) (x4 x6 r2 : CV) (p9 : Bool × LL) (oi : Bool) (oa : LL) : Option CV :=
 hold (E0 lb n 0 994 (sub (B QaN) [1, 1, 1, 1, 1, 1]) (retK Tryz.prog (R QaN) 0 (outK (Qaf Tryz.prog QaN))) ⟨fr 50 [(0, vS a1), (2, .lst true true 9 []), (3, vI 0), (4, vV x4), (5, vV x6), (6, .lst true oi 9 oa), (13, vV r2), (14, vS a1), (15, vV r2), (16, vV x4), (17, vV x6), (20, vV x4), (21, .val (.int .i64 (p9.2.length : Int))), (22, .val (.list false []))], [bx 50 []], KK⟩)
theorem Qmf (lb n : Nat) (a1 : LB) (x4 x6 r2 : CV) (p9 : Bool × LL) (oi : Bool) (oa : LL) :
 QjB lb n a1 x4 x6 r2 p9 oi oa =
 some (.tup [.list oi oa, .int .i64 0]) := (Qae _).trans (by kernel_rfl)
theorem Qcl (lb n yG : Nat) (a1 : LB) (x4 x6 r2 : CV) (p9 : Bool × LL) (ve : Bool × LL) (l27 : LL) (yV : Int) :
 QdG lb n (yG + 1) a1 x4 x6 r2 p9 ve l27 yV =
 bif (decide (yV < (ve.2.length : Int))) then
 (optO (CV.asL x4) fun qd =>
 optO (atL qd.2 yV) fun c45 =>
 chkO (c45.length == 1) (
 optO (c45[0]?) fun y0 =>
 optO (C lb n Qfg [y0]) fun qy =>
 optO (CV.asB qy) fun pO =>
 bif (!pO) then
 (optO (C lb n Qa3 [y0]) fun jY =>
 optO (CV.asT jY) fun pU =>
 optO (pU[0]?) fun oU =>
 optO (CV.asT jY) fun pG =>
 optO (pG[1]?) fun pq =>
 optO (CV.asI .i64 pq) fun qt =>
 bif (qt != 0) then
 (some (.tup [.list true [], .int .i64 3]))
 else
 (optO (C lb n Qfg [oU]) fun pd =>
 optO (CV.asB pd) fun vg =>
 bif vg then
 (some (.tup [.list true [], .int .i64 3]))
 else
 (chkO (CV.isCell oU) (
 chkO (room (l27.length + 1) 16) (
 QdG lb n yG a1 x4 x6 r2 p9 ve (l27 ++ [[oU]]) (IntKind.wrap .i64 (yV + 1)))))))
 else
 (chkO (CV.isCell y0) (
 chkO (room (l27.length + 1) 16) (
 QdG lb n yG a1 x4 x6 r2 p9 ve (l27 ++ [[y0]]) (IntKind.wrap .i64 (yV + 1)))))))
 else
 (QjB lb n a1 x4 x6 r2 p9 false l27) := (Qae _).trans (by kernel_rfl)
theorem QoU (lb n : Nat) (a1 : LB) :
 top lb n QaN [.str a1] =
 bif (a1 == []) then
 (some (.tup [.list true [], .int .i64 0]))
 else
 (optO (C lb n QbG [.str a1]) fun r2 =>
 optO (CV.asT r2) fun t3 =>
 optO (t3[0]?) fun x4 =>
 optO (CV.asT r2) fun t5 =>
 optO (t5[1]?) fun x6 =>
 optO (CV.asB x6) fun b7 =>
 bif (!b7) then
 (some (.tup [.list true [], .int .i64 3]))
 else
 (optO (CV.asL x4) fun p9 =>
 chkO (decide (0 ≤ (0 : Int)) && decide ((0 : Int) ≤ ((p9.2.length : Int) : Int)) && decide (((p9.2.length : Int) : Int) * 16 ≤ 140737488355328) && decide (((p9.2.length : Int) : Int) ≤ 140737488355328)) (
 optO (CV.asL x4) fun ve =>
 QdG lb n n a1 x4 x6 r2 p9 ve [] 0))) := by kernel_rfl
noncomputable def QfB (lb n y7 : Nat) (a1 : LB) (r2 : CV) (p3 : Bool × LL) (yf : Int) : Option CV :=
 hold (QaC (E0 lb n 0 994) 0 (Qak (sub (B Qbj) [1, 1, 0, 1, 0, 0]) ++ [4]) [] (sub (B Qbj) [1, 1, 0, 1, 0, 0]) (Qao 0 (seqK (E0 lb n 0 997) (sub (B Qbj) [1, 1, 0]) (sub (B Qbj) [1, 1, 1]) (retK Tryz.prog (R Qbj) 0 (outK (Qaf Tryz.prog Qbj))))) y7 ⟨fr 23 [(0, vS a1), (2, vB false), (8, vS a1), (9, vV r2), (10, .val (.int .i64 (p3.2.length : Int))), (11, vI yf)], [bx 23 []], KK⟩)
noncomputable def QkC (lb n : Nat) (a1 : LB) : Option CV :=
 hold (E0 lb n 0 997 (sub (B Qbj) [1, 1, 1]) (retK Tryz.prog (R Qbj) 0 (outK (Qaf Tryz.prog Qbj))) ⟨fr 23 [(0, vS a1), (2, vB false)], [bx 23 []], KK⟩)
theorem Qm4 (lb n : Nat) (a1 : LB) :
 QkC lb n a1 =
 some (.bool true) := (Qae _).trans (by kernel_rfl)
theorem QgZ (lb n y7 : Nat) (a1 : LB) (r2 : CV) (p3 : Bool × LL) (yf : Int) :
 QfB lb n (y7 + 1) a1 r2 p3 yf =
 bif (decide (yf < (p3.2.length : Int))) then
 (optO (CV.asL r2) fun pL =>
 optO (atL pL.2 yf) fun c21 =>
 chkO (c21.length == 1) (
 optO (c21[0]?) fun gH =>
 optO (CV.asS gH) fun qE =>
 bif (qE == []) then
 (some (.bool false))
 else
 (optO (C lb n Qag [gH, .fn Qbi]) fun pZ =>
 optO (CV.asB pZ) fun yQ =>
 bif (!yQ) then
 (some (.bool false))
 else
 (QfB lb n y7 a1 r2 p3 (IntKind.wrap .i64 (yf + 1))))))
 else
 (QkC lb n a1 ) := (Qae _).trans (by kernel_rfl)
theorem Qkg (lb n : Nat) (a1 : LB) :
 top lb n Qbj [.str a1] =
 bif (decide ((a1.length : Int) > 30)) then
 (some (.bool false))
 else
 (optO (C lb n QdQ [.str a1, .str [32]]) fun r2 =>
 optO (CV.asL r2) fun p3 =>
 QfB lb n n a1 r2 p3 0) := by kernel_rfl
noncomputable def QeD (lb n kf : Nat) (a1 : LB) (yf : Int) : Option CV :=
 hold (QaC (E0 lb n 0 994) 0 (Qak (sub (B Qbz) [1, 1, 0, 1, 0, 0]) ++ []) [] (sub (B Qbz) [1, 1, 0, 1, 0, 0]) (Qao 0 (seqK (E0 lb n 0 997) (sub (B Qbz) [1, 1, 0]) (sub (B Qbz) [1, 1, 1]) (retK Tryz.prog (R Qbz) 0 (outK (Qaf Tryz.prog Qbz))))) kf ⟨fr 49 [(0, vS a1), (2, vB false), (3, vI yf)], [bx 49 []], KK⟩)
noncomputable def QlR (lb n : Nat) (a1 : LB) (yU : Int) : Option CV :=
 hold (E0 lb n 0 997 (sub (B Qbz) [1, 1, 1]) (retK Tryz.prog (R Qbz) 0 (outK (Qaf Tryz.prog Qbz))) ⟨fr 49 [(0, vS a1), (2, vB false), (3, vI yU)], [bx 49 []], KK⟩)
theorem QnQ (lb n : Nat) (a1 : LB) (yU : Int) :
 QlR lb n a1 yU =
 some (.bool true) := (Qae _).trans (by kernel_rfl)
theorem QeY (lb n kf : Nat) (a1 : LB) (yf : Int) :
 QeD lb n (kf + 1) a1 yf =
 bif (decide (yf < (a1.length : Int))) then
 (optO (atS a1 yf) fun c19 =>
 optO (C lb n Qdb [.int .u8 (c19.toNat : Int)]) fun qz =>
 optO (CV.asB qz) fun yI =>
 bif (!yI) then
 (optO (atS a1 yf) fun c22 =>
 bif ((c22.toNat : Int) != 32) then
 (some (.bool false))
 else
 (optO (atS a1 (IntKind.wrap .i64 (yf - 1))) fun c23 =>
 bif ((c23.toNat : Int) == 32) then
 (some (.bool false))
 else
 (QeD lb n kf a1 (IntKind.wrap .i64 (yf + 1)))))
 else
 (QeD lb n kf a1 (IntKind.wrap .i64 (yf + 1))))
 else
 (QlR lb n a1 yf) := (Qae _).trans (by kernel_rfl)
theorem QqU (lb n : Nat) (a1 : LB) :
 top lb n Qbz [.str a1] =
 bif (decide ((a1.length : Int) < 1)) then
 (some (.bool false))
 else
 (bif (decide ((a1.length : Int) > 30)) then
 (some (.bool false))
 else
 (optO (atS a1 0) fun c2 =>
 bif ((c2.toNat : Int) == 32) then
 (some (.bool false))
 else
 (optO (atS a1 (IntKind.wrap .i64 ((a1.length : Int) - 1))) fun c3 =>
 bif ((c3.toNat : Int) == 32) then
 (some (.bool false))
 else
 (QeD lb n n a1 0)))) := by kernel_rfl
noncomputable def Qel (lb n yx : Nat) (a1 : LB) (b2 i6 : Int) : Option CV :=
 hold (QaC (E0 lb n 0 995) 0 (Qak (sub (B Qa4) [1, 0, 1, 0, 0]) ++ []) [] (sub (B Qa4) [1, 0, 1, 0, 0]) (Qao 0 (seqK (E0 lb n 0 998) (sub (B Qa4) [1, 0]) (sub (B Qa4) [1, 1]) (retK Tryz.prog (R Qa4) 0 (outK (Qaf Tryz.prog Qa4))))) yx ⟨fr 21 [(0, vS a1), (1, vI b2), (4, vB false), (5, vI i6)], [bx 21 []], KK⟩)
noncomputable def QiJ (lb n : Nat) (a1 : LB) (b2 jS : Int) : Option CV :=
 hold (E0 lb n 0 998 (sub (B Qa4) [1, 1]) (retK Tryz.prog (R Qa4) 0 (outK (Qaf Tryz.prog Qa4))) ⟨fr 21 [(0, vS a1), (1, vI b2), (4, vB false), (5, vI jS)], [bx 21 []], KK⟩)
theorem Qle (lb n : Nat) (a1 : LB) (b2 jS : Int) :
 QiJ lb n a1 b2 jS =
 some (.bool ((a1.length : Int) == b2)) := (Qae _).trans (by kernel_rfl)
theorem QfP (lb n yx : Nat) (a1 : LB) (b2 i6 : Int) :
 Qel lb n (yx + 1) a1 b2 i6 =
 bif (decide (i6 < (a1.length : Int))) then
 (optO (atS a1 i6) fun c12 =>
 optO (C lb n Qdb [.int .u8 (c12.toNat : Int)]) fun oV =>
 optO (CV.asB oV) fun ye =>
 bif (!ye) then
 (some (.bool false))
 else
 (Qel lb n yx a1 b2 (IntKind.wrap .i64 (i6 + 1))))
 else
 (QiJ lb n a1 b2 i6) := (Qae _).trans (by kernel_rfl)
theorem Qod (lb n : Nat) (a1 : LB) (b2 : Int) :
 top lb n Qa4 [.str a1, .int .i64 b2] =
 Qel lb n n a1 b2 0 := by kernel_rfl
theorem Qo3 (lb n : Nat) (a1 : LB) :
 top lb n Qfg [.str a1] =
 bif (!(a1 == [])) then
 (optO (C lb n Qag [.str a1, .fn QbR]) fun r2 =>
 some (r2))
 else
 (some (.bool false)) := by kernel_rfl
noncomputable def Qa0 (lb n yH : Nat) (a1 : LB) (wD : Bool) (l59 : LL) (i60 : Int) (w4 yt : Bool) (wn : Nat) : Option CV :=
 hold (QaC (E0 lb n 0 991) 0 (Qak (sub (B QbG) [1, 0, 1, 1, 1, 0, 1, 0, 0]) ++ [8, 9, 16, 23, 25, 31, 36]) [] (sub (B QbG) [1, 0, 1, 1, 1, 0, 1, 0, 0]) (Qao 0 (seqK (E0 lb n 0 994) (sub (B QbG) [1, 0, 1, 1, 1, 0]) (sub (B QbG) [1, 0, 1, 1, 1, 1]) (retK Tryz.prog (R QbG) 0 (outK (Qaf Tryz.prog QbG))))) yH ⟨fr 58 [(0, vS a1), (2, .lst true true 9 []), (3, vB false), (4, .lst true wD 9 l59), (5, vI i60), (6, vB w4), (7, vB yt), (10, vS a1), (11, .siter a1 wn)], [bx 58 []], KK⟩)
noncomputable def QlN (lb n : Nat) (a1 : LB) (oe : Bool) (l67 : LL) (i68 : Int) (yO o0 : Bool) : Option CV :=
 hold (E0 lb n 0 994 (sub (B QbG) [1, 0, 1, 1, 1, 1]) (retK Tryz.prog (R QbG) 0 (outK (Qaf Tryz.prog QbG))) ⟨fr 58 [(0, vS a1), (2, .lst true true 9 []), (3, vB false), (4, .lst true oe 9 l67), (5, vI i68), (6, vB yO), (7, vB o0)], [bx 58 []], KK⟩)
theorem QnN (lb n : Nat) (a1 : LB) (oe : Bool) (l67 : LL) (i68 : Int) (yO o0 : Bool) :
 QlN lb n a1 oe l67 i68 yO o0 =
 chkO (decide ((0 : Int) ≤ i68 ∧ i68 ≤ (a1.length : Int))) (
 chkO (room (l67.length + 1) 16) (
 some (.tup [.list (oe && false) (l67 ++ [[CV.str ((a1.take ((a1.length : Int).toNat)).drop i68.toNat)]]), .bool true]))) := (Qae _).trans (by kernel_rfl)
theorem QbN (lb n yH : Nat) (a1 : LB) (wD : Bool) (l59 : LL) (i60 : Int) (w4 yt : Bool) (wn : Nat) :
 Qa0 lb n (yH + 1) a1 wD l59 i60 w4 yt wn =
 bif (decide (wn < a1.length)) then
 (bif (decide ((((Utf8.decode ⟨a1.toArray⟩ wn).1 : Nat) : Int) < 32)) then
 (some (.tup [.list true [], .bool false]))
 else
 (bif (decide ((((Utf8.decode ⟨a1.toArray⟩ wn).1 : Nat) : Int) > 126)) then
 (some (.tup [.list true [], .bool false]))
 else
 (bif yt then
 (Qa0 lb n yH a1 wD l59 i60 w4 false (wn + (Utf8.decode ⟨a1.toArray⟩ wn).2))
 else
 (bif w4 then
 (bif ((((Utf8.decode ⟨a1.toArray⟩ wn).1 : Nat) : Int) == 92) then
 (Qa0 lb n yH a1 wD l59 i60 w4 true (wn + (Utf8.decode ⟨a1.toArray⟩ wn).2))
 else
 (bif ((((Utf8.decode ⟨a1.toArray⟩ wn).1 : Nat) : Int) == 34) then
 (Qa0 lb n yH a1 wD l59 i60 (!w4) yt (wn + (Utf8.decode ⟨a1.toArray⟩ wn).2))
 else
 (bif ((((Utf8.decode ⟨a1.toArray⟩ wn).1 : Nat) : Int) == 32) then
 (bif (!w4) then
 (chkO (decide ((0 : Int) ≤ ((wn : Nat) : Int) ∧ ((wn : Nat) : Int) ≤ (a1.length : Int))) (
 chkO (decide ((0 : Int) ≤ i60 ∧ i60 ≤ ((wn : Nat) : Int))) (
 chkO (room (l59.length + 1) 16) (
 Qa0 lb n yH a1 (wD && false) (l59 ++ [[CV.str ((a1.take (((wn : Nat) : Int).toNat)).drop i60.toNat)]]) (IntKind.wrap .i64 (((wn : Nat) : Int) + 1)) w4 yt (wn + (Utf8.decode ⟨a1.toArray⟩ wn).2)))))
 else
 (Qa0 lb n yH a1 wD l59 i60 w4 yt (wn + (Utf8.decode ⟨a1.toArray⟩ wn).2)))
 else
 (Qa0 lb n yH a1 wD l59 i60 w4 yt (wn + (Utf8.decode ⟨a1.toArray⟩ wn).2)))))
 else
 (bif ((((Utf8.decode ⟨a1.toArray⟩ wn).1 : Nat) : Int) == 34) then
 (Qa0 lb n yH a1 wD l59 i60 (!w4) yt (wn + (Utf8.decode ⟨a1.toArray⟩ wn).2))
 else
 (bif ((((Utf8.decode ⟨a1.toArray⟩ wn).1 : Nat) : Int) == 32) then
 (bif (!w4) then
 (chkO (decide ((0 : Int) ≤ ((wn : Nat) : Int) ∧ ((wn : Nat) : Int) ≤ (a1.length : Int))) (
 chkO (decide ((0 : Int) ≤ i60 ∧ i60 ≤ ((wn : Nat) : Int))) (
 chkO (room (l59.length + 1) 16) (
 Qa0 lb n yH a1 (wD && false) (l59 ++ [[CV.str ((a1.take (((wn : Nat) : Int).toNat)).drop i60.toNat)]]) (IntKind.wrap .i64 (((wn : Nat) : Int) + 1)) w4 yt (wn + (Utf8.decode ⟨a1.toArray⟩ wn).2)))))
 else
 (Qa0 lb n yH a1 wD l59 i60 w4 yt (wn + (Utf8.decode ⟨a1.toArray⟩ wn).2)))
 else
 (Qa0 lb n yH a1 wD l59 i60 w4 yt (wn + (Utf8.decode ⟨a1.toArray⟩ wn).2))))))))
 else
 (QlN lb n a1 wD l59 i60 w4 yt) := (Qae _).trans (by kernel_rfl)
theorem QqY (lb n : Nat) (a1 : LB) :
 top lb n QbG [.str a1] =
 Qa0 lb n n a1 true [] 0 false false 0 := by kernel_rfl
noncomputable def Qc4 (lb n ki : Nat) (a1 : LB) (l15 : LL) (wB : Int) : Option CV :=
 hold (QaC (E0 lb n 0 992) 0 (Qak (sub (B Qa3) [1, 1, 1, 1, 0, 1, 0, 0]) ++ [7, 8, 9, 7]) [] (sub (B Qa3) [1, 1, 1, 1, 0, 1, 0, 0]) (Qao 0 (seqK (E0 lb n 0 995) (sub (B Qa3) [1, 1, 1, 1, 0]) (sub (B Qa3) [1, 1, 1, 1, 1]) (retK Tryz.prog (R Qa3) 0 (outK (Qaf Tryz.prog Qa3))))) ki ⟨fr 75 [(0, vS a1), (2, .val (.str [])), (3, vI 0), (4, .val (.str ((a1.take ((IntKind.wrap .i64 ((a1.length : Int) - 1)).toNat)).drop 1))), (5, .lst true false 5 l15), (6, vI wB), (26, vS a1), (27, vS a1), (28, .val (.int .i64 (a1.length : Int))), (29, .val (.int .i64 (IntKind.wrap .i64 ((a1.length : Int) - 1)))), (30, .val (.str ((a1.take ((IntKind.wrap .i64 ((a1.length : Int) - 1)).toNat)).drop 1))), (31, .val (.str ((a1.take ((IntKind.wrap .i64 ((a1.length : Int) - 1)).toNat)).drop 1))), (32, .val (.int .i64 (((a1.take ((IntKind.wrap .i64 ((a1.length : Int) - 1)).toNat)).drop 1).length : Int))), (33, .val (.list false []))], [bx 75 []], KK⟩)
noncomputable def Qh1 (lb n : Nat) (a1 : LB) (yY : Bool) (l37 : LL) (wK : Int) : Option CV :=
 hold (E0 lb n 0 995 (sub (B Qa3) [1, 1, 1, 1, 1]) (retK Tryz.prog (R Qa3) 0 (outK (Qaf Tryz.prog Qa3))) ⟨fr 75 [(0, vS a1), (2, .val (.str [])), (3, vI 0), (4, .val (.str ((a1.take ((IntKind.wrap .i64 ((a1.length : Int) - 1)).toNat)).drop 1))), (5, .lst true yY 5 l37), (6, vI wK), (26, vS a1), (27, vS a1), (28, .val (.int .i64 (a1.length : Int))), (29, .val (.int .i64 (IntKind.wrap .i64 ((a1.length : Int) - 1)))), (30, .val (.str ((a1.take ((IntKind.wrap .i64 ((a1.length : Int) - 1)).toNat)).drop 1))), (31, .val (.str ((a1.take ((IntKind.wrap .i64 ((a1.length : Int) - 1)).toNat)).drop 1))), (32, .val (.int .i64 (((a1.take ((IntKind.wrap .i64 ((a1.length : Int) - 1)).toNat)).drop 1).length : Int))), (33, .val (.list false []))], [bx 75 []], KK⟩)
theorem Qkc (lb n : Nat) (a1 : LB) (yY : Bool) (l37 : LL) (wK : Int) :
 Qh1 lb n a1 yY l37 wK =
 optO (bytesOf l37) fun gd =>
 some (.tup [.str gd, .int .i64 0]) := (Qae _).trans (by kernel_rfl)
theorem Qb2 (lb n ki : Nat) (a1 : LB) (l15 : LL) (wB : Int) :
 Qc4 lb n (ki + 1) a1 l15 wB =
 bif (decide (wB < (((a1.take ((IntKind.wrap .i64 ((a1.length : Int) - 1)).toNat)).drop 1).length : Int))) then
 (optO (atS ((a1.take ((IntKind.wrap .i64 ((a1.length : Int) - 1)).toNat)).drop 1) wB) fun c27 =>
 bif ((c27.toNat : Int) == 34) then
 (some (.tup [.str [], .int .i64 3]))
 else
 (bif (decide ((c27.toNat : Int) < 32)) then
 (some (.tup [.str [], .int .i64 3]))
 else
 (bif (decide ((c27.toNat : Int) > 126)) then
 (some (.tup [.str [], .int .i64 3]))
 else
 (bif ((c27.toNat : Int) == 92) then
 (chkO (decide ((0 : Int) ≤ (IntKind.wrap .i64 (wB + 1)) ∧ (IntKind.wrap .i64 (wB + 1)) ≤ (((a1.take ((IntKind.wrap .i64 ((a1.length : Int) - 1)).toNat)).drop 1).length : Int))) (
 optO (C lb n QgH [.str ((((a1.take ((IntKind.wrap .i64 ((a1.length : Int) - 1)).toNat)).drop 1).take ((((a1.take ((IntKind.wrap .i64 ((a1.length : Int) - 1)).toNat)).drop 1).length : Int).toNat)).drop ((IntKind.wrap .i64 (wB + 1)).toNat))]) fun gC =>
 optO (CV.asT gC) fun pF =>
 optO (pF[0]?) fun jG =>
 optO (CV.asT gC) fun t31 =>
 optO (t31[1]?) fun jK =>
 optO (CV.asI .i64 jK) fun vL =>
 bif (vL == 0) then
 (some (.tup [.str [], .int .i64 3]))
 else
 (optO (CV.asI .i64 jK) fun kh =>
 chkO (CV.isCell jG) (
 chkO (room (l15.length + 1) 1) (
 Qc4 lb n ki a1 (l15 ++ [[jG]]) (IntKind.wrap .i64 ((IntKind.wrap .i64 (wB + kh)) + 1)))))))
 else
 (chkO (room (l15.length + 1) 1) (
 Qc4 lb n ki a1 (l15 ++ [[CV.int .u8 (c27.toNat : Int)]]) (IntKind.wrap .i64 (wB + 1))))))))
 else
 (Qh1 lb n a1 false l15 wB) := (Qae _).trans (by kernel_rfl)
theorem QmH (lb n : Nat) (a1 : LB) :
 top lb n Qa3 [.str a1] =
 bif (decide ((a1.length : Int) < 2)) then
 (some (.tup [.str [], .int .i64 3]))
 else
 (optO (atS a1 0) fun c2 =>
 bif ((c2.toNat : Int) != 34) then
 (some (.tup [.str [], .int .i64 3]))
 else
 (optO (atS a1 (IntKind.wrap .i64 ((a1.length : Int) - 1))) fun c3 =>
 bif ((c3.toNat : Int) != 34) then
 (some (.tup [.str [], .int .i64 3]))
 else
 (chkO (decide ((0 : Int) ≤ (IntKind.wrap .i64 ((a1.length : Int) - 1)) ∧ (IntKind.wrap .i64 ((a1.length : Int) - 1)) ≤ (a1.length : Int))) (
 chkO (decide ((0 : Int) ≤ 1 ∧ 1 ≤ (IntKind.wrap .i64 ((a1.length : Int) - 1)))) (
 chkO (decide (0 ≤ (0 : Int)) && decide ((0 : Int) ≤ ((((a1.take ((IntKind.wrap .i64 ((a1.length : Int) - 1)).toNat)).drop 1).length : Int) : Int)) && decide (((((a1.take ((IntKind.wrap .i64 ((a1.length : Int) - 1)).toNat)).drop 1).length : Int) : Int) * 1 ≤ 140737488355328) && decide (((((a1.take ((IntKind.wrap .i64 ((a1.length : Int) - 1)).toNat)).drop 1).length : Int) : Int) ≤ 140737488355328)) (
 Qc4 lb n n a1 [] 0)))))) := by kernel_rfl
theorem QmM (lb n : Nat) (a1 : Int) :
 top lb n QbR [.int .u8 a1] =
 bif (decide (a1 > 32)) then
 (bif (decide (a1 ≤ 126)) then
 (some (.bool (a1 != 34)))
 else
 (some (.bool false)))
 else
 (some (.bool false)) := by kernel_rfl
theorem Qoc (lb n : Nat) (a1 : LB) :
 top lb n QgH [.str a1] =
 bif (a1 == []) then
 (some (.tup [.int .u8 0, .int .i64 0]))
 else
 (optO (atS a1 0) fun c2 =>
 bif ((c2.toNat : Int) == 34) then
 (optO (atS a1 0) fun c3 =>
 some (.tup [.int .u8 (c3.toNat : Int), .int .i64 1]))
 else
 (optO (atS a1 0) fun c4 =>
 bif ((c4.toNat : Int) == 92) then
 (optO (atS a1 0) fun c5 =>
 some (.tup [.int .u8 (c5.toNat : Int), .int .i64 1]))
 else
 (optO (atS a1 0) fun c6 =>
 bif ((c6.toNat : Int) != 120) then
 (some (.tup [.int .u8 0, .int .i64 0]))
 else
 (bif (decide ((a1.length : Int) < 3)) then
 (some (.tup [.int .u8 0, .int .i64 0]))
 else
 (optO (atS a1 1) fun c7 =>
 optO (C lb n Qcc [.str [48, 49, 50, 51, 52, 53, 54, 55, 56, 57, 97, 98, 99, 100, 101, 102], .int .u8 (c7.toNat : Int)]) fun r9 =>
 optO (atS a1 2) fun c10 =>
 optO (C lb n Qcc [.str [48, 49, 50, 51, 52, 53, 54, 55, 56, 57, 97, 98, 99, 100, 101, 102], .int .u8 (c10.toNat : Int)]) fun vj =>
 optO (CV.asI .i64 r9) fun yR =>
 bif (decide (yR < 0)) then
 (some (.tup [.int .u8 0, .int .i64 0]))
 else
 (optO (CV.asI .i64 vj) fun qg =>
 bif (decide (qg < 0)) then
 (some (.tup [.int .u8 0, .int .i64 0]))
 else
 (optO (CV.asI .i64 r9) fun vk =>
 optO (CV.asI .i64 vj) fun jS =>
 bif (decide ((IntKind.wrap .u8 (IntKind.wrap .i64 ((BitVec.ofInt 64 (IntKind.wrap .i64 (vk * 2 ^ 4)) ||| BitVec.ofInt 64 jS).toNat))) ≥ 32)) then
 (bif (decide ((IntKind.wrap .u8 (IntKind.wrap .i64 ((BitVec.ofInt 64 (IntKind.wrap .i64 (vk * 2 ^ 4)) ||| BitVec.ofInt 64 jS).toNat))) ≤ 126)) then
 (some (.tup [.int .u8 0, .int .i64 0]))
 else
 (some (.tup [.int .u8 (IntKind.wrap .u8 (IntKind.wrap .i64 ((BitVec.ofInt 64 (IntKind.wrap .i64 (vk * 2 ^ 4)) ||| BitVec.ofInt 64 jS).toNat))), .int .i64 3])))
 else
 (some (.tup [.int .u8 (IntKind.wrap .u8 (IntKind.wrap .i64 ((BitVec.ofInt 64 (IntKind.wrap .i64 (vk * 2 ^ 4)) ||| BitVec.ofInt 64 jS).toNat))), .int .i64 3]))))))))) := by kernel_rfl
noncomputable def Qb4 (lb n w9 : Nat) (a1 : LB) (i5 : Int) : Option CV :=
 hold (QaC (E0 lb n 0 995) 0 (Qak (sub (B Qag) [1, 0, 1, 0, 0]) ++ [5]) [] (sub (B Qag) [1, 0, 1, 0, 0]) (Qao 0 (seqK (E0 lb n 0 998) (sub (B Qag) [1, 0]) (sub (B Qag) [1, 1]) (retK Tryz.prog (R Qag) 0 (outK (Qaf Tryz.prog Qag))))) w9 ⟨fr 18 [(0, vS a1), (1, .val (.fn QbZ)), (4, vB false), (6, vS a1), (7, .val (.int .i64 (a1.length : Int))), (8, vI i5)], [bx 18 []], KK⟩)
noncomputable def Qd7 (lb n : Nat) (a1 : LB) : Option CV :=
 hold (E0 lb n 0 998 (sub (B Qag) [1, 1]) (retK Tryz.prog (R Qag) 0 (outK (Qaf Tryz.prog Qag))) ⟨fr 18 [(0, vS a1), (1, .val (.fn QbZ)), (4, vB false)], [bx 18 []], KK⟩)
theorem QgC (lb n : Nat) (a1 : LB) :
 Qd7 lb n a1 =
 some (.bool true) := (Qae _).trans (by kernel_rfl)
theorem Qdf (lb n w9 : Nat) (a1 : LB) (i5 : Int) :
 Qb4 lb n (w9 + 1) a1 i5 =
 bif (decide (i5 < (a1.length : Int))) then
 (optO (atS a1 i5) fun c11 =>
 optO (C lb n QbZ [.int .u8 (c11.toNat : Int)]) fun yM =>
 optO (CV.asB yM) fun wF =>
 bif (!wF) then
 (some (.bool false))
 else
 (Qb4 lb n w9 a1 (IntKind.wrap .i64 (i5 + 1))))
 else
 (Qd7 lb n a1 ) := (Qae _).trans (by kernel_rfl)
theorem QhF (lb n : Nat) (a1 : LB) :
 top lb n Qag [.str a1, .fn QbZ] =
 Qb4 lb n n a1 0 := by kernel_rfl
noncomputable def QbK (lb n w9 : Nat) (a1 : LB) (i5 : Int) : Option CV :=
 hold (QaC (E0 lb n 0 995) 0 (Qak (sub (B Qag) [1, 0, 1, 0, 0]) ++ [5]) [] (sub (B Qag) [1, 0, 1, 0, 0]) (Qao 0 (seqK (E0 lb n 0 998) (sub (B Qag) [1, 0]) (sub (B Qag) [1, 1]) (retK Tryz.prog (R Qag) 0 (outK (Qaf Tryz.prog Qag))))) w9 ⟨fr 18 [(0, vS a1), (1, .val (.fn Qbi)), (4, vB false), (6, vS a1), (7, .val (.int .i64 (a1.length : Int))), (8, vI i5)], [bx 18 []], KK⟩)
noncomputable def QdE (lb n : Nat) (a1 : LB) : Option CV :=
 hold (E0 lb n 0 998 (sub (B Qag) [1, 1]) (retK Tryz.prog (R Qag) 0 (outK (Qaf Tryz.prog Qag))) ⟨fr 18 [(0, vS a1), (1, .val (.fn Qbi)), (4, vB false)], [bx 18 []], KK⟩)
theorem QfI (lb n : Nat) (a1 : LB) :
 QdE lb n a1 =
 some (.bool true) := (Qae _).trans (by kernel_rfl)
theorem QcW (lb n w9 : Nat) (a1 : LB) (i5 : Int) :
 QbK lb n (w9 + 1) a1 i5 =
 bif (decide (i5 < (a1.length : Int))) then
 (optO (atS a1 i5) fun c11 =>
 optO (C lb n Qbi [.int .u8 (c11.toNat : Int)]) fun yM =>
 optO (CV.asB yM) fun wF =>
 bif (!wF) then
 (some (.bool false))
 else
 (QbK lb n w9 a1 (IntKind.wrap .i64 (i5 + 1))))
 else
 (QdE lb n a1 ) := (Qae _).trans (by kernel_rfl)
theorem QgK (lb n : Nat) (a1 : LB) :
 top lb n Qag [.str a1, .fn Qbi] =
 QbK lb n n a1 0 := by kernel_rfl
noncomputable def QbU (lb n w9 : Nat) (a1 : LB) (i5 : Int) : Option CV :=
 hold (QaC (E0 lb n 0 995) 0 (Qak (sub (B Qag) [1, 0, 1, 0, 0]) ++ [5]) [] (sub (B Qag) [1, 0, 1, 0, 0]) (Qao 0 (seqK (E0 lb n 0 998) (sub (B Qag) [1, 0]) (sub (B Qag) [1, 1]) (retK Tryz.prog (R Qag) 0 (outK (Qaf Tryz.prog Qag))))) w9 ⟨fr 18 [(0, vS a1), (1, .val (.fn Qb7)), (4, vB false), (6, vS a1), (7, .val (.int .i64 (a1.length : Int))), (8, vI i5)], [bx 18 []], KK⟩)
noncomputable def QdV (lb n : Nat) (a1 : LB) : Option CV :=
 hold (E0 lb n 0 998 (sub (B Qag) [1, 1]) (retK Tryz.prog (R Qag) 0 (outK (Qaf Tryz.prog Qag))) ⟨fr 18 [(0, vS a1), (1, .val (.fn Qb7)), (4, vB false)], [bx 18 []], KK⟩)
theorem Qge (lb n : Nat) (a1 : LB) :
 QdV lb n a1 =
 some (.bool true) := (Qae _).trans (by kernel_rfl)
theorem Qc5 (lb n w9 : Nat) (a1 : LB) (i5 : Int) :
 QbU lb n (w9 + 1) a1 i5 =
 bif (decide (i5 < (a1.length : Int))) then
 (optO (atS a1 i5) fun c11 =>
 optO (C lb n Qb7 [.int .u8 (c11.toNat : Int)]) fun yM =>
 optO (CV.asB yM) fun wF =>
 bif (!wF) then
 (some (.bool false))
 else
 (QbU lb n w9 a1 (IntKind.wrap .i64 (i5 + 1))))
 else
 (QdV lb n a1 ) := (Qae _).trans (by kernel_rfl)
theorem Qg8 (lb n : Nat) (a1 : LB) :
 top lb n Qag [.str a1, .fn Qb7] =
 QbU lb n n a1 0 := by kernel_rfl
noncomputable def QbJ (lb n w9 : Nat) (a1 : LB) (i5 : Int) : Option CV :=
 hold (QaC (E0 lb n 0 995) 0 (Qak (sub (B Qag) [1, 0, 1, 0, 0]) ++ [5]) [] (sub (B Qag) [1, 0, 1, 0, 0]) (Qao 0 (seqK (E0 lb n 0 998) (sub (B Qag) [1, 0]) (sub (B Qag) [1, 1]) (retK Tryz.prog (R Qag) 0 (outK (Qaf Tryz.prog Qag))))) w9 ⟨fr 18 [(0, vS a1), (1, .val (.fn QbR)), (4, vB false), (6, vS a1), (7, .val (.int .i64 (a1.length : Int))), (8, vI i5)], [bx 18 []], KK⟩)
noncomputable def QdH (lb n : Nat) (a1 : LB) : Option CV :=
 hold (E0 lb n 0 998 (sub (B Qag) [1, 1]) (retK Tryz.prog (R Qag) 0 (outK (Qaf Tryz.prog Qag))) ⟨fr 18 [(0, vS a1), (1, .val (.fn QbR)), (4, vB false)], [bx 18 []], KK⟩)
theorem QfJ (lb n : Nat) (a1 : LB) :
 QdH lb n a1 =
 some (.bool true) := (Qae _).trans (by kernel_rfl)
theorem QcX (lb n w9 : Nat) (a1 : LB) (i5 : Int) :
 QbJ lb n (w9 + 1) a1 i5 =
 bif (decide (i5 < (a1.length : Int))) then
 (optO (atS a1 i5) fun c11 =>
 optO (C lb n QbR [.int .u8 (c11.toNat : Int)]) fun yM =>
 optO (CV.asB yM) fun wF =>
 bif (!wF) then
 (some (.bool false))
 else
 (QbJ lb n w9 a1 (IntKind.wrap .i64 (i5 + 1))))
 else
 (QdH lb n a1 ) := (Qae _).trans (by kernel_rfl)
theorem QgL (lb n : Nat) (a1 : LB) :
 top lb n Qag [.str a1, .fn QbR] =
 QbJ lb n n a1 0 := by kernel_rfl
end Go.Proofs
