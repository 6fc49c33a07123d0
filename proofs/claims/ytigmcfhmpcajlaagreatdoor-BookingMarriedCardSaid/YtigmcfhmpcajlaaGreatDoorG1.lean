/- Equations of functions, printed by program. Conditions: none. -/
import Derived.Test.YtigmcfhmpcajlaaGreatDoorEv
namespace Go.Proofs
open Go.Am
set_option maxRecDepth 100000
set_option linter.unusedVariables false
theorem Qoy (lb n) (a1 : Int) :
 top lb n Qdf [.int .i64 a1] =
 optO (C lb n Qhc [.int .i64 a1]) fun r2 =>
 some (r2) := by kernel_rfl
theorem Qry (lb n) (a1 : LB) (b2 c3 : Int) :
 top lb n Qev [.str a1, .int .i64 b2, .int .i64 c3] =
 bif (decide ((a1.length : Int) ≥ b2)) then
 (bif (decide ((a1.length : Int) ≤ c3)) then
 (optO (C lb n Qao [.str a1, .fn Qcx]) fun r4 =>
 some (r4))
 else
 (some (.bool false)))
 else
 (some (.bool false)) := by kernel_rfl
theorem Qp9 (lb n) (a1 : Int) :
 top lb n QdA [.int .i64 a1] =
 bif (decide (a1 < 0)) then
 (optO (C lb n QeK [.int .u64 (IntKind.wrap .u64 ((IntKind.wrap .u64 (IntKind.wrap .i64 (0 - (IntKind.wrap .i64 (a1 + 1))))) + 1))]) fun r2 =>
 optO (CV.asS r2) fun s3 =>
 chkO (decide (([45] : LB).length + s3.length ≤ 9223372036854775807)) (
 some (.str (([45] : LB) ++ s3))))
 else
 (optO (C lb n QeK [.int .u64 (IntKind.wrap .u64 (a1))]) fun r4 =>
 some (r4)) := by kernel_rfl
noncomputable def r01_Code_L1 :=
 fun lb n (oD : Nat) a1 b2 c3 vu =>
 hold (Qau (E0 lb n 0 995) 0 (Qaj (sub (B QbC) [1, 0, 1, 0, 0]) ++ []) [] (sub (B QbC) [1, 0, 1, 0, 0]) (Qal 0 (seqK (E0 lb n 0 998) (sub (B QbC) [1, 0]) (sub (B QbC) [1, 1]) (retK Tryz.prog (R QbC) 0 (outK (Qae Tryz.prog QbC))))) oD ⟨fr 36 [(0, vS a1), (1, vI b2), (2, vI c3), (6, vB false), (7, vI vu)], [bx 36 []], KK⟩)
noncomputable def Qny (lb n : Nat) (a1 : LB) (b2 c3 yU : Int) : Option CV :=
 hold (E0 lb n 0 998 (sub (B QbC) [1, 1]) (retK Tryz.prog (R QbC) 0 (outK (Qae Tryz.prog QbC))) ⟨fr 36 [(0, vS a1), (1, vI b2), (2, vI c3), (6, vB false), (7, vI yU)], [bx 36 []], KK⟩)
theorem Qpx (lb n : Nat) (a1 : LB) (b2 c3 yU : Int) :
 Qny lb n a1 b2 c3 yU =
 bif (decide ((a1.length : Int) ≥ b2)) then
 (some (.bool (decide ((a1.length : Int) ≤ c3))))
 else
 (some (.bool false)) := (Qaf _).trans (by kernel_rfl)
theorem QiI (lb n oD : Nat) (a1 : LB) (b2 c3 vu : Int) :
 r01_Code_L1 lb n (oD + 1) a1 b2 c3 vu =
 bif (decide (vu < (a1.length : Int))) then
 (optO (atS a1 vu) fun c21 =>
 optO (C lb n QdS [.int .u8 (c21.toNat : Int)]) fun jn =>
 optO (CV.asB jn) fun mg =>
 bif (!mg) then
 (optO (atS a1 vu) fun c24 =>
 optO (C lb n Qjz [.int .u8 (c24.toNat : Int)]) fun zF =>
 optO (CV.asB zF) fun sO =>
 bif (!sO) then
 (some (.bool false))
 else
 (r01_Code_L1 lb n oD a1 b2 c3 (IntKind.wrap .i64 (vu + 1))))
 else
 (r01_Code_L1 lb n oD a1 b2 c3 (IntKind.wrap .i64 (vu + 1))))
 else
 (Qny lb n a1 b2 c3 vu) := (Qaf _).trans (by kernel_rfl)
theorem QsY (lb n : Nat) (a1 : LB) (b2 c3 : Int) :
 top lb n QbC [.str a1, .int .i64 b2, .int .i64 c3] =
 r01_Code_L1 lb n n a1 b2 c3 0 := by kernel_rfl
theorem Qox (lb n : Nat) (a1 : LB) :
 top lb n Qg9 [.str a1] =
 optO (C lb n Qev [.str a1, .int .i64 2, .int .i64 2]) fun r2 =>
 optO (CV.asB r2) fun b3 =>
 bif b3 then
 (optO (C lb n Qao [.str a1, .fn Qcm]) fun r4 =>
 optO (CV.asB r4) fun b5 =>
 some (.bool (!b5)))
 else
 (some (.bool false)) := by kernel_rfl
theorem Qpi (lb n : Nat) (a1 : LB) :
 top lb n Qfb [.str a1] =
 bif ((a1.length : Int) == 3) then
 (optO (C lb n Qao [.str a1, .fn Qbv]) fun r2 =>
 some (r2))
 else
 (some (.bool false)) := by kernel_rfl
theorem Qq9 (lb n : Nat) (a1 : LB) :
 top lb n QiK [.str a1] =
 bif ((a1.length : Int) == 1) then
 (optO (atS a1 0) fun c2 =>
 optO (C lb n Qbv [.int .u8 (c2.toNat : Int)]) fun r3 =>
 some (r3))
 else
 (some (.bool false)) := by kernel_rfl
theorem Qqd (lb n : Nat) (a1 : Int) :
 top lb n Qcx [.int .u8 a1] =
 optO (C lb n Qbv [.int .u8 a1]) fun r2 =>
 optO (CV.asB r2) fun b3 =>
 bif b3 then
 (some (.bool true))
 else
 (optO (C lb n Qcm [.int .u8 a1]) fun r4 =>
 some (r4)) := by kernel_rfl
theorem Qpq (lb n : Nat) (a1 : Int) :
 top lb n Qbv [.int .u8 a1] =
 bif (decide (a1 ≥ 65)) then
 (some (.bool (decide (a1 ≤ 90))))
 else
 (some (.bool false)) := by kernel_rfl
theorem QqX (lb n : Nat) (a1 : Int) :
 top lb n Qcm [.int .u8 a1] =
 bif (decide (a1 ≥ 48)) then
 (some (.bool (decide (a1 ≤ 57))))
 else
 (some (.bool false)) := by kernel_rfl
theorem QpF (lb n : Nat) (a1 : LB) :
 top lb n QhY [.str a1] =
 optO (C lb n QbC [.str a1, .int .i64 2, .int .i64 2]) fun r2 =>
 optO (CV.asB r2) fun b3 =>
 bif b3 then
 (optO (atS a1 0) fun c4 =>
 optO (C lb n QdS [.int .u8 (c4.toNat : Int)]) fun r5 =>
 optO (CV.asB r5) fun b6 =>
 bif b6 then
 (some (.bool true))
 else
 (optO (atS a1 1) fun c7 =>
 optO (C lb n QdS [.int .u8 (c7.toNat : Int)]) fun r9 =>
 some (r9)))
 else
 (some (.bool false)) := by kernel_rfl
theorem QpP (lb n : Nat) (a1 : LB) :
 top lb n QfE [.str a1] =
 optO (C lb n Qbf [.str a1, .int .i64 3]) fun r2 =>
 some (r2) := by kernel_rfl
theorem Qrj (lb n : Nat) (a1 : LB) :
 top lb n QjF [.str a1] =
 optO (C lb n Qbf [.str a1, .int .i64 1]) fun r2 =>
 some (r2) := by kernel_rfl
theorem Qk7 (lb n : Nat) (a1 : Int) :
 top lb n QeK [.int .u64 a1] =
 bif (decide (a1 < 10)) then
 (chkO (decide ((0 : Int) ≤ (IntKind.wrap .u64 (a1 + 1)) ∧ (IntKind.wrap .u64 (a1 + 1)) ≤ 10)) (
 chkO (decide ((0 : Int) ≤ a1 ∧ a1 ≤ (IntKind.wrap .u64 (a1 + 1)))) (
 some (.str ((([48, 49, 50, 51, 52, 53, 54, 55, 56, 57] : LB).take ((IntKind.wrap .u64 (a1 + 1)).toNat)).drop a1.toNat)))))
 else
 (optO (C lb n QeK [.int .u64 (IntKind.wrap .u64 (Int.tdiv a1 10))]) fun r2 =>
 chkO (decide ((0 : Int) ≤ (IntKind.wrap .u64 ((Int.tmod a1 10) + 1)) ∧ (IntKind.wrap .u64 ((Int.tmod a1 10) + 1)) ≤ 10)) (
 chkO (decide ((0 : Int) ≤ (Int.tmod a1 10) ∧ (Int.tmod a1 10) ≤ (IntKind.wrap .u64 ((Int.tmod a1 10) + 1)))) (
 optO (CV.asS r2) fun s3 =>
 chkO (decide (s3.length + ((([48, 49, 50, 51, 52, 53, 54, 55, 56, 57] : LB).take ((IntKind.wrap .u64 ((Int.tmod a1 10) + 1)).toNat)).drop ((Int.tmod a1 10).toNat)).length ≤ 9223372036854775807)) (
 some (.str (s3 ++ ((([48, 49, 50, 51, 52, 53, 54, 55, 56, 57] : LB).take ((IntKind.wrap .u64 ((Int.tmod a1 10) + 1)).toNat)).drop ((Int.tmod a1 10).toNat)))))))) := by kernel_rfl
theorem Qrz (lb n : Nat) (a1 : Int) :
 top lb n QdS [.int .u8 a1] =
 bif (decide (a1 ≥ 65)) then
 (some (.bool (decide (a1 ≤ 90))))
 else
 (some (.bool false)) := by kernel_rfl
theorem QrV (lb n : Nat) (a1 : Int) :
 top lb n Qjz [.int .u8 a1] =
 bif (decide (a1 ≥ 48)) then
 (some (.bool (decide (a1 ≤ 57))))
 else
 (some (.bool false)) := by kernel_rfl
noncomputable def Qep (lb n vf : Nat) (a1 : LB) (x4 x6 r2 : CV) (p9 : Bool × LL) (kg : Bool × LL) (l27 : LL) (vd : Int) : Option CV :=
 hold (Qau (E0 lb n 0 991) 0 (Qaj (sub (B QaU) [1, 1, 1, 1, 1, 0, 1, 0, 0]) ++ [8, 9, 10, 8]) [] (sub (B QaU) [1, 1, 1, 1, 1, 0, 1, 0, 0]) (Qal 0 (seqK (E0 lb n 0 994) (sub (B QaU) [1, 1, 1, 1, 1, 0]) (sub (B QaU) [1, 1, 1, 1, 1, 1]) (retK Tryz.prog (R QaU) 0 (outK (Qae Tryz.prog QaU))))) vf ⟨fr 50 [(0, vS a1), (2, .lst true true 9 []), (3, vI 0), (4, vV x4), (5, vV x6), (6, .lst true false 9 l27), (13, vV r2), (14, vS a1), (15, vV r2), (16, vV x4), (17, vV x6), (20, vV x4), (21, .val (.int .i64 (p9.2.length : Int))), (22, .val (.list false [])), (23, vV x4), (24, .val (.int .i64 (kg.2.length : Int))), (25, vI vd)], [bx 50 []], KK⟩)
noncomputable def Qk8 (lb n : Nat) (a1 : LB) (x4 x6 r2 : CV) (p9 : Bool × LL) (kP : Bool) (gA : LL) : Option CV :=
 hold (E0 lb n 0 994 (sub (B QaU) [1, 1, 1, 1, 1, 1]) (retK Tryz.prog (R QaU) 0 (outK (Qae Tryz.prog QaU))) ⟨fr 50 [(0, vS a1), (2, .lst true true 9 []), (3, vI 0), (4, vV x4), (5, vV x6), (6, .lst true kP 9 gA), (13, vV r2), (14, vS a1), (15, vV r2), (16, vV x4), (17, vV x6), (20, vV x4), (21, .val (.int .i64 (p9.2.length : Int))), (22, .val (.list false []))], [bx 50 []], KK⟩)
theorem Qn1 (lb n : Nat) (a1 : LB) (x4 x6 r2 : CV) (p9 : Bool × LL) (kP : Bool) (gA : LL) :
 Qk8 lb n a1 x4 x6 r2 p9 kP gA =
 some (.tup [.list kP gA, .int .i64 0]) := (Qaf _).trans (by kernel_rfl)
theorem QcR (lb n vf : Nat) (a1 : LB) (x4 x6 r2 : CV) (p9 : Bool × LL) (kg : Bool × LL) (l27 : LL) (vd : Int) :
 Qep lb n (vf + 1) a1 x4 x6 r2 p9 kg l27 vd =
 bif (decide (vd < (kg.2.length : Int))) then
 (optO (CV.asL x4) fun zi =>
 optO (atL zi.2 vd) fun c45 =>
 chkO (c45.length == 1) (
 optO (c45[0]?) fun vH =>
 optO (C lb n QgC [vH]) fun sD =>
 optO (CV.asB sD) fun s5 =>
 bif (!s5) then
 (optO (C lb n Qbe [vH]) fun j9 =>
 optO (CV.asT j9) fun s6 =>
 optO (s6[0]?) fun gR =>
 optO (CV.asT j9) fun ll =>
 optO (ll[1]?) fun gP =>
 optO (CV.asI .i64 gP) fun zo =>
 bif (zo != 0) then
 (some (.tup [.list true [], .int .i64 3]))
 else
 (optO (C lb n QgC [gR]) fun sJ =>
 optO (CV.asB sJ) fun kf =>
 bif kf then
 (some (.tup [.list true [], .int .i64 3]))
 else
 (chkO (CV.isCell gR) (
 chkO (room (l27.length + 1) 16) (
 Qep lb n vf a1 x4 x6 r2 p9 kg (l27 ++ [[gR]]) (IntKind.wrap .i64 (vd + 1)))))))
 else
 (chkO (CV.isCell vH) (
 chkO (room (l27.length + 1) 16) (
 Qep lb n vf a1 x4 x6 r2 p9 kg (l27 ++ [[vH]]) (IntKind.wrap .i64 (vd + 1)))))))
 else
 (Qk8 lb n a1 x4 x6 r2 p9 false l27) := (Qaf _).trans (by kernel_rfl)
theorem QqN (lb n : Nat) (a1 : LB) :
 top lb n QaU [.str a1] =
 bif (a1 == []) then
 (some (.tup [.list true [], .int .i64 0]))
 else
 (optO (C lb n Qb2 [.str a1]) fun r2 =>
 optO (CV.asT r2) fun t3 =>
 optO (t3[0]?) fun x4 =>
 optO (CV.asT r2) fun t5 =>
 optO (t5[1]?) fun x6 =>
 optO (CV.asB x6) fun b7 =>
 bif (!b7) then
 (some (.tup [.list true [], .int .i64 3]))
 else
 (optO (CV.asL x4) fun p9 =>
 chkO (decide (0 ≤ (0 : Int)) && decide ((0 : Int) ≤ ((p9.2.length : Int) : Int)) && decide (((p9.2.length : Int) : Int) * 16 ≤ 140737488355328) && decide (((p9.2.length : Int) : Int) ≤ 140737488355328)) (
 optO (CV.asL x4) fun kg =>
 Qep lb n n a1 x4 x6 r2 p9 kg [] 0))) := by kernel_rfl
noncomputable def Qgd (lb n vT : Nat) (a1 : LB) (r2 : CV) (p3 : Bool × LL) (wB : Int) : Option CV :=
 hold (Qau (E0 lb n 0 994) 0 (Qaj (sub (B Qbx) [1, 1, 0, 1, 0, 0]) ++ [4]) [] (sub (B Qbx) [1, 1, 0, 1, 0, 0]) (Qal 0 (seqK (E0 lb n 0 997) (sub (B Qbx) [1, 1, 0]) (sub (B Qbx) [1, 1, 1]) (retK Tryz.prog (R Qbx) 0 (outK (Qae Tryz.prog Qbx))))) vT ⟨fr 23 [(0, vS a1), (2, vB false), (8, vS a1), (9, vV r2), (10, .val (.int .i64 (p3.2.length : Int))), (11, vI wB)], [bx 23 []], KK⟩)
noncomputable def QlL (lb n : Nat) (a1 : LB) : Option CV :=
 hold (E0 lb n 0 997 (sub (B Qbx) [1, 1, 1]) (retK Tryz.prog (R Qbx) 0 (outK (Qae Tryz.prog Qbx))) ⟨fr 23 [(0, vS a1), (2, vB false)], [bx 23 []], KK⟩)
theorem Qou (lb n : Nat) (a1 : LB) :
 QlL lb n a1 =
 some (.bool true) := (Qaf _).trans (by kernel_rfl)
theorem Qh8 (lb n vT : Nat) (a1 : LB) (r2 : CV) (p3 : Bool × LL) (wB : Int) :
 Qgd lb n (vT + 1) a1 r2 p3 wB =
 bif (decide (wB < (p3.2.length : Int))) then
 (optO (CV.asL r2) fun mf =>
 optO (atL mf.2 wB) fun c21 =>
 chkO (c21.length == 1) (
 optO (c21[0]?) fun gH =>
 optO (CV.asS gH) fun zW =>
 bif (zW == []) then
 (some (.bool false))
 else
 (optO (C lb n Qao [gH, .fn Qbv]) fun gT =>
 optO (CV.asB gT) fun vj =>
 bif (!vj) then
 (some (.bool false))
 else
 (Qgd lb n vT a1 r2 p3 (IntKind.wrap .i64 (wB + 1))))))
 else
 (QlL lb n a1 ) := (Qaf _).trans (by kernel_rfl)
theorem Qmk (lb n : Nat) (a1 : LB) :
 top lb n Qbx [.str a1] =
 bif (decide ((a1.length : Int) > 30)) then
 (some (.bool false))
 else
 (optO (C lb n QeG [.str a1, .str [32]]) fun r2 =>
 optO (CV.asL r2) fun p3 =>
 Qgd lb n n a1 r2 p3 0) := by kernel_rfl
noncomputable def Qfr (lb n oG : Nat) (a1 : LB) (wB : Int) : Option CV :=
 hold (Qau (E0 lb n 0 994) 0 (Qaj (sub (B QbS) [1, 1, 0, 1, 0, 0]) ++ []) [] (sub (B QbS) [1, 1, 0, 1, 0, 0]) (Qal 0 (seqK (E0 lb n 0 997) (sub (B QbS) [1, 1, 0]) (sub (B QbS) [1, 1, 1]) (retK Tryz.prog (R QbS) 0 (outK (Qae Tryz.prog QbS))))) oG ⟨fr 49 [(0, vS a1), (2, vB false), (3, vI wB)], [bx 49 []], KK⟩)
noncomputable def Qnq (lb n : Nat) (a1 : LB) (vm : Int) : Option CV :=
 hold (E0 lb n 0 997 (sub (B QbS) [1, 1, 1]) (retK Tryz.prog (R QbS) 0 (outK (Qae Tryz.prog QbS))) ⟨fr 49 [(0, vS a1), (2, vB false), (3, vI vm)], [bx 49 []], KK⟩)
theorem QpG (lb n : Nat) (a1 : LB) (vm : Int) :
 Qnq lb n a1 vm =
 some (.bool true) := (Qaf _).trans (by kernel_rfl)
theorem QfW (lb n oG : Nat) (a1 : LB) (wB : Int) :
 Qfr lb n (oG + 1) a1 wB =
 bif (decide (wB < (a1.length : Int))) then
 (optO (atS a1 wB) fun c19 =>
 optO (C lb n QdS [.int .u8 (c19.toNat : Int)]) fun s8 =>
 optO (CV.asB s8) fun vg =>
 bif (!vg) then
 (optO (atS a1 wB) fun c22 =>
 bif ((c22.toNat : Int) != 32) then
 (some (.bool false))
 else
 (optO (atS a1 (IntKind.wrap .i64 (wB - 1))) fun c23 =>
 bif ((c23.toNat : Int) == 32) then
 (some (.bool false))
 else
 (Qfr lb n oG a1 (IntKind.wrap .i64 (wB + 1)))))
 else
 (Qfr lb n oG a1 (IntKind.wrap .i64 (wB + 1))))
 else
 (Qnq lb n a1 wB) := (Qaf _).trans (by kernel_rfl)
theorem Qs3 (lb n : Nat) (a1 : LB) :
 top lb n QbS [.str a1] =
 bif (decide ((a1.length : Int) < 1)) then
 (some (.bool false))
 else
 (bif (decide ((a1.length : Int) > 30)) then
 (some (.bool false))
 else
 (optO (atS a1 0) fun c2 =>
 bif ((c2.toNat : Int) == 32) then
 (some (.bool false))
 else
 (optO (atS a1 (IntKind.wrap .i64 ((a1.length : Int) - 1))) fun c3 =>
 bif ((c3.toNat : Int) == 32) then
 (some (.bool false))
 else
 (Qfr lb n n a1 0)))) := by kernel_rfl
noncomputable def Qe6 (lb n y2 : Nat) (a1 : LB) (b2 i6 : Int) : Option CV :=
 hold (Qau (E0 lb n 0 995) 0 (Qaj (sub (B Qbf) [1, 0, 1, 0, 0]) ++ []) [] (sub (B Qbf) [1, 0, 1, 0, 0]) (Qal 0 (seqK (E0 lb n 0 998) (sub (B Qbf) [1, 0]) (sub (B Qbf) [1, 1]) (retK Tryz.prog (R Qbf) 0 (outK (Qae Tryz.prog Qbf))))) y2 ⟨fr 21 [(0, vS a1), (1, vI b2), (4, vB false), (5, vI i6)], [bx 21 []], KK⟩)
noncomputable def QjQ (lb n : Nat) (a1 : LB) (b2 jW : Int) : Option CV :=
 hold (E0 lb n 0 998 (sub (B Qbf) [1, 1]) (retK Tryz.prog (R Qbf) 0 (outK (Qae Tryz.prog Qbf))) ⟨fr 21 [(0, vS a1), (1, vI b2), (4, vB false), (5, vI jW)], [bx 21 []], KK⟩)
theorem QmO (lb n : Nat) (a1 : LB) (b2 jW : Int) :
 QjQ lb n a1 b2 jW =
 some (.bool ((a1.length : Int) == b2)) := (Qaf _).trans (by kernel_rfl)
theorem QgL (lb n y2 : Nat) (a1 : LB) (b2 i6 : Int) :
 Qe6 lb n (y2 + 1) a1 b2 i6 =
 bif (decide (i6 < (a1.length : Int))) then
 (optO (atS a1 i6) fun c12 =>
 optO (C lb n QdS [.int .u8 (c12.toNat : Int)]) fun m8 =>
 optO (CV.asB m8) fun yB =>
 bif (!yB) then
 (some (.bool false))
 else
 (Qe6 lb n y2 a1 b2 (IntKind.wrap .i64 (i6 + 1))))
 else
 (QjQ lb n a1 b2 i6) := (Qaf _).trans (by kernel_rfl)
theorem Qp1 (lb n : Nat) (a1 : LB) (b2 : Int) :
 top lb n Qbf [.str a1, .int .i64 b2] =
 Qe6 lb n n a1 b2 0 := by kernel_rfl
theorem QqW (lb n : Nat) (a1 : LB) :
 top lb n QgC [.str a1] =
 bif (!(a1 == [])) then
 (optO (C lb n Qao [.str a1, .fn Qcf]) fun r2 =>
 some (r2))
 else
 (some (.bool false)) := by kernel_rfl
noncomputable def Qbb (lb n ve : Nat) (a1 : LB) (wS : Bool) (l59 : LL) (i60 : Int) (yu yV : Bool) (wA : Nat) : Option CV :=
 hold (Qau (E0 lb n 0 991) 0 (Qaj (sub (B Qb2) [1, 0, 1, 1, 1, 0, 1, 0, 0]) ++ [8, 9, 16, 23, 25, 31, 36]) [] (sub (B Qb2) [1, 0, 1, 1, 1, 0, 1, 0, 0]) (Qal 0 (seqK (E0 lb n 0 994) (sub (B Qb2) [1, 0, 1, 1, 1, 0]) (sub (B Qb2) [1, 0, 1, 1, 1, 1]) (retK Tryz.prog (R Qb2) 0 (outK (Qae Tryz.prog Qb2))))) ve ⟨fr 58 [(0, vS a1), (2, .lst true true 9 []), (3, vB false), (4, .lst true wS 9 l59), (5, vI i60), (6, vB yu), (7, vB yV), (10, vS a1), (11, .siter a1 wA)], [bx 58 []], KK⟩)
noncomputable def Qnm (lb n : Nat) (a1 : LB) (gt : Bool) (l67 : LL) (i68 : Int) (vr mh : Bool) : Option CV :=
 hold (E0 lb n 0 994 (sub (B Qb2) [1, 0, 1, 1, 1, 1]) (retK Tryz.prog (R Qb2) 0 (outK (Qae Tryz.prog Qb2))) ⟨fr 58 [(0, vS a1), (2, .lst true true 9 []), (3, vB false), (4, .lst true gt 9 l67), (5, vI i68), (6, vB vr), (7, vB mh)], [bx 58 []], KK⟩)
theorem Qpw (lb n : Nat) (a1 : LB) (gt : Bool) (l67 : LL) (i68 : Int) (vr mh : Bool) :
 Qnm lb n a1 gt l67 i68 vr mh =
 chkO (decide ((0 : Int) ≤ i68 ∧ i68 ≤ (a1.length : Int))) (
 chkO (room (l67.length + 1) 16) (
 some (.tup [.list (gt && false) (l67 ++ [[CV.str ((a1.take ((a1.length : Int).toNat)).drop i68.toNat)]]), .bool true]))) := (Qaf _).trans (by kernel_rfl)
theorem Qca (lb n ve : Nat) (a1 : LB) (wS : Bool) (l59 : LL) (i60 : Int) (yu yV : Bool) (wA : Nat) :
 Qbb lb n (ve + 1) a1 wS l59 i60 yu yV wA =
 bif (decide (wA < a1.length)) then
 (bif (decide ((((Utf8.decode ⟨a1.toArray⟩ wA).1 : Nat) : Int) < 32)) then
 (some (.tup [.list true [], .bool false]))
 else
 (bif (decide ((((Utf8.decode ⟨a1.toArray⟩ wA).1 : Nat) : Int) > 126)) then
 (some (.tup [.list true [], .bool false]))
 else
 (bif yV then
 (Qbb lb n ve a1 wS l59 i60 yu false (wA + (Utf8.decode ⟨a1.toArray⟩ wA).2))
 else
 (bif yu then
 (bif ((((Utf8.decode ⟨a1.toArray⟩ wA).1 : Nat) : Int) == 92) then
 (Qbb lb n ve a1 wS l59 i60 yu true (wA + (Utf8.decode ⟨a1.toArray⟩ wA).2))
 else
 (bif ((((Utf8.decode ⟨a1.toArray⟩ wA).1 : Nat) : Int) == 34) then
 (Qbb lb n ve a1 wS l59 i60 (!yu) yV (wA + (Utf8.decode ⟨a1.toArray⟩ wA).2))
 else
 (bif ((((Utf8.decode ⟨a1.toArray⟩ wA).1 : Nat) : Int) == 32) then
 (bif (!yu) then
 (chkO (decide ((0 : Int) ≤ ((wA : Nat) : Int) ∧ ((wA : Nat) : Int) ≤ (a1.length : Int))) (
 chkO (decide ((0 : Int) ≤ i60 ∧ i60 ≤ ((wA : Nat) : Int))) (
 chkO (room (l59.length + 1) 16) (
 Qbb lb n ve a1 (wS && false) (l59 ++ [[CV.str ((a1.take (((wA : Nat) : Int).toNat)).drop i60.toNat)]]) (IntKind.wrap .i64 (((wA : Nat) : Int) + 1)) yu yV (wA + (Utf8.decode ⟨a1.toArray⟩ wA).2)))))
 else
 (Qbb lb n ve a1 wS l59 i60 yu yV (wA + (Utf8.decode ⟨a1.toArray⟩ wA).2)))
 else
 (Qbb lb n ve a1 wS l59 i60 yu yV (wA + (Utf8.decode ⟨a1.toArray⟩ wA).2)))))
 else
 (bif ((((Utf8.decode ⟨a1.toArray⟩ wA).1 : Nat) : Int) == 34) then
 (Qbb lb n ve a1 wS l59 i60 (!yu) yV (wA + (Utf8.decode ⟨a1.toArray⟩ wA).2))
 else
 (bif ((((Utf8.decode ⟨a1.toArray⟩ wA).1 : Nat) : Int) == 32) then
 (bif (!yu) then
 (chkO (decide ((0 : Int) ≤ ((wA : Nat) : Int) ∧ ((wA : Nat) : Int) ≤ (a1.length : Int))) (
 chkO (decide ((0 : Int) ≤ i60 ∧ i60 ≤ ((wA : Nat) : Int))) (
 chkO (room (l59.length + 1) 16) (
 Qbb lb n ve a1 (wS && false) (l59 ++ [[CV.str ((a1.take (((wA : Nat) : Int).toNat)).drop i60.toNat)]]) (IntKind.wrap .i64 (((wA : Nat) : Int) + 1)) yu yV (wA + (Utf8.decode ⟨a1.toArray⟩ wA).2)))))
 else
 (Qbb lb n ve a1 wS l59 i60 yu yV (wA + (Utf8.decode ⟨a1.toArray⟩ wA).2)))
 else
 (Qbb lb n ve a1 wS l59 i60 yu yV (wA + (Utf8.decode ⟨a1.toArray⟩ wA).2))))))))
 else
 (Qnm lb n a1 wS l59 i60 yu yV) := (Qaf _).trans (by kernel_rfl)
theorem Qs0 (lb n : Nat) (a1 : LB) :
 top lb n Qb2 [.str a1] =
 Qbb lb n n a1 true [] 0 false false 0 := by kernel_rfl
noncomputable def QdL (lb n oF : Nat) (a1 : LB) (l15 : LL) (yd : Int) : Option CV :=
 hold (Qau (E0 lb n 0 992) 0 (Qaj (sub (B Qbe) [1, 1, 1, 1, 0, 1, 0, 0]) ++ [7, 8, 9, 7]) [] (sub (B Qbe) [1, 1, 1, 1, 0, 1, 0, 0]) (Qal 0 (seqK (E0 lb n 0 995) (sub (B Qbe) [1, 1, 1, 1, 0]) (sub (B Qbe) [1, 1, 1, 1, 1]) (retK Tryz.prog (R Qbe) 0 (outK (Qae Tryz.prog Qbe))))) oF ⟨fr 75 [(0, vS a1), (2, .val (.str [])), (3, vI 0), (4, .val (.str ((a1.take ((IntKind.wrap .i64 ((a1.length : Int) - 1)).toNat)).drop 1))), (5, .lst true false 5 l15), (6, vI yd), (26, vS a1), (27, vS a1), (28, .val (.int .i64 (a1.length : Int))), (29, .val (.int .i64 (IntKind.wrap .i64 ((a1.length : Int) - 1)))), (30, .val (.str ((a1.take ((IntKind.wrap .i64 ((a1.length : Int) - 1)).toNat)).drop 1))), (31, .val (.str ((a1.take ((IntKind.wrap .i64 ((a1.length : Int) - 1)).toNat)).drop 1))), (32, .val (.int .i64 (((a1.take ((IntKind.wrap .i64 ((a1.length : Int) - 1)).toNat)).drop 1).length : Int))), (33, .val (.list false []))], [bx 75 []], KK⟩)
noncomputable def Qjf (lb n : Nat) (a1 : LB) (vE : Bool) (l37 : LL) (w5 : Int) : Option CV :=
 hold (E0 lb n 0 995 (sub (B Qbe) [1, 1, 1, 1, 1]) (retK Tryz.prog (R Qbe) 0 (outK (Qae Tryz.prog Qbe))) ⟨fr 75 [(0, vS a1), (2, .val (.str [])), (3, vI 0), (4, .val (.str ((a1.take ((IntKind.wrap .i64 ((a1.length : Int) - 1)).toNat)).drop 1))), (5, .lst true vE 5 l37), (6, vI w5), (26, vS a1), (27, vS a1), (28, .val (.int .i64 (a1.length : Int))), (29, .val (.int .i64 (IntKind.wrap .i64 ((a1.length : Int) - 1)))), (30, .val (.str ((a1.take ((IntKind.wrap .i64 ((a1.length : Int) - 1)).toNat)).drop 1))), (31, .val (.str ((a1.take ((IntKind.wrap .i64 ((a1.length : Int) - 1)).toNat)).drop 1))), (32, .val (.int .i64 (((a1.take ((IntKind.wrap .i64 ((a1.length : Int) - 1)).toNat)).drop 1).length : Int))), (33, .val (.list false []))], [bx 75 []], KK⟩)
theorem Ql7 (lb n : Nat) (a1 : LB) (vE : Bool) (l37 : LL) (w5 : Int) :
 Qjf lb n a1 vE l37 w5 =
 optO (bytesOf l37) fun zk =>
 some (.tup [.str zk, .int .i64 0]) := (Qaf _).trans (by kernel_rfl)
theorem Qcr (lb n oF : Nat) (a1 : LB) (l15 : LL) (yd : Int) :
 QdL lb n (oF + 1) a1 l15 yd =
 bif (decide (yd < (((a1.take ((IntKind.wrap .i64 ((a1.length : Int) - 1)).toNat)).drop 1).length : Int))) then
 (optO (atS ((a1.take ((IntKind.wrap .i64 ((a1.length : Int) - 1)).toNat)).drop 1) yd) fun c27 =>
 bif ((c27.toNat : Int) == 34) then
 (some (.tup [.str [], .int .i64 3]))
 else
 (bif (decide ((c27.toNat : Int) < 32)) then
 (some (.tup [.str [], .int .i64 3]))
 else
 (bif (decide ((c27.toNat : Int) > 126)) then
 (some (.tup [.str [], .int .i64 3]))
 else
 (bif ((c27.toNat : Int) == 92) then
 (chkO (decide ((0 : Int) ≤ (IntKind.wrap .i64 (yd + 1)) ∧ (IntKind.wrap .i64 (yd + 1)) ≤ (((a1.take ((IntKind.wrap .i64 ((a1.length : Int) - 1)).toNat)).drop 1).length : Int))) (
 optO (C lb n QhX [.str ((((a1.take ((IntKind.wrap .i64 ((a1.length : Int) - 1)).toNat)).drop 1).take ((((a1.take ((IntKind.wrap .i64 ((a1.length : Int) - 1)).toNat)).drop 1).length : Int).toNat)).drop ((IntKind.wrap .i64 (yd + 1)).toNat))]) fun gx =>
 optO (CV.asT gx) fun lc =>
 optO (lc[0]?) fun jM =>
 optO (CV.asT gx) fun t31 =>
 optO (t31[1]?) fun jN =>
 optO (CV.asI .i64 jN) fun kT =>
 bif (kT == 0) then
 (some (.tup [.str [], .int .i64 3]))
 else
 (optO (CV.asI .i64 jN) fun oI =>
 chkO (CV.isCell jM) (
 chkO (room (l15.length + 1) 1) (
 QdL lb n oF a1 (l15 ++ [[jM]]) (IntKind.wrap .i64 ((IntKind.wrap .i64 (yd + oI)) + 1)))))))
 else
 (chkO (room (l15.length + 1) 1) (
 QdL lb n oF a1 (l15 ++ [[CV.int .u8 (c27.toNat : Int)]]) (IntKind.wrap .i64 (yd + 1))))))))
 else
 (Qjf lb n a1 false l15 yd) := (Qaf _).trans (by kernel_rfl)
theorem Qoo (lb n : Nat) (a1 : LB) :
 top lb n Qbe [.str a1] =
 bif (decide ((a1.length : Int) < 2)) then
 (some (.tup [.str [], .int .i64 3]))
 else
 (optO (atS a1 0) fun c2 =>
 bif ((c2.toNat : Int) != 34) then
 (some (.tup [.str [], .int .i64 3]))
 else
 (optO (atS a1 (IntKind.wrap .i64 ((a1.length : Int) - 1))) fun c3 =>
 bif ((c3.toNat : Int) != 34) then
 (some (.tup [.str [], .int .i64 3]))
 else
 (chkO (decide ((0 : Int) ≤ (IntKind.wrap .i64 ((a1.length : Int) - 1)) ∧ (IntKind.wrap .i64 ((a1.length : Int) - 1)) ≤ (a1.length : Int))) (
 chkO (decide ((0 : Int) ≤ 1 ∧ 1 ≤ (IntKind.wrap .i64 ((a1.length : Int) - 1)))) (
 chkO (decide (0 ≤ (0 : Int)) && decide ((0 : Int) ≤ ((((a1.take ((IntKind.wrap .i64 ((a1.length : Int) - 1)).toNat)).drop 1).length : Int) : Int)) && decide (((((a1.take ((IntKind.wrap .i64 ((a1.length : Int) - 1)).toNat)).drop 1).length : Int) : Int) * 1 ≤ 140737488355328) && decide (((((a1.take ((IntKind.wrap .i64 ((a1.length : Int) - 1)).toNat)).drop 1).length : Int) : Int) ≤ 140737488355328)) (
 QdL lb n n a1 [] 0)))))) := by kernel_rfl
theorem QoO (lb n : Nat) (a1 : Int) :
 top lb n Qcf [.int .u8 a1] =
 bif (decide (a1 > 32)) then
 (bif (decide (a1 ≤ 126)) then
 (some (.bool (a1 != 34)))
 else
 (some (.bool false)))
 else
 (some (.bool false)) := by kernel_rfl
theorem QpS (lb n : Nat) (a1 : LB) :
 top lb n QhX [.str a1] =
 bif (a1 == []) then
 (some (.tup [.int .u8 0, .int .i64 0]))
 else
 (optO (atS a1 0) fun c2 =>
 bif ((c2.toNat : Int) == 34) then
 (optO (atS a1 0) fun c3 =>
 some (.tup [.int .u8 (c3.toNat : Int), .int .i64 1]))
 else
 (optO (atS a1 0) fun c4 =>
 bif ((c4.toNat : Int) == 92) then
 (optO (atS a1 0) fun c5 =>
 some (.tup [.int .u8 (c5.toNat : Int), .int .i64 1]))
 else
 (optO (atS a1 0) fun c6 =>
 bif ((c6.toNat : Int) != 120) then
 (some (.tup [.int .u8 0, .int .i64 0]))
 else
 (bif (decide ((a1.length : Int) < 3)) then
 (some (.tup [.int .u8 0, .int .i64 0]))
 else
 (optO (atS a1 1) fun c7 =>
 optO (C lb n QcA [.str [48, 49, 50, 51, 52, 53, 54, 55, 56, 57, 97, 98, 99, 100, 101, 102], .int .u8 (c7.toNat : Int)]) fun r9 =>
 optO (atS a1 2) fun c10 =>
 optO (C lb n QcA [.str [48, 49, 50, 51, 52, 53, 54, 55, 56, 57, 97, 98, 99, 100, 101, 102], .int .u8 (c10.toNat : Int)]) fun kU =>
 optO (CV.asI .i64 r9) fun vu =>
 bif (decide (vu < 0)) then
 (some (.tup [.int .u8 0, .int .i64 0]))
 else
 (optO (CV.asI .i64 kU) fun s7 =>
 bif (decide (s7 < 0)) then
 (some (.tup [.int .u8 0, .int .i64 0]))
 else
 (optO (CV.asI .i64 r9) fun kc =>
 optO (CV.asI .i64 kU) fun jW =>
 bif (decide ((IntKind.wrap .u8 (IntKind.wrap .i64 ((BitVec.ofInt 64 (IntKind.wrap .i64 (kc * 2 ^ 4)) ||| BitVec.ofInt 64 jW).toNat))) ≥ 32)) then
 (bif (decide ((IntKind.wrap .u8 (IntKind.wrap .i64 ((BitVec.ofInt 64 (IntKind.wrap .i64 (kc * 2 ^ 4)) ||| BitVec.ofInt 64 jW).toNat))) ≤ 126)) then
 (some (.tup [.int .u8 0, .int .i64 0]))
 else
 (some (.tup [.int .u8 (IntKind.wrap .u8 (IntKind.wrap .i64 ((BitVec.ofInt 64 (IntKind.wrap .i64 (kc * 2 ^ 4)) ||| BitVec.ofInt 64 jW).toNat))), .int .i64 3])))
 else
 (some (.tup [.int .u8 (IntKind.wrap .u8 (IntKind.wrap .i64 ((BitVec.ofInt 64 (IntKind.wrap .i64 (kc * 2 ^ 4)) ||| BitVec.ofInt 64 jW).toNat))), .int .i64 3]))))))))) := by kernel_rfl
noncomputable def Qcp (lb n yA : Nat) (a1 : LB) (i5 : Int) : Option CV :=
 hold (Qau (E0 lb n 0 995) 0 (Qaj (sub (B Qao) [1, 0, 1, 0, 0]) ++ [5]) [] (sub (B Qao) [1, 0, 1, 0, 0]) (Qal 0 (seqK (E0 lb n 0 998) (sub (B Qao) [1, 0]) (sub (B Qao) [1, 1]) (retK Tryz.prog (R Qao) 0 (outK (Qae Tryz.prog Qao))))) yA ⟨fr 18 [(0, vS a1), (1, .val (.fn Qcm)), (4, vB false), (6, vS a1), (7, .val (.int .i64 (a1.length : Int))), (8, vI i5)], [bx 18 []], KK⟩)
noncomputable def Qe2 (lb n : Nat) (a1 : LB) : Option CV :=
 hold (E0 lb n 0 998 (sub (B Qao) [1, 1]) (retK Tryz.prog (R Qao) 0 (outK (Qae Tryz.prog Qao))) ⟨fr 18 [(0, vS a1), (1, .val (.fn Qcm)), (4, vB false)], [bx 18 []], KK⟩)
theorem QhQ (lb n : Nat) (a1 : LB) :
 Qe2 lb n a1 =
 some (.bool true) := (Qaf _).trans (by kernel_rfl)
theorem QdT (lb n yA : Nat) (a1 : LB) (i5 : Int) :
 Qcp lb n (yA + 1) a1 i5 =
 bif (decide (i5 < (a1.length : Int))) then
 (optO (atS a1 i5) fun c11 =>
 optO (C lb n Qcm [.int .u8 (c11.toNat : Int)]) fun vt =>
 optO (CV.asB vt) fun wX =>
 bif (!wX) then
 (some (.bool false))
 else
 (Qcp lb n yA a1 (IntKind.wrap .i64 (i5 + 1))))
 else
 (Qe2 lb n a1 ) := (Qaf _).trans (by kernel_rfl)
theorem Qiz (lb n : Nat) (a1 : LB) :
 top lb n Qao [.str a1, .fn Qcm] =
 Qcp lb n n a1 0 := by kernel_rfl
noncomputable def Qb7 (lb n yA : Nat) (a1 : LB) (i5 : Int) : Option CV :=
 hold (Qau (E0 lb n 0 995) 0 (Qaj (sub (B Qao) [1, 0, 1, 0, 0]) ++ [5]) [] (sub (B Qao) [1, 0, 1, 0, 0]) (Qal 0 (seqK (E0 lb n 0 998) (sub (B Qao) [1, 0]) (sub (B Qao) [1, 1]) (retK Tryz.prog (R Qao) 0 (outK (Qae Tryz.prog Qao))))) yA ⟨fr 18 [(0, vS a1), (1, .val (.fn Qbv)), (4, vB false), (6, vS a1), (7, .val (.int .i64 (a1.length : Int))), (8, vI i5)], [bx 18 []], KK⟩)
noncomputable def Qek (lb n : Nat) (a1 : LB) : Option CV :=
 hold (E0 lb n 0 998 (sub (B Qao) [1, 1]) (retK Tryz.prog (R Qao) 0 (outK (Qae Tryz.prog Qao))) ⟨fr 18 [(0, vS a1), (1, .val (.fn Qbv)), (4, vB false)], [bx 18 []], KK⟩)
theorem QgG (lb n : Nat) (a1 : LB) :
 Qek lb n a1 =
 some (.bool true) := (Qaf _).trans (by kernel_rfl)
theorem Qdw (lb n yA : Nat) (a1 : LB) (i5 : Int) :
 Qb7 lb n (yA + 1) a1 i5 =
 bif (decide (i5 < (a1.length : Int))) then
 (optO (atS a1 i5) fun c11 =>
 optO (C lb n Qbv [.int .u8 (c11.toNat : Int)]) fun vt =>
 optO (CV.asB vt) fun wX =>
 bif (!wX) then
 (some (.bool false))
 else
 (Qb7 lb n yA a1 (IntKind.wrap .i64 (i5 + 1))))
 else
 (Qek lb n a1 ) := (Qaf _).trans (by kernel_rfl)
theorem QhW (lb n : Nat) (a1 : LB) :
 top lb n Qao [.str a1, .fn Qbv] =
 Qb7 lb n n a1 0 := by kernel_rfl
noncomputable def Qch (lb n yA : Nat) (a1 : LB) (i5 : Int) : Option CV :=
 hold (Qau (E0 lb n 0 995) 0 (Qaj (sub (B Qao) [1, 0, 1, 0, 0]) ++ [5]) [] (sub (B Qao) [1, 0, 1, 0, 0]) (Qal 0 (seqK (E0 lb n 0 998) (sub (B Qao) [1, 0]) (sub (B Qao) [1, 1]) (retK Tryz.prog (R Qao) 0 (outK (Qae Tryz.prog Qao))))) yA ⟨fr 18 [(0, vS a1), (1, .val (.fn Qcx)), (4, vB false), (6, vS a1), (7, .val (.int .i64 (a1.length : Int))), (8, vI i5)], [bx 18 []], KK⟩)
noncomputable def Qez (lb n : Nat) (a1 : LB) : Option CV :=
 hold (E0 lb n 0 998 (sub (B Qao) [1, 1]) (retK Tryz.prog (R Qao) 0 (outK (Qae Tryz.prog Qao))) ⟨fr 18 [(0, vS a1), (1, .val (.fn Qcx)), (4, vB false)], [bx 18 []], KK⟩)
theorem QgZ (lb n : Nat) (a1 : LB) :
 Qez lb n a1 =
 some (.bool true) := (Qaf _).trans (by kernel_rfl)
theorem QdI (lb n yA : Nat) (a1 : LB) (i5 : Int) :
 Qch lb n (yA + 1) a1 i5 =
 bif (decide (i5 < (a1.length : Int))) then
 (optO (atS a1 i5) fun c11 =>
 optO (C lb n Qcx [.int .u8 (c11.toNat : Int)]) fun vt =>
 optO (CV.asB vt) fun wX =>
 bif (!wX) then
 (some (.bool false))
 else
 (Qch lb n yA a1 (IntKind.wrap .i64 (i5 + 1))))
 else
 (Qez lb n a1 ) := (Qaf _).trans (by kernel_rfl)
theorem Qij (lb n : Nat) (a1 : LB) :
 top lb n Qao [.str a1, .fn Qcx] =
 Qch lb n n a1 0 := by kernel_rfl
noncomputable def Qb3 (lb n yA : Nat) (a1 : LB) (i5 : Int) : Option CV :=
 hold (Qau (E0 lb n 0 995) 0 (Qaj (sub (B Qao) [1, 0, 1, 0, 0]) ++ [5]) [] (sub (B Qao) [1, 0, 1, 0, 0]) (Qal 0 (seqK (E0 lb n 0 998) (sub (B Qao) [1, 0]) (sub (B Qao) [1, 1]) (retK Tryz.prog (R Qao) 0 (outK (Qae Tryz.prog Qao))))) yA ⟨fr 18 [(0, vS a1), (1, .val (.fn Qcf)), (4, vB false), (6, vS a1), (7, .val (.int .i64 (a1.length : Int))), (8, vI i5)], [bx 18 []], KK⟩)
noncomputable def Qei (lb n : Nat) (a1 : LB) : Option CV :=
 hold (E0 lb n 0 998 (sub (B Qao) [1, 1]) (retK Tryz.prog (R Qao) 0 (outK (Qae Tryz.prog Qao))) ⟨fr 18 [(0, vS a1), (1, .val (.fn Qcf)), (4, vB false)], [bx 18 []], KK⟩)
theorem QgH (lb n : Nat) (a1 : LB) :
 Qei lb n a1 =
 some (.bool true) := (Qaf _).trans (by kernel_rfl)
theorem Qdx (lb n yA : Nat) (a1 : LB) (i5 : Int) :
 Qb3 lb n (yA + 1) a1 i5 =
 bif (decide (i5 < (a1.length : Int))) then
 (optO (atS a1 i5) fun c11 =>
 optO (C lb n Qcf [.int .u8 (c11.toNat : Int)]) fun vt =>
 optO (CV.asB vt) fun wX =>
 bif (!wX) then
 (some (.bool false))
 else
 (Qb3 lb n yA a1 (IntKind.wrap .i64 (i5 + 1))))
 else
 (Qei lb n a1 ) := (Qaf _).trans (by kernel_rfl)
theorem QhS (lb n : Nat) (a1 : LB) :
 top lb n Qao [.str a1, .fn Qcf] =
 Qb3 lb n n a1 0 := by kernel_rfl
end Go.Proofs
