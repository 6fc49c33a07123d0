/- Equations of functions, printed by program. Conditions: none. -/
import Derived.Test.YtigmcfhmpcajlaaGreatDoorEv
namespace Go.Proofs
open Go.Am
set_option maxRecDepth 100000
set_option linter.unusedVariables false
theorem Qpz (lb n) (a1 b2 : Int) :
 top lb n Qdz [.int .i64 a1, .int .i64 b2] =
 optO (C lb n QgV [.int .i64 a1, .int .i64 b2]) fun r3 =>
 optO (CV.asI .i64 r3) fun i4 =>
 bif (i4 == 0) then
 (some (.tup [.int .i64 0, .int .i64 10]))
 else
 (some (.tup [r3, .int .i64 0])) := by kernel_rfl
theorem Qov (lb n) (a1 b2 : Int) :
 top lb n QgV [.int .i64 a1, .int .i64 b2] =
 bif (a1 == 0) then
 (bif (b2 == 1) then
 (some (.int .i64 1))
 else
 (bif (b2 == 2) then
 (some (.int .i64 2))
 else
 (some (.int .i64 0))))
 else
 (bif (a1 == 3) then
 (bif (b2 == 7) then
 (some (.int .i64 1))
 else
 (bif (b2 == 5) then
 (some (.int .i64 4))
 else
 (optO (C lb n QcE [.int .i64 b2]) fun r3 =>
 some (r3))))
 else
 (bif (a1 == 4) then
 (bif (b2 == 7) then
 (some (.int .i64 1))
 else
 (bif (b2 == 5) then
 (some (.int .i64 4))
 else
 (optO (C lb n QcE [.int .i64 b2]) fun r4 =>
 some (r4))))
 else
 (bif (a1 == 1) then
 (bif (b2 == 5) then
 (some (.int .i64 4))
 else
 (optO (C lb n QcE [.int .i64 b2]) fun r5 =>
 some (r5)))
 else
 (bif (a1 == 2) then
 (bif (b2 == 3) then
 (some (.int .i64 3))
 else
 (bif (b2 == 4) then
 (some (.int .i64 6))
 else
 (optO (C lb n QcE [.int .i64 b2]) fun r6 =>
 some (r6))))
 else
 (bif (a1 == 5) then
 (bif (b2 == 1) then
 (some (.int .i64 1))
 else
 (bif (b2 == 8) then
 (some (.int .i64 7))
 else
 (some (.int .i64 0))))
 else
 (bif (a1 == 6) then
 (bif (b2 == 8) then
 (some (.int .i64 7))
 else
 (some (.int .i64 0)))
 else
 (some (.int .i64 0)))))))) := by kernel_rfl
theorem Qm8 (lb n) (a1 : Int) :
 top lb n QcE [.int .i64 a1] =
 bif (a1 == 6) then
 (some (.int .i64 5))
 else
 (bif (a1 == 8) then
 (some (.int .i64 7))
 else
 (some (.int .i64 0))) := by kernel_rfl
theorem Qp8 (lb n) (a1 : Int) :
 top lb n QhV [.int .i64 a1] =
 bif (decide (a1 < 1)) then
 (some (.tup [.str [], .int .i64 8]))
 else
 (bif (decide (a1 > 7)) then
 (some (.tup [.str [], .int .i64 8]))
 else
 (chkO (decide ((0 : Int) ≤ (IntKind.wrap .i64 (2 * a1)) ∧ (IntKind.wrap .i64 (2 * a1)) ≤ 14)) (
 chkO (decide ((0 : Int) ≤ (IntKind.wrap .i64 ((IntKind.wrap .i64 (2 * a1)) - 2)) ∧ (IntKind.wrap .i64 ((IntKind.wrap .i64 (2 * a1)) - 2)) ≤ (IntKind.wrap .i64 (2 * a1)))) (
 some (.tup [.str ((([72, 75, 72, 76, 75, 76, 84, 75, 85, 78, 85, 67, 88, 88] : LB).take ((IntKind.wrap .i64 (2 * a1)).toNat)).drop ((IntKind.wrap .i64 ((IntKind.wrap .i64 (2 * a1)) - 2)).toNat)), .int .i64 0]))))) := by kernel_rfl
noncomputable def marry_Check_L1 :=
 fun lb n (y2 : Nat) (jf : Bool) (a2 : LL) i6 =>
 hold (Qau (E0 lb n 0 995) 0 (Qaj (sub (B QaN) [1, 0, 1, 0, 0]) ++ [4]) [] (sub (B QaN) [1, 0, 1, 0, 0]) (Qal 0 (seqK (E0 lb n 0 998) (sub (B QaN) [1, 0]) (sub (B QaN) [1, 1]) (retK Tryz.prog (R QaN) 0 (outK (Qae Tryz.prog QaN))))) y2 ⟨fr 51 [(0, .val (.list jf a2)), (2, vI 0), (8, .val (.list jf a2)), (9, .val (.int .i64 (a2.length : Int))), (10, vI i6)], [bx 51 []], KK⟩)
noncomputable def QjN (lb n : Nat) (jf : Bool) (a2 : LL) : Option CV :=
 hold (E0 lb n 0 998 (sub (B QaN) [1, 1]) (retK Tryz.prog (R QaN) 0 (outK (Qae Tryz.prog QaN))) ⟨fr 51 [(0, .val (.list jf a2)), (2, vI 0)], [bx 51 []], KK⟩)
noncomputable def Qdk (lb n oA : Nat) (jf : Bool) (a2 : LL) (y3 : CV) (kb : Bool × LL) (w5 : Int) : Option CV :=
 hold (Qau (E0 lb n 0 994) 0 (Qaj (sub (B QaN) [1, 1, 0, 1, 0, 0]) ++ [6, 7]) [] (sub (B QaN) [1, 1, 0, 1, 0, 0]) (Qal 2 (seqK (E0 lb n 0 997) (sub (B QaN) [1, 1, 0]) (sub (B QaN) [1, 1, 1]) (retK Tryz.prog (R QaN) 0 (outK (Qae Tryz.prog QaN))))) oA ⟨fr 51 [(0, .val (.list jf a2)), (2, vI 0), (17, .val (.list jf a2)), (18, vV y3), (19, .val (.int .i64 (kb.2.length : Int))), (20, vI w5)], [bx 51 []], KK⟩)
noncomputable def QjU (lb n : Nat) (jf : Bool) (a2 : LL) : Option CV :=
 hold (E0 lb n 0 997 (sub (B QaN) [1, 1, 1]) (retK Tryz.prog (R QaN) 0 (outK (Qae Tryz.prog QaN))) ⟨fr 51 [(0, .val (.list jf a2)), (2, vI 0)], [bx 51 []], KK⟩)
theorem QmR (lb n : Nat) (jf : Bool) (a2 : LL) :
 QjU lb n jf a2 =
 some (.int .i64 0) := (Qaf _).trans (by kernel_rfl)
theorem QgM (lb n oA : Nat) (jf : Bool) (a2 : LL) (y3 : CV) (kb : Bool × LL) (w5 : Int) :
 Qdk lb n (oA + 1) jf a2 y3 kb w5 =
 bif (decide (w5 < (kb.2.length : Int))) then
 (optO (CV.asL y3) fun zH =>
 optO (atL zH.2 w5) fun c59 =>
 chkO (c59.length == 1) (
 optO (c59[0]?) fun j7 =>
 optO (CV.asL j7) fun zq =>
 optO (atL zq.2 0) fun c62 =>
 chkO (c62.length == 1) (
 optO (c62[0]?) fun j8 =>
 optO (CV.asN j8) fun zm =>
 optO (atL a2 zm) fun c66 =>
 chkO (c66.length == 1) (
 optO (c66[0]?) fun nu =>
 optO (CV.asI .i64 nu) fun i68 =>
 bif (decide (i68 > 0)) then
 (optO (CV.asL j7) fun lr =>
 bif ((lr.2.length : Int) == 1) then
 (some (.int .i64 18))
 else
 (optO (CV.asL j7) fun le =>
 optO (CV.asL j7) fun sE =>
 optO (atL sE.2 (IntKind.wrap .i64 ((le.2.length : Int) - 1))) fun c72 =>
 chkO (c72.length == 1) (
 optO (c72[0]?) fun mZ =>
 optO (CV.asI .i64 mZ) fun gY =>
 chkO (a2.all (·.length == 1)) (
 chkO (decide ((0 : Int) ≤ (IntKind.wrap .i64 (gY + 1)) ∧ (IntKind.wrap .i64 (gY + 1)) ≤ (a2.length : Int))) (
 optO (C lb n QcX [.list jf ((a2.take ((a2.length : Int).toNat)).drop ((IntKind.wrap .i64 (gY + 1)).toNat)), nu]) fun gN =>
 optO (CV.asB gN) fun gK =>
 bif gK then
 (some (.int .i64 18))
 else
 (Qdk lb n oA jf a2 y3 kb (IntKind.wrap .i64 (w5 + 1))))))))
 else
 (Qdk lb n oA jf a2 y3 kb (IntKind.wrap .i64 (w5 + 1)))))))
 else
 (QjU lb n jf a2 ) := (Qaf _).trans (by kernel_rfl)
theorem Qm3 (lb n : Nat) (jf : Bool) (a2 : LL) :
 QjN lb n jf a2 =
 optO (C lb n Qd7 [.list jf a2]) fun y3 =>
 optO (CV.asL y3) fun kb =>
 Qdk lb n n jf a2 y3 kb 0 := (Qaf _).trans (by kernel_rfl)
theorem QgK (lb n y2 : Nat) (jf : Bool) (a2 : LL) (i6 : Int) :
 marry_Check_L1 lb n (y2 + 1) jf a2 i6 =
 bif (decide (i6 < (a2.length : Int))) then
 (optO (atL a2 i6) fun c12 =>
 chkO (c12.length == 1) (
 optO (c12[0]?) fun kA =>
 optO (CV.asI .i64 kA) fun kc =>
 bif (decide (kc < 0)) then
 (some (.int .i64 2))
 else
 (marry_Check_L1 lb n y2 jf a2 (IntKind.wrap .i64 (i6 + 1)))))
 else
 (QjN lb n jf a2 ) := (Qaf _).trans (by kernel_rfl)
theorem Qpu (lb n : Nat) (jf : Bool) (a2 : LL) :
 top lb n QaN [.list jf a2] =
 marry_Check_L1 lb n n jf a2 0 := by kernel_rfl
theorem Qol (lb n : Nat) (jf : Bool) (a2 : LL) :
 top lb n Qg2 [.list jf a2] =
 optO (C lb n QaN [.list jf a2]) fun r3 =>
 optO (CV.asI .i64 r3) fun i4 =>
 bif (i4 != 0) then
 (some (.tup [.list true [], r3]))
 else
 (optO (C lb n Qd7 [.list jf a2]) fun r5 =>
 some (.tup [r5, .int .i64 0])) := by kernel_rfl
noncomputable def QfG (lb n gw : Nat) (jf : Bool) (a2 : LL) (b3 : Int) (x6 x9 r4 : CV) (kM : Bool × LL) (yH : Int) : Option CV :=
 hold (Qau (E0 lb n 0 993) 0 (Qaj (sub (B QbE) [1, 1, 1, 0, 1, 0, 0]) ++ [9]) [] (sub (B QbE) [1, 1, 1, 0, 1, 0, 0]) (Qal 0 (seqK (E0 lb n 0 996) (sub (B QbE) [1, 1, 1, 0]) (sub (B QbE) [1, 1, 1, 1]) (retK Tryz.prog (R QbE) 0 (outK (Qae Tryz.prog QbE))))) gw ⟨fr 29 [(0, .val (.list jf a2)), (1, vI b3), (4, .lst true true 3 []), (5, vI 0), (6, vV x6), (7, vV x9), (10, vV r4), (11, .val (.list jf a2)), (12, vV r4), (13, vV x6), (14, vV x9), (18, vV x6), (19, .val (.int .i64 (kM.2.length : Int))), (20, vI yH)], [bx 29 []], KK⟩)
noncomputable def Qli (lb n : Nat) (jf : Bool) (a2 : LL) (b3 : Int) (x6 x9 r4 : CV) : Option CV :=
 hold (E0 lb n 0 996 (sub (B QbE) [1, 1, 1, 1]) (retK Tryz.prog (R QbE) 0 (outK (Qae Tryz.prog QbE))) ⟨fr 29 [(0, .val (.list jf a2)), (1, vI b3), (4, .lst true true 3 []), (5, vI 0), (6, vV x6), (7, vV x9), (10, vV r4), (11, .val (.list jf a2)), (12, vV r4), (13, vV x6), (14, vV x9)], [bx 29 []], KK⟩)
theorem Qn2 (lb n : Nat) (jf : Bool) (a2 : LL) (b3 : Int) (x6 x9 r4 : CV) :
 Qli lb n jf a2 b3 x6 x9 r4 =
 some (.tup [.list true [], .int .i64 2]) := (Qaf _).trans (by kernel_rfl)
theorem QhJ (lb n gw : Nat) (jf : Bool) (a2 : LL) (b3 : Int) (x6 x9 r4 : CV) (kM : Bool × LL) (yH : Int) :
 QfG lb n (gw + 1) jf a2 b3 x6 x9 r4 kM yH =
 bif (decide (yH < (kM.2.length : Int))) then
 (optO (CV.asL x6) fun zS =>
 optO (atL zS.2 yH) fun c26 =>
 chkO (c26.length == 1) (
 optO (c26[0]?) fun jG =>
 optO (C lb n QcX [jG, .int .i64 b3]) fun gx =>
 optO (CV.asB gx) fun zD =>
 bif zD then
 (some (.tup [jG, .int .i64 0]))
 else
 (QfG lb n gw jf a2 b3 x6 x9 r4 kM (IntKind.wrap .i64 (yH + 1)))))
 else
 (Qli lb n jf a2 b3 x6 x9 r4 ) := (Qaf _).trans (by kernel_rfl)
theorem Qle (lb n : Nat) (jf : Bool) (a2 : LL) (b3 : Int) :
 top lb n QbE [.list jf a2, .int .i64 b3] =
 optO (C lb n Qg2 [.list jf a2]) fun r4 =>
 optO (CV.asT r4) fun t5 =>
 optO (t5[0]?) fun x6 =>
 optO (CV.asT r4) fun t7 =>
 optO (t7[1]?) fun x9 =>
 optO (CV.asI .i64 x9) fun gQ =>
 bif (gQ != 0) then
 (some (.tup [.list true [], x9]))
 else
 (optO (CV.asL x6) fun kM =>
 QfG lb n n jf a2 b3 x6 x9 r4 kM 0) := by kernel_rfl
theorem QjJ (lb n : Nat) (jf : Bool) (a2 : LL) (b3 : Int) :
 top lb n QcX [.list jf a2, .int .i64 b3] =
 optO (C lb n QaX [.list jf a2, .int .i64 b3]) fun r4 =>
 optO (CV.asI .i64 r4) fun i5 =>
 some (.bool (decide (i5 ≥ 0))) := by kernel_rfl
noncomputable def Qdv (lb n gv : Nat) (jf : Bool) (a2 : LL) (b3 i7 : Int) : Option CV :=
 hold (Qau (E0 lb n 0 995) 0 (Qaj (sub (B QaX) [1, 0, 1, 0, 0]) ++ [5]) [] (sub (B QaX) [1, 0, 1, 0, 0]) (Qal 0 (seqK (E0 lb n 0 998) (sub (B QaX) [1, 0]) (sub (B QaX) [1, 1]) (retK Tryz.prog (R QaX) 0 (outK (Qae Tryz.prog QaX))))) gv ⟨fr 19 [(0, .val (.list jf a2)), (1, vI b3), (4, vI 0), (6, .val (.list jf a2)), (7, .val (.int .i64 (a2.length : Int))), (8, vI i7)], [bx 19 []], KK⟩)
noncomputable def QgP (lb n : Nat) (jf : Bool) (a2 : LL) (b3 : Int) : Option CV :=
 hold (E0 lb n 0 998 (sub (B QaX) [1, 1]) (retK Tryz.prog (R QaX) 0 (outK (Qae Tryz.prog QaX))) ⟨fr 19 [(0, .val (.list jf a2)), (1, vI b3), (4, vI 0)], [bx 19 []], KK⟩)
theorem QjG (lb n : Nat) (jf : Bool) (a2 : LL) (b3 : Int) :
 QgP lb n jf a2 b3 =
 some (.int .i64 (-1)) := (Qaf _).trans (by kernel_rfl)
theorem QeT (lb n gv : Nat) (jf : Bool) (a2 : LL) (b3 i7 : Int) :
 Qdv lb n (gv + 1) jf a2 b3 i7 =
 bif (decide (i7 < (a2.length : Int))) then
 (optO (atL a2 i7) fun c13 =>
 chkO (c13.length == 1) (
 optO (c13[0]?) fun kE =>
 optO (CV.asI .i64 kE) fun jW =>
 bif (b3 == jW) then
 (some (.int .i64 i7))
 else
 (Qdv lb n gv jf a2 b3 (IntKind.wrap .i64 (i7 + 1)))))
 else
 (QgP lb n jf a2 b3 ) := (Qaf _).trans (by kernel_rfl)
theorem Qlv (lb n : Nat) (jf : Bool) (a2 : LL) (b3 : Int) :
 top lb n QaX [.list jf a2, .int .i64 b3] =
 Qdv lb n n jf a2 b3 0 := by kernel_rfl
noncomputable def Qc8 (lb n gD : Nat) (jf : Bool) (a2 l15 : LL) (yd : Int) : Option CV :=
 hold (Qau (E0 lb n 0 994) 0 (Qaj (sub (B QaQ) [1, 1, 0, 1, 0, 0]) ++ []) [5] (sub (B QaQ) [1, 1, 0, 1, 0, 0]) (Qal 0 (seqK (E0 lb n 0 997) (sub (B QaQ) [1, 1, 0]) (sub (B QaQ) [1, 1, 1]) (retK Tryz.prog (R QaQ) 0 (outK (Qae Tryz.prog QaQ))))) gD ⟨fr 22 [(0, .val (.list jf a2)), (2, .lst true true 3 []), (3, .lst true false 3 l15), (6, .val (.list jf a2)), (7, .val (.int .i64 (a2.length : Int))), (8, .val (.list false [])), (9, .val (.list jf a2)), (10, .val (.int .i64 (a2.length : Int))), (11, vI yd)], [bx 22 []], KK⟩)
noncomputable def Qgs (lb n : Nat) (jf : Bool) (a2 : LL) (go : Bool) (gy : LL) : Option CV :=
 hold (E0 lb n 0 997 (sub (B QaQ) [1, 1, 1]) (retK Tryz.prog (R QaQ) 0 (outK (Qae Tryz.prog QaQ))) ⟨fr 22 [(0, .val (.list jf a2)), (2, .lst true true 3 []), (3, .lst true go 3 gy), (6, .val (.list jf a2)), (7, .val (.int .i64 (a2.length : Int))), (8, .val (.list false []))], [bx 22 []], KK⟩)
theorem Qi5 (lb n : Nat) (jf : Bool) (a2 : LL) (go : Bool) (gy : LL) :
 Qgs lb n jf a2 go gy =
 some (.list go gy) := (Qaf _).trans (by kernel_rfl)
theorem QeF (lb n gD : Nat) (jf : Bool) (a2 l15 : LL) (yd : Int) :
 Qc8 lb n (gD + 1) jf a2 l15 yd =
 bif (decide (yd < (a2.length : Int))) then
 (optO (atL a2 yd) fun c30 =>
 chkO (c30.length == 10) (
 optO (c30[0]?) fun jQ =>
 optO (c30[1]?) fun jN =>
 optO (c30[2]?) fun nx =>
 optO (c30[3]?) fun gI =>
 optO (c30[4]?) fun kQ =>
 optO (c30[5]?) fun vR =>
 optO (c30[6]?) fun nw =>
 optO (c30[7]?) fun m7 =>
 optO (c30[8]?) fun nv =>
 optO (c30[9]?) fun oB =>
 chkO (CV.isCell oB) (
 chkO (room (l15.length + 1) 8) (
 Qc8 lb n gD jf a2 (l15 ++ [[oB]]) (IntKind.wrap .i64 (yd + 1))))))
 else
 (Qgs lb n jf a2 false l15) := (Qaf _).trans (by kernel_rfl)
theorem QkA (lb n : Nat) (jf : Bool) (a2 : LL) :
 top lb n QaQ [.list jf a2] =
 chkO (decide (0 ≤ (0 : Int)) && decide ((0 : Int) ≤ ((a2.length : Int) : Int)) && decide (((a2.length : Int) : Int) * 8 ≤ 140737488355328) && decide (((a2.length : Int) : Int) ≤ 140737488355328)) (
 Qc8 lb n n jf a2 [] 0) := by kernel_rfl
theorem Qmt (lb n : Nat) (a1 : LB) :
 top lb n Qfp [.str a1] =
 optO (C lb n Qev [.str a1, .int .i64 6, .int .i64 6]) fun r2 =>
 some (r2) := by kernel_rfl
noncomputable def Qdj (lb n : Nat) (awansegcar1 : LB) (awansegnum2 awansegday3 : Int) (awansegfro4 jh : LB) (awansegdep6 awansegarr7 : Int) (jm : LB) (jp jq : Int) (yB : Bool) (l15 : LL) : Option CV :=
 hold (E0 lb n 0 996 (sub (B Qbi) [1, 1, 1, 1]) (retK Tryz.prog (R Qbi) 0 (outK (Qae Tryz.prog Qbi))) ⟨fr 67 [(0, .val (.agg [.str awansegcar1, .int .i64 awansegnum2, .int .i64 awansegday3, .str awansegfro4, .str jh, .int .i64 awansegdep6, .int .i64 awansegarr7, .str jm, .int .i64 jp, .int .i64 jq])), (1, .ptr 0 1 0), (2, .lst true true 31 []), (3, .lst true yB 31 l15), (4, .ptr 0 4 0), (7, .ptr 0 1 0), (8, .ptr 0 1 0), (9, .val (.agg [.str awansegcar1, .int .i64 awansegnum2, .int .i64 awansegday3, .str awansegfro4, .str jh, .int .i64 awansegdep6, .int .i64 awansegarr7]))], [bx 67 [(1, some [vS awansegcar1, vI awansegnum2, vI awansegday3, vS awansegfro4, vS jh, vI awansegdep6, vI awansegarr7, vS jm, vI jp, vI jq]), (4, some [vS awansegcar1, vI awansegnum2, vI awansegday3, vS awansegfro4, vS jh, vI awansegdep6, vI awansegarr7])]], KK⟩)
noncomputable def Qdd (lb n : Nat) (awansegcar1 : LB) (awansegnum2 awansegday3 : Int) (awansegfro4 jh : LB) (awansegdep6 awansegarr7 : Int) (jm : LB) (jp jq : Int) (vn : Bool) (l18 : LL) : Option CV :=
 hold (E0 lb n 0 995 (sub (B Qbi) [1, 1, 1, 1, 1]) (retK Tryz.prog (R Qbi) 0 (outK (Qae Tryz.prog Qbi))) ⟨fr 67 [(0, .val (.agg [.str awansegcar1, .int .i64 awansegnum2, .int .i64 awansegday3, .str awansegfro4, .str jh, .int .i64 awansegdep6, .int .i64 awansegarr7, .str jm, .int .i64 jp, .int .i64 jq])), (1, .ptr 0 1 0), (2, .lst true true 31 []), (3, .lst true vn 31 l18), (4, .ptr 0 4 0), (7, .ptr 0 1 0), (8, .ptr 0 1 0), (9, .val (.agg [.str awansegcar1, .int .i64 awansegnum2, .int .i64 awansegday3, .str awansegfro4, .str jh, .int .i64 awansegdep6, .int .i64 awansegarr7]))], [bx 67 [(1, some [vS awansegcar1, vI awansegnum2, vI awansegday3, vS awansegfro4, vS jh, vI awansegdep6, vI awansegarr7, vS jm, vI jp, vI jq]), (4, some [vS awansegcar1, vI awansegnum2, vI awansegday3, vS awansegfro4, vS jh, vI awansegdep6, vI awansegarr7])]], KK⟩)
noncomputable def Qfd (lb n : Nat) (awansegcar1 : LB) (awansegnum2 awansegday3 : Int) (awansegfro4 jh : LB) (awansegdep6 awansegarr7 : Int) (jm : LB) (jp jq : Int) (vg : Bool) (l22 : LL) : Option CV :=
 hold (E0 lb n 0 994 (sub (B Qbi) [1, 1, 1, 1, 1, 1]) (retK Tryz.prog (R Qbi) 0 (outK (Qae Tryz.prog Qbi))) ⟨fr 67 [(0, .val (.agg [.str awansegcar1, .int .i64 awansegnum2, .int .i64 awansegday3, .str awansegfro4, .str jh, .int .i64 awansegdep6, .int .i64 awansegarr7, .str jm, .int .i64 jp, .int .i64 jq])), (1, .ptr 0 1 0), (2, .lst true true 31 []), (3, .lst true vg 31 l22), (4, .ptr 0 4 0), (7, .ptr 0 1 0), (8, .ptr 0 1 0), (9, .val (.agg [.str awansegcar1, .int .i64 awansegnum2, .int .i64 awansegday3, .str awansegfro4, .str jh, .int .i64 awansegdep6, .int .i64 awansegarr7]))], [bx 67 [(1, some [vS awansegcar1, vI awansegnum2, vI awansegday3, vS awansegfro4, vS jh, vI awansegdep6, vI awansegarr7, vS jm, vI jp, vI jq]), (4, some [vS awansegcar1, vI awansegnum2, vI awansegday3, vS awansegfro4, vS jh, vI awansegdep6, vI awansegarr7])]], KK⟩)
theorem QmS (lb n : Nat) (awansegcar1 : LB) (awansegnum2 awansegday3 : Int) (awansegfro4 jh : LB) (awansegdep6 awansegarr7 : Int) (jm : LB) (jp jq : Int) (vg : Bool) (l22 : LL) :
 Qfd lb n awansegcar1 awansegnum2 awansegday3 awansegfro4 jh awansegdep6 awansegarr7 jm jp jq vg l22 =
 optO (C lb n QhV [.int .i64 jp]) fun jl =>
 optO (CV.asT jl) fun kt =>
 optO (kt[0]?) fun jx =>
 optO (CV.asT jl) fun oC =>
 optO (oC[1]?) fun jG =>
 optO (CV.asI .i64 jG) fun vd =>
 bif (vd != 0) then
 (chkO (room (l22.length + 1) 8) (
 some (.list (vg && false) (l22 ++ [[CV.int .i64 10]]))))
 else
 (some (.list vg l22)) := (Qaf _).trans (by kernel_rfl)
theorem QmT (lb n : Nat) (awansegcar1 : LB) (awansegnum2 awansegday3 : Int) (awansegfro4 jh : LB) (awansegdep6 awansegarr7 : Int) (jm : LB) (jp jq : Int) (vn : Bool) (l18 : LL) :
 Qdd lb n awansegcar1 awansegnum2 awansegday3 awansegfro4 jh awansegdep6 awansegarr7 jm jp jq vn l18 =
 optO (C lb n QiK [.str jm]) fun jy =>
 optO (CV.asB jy) fun yX =>
 bif (!yX) then
 (chkO (room (l18.length + 1) 8) (
 Qfd lb n awansegcar1 awansegnum2 awansegday3 awansegfro4 jh awansegdep6 awansegarr7 jm jp jq (vn && false) (l18 ++ [[CV.int .i64 16]])))
 else
 (Qfd lb n awansegcar1 awansegnum2 awansegday3 awansegfro4 jh awansegdep6 awansegarr7 jm jp jq vn l18) := (Qaf _).trans (by kernel_rfl)
theorem QmM (lb n : Nat) (awansegcar1 : LB) (awansegnum2 awansegday3 : Int) (awansegfro4 jh : LB) (awansegdep6 awansegarr7 : Int) (jm : LB) (jp jq : Int) (yB : Bool) (l15 : LL) :
 Qdj lb n awansegcar1 awansegnum2 awansegday3 awansegfro4 jh awansegdep6 awansegarr7 jm jp jq yB l15 =
 bif (decide (awansegdep6 < 0)) then
 (chkO (room (l15.length + 1) 8) (
 Qdd lb n awansegcar1 awansegnum2 awansegday3 awansegfro4 jh awansegdep6 awansegarr7 jm jp jq (yB && false) (l15 ++ [[CV.int .i64 13]])))
 else
 (bif (decide (awansegdep6 ≥ awansegarr7)) then
 (chkO (room (l15.length + 1) 8) (
 Qdd lb n awansegcar1 awansegnum2 awansegday3 awansegfro4 jh awansegdep6 awansegarr7 jm jp jq (yB && false) (l15 ++ [[CV.int .i64 13]])))
 else
 (bif (decide (awansegarr7 ≥ 52596000)) then
 (chkO (room (l15.length + 1) 8) (
 Qdd lb n awansegcar1 awansegnum2 awansegday3 awansegfro4 jh awansegdep6 awansegarr7 jm jp jq (yB && false) (l15 ++ [[CV.int .i64 13]])))
 else
 (Qdd lb n awansegcar1 awansegnum2 awansegday3 awansegfro4 jh awansegdep6 awansegarr7 jm jp jq yB l15))) := (Qaf _).trans (by kernel_rfl)
theorem QpC (lb n : Nat) (awansegcar1 : LB) (awansegnum2 awansegday3 : Int) (awansegfro4 jh : LB) (awansegdep6 awansegarr7 : Int) (jm : LB) (jp jq : Int) :
 top lb n Qbi [.agg [.str awansegcar1, .int .i64 awansegnum2, .int .i64 awansegday3, .str awansegfro4, .str jh, .int .i64 awansegdep6, .int .i64 awansegarr7, .str jm, .int .i64 jp, .int .i64 jq]] =
 optO (C lb n Qg9 [.str awansegcar1]) fun vt =>
 optO (CV.asB vt) fun wX =>
 bif (!wX) then
 (Qdj lb n awansegcar1 awansegnum2 awansegday3 awansegfro4 jh awansegdep6 awansegarr7 jm jp jq false [[CV.int .i64 5]])
 else
 (optO (C lb n Qfb [.str awansegfro4]) fun mb =>
 optO (CV.asB mb) fun mq =>
 bif (!mq) then
 (Qdj lb n awansegcar1 awansegnum2 awansegday3 awansegfro4 jh awansegdep6 awansegarr7 jm jp jq false [[CV.int .i64 5]])
 else
 (optO (C lb n Qfb [.str jh]) fun mS =>
 optO (CV.asB mS) fun mT =>
 bif (!mT) then
 (Qdj lb n awansegcar1 awansegnum2 awansegday3 awansegfro4 jh awansegdep6 awansegarr7 jm jp jq false [[CV.int .i64 5]])
 else
 (Qdj lb n awansegcar1 awansegnum2 awansegday3 awansegfro4 jh awansegdep6 awansegarr7 jm jp jq true []))) := by kernel_rfl
end Go.Proofs
