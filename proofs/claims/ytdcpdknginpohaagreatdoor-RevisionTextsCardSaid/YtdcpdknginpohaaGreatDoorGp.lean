/- Equations of functions, printed by program. Conditions: none. -/
import Derived.Test.YtdcpdknginpohaaGreatDoorEv
namespace Go.Proofs
open Go.Am
set_option maxRecDepth 100000
set_option linter.unusedVariables false
theorem Qns (lb n) (a1 : LB) :
 top lb n Qee [.str a1] =
 bif ((a1.length : Int) != 10) then
 (some (.tup [.int .i64 0, .int .i64 3]))
 else
 (optO (atS a1 4) fun c2 =>
 bif ((c2.toNat : Int) != 45) then
 (some (.tup [.int .i64 0, .int .i64 3]))
 else
 (optO (atS a1 7) fun c3 =>
 bif ((c3.toNat : Int) != 45) then
 (some (.tup [.int .i64 0, .int .i64 3]))
 else
 (chkO (decide ((0 : Int) ≤ 4 ∧ 4 ≤ (a1.length : Int))) (
 optO (C lb n QaU [.str ((a1.take 4).drop 0)]) fun r4 =>
 optO (CV.asT r4) fun t5 =>
 optO (t5[0]?) fun x6 =>
 optO (CV.asT r4) fun t7 =>
 optO (t7[1]?) fun x9 =>
 chkO (decide ((0 : Int) ≤ 7 ∧ 7 ≤ (a1.length : Int))) (
 optO (C lb n QaU [.str ((a1.take 7).drop 5)]) fun kO =>
 optO (CV.asT kO) fun vD =>
 optO (vD[0]?) fun jD =>
 optO (CV.asT kO) fun gM =>
 optO (gM[1]?) fun oq =>
 chkO (decide ((0 : Int) ≤ 8 ∧ 8 ≤ (a1.length : Int))) (
 optO (C lb n QaU [.str ((a1.take ((a1.length : Int).toNat)).drop 8)]) fun w5 =>
 optO (CV.asT w5) fun kw =>
 optO (kw[0]?) fun jO =>
 optO (CV.asT w5) fun yj =>
 optO (yj[1]?) fun jp =>
 optO (CV.asB x9) fun y8 =>
 bif (!y8) then
 (some (.tup [.int .i64 0, .int .i64 3]))
 else
 (optO (CV.asB oq) fun yF =>
 bif (!yF) then
 (some (.tup [.int .i64 0, .int .i64 3]))
 else
 (optO (CV.asB jp) fun kf =>
 bif (!kf) then
 (some (.tup [.int .i64 0, .int .i64 3]))
 else
 (optO (C lb n Qbl [x6, jD, jO]) fun j8 =>
 optO (CV.asT j8) fun kh =>
 optO (kh[0]?) fun jQ =>
 optO (CV.asT j8) fun vf =>
 optO (vf[1]?) fun jX =>
 some (.tup [jQ, jX])))))))))) := by kernel_rfl
noncomputable def calendar_digits_L1 :=
 fun lb n (w9 : Nat) a1 i5 i6 =>
 hold (QaB (E0 lb n 0 994) 0 (Qaj (sub (B QaU) [1, 1, 0, 1, 0, 0]) ++ [5]) [] (sub (B QaU) [1, 1, 0, 1, 0, 0]) (Qat 0 (seqK (E0 lb n 0 997) (sub (B QaU) [1, 1, 0]) (sub (B QaU) [1, 1, 1]) (retK Tryz.prog (R QaU) 0 (outK (Qad Tryz.prog QaU))))) w9 ⟨fr 31 [(0, vS a1), (2, vI 0), (3, vB false), (4, vI i5), (6, vS a1), (7, .val (.int .i64 (a1.length : Int))), (8, vI i6)], [bx 31 []], KK⟩)
noncomputable def QhI (lb n : Nat) (a1 : LB) (i15 : Int) : Option CV :=
 hold (E0 lb n 0 997 (sub (B QaU) [1, 1, 1]) (retK Tryz.prog (R QaU) 0 (outK (Qad Tryz.prog QaU))) ⟨fr 31 [(0, vS a1), (2, vI 0), (3, vB false), (4, vI i15)], [bx 31 []], KK⟩)
theorem Qkl (lb n : Nat) (a1 : LB) (i15 : Int) :
 QhI lb n a1 i15 =
 some (.tup [.int .i64 i15, .bool true]) := (Qab _).trans (by kernel_rfl)
theorem Qfs (lb n w9 : Nat) (a1 : LB) (i5 i6 : Int) :
 calendar_digits_L1 lb n (w9 + 1) a1 i5 i6 =
 bif (decide (i6 < (a1.length : Int))) then
 (optO (atS a1 i6) fun c12 =>
 bif (decide ((c12.toNat : Int) < 48)) then
 (some (.tup [.int .i64 0, .bool false]))
 else
 (optO (atS a1 i6) fun c13 =>
 bif (decide ((c13.toNat : Int) > 57)) then
 (some (.tup [.int .i64 0, .bool false]))
 else
 (optO (atS a1 i6) fun c14 =>
 calendar_digits_L1 lb n w9 a1 (IntKind.wrap .i64 ((IntKind.wrap .i64 (10 * i5)) + (IntKind.wrap .i64 (IntKind.wrap .u8 ((c14.toNat : Int) - 48))))) (IntKind.wrap .i64 (i6 + 1)))))
 else
 (QhI lb n a1 i5) := (Qab _).trans (by kernel_rfl)
theorem Qmo (lb n : Nat) (a1 : LB) :
 top lb n QaU [.str a1] =
 calendar_digits_L1 lb n n a1 0 0 := by kernel_rfl
noncomputable def QeM (lb n oo : Nat) (a1 b2 c3 : Int) (r6 : CV) (i7 jK jP : Int) : Option CV :=
 hold (QaB (E0 lb n 0 993) 0 (Qaj (sub (B Qbl) [1, 1, 1, 0, 1, 0, 0]) ++ [9]) [] (sub (B Qbl) [1, 1, 1, 0, 1, 0, 0]) (Qat 0 (seqK (E0 lb n 0 996) (sub (B Qbl) [1, 1, 1, 0]) (sub (B Qbl) [1, 1, 1, 1]) (retK Tryz.prog (R Qbl) 0 (outK (Qad Tryz.prog Qbl))))) oo ⟨fr 53 [(0, vI a1), (1, vI b2), (2, vI c3), (6, vI 0), (7, vI 0), (8, vI jK), (35, vI a1), (36, vV r6), (37, vI c3), (38, .val (.int .i64 (IntKind.wrap .i64 (i7 + c3)))), (39, .val (.int .i64 (IntKind.wrap .i64 ((IntKind.wrap .i64 (i7 + c3)) - 1)))), (40, vI b2), (41, .val (.int .i64 (IntKind.wrap .i64 (b2 - 1)))), (42, vI jP)], [bx 53 []], KK⟩)
noncomputable def Qj4 (lb n : Nat) (a1 b2 c3 : Int) (r6 : CV) (i7 jY : Int) : Option CV :=
 hold (E0 lb n 0 996 (sub (B Qbl) [1, 1, 1, 1]) (retK Tryz.prog (R Qbl) 0 (outK (Qad Tryz.prog Qbl))) ⟨fr 53 [(0, vI a1), (1, vI b2), (2, vI c3), (6, vI 0), (7, vI 0), (8, vI jY), (35, vI a1), (36, vV r6), (37, vI c3), (38, .val (.int .i64 (IntKind.wrap .i64 (i7 + c3)))), (39, .val (.int .i64 (IntKind.wrap .i64 ((IntKind.wrap .i64 (i7 + c3)) - 1))))], [bx 53 []], KK⟩)
theorem Qme (lb n : Nat) (a1 b2 c3 : Int) (r6 : CV) (i7 jY : Int) :
 Qj4 lb n a1 b2 c3 r6 i7 jY =
 some (.tup [.int .i64 jY, .int .i64 0]) := (Qab _).trans (by kernel_rfl)
theorem QgJ (lb n oo : Nat) (a1 b2 c3 : Int) (r6 : CV) (i7 jK jP : Int) :
 QeM lb n (oo + 1) a1 b2 c3 r6 i7 jK jP =
 bif (decide (jP < (IntKind.wrap .i64 (b2 - 1)))) then
 (optO (C lb n QbM [.int .i64 a1, .int .i64 (IntKind.wrap .i64 (jP + 1))]) fun wg =>
 optO (CV.asI .i64 wg) fun jv =>
 QeM lb n oo a1 b2 c3 r6 i7 (IntKind.wrap .i64 (jK + jv)) (IntKind.wrap .i64 (jP + 1)))
 else
 (Qj4 lb n a1 b2 c3 r6 i7 jK) := (Qab _).trans (by kernel_rfl)
theorem QpF (lb n : Nat) (a1 b2 c3 : Int) :
 top lb n Qbl [.int .i64 a1, .int .i64 b2, .int .i64 c3] =
 bif (decide (a1 < 2000)) then
 (some (.tup [.int .i64 0, .int .i64 12]))
 else
 (bif (decide (a1 > 2099)) then
 (some (.tup [.int .i64 0, .int .i64 12]))
 else
 (bif (decide (b2 < 1)) then
 (some (.tup [.int .i64 0, .int .i64 12]))
 else
 (bif (decide (b2 > 12)) then
 (some (.tup [.int .i64 0, .int .i64 12]))
 else
 (bif (decide (c3 < 1)) then
 (some (.tup [.int .i64 0, .int .i64 12]))
 else
 (optO (C lb n QbM [.int .i64 a1, .int .i64 b2]) fun r4 =>
 optO (CV.asI .i64 r4) fun i5 =>
 bif (decide (c3 > i5)) then
 (some (.tup [.int .i64 0, .int .i64 12]))
 else
 (optO (C lb n Qdw [.int .i64 a1]) fun r6 =>
 optO (CV.asI .i64 r6) fun i7 =>
 QeM lb n n a1 b2 c3 r6 i7 (IntKind.wrap .i64 ((IntKind.wrap .i64 (i7 + c3)) - 1)) 0)))))) := by kernel_rfl
theorem Qsc (lb n : Nat) (a1 : LB) :
 top lb n Qhg [.str a1] =
 bif ((a1.length : Int) != 10) then
 (some (.tup [.int .i64 0, .int .i64 3]))
 else
 (optO (atS a1 4) fun c2 =>
 bif ((c2.toNat : Int) != 45) then
 (some (.tup [.int .i64 0, .int .i64 3]))
 else
 (optO (atS a1 7) fun c3 =>
 bif ((c3.toNat : Int) != 45) then
 (some (.tup [.int .i64 0, .int .i64 3]))
 else
 (optO (C lb n Qbq [.str a1, .int .i64 0, .int .i64 4]) fun r4 =>
 optO (C lb n Qbq [.str a1, .int .i64 5, .int .i64 2]) fun r5 =>
 optO (C lb n Qbq [.str a1, .int .i64 8, .int .i64 2]) fun r6 =>
 optO (CV.asI .i64 r4) fun i7 =>
 bif (decide (i7 < 0)) then
 (some (.tup [.int .i64 0, .int .i64 3]))
 else
 (optO (CV.asI .i64 r5) fun i9 =>
 bif (decide (i9 < 0)) then
 (some (.tup [.int .i64 0, .int .i64 3]))
 else
 (optO (CV.asI .i64 r6) fun we =>
 bif (decide (we < 0)) then
 (some (.tup [.int .i64 0, .int .i64 3]))
 else
 (optO (C lb n Qau [r4, r5, r6]) fun jE =>
 optO (CV.asT jE) fun vn =>
 optO (vn[0]?) fun jB =>
 optO (CV.asT jE) fun gJ =>
 optO (gJ[1]?) fun wF =>
 some (.tup [jB, wF]))))))) := by kernel_rfl
noncomputable def QfR (lb n yY : Nat) (a1 : LB) (b2 c3 i7 i9 : Int) : Option CV :=
 hold (QaB (E0 lb n 0 994) 0 (Qaj (sub (B Qbq) [1, 1, 0, 1, 0, 0]) ++ []) [] (sub (B Qbq) [1, 1, 0, 1, 0, 0]) (Qat 0 (seqK (E0 lb n 0 997) (sub (B Qbq) [1, 1, 0]) (sub (B Qbq) [1, 1, 1]) (retK Tryz.prog (R Qbq) 0 (outK (Qad Tryz.prog Qbq))))) yY ⟨fr 36 [(0, vS a1), (1, vI b2), (2, vI c3), (6, vI 0), (7, vI i7), (8, vI i9), (9, vI b2)], [bx 36 []], KK⟩)
noncomputable def QlV (lb n : Nat) (a1 : LB) (b2 c3 jv jY : Int) : Option CV :=
 hold (E0 lb n 0 997 (sub (B Qbq) [1, 1, 1]) (retK Tryz.prog (R Qbq) 0 (outK (Qad Tryz.prog Qbq))) ⟨fr 36 [(0, vS a1), (1, vI b2), (2, vI c3), (6, vI 0), (7, vI jv), (8, vI jY)], [bx 36 []], KK⟩)
theorem QoB (lb n : Nat) (a1 : LB) (b2 c3 jv jY : Int) :
 QlV lb n a1 b2 c3 jv jY =
 some (.int .i64 jv) := (Qab _).trans (by kernel_rfl)
theorem QhA (lb n yY : Nat) (a1 : LB) (b2 c3 i7 i9 : Int) :
 QfR lb n (yY + 1) a1 b2 c3 i7 i9 =
 bif (decide (i9 < (IntKind.wrap .i64 (b2 + c3)))) then
 (optO (atS a1 i9) fun c14 =>
 bif (decide ((c14.toNat : Int) < 48)) then
 (some (.int .i64 (-1)))
 else
 (optO (atS a1 i9) fun c15 =>
 bif (decide ((c15.toNat : Int) > 57)) then
 (some (.int .i64 (-1)))
 else
 (optO (atS a1 i9) fun c17 =>
 QfR lb n yY a1 b2 c3 (IntKind.wrap .i64 ((IntKind.wrap .i64 (10 * i7)) + (IntKind.wrap .i64 (IntKind.wrap .u8 ((c17.toNat : Int) - 48))))) (IntKind.wrap .i64 (i9 + 1)))))
 else
 (QlV lb n a1 b2 c3 i7 i9) := (Qab _).trans (by kernel_rfl)
theorem Qrz (lb n : Nat) (a1 : LB) (b2 c3 : Int) :
 top lb n Qbq [.str a1, .int .i64 b2, .int .i64 c3] =
 QfR lb n n a1 b2 c3 0 b2 := by kernel_rfl
noncomputable def Qgp (lb n wv : Nat) (a1 b2 c3 i15 i17 : Int) : Option CV :=
 hold (QaB (E0 lb n 0 993) 0 (Qaj (sub (B Qau) [1, 1, 1, 0, 1, 0, 0]) ++ [10, 10]) [] (sub (B Qau) [1, 1, 1, 0, 1, 0, 0]) (Qat 0 (seqK (E0 lb n 0 996) (sub (B Qau) [1, 1, 1, 0]) (sub (B Qau) [1, 1, 1, 1]) (retK Tryz.prog (R Qau) 0 (outK (Qad Tryz.prog Qau))))) wv ⟨fr 64 [(0, vI a1), (1, vI b2), (2, vI c3), (6, vI 0), (7, vI 0), (8, vI i15), (9, vI i17), (37, vI c3), (38, .val (.int .i64 (IntKind.wrap .i64 (c3 - 1))))], [bx 64 []], KK⟩)
noncomputable def Qiz (lb n oJ wv : Nat) (a1 b2 c3 i17 wy wG : Int) : Option CV :=
 hold (QaB (E0 lb n 0 987) 0 (Qaj (sub (B Qau) [1, 1, 1, 0, 1, 0, 0, 1, 0, 0, 1, 0, 0]) ++ []) [] (sub (B Qau) [1, 1, 1, 0, 1, 0, 0, 1, 0, 0, 1, 0, 0]) (Qat 2 (Qat 1 (seqK (E0 lb n 0 991) (sub (B Qau) [1, 1, 1, 0, 1, 0, 0, 1, 0]) (sub (B Qau) [1, 1, 1, 0, 1, 0, 0, 1, 1]) (Qed 0 (Qaj (sub (B Qau) [1, 1, 1, 0, 1, 0, 0]) ++ [10, 10]) [] (QaB (E0 lb n 0 993) 0 (Qaj (sub (B Qau) [1, 1, 1, 0, 1, 0, 0]) ++ [10, 10]) [] (sub (B Qau) [1, 1, 1, 0, 1, 0, 0]) (Qat 0 (seqK (E0 lb n 0 996) (sub (B Qau) [1, 1, 1, 0]) (sub (B Qau) [1, 1, 1, 1]) (retK Tryz.prog (R Qau) 0 (outK (Qad Tryz.prog Qau))))) wv) (Qat 0 (seqK (E0 lb n 0 996) (sub (B Qau) [1, 1, 1, 0]) (sub (B Qau) [1, 1, 1, 1]) (retK Tryz.prog (R Qau) 0 (outK (Qad Tryz.prog Qau))))))))) oJ ⟨fr 64 [(0, vI a1), (1, vI b2), (2, vI c3), (6, vI 0), (7, vI 0), (8, vI wy), (9, vI i17), (10, vI wG), (37, vI c3), (38, .val (.int .i64 (IntKind.wrap .i64 (c3 - 1))))], [bx 64 []], KK⟩)
noncomputable def Qpr (lb n wv : Nat) (a1 b2 c3 i17 i37 yh : Int) : Option CV :=
 hold (E0 lb n 0 991 (sub (B Qau) [1, 1, 1, 0, 1, 0, 0, 1, 1]) (Qed 0 (Qaj (sub (B Qau) [1, 1, 1, 0, 1, 0, 0]) ++ [10, 10]) [] (QaB (E0 lb n 0 993) 0 (Qaj (sub (B Qau) [1, 1, 1, 0, 1, 0, 0]) ++ [10, 10]) [] (sub (B Qau) [1, 1, 1, 0, 1, 0, 0]) (Qat 0 (seqK (E0 lb n 0 996) (sub (B Qau) [1, 1, 1, 0]) (sub (B Qau) [1, 1, 1, 1]) (retK Tryz.prog (R Qau) 0 (outK (Qad Tryz.prog Qau))))) wv) (Qat 0 (seqK (E0 lb n 0 996) (sub (B Qau) [1, 1, 1, 0]) (sub (B Qau) [1, 1, 1, 1]) (retK Tryz.prog (R Qau) 0 (outK (Qad Tryz.prog Qau)))))) ⟨fr 64 [(0, vI a1), (1, vI b2), (2, vI c3), (6, vI 0), (7, vI 0), (8, vI i37), (9, vI i17), (10, vI yh), (37, vI c3), (38, .val (.int .i64 (IntKind.wrap .i64 (c3 - 1))))], [bx 64 []], KK⟩)
theorem QrR (lb n wv : Nat) (a1 b2 c3 i17 i37 yh : Int) :
 Qpr lb n wv a1 b2 c3 i17 i37 yh =
 Qgp lb n wv a1 b2 c3 i37 (IntKind.wrap .i64 (i17 + 1)) := (Qab _).trans (by kernel_rfl)
theorem Qjq (lb n oJ wv : Nat) (a1 b2 c3 i17 wy wG : Int) :
 Qiz lb n (oJ + 1) wv a1 b2 c3 i17 wy wG =
 bif (decide (wG ≤ 12)) then
 (optO (C lb n Qa9 [.int .i64 i17, .int .i64 wG]) fun k6 =>
 optO (CV.asI .i64 k6) fun wa =>
 Qiz lb n oJ wv a1 b2 c3 i17 (IntKind.wrap .i64 (wy + wa)) (IntKind.wrap .i64 (wG + 1)))
 else
 (Qpr lb n wv a1 b2 c3 i17 wy wG) := (Qab _).trans (by kernel_rfl)
noncomputable def QpM (lb n : Nat) (a1 b2 c3 j7 i40 : Int) : Option CV :=
 hold (E0 lb n 0 996 (sub (B Qau) [1, 1, 1, 1]) (retK Tryz.prog (R Qau) 0 (outK (Qad Tryz.prog Qau))) ⟨fr 64 [(0, vI a1), (1, vI b2), (2, vI c3), (6, vI 0), (7, vI 0), (8, vI j7), (9, vI i40), (37, vI c3), (38, .val (.int .i64 (IntKind.wrap .i64 (c3 - 1))))], [bx 64 []], KK⟩)
noncomputable def Qil (lb n oR : Nat) (a1 b2 c3 i40 kg vd : Int) : Option CV :=
 hold (QaB (E0 lb n 0 992) 0 (Qaj (sub (B Qau) [1, 1, 1, 1, 0, 1, 0, 0]) ++ []) [] (sub (B Qau) [1, 1, 1, 1, 0, 1, 0, 0]) (Qat 4 (seqK (E0 lb n 0 995) (sub (B Qau) [1, 1, 1, 1, 0]) (sub (B Qau) [1, 1, 1, 1, 1]) (retK Tryz.prog (R Qau) 0 (outK (Qad Tryz.prog Qau))))) oR ⟨fr 64 [(0, vI a1), (1, vI b2), (2, vI c3), (6, vI 0), (7, vI 0), (8, vI kg), (9, vI i40), (11, vI vd), (37, vI c3), (38, .val (.int .i64 (IntKind.wrap .i64 (c3 - 1))))], [bx 64 []], KK⟩)
noncomputable def Qo0 (lb n : Nat) (a1 b2 c3 i40 vX i51 : Int) : Option CV :=
 hold (E0 lb n 0 995 (sub (B Qau) [1, 1, 1, 1, 1]) (retK Tryz.prog (R Qau) 0 (outK (Qad Tryz.prog Qau))) ⟨fr 64 [(0, vI a1), (1, vI b2), (2, vI c3), (6, vI 0), (7, vI 0), (8, vI vX), (9, vI i40), (11, vI i51), (37, vI c3), (38, .val (.int .i64 (IntKind.wrap .i64 (c3 - 1))))], [bx 64 []], KK⟩)
theorem QrW (lb n : Nat) (a1 b2 c3 i40 vX i51 : Int) :
 Qo0 lb n a1 b2 c3 i40 vX i51 =
 some (.tup [.int .i64 vX, .int .i64 0]) := (Qab _).trans (by kernel_rfl)
theorem QjL (lb n oR : Nat) (a1 b2 c3 i40 kg vd : Int) :
 Qil lb n (oR + 1) a1 b2 c3 i40 kg vd =
 bif (decide (vd < b2)) then
 (optO (C lb n Qa9 [.int .i64 a1, .int .i64 vd]) fun pW =>
 optO (CV.asI .i64 pW) fun gg =>
 Qil lb n oR a1 b2 c3 i40 (IntKind.wrap .i64 (kg + gg)) (IntKind.wrap .i64 (vd + 1)))
 else
 (Qo0 lb n a1 b2 c3 i40 kg vd) := (Qab _).trans (by kernel_rfl)
theorem QrH (lb n : Nat) (a1 b2 c3 j7 i40 : Int) :
 QpM lb n a1 b2 c3 j7 i40 =
 Qil lb n n a1 b2 c3 i40 j7 1 := (Qab _).trans (by kernel_rfl)
theorem QjQ (lb n wv : Nat) (a1 b2 c3 i15 i17 : Int) :
 Qgp lb n (wv + 1) a1 b2 c3 i15 i17 =
 bif (decide (i17 < a1)) then
 (Qiz lb n n wv a1 b2 c3 i17 i15 1)
 else
 (QpM lb n a1 b2 c3 i15 i17) := (Qab _).trans (by kernel_rfl)
theorem QuZ (lb n : Nat) (a1 b2 c3 : Int) :
 top lb n Qau [.int .i64 a1, .int .i64 b2, .int .i64 c3] =
 bif (decide (a1 < 2000)) then
 (some (.tup [.int .i64 0, .int .i64 12]))
 else
 (bif (decide (a1 > 2099)) then
 (some (.tup [.int .i64 0, .int .i64 12]))
 else
 (bif (decide (b2 < 1)) then
 (some (.tup [.int .i64 0, .int .i64 12]))
 else
 (bif (decide (b2 > 12)) then
 (some (.tup [.int .i64 0, .int .i64 12]))
 else
 (bif (decide (c3 < 1)) then
 (some (.tup [.int .i64 0, .int .i64 12]))
 else
 (optO (C lb n Qa9 [.int .i64 a1, .int .i64 b2]) fun r4 =>
 optO (CV.asI .i64 r4) fun i5 =>
 bif (decide (c3 > i5)) then
 (some (.tup [.int .i64 0, .int .i64 12]))
 else
 (Qgp lb n n a1 b2 c3 (IntKind.wrap .i64 (c3 - 1)) 2000)))))) := by kernel_rfl
theorem Qo4 (lb n : Nat) (a1 : LB) :
 top lb n Qfc [.str a1] =
 optO (C lb n QeK [.str a1, .str [47]]) fun r2 =>
 optO (CV.asL r2) fun p3 =>
 bif ((p3.2.length : Int) != 3) then
 (some (.tup [.agg [.int .i64 0, .int .i64 0, .int .i64 0], .int .i64 3]))
 else
 (optO (CV.asL r2) fun p4 =>
 optO (atL p4.2 0) fun c5 =>
 chkO (c5.length == 1) (
 optO (c5[0]?) fun x6 =>
 optO (C lb n Qee [x6]) fun r7 =>
 optO (CV.asT r7) fun t9 =>
 optO (t9[0]?) fun jz =>
 optO (CV.asT r7) fun vD =>
 optO (vD[1]?) fun jD =>
 optO (CV.asI .i64 jD) fun wq =>
 bif (wq != 0) then
 (some (.tup [.agg [.int .i64 0, .int .i64 0, .int .i64 0], jD]))
 else
 (optO (CV.asL r2) fun ke =>
 optO (atL ke.2 1) fun c15 =>
 chkO (c15.length == 1) (
 optO (c15[0]?) fun jx =>
 optO (C lb n Qee [jx]) fun jo =>
 optO (CV.asT jo) fun yj =>
 optO (yj[0]?) fun jp =>
 optO (CV.asT jo) fun t21 =>
 optO (t21[1]?) fun js =>
 optO (CV.asI .i64 js) fun wm =>
 bif (wm != 0) then
 (some (.tup [.agg [.int .i64 0, .int .i64 0, .int .i64 0], js]))
 else
 (optO (CV.asL r2) fun gC =>
 optO (atL gC.2 2) fun c25 =>
 chkO (c25.length == 1) (
 optO (c25[0]?) fun jQ =>
 optO (C lb n QaZ [jQ]) fun yC =>
 optO (CV.asT yC) fun o5 =>
 optO (o5[0]?) fun k5 =>
 optO (CV.asT yC) fun ks =>
 optO (ks[1]?) fun jH =>
 optO (CV.asB jH) fun nw =>
 bif (!nw) then
 (some (.tup [.agg [.int .i64 0, .int .i64 0, .int .i64 0], .int .i64 3]))
 else
 (chkO (CV.isCell jz) (
 chkO (CV.isCell jp) (
 chkO (CV.isCell k5) (
 optO (C lb n Qdn [.agg [jz, jp, k5]]) fun gQ =>
 optO (CV.asI .i64 gQ) fun gu =>
 bif (gu != 0) then
 (some (.tup [.agg [.int .i64 0, .int .i64 0, .int .i64 0], gQ]))
 else
 (some (.tup [.agg [jz, jp, k5], .int .i64 0])))))))))))) := by kernel_rfl
noncomputable def QdI (lb n k7 : Nat) (a1 : LB) (i3 i4 i5 : Int) : Option CV :=
 hold (QaB (E0 lb n 0 994) 0 (Qaj (sub (B QaZ) [1, 1, 0, 1, 0, 0]) ++ [6, 7]) [] (sub (B QaZ) [1, 1, 0, 1, 0, 0]) (Qat 0 (seqK (E0 lb n 0 997) (sub (B QaZ) [1, 1, 0]) (sub (B QaZ) [1, 1, 1]) (retK Tryz.prog (R QaZ) 0 (outK (Qad Tryz.prog QaZ))))) k7 ⟨fr 34 [(0, vS a1), (2, vI 0), (3, vB false), (4, vI i3), (5, vI i4), (8, vS a1), (9, .val (.int .i64 (a1.length : Int))), (10, vI i5)], [bx 34 []], KK⟩)
noncomputable def QhG (lb n : Nat) (a1 : LB) (we jK : Int) : Option CV :=
 hold (E0 lb n 0 997 (sub (B QaZ) [1, 1, 1]) (retK Tryz.prog (R QaZ) 0 (outK (Qad Tryz.prog QaZ))) ⟨fr 34 [(0, vS a1), (2, vI 0), (3, vB false), (4, vI we), (5, vI jK)], [bx 34 []], KK⟩)
theorem Qkq (lb n : Nat) (a1 : LB) (we jK : Int) :
 QhG lb n a1 we jK =
 some (.tup [.int .i64 we, .bool (decide (we > 0))]) := (Qab _).trans (by kernel_rfl)
theorem Qfr (lb n k7 : Nat) (a1 : LB) (i3 i4 i5 : Int) :
 QdI lb n (k7 + 1) a1 i3 i4 i5 =
 bif (decide (i5 < (a1.length : Int))) then
 (optO (atS a1 i5) fun c9 =>
 bif (decide ((IntKind.wrap .i64 ((IntKind.wrap .i64 ((c9.toNat : Int))) - 49)) ≤ i4)) then
 (some (.tup [.int .i64 0, .bool false]))
 else
 (bif (decide ((IntKind.wrap .i64 ((IntKind.wrap .i64 ((c9.toNat : Int))) - 49)) > 6)) then
 (some (.tup [.int .i64 0, .bool false]))
 else
 (chkO (decide (0 ≤ (IntKind.wrap .i64 ((IntKind.wrap .i64 ((c9.toNat : Int))) - 49)))) (
 QdI lb n k7 a1 (IntKind.wrap .i64 ((BitVec.ofInt 64 i3 ||| BitVec.ofInt 64 (IntKind.wrap .i64 (1 * 2 ^ (min ((IntKind.wrap .i64 ((IntKind.wrap .i64 ((c9.toNat : Int))) - 49))).toNat 64)))).toNat)) (IntKind.wrap .i64 ((IntKind.wrap .i64 ((c9.toNat : Int))) - 49)) (IntKind.wrap .i64 (i5 + 1))))))
 else
 (QhG lb n a1 i3 i4) := (Qab _).trans (by kernel_rfl)
theorem QmN (lb n : Nat) (a1 : LB) :
 top lb n QaZ [.str a1] =
 QdI lb n n a1 0 (-1) 0 := by kernel_rfl
noncomputable def QdF (lb n kP : Nat) (jt jA ju : Int) (s9 : LB) (we : Int) : Option CV :=
 hold (QaB (E0 lb n 0 993) 0 (Qaj (sub (B QaV) [1, 1, 1, 0, 1, 0, 0]) ++ [4]) [] (sub (B QaV) [1, 1, 1, 0, 1, 0, 0]) (Qat 0 (seqK (E0 lb n 0 996) (sub (B QaV) [1, 1, 1, 0]) (sub (B QaV) [1, 1, 1, 1]) (retK Tryz.prog (R QaV) 0 (outK (Qad Tryz.prog QaV))))) kP ⟨fr 34 [(0, .val (.agg [.int .i64 jt, .int .i64 jA, .int .i64 ju])), (1, .ptr 0 1 0), (2, .val (.str [])), (3, vS s9), (8, vI we)], [bx 34 [(1, some [vI jt, vI jA, vI ju])]], KK⟩)
noncomputable def Qgn (lb n : Nat) (jt jA ju : Int) (s14 : LB) : Option CV :=
 hold (E0 lb n 0 996 (sub (B QaV) [1, 1, 1, 1]) (retK Tryz.prog (R QaV) 0 (outK (Qad Tryz.prog QaV))) ⟨fr 34 [(0, .val (.agg [.int .i64 jt, .int .i64 jA, .int .i64 ju])), (1, .ptr 0 1 0), (2, .val (.str [])), (3, vS s14)], [bx 34 [(1, some [vI jt, vI jA, vI ju])]], KK⟩)
theorem QmB (lb n : Nat) (jt jA ju : Int) (s14 : LB) :
 Qgn lb n jt jA ju s14 =
 optO (C lb n Qd9 [.int .i64 jt]) fun w5 =>
 optO (CV.asS w5) fun s17 =>
 chkO (decide (s17.length + [47].length ≤ 9223372036854775807)) (
 optO (C lb n Qd9 [.int .i64 jA]) fun jo =>
 optO (CV.asS jo) fun s19 =>
 chkO (decide ((s17 ++ [47]).length + s19.length ≤ 9223372036854775807)) (
 chkO (decide (((s17 ++ [47]) ++ s19).length + [47].length ≤ 9223372036854775807)) (
 chkO (decide ((((s17 ++ [47]) ++ s19) ++ [47]).length + s14.length ≤ 9223372036854775807)) (
 some (.str ((((s17 ++ [47]) ++ s19) ++ [47]) ++ s14)))))) := (Qab _).trans (by kernel_rfl)
theorem QgD (lb n kP : Nat) (jt jA ju : Int) (s9 : LB) (we : Int) :
 QdF lb n (kP + 1) jt jA ju s9 we =
 bif (decide (we < 7)) then
 (chkO (decide (0 ≤ we)) (
 bif ((IntKind.wrap .i64 ((BitVec.ofInt 64 (Int.fdiv ju (2 ^ (min (we).toNat 64))) &&& BitVec.ofInt 64 1).toNat)) == 1) then
 (optO (atS [49, 50, 51, 52, 53, 54, 55] we) fun c13 =>
 chkO (decide (s9.length + ((Utf8.encode (c13.toNat : Int)).data.toList).length ≤ 9223372036854775807)) (
 QdF lb n kP jt jA ju (s9 ++ ((Utf8.encode (c13.toNat : Int)).data.toList)) (IntKind.wrap .i64 (we + 1))))
 else
 (QdF lb n kP jt jA ju s9 (IntKind.wrap .i64 (we + 1)))))
 else
 (Qgn lb n jt jA ju s9) := (Qab _).trans (by kernel_rfl)
theorem QpT (lb n : Nat) (jt jA ju : Int) :
 top lb n QaV [.agg [.int .i64 jt, .int .i64 jA, .int .i64 ju]] =
 optO (C lb n Qdn [.agg [.int .i64 jt, .int .i64 jA, .int .i64 ju]]) fun r4 =>
 optO (CV.asI .i64 r4) fun i5 =>
 bif (i5 != 0) then
 (some (.str []))
 else
 (QdF lb n n jt jA ju [] 0) := by kernel_rfl
noncomputable def QeZ (lb n wB : Nat) (a1 : LB) (r2 jz jD jp js r7 : CV) (c5 : List CV) (x6 jo : CV) (c15 : List CV) (jx : CV) (wa i37 yh j7 i40 : Int) : Option CV :=
 hold (QaB (E0 lb n 0 986) 0 (Qaj (sub (B Qah) [1, 1, 1, 1, 1, 1, 1, 1, 1, 1, 0, 1, 0, 0]) ++ [14]) [] (sub (B Qah) [1, 1, 1, 1, 1, 1, 1, 1, 1, 1, 0, 1, 0, 0]) (Qat 0 (seqK (E0 lb n 0 989) (sub (B Qah) [1, 1, 1, 1, 1, 1, 1, 1, 1, 1, 0]) (sub (B Qah) [1, 1, 1, 1, 1, 1, 1, 1, 1, 1, 1]) (retK Tryz.prog (R Qah) 0 (outK (Qad Tryz.prog Qah))))) wB ⟨fr 92 [(0, vS a1), (2, .ptr 0 2 0), (3, vI 0), (4, vV r2), (5, vV jz), (6, vV jD), (7, vV jp), (8, vV js), (9, .ptr 0 9 0), (10, vI wa), (11, vI i37), (12, vI yh), (13, vI j7), (15, vS a1), (16, vV r2), (21, vV r7), (22, vV r2), (23, .cptr c5 0), (24, vV x6), (25, vV r7), (26, vV jz), (27, vV jD), (32, vV jo), (33, vV r2), (34, .cptr c15 0), (35, vV jx), (36, vV jo), (37, vV jp), (38, vV js), (43, vV jz), (44, vV jp), (45, .val (.agg [jz, jp, .int .i64 0]))], [bx 92 [(2, some [vI 0, vI 0, vI 0]), (9, some [.val jz, .val jp, vI i40])]], KK⟩)
noncomputable def Qgs (lb n oL wB : Nat) (a1 : LB) (r2 jz jD jp js : CV) (wa j7 : Int) (c59 : UInt8) (r7 : CV) (c5 : List CV) (x6 jo : CV) (c15 : List CV) (jx : CV) (c56 : List CV) (jV : CV) (i40 i60 va : Int) : Option CV :=
 hold (QaB (E0 lb n 0 978) 0 (Qaj (sub (B Qah) [1, 1, 1, 1, 1, 1, 1, 1, 1, 1, 0, 1, 0, 0, 1, 0, 0, 1, 1, 0, 0, 0]) ++ []) [] (sub (B Qah) [1, 1, 1, 1, 1, 1, 1, 1, 1, 1, 0, 1, 0, 0, 1, 0, 0, 1, 1, 0, 0, 0]) (Qat 2 (seqK (E0 lb n 0 980) (sub (B Qah) [1, 1, 1, 1, 1, 1, 1, 1, 1, 1, 0, 1, 0, 0, 1, 0, 0, 1, 1, 0]) (sub (B Qah) [1, 1, 1, 1, 1, 1, 1, 1, 1, 1, 0, 1, 0, 0, 1, 0, 0, 1, 1, 1]) (Qat 1 (seqK (E0 lb n 0 984) (sub (B Qah) [1, 1, 1, 1, 1, 1, 1, 1, 1, 1, 0, 1, 0, 0, 1, 0]) (sub (B Qah) [1, 1, 1, 1, 1, 1, 1, 1, 1, 1, 0, 1, 0, 0, 1, 1]) (Qed 0 (Qaj (sub (B Qah) [1, 1, 1, 1, 1, 1, 1, 1, 1, 1, 0, 1, 0, 0]) ++ [14]) [] (QaB (E0 lb n 0 986) 0 (Qaj (sub (B Qah) [1, 1, 1, 1, 1, 1, 1, 1, 1, 1, 0, 1, 0, 0]) ++ [14]) [] (sub (B Qah) [1, 1, 1, 1, 1, 1, 1, 1, 1, 1, 0, 1, 0, 0]) (Qat 0 (seqK (E0 lb n 0 989) (sub (B Qah) [1, 1, 1, 1, 1, 1, 1, 1, 1, 1, 0]) (sub (B Qah) [1, 1, 1, 1, 1, 1, 1, 1, 1, 1, 1]) (retK Tryz.prog (R Qah) 0 (outK (Qad Tryz.prog Qah))))) wB) (Qat 0 (seqK (E0 lb n 0 989) (sub (B Qah) [1, 1, 1, 1, 1, 1, 1, 1, 1, 1, 0]) (sub (B Qah) [1, 1, 1, 1, 1, 1, 1, 1, 1, 1, 1]) (retK Tryz.prog (R Qah) 0 (outK (Qad Tryz.prog Qah)))))))))) oL ⟨fr 92 [(0, vS a1), (2, .ptr 0 2 0), (3, vI 0), (4, vV r2), (5, vV jz), (6, vV jD), (7, vV jp), (8, vV js), (9, .ptr 0 9 0), (10, vI wa), (11, vI i60), (12, vI va), (13, vI j7), (14, .val (.int .i64 (IntKind.wrap .i64 ((IntKind.wrap .i64 ((c59.toNat : Int))) - 48)))), (15, vS a1), (16, vV r2), (21, vV r7), (22, vV r2), (23, .cptr c5 0), (24, vV x6), (25, vV r7), (26, vV jz), (27, vV jD), (32, vV jo), (33, vV r2), (34, .cptr c15 0), (35, vV jx), (36, vV jo), (37, vV jp), (38, vV js), (43, vV jz), (44, vV jp), (45, .val (.agg [jz, jp, .int .i64 0])), (54, vV r2), (55, .cptr c56 0), (56, vV jV), (57, vI j7), (58, .val (.int .u8 (c59.toNat : Int))), (59, .val (.int .i64 (IntKind.wrap .i64 ((c59.toNat : Int))))), (60, .val (.int .i64 (IntKind.wrap .i64 ((IntKind.wrap .i64 ((c59.toNat : Int))) - 48))))], [bx 92 [(2, some [vI 0, vI 0, vI 0]), (9, some [.val jz, .val jp, vI i40])]], KK⟩)
noncomputable def Qm1 (lb n wB : Nat) (a1 : LB) (r2 jz jD jp js : CV) (wa j7 : Int) (c59 : UInt8) (r7 : CV) (c5 : List CV) (x6 jo : CV) (c15 : List CV) (jx : CV) (c56 : List CV) (jV : CV) (i40 kX oU : Int) : Option CV :=
 hold (E0 lb n 0 980 (sub (B Qah) [1, 1, 1, 1, 1, 1, 1, 1, 1, 1, 0, 1, 0, 0, 1, 0, 0, 1, 1, 1]) (Qat 1 (seqK (E0 lb n 0 984) (sub (B Qah) [1, 1, 1, 1, 1, 1, 1, 1, 1, 1, 0, 1, 0, 0, 1, 0]) (sub (B Qah) [1, 1, 1, 1, 1, 1, 1, 1, 1, 1, 0, 1, 0, 0, 1, 1]) (Qed 0 (Qaj (sub (B Qah) [1, 1, 1, 1, 1, 1, 1, 1, 1, 1, 0, 1, 0, 0]) ++ [14]) [] (QaB (E0 lb n 0 986) 0 (Qaj (sub (B Qah) [1, 1, 1, 1, 1, 1, 1, 1, 1, 1, 0, 1, 0, 0]) ++ [14]) [] (sub (B Qah) [1, 1, 1, 1, 1, 1, 1, 1, 1, 1, 0, 1, 0, 0]) (Qat 0 (seqK (E0 lb n 0 989) (sub (B Qah) [1, 1, 1, 1, 1, 1, 1, 1, 1, 1, 0]) (sub (B Qah) [1, 1, 1, 1, 1, 1, 1, 1, 1, 1, 1]) (retK Tryz.prog (R Qah) 0 (outK (Qad Tryz.prog Qah))))) wB) (Qat 0 (seqK (E0 lb n 0 989) (sub (B Qah) [1, 1, 1, 1, 1, 1, 1, 1, 1, 1, 0]) (sub (B Qah) [1, 1, 1, 1, 1, 1, 1, 1, 1, 1, 1]) (retK Tryz.prog (R Qah) 0 (outK (Qad Tryz.prog Qah)))))))) ⟨fr 92 [(0, vS a1), (2, .ptr 0 2 0), (3, vI 0), (4, vV r2), (5, vV jz), (6, vV jD), (7, vV jp), (8, vV js), (9, .ptr 0 9 0), (10, vI wa), (11, vI kX), (12, vI oU), (13, vI j7), (14, .val (.int .i64 (IntKind.wrap .i64 ((IntKind.wrap .i64 ((c59.toNat : Int))) - 48)))), (15, vS a1), (16, vV r2), (21, vV r7), (22, vV r2), (23, .cptr c5 0), (24, vV x6), (25, vV r7), (26, vV jz), (27, vV jD), (32, vV jo), (33, vV r2), (34, .cptr c15 0), (35, vV jx), (36, vV jo), (37, vV jp), (38, vV js), (43, vV jz), (44, vV jp), (45, .val (.agg [jz, jp, .int .i64 0])), (54, vV r2), (55, .cptr c56 0), (56, vV jV), (57, vI j7), (58, .val (.int .u8 (c59.toNat : Int))), (59, .val (.int .i64 (IntKind.wrap .i64 ((c59.toNat : Int))))), (60, .val (.int .i64 (IntKind.wrap .i64 ((IntKind.wrap .i64 ((c59.toNat : Int))) - 48))))], [bx 92 [(2, some [vI 0, vI 0, vI 0]), (9, some [.val jz, .val jp, vI i40])]], KK⟩)
noncomputable def QmU (lb n wB : Nat) (a1 : LB) (r2 jz jD jp js : CV) (j7 : Int) (r7 : CV) (c5 : List CV) (x6 jo : CV) (c15 : List CV) (jx : CV) (yI wK i68 gE oB : Int) : Option CV :=
 hold (E0 lb n 0 984 (sub (B Qah) [1, 1, 1, 1, 1, 1, 1, 1, 1, 1, 0, 1, 0, 0, 1, 1]) (Qed 0 (Qaj (sub (B Qah) [1, 1, 1, 1, 1, 1, 1, 1, 1, 1, 0, 1, 0, 0]) ++ [14]) [] (QaB (E0 lb n 0 986) 0 (Qaj (sub (B Qah) [1, 1, 1, 1, 1, 1, 1, 1, 1, 1, 0, 1, 0, 0]) ++ [14]) [] (sub (B Qah) [1, 1, 1, 1, 1, 1, 1, 1, 1, 1, 0, 1, 0, 0]) (Qat 0 (seqK (E0 lb n 0 989) (sub (B Qah) [1, 1, 1, 1, 1, 1, 1, 1, 1, 1, 0]) (sub (B Qah) [1, 1, 1, 1, 1, 1, 1, 1, 1, 1, 1]) (retK Tryz.prog (R Qah) 0 (outK (Qad Tryz.prog Qah))))) wB) (Qat 0 (seqK (E0 lb n 0 989) (sub (B Qah) [1, 1, 1, 1, 1, 1, 1, 1, 1, 1, 0]) (sub (B Qah) [1, 1, 1, 1, 1, 1, 1, 1, 1, 1, 1]) (retK Tryz.prog (R Qah) 0 (outK (Qad Tryz.prog Qah)))))) ⟨fr 92 [(0, vS a1), (2, .ptr 0 2 0), (3, vI 0), (4, vV r2), (5, vV jz), (6, vV jD), (7, vV jp), (8, vV js), (9, .ptr 0 9 0), (10, vI yI), (11, vI wK), (12, vI i68), (13, vI j7), (14, vI gE), (15, vS a1), (16, vV r2), (21, vV r7), (22, vV r2), (23, .cptr c5 0), (24, vV x6), (25, vV r7), (26, vV jz), (27, vV jD), (32, vV jo), (33, vV r2), (34, .cptr c15 0), (35, vV jx), (36, vV jo), (37, vV jp), (38, vV js), (43, vV jz), (44, vV jp), (45, .val (.agg [jz, jp, .int .i64 0]))], [bx 92 [(2, some [vI 0, vI 0, vI 0]), (9, some [.val jz, .val jp, vI oB])]], KK⟩)
theorem QpH (lb n wB : Nat) (a1 : LB) (r2 jz jD jp js : CV) (j7 : Int) (r7 : CV) (c5 : List CV) (x6 jo : CV) (c15 : List CV) (jx : CV) (yI wK i68 gE oB : Int) :
 QmU lb n wB a1 r2 jz jD jp js j7 r7 c5 x6 jo c15 jx yI wK i68 gE oB =
 QeZ lb n wB a1 r2 jz jD jp js r7 c5 x6 jo c15 jx yI wK i68 (IntKind.wrap .i64 (j7 + 1)) oB := (Qab _).trans (by kernel_rfl)
theorem Qpq (lb n wB : Nat) (a1 : LB) (r2 jz jD jp js : CV) (wa j7 : Int) (c59 : UInt8) (r7 : CV) (c5 : List CV) (x6 jo : CV) (c15 : List CV) (jx : CV) (c56 : List CV) (jV : CV) (i40 kX oU : Int) :
 Qm1 lb n wB a1 r2 jz jD jp js wa j7 c59 r7 c5 x6 jo c15 jx c56 jV i40 kX oU =
 QmU lb n wB a1 r2 jz jD jp js j7 r7 c5 x6 jo c15 jx (IntKind.wrap .i64 ((IntKind.wrap .i64 ((c59.toNat : Int))) - 48)) kX oU (IntKind.wrap .i64 ((IntKind.wrap .i64 ((c59.toNat : Int))) - 48)) (IntKind.wrap .i64 (i40 + kX)) := (Qab _).trans (by kernel_rfl)
theorem Qie (lb n oL wB : Nat) (a1 : LB) (r2 jz jD jp js : CV) (wa j7 : Int) (c59 : UInt8) (r7 : CV) (c5 : List CV) (x6 jo : CV) (c15 : List CV) (jx : CV) (c56 : List CV) (jV : CV) (i40 i60 va : Int) :
 Qgs lb n (oL + 1) wB a1 r2 jz jD jp js wa j7 c59 r7 c5 x6 jo c15 jx c56 jV i40 i60 va =
 bif (decide (va < (IntKind.wrap .i64 ((IntKind.wrap .i64 ((c59.toNat : Int))) - 48)))) then
 (Qgs lb n oL wB a1 r2 jz jD jp js wa j7 c59 r7 c5 x6 jo c15 jx c56 jV i40 (IntKind.wrap .i64 (2 * i60)) (IntKind.wrap .i64 (va + 1)))
 else
 (Qm1 lb n wB a1 r2 jz jD jp js wa j7 c59 r7 c5 x6 jo c15 jx c56 jV i40 i60 va) := (Qab _).trans (by kernel_rfl)
noncomputable def Qmx (lb n : Nat) (a1 : LB) (r2 jz jD jp js r7 : CV) (c5 : List CV) (x6 jo : CV) (c15 : List CV) (jx : CV) (vH kk kB kI i75 : Int) : Option CV :=
 hold (E0 lb n 0 989 (sub (B Qah) [1, 1, 1, 1, 1, 1, 1, 1, 1, 1, 1]) (retK Tryz.prog (R Qah) 0 (outK (Qad Tryz.prog Qah))) ⟨fr 92 [(0, vS a1), (2, .ptr 0 2 0), (3, vI 0), (4, vV r2), (5, vV jz), (6, vV jD), (7, vV jp), (8, vV js), (9, .ptr 0 9 0), (10, vI vH), (11, vI kk), (12, vI kB), (13, vI kI), (15, vS a1), (16, vV r2), (21, vV r7), (22, vV r2), (23, .cptr c5 0), (24, vV x6), (25, vV r7), (26, vV jz), (27, vV jD), (32, vV jo), (33, vV r2), (34, .cptr c15 0), (35, vV jx), (36, vV jo), (37, vV jp), (38, vV js), (43, vV jz), (44, vV jp), (45, .val (.agg [jz, jp, .int .i64 0]))], [bx 92 [(2, some [vI 0, vI 0, vI 0]), (9, some [.val jz, .val jp, vI i75])]], KK⟩)
theorem QpL (lb n : Nat) (a1 : LB) (r2 jz jD jp js r7 : CV) (c5 : List CV) (x6 jo : CV) (c15 : List CV) (jx : CV) (vH kk kB kI i75 : Int) :
 Qmx lb n a1 r2 jz jD jp js r7 c5 x6 jo c15 jx vH kk kB kI i75 =
 bif (vH == 0) then
 (some (.tup [.agg [.int .i64 0, .int .i64 0, .int .i64 0], .int .i64 3]))
 else
 (optO (C lb n Qcf [.agg [jz, jp, .int .i64 i75]]) fun o0 =>
 optO (CV.asI .i64 o0) fun yN =>
 bif (yN != 0) then
 (optO (C lb n Qcf [.agg [jz, jp, .int .i64 i75]]) fun oX =>
 some (.tup [.agg [.int .i64 0, .int .i64 0, .int .i64 0], oX]))
 else
 (some (.tup [.agg [jz, jp, .int .i64 i75], .int .i64 0]))) := (Qab _).trans (by kernel_rfl)
theorem Qia (lb n wB : Nat) (a1 : LB) (r2 jz jD jp js r7 : CV) (c5 : List CV) (x6 jo : CV) (c15 : List CV) (jx : CV) (wa i37 yh j7 i40 : Int) :
 QeZ lb n (wB + 1) a1 r2 jz jD jp js r7 c5 x6 jo c15 jx wa i37 yh j7 i40 =
 optO (CV.asL r2) fun pj =>
 optO (atL pj.2 2) fun c52 =>
 chkO (c52.length == 1) (
 optO (c52[0]?) fun wz =>
 optO (CV.asS wz) fun s54 =>
 bif (decide (j7 < (s54.length : Int))) then
 (optO (CV.asL r2) fun n5 =>
 optO (atL n5.2 2) fun c56 =>
 chkO (c56.length == 1) (
 optO (c56[0]?) fun jV =>
 optO (CV.asS jV) fun nU =>
 optO (atS nU j7) fun c59 =>
 bif (decide ((IntKind.wrap .i64 ((IntKind.wrap .i64 ((c59.toNat : Int))) - 48)) ≤ wa)) then
 (some (.tup [.agg [.int .i64 0, .int .i64 0, .int .i64 0], .int .i64 3]))
 else
 (bif (decide ((IntKind.wrap .i64 ((IntKind.wrap .i64 ((c59.toNat : Int))) - 48)) > 7)) then
 (some (.tup [.agg [.int .i64 0, .int .i64 0, .int .i64 0], .int .i64 3]))
 else
 (Qgs lb n n wB a1 r2 jz jD jp js wa j7 c59 r7 c5 x6 jo c15 jx c56 jV i40 i37 yh))))
 else
 (Qmx lb n a1 r2 jz jD jp js r7 c5 x6 jo c15 jx wa i37 yh j7 i40)) := (Qab _).trans (by kernel_rfl)
theorem Qs8 (lb n : Nat) (a1 : LB) :
 top lb n Qah [.str a1] =
 optO (C lb n QcM [.str a1, .int .u8 47]) fun r2 =>
 optO (CV.asL r2) fun p3 =>
 bif ((p3.2.length : Int) != 3) then
 (some (.tup [.agg [.int .i64 0, .int .i64 0, .int .i64 0], .int .i64 3]))
 else
 (optO (CV.asL r2) fun p4 =>
 optO (atL p4.2 0) fun c5 =>
 chkO (c5.length == 1) (
 optO (c5[0]?) fun x6 =>
 optO (C lb n Qhg [x6]) fun r7 =>
 optO (CV.asT r7) fun t9 =>
 optO (t9[0]?) fun jz =>
 optO (CV.asT r7) fun vD =>
 optO (vD[1]?) fun jD =>
 optO (CV.asI .i64 jD) fun wq =>
 bif (wq != 0) then
 (some (.tup [.agg [.int .i64 0, .int .i64 0, .int .i64 0], jD]))
 else
 (optO (CV.asL r2) fun ke =>
 optO (atL ke.2 1) fun c15 =>
 chkO (c15.length == 1) (
 optO (c15[0]?) fun jx =>
 optO (C lb n Qhg [jx]) fun jo =>
 optO (CV.asT jo) fun yj =>
 optO (yj[0]?) fun jp =>
 optO (CV.asT jo) fun t21 =>
 optO (t21[1]?) fun js =>
 optO (CV.asI .i64 js) fun wm =>
 bif (wm != 0) then
 (some (.tup [.agg [.int .i64 0, .int .i64 0, .int .i64 0], js]))
 else
 (chkO (CV.isCell jz) (
 chkO (CV.isCell jp) (
 QeZ lb n n a1 r2 jz jD jp js r7 c5 x6 jo c15 jx 0 1 1 0 0))))))) := by kernel_rfl
noncomputable def Qfi (lb n wo : Nat) (a1 : LB) (b2 : Int) (j9 : Bool) (l14 : LL) (i15 i17 : Int) : Option CV :=
 hold (QaB (E0 lb n 0 993) 0 (Qaj (sub (B QcM) [1, 1, 1, 0, 1, 0, 0]) ++ []) [] (sub (B QcM) [1, 1, 1, 0, 1, 0, 0]) (Qat 0 (seqK (E0 lb n 0 996) (sub (B QcM) [1, 1, 1, 0]) (sub (B QcM) [1, 1, 1, 1]) (retK Tryz.prog (R QcM) 0 (outK (Qad Tryz.prog QcM))))) wo ⟨fr 35 [(0, vS a1), (1, .val (.int .u8 b2)), (4, .lst true true 9 []), (5, .lst true j9 9 l14), (6, vI i15), (7, vI i17)], [bx 35 []], KK⟩)
noncomputable def QoP (lb n : Nat) (a1 : LB) (b2 : Int) (y8 : Bool) (l22 : LL) (wm i24 : Int) : Option CV :=
 hold (E0 lb n 0 996 (sub (B QcM) [1, 1, 1, 1]) (retK Tryz.prog (R QcM) 0 (outK (Qad Tryz.prog QcM))) ⟨fr 35 [(0, vS a1), (1, .val (.int .u8 b2)), (4, .lst true true 9 []), (5, .lst true y8 9 l22), (6, vI wm), (7, vI i24)], [bx 35 []], KK⟩)
theorem QrV (lb n : Nat) (a1 : LB) (b2 : Int) (y8 : Bool) (l22 : LL) (wm i24 : Int) :
 QoP lb n a1 b2 y8 l22 wm i24 =
 some (.list y8 l22) := (Qab _).trans (by kernel_rfl)
theorem Qgk (lb n wo : Nat) (a1 : LB) (b2 : Int) (j9 : Bool) (l14 : LL) (i15 i17 : Int) :
 Qfi lb n (wo + 1) a1 b2 j9 l14 i15 i17 =
 bif (decide (i17 ≤ (a1.length : Int))) then
 (bif (i17 == (a1.length : Int)) then
 (chkO (decide ((0 : Int) ≤ i17 ∧ i17 ≤ (a1.length : Int))) (
 chkO (decide ((0 : Int) ≤ i15 ∧ i15 ≤ i17)) (
 chkO (room (l14.length + 1) 16) (
 Qfi lb n wo a1 b2 (j9 && false) (l14 ++ [[CV.str ((a1.take i17.toNat).drop i15.toNat)]]) (IntKind.wrap .i64 (i17 + 1)) (IntKind.wrap .i64 (i17 + 1))))))
 else
 (optO (atS a1 i17) fun c20 =>
 bif ((c20.toNat : Int) == b2) then
 (chkO (decide ((0 : Int) ≤ i17 ∧ i17 ≤ (a1.length : Int))) (
 chkO (decide ((0 : Int) ≤ i15 ∧ i15 ≤ i17)) (
 chkO (room (l14.length + 1) 16) (
 Qfi lb n wo a1 b2 (j9 && false) (l14 ++ [[CV.str ((a1.take i17.toNat).drop i15.toNat)]]) (IntKind.wrap .i64 (i17 + 1)) (IntKind.wrap .i64 (i17 + 1))))))
 else
 (Qfi lb n wo a1 b2 j9 l14 i15 (IntKind.wrap .i64 (i17 + 1)))))
 else
 (QoP lb n a1 b2 j9 l14 i15 i17) := (Qab _).trans (by kernel_rfl)
theorem Qve (lb n : Nat) (a1 : LB) (b2 : Int) :
 top lb n QcM [.str a1, .int .u8 b2] =
 Qfi lb n n a1 b2 true [] 0 0 := by kernel_rfl
noncomputable def Qfb (lb n kV : Nat) (jt jA ju : Int) (r6 : CV) (s7 : LB) (r9 : CV) (s10 s17 : LB) (jv jY : Int) : Option CV :=
 hold (QaB (E0 lb n 0 992) 0 (Qaj (sub (B QbD) [1, 1, 1, 1, 0, 1, 0, 0]) ++ []) [] (sub (B QbD) [1, 1, 1, 1, 0, 1, 0, 0]) (Qat 0 (seqK (E0 lb n 0 995) (sub (B QbD) [1, 1, 1, 1, 0]) (sub (B QbD) [1, 1, 1, 1, 1]) (retK Tryz.prog (R QbD) 0 (outK (Qad Tryz.prog QbD))))) kV ⟨fr 34 [(0, .val (.agg [.int .i64 jt, .int .i64 jA, .int .i64 ju])), (1, .ptr 0 1 0), (2, .val (.str [])), (3, vS s17), (4, vI jv), (5, vI jY), (9, .ptr 0 1 0), (10, vI jt), (11, vV r6), (12, .val (.str (s7 ++ [47]))), (13, .ptr 0 1 1), (14, vI jA), (15, vV r9), (16, .val (.str ((s7 ++ [47]) ++ s10))), (17, .val (.str (((s7 ++ [47]) ++ s10) ++ [47]))), (18, .ptr 0 1 2), (19, vI ju)], [bx 34 [(1, some [vI jt, vI jA, vI ju])]], KK⟩)
noncomputable def Ql7 (lb n : Nat) (jt jA ju : Int) (r6 : CV) (s7 : LB) (r9 : CV) (s10 oQ : LB) (wT yR : Int) : Option CV :=
 hold (E0 lb n 0 995 (sub (B QbD) [1, 1, 1, 1, 1]) (retK Tryz.prog (R QbD) 0 (outK (Qad Tryz.prog QbD))) ⟨fr 34 [(0, .val (.agg [.int .i64 jt, .int .i64 jA, .int .i64 ju])), (1, .ptr 0 1 0), (2, .val (.str [])), (3, vS oQ), (4, vI wT), (5, vI yR), (9, .ptr 0 1 0), (10, vI jt), (11, vV r6), (12, .val (.str (s7 ++ [47]))), (13, .ptr 0 1 1), (14, vI jA), (15, vV r9), (16, .val (.str ((s7 ++ [47]) ++ s10))), (17, .val (.str (((s7 ++ [47]) ++ s10) ++ [47]))), (18, .ptr 0 1 2), (19, vI ju)], [bx 34 [(1, some [vI jt, vI jA, vI ju])]], KK⟩)
theorem QpK (lb n : Nat) (jt jA ju : Int) (r6 : CV) (s7 : LB) (r9 : CV) (s10 oQ : LB) (wT yR : Int) :
 Ql7 lb n jt jA ju r6 s7 r9 s10 oQ wT yR =
 some (.str oQ) := (Qab _).trans (by kernel_rfl)
theorem Qib (lb n kV : Nat) (jt jA ju : Int) (r6 : CV) (s7 : LB) (r9 : CV) (s10 s17 : LB) (jv jY : Int) :
 Qfb lb n (kV + 1) jt jA ju r6 s7 r9 s10 s17 jv jY =
 bif (decide (jY ≤ 7)) then
 (bif ((Int.tmod jv 2) == 1) then
 (optO (C lb n QaR [.int .i64 jY]) fun wp =>
 optO (CV.asS wp) fun s24 =>
 chkO (decide (s17.length + s24.length ≤ 9223372036854775807)) (
 Qfb lb n kV jt jA ju r6 s7 r9 s10 (s17 ++ s24) (IntKind.wrap .i64 (Int.tdiv jv 2)) (IntKind.wrap .i64 (jY + 1))))
 else
 (Qfb lb n kV jt jA ju r6 s7 r9 s10 s17 (IntKind.wrap .i64 (Int.tdiv jv 2)) (IntKind.wrap .i64 (jY + 1))))
 else
 (Ql7 lb n jt jA ju r6 s7 r9 s10 s17 jv jY) := (Qab _).trans (by kernel_rfl)
theorem Qtf (lb n : Nat) (jt jA ju : Int) :
 top lb n QbD [.agg [.int .i64 jt, .int .i64 jA, .int .i64 ju]] =
 optO (C lb n Qcf [.agg [.int .i64 jt, .int .i64 jA, .int .i64 ju]]) fun r4 =>
 optO (CV.asI .i64 r4) fun i5 =>
 bif (i5 != 0) then
 (some (.str []))
 else
 (optO (C lb n Qhq [.int .i64 jt]) fun r6 =>
 optO (CV.asS r6) fun s7 =>
 chkO (decide (s7.length + [47].length ≤ 9223372036854775807)) (
 optO (C lb n Qhq [.int .i64 jA]) fun r9 =>
 optO (CV.asS r9) fun s10 =>
 chkO (decide ((s7 ++ [47]).length + s10.length ≤ 9223372036854775807)) (
 chkO (decide (((s7 ++ [47]) ++ s10).length + [47].length ≤ 9223372036854775807)) (
 Qfb lb n n jt jA ju r6 s7 r9 s10 (((s7 ++ [47]) ++ s10) ++ [47]) ju 1)))) := by kernel_rfl
noncomputable def QdU (lb n oE : Nat) (jm : LB) (jn jf ji je : Int) (jl : Bool) (aleg7 : LL) (jE : CV) (wC : Bool) (wG : Int) : Option CV :=
 hold (QaB (E0 lb n 0 992) 0 (Qaj (sub (B QaT) [1, 1, 1, 1, 0, 1, 0, 0]) ++ [43, 60]) [5] (sub (B QaT) [1, 1, 1, 1, 0, 1, 0, 0]) (Qat 1 (seqK (E0 lb n 0 995) (sub (B QaT) [1, 1, 1, 1, 0]) (sub (B QaT) [1, 1, 1, 1, 1]) (retK Tryz.prog (R QaT) 0 (outK (Qad Tryz.prog QaT))))) oE ⟨fr 72 [(0, .val (.agg [.str jm, .int .i64 jn, .int .i64 jf, .int .i64 ji, .int .i64 je, .list jl aleg7])), (1, .ptr 0 1 0), (2, vI 0), (3, vV jE), (6, .val (.bool (!wC))), (11, .val (.bool (decide (jn > 9999)))), (36, .ptr 0 1 5), (37, .val (.list jl aleg7)), (38, .val (.int .i64 (aleg7.length : Int))), (39, vI wG)], [bx 72 [(1, some [vS jm, vI jn, vI jf, vI ji, vI je, .val (.list jl aleg7)])]], KK⟩)
noncomputable def Qic (lb n : Nat) (jm : LB) (jn jf ji je : Int) (jl : Bool) (aleg7 : LL) (jE : CV) (wC : Bool) : Option CV :=
 hold (E0 lb n 0 995 (sub (B QaT) [1, 1, 1, 1, 1]) (retK Tryz.prog (R QaT) 0 (outK (Qad Tryz.prog QaT))) ⟨fr 72 [(0, .val (.agg [.str jm, .int .i64 jn, .int .i64 jf, .int .i64 ji, .int .i64 je, .list jl aleg7])), (1, .ptr 0 1 0), (2, vI 0), (3, vV jE), (6, .val (.bool (!wC))), (11, .val (.bool (decide (jn > 9999))))], [bx 72 [(1, some [vS jm, vI jn, vI jf, vI ji, vI je, .val (.list jl aleg7)])]], KK⟩)
theorem Qk4 (lb n : Nat) (jm : LB) (jn jf ji je : Int) (jl : Bool) (aleg7 : LL) (jE : CV) (wC : Bool) :
 Qic lb n jm jn jf ji je jl aleg7 jE wC =
 some (.int .i64 0) := (Qab _).trans (by kernel_rfl)
theorem QfG (lb n oE : Nat) (jm : LB) (jn jf ji je : Int) (jl : Bool) (aleg7 : LL) (jE : CV) (wC : Bool) (wG : Int) :
 QdU lb n (oE + 1) jm jn jf ji je jl aleg7 jE wC wG =
 bif (decide (wG < (aleg7.length : Int))) then
 (optO (atL aleg7 wG) fun c49 =>
 chkO (c49.length == 5) (
 optO (c49[0]?) fun yc =>
 optO (c49[1]?) fun wO =>
 optO (c49[2]?) fun wZ =>
 optO (c49[3]?) fun wz =>
 optO (c49[4]?) fun w4 =>
 optO (C lb n Qcq [yc]) fun yp =>
 optO (CV.asB yp) fun kl =>
 bif (!kl) then
 (some (.int .i64 5))
 else
 (optO (C lb n Qcq [wO]) fun vK =>
 optO (CV.asB vK) fun w7 =>
 bif (!w7) then
 (some (.int .i64 5))
 else
 (optO (C lb n QcT [w4, .int .i64 3, .int .i64 3]) fun vY =>
 optO (CV.asB vY) fun pR =>
 bif (!pR) then
 (some (.int .i64 5))
 else
 (optO (C lb n QbY [wZ]) fun kG =>
 optO (CV.asB kG) fun wQ =>
 bif (!wQ) then
 (some (.int .i64 2))
 else
 (optO (C lb n QbY [wz]) fun vu =>
 optO (CV.asB vu) fun vw =>
 bif (!vw) then
 (some (.int .i64 2))
 else
 (QdU lb n oE jm jn jf ji je jl aleg7 jE wC (IntKind.wrap .i64 (wG + 1)))))))))
 else
 (Qic lb n jm jn jf ji je jl aleg7 jE wC ) := (Qab _).trans (by kernel_rfl)
theorem Qnr (lb n : Nat) (jm : LB) (jn jf ji je : Int) (jl : Bool) (aleg7 : LL) :
 top lb n QaT [.agg [.str jm, .int .i64 jn, .int .i64 jf, .int .i64 ji, .int .i64 je, .list jl aleg7]] =
 optO (C lb n Qfh [.str jm]) fun r9 =>
 optO (CV.asB r9) fun wC =>
 bif (!wC) then
 (some (.int .i64 5))
 else
 (bif (decide (jn < 1)) then
 (some (.int .i64 2))
 else
 (bif (decide (jn > 9999)) then
 (some (.int .i64 2))
 else
 (optO (C lb n Qdn [.agg [.int .i64 jf, .int .i64 ji, .int .i64 je]]) fun jE =>
 optO (CV.asI .i64 jE) fun jP =>
 bif (jP != 0) then
 (some (jE))
 else
 (bif ((aleg7.length : Int) == 0) then
 (some (.int .i64 4))
 else
 (bif (decide ((aleg7.length : Int) > 6)) then
 (some (.int .i64 4))
 else
 (QdU lb n n jm jn jf ji je jl aleg7 jE wC 0)))))) := by kernel_rfl
noncomputable def QgG (lb n oC : Nat) (jm : LB) (jn jf ji je : Int) (jl : Bool) (aleg7 : LL) (jW : Bool × LL) (wi jG : CV) (l35 : LL) (wa : Int) : Option CV :=
 hold (QaB (E0 lb n 0 992) 0 (Qaj (sub (B Qbh) [1, 1, 1, 1, 0, 1, 0, 0]) ++ []) [7] (sub (B Qbh) [1, 1, 1, 1, 0, 1, 0, 0]) (Qat 0 (seqK (E0 lb n 0 995) (sub (B Qbh) [1, 1, 1, 1, 0]) (sub (B Qbh) [1, 1, 1, 1, 1]) (retK Tryz.prog (R Qbh) 0 (outK (Qad Tryz.prog Qbh))))) oC ⟨fr 79 [(0, .val (.agg [.str jm, .int .i64 jn, .int .i64 jf, .int .i64 ji, .int .i64 je, .list jl aleg7])), (1, .ptr 0 1 0), (2, .val (.str [])), (3, vI 0), (4, .lst true jW.1 83 jW.2), (5, .lst true false 9 l35), (6, vI wa), (8, .val (.agg [.str jm, .int .i64 jn, .int .i64 jf, .int .i64 ji, .int .i64 je, .list jl aleg7])), (9, .val (.list jW.1 jW.2)), (17, .ptr 0 1 0), (18, vS jm), (19, .ptr 0 1 1), (20, vI jn), (21, vV wi), (22, .ptr 0 1 2), (23, .val (.agg [.int .i64 jf, .int .i64 ji, .int .i64 je])), (24, vV jG), (25, .val (.list false [[CV.str jm], [wi], [jG]]))], [bx 79 [(1, some [vS jm, vI jn, vI jf, vI ji, vI je, .val (.list jl aleg7)])]], KK⟩)
noncomputable def Qi6 (lb n : Nat) (jm : LB) (jn jf ji je : Int) (jl : Bool) (aleg7 : LL) (jW : Bool × LL) (wi jG : CV) (oz : Bool) (oO : LL) (yN : Int) : Option CV :=
 hold (E0 lb n 0 995 (sub (B Qbh) [1, 1, 1, 1, 1]) (retK Tryz.prog (R Qbh) 0 (outK (Qad Tryz.prog Qbh))) ⟨fr 79 [(0, .val (.agg [.str jm, .int .i64 jn, .int .i64 jf, .int .i64 ji, .int .i64 je, .list jl aleg7])), (1, .ptr 0 1 0), (2, .val (.str [])), (3, vI 0), (4, .lst true jW.1 83 jW.2), (5, .lst true oz 9 oO), (6, vI yN), (8, .val (.agg [.str jm, .int .i64 jn, .int .i64 jf, .int .i64 ji, .int .i64 je, .list jl aleg7])), (9, .val (.list jW.1 jW.2)), (17, .ptr 0 1 0), (18, vS jm), (19, .ptr 0 1 1), (20, vI jn), (21, vV wi), (22, .ptr 0 1 2), (23, .val (.agg [.int .i64 jf, .int .i64 ji, .int .i64 je])), (24, vV jG), (25, .val (.list false [[CV.str jm], [wi], [jG]]))], [bx 79 [(1, some [vS jm, vI jn, vI jf, vI ji, vI je, .val (.list jl aleg7)])]], KK⟩)
theorem QpV (lb n : Nat) (jm : LB) (jn jf ji je : Int) (jl : Bool) (aleg7 : LL) (jW : Bool × LL) (wi jG : CV) (oz : Bool) (oO : LL) (yN : Int) :
 Qi6 lb n jm jn jf ji je jl aleg7 jW wi jG oz oO yN =
 optO (C lb n Qap [.list oz oO]) fun oX =>
 some (.tup [oX, .int .i64 0]) := (Qab _).trans (by kernel_rfl)
theorem Qif (lb n oC : Nat) (jm : LB) (jn jf ji je : Int) (jl : Bool) (aleg7 : LL) (jW : Bool × LL) (wi jG : CV) (l35 : LL) (wa : Int) :
 QgG lb n (oC + 1) jm jn jf ji je jl aleg7 jW wi jG l35 wa =
 bif (decide (wa < (aleg7.length : Int))) then
 (optO (atL aleg7 wa) fun c56 =>
 chkO (c56.length == 5) (
 optO (c56[0]?) fun jV =>
 optO (c56[1]?) fun wR =>
 optO (c56[2]?) fun oT =>
 optO (c56[3]?) fun gR =>
 optO (c56[4]?) fun vj =>
 optO (C lb n Qb6 [jV]) fun gL =>
 optO (CV.asB gL) fun kt =>
 bif (!kt) then
 (some (.tup [.str [], .int .i64 5]))
 else
 (optO (C lb n Qb6 [wR]) fun mX =>
 optO (CV.asB mX) fun vM =>
 bif (!vM) then
 (some (.tup [.str [], .int .i64 5]))
 else
 (optO (C lb n Qbb [vj, .int .i64 3, .int .i64 3]) fun oY =>
 optO (CV.asB oY) fun yZ =>
 bif (!yZ) then
 (some (.tup [.str [], .int .i64 5]))
 else
 (optO (C lb n Qdh [oT]) fun vU =>
 optO (CV.asB vU) fun vk =>
 bif vk then
 (some (.tup [.str [], .int .i64 2]))
 else
 (optO (C lb n Qdh [gR]) fun y5 =>
 optO (CV.asB y5) fun n6 =>
 bif n6 then
 (some (.tup [.str [], .int .i64 2]))
 else
 (optO (C lb n QaR [oT]) fun kj =>
 optO (C lb n QaR [gR]) fun vR =>
 chkO (CV.isCell jV) (
 chkO (CV.isCell wR) (
 chkO (CV.isCell kj) (
 chkO (CV.isCell vR) (
 chkO (CV.isCell vj) (
 chkO (room (l35.length + 5) 16) (
 QgG lb n oC jm jn jf ji je jl aleg7 jW wi jG (l35 ++ [[jV], [wR], [kj], [vR], [vj]]) (IntKind.wrap .i64 (wa + 1)))))))))))))))
 else
 (Qi6 lb n jm jn jf ji je jl aleg7 jW wi jG false l35 wa) := (Qab _).trans (by kernel_rfl)
theorem Qi2 (lb n : Nat) (jm : LB) (jn jf ji je : Int) (jl : Bool) (aleg7 : LL) :
 top lb n Qbh [.agg [.str jm, .int .i64 jn, .int .i64 jf, .int .i64 ji, .int .i64 je, .list jl aleg7]] =
 optO (C lb n Qch [.agg [.str jm, .int .i64 jn, .int .i64 jf, .int .i64 ji, .int .i64 je, .list jl aleg7]]) fun r9 =>
 optO (CV.asL r9) fun jW =>
 bif (decide ((jW.2.length : Int) > 0)) then
 (optO (atL jW.2 0) fun c11 =>
 chkO (c11.length == 2) (
 optO (c11[0]?) fun jD =>
 some (.tup [.str [], jD])))
 else
 (optO (C lb n QaR [.int .i64 jn]) fun wi =>
 optO (C lb n QbD [.agg [.int .i64 jf, .int .i64 ji, .int .i64 je]]) fun jG =>
 chkO (CV.isCell wi) (
 chkO (CV.isCell jG) (
 QgG lb n n jm jn jf ji je jl aleg7 jW wi jG [[CV.str jm], [wi], [jG]] 0))) := by kernel_rfl
noncomputable def QeJ (lb n w8 : Nat) (jm : LB) (jn jf ji je : Int) (jl : Bool) (aleg7 : LL) (r9 jE jC : CV) (l22 : LL) (wm : Int) : Option CV :=
 hold (QaB (E0 lb n 0 993) 0 (Qaj (sub (B Qbn) [1, 1, 1, 0, 1, 0, 0]) ++ []) [7] (sub (B Qbn) [1, 1, 1, 0, 1, 0, 0]) (Qat 0 (seqK (E0 lb n 0 996) (sub (B Qbn) [1, 1, 1, 0]) (sub (B Qbn) [1, 1, 1, 1]) (retK Tryz.prog (R Qbn) 0 (outK (Qad Tryz.prog Qbn))))) w8 ⟨fr 47 [(0, .val (.agg [.str jm, .int .i64 jn, .int .i64 jf, .int .i64 ji, .int .i64 je, .list jl aleg7])), (1, .ptr 0 1 0), (2, .val (.str [])), (3, vI 0), (4, vV r9), (5, .lst true false 9 l22), (13, .ptr 0 1 0), (14, vS jm), (15, .ptr 0 1 1), (16, vI jn), (17, vV jE), (18, .ptr 0 1 2), (19, .val (.agg [.int .i64 jf, .int .i64 ji, .int .i64 je])), (20, vV jC), (21, .val (.list false [[CV.str jm], [jE], [jC]])), (22, .ptr 0 1 5), (23, .val (.list jl aleg7)), (24, .val (.int .i64 (aleg7.length : Int))), (25, vI wm)], [bx 47 [(1, some [vS jm, vI jn, vI jf, vI ji, vI je, .val (.list jl aleg7)])]], KK⟩)
noncomputable def QgF (lb n : Nat) (jm : LB) (jn jf ji je : Int) (jl : Bool) (aleg7 : LL) (r9 jE jC : CV) (oS : Bool) (oW : LL) : Option CV :=
 hold (E0 lb n 0 996 (sub (B Qbn) [1, 1, 1, 1]) (retK Tryz.prog (R Qbn) 0 (outK (Qad Tryz.prog Qbn))) ⟨fr 47 [(0, .val (.agg [.str jm, .int .i64 jn, .int .i64 jf, .int .i64 ji, .int .i64 je, .list jl aleg7])), (1, .ptr 0 1 0), (2, .val (.str [])), (3, vI 0), (4, vV r9), (5, .lst true oS 9 oW), (13, .ptr 0 1 0), (14, vS jm), (15, .ptr 0 1 1), (16, vI jn), (17, vV jE), (18, .ptr 0 1 2), (19, .val (.agg [.int .i64 jf, .int .i64 ji, .int .i64 je])), (20, vV jC), (21, .val (.list false [[CV.str jm], [jE], [jC]]))], [bx 47 [(1, some [vS jm, vI jn, vI jf, vI ji, vI je, .val (.list jl aleg7)])]], KK⟩)
theorem Qmk (lb n : Nat) (jm : LB) (jn jf ji je : Int) (jl : Bool) (aleg7 : LL) (r9 jE jC : CV) (oS : Bool) (oW : LL) :
 QgF lb n jm jn jf ji je jl aleg7 r9 jE jC oS oW =
 optO (C lb n QaH [.list oS oW]) fun wA =>
 some (.tup [wA, .int .i64 0]) := (Qab _).trans (by kernel_rfl)
theorem QgO (lb n w8 : Nat) (jm : LB) (jn jf ji je : Int) (jl : Bool) (aleg7 : LL) (r9 jE jC : CV) (l22 : LL) (wm : Int) :
 QeJ lb n (w8 + 1) jm jn jf ji je jl aleg7 r9 jE jC l22 wm =
 bif (decide (wm < (aleg7.length : Int))) then
 (optO (atL aleg7 wm) fun c34 =>
 chkO (c34.length == 5) (
 optO (c34[0]?) fun jR =>
 optO (c34[1]?) fun jS =>
 optO (c34[2]?) fun jM =>
 optO (c34[3]?) fun wD =>
 optO (c34[4]?) fun wI =>
 optO (C lb n QaP [jM]) fun yo =>
 optO (C lb n QaP [wD]) fun vq =>
 chkO (CV.isCell jR) (
 chkO (CV.isCell jS) (
 chkO (CV.isCell yo) (
 chkO (CV.isCell vq) (
 chkO (CV.isCell wI) (
 chkO (room (l22.length + 5) 16) (
 QeJ lb n w8 jm jn jf ji je jl aleg7 r9 jE jC (l22 ++ [[jR], [jS], [yo], [vq], [wI]]) (IntKind.wrap .i64 (wm + 1))))))))))
 else
 (QgF lb n jm jn jf ji je jl aleg7 r9 jE jC false l22) := (Qab _).trans (by kernel_rfl)
theorem Qpp (lb n : Nat) (jm : LB) (jn jf ji je : Int) (jl : Bool) (aleg7 : LL) :
 top lb n Qbn [.agg [.str jm, .int .i64 jn, .int .i64 jf, .int .i64 ji, .int .i64 je, .list jl aleg7]] =
 optO (C lb n QaT [.agg [.str jm, .int .i64 jn, .int .i64 jf, .int .i64 ji, .int .i64 je, .list jl aleg7]]) fun r9 =>
 optO (CV.asI .i64 r9) fun we =>
 bif (we != 0) then
 (some (.tup [.str [], r9]))
 else
 (optO (C lb n QaP [.int .i64 jn]) fun jE =>
 optO (C lb n QaV [.agg [.int .i64 jf, .int .i64 ji, .int .i64 je]]) fun jC =>
 chkO (CV.isCell jE) (
 chkO (CV.isCell jC) (
 QeJ lb n n jm jn jf ji je jl aleg7 r9 jE jC [[CV.str jm], [jE], [jC]] 0))) := by kernel_rfl
end Go.Proofs
