/- Equations of functions, printed by program. Conditions: none. -/
import Derived.Test.YtbdclhadjcfadaaGreatDoorEv
namespace Go.Proofs
open Go.Am
set_option maxRecDepth 100000
set_option linter.unusedVariables false
theorem QlW (lb n) (a1 : LB) :
 top lb n QdU [.str a1] =
 bif ((a1.length : Int) != 10) then
 (some (.tup [.int .i64 0, .int .i64 3]))
 else
 (optO (atS a1 4) fun c2 =>
 bif ((c2.toNat : Int) != 45) then
 (some (.tup [.int .i64 0, .int .i64 3]))
 else
 (optO (atS a1 7) fun c3 =>
 bif ((c3.toNat : Int) != 45) then
 (some (.tup [.int .i64 0, .int .i64 3]))
 else
 (chkO (decide ((0 : Int) ≤ 4 ∧ 4 ≤ (a1.length : Int))) (
 optO (C lb n QaD [.str ((a1.take 4).drop 0)]) fun r4 =>
 optO (CV.asT r4) fun t5 =>
 optO (t5[0]?) fun x6 =>
 optO (CV.asT r4) fun t7 =>
 optO (t7[1]?) fun x9 =>
 chkO (decide ((0 : Int) ≤ 7 ∧ 7 ≤ (a1.length : Int))) (
 optO (C lb n QaD [.str ((a1.take 7).drop 5)]) fun oO =>
 optO (CV.asT oO) fun kD =>
 optO (kD[0]?) fun yk =>
 optO (CV.asT oO) fun pM =>
 optO (pM[1]?) fun yv =>
 chkO (decide ((0 : Int) ≤ 8 ∧ 8 ≤ (a1.length : Int))) (
 optO (C lb n QaD [.str ((a1.take ((a1.length : Int).toNat)).drop 8)]) fun we =>
 optO (CV.asT we) fun y4 =>
 optO (y4[0]?) fun y6 =>
 optO (CV.asT we) fun wD =>
 optO (wD[1]?) fun jy =>
 optO (CV.asB x9) fun y0 =>
 bif (!y0) then
 (some (.tup [.int .i64 0, .int .i64 3]))
 else
 (optO (CV.asB yv) fun wy =>
 bif (!wy) then
 (some (.tup [.int .i64 0, .int .i64 3]))
 else
 (optO (CV.asB jy) fun qA =>
 bif (!qA) then
 (some (.tup [.int .i64 0, .int .i64 3]))
 else
 (optO (C lb n Qbd [x6,yk,y6]) fun yf =>
 optO (CV.asT yf) fun qH =>
 optO (qH[0]?) fun ow =>
 optO (CV.asT yf) fun pN =>
 optO (pN[1]?) fun pV =>
 some (.tup [ow,pV])))))))))) := by kernel_rfl
noncomputable def calendar_digits_L1 :=
 fun lb n (wq : Nat) a1 i5 i6 =>
 hold (QaC (E0 lb n 0 994) 0 (Qal (sub (B QaD) [1,1,0,1,0,0]) ++ [5]) [] (sub (B QaD) [1,1,0,1,0,0]) (Qan 0 (seqK (E0 lb n 0 997) (sub (B QaD) [1,1,0]) (sub (B QaD) [1,1,1]) (retK Tryz.prog (R QaD) 0 (outK (Qak Tryz.prog QaD))))) wq ⟨fr 31 [(0,vS a1),(2,vI 0),(3,vB false),(4,vI i5),(6,vS a1),(7, .val (.int .i64 (a1.length : Int))),(8,vI i6)],[bx 31 []],KK⟩)
noncomputable def QgR (lb n : Nat) (a1 : LB) (ym : Int) : Option CV :=
 hold (E0 lb n 0 997 (sub (B QaD) [1,1,1]) (retK Tryz.prog (R QaD) 0 (outK (Qak Tryz.prog QaD))) ⟨fr 31 [(0,vS a1),(2,vI 0),(3,vB false),(4,vI ym)],[bx 31 []],KK⟩)
theorem QiY (lb n : Nat) (a1 : LB) (ym : Int) :
 QgR lb n a1 ym =
 some (.tup [.int .i64 ym, .bool true]) := (Qaf _).trans (by kernel_rfl)
theorem QeI (lb n wq : Nat) (a1 : LB) (i5 i6 : Int) :
 calendar_digits_L1 lb n (wq + 1) a1 i5 i6 =
 bif (decide (i6 < (a1.length : Int))) then
 (optO (atS a1 i6) fun pI =>
 bif (decide ((pI.toNat : Int) < 48)) then
 (some (.tup [.int .i64 0, .bool false]))
 else
 (optO (atS a1 i6) fun yc =>
 bif (decide ((yc.toNat : Int) > 57)) then
 (some (.tup [.int .i64 0, .bool false]))
 else
 (optO (atS a1 i6) fun qd =>
 calendar_digits_L1 lb n wq a1 (IntKind.wrap .i64 ((IntKind.wrap .i64 (10 * i5)) + (IntKind.wrap .i64 (IntKind.wrap .u8 ((qd.toNat : Int) - 48))))) (IntKind.wrap .i64 (i6 + 1)))))
 else
 (QgR lb n a1 i5) := (Qaf _).trans (by kernel_rfl)
theorem Qlm (lb n : Nat) (a1 : LB) :
 top lb n QaD [.str a1] =
 calendar_digits_L1 lb n n a1 0 0 := by kernel_rfl
noncomputable def Qeh (lb n vE : Nat) (a1 b2 c3 : Int) (r6 : CV) (i7 jD wc : Int) : Option CV :=
 hold (QaC (E0 lb n 0 993) 0 (Qal (sub (B Qbd) [1,1,1,0,1,0,0]) ++ [9]) [] (sub (B Qbd) [1,1,1,0,1,0,0]) (Qan 0 (seqK (E0 lb n 0 996) (sub (B Qbd) [1,1,1,0]) (sub (B Qbd) [1,1,1,1]) (retK Tryz.prog (R Qbd) 0 (outK (Qak Tryz.prog Qbd))))) vE ⟨fr 53 [(0,vI a1),(1,vI b2),(2,vI c3),(6,vI 0),(7,vI 0),(8,vI jD),(35,vI a1),(36,vV r6),(37,vI c3),(38, .val (.int .i64 (IntKind.wrap .i64 (i7 + c3)))),(39, .val (.int .i64 (IntKind.wrap .i64 ((IntKind.wrap .i64 (i7 + c3)) - 1)))),(40,vI b2),(41, .val (.int .i64 (IntKind.wrap .i64 (b2 - 1)))),(42,vI wc)],[bx 53 []],KK⟩)
noncomputable def Qip (lb n : Nat) (a1 b2 c3 : Int) (r6 : CV) (i7 wb : Int) : Option CV :=
 hold (E0 lb n 0 996 (sub (B Qbd) [1,1,1,1]) (retK Tryz.prog (R Qbd) 0 (outK (Qak Tryz.prog Qbd))) ⟨fr 53 [(0,vI a1),(1,vI b2),(2,vI c3),(6,vI 0),(7,vI 0),(8,vI wb),(35,vI a1),(36,vV r6),(37,vI c3),(38, .val (.int .i64 (IntKind.wrap .i64 (i7 + c3)))),(39, .val (.int .i64 (IntKind.wrap .i64 ((IntKind.wrap .i64 (i7 + c3)) - 1))))],[bx 53 []],KK⟩)
theorem QkB (lb n : Nat) (a1 b2 c3 : Int) (r6 : CV) (i7 wb : Int) :
 Qip lb n a1 b2 c3 r6 i7 wb =
 some (.tup [.int .i64 wb, .int .i64 0]) := (Qaf _).trans (by kernel_rfl)
theorem QfR (lb n vE : Nat) (a1 b2 c3 : Int) (r6 : CV) (i7 jD wc : Int) :
 Qeh lb n (vE + 1) a1 b2 c3 r6 i7 jD wc =
 bif (decide (wc < (IntKind.wrap .i64 (b2 - 1)))) then
 (optO (C lb n Qbu [.int .i64 a1, .int .i64 (IntKind.wrap .i64 (wc + 1))]) fun yb =>
 optO (CV.asI .i64 yb) fun wz =>
 Qeh lb n vE a1 b2 c3 r6 i7 (IntKind.wrap .i64 (jD + wz)) (IntKind.wrap .i64 (wc + 1)))
 else
 (Qip lb n a1 b2 c3 r6 i7 jD) := (Qaf _).trans (by kernel_rfl)
theorem QnX (lb n : Nat) (a1 b2 c3 : Int) :
 top lb n Qbd [.int .i64 a1, .int .i64 b2, .int .i64 c3] =
 bif (decide (a1 < 2000)) then
 (some (.tup [.int .i64 0, .int .i64 12]))
 else
 (bif (decide (a1 > 2099)) then
 (some (.tup [.int .i64 0, .int .i64 12]))
 else
 (bif (decide (b2 < 1)) then
 (some (.tup [.int .i64 0, .int .i64 12]))
 else
 (bif (decide (b2 > 12)) then
 (some (.tup [.int .i64 0, .int .i64 12]))
 else
 (bif (decide (c3 < 1)) then
 (some (.tup [.int .i64 0, .int .i64 12]))
 else
 (optO (C lb n Qbu [.int .i64 a1, .int .i64 b2]) fun r4 =>
 optO (CV.asI .i64 r4) fun i5 =>
 bif (decide (c3 > i5)) then
 (some (.tup [.int .i64 0, .int .i64 12]))
 else
 (optO (C lb n Qc6 [.int .i64 a1]) fun r6 =>
 optO (CV.asI .i64 r6) fun i7 =>
 Qeh lb n n a1 b2 c3 r6 i7 (IntKind.wrap .i64 ((IntKind.wrap .i64 (i7 + c3)) - 1)) 0)))))) := by kernel_rfl
theorem QnJ (lb n : Nat) (a1 : LB) :
 top lb n QdE [.str a1] =
 optO (C lb n Qcb [.str a1, .str [47]]) fun r2 =>
 optO (CV.asL r2) fun p3 =>
 bif ((p3.2.length : Int) != 3) then
 (some (.tup [.agg [.int .i64 0, .int .i64 0, .int .i64 0], .int .i64 3]))
 else
 (optO (CV.asL r2) fun p4 =>
 optO (atL p4.2 0) fun c5 =>
 chkO (c5.length == 1) (
 optO (c5[0]?) fun x6 =>
 optO (C lb n QdU [x6]) fun r7 =>
 optO (CV.asT r7) fun t9 =>
 optO (t9[0]?) fun wB =>
 optO (CV.asT r7) fun kD =>
 optO (kD[1]?) fun yk =>
 optO (CV.asI .i64 yk) fun jI =>
 bif (jI != 0) then
 (some (.tup [.agg [.int .i64 0, .int .i64 0, .int .i64 0],yk]))
 else
 (optO (CV.asL r2) fun pG =>
 optO (atL pG.2 1) fun oJ =>
 chkO (oJ.length == 1) (
 optO (oJ[0]?) fun vG =>
 optO (C lb n QdU [vG]) fun jF =>
 optO (CV.asT jF) fun wD =>
 optO (wD[0]?) fun jy =>
 optO (CV.asT jF) fun t21 =>
 optO (t21[1]?) fun jH =>
 optO (CV.asI .i64 jH) fun kb =>
 bif (kb != 0) then
 (some (.tup [.agg [.int .i64 0, .int .i64 0, .int .i64 0],jH]))
 else
 (optO (CV.asL r2) fun pO =>
 optO (atL pO.2 2) fun oR =>
 chkO (oR.length == 1) (
 optO (oR[0]?) fun ow =>
 optO (C lb n QaV [ow]) fun vO =>
 optO (CV.asT vO) fun pZ =>
 optO (pZ[0]?) fun kh =>
 optO (CV.asT vO) fun oH =>
 optO (oH[1]?) fun kg =>
 optO (CV.asB kg) fun pJ =>
 bif (!pJ) then
 (some (.tup [.agg [.int .i64 0, .int .i64 0, .int .i64 0], .int .i64 3]))
 else
 (chkO (CV.isCell wB) (
 chkO (CV.isCell jy) (
 chkO (CV.isCell kh) (
 optO (C lb n QbT [.agg [wB,jy,kh]]) fun gd =>
 optO (CV.asI .i64 gd) fun qm =>
 bif (qm != 0) then
 (some (.tup [.agg [.int .i64 0, .int .i64 0, .int .i64 0],gd]))
 else
 (some (.tup [.agg [wB,jy,kh], .int .i64 0])))))))))))) := by kernel_rfl
noncomputable def Qdr (lb n k7 : Nat) (a1 : LB) (i3 i4 i5 : Int) : Option CV :=
 hold (QaC (E0 lb n 0 994) 0 (Qal (sub (B QaV) [1,1,0,1,0,0]) ++ [6,7]) [] (sub (B QaV) [1,1,0,1,0,0]) (Qan 0 (seqK (E0 lb n 0 997) (sub (B QaV) [1,1,0]) (sub (B QaV) [1,1,1]) (retK Tryz.prog (R QaV) 0 (outK (Qak Tryz.prog QaV))))) k7 ⟨fr 34 [(0,vS a1),(2,vI 0),(3,vB false),(4,vI i3),(5,vI i4),(8,vS a1),(9, .val (.int .i64 (a1.length : Int))),(10,vI i5)],[bx 34 []],KK⟩)
noncomputable def QgI (lb n : Nat) (a1 : LB) (jn jD : Int) : Option CV :=
 hold (E0 lb n 0 997 (sub (B QaV) [1,1,1]) (retK Tryz.prog (R QaV) 0 (outK (Qak Tryz.prog QaV))) ⟨fr 34 [(0,vS a1),(2,vI 0),(3,vB false),(4,vI jn),(5,vI jD)],[bx 34 []],KK⟩)
theorem Qi5 (lb n : Nat) (a1 : LB) (jn jD : Int) :
 QgI lb n a1 jn jD =
 some (.tup [.int .i64 jn, .bool (decide (jn > 0))]) := (Qaf _).trans (by kernel_rfl)
theorem QeJ (lb n k7 : Nat) (a1 : LB) (i3 i4 i5 : Int) :
 Qdr lb n (k7 + 1) a1 i3 i4 i5 =
 bif (decide (i5 < (a1.length : Int))) then
 (optO (atS a1 i5) fun c9 =>
 bif (decide ((IntKind.wrap .i64 ((IntKind.wrap .i64 ((c9.toNat : Int))) - 49)) ≤ i4)) then
 (some (.tup [.int .i64 0, .bool false]))
 else
 (bif (decide ((IntKind.wrap .i64 ((IntKind.wrap .i64 ((c9.toNat : Int))) - 49)) > 6)) then
 (some (.tup [.int .i64 0, .bool false]))
 else
 (chkO (decide (0 ≤ (IntKind.wrap .i64 ((IntKind.wrap .i64 ((c9.toNat : Int))) - 49)))) (
 Qdr lb n k7 a1 (IntKind.wrap .i64 ((BitVec.ofInt 64 i3 ||| BitVec.ofInt 64 (IntKind.wrap .i64 (1 * 2 ^ (min ((IntKind.wrap .i64 ((IntKind.wrap .i64 ((c9.toNat : Int))) - 49))).toNat 64)))).toNat)) (IntKind.wrap .i64 ((IntKind.wrap .i64 ((c9.toNat : Int))) - 49)) (IntKind.wrap .i64 (i5 + 1))))))
 else
 (QgI lb n a1 i3 i4) := (Qaf _).trans (by kernel_rfl)
theorem Qk1 (lb n : Nat) (a1 : LB) :
 top lb n QaV [.str a1] =
 Qdr lb n n a1 0 (-1) 0 := by kernel_rfl
noncomputable def Qdw (lb n jY : Nat) (jz jB jA : Int) (s9 : LB) (jn : Int) : Option CV :=
 hold (QaC (E0 lb n 0 993) 0 (Qal (sub (B Qa6) [1,1,1,0,1,0,0]) ++ [4]) [] (sub (B Qa6) [1,1,1,0,1,0,0]) (Qan 0 (seqK (E0 lb n 0 996) (sub (B Qa6) [1,1,1,0]) (sub (B Qa6) [1,1,1,1]) (retK Tryz.prog (R Qa6) 0 (outK (Qak Tryz.prog Qa6))))) jY ⟨fr 34 [(0, .val (.agg [.int .i64 jz, .int .i64 jB, .int .i64 jA])),(1, .ptr 0 1 0),(2, .val (.str [])),(3,vS s9),(8,vI jn)],[bx 34 [(1,some [vI jz,vI jB,vI jA])]],KK⟩)
noncomputable def QfU (lb n : Nat) (jz jB jA : Int) (y5 : LB) : Option CV :=
 hold (E0 lb n 0 996 (sub (B Qa6) [1,1,1,1]) (retK Tryz.prog (R Qa6) 0 (outK (Qak Tryz.prog Qa6))) ⟨fr 34 [(0, .val (.agg [.int .i64 jz, .int .i64 jB, .int .i64 jA])),(1, .ptr 0 1 0),(2, .val (.str [])),(3,vS y5)],[bx 34 [(1,some [vI jz,vI jB,vI jA])]],KK⟩)
theorem QkO (lb n : Nat) (jz jB jA : Int) (y5 : LB) :
 QfU lb n jz jB jA y5 =
 optO (C lb n QdX [.int .i64 jz]) fun we =>
 optO (CV.asS we) fun wp =>
 chkO (decide (wp.length + [47].length ≤ 9223372036854775807)) (
 optO (C lb n QdX [.int .i64 jB]) fun jF =>
 optO (CV.asS jF) fun wO =>
 chkO (decide ((wp ++ [47]).length + wO.length ≤ 9223372036854775807)) (
 chkO (decide (((wp ++ [47]) ++ wO).length + [47].length ≤ 9223372036854775807)) (
 chkO (decide ((((wp ++ [47]) ++ wO) ++ [47]).length + y5.length ≤ 9223372036854775807)) (
 some (.str ((((wp ++ [47]) ++ wO) ++ [47]) ++ y5)))))) := (Qaf _).trans (by kernel_rfl)
theorem Qfz (lb n jY : Nat) (jz jB jA : Int) (s9 : LB) (jn : Int) :
 Qdw lb n (jY + 1) jz jB jA s9 jn =
 bif (decide (jn < 7)) then
 (chkO (decide (0 ≤ jn)) (
 bif ((IntKind.wrap .i64 ((BitVec.ofInt 64 (Int.fdiv jA (2 ^ (min (jn).toNat 64))) &&& BitVec.ofInt 64 1).toNat)) == 1) then
 (optO (atS [49,50,51,52,53,54,55] jn) fun yc =>
 chkO (decide (s9.length + ((Utf8.encode (yc.toNat : Int)).data.toList).length ≤ 9223372036854775807)) (
 Qdw lb n jY jz jB jA (s9 ++ ((Utf8.encode (yc.toNat : Int)).data.toList)) (IntKind.wrap .i64 (jn + 1))))
 else
 (Qdw lb n jY jz jB jA s9 (IntKind.wrap .i64 (jn + 1)))))
 else
 (QfU lb n jz jB jA s9) := (Qaf _).trans (by kernel_rfl)
theorem Qnw (lb n : Nat) (jz jB jA : Int) :
 top lb n Qa6 [.agg [.int .i64 jz, .int .i64 jB, .int .i64 jA]] =
 optO (C lb n QbT [.agg [.int .i64 jz, .int .i64 jB, .int .i64 jA]]) fun r4 =>
 optO (CV.asI .i64 r4) fun i5 =>
 bif (i5 != 0) then
 (some (.str []))
 else
 (Qdw lb n n jz jB jA [] 0) := by kernel_rfl
end Go.Proofs
