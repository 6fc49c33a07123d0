/- Equations of functions, printed by program. Conditions: none. -/
import Derived.Test.YtigmcfhmpcajlaaGreatDoorEv
namespace Go.Proofs
open Go.Am
set_option maxRecDepth 100000
set_option linter.unusedVariables false
theorem QhG (lb n jf) (a2 : LL) :
 top lb n Qcu [.list jf a2] =
 optO (C lb n QeD [.int .u64 (IntKind.wrap .u64 ((a2.length : Int)))]) fun r3 =>
 optO (C lb n Qad [.list jf a2, .int .i64 0, .int .i64 (a2.length : Int), r3]) fun r4 =>
 some (.tup []) := by kernel_rfl
noncomputable def slices_pdqsortOrdered_int_L1 :=
 fun lb n (wN : Nat) (jf : Bool) (a2 : LL) jZ j6 vA ww wC =>
 hold (Qau (E0 lb n 0 996) 0 (Qaj (sub (B Qad) [1, 1, 0, 0]) ++ [10, 11, 12, 11, 12, 13, 14, 15, 16, 17, 18]) [] (sub (B Qad) [1, 1, 0, 0]) (Qal 0 (retK Tryz.prog (R Qad) 0 (outK (Qae Tryz.prog Qad)))) wN ⟨fr 134 [(0, .val (.list jf a2)), (1, vV jZ), (2, vV j6), (3, vI vA), (8, vB ww), (9, vV wC)], [bx 134 []], KK⟩)
noncomputable def QcF (lb n wN : Nat) (jf : Bool) (a2 : LL) (jZ j6 : CV) (ww : Bool) (wC : CV) (wv wx w6 : Int) : Option CV :=
 hold (E0 lb n 0 991 (sub (B Qad) [1, 1, 0, 0, 0, 1, 1, 1, 1]) (Qal 1 (QbK 0 (Qaj (sub (B Qad) [1, 1, 0, 0]) ++ [10, 11, 12, 11, 12, 13, 14, 15, 16, 17, 18]) [] (Qau (E0 lb n 0 996) 0 (Qaj (sub (B Qad) [1, 1, 0, 0]) ++ [10, 11, 12, 11, 12, 13, 14, 15, 16, 17, 18]) [] (sub (B Qad) [1, 1, 0, 0]) (Qal 0 (retK Tryz.prog (R Qad) 0 (outK (Qae Tryz.prog Qad)))) wN) (Qal 0 (retK Tryz.prog (R Qad) 0 (outK (Qae Tryz.prog Qad)))))) ⟨fr 134 [(0, .val (.list jf a2)), (1, vV jZ), (2, vV j6), (3, vI w6), (8, vB ww), (9, vV wC), (10, .val (.int .i64 (IntKind.wrap .i64 (wv - wx)))), (19, vV j6), (20, vV jZ), (21, .val (.int .i64 (IntKind.wrap .i64 (wv - wx))))], [bx 134 []], KK⟩)
noncomputable def Qg1 (lb n wN : Nat) (jf : Bool) (a2 : LL) (jZ j6 : CV) (w6 : Int) (ww : Bool) (wC : CV) (wv wx : Int) (wT w4 wY : CV) (nj ng : Int) : Option CV :=
 hold (E0 lb n 0 989 (sub (B Qad) [1, 1, 0, 0, 0, 1, 1, 1, 1, 1, 1]) (Qal 1 (QbK 0 (Qaj (sub (B Qad) [1, 1, 0, 0]) ++ [10, 11, 12, 11, 12, 13, 14, 15, 16, 17, 18]) [] (Qau (E0 lb n 0 996) 0 (Qaj (sub (B Qad) [1, 1, 0, 0]) ++ [10, 11, 12, 11, 12, 13, 14, 15, 16, 17, 18]) [] (sub (B Qad) [1, 1, 0, 0]) (Qal 0 (retK Tryz.prog (R Qad) 0 (outK (Qae Tryz.prog Qad)))) wN) (Qal 0 (retK Tryz.prog (R Qad) 0 (outK (Qae Tryz.prog Qad)))))) ⟨fr 134 [(0, .val (.list jf a2)), (1, vV jZ), (2, vV j6), (3, vI w6), (8, vB ww), (9, vV wC), (10, .val (.int .i64 (IntKind.wrap .i64 (wv - wx)))), (11, vI nj), (12, vI ng), (19, vV j6), (20, vV jZ), (21, .val (.int .i64 (IntKind.wrap .i64 (wv - wx)))), (42, vV wT), (43, .val (.list jf a2)), (44, vV jZ), (45, vV j6), (46, vV wT), (47, vV w4), (48, vV wY)], [bx 134 []], KK⟩)
noncomputable def Qd2 (lb n wN : Nat) (jf : Bool) (a2 : LL) (jZ j6 : CV) (w6 : Int) (ww : Bool) (wC : CV) (wv wx : Int) (w4 wY wT : CV) : Option CV :=
 hold (E0 lb n 0 989 (sub (B Qad) [1, 1, 0, 0, 0, 1, 1, 1, 1, 1, 1]) (Qal 1 (QbK 0 (Qaj (sub (B Qad) [1, 1, 0, 0]) ++ [10, 11, 12, 11, 12, 13, 14, 15, 16, 17, 18]) [] (Qau (E0 lb n 0 996) 0 (Qaj (sub (B Qad) [1, 1, 0, 0]) ++ [10, 11, 12, 11, 12, 13, 14, 15, 16, 17, 18]) [] (sub (B Qad) [1, 1, 0, 0]) (Qal 0 (retK Tryz.prog (R Qad) 0 (outK (Qae Tryz.prog Qad)))) wN) (Qal 0 (retK Tryz.prog (R Qad) 0 (outK (Qae Tryz.prog Qad)))))) ⟨fr 134 [(0, .val (.list jf a2)), (1, vV jZ), (2, vV j6), (3, vI w6), (8, vB ww), (9, vV wC), (10, .val (.int .i64 (IntKind.wrap .i64 (wv - wx)))), (11, vV w4), (12, vV wY), (19, vV j6), (20, vV jZ), (21, .val (.int .i64 (IntKind.wrap .i64 (wv - wx)))), (42, vV wT), (43, .val (.list jf a2)), (44, vV jZ), (45, vV j6), (46, vV wT), (47, vV w4), (48, vV wY)], [bx 134 []], KK⟩)
noncomputable def QbR (lb n wN : Nat) (jf : Bool) (a2 : LL) (jZ j6 : CV) (w6 : Int) (ww : Bool) (wC : CV) (wv wx : Int) (w4 wY wT : CV) : Option CV :=
 hold (E0 lb n 0 988 (sub (B Qad) [1, 1, 0, 0, 0, 1, 1, 1, 1, 1, 1, 1]) (Qal 1 (QbK 0 (Qaj (sub (B Qad) [1, 1, 0, 0]) ++ [10, 11, 12, 11, 12, 13, 14, 15, 16, 17, 18]) [] (Qau (E0 lb n 0 996) 0 (Qaj (sub (B Qad) [1, 1, 0, 0]) ++ [10, 11, 12, 11, 12, 13, 14, 15, 16, 17, 18]) [] (sub (B Qad) [1, 1, 0, 0]) (Qal 0 (retK Tryz.prog (R Qad) 0 (outK (Qae Tryz.prog Qad)))) wN) (Qal 0 (retK Tryz.prog (R Qad) 0 (outK (Qae Tryz.prog Qad)))))) ⟨fr 134 [(0, .val (.list jf a2)), (1, vV jZ), (2, vV j6), (3, vI w6), (8, vB ww), (9, vV wC), (10, .val (.int .i64 (IntKind.wrap .i64 (wv - wx)))), (11, vV w4), (12, vV wY), (19, vV j6), (20, vV jZ), (21, .val (.int .i64 (IntKind.wrap .i64 (wv - wx)))), (42, vV wT), (43, .val (.list jf a2)), (44, vV jZ), (45, vV j6), (46, vV wT), (47, vV w4), (48, vV wY)], [bx 134 []], KK⟩)
theorem Qgc (lb n wN : Nat) (jf : Bool) (a2 : LL) (jZ j6 : CV) (w6 : Int) (ww : Bool) (wC : CV) (wv wx : Int) (w4 wY wT : CV) :
 Qd2 lb n wN jf a2 jZ j6 w6 ww wC wv wx w4 wY wT =
 bif ww then
 (optO (CV.asB wC) fun ne =>
 bif ne then
 (optO (CV.asI .i64 wY) fun m9 =>
 bif (m9 == 1) then
 (optO (C lb n Qaa [.list jf a2, jZ, j6]) fun nk =>
 optO (CV.asB nk) fun nh =>
 bif nh then
 (some (.tup []))
 else
 (QbR lb n wN jf a2 jZ j6 w6 ww wC wv wx w4 wY wT ))
 else
 (QbR lb n wN jf a2 jZ j6 w6 ww wC wv wx w4 wY wT ))
 else
 (QbR lb n wN jf a2 jZ j6 w6 ww wC wv wx w4 wY wT ))
 else
 (QbR lb n wN jf a2 jZ j6 w6 ww wC wv wx w4 wY wT ) := (Qaf _).trans (by kernel_rfl)
theorem Qgb (lb n wN : Nat) (jf : Bool) (a2 : LL) (jZ j6 : CV) (ww : Bool) (wC : CV) (wv wx w6 : Int) :
 QcF lb n wN jf a2 jZ j6 ww wC wv wx w6 =
 optO (C lb n Qam [.list jf a2, jZ, j6]) fun wT =>
 optO (CV.asT wT) fun nm =>
 optO (nm[0]?) fun w4 =>
 optO (CV.asT wT) fun na =>
 optO (na[1]?) fun wY =>
 optO (CV.asI .i64 wY) fun nf =>
 bif (nf == 2) then
 (optO (C lb n QfX [.list jf a2, jZ, j6]) fun lB =>
 optO (CV.asI .i64 j6) fun nb =>
 optO (CV.asI .i64 w4) fun nd =>
 optO (CV.asI .i64 jZ) fun ni =>
 Qg1 lb n wN jf a2 jZ j6 w6 ww wC wv wx wT w4 wY (IntKind.wrap .i64 ((IntKind.wrap .i64 (nb - 1)) - (IntKind.wrap .i64 (nd - ni)))) 1)
 else
 (Qd2 lb n wN jf a2 jZ j6 w6 ww wC wv wx w4 wY wT ) := (Qaf _).trans (by kernel_rfl)
theorem Qdc (lb n wN : Nat) (jf : Bool) (a2 : LL) (jZ j6 : CV) (vA : Int) (ww : Bool) (wC : CV) :
 slices_pdqsortOrdered_int_L1 lb n (wN + 1) jf a2 jZ j6 vA ww wC =
 optO (CV.asI .i64 j6) fun wv =>
 optO (CV.asI .i64 jZ) fun wx =>
 bif (decide ((IntKind.wrap .i64 (wv - wx)) ≤ 12)) then
 (optO (C lb n Qai [.list jf a2, jZ, j6]) fun lC =>
 some (.tup []))
 else
 (bif (vA == 0) then
 (optO (C lb n QgR [.list jf a2, jZ, j6]) fun lz =>
 some (.tup []))
 else
 (bif (!ww) then
 (optO (C lb n QfC [.list jf a2, jZ, j6]) fun lA =>
 QcF lb n wN jf a2 jZ j6 ww wC wv wx (IntKind.wrap .i64 (vA - 1)))
 else
 (QcF lb n wN jf a2 jZ j6 ww wC wv wx vA))) := (Qaf _).trans (by kernel_rfl)
theorem Qd4 (lb n : Nat) (jf : Bool) (a2 : LL) (b3 c4 d5 : Int) :
 top lb n Qad [.list jf a2, .int .i64 b3, .int .i64 c4, .int .i64 d5] =
 slices_pdqsortOrdered_int_L1 lb n n jf a2 (.int .i64 b3) (.int .i64 c4) d5 true (.bool true) := by kernel_rfl
noncomputable def Qbo (lb n yW : Nat) (jf : Bool) (a2 : LL) (b3 c4 yh : Int) : Option CV :=
 hold (Qau (E0 lb n 0 997) 0 (Qaj (sub (B Qai) [1, 0, 0]) ++ [7, 7]) [] (sub (B Qai) [1, 0, 0]) (Qal 0 (retK Tryz.prog (R Qai) 0 (outK (Qae Tryz.prog Qai)))) yW ⟨fr 49 [(0, .val (.list jf a2)), (1, vI b3), (2, vI c4), (6, vI yh), (8, vI b3), (9, .val (.int .i64 (IntKind.wrap .i64 (b3 + 1))))], [bx 49 []], KK⟩)
noncomputable def Qc1 (lb n mI yW : Nat) (jf : Bool) (a2 : LL) (b3 c4 yh : Int) : Option CV :=
 hold (Qau (E0 lb n 0 991) 0 (Qaj (sub (B Qai) [1, 0, 0, 1, 0, 0, 1, 0, 0]) ++ []) [] (sub (B Qai) [1, 0, 0, 1, 0, 0, 1, 0, 0]) (Qal 2 (Qal 1 (seqK (E0 lb n 0 995) (sub (B Qai) [1, 0, 0, 1, 0]) (sub (B Qai) [1, 0, 0, 1, 1]) (QbK 0 (Qaj (sub (B Qai) [1, 0, 0]) ++ [7, 7]) [] (Qau (E0 lb n 0 997) 0 (Qaj (sub (B Qai) [1, 0, 0]) ++ [7, 7]) [] (sub (B Qai) [1, 0, 0]) (Qal 0 (retK Tryz.prog (R Qai) 0 (outK (Qae Tryz.prog Qai)))) yW) (Qal 0 (retK Tryz.prog (R Qai) 0 (outK (Qae Tryz.prog Qai)))))))) mI ⟨fr 49 [(0, .val (.list jf a2)), (1, vI b3), (2, vI c4), (6, vI yh), (7, vI yh), (8, vI b3), (9, .val (.int .i64 (IntKind.wrap .i64 (b3 + 1)))), (15, vI yh)], [bx 49 []], KK⟩)
noncomputable def QbW (lb n yW : Nat) (jf : Bool) (a2 : LL) (b3 c4 yh yr : Int) : Option CV :=
 hold (E0 lb n 0 995 (sub (B Qai) [1, 0, 0, 1, 1]) (QbK 0 (Qaj (sub (B Qai) [1, 0, 0]) ++ [7, 7]) [] (Qau (E0 lb n 0 997) 0 (Qaj (sub (B Qai) [1, 0, 0]) ++ [7, 7]) [] (sub (B Qai) [1, 0, 0]) (Qal 0 (retK Tryz.prog (R Qai) 0 (outK (Qae Tryz.prog Qai)))) yW) (Qal 0 (retK Tryz.prog (R Qai) 0 (outK (Qae Tryz.prog Qai))))) ⟨fr 49 [(0, .val (.list jf a2)), (1, vI b3), (2, vI c4), (6, vI yh), (7, vI yr), (8, vI b3), (9, .val (.int .i64 (IntKind.wrap .i64 (b3 + 1))))], [bx 49 []], KK⟩)
theorem QeH (lb n yW : Nat) (jf : Bool) (a2 : LL) (b3 c4 yh yr : Int) :
 QbW lb n yW jf a2 b3 c4 yh yr =
 Qbo lb n yW jf a2 b3 c4 (IntKind.wrap .i64 (yh + 1)) := (Qaf _).trans (by kernel_rfl)
theorem Qej (lb n mI yW : Nat) (jf : Bool) (a2 : LL) (b3 c4 yh : Int) :
 Qc1 lb n (mI + 1) yW jf a2 b3 c4 yh =
 bif (decide (yh > b3)) then
 (optO (atL a2 yh) fun c68 =>
 chkO (c68.length == 1) (
 optO (c68[0]?) fun zO =>
 optO (atL a2 (IntKind.wrap .i64 (yh - 1))) fun c70 =>
 chkO (c70.length == 1) (
 optO (c70[0]?) fun sz =>
 optO (C lb n Qbh [zO, sz]) fun gV =>
 optO (CV.asB gV) fun ma =>
 bif ma then
 (optO (atL a2 (IntKind.wrap .i64 (yh - 1))) fun c74 =>
 chkO (c74.length == 1) (
 optO (c74[0]?) fun gE =>
 optO (atL a2 yh) fun c76 =>
 chkO (c76.length == 1) (
 optO (c76[0]?) fun mt =>
 optO (atL a2 yh) fun c78 =>
 chkO (c78.length == 1) (
 none))))
 else
 (QbW lb n yW jf a2 b3 c4 yh yh))))
 else
 (QbW lb n yW jf a2 b3 c4 yh yh) := (Qaf _).trans (by kernel_rfl)
theorem QbD (lb n yW : Nat) (jf : Bool) (a2 : LL) (b3 c4 yh : Int) :
 Qbo lb n (yW + 1) jf a2 b3 c4 yh =
 bif (decide (yh < c4)) then
 (Qc1 lb n n yW jf a2 b3 c4 yh )
 else
 (some (.tup [])) := (Qaf _).trans (by kernel_rfl)
theorem Qc4 (lb n : Nat) (jf : Bool) (a2 : LL) (b3 c4 : Int) :
 top lb n Qai [.list jf a2, .int .i64 b3, .int .i64 c4] =
 Qbo lb n n jf a2 b3 c4 (IntKind.wrap .i64 (b3 + 1)) := by kernel_rfl
theorem QoV (lb n : Nat) (a1 b2 : Int) :
 top lb n Qbh [.int .i64 a1, .int .i64 b2] =
 optO (C lb n QeB [.int .i64 a1]) fun r3 =>
 optO (CV.asB r3) fun b4 =>
 bif b4 then
 (optO (C lb n QeB [.int .i64 b2]) fun r5 =>
 optO (CV.asB r5) fun b6 =>
 bif (!b6) then
 (some (.bool true))
 else
 (some (.bool (decide (a1 < b2)))))
 else
 (some (.bool (decide (a1 < b2)))) := by kernel_rfl
theorem QnN (lb n : Nat) (a1 : Int) :
 top lb n QeB [.int .i64 a1] =
 some (.bool (a1 != a1)) := by kernel_rfl
theorem QiR (lb n : Nat) (a1 : Int) :
 top lb n QeD [.int .u64 a1] =
 optO (C lb n Qba [.int .u64 a1]) fun r2 =>
 some (r2) := by kernel_rfl
noncomputable def QeY (lb n : Nat) (i2 i3 : Int) : Option CV :=
 hold (E0 lb n 0 998 (sub (B Qba) [1, 1]) (retK Tryz.prog (R Qba) 0 (outK (Qae Tryz.prog Qba))) ⟨fr 25 [(0, .val (.int .u64 i2)), (2, vI i3)], [bx 25 []], KK⟩)
noncomputable def QcS (lb n : Nat) (i4 i5 : Int) : Option CV :=
 hold (E0 lb n 0 997 (sub (B Qba) [1, 1, 1]) (retK Tryz.prog (R Qba) 0 (outK (Qae Tryz.prog Qba))) ⟨fr 25 [(0, .val (.int .u64 i4)), (2, vI i5)], [bx 25 []], KK⟩)
theorem QbH (lb n : Nat) (i4 i5 : Int) :
 QcS lb n i4 i5 =
 bif (decide (i4 ≥ 256)) then
 (optO (atS [0, 1, 2, 2, 3, 3, 3, 3, 4, 4, 4, 4, 4, 4, 4, 4, 5, 5, 5, 5, 5, 5, 5, 5, 5, 5, 5, 5, 5, 5, 5, 5, 6, 6, 6, 6, 6, 6, 6, 6, 6, 6, 6, 6, 6, 6, 6, 6, 6, 6, 6, 6, 6, 6, 6, 6, 6, 6, 6, 6, 6, 6, 6, 6, 7, 7, 7, 7, 7, 7, 7, 7, 7, 7, 7, 7, 7, 7, 7, 7, 7, 7, 7, 7, 7, 7, 7, 7, 7, 7, 7, 7, 7, 7, 7, 7, 7, 7, 7, 7, 7, 7, 7, 7, 7, 7, 7, 7, 7, 7, 7, 7, 7, 7, 7, 7, 7, 7, 7, 7, 7, 7, 7, 7, 7, 7, 7, 7, 8, 8, 8, 8, 8, 8, 8, 8, 8, 8, 8, 8, 8, 8, 8, 8, 8, 8, 8, 8, 8, 8, 8, 8, 8, 8, 8, 8, 8, 8, 8, 8, 8, 8, 8, 8, 8, 8, 8, 8, 8, 8, 8, 8, 8, 8, 8, 8, 8, 8, 8, 8, 8, 8, 8, 8, 8, 8, 8, 8, 8, 8, 8, 8, 8, 8, 8, 8, 8, 8, 8, 8, 8, 8, 8, 8, 8, 8, 8, 8, 8, 8, 8, 8, 8, 8, 8, 8, 8, 8, 8, 8, 8, 8, 8, 8, 8, 8, 8, 8, 8, 8, 8, 8, 8, 8, 8, 8, 8, 8, 8, 8, 8, 8, 8, 8, 8, 8, 8, 8, 8, 8, 8, 8, 8, 8, 8, 8] (IntKind.wrap .u8 (Int.fdiv i4 (2 ^ 8)))) fun c6 =>
 some (.int .i64 (IntKind.wrap .i64 ((IntKind.wrap .i64 (i5 + 8)) + (IntKind.wrap .i64 ((c6.toNat : Int)))))))
 else
 (optO (atS [0, 1, 2, 2, 3, 3, 3, 3, 4, 4, 4, 4, 4, 4, 4, 4, 5, 5, 5, 5, 5, 5, 5, 5, 5, 5, 5, 5, 5, 5, 5, 5, 6, 6, 6, 6, 6, 6, 6, 6, 6, 6, 6, 6, 6, 6, 6, 6, 6, 6, 6, 6, 6, 6, 6, 6, 6, 6, 6, 6, 6, 6, 6, 6, 7, 7, 7, 7, 7, 7, 7, 7, 7, 7, 7, 7, 7, 7, 7, 7, 7, 7, 7, 7, 7, 7, 7, 7, 7, 7, 7, 7, 7, 7, 7, 7, 7, 7, 7, 7, 7, 7, 7, 7, 7, 7, 7, 7, 7, 7, 7, 7, 7, 7, 7, 7, 7, 7, 7, 7, 7, 7, 7, 7, 7, 7, 7, 7, 8, 8, 8, 8, 8, 8, 8, 8, 8, 8, 8, 8, 8, 8, 8, 8, 8, 8, 8, 8, 8, 8, 8, 8, 8, 8, 8, 8, 8, 8, 8, 8, 8, 8, 8, 8, 8, 8, 8, 8, 8, 8, 8, 8, 8, 8, 8, 8, 8, 8, 8, 8, 8, 8, 8, 8, 8, 8, 8, 8, 8, 8, 8, 8, 8, 8, 8, 8, 8, 8, 8, 8, 8, 8, 8, 8, 8, 8, 8, 8, 8, 8, 8, 8, 8, 8, 8, 8, 8, 8, 8, 8, 8, 8, 8, 8, 8, 8, 8, 8, 8, 8, 8, 8, 8, 8, 8, 8, 8, 8, 8, 8, 8, 8, 8, 8, 8, 8, 8, 8, 8, 8, 8, 8, 8, 8, 8, 8] (IntKind.wrap .u8 (i4))) fun c7 =>
 some (.int .i64 (IntKind.wrap .i64 (i5 + (IntKind.wrap .i64 ((c7.toNat : Int))))))) := (Qaf _).trans (by kernel_rfl)
theorem Qf6 (lb n : Nat) (i2 i3 : Int) :
 QeY lb n i2 i3 =
 bif (decide (i2 ≥ 65536)) then
 (QcS lb n  (Int.fdiv i2 (2 ^ 16)) (IntKind.wrap .i64 (i3 + 16)))
 else
 (QcS lb n  i2 i3) := (Qaf _).trans (by kernel_rfl)
theorem QhE (lb n : Nat) (a1 : Int) :
 top lb n Qba [.int .u64 a1] =
 bif (decide (a1 ≥ 4294967296)) then
 (QeY lb n  (Int.fdiv a1 (2 ^ 32)) 32)
 else
 (QeY lb n  a1 0) := by kernel_rfl
end Go.Proofs
