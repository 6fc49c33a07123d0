/- Equations of functions, printed by program. Conditions: none. -/
import Derived.Test.YtdcpdknginpohaaGreatDoorEv
namespace Go.Proofs
open Go.Am
set_option maxRecDepth 100000
set_option linter.unusedVariables false
noncomputable def revision_changed_L1 :=
 fun lb n (kL : Nat) we wd jH jP jJ (j8 : Bool) (aleg7 : LL) yl wX w3 wg wp wh wQ wZ (wP : Bool) (wY : LL) yz wi w6 wR wC y8 =>
 hold (Qas (E0 lb n 0 992) 0 (Qad (sub (B Qav) [1, 1, 1, 1, 0, 1, 0, 0]) ++ [5, 6]) [] (sub (B Qav) [1, 1, 1, 1, 0, 1, 0, 0]) (Qaj 0 (seqK (E0 lb n 0 995) (sub (B Qav) [1, 1, 1, 1, 0]) (sub (B Qav) [1, 1, 1, 1, 1]) (retK Tryz.prog (R Qav) 0 (outK (Qag Tryz.prog Qav))))) kL ⟨fr 65 [(0, .val (.agg [.str we, .int .i64 wd, .int .i64 jH, .int .i64 jP, .int .i64 jJ, .list j8 aleg7])), (1, .val (.agg [.int .i64 yl, .str wX, .int .i64 w3, .int .i64 wg, .int .i64 wp, .int .i64 wh, .int .i64 wQ, .str wZ, .list wP wY])), (2, .ptr 0 2 0), (3, .ptr 0 3 0), (4, .ptr 0 4 0), (7, vV yz), (8, .ptr 0 2 2), (9, .val (.agg [.int .i64 jH, .int .i64 jP, .int .i64 jJ])), (10, .ptr 0 3 3), (11, .val (.agg [.int .i64 wg, .int .i64 wp, .int .i64 wh])), (12, vV yz), (13, vV wi), (14, vV w6), (15, .ptr 0 2 2), (23, .ptr 0 2 5), (24, .val (.list j8 aleg7)), (25, .val (.list true [])), (26, .ptr 0 2 5), (27, .ptr 0 2 5), (28, .val (.list true [])), (29, vI 0), (30, vI 0)], [bx 65 [(2, some [vS we, vI wd, .val wR, .val wC, .val y8, .val (.list true [])]), (3, some [vI yl, vS wX, vI w3, vI wg, vI wp, vI wh, vI wQ, vS wZ, .val (.list wP wY)]), (4, some [.val (.str []), vI 0, vI 0, vI 0, vI 0, .lst true true 94 []])]], KK⟩)
noncomputable def Qmk (lb n lM : Nat) (we : LB) (wd jH jP jJ : Int) (j8 : Bool) (aleg7 : LL) (yl : Int) (wX : LB) (w3 wg wp wh wQ : Int) (wZ : LB) (wP : Bool) (wY : LL) (yz wi w6 wR wC y8 : CV) : Option CV :=
 hold (Qas (E0 lb n 0 992) 0 (Qad (sub (B Qav) [1, 1, 1, 1, 0, 1, 0, 0]) ++ [5, 6]) [] (sub (B Qav) [1, 1, 1, 1, 0, 1, 0, 0]) (Qaj 0 (seqK (E0 lb n 0 995) (sub (B Qav) [1, 1, 1, 1, 0]) (sub (B Qav) [1, 1, 1, 1, 1]) (retK Tryz.prog (R Qav) 0 (outK (Qag Tryz.prog Qav))))) lM ⟨fr 65 [(0, .val (.agg [.str we, .int .i64 wd, .int .i64 jH, .int .i64 jP, .int .i64 jJ, .list j8 aleg7])), (1, .val (.agg [.int .i64 yl, .str wX, .int .i64 w3, .int .i64 wg, .int .i64 wp, .int .i64 wh, .int .i64 wQ, .str wZ, .list wP wY])), (2, .ptr 0 2 0), (3, .ptr 0 3 0), (4, .ptr 0 4 0), (7, vV yz), (8, .ptr 0 2 2), (9, .val (.agg [.int .i64 jH, .int .i64 jP, .int .i64 jJ])), (10, .ptr 0 3 3), (11, .val (.agg [.int .i64 wg, .int .i64 wp, .int .i64 wh])), (12, vV yz), (13, vV wi), (14, vV w6), (15, .ptr 0 2 2), (23, .ptr 0 2 5), (24, .val (.list j8 aleg7)), (25, .val (.list false [])), (26, .ptr 0 2 5), (27, .ptr 0 2 5), (28, .val (.list false [])), (29, vI 0), (30, vI 0)], [bx 65 [(2, some [vS we, vI wd, .val wR, .val wC, .val y8, .val (.list false [])]), (3, some [vI yl, vS wX, vI w3, vI wg, vI wp, vI wh, vI wQ, vS wZ, .val (.list wP wY)]), (4, some [.val (.str []), vI 0, vI 0, vI 0, vI 0, .lst true true 94 []])]], KK⟩)
noncomputable def Qc9 (lb n ns : Nat) (we : LB) (wd jH jP jJ : Int) (j8 : Bool) (aleg7 : LL) (yl : Int) (wX : LB) (w3 wg wp wh wQ : Int) (wZ : LB) (wP : Bool) (wY : LL) (yz wi w6 wR wC y8 : CV) (i43 : Int) (oa : LL) : Option CV :=
 hold (Qas (E0 lb n 0 992) 0 (Qad (sub (B Qav) [1, 1, 1, 1, 0, 1, 0, 0]) ++ [5, 6]) [] (sub (B Qav) [1, 1, 1, 1, 0, 1, 0, 0]) (Qaj 0 (seqK (E0 lb n 0 995) (sub (B Qav) [1, 1, 1, 1, 0]) (sub (B Qav) [1, 1, 1, 1, 1]) (retK Tryz.prog (R Qav) 0 (outK (Qag Tryz.prog Qav))))) ns ⟨fr 65 [(0, .val (.agg [.str we, .int .i64 wd, .int .i64 jH, .int .i64 jP, .int .i64 jJ, .list j8 aleg7])), (1, .val (.agg [.int .i64 yl, .str wX, .int .i64 w3, .int .i64 wg, .int .i64 wp, .int .i64 wh, .int .i64 wQ, .str wZ, .list wP wY])), (2, .ptr 0 2 0), (3, .ptr 0 3 0), (4, .ptr 0 4 0), (7, vV yz), (8, .ptr 0 2 2), (9, .val (.agg [.int .i64 jH, .int .i64 jP, .int .i64 jJ])), (10, .ptr 0 3 3), (11, .val (.agg [.int .i64 wg, .int .i64 wp, .int .i64 wh])), (12, vV yz), (13, vV wi), (14, vV w6), (15, .ptr 0 2 2), (23, .ptr 0 2 5), (24, .val (.list j8 aleg7)), (25, .rsl 94 0 65 0 aleg7.length aleg7.length), (26, .ptr 0 2 5), (27, .ptr 0 2 5), (28, .rsl 94 0 65 0 aleg7.length aleg7.length), (29, .val (.int .i64 ((aleg7.length : Nat) : Int))), (30, vI i43)], [bx 66 [(2, some [vS we, vI wd, .val wR, .val wC, .val y8, .rsl 94 0 65 0 aleg7.length aleg7.length]), (3, some [vI yl, vS wX, vI w3, vI wg, vI wp, vI wh, vI wQ, vS wZ, .val (.list wP wY)]), (4, some [.val (.str []), vI 0, vI 0, vI 0, vI 0, .lst true true 94 []]), (65, some [.row 94 oa])]], KK⟩)
noncomputable def Qhm (lb n : Nat) (we : LB) (wd jH jP jJ : Int) (j8 : Bool) (aleg7 : LL) (yl : Int) (wX : LB) (w3 wg wp wh wQ : Int) (wZ : LB) (wP : Bool) (wY : LL) (yz wi w6 wR wC y8 : CV) (l65 : LL) : Option CV :=
 hold (E0 lb n 0 995 (sub (B Qav) [1, 1, 1, 1, 1]) (retK Tryz.prog (R Qav) 0 (outK (Qag Tryz.prog Qav))) ⟨fr 65 [(0, .val (.agg [.str we, .int .i64 wd, .int .i64 jH, .int .i64 jP, .int .i64 jJ, .list j8 aleg7])), (1, .val (.agg [.int .i64 yl, .str wX, .int .i64 w3, .int .i64 wg, .int .i64 wp, .int .i64 wh, .int .i64 wQ, .str wZ, .list wP wY])), (2, .ptr 0 2 0), (3, .ptr 0 3 0), (4, .ptr 0 4 0), (7, vV yz), (8, .ptr 0 2 2), (9, .val (.agg [.int .i64 jH, .int .i64 jP, .int .i64 jJ])), (10, .ptr 0 3 3), (11, .val (.agg [.int .i64 wg, .int .i64 wp, .int .i64 wh])), (12, vV yz), (13, vV wi), (14, vV w6), (15, .ptr 0 2 2), (23, .ptr 0 2 5), (24, .val (.list j8 aleg7)), (25, .rsl 94 0 65 0 aleg7.length aleg7.length), (26, .ptr 0 2 5)], [bx 66 [(2, some [vS we, vI wd, .val wR, .val wC, .val y8, .rsl 94 0 65 0 aleg7.length aleg7.length]), (3, some [vI yl, vS wX, vI w3, vI wg, vI wp, vI wh, vI wQ, vS wZ, .val (.list wP wY)]), (4, some [.val (.str []), vI 0, vI 0, vI 0, vI 0, .lst true true 94 []]), (65, some [.row 94 l65])]], KK⟩)
theorem Qkd (lb n : Nat) (we : LB) (wd jH jP jJ : Int) (j8 : Bool) (aleg7 : LL) (yl : Int) (wX : LB) (w3 wg wp wh wQ : Int) (wZ : LB) (wP : Bool) (wY : LL) (yz wi w6 wR wC y8 : CV) (l65 : LL) :
 Qhm lb n we wd jH jP jJ j8 aleg7 yl wX w3 wg wp wh wQ wZ wP wY yz wi w6 wR wC y8 l65 =
 chkO (decide ((0 + aleg7.length) ≤ l65.length)) (
 some (.agg [.str we, .int .i64 wd, wR, wC, y8, .list false ((l65.drop 0).take aleg7.length)])) := (Qaf _).trans (by kernel_rfl)
theorem Qfw (lb n ns : Nat) (we : LB) (wd jH jP jJ : Int) (j8 : Bool) (aleg7 : LL) (yl : Int) (wX : LB) (w3 wg wp wh wQ : Int) (wZ : LB) (wP : Bool) (wY : LL) (yz wi w6 wR wC y8 : CV) (i43 : Int) (oa : LL) :
 Qc9 lb n (ns + 1) we wd jH jP jJ j8 aleg7 yl wX w3 wg wp wh wQ wZ wP wY yz wi w6 wR wC y8 i43 oa =
 bif (decide (i43 < ((aleg7.length : Nat) : Int))) then
 (chkO ((decide (0 ≤ (i43 : Int))) && (decide ((i43 : Int) < ((aleg7.length : Nat) : Int)))) (
 bif (yl == 3) then
 (optO (oa[0 + i43.toNat]?) fun zm =>
 optO (zm[2]?) fun oL =>
 optO (CV.asI .i64 oL) fun pR =>
 optO (oa[0 + i43.toNat]?) fun c58 =>
 chkO (decide ((3 : Nat) ≤ c58.length)) (
 optO ((setN oa (0 + i43.toNat) (Qbp c58 2 [.int .i64 (IntKind.wrap .i64 (pR + wQ))]))[0 + i43.toNat]?) fun zI =>
 optO (zI[3]?) fun zU =>
 optO (CV.asI .i64 zU) fun la =>
 optO ((setN oa (0 + i43.toNat) (Qbp c58 2 [.int .i64 (IntKind.wrap .i64 (pR + wQ))]))[0 + i43.toNat]?) fun c62 =>
 chkO (decide ((4 : Nat) ≤ c62.length)) (
 Qc9 lb n ns we wd jH jP jJ j8 aleg7 yl wX w3 wg wp wh wQ wZ wP wY yz wi w6 wR wC y8 (IntKind.wrap .i64 (i43 + 1)) (setN (setN oa (0 + i43.toNat) (Qbp c58 2 [.int .i64 (IntKind.wrap .i64 (pR + wQ))])) (0 + i43.toNat) (Qbp c62 3 [.int .i64 (IntKind.wrap .i64 (la + wQ))])))))
 else
 (optO (oa[0 + i43.toNat]?) fun c63 =>
 chkO (decide ((5 : Nat) ≤ c63.length)) (
 Qc9 lb n ns we wd jH jP jJ j8 aleg7 yl wX w3 wg wp wh wQ wZ wP wY yz wi w6 wR wC y8 (IntKind.wrap .i64 (i43 + 1)) (setN oa (0 + i43.toNat) (Qbp c63 4 [.str wZ]))))))
 else
 (Qhm lb n we wd jH jP jJ j8 aleg7 yl wX w3 wg wp wh wQ wZ wP wY yz wi w6 wR wC y8 oa) := (Qaf _).trans (by kernel_rfl)
theorem Qmi (lb n : Nat) (we : LB) (wd jH jP jJ : Int) (j8 : Bool) (aleg7 : LL) (yl : Int) (wX : LB) (w3 wg wp wh wQ : Int) (wZ : LB) (wP : Bool) (wY : LL) :
 top lb n Qav [.agg [.str we, .int .i64 wd, .int .i64 jH, .int .i64 jP, .int .i64 jJ, .list j8 aleg7], .agg [.int .i64 yl, .str wX, .int .i64 w3, .int .i64 wg, .int .i64 wp, .int .i64 wh, .int .i64 wQ, .str wZ, .list wP wY]] =
 optO (C lb n QeW [.agg [.int .i64 jH, .int .i64 jP, .int .i64 jJ], .agg [.int .i64 wg, .int .i64 wp, .int .i64 wh]]) fun yz =>
 optO (CV.asT yz) fun t21 =>
 optO (t21[0]?) fun wi =>
 optO (CV.asT yz) fun pS =>
 optO (pS[1]?) fun w6 =>
 optO (CV.asA wi) fun c25 =>
 chkO (c25.length == 3) (
 optO (c25[0]?) fun wR =>
 optO (c25[1]?) fun wC =>
 optO (c25[2]?) fun y8 =>
 bif (yl == 5) then
 (some (.agg [.str we, .int .i64 wd, wR, wC, y8, .list wP wY]))
 else
 (bif j8 then
 (revision_changed_L1 lb n n we wd jH jP jJ j8 aleg7 yl wX w3 wg wp wh wQ wZ wP wY yz wi w6 wR wC y8 )
 else
 (chkO (aleg7.all (·.length == 5)) (
 chkO (room aleg7.length 64) (
 bif aleg7.isEmpty then
 (Qmk lb n n we wd jH jP jJ j8 aleg7 yl wX w3 wg wp wh wQ wZ wP wY yz wi w6 wR wC y8 )
 else
 (Qc9 lb n n we wd jH jP jJ j8 aleg7 yl wX w3 wg wp wh wQ wZ wP wY yz wi w6 wR wC y8 0 aleg7)))))) := by kernel_rfl
end Go.Proofs
