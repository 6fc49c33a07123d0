/- Equations of functions, printed by program. Conditions: none. -/
import Derived.Test.YtdcpdknginpohaaGreatDoorEv
namespace Go.Proofs
open Go.Am
set_option maxRecDepth 100000
set_option linter.unusedVariables false
noncomputable def revision_changed_L1 :=
 fun lb n (kD : Nat) j8 j7 jD jM jE (j3 : Bool) (aleg7 : LL) ye wX wZ wa wk j9 wR wY (wP : Bool) (w3 : LL) yq wb w4 wQ wD wW =>
 hold (Qau (E0 lb n 0 992) 0 (Qae (sub (B Qaq) [1, 1, 1, 1, 0, 1, 0, 0]) ++ [5, 6]) [] (sub (B Qaq) [1, 1, 1, 1, 0, 1, 0, 0]) (Qal 0 (seqK (E0 lb n 0 995) (sub (B Qaq) [1, 1, 1, 1, 0]) (sub (B Qaq) [1, 1, 1, 1, 1]) (retK Tryz.prog (R Qaq) 0 (outK (Qaj Tryz.prog Qaq))))) kD ⟨fr 65 [(0, .val (.agg [.str j8, .int .i64 j7, .int .i64 jD, .int .i64 jM, .int .i64 jE, .list j3 aleg7])), (1, .val (.agg [.int .i64 ye, .str wX, .int .i64 wZ, .int .i64 wa, .int .i64 wk, .int .i64 j9, .int .i64 wR, .str wY, .list wP w3])), (2, .ptr 0 2 0), (3, .ptr 0 3 0), (4, .ptr 0 4 0), (7, vV yq), (8, .ptr 0 2 2), (9, .val (.agg [.int .i64 jD, .int .i64 jM, .int .i64 jE])), (10, .ptr 0 3 3), (11, .val (.agg [.int .i64 wa, .int .i64 wk, .int .i64 j9])), (12, vV yq), (13, vV wb), (14, vV w4), (15, .ptr 0 2 2), (23, .ptr 0 2 5), (24, .val (.list j3 aleg7)), (25, .val (.list true [])), (26, .ptr 0 2 5), (27, .ptr 0 2 5), (28, .val (.list true [])), (29, vI 0), (30, vI 0)], [bx 65 [(2, some [vS j8, vI j7, .val wQ, .val wD, .val wW, .val (.list true [])]), (3, some [vI ye, vS wX, vI wZ, vI wa, vI wk, vI j9, vI wR, vS wY, .val (.list wP w3)]), (4, some [.val (.str []), vI 0, vI 0, vI 0, vI 0, .lst true true 94 []])]], KK⟩)
noncomputable def QlZ (lb n s7 : Nat) (j8 : LB) (j7 jD jM jE : Int) (j3 : Bool) (aleg7 : LL) (ye : Int) (wX : LB) (wZ wa wk j9 wR : Int) (wY : LB) (wP : Bool) (w3 : LL) (yq wb w4 wQ wD wW : CV) : Option CV :=
 hold (Qau (E0 lb n 0 992) 0 (Qae (sub (B Qaq) [1, 1, 1, 1, 0, 1, 0, 0]) ++ [5, 6]) [] (sub (B Qaq) [1, 1, 1, 1, 0, 1, 0, 0]) (Qal 0 (seqK (E0 lb n 0 995) (sub (B Qaq) [1, 1, 1, 1, 0]) (sub (B Qaq) [1, 1, 1, 1, 1]) (retK Tryz.prog (R Qaq) 0 (outK (Qaj Tryz.prog Qaq))))) s7 ⟨fr 65 [(0, .val (.agg [.str j8, .int .i64 j7, .int .i64 jD, .int .i64 jM, .int .i64 jE, .list j3 aleg7])), (1, .val (.agg [.int .i64 ye, .str wX, .int .i64 wZ, .int .i64 wa, .int .i64 wk, .int .i64 j9, .int .i64 wR, .str wY, .list wP w3])), (2, .ptr 0 2 0), (3, .ptr 0 3 0), (4, .ptr 0 4 0), (7, vV yq), (8, .ptr 0 2 2), (9, .val (.agg [.int .i64 jD, .int .i64 jM, .int .i64 jE])), (10, .ptr 0 3 3), (11, .val (.agg [.int .i64 wa, .int .i64 wk, .int .i64 j9])), (12, vV yq), (13, vV wb), (14, vV w4), (15, .ptr 0 2 2), (23, .ptr 0 2 5), (24, .val (.list j3 aleg7)), (25, .val (.list false [])), (26, .ptr 0 2 5), (27, .ptr 0 2 5), (28, .val (.list false [])), (29, vI 0), (30, vI 0)], [bx 65 [(2, some [vS j8, vI j7, .val wQ, .val wD, .val wW, .val (.list false [])]), (3, some [vI ye, vS wX, vI wZ, vI wa, vI wk, vI j9, vI wR, vS wY, .val (.list wP w3)]), (4, some [.val (.str []), vI 0, vI 0, vI 0, vI 0, .lst true true 94 []])]], KK⟩)
noncomputable def Qc6 (lb n mR : Nat) (j8 : LB) (j7 jD jM jE : Int) (j3 : Bool) (aleg7 : LL) (ye : Int) (wX : LB) (wZ wa wk j9 wR : Int) (wY : LB) (wP : Bool) (w3 : LL) (yq wb w4 wQ wD wW : CV) (i43 : Int) (kO : LL) : Option CV :=
 hold (Qau (E0 lb n 0 992) 0 (Qae (sub (B Qaq) [1, 1, 1, 1, 0, 1, 0, 0]) ++ [5, 6]) [] (sub (B Qaq) [1, 1, 1, 1, 0, 1, 0, 0]) (Qal 0 (seqK (E0 lb n 0 995) (sub (B Qaq) [1, 1, 1, 1, 0]) (sub (B Qaq) [1, 1, 1, 1, 1]) (retK Tryz.prog (R Qaq) 0 (outK (Qaj Tryz.prog Qaq))))) mR ⟨fr 65 [(0, .val (.agg [.str j8, .int .i64 j7, .int .i64 jD, .int .i64 jM, .int .i64 jE, .list j3 aleg7])), (1, .val (.agg [.int .i64 ye, .str wX, .int .i64 wZ, .int .i64 wa, .int .i64 wk, .int .i64 j9, .int .i64 wR, .str wY, .list wP w3])), (2, .ptr 0 2 0), (3, .ptr 0 3 0), (4, .ptr 0 4 0), (7, vV yq), (8, .ptr 0 2 2), (9, .val (.agg [.int .i64 jD, .int .i64 jM, .int .i64 jE])), (10, .ptr 0 3 3), (11, .val (.agg [.int .i64 wa, .int .i64 wk, .int .i64 j9])), (12, vV yq), (13, vV wb), (14, vV w4), (15, .ptr 0 2 2), (23, .ptr 0 2 5), (24, .val (.list j3 aleg7)), (25, .rsl 94 0 65 0 aleg7.length aleg7.length), (26, .ptr 0 2 5), (27, .ptr 0 2 5), (28, .rsl 94 0 65 0 aleg7.length aleg7.length), (29, .val (.int .i64 ((aleg7.length : Nat) : Int))), (30, vI i43)], [bx 66 [(2, some [vS j8, vI j7, .val wQ, .val wD, .val wW, .rsl 94 0 65 0 aleg7.length aleg7.length]), (3, some [vI ye, vS wX, vI wZ, vI wa, vI wk, vI j9, vI wR, vS wY, .val (.list wP w3)]), (4, some [.val (.str []), vI 0, vI 0, vI 0, vI 0, .lst true true 94 []]), (65, some [.row 94 kO])]], KK⟩)
noncomputable def Qg5 (lb n : Nat) (j8 : LB) (j7 jD jM jE : Int) (j3 : Bool) (aleg7 : LL) (ye : Int) (wX : LB) (wZ wa wk j9 wR : Int) (wY : LB) (wP : Bool) (w3 : LL) (yq wb w4 wQ wD wW : CV) (l65 : LL) : Option CV :=
 hold (E0 lb n 0 995 (sub (B Qaq) [1, 1, 1, 1, 1]) (retK Tryz.prog (R Qaq) 0 (outK (Qaj Tryz.prog Qaq))) ⟨fr 65 [(0, .val (.agg [.str j8, .int .i64 j7, .int .i64 jD, .int .i64 jM, .int .i64 jE, .list j3 aleg7])), (1, .val (.agg [.int .i64 ye, .str wX, .int .i64 wZ, .int .i64 wa, .int .i64 wk, .int .i64 j9, .int .i64 wR, .str wY, .list wP w3])), (2, .ptr 0 2 0), (3, .ptr 0 3 0), (4, .ptr 0 4 0), (7, vV yq), (8, .ptr 0 2 2), (9, .val (.agg [.int .i64 jD, .int .i64 jM, .int .i64 jE])), (10, .ptr 0 3 3), (11, .val (.agg [.int .i64 wa, .int .i64 wk, .int .i64 j9])), (12, vV yq), (13, vV wb), (14, vV w4), (15, .ptr 0 2 2), (23, .ptr 0 2 5), (24, .val (.list j3 aleg7)), (25, .rsl 94 0 65 0 aleg7.length aleg7.length), (26, .ptr 0 2 5)], [bx 66 [(2, some [vS j8, vI j7, .val wQ, .val wD, .val wW, .rsl 94 0 65 0 aleg7.length aleg7.length]), (3, some [vI ye, vS wX, vI wZ, vI wa, vI wk, vI j9, vI wR, vS wY, .val (.list wP w3)]), (4, some [.val (.str []), vI 0, vI 0, vI 0, vI 0, .lst true true 94 []]), (65, some [.row 94 l65])]], KK⟩)
theorem Qj6 (lb n : Nat) (j8 : LB) (j7 jD jM jE : Int) (j3 : Bool) (aleg7 : LL) (ye : Int) (wX : LB) (wZ wa wk j9 wR : Int) (wY : LB) (wP : Bool) (w3 : LL) (yq wb w4 wQ wD wW : CV) (l65 : LL) :
 Qg5 lb n j8 j7 jD jM jE j3 aleg7 ye wX wZ wa wk j9 wR wY wP w3 yq wb w4 wQ wD wW l65 =
 chkO (decide ((0 + aleg7.length) ≤ l65.length)) (
 some (.agg [.str j8, .int .i64 j7, wQ, wD, wW, .list false ((l65.drop 0).take aleg7.length)])) := (Qad _).trans (by kernel_rfl)
theorem Qfn (lb n mR : Nat) (j8 : LB) (j7 jD jM jE : Int) (j3 : Bool) (aleg7 : LL) (ye : Int) (wX : LB) (wZ wa wk j9 wR : Int) (wY : LB) (wP : Bool) (w3 : LL) (yq wb w4 wQ wD wW : CV) (i43 : Int) (kO : LL) :
 Qc6 lb n (mR + 1) j8 j7 jD jM jE j3 aleg7 ye wX wZ wa wk j9 wR wY wP w3 yq wb w4 wQ wD wW i43 kO =
 bif (decide (i43 < ((aleg7.length : Nat) : Int))) then
 (chkO ((decide (0 ≤ (i43 : Int))) && (decide ((i43 : Int) < ((aleg7.length : Nat) : Int)))) (
 bif (ye == 3) then
 (optO (kO[0 + i43.toNat]?) fun zV =>
 optO (zV[2]?) fun ou =>
 optO (CV.asI .i64 ou) fun kt =>
 optO (kO[0 + i43.toNat]?) fun c58 =>
 chkO (decide ((3 : Nat) ≤ c58.length)) (
 optO ((setN kO (0 + i43.toNat) (Qbk c58 2 [.int .i64 (IntKind.wrap .i64 (kt + wR))]))[0 + i43.toNat]?) fun ld =>
 optO (ld[3]?) fun pJ =>
 optO (CV.asI .i64 pJ) fun ls =>
 optO ((setN kO (0 + i43.toNat) (Qbk c58 2 [.int .i64 (IntKind.wrap .i64 (kt + wR))]))[0 + i43.toNat]?) fun c62 =>
 chkO (decide ((4 : Nat) ≤ c62.length)) (
 Qc6 lb n mR j8 j7 jD jM jE j3 aleg7 ye wX wZ wa wk j9 wR wY wP w3 yq wb w4 wQ wD wW (IntKind.wrap .i64 (i43 + 1)) (setN (setN kO (0 + i43.toNat) (Qbk c58 2 [.int .i64 (IntKind.wrap .i64 (kt + wR))])) (0 + i43.toNat) (Qbk c62 3 [.int .i64 (IntKind.wrap .i64 (ls + wR))])))))
 else
 (optO (kO[0 + i43.toNat]?) fun c63 =>
 chkO (decide ((5 : Nat) ≤ c63.length)) (
 Qc6 lb n mR j8 j7 jD jM jE j3 aleg7 ye wX wZ wa wk j9 wR wY wP w3 yq wb w4 wQ wD wW (IntKind.wrap .i64 (i43 + 1)) (setN kO (0 + i43.toNat) (Qbk c63 4 [.str wY]))))))
 else
 (Qg5 lb n j8 j7 jD jM jE j3 aleg7 ye wX wZ wa wk j9 wR wY wP w3 yq wb w4 wQ wD wW kO) := (Qad _).trans (by kernel_rfl)
theorem Ql3 (lb n : Nat) (j8 : LB) (j7 jD jM jE : Int) (j3 : Bool) (aleg7 : LL) (ye : Int) (wX : LB) (wZ wa wk j9 wR : Int) (wY : LB) (wP : Bool) (w3 : LL) :
 top lb n Qaq [.agg [.str j8, .int .i64 j7, .int .i64 jD, .int .i64 jM, .int .i64 jE, .list j3 aleg7], .agg [.int .i64 ye, .str wX, .int .i64 wZ, .int .i64 wa, .int .i64 wk, .int .i64 j9, .int .i64 wR, .str wY, .list wP w3]] =
 optO (C lb n Qgf [.agg [.int .i64 jD, .int .i64 jM, .int .i64 jE], .agg [.int .i64 wa, .int .i64 wk, .int .i64 j9]]) fun yq =>
 optO (CV.asT yq) fun t21 =>
 optO (t21[0]?) fun wb =>
 optO (CV.asT yq) fun mQ =>
 optO (mQ[1]?) fun w4 =>
 optO (CV.asA wb) fun c25 =>
 chkO (c25.length == 3) (
 optO (c25[0]?) fun wQ =>
 optO (c25[1]?) fun wD =>
 optO (c25[2]?) fun wW =>
 bif (ye == 5) then
 (some (.agg [.str j8, .int .i64 j7, wQ, wD, wW, .list wP w3]))
 else
 (bif j3 then
 (revision_changed_L1 lb n n j8 j7 jD jM jE j3 aleg7 ye wX wZ wa wk j9 wR wY wP w3 yq wb w4 wQ wD wW )
 else
 (chkO (aleg7.all (·.length == 5)) (
 chkO (room aleg7.length 64) (
 bif aleg7.isEmpty then
 (QlZ lb n n j8 j7 jD jM jE j3 aleg7 ye wX wZ wa wk j9 wR wY wP w3 yq wb w4 wQ wD wW )
 else
 (Qc6 lb n n j8 j7 jD jM jE j3 aleg7 ye wX wZ wa wk j9 wR wY wP w3 yq wb w4 wQ wD wW 0 aleg7)))))) := by kernel_rfl
end Go.Proofs
