/- Equations of functions, printed by program. Conditions: none. -/
import Derived.Test.YtdcpdknginpohaaGreatDoorEv
namespace Go.Proofs
open Go.Am
set_option maxRecDepth 100000
set_option linter.unusedVariables false
noncomputable def r06_Find_L1 :=
 fun lb n (vX : Nat) (ja : Bool) (aair2 : LL) (jb : Bool) (adis4 : LL) b5 yp =>
 hold (Qau (E0 lb n 0 995) 0 (Qae (sub (B QbF) [1, 0, 1, 0, 0]) ++ []) [] (sub (B QbF) [1, 0, 1, 0, 0]) (Qal 0 (seqK (E0 lb n 0 998) (sub (B QbF) [1, 0]) (sub (B QbF) [1, 1]) (retK Tryz.prog (R QbF) 0 (outK (Qaj Tryz.prog QbF))))) vX ⟨fr 28 [(0, .val (.agg [.list ja aair2, .list jb adis4])), (1, vS b5), (2, .ptr 0 2 0), (4, .ptr 0 4 0), (5, vB false), (6, vI yp)], [bx 28 [(2, some [.val (.list ja aair2), .val (.list jb adis4)]), (4, some [.val (.str []), .val (.str []), .val (.str []), vI 0, .lst true true 195 []])]], KK⟩)
noncomputable def Qom (lb n : Nat) (ja : Bool) (aair2 : LL) (jb : Bool) (adis4 : LL) (b5 : LB) (vM : Int) : Option CV :=
 hold (E0 lb n 0 998 (sub (B QbF) [1, 1]) (retK Tryz.prog (R QbF) 0 (outK (Qaj Tryz.prog QbF))) ⟨fr 28 [(0, .val (.agg [.list ja aair2, .list jb adis4])), (1, vS b5), (2, .ptr 0 2 0), (4, .ptr 0 4 0), (5, vB false), (6, vI vM)], [bx 28 [(2, some [.val (.list ja aair2), .val (.list jb adis4)]), (4, some [.val (.str []), .val (.str []), .val (.str []), vI 0, .lst true true 195 []])]], KK⟩)
theorem Qq7 (lb n : Nat) (ja : Bool) (aair2 : LL) (jb : Bool) (adis4 : LL) (b5 : LB) (vM : Int) :
 Qom lb n ja aair2 jb adis4 b5 vM =
 some (.tup [.agg [.str [], .str [], .str [], .int .i64 0, .list true []], .bool false]) := (Qad _).trans (by kernel_rfl)
theorem Qi0 (lb n vX : Nat) (ja : Bool) (aair2 : LL) (jb : Bool) (adis4 : LL) (b5 : LB) (yp : Int) :
 r06_Find_L1 lb n (vX + 1) ja aair2 jb adis4 b5 yp =
 bif (decide (yp < (aair2.length : Int))) then
 (optO (atL aair2 yp) fun c28 =>
 chkO (c28.length == 5) (
 optO (c28[0]?) fun wx =>
 optO (CV.asS wx) fun gh =>
 bif (gh == b5) then
 (optO (atL aair2 yp) fun c31 =>
 chkO (c31.length == 5) (
 optO (c31[0]?) fun wS =>
 optO (c31[1]?) fun wC =>
 optO (c31[2]?) fun yt =>
 optO (c31[3]?) fun yA =>
 optO (c31[4]?) fun yr =>
 some (.tup [.agg [wS, wC, yt, yA, yr], .bool true])))
 else
 (r06_Find_L1 lb n vX ja aair2 jb adis4 b5 (IntKind.wrap .i64 (yp + 1)))))
 else
 (Qom lb n ja aair2 jb adis4 b5 yp) := (Qad _).trans (by kernel_rfl)
theorem Quw (lb n : Nat) (ja : Bool) (aair2 : LL) (jb : Bool) (adis4 : LL) (b5 : LB) :
 top lb n QbF [.agg [.list ja aair2, .list jb adis4], .str b5] =
 r06_Find_L1 lb n n ja aair2 jb adis4 b5 0 := by kernel_rfl
noncomputable def QfH (lb n oC : Nat) (ja : Bool) (aair2 : LL) (jb : Bool) (adis4 : LL) (b5 : LB) (y5 : Int) : Option CV :=
 hold (Qau (E0 lb n 0 995) 0 (Qae (sub (B Qbh) [1, 0, 1, 0, 0]) ++ []) [7] (sub (B Qbh) [1, 0, 1, 0, 0]) (Qal 0 (seqK (E0 lb n 0 998) (sub (B Qbh) [1, 0]) (sub (B Qbh) [1, 1]) (retK Tryz.prog (R Qbh) 0 (outK (Qaj Tryz.prog Qbh))))) oC ⟨fr 22 [(0, .val (.agg [.list ja aair2, .list jb adis4])), (1, vS b5), (2, .ptr 0 2 0), (4, .ptr 0 4 0), (5, vB false), (8, .ptr 0 2 0), (9, .val (.list ja aair2)), (10, .val (.int .i64 (aair2.length : Int))), (11, vI y5)], [bx 22 [(2, some [.val (.list ja aair2), .val (.list jb adis4)]), (4, some [.val (.str []), .val (.str []), .val (.str []), vI 0, .lst true true 195 []])]], KK⟩)
noncomputable def QkK (lb n : Nat) (ja : Bool) (aair2 : LL) (jb : Bool) (adis4 : LL) (b5 : LB) : Option CV :=
 hold (E0 lb n 0 998 (sub (B Qbh) [1, 1]) (retK Tryz.prog (R Qbh) 0 (outK (Qaj Tryz.prog Qbh))) ⟨fr 22 [(0, .val (.agg [.list ja aair2, .list jb adis4])), (1, vS b5), (2, .ptr 0 2 0), (4, .ptr 0 4 0), (5, vB false)], [bx 22 [(2, some [.val (.list ja aair2), .val (.list jb adis4)]), (4, some [.val (.str []), .val (.str []), .val (.str []), vI 0, .lst true true 195 []])]], KK⟩)
theorem QnT (lb n : Nat) (ja : Bool) (aair2 : LL) (jb : Bool) (adis4 : LL) (b5 : LB) :
 QkK lb n ja aair2 jb adis4 b5 =
 some (.tup [.agg [.str [], .str [], .str [], .int .i64 0, .list true []], .bool false]) := (Qad _).trans (by kernel_rfl)
theorem Qg4 (lb n oC : Nat) (ja : Bool) (aair2 : LL) (jb : Bool) (adis4 : LL) (b5 : LB) (y5 : Int) :
 QfH lb n (oC + 1) ja aair2 jb adis4 b5 y5 =
 bif (decide (y5 < (aair2.length : Int))) then
 (optO (atL aair2 y5) fun c24 =>
 chkO (c24.length == 5) (
 optO (c24[0]?) fun wI =>
 optO (c24[1]?) fun wQ =>
 optO (c24[2]?) fun wD =>
 optO (c24[3]?) fun wW =>
 optO (c24[4]?) fun wx =>
 optO (CV.asS wI) fun gh =>
 bif (gh == b5) then
 (some (.tup [.agg [wI, wQ, wD, wW, wx], .bool true]))
 else
 (QfH lb n oC ja aair2 jb adis4 b5 (IntKind.wrap .i64 (y5 + 1)))))
 else
 (QkK lb n ja aair2 jb adis4 b5 ) := (Qad _).trans (by kernel_rfl)
theorem QqV (lb n : Nat) (ja : Bool) (aair2 : LL) (jb : Bool) (adis4 : LL) (b5 : LB) :
 top lb n Qbh [.agg [.list ja aair2, .list jb adis4], .str b5] =
 QfH lb n n ja aair2 jb adis4 b5 0 := by kernel_rfl
noncomputable def QhK (lb n vX : Nat) (j6 : Int) (j4 : Bool) (ashi3 : LL) (b4 : Int) (r5 : CV) (p6 : Bool × LL) (yp yw : Int) : Option CV :=
 hold (Qau (E0 lb n 0 994) 0 (Qae (sub (B QbE) [1, 1, 0, 1, 0, 0]) ++ []) [7] (sub (B QbE) [1, 1, 0, 1, 0, 0]) (Qal 0 (seqK (E0 lb n 0 997) (sub (B QbE) [1, 1, 0]) (sub (B QbE) [1, 1, 1]) (retK Tryz.prog (R QbE) 0 (outK (Qaj Tryz.prog QbE))))) vX ⟨fr 28 [(0, .val (.agg [.int .i64 j6, .list j4 ashi3])), (1, vI b4), (2, .ptr 0 2 0), (4, vI 0), (5, vI yp), (8, .val (.agg [.int .i64 j6, .list j4 ashi3])), (9, vV r5), (10, .val (.int .i64 (p6.2.length : Int))), (11, vI yw)], [bx 28 [(2, some [vI j6, .val (.list j4 ashi3)])]], KK⟩)
noncomputable def Qob (lb n : Nat) (j6 : Int) (j4 : Bool) (ashi3 : LL) (b4 i37 : Int) (pu pB pt : CV) : Option CV :=
 hold (E0 lb n 0 997 (sub (B QbE) [1, 1, 1]) (retK Tryz.prog (R QbE) 0 (outK (Qaj Tryz.prog QbE))) ⟨fr 28 [(0, .val (.agg [.int .i64 j6, .list j4 ashi3])), (1, vI b4), (2, .ptr 0 2 0), (4, vI 0), (5, vI i37)], [bx 28 [(2, some [vI j6, .val (.list j4 ashi3)]), (7, some [.val pu, .val pB, .val pt])]], KK⟩)
theorem QqM (lb n : Nat) (j6 : Int) (j4 : Bool) (ashi3 : LL) (b4 i37 : Int) (pu pB pt : CV) :
 Qob lb n j6 j4 ashi3 b4 i37 pu pB pt =
 some (.int .i64 i37) := (Qad _).trans (by kernel_rfl)
noncomputable def Qol (lb n : Nat) (j6 : Int) (j4 : Bool) (ashi3 : LL) (b4 nD : Int) : Option CV :=
 hold (E0 lb n 0 997 (sub (B QbE) [1, 1, 1]) (retK Tryz.prog (R QbE) 0 (outK (Qaj Tryz.prog QbE))) ⟨fr 28 [(0, .val (.agg [.int .i64 j6, .list j4 ashi3])), (1, vI b4), (2, .ptr 0 2 0), (4, vI 0), (5, vI nD)], [bx 28 [(2, some [vI j6, .val (.list j4 ashi3)])]], KK⟩)
theorem QqN (lb n : Nat) (j6 : Int) (j4 : Bool) (ashi3 : LL) (b4 nD : Int) :
 Qol lb n j6 j4 ashi3 b4 nD =
 some (.int .i64 nD) := (Qad _).trans (by kernel_rfl)
theorem QiR (lb n vX : Nat) (j6 : Int) (j4 : Bool) (ashi3 : LL) (b4 : Int) (r5 : CV) (p6 : Bool × LL) (yp yw : Int) :
 QhK lb n (vX + 1) j6 j4 ashi3 b4 r5 p6 yp yw =
 bif (decide (yw < (p6.2.length : Int))) then
 (optO (CV.asL r5) fun lm =>
 optO (atL lm.2 yw) fun c29 =>
 chkO (c29.length == 3) (
 optO (c29[0]?) fun wH =>
 optO (c29[1]?) fun wj =>
 optO (c29[2]?) fun wS =>
 optO (CV.asI .i64 wS) fun kS =>
 optO (CV.asI .i64 wH) fun oR =>
 optO (CV.asI .i64 wj) fun vl =>
 bif (decide ((if (IntKind.wrap .i64 (b4 - kS)) > oR then (IntKind.wrap .i64 (b4 - kS)) else oR) < vl)) then
 (Qob lb n j6 j4 ashi3 b4 (if (IntKind.wrap .i64 (b4 - kS)) > oR then (IntKind.wrap .i64 (b4 - kS)) else oR) wH wj wS)
 else
 (QhK lb n vX j6 j4 ashi3 b4 r5 p6 (if (IntKind.wrap .i64 (b4 - kS)) > oR then (IntKind.wrap .i64 (b4 - kS)) else oR) (IntKind.wrap .i64 (yw + 1)))))
 else
 (Qol lb n j6 j4 ashi3 b4 yp) := (Qad _).trans (by kernel_rfl)
theorem Qun (lb n : Nat) (j6 : Int) (j4 : Bool) (ashi3 : LL) (b4 : Int) :
 top lb n QbE [.agg [.int .i64 j6, .list j4 ashi3], .int .i64 b4] =
 optO (C lb n QgP [.agg [.int .i64 j6, .list j4 ashi3]]) fun r5 =>
 optO (CV.asL r5) fun p6 =>
 QhK lb n n j6 j4 ashi3 b4 r5 p6 0 0 := by kernel_rfl
noncomputable def Qiq (lb n vX : Nat) (j6 : Int) (j4 : Bool) (ashi3 : LL) (b4 kM yp : Int) : Option CV :=
 hold (Qau (E0 lb n 0 994) 0 (Qae (sub (B Qc1) [1, 1, 0, 1, 0, 0]) ++ []) [] (sub (B Qc1) [1, 1, 0, 1, 0, 0]) (Qal 0 (seqK (E0 lb n 0 997) (sub (B Qc1) [1, 1, 0]) (sub (B Qc1) [1, 1, 1]) (retK Tryz.prog (R Qc1) 0 (outK (Qaj Tryz.prog Qc1))))) vX ⟨fr 43 [(0, .val (.agg [.int .i64 j6, .list j4 ashi3])), (1, vI b4), (2, .ptr 0 2 0), (4, vI 0), (5, vI kM), (6, vI yp), (7, vI b4), (8, .ptr 0 2 0), (9, vI j6), (10, .val (.int .i64 (IntKind.wrap .i64 (b4 - j6))))], [bx 43 [(2, some [vI j6, .val (.list j4 ashi3)])]], KK⟩)
noncomputable def Qpi (lb n : Nat) (j6 : Int) (j4 : Bool) (ashi3 : LL) (b4 vM kE : Int) : Option CV :=
 hold (E0 lb n 0 997 (sub (B Qc1) [1, 1, 1]) (retK Tryz.prog (R Qc1) 0 (outK (Qaj Tryz.prog Qc1))) ⟨fr 43 [(0, .val (.agg [.int .i64 j6, .list j4 ashi3])), (1, vI b4), (2, .ptr 0 2 0), (4, vI 0), (5, vI vM), (6, vI kE), (7, vI b4), (8, .ptr 0 2 0), (9, vI j6), (10, .val (.int .i64 (IntKind.wrap .i64 (b4 - j6))))], [bx 43 [(2, some [vI j6, .val (.list j4 ashi3)])]], KK⟩)
theorem Qr8 (lb n : Nat) (j6 : Int) (j4 : Bool) (ashi3 : LL) (b4 vM kE : Int) :
 Qpi lb n j6 j4 ashi3 b4 vM kE =
 some (.int .i64 vM) := (Qad _).trans (by kernel_rfl)
theorem QjR (lb n vX : Nat) (j6 : Int) (j4 : Bool) (ashi3 : LL) (b4 kM yp : Int) :
 Qiq lb n (vX + 1) j6 j4 ashi3 b4 kM yp =
 bif (decide (yp < (ashi3.length : Int))) then
 (optO (atL ashi3 yp) fun c28 =>
 chkO (c28.length == 2) (
 optO (c28[0]?) fun wx =>
 optO (CV.asI .i64 wx) fun oM =>
 bif (decide (kM < oM)) then
 (some (.int .i64 kM))
 else
 (optO (atL ashi3 yp) fun c31 =>
 chkO (c31.length == 2) (
 optO (c31[0]?) fun wS =>
 optO (atL ashi3 yp) fun c34 =>
 chkO (c34.length == 2) (
 optO (c34[1]?) fun yt =>
 optO (CV.asI .i64 yt) fun vl =>
 optO (CV.asI .i64 wS) fun i37 =>
 Qiq lb n vX j6 j4 ashi3 b4 (if (IntKind.wrap .i64 (b4 - vl)) > i37 then (IntKind.wrap .i64 (b4 - vl)) else i37) (IntKind.wrap .i64 (yp + 1)))))))
 else
 (Qpi lb n j6 j4 ashi3 b4 kM yp) := (Qad _).trans (by kernel_rfl)
theorem QvR (lb n : Nat) (j6 : Int) (j4 : Bool) (ashi3 : LL) (b4 : Int) :
 top lb n Qc1 [.agg [.int .i64 j6, .list j4 ashi3], .int .i64 b4] =
 Qiq lb n n j6 j4 ashi3 b4 (IntKind.wrap .i64 (b4 - j6)) 0 := by kernel_rfl
theorem Qp3 (lb n : Nat) (ja : Bool) (aair2 : LL) (jb : Bool) (adis4 : LL) (nU pA : LB) (nR nP : Int) (pw : LB) (c11 : Int) :
 top lb n Qho [.agg [.list ja aair2, .list jb adis4], .agg [.str nU, .str pA, .int .i64 nR, .int .i64 nP, .str pw], .int .i64 c11] =
 optO (C lb n Qbh [.agg [.list ja aair2, .list jb adis4], .str nU]) fun yH =>
 optO (CV.asT yH) fun mJ =>
 optO (mJ[0]?) fun yB =>
 optO (CV.asT yH) fun mP =>
 optO (mP[1]?) fun oT =>
 optO (CV.asA yB) fun c18 =>
 chkO (c18.length == 5) (
 optO (c18[0]?) fun w7 =>
 optO (c18[1]?) fun wz =>
 optO (c18[2]?) fun ya =>
 optO (c18[3]?) fun wb =>
 optO (c18[4]?) fun x23 =>
 optO (C lb n Qbh [.agg [.list ja aair2, .list jb adis4], .str pA]) fun vO =>
 optO (CV.asT vO) fun pL =>
 optO (pL[0]?) fun wQ =>
 optO (CV.asT vO) fun pC =>
 optO (pC[1]?) fun wW =>
 optO (CV.asA wQ) fun c29 =>
 chkO (c29.length == 5) (
 optO (c29[0]?) fun wH =>
 optO (c29[1]?) fun wj =>
 optO (c29[2]?) fun wS =>
 optO (c29[3]?) fun wC =>
 optO (c29[4]?) fun yt =>
 optO (C lb n QbE [.agg [wb, x23], .int .i64 (IntKind.wrap .i64 ((IntKind.wrap .i64 (c11 * 1440)) + nR))]) fun nW =>
 optO (C lb n QbE [.agg [wC, yt], .int .i64 (IntKind.wrap .i64 ((IntKind.wrap .i64 (c11 * 1440)) + nP))]) fun o5 =>
 some (.tup [nW, o5]))) := by kernel_rfl
theorem QvS (lb n : Nat) (ja : Bool) (aair2 : LL) (jb : Bool) (adis4 : LL) (b5 : LB) (c6 d7 : Int) :
 top lb n QjK [.agg [.list ja aair2, .list jb adis4], .str b5, .int .i64 c6, .int .i64 d7] =
 optO (C lb n QbF [.agg [.list ja aair2, .list jb adis4], .str b5]) fun r9 =>
 optO (CV.asT r9) fun pE =>
 optO (pE[0]?) fun wd =>
 optO (CV.asT r9) fun mL =>
 optO (mL[1]?) fun wA =>
 optO (CV.asA wd) fun c14 =>
 chkO (c14.length == 5) (
 optO (c14[0]?) fun yb =>
 optO (c14[1]?) fun oT =>
 optO (c14[2]?) fun wJ =>
 optO (c14[3]?) fun w7 =>
 optO (c14[4]?) fun wz =>
 optO (C lb n Qc1 [.agg [w7, wz], .int .i64 (IntKind.wrap .i64 ((IntKind.wrap .i64 (c6 * 1440)) + d7))]) fun pG =>
 some (pG)) := by kernel_rfl
theorem QpM (lb n : Nat) (jk jK jC : Int) :
 top lb n Qbt [.agg [.int .i64 jk, .int .i64 jK, .int .i64 jC]] =
 bif (decide (jk < 0)) then
 (some (.int .i64 12))
 else
 (bif (decide (jK < jk)) then
 (some (.int .i64 12))
 else
 (bif (decide (jK ≥ 36525)) then
 (some (.int .i64 12))
 else
 (bif (decide ((IntKind.wrap .i64 (jK - jk)) ≥ 800)) then
 (some (.int .i64 4))
 else
 (bif (decide (jC < 1)) then
 (some (.int .i64 2))
 else
 (bif (decide (jC > 127)) then
 (some (.int .i64 2))
 else
 (some (.int .i64 0))))))) := by kernel_rfl
theorem Qtx (lb n : Nat) (jk jK jC : Int) :
 top lb n Qe0 [.agg [.int .i64 jk, .int .i64 jK, .int .i64 jC]] =
 bif (decide (jk < 0)) then
 (some (.int .i64 12))
 else
 (bif (decide (jk > jK)) then
 (some (.int .i64 12))
 else
 (bif (decide (jK ≥ 36525)) then
 (some (.int .i64 12))
 else
 (bif (decide ((IntKind.wrap .i64 (jK - jk)) ≥ 800)) then
 (some (.int .i64 4))
 else
 (bif (decide (jC < 1)) then
 (some (.int .i64 2))
 else
 (bif (decide (jC > 127)) then
 (some (.int .i64 2))
 else
 (some (.int .i64 0))))))) := by kernel_rfl
theorem Ql0 (lb n : Nat) (a1 : Int) :
 top lb n QdV [.int .i64 a1] =
 some (.int .i64 (Int.tmod (IntKind.wrap .i64 ((Int.tmod a1 7) + 12)) 7)) := by kernel_rfl
theorem Qrc (lb n : Nat) (a1 : Int) :
 top lb n Qh6 [.int .i64 a1] =
 some (.int .i64 (Int.tmod (IntKind.wrap .i64 ((Int.tmod a1 7) + 12)) 7)) := by kernel_rfl
noncomputable def Qiu (lb n k9 : Nat) (a1 i4 i5 : Int) : Option CV :=
 hold (Qau (E0 lb n 0 994) 0 (Qae (sub (B Qcj) [1, 1, 0, 1, 0, 0]) ++ []) [] (sub (B Qcj) [1, 1, 0, 1, 0, 0]) (Qal 0 (seqK (E0 lb n 0 997) (sub (B Qcj) [1, 1, 0]) (sub (B Qcj) [1, 1, 1]) (retK Tryz.prog (R Qcj) 0 (outK (Qaj Tryz.prog Qcj))))) k9 ⟨fr 14 [(0, vI a1), (2, vI 0), (3, vI i4), (4, vI i5)], [bx 14 []], KK⟩)
noncomputable def Qqs (lb n : Nat) (a1 vH vF : Int) : Option CV :=
 hold (E0 lb n 0 997 (sub (B Qcj) [1, 1, 1]) (retK Tryz.prog (R Qcj) 0 (outK (Qaj Tryz.prog Qcj))) ⟨fr 14 [(0, vI a1), (2, vI 0), (3, vI vH), (4, vI vF)], [bx 14 []], KK⟩)
theorem Qsz (lb n : Nat) (a1 vH vF : Int) :
 Qqs lb n a1 vH vF =
 some (.int .i64 vH) := (Qad _).trans (by kernel_rfl)
theorem QjS (lb n k9 : Nat) (a1 i4 i5 : Int) :
 Qiu lb n (k9 + 1) a1 i4 i5 =
 optO (C lb n Qh6 [.int .i64 a1]) fun o7 =>
 optO (CV.asI .i64 o7) fun y7 =>
 bif (decide (i5 < y7)) then
 (Qiu lb n k9 a1 (IntKind.wrap .i64 (2 * i4)) (IntKind.wrap .i64 (i5 + 1)))
 else
 (Qqs lb n a1 i4 i5) := (Qad _).trans (by kernel_rfl)
theorem Qwb (lb n : Nat) (a1 : Int) :
 top lb n Qcj [.int .i64 a1] =
 Qiu lb n n a1 1 0 := by kernel_rfl
theorem Qwd (lb n : Nat) (jk jK jC b4 : Int) :
 top lb n Qcz [.agg [.int .i64 jk, .int .i64 jK, .int .i64 jC], .int .i64 b4] =
 optO (C lb n Qe0 [.agg [.int .i64 jk, .int .i64 jK, .int .i64 jC]]) fun r5 =>
 optO (CV.asI .i64 r5) fun i6 =>
 bif (i6 == 0) then
 (bif (decide (b4 ≥ jk)) then
 (bif (decide (b4 ≤ jK)) then
 (optO (C lb n Qcj [.int .i64 b4]) fun r7 =>
 optO (CV.asI .i64 r7) fun i9 =>
 chkO (i9 != 0) (
 some (.bool ((Int.tmod (IntKind.wrap .i64 (Int.tdiv jC i9)) 2) == 1))))
 else
 (some (.bool false)))
 else
 (some (.bool false)))
 else
 (some (.bool false)) := by kernel_rfl
noncomputable def Qe1 (lb n kP : Nat) (jk jK jC : Int) (ga : Bool) (l13 : LL) (y5 : Int) : Option CV :=
 hold (Qau (E0 lb n 0 994) 0 (Qae (sub (B Qcf) [1, 1, 0, 1, 0, 0]) ++ []) [] (sub (B Qcf) [1, 1, 0, 1, 0, 0]) (Qal 0 (seqK (E0 lb n 0 997) (sub (B Qcf) [1, 1, 0]) (sub (B Qcf) [1, 1, 1]) (retK Tryz.prog (R Qcf) 0 (outK (Qaj Tryz.prog Qcf))))) kP ⟨fr 26 [(0, .val (.agg [.int .i64 jk, .int .i64 jK, .int .i64 jC])), (1, .ptr 0 1 0), (2, .lst true true 3 []), (3, .lst true ga 3 l13), (4, vI y5), (5, .ptr 0 1 0), (6, vI jk)], [bx 26 [(1, some [vI jk, vI jK, vI jC])]], KK⟩)
noncomputable def Qkf (lb n : Nat) (jk jK jC : Int) (nF : Bool) (nY : LL) (oj : Int) : Option CV :=
 hold (E0 lb n 0 997 (sub (B Qcf) [1, 1, 1]) (retK Tryz.prog (R Qcf) 0 (outK (Qaj Tryz.prog Qcf))) ⟨fr 26 [(0, .val (.agg [.int .i64 jk, .int .i64 jK, .int .i64 jC])), (1, .ptr 0 1 0), (2, .lst true true 3 []), (3, .lst true nF 3 nY), (4, vI oj)], [bx 26 [(1, some [vI jk, vI jK, vI jC])]], KK⟩)
theorem Qkk (lb n : Nat) (jk jK jC : Int) (nF : Bool) (nY : LL) (oj : Int) :
 Qkf lb n jk jK jC nF nY oj =
 some (.list nF nY) := (Qad _).trans (by kernel_rfl)
theorem Qgh (lb n kP : Nat) (jk jK jC : Int) (ga : Bool) (l13 : LL) (y5 : Int) :
 Qe1 lb n (kP + 1) jk jK jC ga l13 y5 =
 optO (C lb n Qe0 [.agg [.int .i64 jk, .int .i64 jK, .int .i64 jC]]) fun pG =>
 optO (CV.asI .i64 pG) fun ka =>
 bif (ka == 0) then
 (bif (decide (y5 ≤ jK)) then
 (optO (C lb n Qcz [.agg [.int .i64 jk, .int .i64 jK, .int .i64 jC], .int .i64 y5]) fun w6 =>
 optO (CV.asB w6) fun n6 =>
 bif n6 then
 (chkO (room (l13.length + 1) 8) (
 Qe1 lb n kP jk jK jC (ga && false) (l13 ++ [[CV.int .i64 y5]]) (IntKind.wrap .i64 (y5 + 1))))
 else
 (Qe1 lb n kP jk jK jC ga l13 (IntKind.wrap .i64 (y5 + 1))))
 else
 (Qkf lb n jk jK jC ga l13 y5))
 else
 (Qkf lb n jk jK jC ga l13 y5) := (Qad _).trans (by kernel_rfl)
theorem QuM (lb n : Nat) (jk jK jC : Int) :
 top lb n Qcf [.agg [.int .i64 jk, .int .i64 jK, .int .i64 jC]] =
 Qe1 lb n n jk jK jC true [] jk := by kernel_rfl
noncomputable def QhD (lb n kp : Nat) (ja : Bool) (aair2 : LL) (jb : Bool) (adis4 : LL) (bcar5 : LB) (jg jd jf jc : Int) (je : Bool) (bleg12 : LL) (c13 : Int) (ks : Bool) (l24 : LL) (og : Int) : Option CV :=
 hold (Qau (E0 lb n 0 994) 0 (Qae (sub (B Qca) [1, 1, 0, 1, 0, 0]) ++ []) [9] (sub (B Qca) [1, 1, 0, 1, 0, 0]) (Qal 0 (seqK (E0 lb n 0 997) (sub (B Qca) [1, 1, 0]) (sub (B Qca) [1, 1, 1]) (retK Tryz.prog (R Qca) 0 (outK (Qaj Tryz.prog Qca))))) kp ⟨fr 52 [(0, .val (.agg [.list ja aair2, .list jb adis4])), (1, .val (.agg [.str bcar5, .int .i64 jg, .int .i64 jd, .int .i64 jf, .int .i64 jc, .list je bleg12])), (2, vI c13), (3, .ptr 0 3 0), (4, .ptr 0 4 0), (6, .lst true true 113 []), (7, .lst true ks 113 l24), (8, vI og)], [bx 52 [(3, some [.val (.list ja aair2), .val (.list jb adis4)]), (4, some [vS bcar5, vI jg, vI jd, vI jf, vI jc, .val (.list je bleg12)])]], KK⟩)
noncomputable def Qon (lb n : Nat) (ja : Bool) (aair2 : LL) (jb : Bool) (adis4 : LL) (bcar5 : LB) (jg jd jf jc : Int) (je : Bool) (bleg12 : LL) (c13 : Int) (vY : Bool) (l45 : LL) (i46 : Int) : Option CV :=
 hold (E0 lb n 0 997 (sub (B Qca) [1, 1, 1]) (retK Tryz.prog (R Qca) 0 (outK (Qaj Tryz.prog Qca))) ⟨fr 52 [(0, .val (.agg [.list ja aair2, .list jb adis4])), (1, .val (.agg [.str bcar5, .int .i64 jg, .int .i64 jd, .int .i64 jf, .int .i64 jc, .list je bleg12])), (2, vI c13), (3, .ptr 0 3 0), (4, .ptr 0 4 0), (6, .lst true true 113 []), (7, .lst true vY 113 l45), (8, vI i46)], [bx 52 [(3, some [.val (.list ja aair2), .val (.list jb adis4)]), (4, some [vS bcar5, vI jg, vI jd, vI jf, vI jc, .val (.list je bleg12)])]], KK⟩)
theorem Qq6 (lb n : Nat) (ja : Bool) (aair2 : LL) (jb : Bool) (adis4 : LL) (bcar5 : LB) (jg jd jf jc : Int) (je : Bool) (bleg12 : LL) (c13 : Int) (vY : Bool) (l45 : LL) (i46 : Int) :
 Qon lb n ja aair2 jb adis4 bcar5 jg jd jf jc je bleg12 c13 vY l45 i46 =
 some (.list vY l45) := (Qad _).trans (by kernel_rfl)
theorem QiW (lb n kp : Nat) (ja : Bool) (aair2 : LL) (jb : Bool) (adis4 : LL) (bcar5 : LB) (jg jd jf jc : Int) (je : Bool) (bleg12 : LL) (c13 : Int) (ks : Bool) (l24 : LL) (og : Int) :
 QhD lb n (kp + 1) ja aair2 jb adis4 bcar5 jg jd jf jc je bleg12 c13 ks l24 og =
 bif (decide (og < (bleg12.length : Int))) then
 (optO (atL bleg12 og) fun c36 =>
 chkO (c36.length == 5) (
 optO (c36[0]?) fun yr =>
 optO (c36[1]?) fun yE =>
 optO (c36[2]?) fun gw =>
 optO (c36[3]?) fun kX =>
 optO (c36[4]?) fun ny =>
 optO (C lb n QjK [.agg [.list ja aair2, .list jb adis4], yr, .int .i64 c13, gw]) fun nN =>
 optO (C lb n QjK [.agg [.list ja aair2, .list jb adis4], yE, .int .i64 c13, kX]) fun pS =>
 chkO (CV.isCell yr) (
 chkO (CV.isCell yE) (
 chkO (CV.isCell nN) (
 chkO (CV.isCell pS) (
 chkO (CV.isCell ny) (
 chkO (room (l24.length + 1) 96) (
 QhD lb n kp ja aair2 jb adis4 bcar5 jg jd jf jc je bleg12 c13 (ks && false) (l24 ++ [[CV.str bcar5, CV.int .i64 jg, CV.int .i64 c13, yr, yE, nN, pS, ny]]) (IntKind.wrap .i64 (og + 1))))))))))
 else
 (Qon lb n ja aair2 jb adis4 bcar5 jg jd jf jc je bleg12 c13 ks l24 og) := (Qad _).trans (by kernel_rfl)
theorem QuD (lb n : Nat) (ja : Bool) (aair2 : LL) (jb : Bool) (adis4 : LL) (bcar5 : LB) (jg jd jf jc : Int) (je : Bool) (bleg12 : LL) (c13 : Int) :
 top lb n Qca [.agg [.list ja aair2, .list jb adis4], .agg [.str bcar5, .int .i64 jg, .int .i64 jd, .int .i64 jf, .int .i64 jc, .list je bleg12], .int .i64 c13] =
 QhD lb n n ja aair2 jb adis4 bcar5 jg jd jf jc je bleg12 c13 true [] 0 := by kernel_rfl
noncomputable def Qdw (lb n mW : Nat) (ja : Bool) (aair2 : LL) (jb : Bool) (adis4 : LL) (jI : Bool) (b6 : LL) (c7 : Int) (mO : CV) (yW : Int) : Option CV :=
 hold (Qau (E0 lb n 0 994) 0 (Qae (sub (B Qbc) [1, 1, 0, 1, 0, 0]) ++ [8, 10, 11]) [9] (sub (B Qbc) [1, 1, 0, 1, 0, 0]) (Qal 0 (seqK (E0 lb n 0 997) (sub (B Qbc) [1, 1, 0]) (sub (B Qbc) [1, 1, 1]) (retK Tryz.prog (R Qbc) 0 (outK (Qaj Tryz.prog Qbc))))) mW ⟨fr 40 [(0, .val (.agg [.list ja aair2, .list jb adis4])), (1, .val (.list jI b6)), (2, vI c7), (3, .ptr 0 3 0), (6, vB false), (7, vV mO), (12, .val (.list jI b6)), (13, .val (.int .i64 (b6.length : Int))), (14, vI yW)], [bx 40 [(3, some [.val (.list ja aair2), .val (.list jb adis4)])]], KK⟩)
noncomputable def Qic (lb n : Nat) (ja : Bool) (aair2 : LL) (jb : Bool) (adis4 : LL) (jI : Bool) (b6 : LL) (c7 : Int) (pK : CV) : Option CV :=
 hold (E0 lb n 0 997 (sub (B Qbc) [1, 1, 1]) (retK Tryz.prog (R Qbc) 0 (outK (Qaj Tryz.prog Qbc))) ⟨fr 40 [(0, .val (.agg [.list ja aair2, .list jb adis4])), (1, .val (.list jI b6)), (2, vI c7), (3, .ptr 0 3 0), (6, vB false), (7, vV pK)], [bx 40 [(3, some [.val (.list ja aair2), .val (.list jb adis4)])]], KK⟩)
theorem Qle (lb n : Nat) (ja : Bool) (aair2 : LL) (jb : Bool) (adis4 : LL) (jI : Bool) (b6 : LL) (c7 : Int) (pK : CV) :
 Qic lb n ja aair2 jb adis4 jI b6 c7 pK =
 some (.bool true) := (Qad _).trans (by kernel_rfl)
theorem Qf6 (lb n mW : Nat) (ja : Bool) (aair2 : LL) (jb : Bool) (adis4 : LL) (jI : Bool) (b6 : LL) (c7 : Int) (mO : CV) (yW : Int) :
 Qdw lb n (mW + 1) ja aair2 jb adis4 jI b6 c7 mO yW =
 bif (decide (yW < (b6.length : Int))) then
 (optO (atL b6 yW) fun c42 =>
 chkO (c42.length == 5) (
 optO (c42[0]?) fun oi =>
 optO (c42[1]?) fun k4 =>
 optO (c42[2]?) fun za =>
 optO (c42[3]?) fun lf =>
 optO (c42[4]?) fun sM =>
 optO (C lb n Qho [.agg [.list ja aair2, .list jb adis4], .agg [oi, k4, za, lf, sM], .int .i64 c7]) fun oN =>
 optO (CV.asT oN) fun mZ =>
 optO (mZ[0]?) fun gB =>
 optO (CV.asT oN) fun t51 =>
 optO (t51[1]?) fun ow =>
 optO (CV.asI .i64 gB) fun i53 =>
 optO (CV.asI .i64 ow) fun le =>
 bif (decide (i53 ≥ le)) then
 (some (.bool false))
 else
 (bif (decide (yW > 0)) then
 (optO (CV.asI .i64 gB) fun zH =>
 optO (CV.asI .i64 mO) fun pd =>
 bif (decide (zH < pd)) then
 (some (.bool false))
 else
 (Qdw lb n mW ja aair2 jb adis4 jI b6 c7 ow (IntKind.wrap .i64 (yW + 1))))
 else
 (Qdw lb n mW ja aair2 jb adis4 jI b6 c7 ow (IntKind.wrap .i64 (yW + 1))))))
 else
 (Qic lb n ja aair2 jb adis4 jI b6 c7 mO) := (Qad _).trans (by kernel_rfl)
theorem QnE (lb n : Nat) (ja : Bool) (aair2 : LL) (jb : Bool) (adis4 : LL) (jI : Bool) (b6 : LL) (c7 : Int) :
 top lb n Qbc [.agg [.list ja aair2, .list jb adis4], .list jI b6, .int .i64 c7] =
 Qdw lb n n ja aair2 jb adis4 jI b6 c7 (.int .i64 0) 0 := by kernel_rfl
noncomputable def Qeo (lb n kQ : Nat) (jO : Bool) (a2 : LL) (vZ : Int) : Option CV :=
 hold (Qau (E0 lb n 0 995) 0 (Qae (sub (B Qbv) [1, 0, 1, 0, 0]) ++ []) [] (sub (B Qbv) [1, 0, 1, 0, 0]) (Qal 0 (seqK (E0 lb n 0 998) (sub (B Qbv) [1, 0]) (sub (B Qbv) [1, 1]) (retK Tryz.prog (R Qbv) 0 (outK (Qaj Tryz.prog Qbv))))) kQ ⟨fr 39 [(0, .val (.list jO a2)), (2, vB false), (3, vI vZ)], [bx 39 []], KK⟩)
noncomputable def QkI (lb n : Nat) (jO : Bool) (a2 : LL) (vM : Int) : Option CV :=
 hold (E0 lb n 0 998 (sub (B Qbv) [1, 1]) (retK Tryz.prog (R Qbv) 0 (outK (Qaj Tryz.prog Qbv))) ⟨fr 39 [(0, .val (.list jO a2)), (2, vB false), (3, vI vM)], [bx 39 []], KK⟩)
theorem QnG (lb n : Nat) (jO : Bool) (a2 : LL) (vM : Int) :
 QkI lb n jO a2 vM =
 some (.bool true) := (Qad _).trans (by kernel_rfl)
theorem Qg9 (lb n kQ : Nat) (jO : Bool) (a2 : LL) (vZ : Int) :
 Qeo lb n (kQ + 1) jO a2 vZ =
 bif (decide (vZ < (a2.length : Int))) then
 (optO (atL a2 vZ) fun c25 =>
 chkO (c25.length == 8) (
 optO (c25[5]?) fun wQ =>
 optO (atL a2 vZ) fun c27 =>
 chkO (c27.length == 8) (
 optO (c27[6]?) fun wW =>
 optO (CV.asI .i64 wQ) fun y6 =>
 optO (CV.asI .i64 wW) fun oM =>
 bif (decide (y6 ≥ oM)) then
 (some (.bool false))
 else
 (bif (decide (vZ > 0)) then
 (optO (atL a2 vZ) fun c31 =>
 chkO (c31.length == 8) (
 optO (c31[5]?) fun wS =>
 optO (atL a2 (IntKind.wrap .i64 (vZ - 1))) fun c34 =>
 chkO (c34.length == 8) (
 optO (c34[6]?) fun yt =>
 optO (CV.asI .i64 wS) fun vl =>
 optO (CV.asI .i64 yt) fun i37 =>
 bif (decide (vl < i37)) then
 (some (.bool false))
 else
 (Qeo lb n kQ jO a2 (IntKind.wrap .i64 (vZ + 1))))))
 else
 (Qeo lb n kQ jO a2 (IntKind.wrap .i64 (vZ + 1)))))))
 else
 (QkI lb n jO a2 vZ) := (Qad _).trans (by kernel_rfl)
theorem Qra (lb n : Nat) (jO : Bool) (a2 : LL) :
 top lb n Qbv [.list jO a2] =
 Qeo lb n n jO a2 0 := by kernel_rfl
theorem QnQ (lb n : Nat) (a1 : Int) :
 top lb n QbD [.int .i64 a1] =
 bif (decide (a1 ≥ (-1440))) then
 (some (.bool (decide (a1 < 5760))))
 else
 (some (.bool false)) := by kernel_rfl
theorem QvW (lb n : Nat) (a1 : Int) :
 top lb n QdG [.int .i64 a1] =
 bif (decide (a1 < (-1440))) then
 (some (.bool true))
 else
 (some (.bool (decide (a1 > 5759)))) := by kernel_rfl
end Go.Proofs
