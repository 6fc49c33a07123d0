/- Equations of functions, printed by program. Conditions: none. -/
import Derived.Test.YtdcpdknginpohaaGreatDoorEv
namespace Go.Proofs
open Go.Am
set_option maxRecDepth 100000
set_option linter.unusedVariables false
noncomputable def revision_allowed_L1 :=
 fun lb n (pX : Nat) (wb : Bool) (a2 : LL) yr y5 y0 ye yj yc yJ yH (yt : Bool) (yF : LL) kr kU =>
 hold (Qas (E2 lb n 2 995) 2 (Qad (sub (B Qbb) [1, 0, 1, 0, 0]) ++ [5]) [] (sub (B Qbb) [1, 0, 1, 0, 0]) (Qak 0 (seqK (E2 lb n 2 998) (sub (B Qbb) [1, 0]) (sub (B Qbb) [1, 1]) (retK Tryz.prog (R Qbb) 2 (inlK (opAt (QaE (sub (B QaB) [1, 0])) 2) ⟨fr 9 [(0, .val (.list wb a2)), (1, .clo QbD [.ptr 0 3 0]), (4, vB false), (5, .val (.list wb a2)), (6, .clo QbD [.ptr 0 3 0])], [bx 39 [(3, some [vI yr, vS y5, vI y0, vI ye, vI yj, vI yc, vI yJ, vS yH, .val (.list yt yF)])], bx 9 []], KK⟩ (opsK Tryz.prog (C lb n) (I8 lb n) 1 (QaE (sub (B QaB) [1, 0])) ((QaE (sub (B QaB) [1, 0])).drop 3) ((seqK (E1 lb n 1 998) (sub (B QaB) [1, 0]) (sub (B QaB) [1, 1]) (retK Tryz.prog (R QaB) 1 (inlK (opAt (QaE (sub (B QaT) [1, 1, 1, 0])) 2) ⟨fr 39 [(0, .val (.list wb a2)), (1, .val (.agg [.int .i64 yr, .str y5, .int .i64 y0, .int .i64 ye, .int .i64 yj, .int .i64 yc, .int .i64 yJ, .str yH, .list yt yF])), (3, .ptr 0 3 0), (4, vI 0), (5, vV kr), (21, .val (.list wb a2)), (22, .clo QbD [.ptr 0 3 0])], [bx 39 [(3, some [vI yr, vS y5, vI y0, vI ye, vI yj, vI yc, vI yJ, vS yH, .val (.list yt yF)])]], KK⟩ (opsK Tryz.prog (C lb n) (I9 lb n) 0 (QaE (sub (B QaT) [1, 1, 1, 0])) ((QaE (sub (B QaT) [1, 1, 1, 0])).drop 3) ((seqK (E0 lb n 0 996) (sub (B QaT) [1, 1, 1, 0]) (sub (B QaT) [1, 1, 1, 1]) (retK Tryz.prog (R QaT) 0 (outK (Qaf Tryz.prog QaT)))) .normal))))) .normal)))))) pX ⟨fr 19 [(0, .val (.list wb a2)), (1, .clo QbD [.ptr 0 3 0]), (4, vI 0), (6, .val (.list wb a2)), (7, .val (.int .i64 (a2.length : Int))), (8, vI kU)], [bx 39 [(3, some [vI yr, vS y5, vI y0, vI ye, vI yj, vI yc, vI yJ, vS yH, .val (.list yt yF)])], bx 9 [], bx 19 []], KK⟩)
noncomputable def Qhe (lb n : Nat) (wb : Bool) (a2 : LL) (yr : Int) (y5 : LB) (y0 ye yj yc yJ : Int) (yH : LB) (yt : Bool) (yF : LL) (kr : CV) : Option CV :=
 hold (E2 lb n 2 998 (sub (B Qbb) [1, 1]) (retK Tryz.prog (R Qbb) 2 (inlK (opAt (QaE (sub (B QaB) [1, 0])) 2) ⟨fr 9 [(0, .val (.list wb a2)), (1, .clo QbD [.ptr 0 3 0]), (4, vB false), (5, .val (.list wb a2)), (6, .clo QbD [.ptr 0 3 0])], [bx 39 [(3, some [vI yr, vS y5, vI y0, vI ye, vI yj, vI yc, vI yJ, vS yH, .val (.list yt yF)])], bx 9 []], KK⟩ (opsK Tryz.prog (C lb n) (I8 lb n) 1 (QaE (sub (B QaB) [1, 0])) ((QaE (sub (B QaB) [1, 0])).drop 3) ((seqK (E1 lb n 1 998) (sub (B QaB) [1, 0]) (sub (B QaB) [1, 1]) (retK Tryz.prog (R QaB) 1 (inlK (opAt (QaE (sub (B QaT) [1, 1, 1, 0])) 2) ⟨fr 39 [(0, .val (.list wb a2)), (1, .val (.agg [.int .i64 yr, .str y5, .int .i64 y0, .int .i64 ye, .int .i64 yj, .int .i64 yc, .int .i64 yJ, .str yH, .list yt yF])), (3, .ptr 0 3 0), (4, vI 0), (5, vV kr), (21, .val (.list wb a2)), (22, .clo QbD [.ptr 0 3 0])], [bx 39 [(3, some [vI yr, vS y5, vI y0, vI ye, vI yj, vI yc, vI yJ, vS yH, .val (.list yt yF)])]], KK⟩ (opsK Tryz.prog (C lb n) (I9 lb n) 0 (QaE (sub (B QaT) [1, 1, 1, 0])) ((QaE (sub (B QaT) [1, 1, 1, 0])).drop 3) ((seqK (E0 lb n 0 996) (sub (B QaT) [1, 1, 1, 0]) (sub (B QaT) [1, 1, 1, 1]) (retK Tryz.prog (R QaT) 0 (outK (Qaf Tryz.prog QaT)))) .normal))))) .normal)))) ⟨fr 19 [(0, .val (.list wb a2)), (1, .clo QbD [.ptr 0 3 0]), (4, vI 0)], [bx 39 [(3, some [vI yr, vS y5, vI y0, vI ye, vI yj, vI yc, vI yJ, vS yH, .val (.list yt yF)])], bx 9 [], bx 19 []], KK⟩)
theorem Qke (lb n : Nat) (wb : Bool) (a2 : LL) (yr : Int) (y5 : LB) (y0 ye yj yc yJ : Int) (yH : LB) (yt : Bool) (yF : LL) (kr : CV) :
 Qhe lb n wb a2 yr y5 y0 ye yj yc yJ yH yt yF kr =
 bif (yr == 1) then
 (bif (yr != 1) then
 (some (.int .i64 7))
 else
 (some (.int .i64 0)))
 else
 (bif (yr != 1) then
 (some (.int .i64 7))
 else
 (some (.int .i64 0))) := (Qac _).trans (by kernel_rfl)
theorem Qfu (lb n pX : Nat) (wb : Bool) (a2 : LL) (yr : Int) (y5 : LB) (y0 ye yj yc yJ : Int) (yH : LB) (yt : Bool) (yF : LL) (kr : CV) (kU : Int) :
 revision_allowed_L1 lb n (pX + 1) wb a2 yr y5 y0 ye yj yc yJ yH yt yF kr kU =
 bif (decide (kU < (a2.length : Int))) then
 (optO (atL a2 kU) fun c38 =>
 chkO (c38.length == 6) (
 optO (c38[0]?) fun mt =>
 optO (c38[1]?) fun oY =>
 optO (c38[2]?) fun po =>
 optO (c38[3]?) fun gR =>
 optO (c38[4]?) fun oM =>
 optO (c38[5]?) fun oG =>
 optO (C lb n Qd2 [.agg [mt, oY, po, gR, oM, oG], .agg [.int .i64 yr, .str y5, .int .i64 y0, .int .i64 ye, .int .i64 yj, .int .i64 yc, .int .i64 yJ, .str yH, .list yt yF]]) fun lT =>
 optO (CV.asB lT) fun gP =>
 bif gP then
 (bif (yr == 1) then
 (bif (decide (kU ≥ 0)) then
 (some (.int .i64 6))
 else
 (bif (yr != 1) then
 (bif (!(decide (kU ≥ 0))) then
 (some (.int .i64 7))
 else
 (some (.int .i64 0)))
 else
 (some (.int .i64 0))))
 else
 (bif (yr != 1) then
 (bif (!(decide (kU ≥ 0))) then
 (some (.int .i64 7))
 else
 (some (.int .i64 0)))
 else
 (some (.int .i64 0))))
 else
 (revision_allowed_L1 lb n pX wb a2 yr y5 y0 ye yj yc yJ yH yt yF kr (IntKind.wrap .i64 (kU + 1)))))
 else
 (Qhe lb n wb a2 yr y5 y0 ye yj yc yJ yH yt yF kr ) := (Qac _).trans (by kernel_rfl)
theorem Qmk (lb n : Nat) (wb : Bool) (a2 : LL) (yr : Int) (y5 : LB) (y0 ye yj yc yJ : Int) (yH : LB) (yt : Bool) (yF : LL) :
 top lb n QaT [.list wb a2, .agg [.int .i64 yr, .str y5, .int .i64 y0, .int .i64 ye, .int .i64 yj, .int .i64 yc, .int .i64 yJ, .str yH, .list yt yF]] =
 bif (decide (yr < 1)) then
 (some (.int .i64 8))
 else
 (bif (decide (yr > 5)) then
 (some (.int .i64 8))
 else
 (optO (C lb n Qbz [.agg [.int .i64 ye, .int .i64 yj, .int .i64 yc]]) fun kr =>
 optO (CV.asI .i64 kr) fun oF =>
 bif (oF != 0) then
 (some (kr))
 else
 (revision_allowed_L1 lb n n wb a2 yr y5 y0 ye yj yc yJ yH yt yF kr 0))) := by kernel_rfl
noncomputable def QcY (lb n mw : Nat) (ja : Bool) (aair2 : LL) (jb : Bool) (adis4 : LL) (jA : Bool) (b6 : LL) (j7 : Int) (jN : LB) (jy jj jo jk jI : Int) (jL : LB) (jr : Bool) (jz : LL) (vT : CV) (kH : Bool) (l45 : LL) (i46 : Int) : Option CV :=
 hold (Qas (E0 lb n 0 993) 0 (Qad (sub (B Qbl) [1, 1, 1, 0, 1, 0, 0]) ++ [12, 13]) [11] (sub (B Qbl) [1, 1, 1, 0, 1, 0, 0]) (Qak 0 (seqK (E0 lb n 0 996) (sub (B Qbl) [1, 1, 1, 0]) (sub (B Qbl) [1, 1, 1, 1]) (retK Tryz.prog (R Qbl) 0 (outK (Qaf Tryz.prog Qbl))))) mw ⟨fr 82 [(0, .val (.agg [.list ja aair2, .list jb adis4])), (1, .val (.list jA b6)), (2, .val (.agg [.int .i64 j7, .str jN, .int .i64 jy, .int .i64 jj, .int .i64 jo, .int .i64 jk, .int .i64 jI, .str jL, .list jr jz])), (3, .ptr 0 3 0), (5, .ptr 0 5 0), (6, .lst true true 42 []), (7, vI 0), (8, vV vT), (9, .lst true kH 42 l45), (22, .val (.list jA b6)), (23, .val (.int .i64 (b6.length : Int))), (24, vI i46)], [bx 82 [(3, some [.val (.list ja aair2), .val (.list jb adis4)]), (5, some [vI j7, vS jN, vI jy, vI jj, vI jo, vI jk, vI jI, vS jL, .val (.list jr jz)])]], KK⟩)
noncomputable def QiE (lb n : Nat) (ja : Bool) (aair2 : LL) (jb : Bool) (adis4 : LL) (jA : Bool) (b6 : LL) (j7 : Int) (jN : LB) (jy jj jo jk jI : Int) (jL : LB) (jr : Bool) (jz : LL) (vT : CV) (nH : Bool) (l82 : LL) : Option CV :=
 hold (E0 lb n 0 996 (sub (B Qbl) [1, 1, 1, 1]) (retK Tryz.prog (R Qbl) 0 (outK (Qaf Tryz.prog Qbl))) ⟨fr 82 [(0, .val (.agg [.list ja aair2, .list jb adis4])), (1, .val (.list jA b6)), (2, .val (.agg [.int .i64 j7, .str jN, .int .i64 jy, .int .i64 jj, .int .i64 jo, .int .i64 jk, .int .i64 jI, .str jL, .list jr jz])), (3, .ptr 0 3 0), (5, .ptr 0 5 0), (6, .lst true true 42 []), (7, vI 0), (8, vV vT), (9, .lst true nH 42 l82)], [bx 82 [(3, some [.val (.list ja aair2), .val (.list jb adis4)]), (5, some [vI j7, vS jN, vI jy, vI jj, vI jo, vI jk, vI jI, vS jL, .val (.list jr jz)])]], KK⟩)
theorem QlS (lb n : Nat) (ja : Bool) (aair2 : LL) (jb : Bool) (adis4 : LL) (jA : Bool) (b6 : LL) (j7 : Int) (jN : LB) (jy jj jo jk jI : Int) (jL : LB) (jr : Bool) (jz : LL) (vT : CV) (nH : Bool) (l82 : LL) :
 QiE lb n ja aair2 jb adis4 jA b6 j7 jN jy jj jo jk jI jL jr jz vT nH l82 =
 bif (j7 == 1) then
 (optO (C lb n Qai [.agg [.list ja aair2, .list jb adis4], .agg [.str jN, .int .i64 jy, .int .i64 jj, .int .i64 jo, .int .i64 jk, .list jr jz]]) fun qJ =>
 optO (CV.asL qJ) fun rX =>
 bif (decide ((rX.2.length : Int) > 0)) then
 (optO (CV.asL qJ) fun ly =>
 optO (atL ly.2 0) fun c86 =>
 chkO (c86.length == 2) (
 optO (c86[0]?) fun tr =>
 some (.tup [.list true [], tr])))
 else
 (chkO (room (l82.length + 1) 72) (
 some (.tup [.list (nH && false) (l82 ++ [[CV.str jN, CV.int .i64 jy, CV.int .i64 jj, CV.int .i64 jo, CV.int .i64 jk, CV.list jr jz]]), .int .i64 0]))))
 else
 (some (.tup [.list nH l82, .int .i64 0])) := (Qac _).trans (by kernel_rfl)
theorem Qcx (lb n mw : Nat) (ja : Bool) (aair2 : LL) (jb : Bool) (adis4 : LL) (jA : Bool) (b6 : LL) (j7 : Int) (jN : LB) (jy jj jo jk jI : Int) (jL : LB) (jr : Bool) (jz : LL) (vT : CV) (kH : Bool) (l45 : LL) (i46 : Int) :
 QcY lb n (mw + 1) ja aair2 jb adis4 jA b6 j7 jN jy jj jo jk jI jL jr jz vT kH l45 i46 =
 bif (decide (i46 < (b6.length : Int))) then
 (optO (atL b6 i46) fun c65 =>
 chkO (c65.length == 6) (
 optO (c65[0]?) fun kG =>
 optO (c65[1]?) fun kL =>
 optO (c65[2]?) fun kB =>
 optO (c65[3]?) fun kO =>
 optO (c65[4]?) fun pG =>
 optO (c65[5]?) fun pV =>
 bif (j7 == 1) then
 (chkO (room (l45.length + 1) 72) (
 QcY lb n mw ja aair2 jb adis4 jA b6 j7 jN jy jj jo jk jI jL jr jz vT (kH && false) (l45 ++ [[kG, kL, kB, kO, pG, pV]]) (IntKind.wrap .i64 (i46 + 1))))
 else
 (optO (C lb n Qd2 [.agg [kG, kL, kB, kO, pG, pV], .agg [.int .i64 j7, .str jN, .int .i64 jy, .int .i64 jj, .int .i64 jo, .int .i64 jk, .int .i64 jI, .str jL, .list jr jz]]) fun rd =>
 optO (CV.asB rd) fun lZ =>
 bif (!lZ) then
 (chkO (room (l45.length + 1) 72) (
 QcY lb n mw ja aair2 jb adis4 jA b6 j7 jN jy jj jo jk jI jL jr jz vT (kH && false) (l45 ++ [[kG, kL, kB, kO, pG, pV]]) (IntKind.wrap .i64 (i46 + 1))))
 else
 (optO (C lb n Qan [.agg [.list ja aair2, .list jb adis4], .agg [kG, kL, kB, kO, pG, pV], .agg [.int .i64 j7, .str jN, .int .i64 jy, .int .i64 jj, .int .i64 jo, .int .i64 jk, .int .i64 jI, .str jL, .list jr jz]]) fun qF =>
 optO (CV.asT qF) fun t75 =>
 optO (t75[0]?) fun qx =>
 optO (CV.asT qF) fun lD =>
 optO (lD[1]?) fun qK =>
 optO (CV.asI .i64 qK) fun rx =>
 bif (rx != 0) then
 (some (.tup [.list true [], qK]))
 else
 (optO (CV.asL qx) fun pP =>
 chkO (pP.2.all (·.length == 6)) (
 chkO (room (l45.length + pP.2.length) 72) (
 QcY lb n mw ja aair2 jb adis4 jA b6 j7 jN jy jj jo jk jI jL jr jz vT (kH && pP.2.isEmpty) (l45 ++ pP.2) (IntKind.wrap .i64 (i46 + 1)))))))))
 else
 (QiE lb n ja aair2 jb adis4 jA b6 j7 jN jy jj jo jk jI jL jr jz vT kH l45) := (Qac _).trans (by kernel_rfl)
theorem QiF (lb n : Nat) (ja : Bool) (aair2 : LL) (jb : Bool) (adis4 : LL) (jA : Bool) (b6 : LL) (j7 : Int) (jN : LB) (jy jj jo jk jI : Int) (jL : LB) (jr : Bool) (jz : LL) :
 top lb n Qbl [.agg [.list ja aair2, .list jb adis4], .list jA b6, .agg [.int .i64 j7, .str jN, .int .i64 jy, .int .i64 jj, .int .i64 jo, .int .i64 jk, .int .i64 jI, .str jL, .list jr jz]] =
 optO (C lb n QaT [.list jA b6, .agg [.int .i64 j7, .str jN, .int .i64 jy, .int .i64 jj, .int .i64 jo, .int .i64 jk, .int .i64 jI, .str jL, .list jr jz]]) fun vT =>
 optO (CV.asI .i64 vT) fun i20 =>
 bif (i20 != 0) then
 (some (.tup [.list true [], vT]))
 else
 (QcY lb n n ja aair2 jb adis4 jA b6 j7 jN jy jj jo jk jI jL jr jz vT true [] 0) := by kernel_rfl
noncomputable def Qey (lb n gw : Nat) (ja : Bool) (aair2 : LL) (jb : Bool) (adis4 : LL) (jA : Bool) (b6 : LL) (j7 : Int) (jN : LB) (jy jj jo jk jI : Int) (jL : LB) (jr : Bool) (jz : LL) (g8 : Bool) (l73 : LL) (g0 : Bool) (l75 : LL) (i76 k6 : Int) : Option CV :=
 hold (Qas (E0 lb n 0 991) 0 (Qad (sub (B QaC) [1, 1, 1, 1, 1, 0, 1, 0, 0]) ++ [12, 13]) [] (sub (B QaC) [1, 1, 1, 1, 1, 0, 1, 0, 0]) (Qak 0 (seqK (E0 lb n 0 994) (sub (B QaC) [1, 1, 1, 1, 1, 0]) (sub (B QaC) [1, 1, 1, 1, 1, 1]) (retK Tryz.prog (R QaC) 0 (outK (Qaf Tryz.prog QaC))))) gw ⟨fr 129 [(0, .val (.agg [.list ja aair2, .list jb adis4])), (1, .val (.list jA b6)), (2, .val (.agg [.int .i64 j7, .str jN, .int .i64 jy, .int .i64 jj, .int .i64 jo, .int .i64 jk, .int .i64 jI, .str jL, .list jr jz])), (3, .ptr 0 3 0), (5, .ptr 0 5 0), (6, .lst true true 42 []), (7, vI 0), (8, .lst true g8 42 l73), (9, .lst true g0 42 l75), (10, vI i76), (11, vI k6)], [bx 129 [(3, some [.val (.list ja aair2), .val (.list jb adis4)]), (5, some [vI j7, vS jN, vI jy, vI jj, vI jo, vI jk, vI jI, vS jL, .val (.list jr jz)])]], KK⟩)
noncomputable def QgQ (lb n : Nat) (ja : Bool) (aair2 : LL) (jb : Bool) (adis4 : LL) (jA : Bool) (b6 : LL) (j7 : Int) (jN : LB) (jy jj jo jk jI : Int) (jL : LB) (jr : Bool) (jz : LL) (yv : Bool) (l158 : LL) (yS : Bool) (l160 : LL) (w6 yb : Int) : Option CV :=
 hold (E0 lb n 0 994 (sub (B QaC) [1, 1, 1, 1, 1, 1]) (retK Tryz.prog (R QaC) 0 (outK (Qaf Tryz.prog QaC))) ⟨fr 129 [(0, .val (.agg [.list ja aair2, .list jb adis4])), (1, .val (.list jA b6)), (2, .val (.agg [.int .i64 j7, .str jN, .int .i64 jy, .int .i64 jj, .int .i64 jo, .int .i64 jk, .int .i64 jI, .str jL, .list jr jz])), (3, .ptr 0 3 0), (5, .ptr 0 5 0), (6, .lst true true 42 []), (7, vI 0), (8, .lst true yv 42 l158), (9, .lst true yS 42 l160), (10, vI w6), (11, vI yb)], [bx 129 [(3, some [.val (.list ja aair2), .val (.list jb adis4)]), (5, some [vI j7, vS jN, vI jy, vI jj, vI jo, vI jk, vI jI, vS jL, .val (.list jr jz)])]], KK⟩)
noncomputable def Qft (lb n : Nat) (ja : Bool) (aair2 : LL) (jb : Bool) (adis4 : LL) (jA : Bool) (b6 : LL) (j7 : Int) (jN : LB) (jy jj jo jk jI : Int) (jL : LB) (jr : Bool) (jz : LL) (w6 yb : Int) (kj : Bool) (kk : LL) (kF : Bool) (l166 : LL) (ky : LB) (i168 kD kx i171 : Int) (kA : Bool) (kw : LL) : Option CV :=
 hold (E0 lb n 0 991 (sub (B QaC) [1, 1, 1, 1, 1, 1, 1, 1, 1]) (retK Tryz.prog (R QaC) 0 (outK (Qaf Tryz.prog QaC))) ⟨fr 129 [(0, .val (.agg [.list ja aair2, .list jb adis4])), (1, .val (.list jA b6)), (2, .val (.agg [.int .i64 j7, .str jN, .int .i64 jy, .int .i64 jj, .int .i64 jo, .int .i64 jk, .int .i64 jI, .str jL, .list jr jz])), (3, .ptr 0 3 0), (5, .ptr 0 5 0), (6, .lst true true 42 []), (7, vI 0), (8, .lst true kj 42 kk), (9, .lst true kF 42 l166), (10, vI w6), (11, vI yb)], [bx 129 [(3, some [.val (.list ja aair2), .val (.list jb adis4)]), (5, some [vI j7, vS jN, vI jy, vI jj, vI jo, vI jk, vI jI, vS jL, .val (.list jr jz)]), (14, some [vS ky, vI i168, vI kD, vI kx, vI i171, .val (.list kA kw)])]], KK⟩)
noncomputable def QgI (lb n mJ : Nat) (ja : Bool) (aair2 : LL) (jb : Bool) (adis4 : LL) (jA : Bool) (b6 : LL) (j7 : Int) (jN : LB) (jy jj jo jk jI : Int) (jL : LB) (jr : Bool) (jz : LL) (kj : Bool) (kk : LL) (kF : Bool) (l166 : LL) (w6 yb : Int) (ky : LB) (i168 kD kx i171 : Int) (kA : Bool) (kw : LL) (o8 : Int) : Option CV :=
 hold (Qas (E0 lb n 0 987) 0 (Qad (sub (B QaC) [1, 1, 1, 1, 1, 1, 1, 1, 1, 0, 1, 0, 0]) ++ [16]) [] (sub (B QaC) [1, 1, 1, 1, 1, 1, 1, 1, 1, 0, 1, 0, 0]) (Qak 2 (seqK (E0 lb n 0 990) (sub (B QaC) [1, 1, 1, 1, 1, 1, 1, 1, 1, 0]) (sub (B QaC) [1, 1, 1, 1, 1, 1, 1, 1, 1, 1]) (retK Tryz.prog (R QaC) 0 (outK (Qaf Tryz.prog QaC))))) mJ ⟨fr 129 [(0, .val (.agg [.list ja aair2, .list jb adis4])), (1, .val (.list jA b6)), (2, .val (.agg [.int .i64 j7, .str jN, .int .i64 jy, .int .i64 jj, .int .i64 jo, .int .i64 jk, .int .i64 jI, .str jL, .list jr jz])), (3, .ptr 0 3 0), (5, .ptr 0 5 0), (6, .lst true true 42 []), (7, vI 0), (8, .lst true kj 42 kk), (9, .lst true kF 42 l166), (10, vI w6), (11, vI yb), (15, vI o8)], [bx 129 [(3, some [.val (.list ja aair2), .val (.list jb adis4)]), (5, some [vI j7, vS jN, vI jy, vI jj, vI jo, vI jk, vI jI, vS jL, .val (.list jr jz)]), (14, some [vS ky, vI i168, vI kD, vI kx, vI i171, .val (.list kA kw)])]], KK⟩)
noncomputable def QmT (lb n : Nat) (ja : Bool) (aair2 : LL) (jb : Bool) (adis4 : LL) (jA : Bool) (b6 : LL) (j7 : Int) (jN : LB) (jy jj jo jk jI : Int) (jL : LB) (jr : Bool) (jz : LL) (kj : Bool) (kk : LL) (kF : Bool) (l166 : LL) (w6 yb : Int) (ky : LB) (i168 kD kx i171 : Int) (kA : Bool) (kw : LL) (i212 : Int) : Option CV :=
 hold (E0 lb n 0 990 (sub (B QaC) [1, 1, 1, 1, 1, 1, 1, 1, 1, 1]) (retK Tryz.prog (R QaC) 0 (outK (Qaf Tryz.prog QaC))) ⟨fr 129 [(0, .val (.agg [.list ja aair2, .list jb adis4])), (1, .val (.list jA b6)), (2, .val (.agg [.int .i64 j7, .str jN, .int .i64 jy, .int .i64 jj, .int .i64 jo, .int .i64 jk, .int .i64 jI, .str jL, .list jr jz])), (3, .ptr 0 3 0), (5, .ptr 0 5 0), (6, .lst true true 42 []), (7, vI 0), (8, .lst true kj 42 kk), (9, .lst true kF 42 l166), (10, vI w6), (11, vI yb), (15, vI i212)], [bx 129 [(3, some [.val (.list ja aair2), .val (.list jb adis4)]), (5, some [vI j7, vS jN, vI jy, vI jj, vI jo, vI jk, vI jI, vS jL, .val (.list jr jz)]), (14, some [vS ky, vI i168, vI kD, vI kx, vI i171, .val (.list kA kw)])]], KK⟩)
theorem Qqo (lb n : Nat) (ja : Bool) (aair2 : LL) (jb : Bool) (adis4 : LL) (jA : Bool) (b6 : LL) (j7 : Int) (jN : LB) (jy jj jo jk jI : Int) (jL : LB) (jr : Bool) (jz : LL) (kj : Bool) (kk : LL) (kF : Bool) (l166 : LL) (w6 yb : Int) (ky : LB) (i168 kD kx i171 : Int) (kA : Bool) (kw : LL) (i212 : Int) :
 QmT lb n ja aair2 jb adis4 jA b6 j7 jN jy jj jo jk jI jL jr jz kj kk kF l166 w6 yb ky i168 kD kx i171 kA kw i212 =
 some (.tup [.list kj kk, .int .i64 0]) := (Qac _).trans (by kernel_rfl)
theorem Qiz (lb n mJ : Nat) (ja : Bool) (aair2 : LL) (jb : Bool) (adis4 : LL) (jA : Bool) (b6 : LL) (j7 : Int) (jN : LB) (jy jj jo jk jI : Int) (jL : LB) (jr : Bool) (jz : LL) (kj : Bool) (kk : LL) (kF : Bool) (l166 : LL) (w6 yb : Int) (ky : LB) (i168 kD kx i171 : Int) (kA : Bool) (kw : LL) (o8 : Int) :
 QgI lb n (mJ + 1) ja aair2 jb adis4 jA b6 j7 jN jy jj jo jk jI jL jr jz kj kk kF l166 w6 yb ky i168 kD kx i171 kA kw o8 =
 bif (decide (o8 < (l166.length : Int))) then
 (optO (atL l166 o8) fun c200 =>
 chkO (c200.length == 6) (
 optO (c200[0]?) fun sf =>
 optO (c200[1]?) fun zY =>
 optO (c200[2]?) fun za =>
 optO (c200[3]?) fun sq =>
 optO (c200[4]?) fun sU =>
 optO (c200[5]?) fun zQ =>
 optO (C lb n Qam [.agg [.list ja aair2, .list jb adis4], .agg [sf, zY, za, sq, sU, zQ]]) fun qs =>
 optO (CV.asL qs) fun zU =>
 bif (decide ((zU.2.length : Int) > 0)) then
 (optO (CV.asL qs) fun qV =>
 optO (atL qV.2 0) fun c210 =>
 chkO (c210.length == 2) (
 optO (c210[0]?) fun qZ =>
 some (.tup [.list true [], qZ])))
 else
 (QgI lb n mJ ja aair2 jb adis4 jA b6 j7 jN jy jj jo jk jI jL jr jz kj kk kF l166 w6 yb ky i168 kD kx i171 kA kw (IntKind.wrap .i64 (o8 + 1)))))
 else
 (QmT lb n ja aair2 jb adis4 jA b6 j7 jN jy jj jo jk jI jL jr jz kj kk kF l166 w6 yb ky i168 kD kx i171 kA kw o8) := (Qac _).trans (by kernel_rfl)
theorem Qqb (lb n : Nat) (ja : Bool) (aair2 : LL) (jb : Bool) (adis4 : LL) (jA : Bool) (b6 : LL) (j7 : Int) (jN : LB) (jy jj jo jk jI : Int) (jL : LB) (jr : Bool) (jz : LL) (w6 yb : Int) (kj : Bool) (kk : LL) (kF : Bool) (l166 : LL) (ky : LB) (i168 kD kx i171 : Int) (kA : Bool) (kw : LL) :
 Qft lb n ja aair2 jb adis4 jA b6 j7 jN jy jj jo jk jI jL jr jz w6 yb kj kk kF l166 ky i168 kD kx i171 kA kw =
 QgI lb n n ja aair2 jb adis4 jA b6 j7 jN jy jj jo jk jI jL jr jz kj kk kF l166 w6 yb ky i168 kD kx i171 kA kw 0 := (Qac _).trans (by kernel_rfl)
noncomputable def Qfv (lb n : Nat) (ja : Bool) (aair2 : LL) (jb : Bool) (adis4 : LL) (jA : Bool) (b6 : LL) (j7 : Int) (jN : LB) (jy jj jo jk jI : Int) (jL : LB) (jr : Bool) (jz : LL) (yv : Bool) (l158 : LL) (yS : Bool) (l160 : LL) (w6 yb : Int) : Option CV :=
 hold (E0 lb n 0 991 (sub (B QaC) [1, 1, 1, 1, 1, 1, 1, 1, 1]) (retK Tryz.prog (R QaC) 0 (outK (Qaf Tryz.prog QaC))) ⟨fr 129 [(0, .val (.agg [.list ja aair2, .list jb adis4])), (1, .val (.list jA b6)), (2, .val (.agg [.int .i64 j7, .str jN, .int .i64 jy, .int .i64 jj, .int .i64 jo, .int .i64 jk, .int .i64 jI, .str jL, .list jr jz])), (3, .ptr 0 3 0), (5, .ptr 0 5 0), (6, .lst true true 42 []), (7, vI 0), (8, .lst true yv 42 l158), (9, .lst true yS 42 l160), (10, vI w6), (11, vI yb)], [bx 129 [(3, some [.val (.list ja aair2), .val (.list jb adis4)]), (5, some [vI j7, vS jN, vI jy, vI jj, vI jo, vI jk, vI jI, vS jL, .val (.list jr jz)])]], KK⟩)
noncomputable def QgP (lb n mR : Nat) (ja : Bool) (aair2 : LL) (jb : Bool) (adis4 : LL) (jA : Bool) (b6 : LL) (j7 : Int) (jN : LB) (jy jj jo jk jI : Int) (jL : LB) (jr : Bool) (jz : LL) (yv : Bool) (l158 : LL) (yS : Bool) (l160 : LL) (w6 yb o7 : Int) : Option CV :=
 hold (Qas (E0 lb n 0 987) 0 (Qad (sub (B QaC) [1, 1, 1, 1, 1, 1, 1, 1, 1, 0, 1, 0, 0]) ++ [16]) [] (sub (B QaC) [1, 1, 1, 1, 1, 1, 1, 1, 1, 0, 1, 0, 0]) (Qak 2 (seqK (E0 lb n 0 990) (sub (B QaC) [1, 1, 1, 1, 1, 1, 1, 1, 1, 0]) (sub (B QaC) [1, 1, 1, 1, 1, 1, 1, 1, 1, 1]) (retK Tryz.prog (R QaC) 0 (outK (Qaf Tryz.prog QaC))))) mR ⟨fr 129 [(0, .val (.agg [.list ja aair2, .list jb adis4])), (1, .val (.list jA b6)), (2, .val (.agg [.int .i64 j7, .str jN, .int .i64 jy, .int .i64 jj, .int .i64 jo, .int .i64 jk, .int .i64 jI, .str jL, .list jr jz])), (3, .ptr 0 3 0), (5, .ptr 0 5 0), (6, .lst true true 42 []), (7, vI 0), (8, .lst true yv 42 l158), (9, .lst true yS 42 l160), (10, vI w6), (11, vI yb), (15, vI o7)], [bx 129 [(3, some [.val (.list ja aair2), .val (.list jb adis4)]), (5, some [vI j7, vS jN, vI jy, vI jj, vI jo, vI jk, vI jI, vS jL, .val (.list jr jz)])]], KK⟩)
noncomputable def QmR (lb n : Nat) (ja : Bool) (aair2 : LL) (jb : Bool) (adis4 : LL) (jA : Bool) (b6 : LL) (j7 : Int) (jN : LB) (jy jj jo jk jI : Int) (jL : LB) (jr : Bool) (jz : LL) (yv : Bool) (l158 : LL) (yS : Bool) (l160 : LL) (w6 yb pm : Int) : Option CV :=
 hold (E0 lb n 0 990 (sub (B QaC) [1, 1, 1, 1, 1, 1, 1, 1, 1, 1]) (retK Tryz.prog (R QaC) 0 (outK (Qaf Tryz.prog QaC))) ⟨fr 129 [(0, .val (.agg [.list ja aair2, .list jb adis4])), (1, .val (.list jA b6)), (2, .val (.agg [.int .i64 j7, .str jN, .int .i64 jy, .int .i64 jj, .int .i64 jo, .int .i64 jk, .int .i64 jI, .str jL, .list jr jz])), (3, .ptr 0 3 0), (5, .ptr 0 5 0), (6, .lst true true 42 []), (7, vI 0), (8, .lst true yv 42 l158), (9, .lst true yS 42 l160), (10, vI w6), (11, vI yb), (15, vI pm)], [bx 129 [(3, some [.val (.list ja aair2), .val (.list jb adis4)]), (5, some [vI j7, vS jN, vI jy, vI jj, vI jo, vI jk, vI jI, vS jL, .val (.list jr jz)])]], KK⟩)
theorem Qqq (lb n : Nat) (ja : Bool) (aair2 : LL) (jb : Bool) (adis4 : LL) (jA : Bool) (b6 : LL) (j7 : Int) (jN : LB) (jy jj jo jk jI : Int) (jL : LB) (jr : Bool) (jz : LL) (yv : Bool) (l158 : LL) (yS : Bool) (l160 : LL) (w6 yb pm : Int) :
 QmR lb n ja aair2 jb adis4 jA b6 j7 jN jy jj jo jk jI jL jr jz yv l158 yS l160 w6 yb pm =
 some (.tup [.list yv l158, .int .i64 0]) := (Qac _).trans (by kernel_rfl)
theorem Qip (lb n mR : Nat) (ja : Bool) (aair2 : LL) (jb : Bool) (adis4 : LL) (jA : Bool) (b6 : LL) (j7 : Int) (jN : LB) (jy jj jo jk jI : Int) (jL : LB) (jr : Bool) (jz : LL) (yv : Bool) (l158 : LL) (yS : Bool) (l160 : LL) (w6 yb o7 : Int) :
 QgP lb n (mR + 1) ja aair2 jb adis4 jA b6 j7 jN jy jj jo jk jI jL jr jz yv l158 yS l160 w6 yb o7 =
 bif (decide (o7 < (l160.length : Int))) then
 (optO (atL l160 o7) fun c239 =>
 chkO (c239.length == 6) (
 optO (c239[0]?) fun qQ =>
 optO (c239[1]?) fun sW =>
 optO (c239[2]?) fun le =>
 optO (c239[3]?) fun zJ =>
 optO (c239[4]?) fun sA =>
 optO (c239[5]?) fun sG =>
 optO (C lb n Qam [.agg [.list ja aair2, .list jb adis4], .agg [qQ, sW, le, zJ, sA, sG]]) fun qd =>
 optO (CV.asL qd) fun zi =>
 bif (decide ((zi.2.length : Int) > 0)) then
 (optO (CV.asL qd) fun zS =>
 optO (atL zS.2 0) fun c249 =>
 chkO (c249.length == 2) (
 optO (c249[0]?) fun sI =>
 some (.tup [.list true [], sI])))
 else
 (QgP lb n mR ja aair2 jb adis4 jA b6 j7 jN jy jj jo jk jI jL jr jz yv l158 yS l160 w6 yb (IntKind.wrap .i64 (o7 + 1)))))
 else
 (QmR lb n ja aair2 jb adis4 jA b6 j7 jN jy jj jo jk jI jL jr jz yv l158 yS l160 w6 yb o7) := (Qac _).trans (by kernel_rfl)
theorem QqU (lb n : Nat) (ja : Bool) (aair2 : LL) (jb : Bool) (adis4 : LL) (jA : Bool) (b6 : LL) (j7 : Int) (jN : LB) (jy jj jo jk jI : Int) (jL : LB) (jr : Bool) (jz : LL) (yv : Bool) (l158 : LL) (yS : Bool) (l160 : LL) (w6 yb : Int) :
 Qfv lb n ja aair2 jb adis4 jA b6 j7 jN jy jj jo jk jI jL jr jz yv l158 yS l160 w6 yb =
 QgP lb n n ja aair2 jb adis4 jA b6 j7 jN jy jj jo jk jI jL jr jz yv l158 yS l160 w6 yb 0 := (Qac _).trans (by kernel_rfl)
theorem Qpx (lb n : Nat) (ja : Bool) (aair2 : LL) (jb : Bool) (adis4 : LL) (jA : Bool) (b6 : LL) (j7 : Int) (jN : LB) (jy jj jo jk jI : Int) (jL : LB) (jr : Bool) (jz : LL) (yv : Bool) (l158 : LL) (yS : Bool) (l160 : LL) (w6 yb : Int) :
 QgQ lb n ja aair2 jb adis4 jA b6 j7 jN jy jj jo jk jI jL jr jz yv l158 yS l160 w6 yb =
 bif (j7 == 1) then
 (bif (decide (w6 > 0)) then
 (some (.tup [.list true [], .int .i64 6]))
 else
 (bif (j7 != 1) then
 (bif (w6 == 0) then
 (some (.tup [.list true [], .int .i64 7]))
 else
 (bif (j7 == 1) then
 (chkO (room (l158.length + 1) 72) (
 chkO (room (l160.length + 1) 72) (
 Qft lb n ja aair2 jb adis4 jA b6 j7 jN jy jj jo jk jI jL jr jz w6 yb (yv && false) (l158 ++ [[CV.str jN, CV.int .i64 jy, CV.int .i64 jj, CV.int .i64 jo, CV.int .i64 jk, CV.list jr jz]]) (yS && false) (l160 ++ [[CV.str jN, CV.int .i64 jy, CV.int .i64 jj, CV.int .i64 jo, CV.int .i64 jk, CV.list jr jz]]) jN jy jj jo jk jr jz)))
 else
 (Qfv lb n ja aair2 jb adis4 jA b6 j7 jN jy jj jo jk jI jL jr jz yv l158 yS l160 w6 yb )))
 else
 (bif (j7 == 1) then
 (chkO (room (l158.length + 1) 72) (
 chkO (room (l160.length + 1) 72) (
 Qft lb n ja aair2 jb adis4 jA b6 j7 jN jy jj jo jk jI jL jr jz w6 yb (yv && false) (l158 ++ [[CV.str jN, CV.int .i64 jy, CV.int .i64 jj, CV.int .i64 jo, CV.int .i64 jk, CV.list jr jz]]) (yS && false) (l160 ++ [[CV.str jN, CV.int .i64 jy, CV.int .i64 jj, CV.int .i64 jo, CV.int .i64 jk, CV.list jr jz]]) jN jy jj jo jk jr jz)))
 else
 (Qfv lb n ja aair2 jb adis4 jA b6 j7 jN jy jj jo jk jI jL jr jz yv l158 yS l160 w6 yb ))))
 else
 (bif (j7 != 1) then
 (bif (w6 == 0) then
 (some (.tup [.list true [], .int .i64 7]))
 else
 (bif (j7 == 1) then
 (chkO (room (l158.length + 1) 72) (
 chkO (room (l160.length + 1) 72) (
 Qft lb n ja aair2 jb adis4 jA b6 j7 jN jy jj jo jk jI jL jr jz w6 yb (yv && false) (l158 ++ [[CV.str jN, CV.int .i64 jy, CV.int .i64 jj, CV.int .i64 jo, CV.int .i64 jk, CV.list jr jz]]) (yS && false) (l160 ++ [[CV.str jN, CV.int .i64 jy, CV.int .i64 jj, CV.int .i64 jo, CV.int .i64 jk, CV.list jr jz]]) jN jy jj jo jk jr jz)))
 else
 (Qfv lb n ja aair2 jb adis4 jA b6 j7 jN jy jj jo jk jI jL jr jz yv l158 yS l160 w6 yb )))
 else
 (bif (j7 == 1) then
 (chkO (room (l158.length + 1) 72) (
 chkO (room (l160.length + 1) 72) (
 Qft lb n ja aair2 jb adis4 jA b6 j7 jN jy jj jo jk jI jL jr jz w6 yb (yv && false) (l158 ++ [[CV.str jN, CV.int .i64 jy, CV.int .i64 jj, CV.int .i64 jo, CV.int .i64 jk, CV.list jr jz]]) (yS && false) (l160 ++ [[CV.str jN, CV.int .i64 jy, CV.int .i64 jj, CV.int .i64 jo, CV.int .i64 jk, CV.list jr jz]]) jN jy jj jo jk jr jz)))
 else
 (Qfv lb n ja aair2 jb adis4 jA b6 j7 jN jy jj jo jk jI jL jr jz yv l158 yS l160 w6 yb ))) := (Qac _).trans (by kernel_rfl)
theorem Qen (lb n gw : Nat) (ja : Bool) (aair2 : LL) (jb : Bool) (adis4 : LL) (jA : Bool) (b6 : LL) (j7 : Int) (jN : LB) (jy jj jo jk jI : Int) (jL : LB) (jr : Bool) (jz : LL) (g8 : Bool) (l73 : LL) (g0 : Bool) (l75 : LL) (i76 k6 : Int) :
 Qey lb n (gw + 1) ja aair2 jb adis4 jA b6 j7 jN jy jj jo jk jI jL jr jz g8 l73 g0 l75 i76 k6 =
 bif (decide (k6 < (b6.length : Int))) then
 (optO (atL b6 k6) fun c118 =>
 chkO (c118.length == 6) (
 optO (c118[0]?) fun zR =>
 optO (c118[1]?) fun sr =>
 optO (c118[2]?) fun zg =>
 optO (c118[3]?) fun sZ =>
 optO (c118[4]?) fun sN =>
 optO (c118[5]?) fun zF =>
 optO (C lb n Qii [.agg [zR, sr, zg, sZ, sN, zF], .agg [.int .i64 j7, .str jN, .int .i64 jy, .int .i64 jj, .int .i64 jo, .int .i64 jk, .int .i64 jI, .str jL, .list jr jz]]) fun zZ =>
 optO (CV.asB zZ) fun ss =>
 bif (!ss) then
 (optO (atL b6 k6) fun c127 =>
 chkO (c127.length == 6) (
 optO (c127[0]?) fun sS =>
 optO (c127[1]?) fun zW =>
 optO (c127[2]?) fun zp =>
 optO (c127[3]?) fun se =>
 optO (c127[4]?) fun zt =>
 optO (c127[5]?) fun zh =>
 chkO (room (l73.length + 1) 72) (
 Qey lb n gw ja aair2 jb adis4 jA b6 j7 jN jy jj jo jk jI jL jr jz (g8 && false) (l73 ++ [[sS, zW, zp, se, zt, zh]]) g0 l75 i76 (IntKind.wrap .i64 (k6 + 1)))))
 else
 (optO (atL b6 k6) fun c134 =>
 chkO (c134.length == 6) (
 optO (c134[0]?) fun sP =>
 optO (c134[1]?) fun lc =>
 optO (c134[2]?) fun sL =>
 optO (c134[3]?) fun qW =>
 optO (c134[4]?) fun q8 =>
 optO (c134[5]?) fun lf =>
 optO (C lb n QaX [.agg [sP, lc, sL, qW, q8, lf], .agg [.int .i64 j7, .str jN, .int .i64 jy, .int .i64 jj, .int .i64 jo, .int .i64 jk, .int .i64 jI, .str jL, .list jr jz]]) fun qb =>
 optO (CV.asT qb) fun qX =>
 optO (qX[0]?) fun yO =>
 optO (CV.asT qb) fun qO =>
 optO (qO[1]?) fun yP =>
 optO (CV.asL yO) fun gy =>
 chkO (gy.2.all (·.length == 6)) (
 chkO (room (l73.length + gy.2.length) 72) (
 optO (CV.asI .i64 yP) fun qS =>
 bif (decide (qS ≥ 0)) then
 (optO (CV.asL yO) fun s4 =>
 optO (CV.asN yP) fun sy =>
 optO (atL s4.2 sy) fun c150 =>
 chkO (c150.length == 6) (
 optO (c150[0]?) fun zu =>
 optO (c150[1]?) fun zn =>
 optO (c150[2]?) fun sX =>
 optO (c150[3]?) fun zq =>
 optO (c150[4]?) fun mB =>
 optO (c150[5]?) fun qP =>
 chkO (room (l75.length + 1) 72) (
 Qey lb n gw ja aair2 jb adis4 jA b6 j7 jN jy jj jo jk jI jL jr jz (g8 && gy.2.isEmpty) (l73 ++ gy.2) (g0 && false) (l75 ++ [[zu, zn, sX, zq, mB, qP]]) (IntKind.wrap .i64 (i76 + 1)) (IntKind.wrap .i64 (k6 + 1)))))
 else
 (Qey lb n gw ja aair2 jb adis4 jA b6 j7 jN jy jj jo jk jI jL jr jz (g8 && gy.2.isEmpty) (l73 ++ gy.2) g0 l75 (IntKind.wrap .i64 (i76 + 1)) (IntKind.wrap .i64 (k6 + 1)))))))))
 else
 (QgQ lb n ja aair2 jb adis4 jA b6 j7 jN jy jj jo jk jI jL jr jz g8 l73 g0 l75 i76 k6) := (Qac _).trans (by kernel_rfl)
theorem QuH (lb n : Nat) (ja : Bool) (aair2 : LL) (jb : Bool) (adis4 : LL) (jA : Bool) (b6 : LL) (j7 : Int) (jN : LB) (jy jj jo jk jI : Int) (jL : LB) (jr : Bool) (jz : LL) :
 top lb n QaC [.agg [.list ja aair2, .list jb adis4], .list jA b6, .agg [.int .i64 j7, .str jN, .int .i64 jy, .int .i64 jj, .int .i64 jo, .int .i64 jk, .int .i64 jI, .str jL, .list jr jz]] =
 bif (decide (j7 < 1)) then
 (some (.tup [.list true [], .int .i64 8]))
 else
 (bif (decide (j7 > 5)) then
 (some (.tup [.list true [], .int .i64 8]))
 else
 (optO (C lb n Qdb [.agg [.int .i64 jj, .int .i64 jo, .int .i64 jk]]) fun vT =>
 optO (CV.asI .i64 vT) fun i20 =>
 bif (i20 != 0) then
 (optO (C lb n Qdb [.agg [.int .i64 jj, .int .i64 jo, .int .i64 jk]]) fun yg =>
 some (.tup [.list true [], yg]))
 else
 (Qey lb n n ja aair2 jb adis4 jA b6 j7 jN jy jj jo jk jI jL jr jz true [] true [] 0 0))) := by kernel_rfl
noncomputable def Qcl (lb n kb : Nat) (jt : LB) (js jh jl ji : Int) (jq : Bool) (aleg7 : LL) (j9 : Int) (jK : LB) (jH jm jp jn jB : Int) (jD : LB) (jx : Bool) (jJ : LL) (wK w3 wL vp : Int) (kI : Bool) (l43 : LL) : Option CV :=
 hold (Qas (E0 lb n 0 993) 0 (Qad (sub (B Qaq) [1, 1, 1, 0, 1, 0, 0]) ++ []) [9] (sub (B Qaq) [1, 1, 1, 0, 1, 0, 0]) (Qak 0 (seqK (E0 lb n 0 996) (sub (B Qaq) [1, 1, 1, 0]) (sub (B Qaq) [1, 1, 1, 1]) (retK Tryz.prog (R Qaq) 0 (outK (Qaf Tryz.prog Qaq))))) kb ⟨fr 63 [(0, .val (.agg [.str jt, .int .i64 js, .int .i64 jh, .int .i64 jl, .int .i64 ji, .list jq aleg7])), (1, .val (.agg [.int .i64 j9, .str jK, .int .i64 jH, .int .i64 jm, .int .i64 jp, .int .i64 jn, .int .i64 jB, .str jD, .list jx jJ])), (2, .val (.agg [.int .i64 wK, .int .i64 w3, .int .i64 wL])), (3, .ptr 0 3 0), (4, .ptr 0 4 0), (5, .ptr 0 5 0), (6, .ptr 0 6 0), (7, .ptr 0 7 0), (8, vI vp), (10, .ptr 0 3 0), (11, vS jt), (12, .ptr 0 3 1), (13, vI js), (14, .val (.agg [.int .i64 wK, .int .i64 w3, .int .i64 wL])), (15, .val (.agg [.str jt, .int .i64 js, .int .i64 wK, .int .i64 w3, .int .i64 wL, .list true []]))], [bx 63 [(3, some [vS jt, vI js, vI jh, vI jl, vI ji, .val (.list jq aleg7)]), (4, some [vI j9, vS jK, vI jH, vI jm, vI jp, vI jn, vI jB, vS jD, .val (.list jx jJ)]), (5, some [vI wK, vI w3, vI wL]), (6, some [.val (.str []), vI 0, vI 0, vI 0, vI 0, .lst true true 94 []]), (7, some [vS jt, vI js, vI wK, vI w3, vI wL, .lst true kI 94 l43])]], KK⟩)
noncomputable def Qhz (lb n kb : Nat) (jt : LB) (js jh jl ji : Int) (jq : Bool) (aleg7 : LL) (j9 : Int) (jK : LB) (jH jm jp jn jB : Int) (jD : LB) (jx : Bool) (jJ : LL) (wK w3 wL vp : Int) (c53 : List CV) (ke vc vu ka kJ : CV) (kI : Bool) (l43 : LL) (gZ gb : Int) : Option CV :=
 hold (E0 lb n 0 988 (sub (B Qaq) [1, 1, 1, 0, 1, 0, 0, 1, 0, 0, 1, 1]) (Qak 1 (seqK (E0 lb n 0 991) (sub (B Qaq) [1, 1, 1, 0, 1, 0, 0, 1, 0]) (sub (B Qaq) [1, 1, 1, 0, 1, 0, 0, 1, 1]) (QbH 0 (Qad (sub (B Qaq) [1, 1, 1, 0, 1, 0, 0]) ++ []) [9] (Qas (E0 lb n 0 993) 0 (Qad (sub (B Qaq) [1, 1, 1, 0, 1, 0, 0]) ++ []) [9] (sub (B Qaq) [1, 1, 1, 0, 1, 0, 0]) (Qak 0 (seqK (E0 lb n 0 996) (sub (B Qaq) [1, 1, 1, 0]) (sub (B Qaq) [1, 1, 1, 1]) (retK Tryz.prog (R Qaq) 0 (outK (Qaf Tryz.prog Qaq))))) kb) (Qak 0 (seqK (E0 lb n 0 996) (sub (B Qaq) [1, 1, 1, 0]) (sub (B Qaq) [1, 1, 1, 1]) (retK Tryz.prog (R Qaq) 0 (outK (Qaf Tryz.prog Qaq)))))))) ⟨fr 63 [(0, .val (.agg [.str jt, .int .i64 js, .int .i64 jh, .int .i64 jl, .int .i64 ji, .list jq aleg7])), (1, .val (.agg [.int .i64 j9, .str jK, .int .i64 jH, .int .i64 jm, .int .i64 jp, .int .i64 jn, .int .i64 jB, .str jD, .list jx jJ])), (2, .val (.agg [.int .i64 wK, .int .i64 w3, .int .i64 wL])), (3, .ptr 0 3 0), (4, .ptr 0 4 0), (5, .ptr 0 5 0), (6, .ptr 0 6 0), (7, .ptr 0 7 0), (8, vI vp), (9, .ptr 0 9 0), (10, .ptr 0 3 0), (11, vS jt), (12, .ptr 0 3 1), (13, vI js), (14, .val (.agg [.int .i64 wK, .int .i64 w3, .int .i64 wL])), (15, .val (.agg [.str jt, .int .i64 js, .int .i64 wK, .int .i64 w3, .int .i64 wL, .list true []])), (30, .ptr 0 3 5), (31, .val (.list jq aleg7)), (32, vI vp), (33, .cptr c53 0), (34, .val (.agg [ke, vc, vu, ka, kJ]))], [bx 63 [(3, some [vS jt, vI js, vI jh, vI jl, vI ji, .val (.list jq aleg7)]), (4, some [vI j9, vS jK, vI jH, vI jm, vI jp, vI jn, vI jB, vS jD, .val (.list jx jJ)]), (5, some [vI wK, vI w3, vI wL]), (6, some [.val (.str []), vI 0, vI 0, vI 0, vI 0, .lst true true 94 []]), (7, some [vS jt, vI js, vI wK, vI w3, vI wL, .lst true kI 94 l43]), (9, some [.val ke, .val vc, vI gZ, vI gb, .val kJ])]], KK⟩)
theorem Qn1 (lb n kb : Nat) (jt : LB) (js jh jl ji : Int) (jq : Bool) (aleg7 : LL) (j9 : Int) (jK : LB) (jH jm jp jn jB : Int) (jD : LB) (jx : Bool) (jJ : LL) (wK w3 wL vp : Int) (c53 : List CV) (ke vc vu ka kJ : CV) (kI : Bool) (l43 : LL) (gZ gb : Int) :
 Qhz lb n kb jt js jh jl ji jq aleg7 j9 jK jH jm jp jn jB jD jx jJ wK w3 wL vp c53 ke vc vu ka kJ kI l43 gZ gb =
 bif (j9 == 4) then
 (chkO (room (l43.length + 1) 64) (
 Qcl lb n kb jt js jh jl ji jq aleg7 j9 jK jH jm jp jn jB jD jx jJ wK w3 wL (IntKind.wrap .i64 (vp + 1)) (kI && false) (l43 ++ [[ke, vc, CV.int .i64 gZ, CV.int .i64 gb, CV.str jD]])))
 else
 (chkO (room (l43.length + 1) 64) (
 Qcl lb n kb jt js jh jl ji jq aleg7 j9 jK jH jm jp jn jB jD jx jJ wK w3 wL (IntKind.wrap .i64 (vp + 1)) (kI && false) (l43 ++ [[ke, vc, CV.int .i64 gZ, CV.int .i64 gb, kJ]]))) := (Qac _).trans (by kernel_rfl)
noncomputable def Qhw (lb n kb : Nat) (jt : LB) (js jh jl ji : Int) (jq : Bool) (aleg7 : LL) (j9 : Int) (jK : LB) (jH jm jp jn jB : Int) (jD : LB) (jx : Bool) (jJ : LL) (wK w3 wL vp : Int) (c53 : List CV) (ke vc vu ka kJ : CV) (kI : Bool) (l43 : LL) : Option CV :=
 hold (E0 lb n 0 988 (sub (B Qaq) [1, 1, 1, 0, 1, 0, 0, 1, 0, 0, 1, 1]) (Qak 1 (seqK (E0 lb n 0 991) (sub (B Qaq) [1, 1, 1, 0, 1, 0, 0, 1, 0]) (sub (B Qaq) [1, 1, 1, 0, 1, 0, 0, 1, 1]) (QbH 0 (Qad (sub (B Qaq) [1, 1, 1, 0, 1, 0, 0]) ++ []) [9] (Qas (E0 lb n 0 993) 0 (Qad (sub (B Qaq) [1, 1, 1, 0, 1, 0, 0]) ++ []) [9] (sub (B Qaq) [1, 1, 1, 0, 1, 0, 0]) (Qak 0 (seqK (E0 lb n 0 996) (sub (B Qaq) [1, 1, 1, 0]) (sub (B Qaq) [1, 1, 1, 1]) (retK Tryz.prog (R Qaq) 0 (outK (Qaf Tryz.prog Qaq))))) kb) (Qak 0 (seqK (E0 lb n 0 996) (sub (B Qaq) [1, 1, 1, 0]) (sub (B Qaq) [1, 1, 1, 1]) (retK Tryz.prog (R Qaq) 0 (outK (Qaf Tryz.prog Qaq)))))))) ⟨fr 63 [(0, .val (.agg [.str jt, .int .i64 js, .int .i64 jh, .int .i64 jl, .int .i64 ji, .list jq aleg7])), (1, .val (.agg [.int .i64 j9, .str jK, .int .i64 jH, .int .i64 jm, .int .i64 jp, .int .i64 jn, .int .i64 jB, .str jD, .list jx jJ])), (2, .val (.agg [.int .i64 wK, .int .i64 w3, .int .i64 wL])), (3, .ptr 0 3 0), (4, .ptr 0 4 0), (5, .ptr 0 5 0), (6, .ptr 0 6 0), (7, .ptr 0 7 0), (8, vI vp), (9, .ptr 0 9 0), (10, .ptr 0 3 0), (11, vS jt), (12, .ptr 0 3 1), (13, vI js), (14, .val (.agg [.int .i64 wK, .int .i64 w3, .int .i64 wL])), (15, .val (.agg [.str jt, .int .i64 js, .int .i64 wK, .int .i64 w3, .int .i64 wL, .list true []])), (30, .ptr 0 3 5), (31, .val (.list jq aleg7)), (32, vI vp), (33, .cptr c53 0), (34, .val (.agg [ke, vc, vu, ka, kJ]))], [bx 63 [(3, some [vS jt, vI js, vI jh, vI jl, vI ji, .val (.list jq aleg7)]), (4, some [vI j9, vS jK, vI jH, vI jm, vI jp, vI jn, vI jB, vS jD, .val (.list jx jJ)]), (5, some [vI wK, vI w3, vI wL]), (6, some [.val (.str []), vI 0, vI 0, vI 0, vI 0, .lst true true 94 []]), (7, some [vS jt, vI js, vI wK, vI w3, vI wL, .lst true kI 94 l43]), (9, some [.val ke, .val vc, .val vu, .val ka, .val kJ])]], KK⟩)
theorem Qod (lb n kb : Nat) (jt : LB) (js jh jl ji : Int) (jq : Bool) (aleg7 : LL) (j9 : Int) (jK : LB) (jH jm jp jn jB : Int) (jD : LB) (jx : Bool) (jJ : LL) (wK w3 wL vp : Int) (c53 : List CV) (ke vc vu ka kJ : CV) (kI : Bool) (l43 : LL) :
 Qhw lb n kb jt js jh jl ji jq aleg7 j9 jK jH jm jp jn jB jD jx jJ wK w3 wL vp c53 ke vc vu ka kJ kI l43 =
 bif (j9 == 4) then
 (chkO (room (l43.length + 1) 64) (
 Qcl lb n kb jt js jh jl ji jq aleg7 j9 jK jH jm jp jn jB jD jx jJ wK w3 wL (IntKind.wrap .i64 (vp + 1)) (kI && false) (l43 ++ [[ke, vc, vu, ka, CV.str jD]])))
 else
 (chkO (room (l43.length + 1) 64) (
 Qcl lb n kb jt js jh jl ji jq aleg7 j9 jK jH jm jp jn jB jD jx jJ wK w3 wL (IntKind.wrap .i64 (vp + 1)) (kI && false) (l43 ++ [[ke, vc, vu, ka, kJ]]))) := (Qac _).trans (by kernel_rfl)
noncomputable def QkK (lb n : Nat) (jt : LB) (js jh jl ji : Int) (jq : Bool) (aleg7 : LL) (j9 : Int) (jK : LB) (jH jm jp jn jB : Int) (jD : LB) (jx : Bool) (jJ : LL) (wK w3 wL kp : Int) (pu : Bool) (pJ : LL) : Option CV :=
 hold (E0 lb n 0 996 (sub (B Qaq) [1, 1, 1, 1]) (retK Tryz.prog (R Qaq) 0 (outK (Qaf Tryz.prog Qaq))) ⟨fr 63 [(0, .val (.agg [.str jt, .int .i64 js, .int .i64 jh, .int .i64 jl, .int .i64 ji, .list jq aleg7])), (1, .val (.agg [.int .i64 j9, .str jK, .int .i64 jH, .int .i64 jm, .int .i64 jp, .int .i64 jn, .int .i64 jB, .str jD, .list jx jJ])), (2, .val (.agg [.int .i64 wK, .int .i64 w3, .int .i64 wL])), (3, .ptr 0 3 0), (4, .ptr 0 4 0), (5, .ptr 0 5 0), (6, .ptr 0 6 0), (7, .ptr 0 7 0), (8, vI kp), (10, .ptr 0 3 0), (11, vS jt), (12, .ptr 0 3 1), (13, vI js), (14, .val (.agg [.int .i64 wK, .int .i64 w3, .int .i64 wL])), (15, .val (.agg [.str jt, .int .i64 js, .int .i64 wK, .int .i64 w3, .int .i64 wL, .list true []]))], [bx 63 [(3, some [vS jt, vI js, vI jh, vI jl, vI ji, .val (.list jq aleg7)]), (4, some [vI j9, vS jK, vI jH, vI jm, vI jp, vI jn, vI jB, vS jD, .val (.list jx jJ)]), (5, some [vI wK, vI w3, vI wL]), (6, some [.val (.str []), vI 0, vI 0, vI 0, vI 0, .lst true true 94 []]), (7, some [vS jt, vI js, vI wK, vI w3, vI wL, .lst true pu 94 pJ])]], KK⟩)
theorem Qn4 (lb n : Nat) (jt : LB) (js jh jl ji : Int) (jq : Bool) (aleg7 : LL) (j9 : Int) (jK : LB) (jH jm jp jn jB : Int) (jD : LB) (jx : Bool) (jJ : LL) (wK w3 wL kp : Int) (pu : Bool) (pJ : LL) :
 QkK lb n jt js jh jl ji jq aleg7 j9 jK jH jm jp jn jB jD jx jJ wK w3 wL kp pu pJ =
 some (.agg [.str jt, .int .i64 js, .int .i64 wK, .int .i64 w3, .int .i64 wL, .list pu pJ]) := (Qac _).trans (by kernel_rfl)
theorem Qhi (lb n kb : Nat) (jt : LB) (js jh jl ji : Int) (jq : Bool) (aleg7 : LL) (j9 : Int) (jK : LB) (jH jm jp jn jB : Int) (jD : LB) (jx : Bool) (jJ : LL) (wK w3 wL vp : Int) (kI : Bool) (l43 : LL) :
 Qcl lb n (kb + 1) jt js jh jl ji jq aleg7 j9 jK jH jm jp jn jB jD jx jJ wK w3 wL vp kI l43 =
 bif (decide (vp < (aleg7.length : Int))) then
 (optO (atL aleg7 vp) fun c53 =>
 chkO (c53.length == 5) (
 optO (c53[0]?) fun ke =>
 optO (c53[1]?) fun vc =>
 optO (c53[2]?) fun vu =>
 optO (c53[3]?) fun ka =>
 optO (c53[4]?) fun kJ =>
 bif (j9 == 3) then
 (optO (CV.asI .i64 vu) fun lQ =>
 optO (CV.asI .i64 ka) fun l7 =>
 Qhz lb n kb jt js jh jl ji jq aleg7 j9 jK jH jm jp jn jB jD jx jJ wK w3 wL vp c53 ke vc vu ka kJ kI l43 (IntKind.wrap .i64 (lQ + jB)) (IntKind.wrap .i64 (l7 + jB)))
 else
 (Qhw lb n kb jt js jh jl ji jq aleg7 j9 jK jH jm jp jn jB jD jx jJ wK w3 wL vp c53 ke vc vu ka kJ kI l43 )))
 else
 (QkK lb n jt js jh jl ji jq aleg7 j9 jK jH jm jp jn jB jD jx jJ wK w3 wL vp kI l43) := (Qac _).trans (by kernel_rfl)
theorem Qrv (lb n : Nat) (jt : LB) (js jh jl ji : Int) (jq : Bool) (aleg7 : LL) (j9 : Int) (jK : LB) (jH jm jp jn jB : Int) (jD : LB) (jx : Bool) (jJ : LL) (wK w3 wL : Int) :
 top lb n Qaq [.agg [.str jt, .int .i64 js, .int .i64 jh, .int .i64 jl, .int .i64 ji, .list jq aleg7], .agg [.int .i64 j9, .str jK, .int .i64 jH, .int .i64 jm, .int .i64 jp, .int .i64 jn, .int .i64 jB, .str jD, .list jx jJ], .agg [.int .i64 wK, .int .i64 w3, .int .i64 wL]] =
 bif (j9 == 5) then
 (some (.agg [.str jt, .int .i64 js, .int .i64 wK, .int .i64 w3, .int .i64 wL, .list jx jJ]))
 else
 (Qcl lb n n jt js jh jl ji jq aleg7 j9 jK jH jm jp jn jB jD jx jJ wK w3 wL 0 true []) := by kernel_rfl
noncomputable def QdO (lb n ku : Nat) (jt : LB) (js jh jl ji : Int) (jq : Bool) (aleg7 : LL) (j9 : Int) (jK : LB) (jH jm jp jn jB : Int) (jD : LB) (jx : Bool) (jJ : LL) (wZ wn yg x23 wA yd wz : CV) (oD : Bool) (l108 : LL) (oS vk : Int) : Option CV :=
 hold (Qas (E0 lb n 0 991) 0 (Qad (sub (B QaX) [1, 1, 1, 1, 1, 0, 1, 0, 0]) ++ []) [] (sub (B QaX) [1, 1, 1, 1, 1, 0, 1, 0, 0]) (Qak 0 (seqK (E0 lb n 0 994) (sub (B QaX) [1, 1, 1, 1, 1, 0]) (sub (B QaX) [1, 1, 1, 1, 1, 1]) (retK Tryz.prog (R QaX) 0 (outK (Qaf Tryz.prog QaX))))) ku ⟨fr 83 [(0, .val (.agg [.str jt, .int .i64 js, .int .i64 jh, .int .i64 jl, .int .i64 ji, .list jq aleg7])), (1, .val (.agg [.int .i64 j9, .str jK, .int .i64 jH, .int .i64 jm, .int .i64 jp, .int .i64 jn, .int .i64 jB, .str jD, .list jx jJ])), (2, .ptr 0 2 0), (3, .ptr 0 3 0), (4, .lst true true 42 []), (5, vI 0), (6, vV wZ), (7, .ptr 0 7 0), (8, vV wn), (9, .lst true oD 42 l108), (10, vI oS), (11, vI vk), (12, .ptr 0 2 2), (13, .val (.agg [.int .i64 jh, .int .i64 jl, .int .i64 ji])), (14, .ptr 0 3 3), (15, .val (.agg [.int .i64 jm, .int .i64 jp, .int .i64 jn])), (16, vV wZ), (17, vV yg), (18, .ptr 0 2 2), (19, .val (.agg [.int .i64 jh, .int .i64 jl, .int .i64 ji])), (20, .ptr 0 3 3), (21, .val (.agg [.int .i64 jm, .int .i64 jp, .int .i64 jn])), (22, vV yg), (23, vV x23), (24, vV wn)], [bx 83 [(2, some [vS jt, vI js, vI jh, vI jl, vI ji, .val (.list jq aleg7)]), (3, some [vI j9, vS jK, vI jH, vI jm, vI jp, vI jn, vI jB, vS jD, .val (.list jx jJ)]), (7, some [.val wA, .val yd, .val wz])]], KK⟩)
noncomputable def Qdm (lb n ku : Nat) (jt : LB) (js jh jl ji : Int) (jq : Bool) (aleg7 : LL) (j9 : Int) (jK : LB) (jH jm jp jn jB : Int) (jD : LB) (jx : Bool) (jJ : LL) (wZ wn : CV) (vk : Int) (yg x23 wA yd wz : CV) (g9 : Bool) (l176 : LL) (gW : Int) : Option CV :=
 hold (E0 lb n 0 987 (sub (B QaX) [1, 1, 1, 1, 1, 0, 1, 0, 0, 1, 0, 0, 1]) (Qak 1 (seqK (E0 lb n 0 989) (sub (B QaX) [1, 1, 1, 1, 1, 0, 1, 0, 0, 1, 0]) (sub (B QaX) [1, 1, 1, 1, 1, 0, 1, 0, 0, 1, 1]) (QbH 0 (Qad (sub (B QaX) [1, 1, 1, 1, 1, 0, 1, 0, 0]) ++ []) [] (Qas (E0 lb n 0 991) 0 (Qad (sub (B QaX) [1, 1, 1, 1, 1, 0, 1, 0, 0]) ++ []) [] (sub (B QaX) [1, 1, 1, 1, 1, 0, 1, 0, 0]) (Qak 0 (seqK (E0 lb n 0 994) (sub (B QaX) [1, 1, 1, 1, 1, 0]) (sub (B QaX) [1, 1, 1, 1, 1, 1]) (retK Tryz.prog (R QaX) 0 (outK (Qaf Tryz.prog QaX))))) ku) (Qak 0 (seqK (E0 lb n 0 994) (sub (B QaX) [1, 1, 1, 1, 1, 0]) (sub (B QaX) [1, 1, 1, 1, 1, 1]) (retK Tryz.prog (R QaX) 0 (outK (Qaf Tryz.prog QaX)))))))) ⟨fr 83 [(0, .val (.agg [.str jt, .int .i64 js, .int .i64 jh, .int .i64 jl, .int .i64 ji, .list jq aleg7])), (1, .val (.agg [.int .i64 j9, .str jK, .int .i64 jH, .int .i64 jm, .int .i64 jp, .int .i64 jn, .int .i64 jB, .str jD, .list jx jJ])), (2, .ptr 0 2 0), (3, .ptr 0 3 0), (4, .lst true true 42 []), (5, vI 0), (6, vV wZ), (7, .ptr 0 7 0), (8, vV wn), (9, .lst true g9 42 l176), (10, vI gW), (11, vI vk), (12, .ptr 0 2 2), (13, .val (.agg [.int .i64 jh, .int .i64 jl, .int .i64 ji])), (14, .ptr 0 3 3), (15, .val (.agg [.int .i64 jm, .int .i64 jp, .int .i64 jn])), (16, vV wZ), (17, vV yg), (18, .ptr 0 2 2), (19, .val (.agg [.int .i64 jh, .int .i64 jl, .int .i64 ji])), (20, .ptr 0 3 3), (21, .val (.agg [.int .i64 jm, .int .i64 jp, .int .i64 jn])), (22, vV yg), (23, vV x23), (24, vV wn)], [bx 83 [(2, some [vS jt, vI js, vI jh, vI jl, vI ji, .val (.list jq aleg7)]), (3, some [vI j9, vS jK, vI jH, vI jm, vI jp, vI jn, vI jB, vS jD, .val (.list jx jJ)]), (7, some [.val wA, .val yd, .val wz])]], KK⟩)
theorem QjR (lb n ku : Nat) (jt : LB) (js jh jl ji : Int) (jq : Bool) (aleg7 : LL) (j9 : Int) (jK : LB) (jH jm jp jn jB : Int) (jD : LB) (jx : Bool) (jJ : LL) (wZ wn : CV) (vk : Int) (yg x23 wA yd wz : CV) (g9 : Bool) (l176 : LL) (gW : Int) :
 Qdm lb n ku jt js jh jl ji jq aleg7 j9 jK jH jm jp jn jB jD jx jJ wZ wn vk yg x23 wA yd wz g9 l176 gW =
 optO (CV.asL wZ) fun lg =>
 bif (decide (vk < (lg.2.length : Int))) then
 (optO (CV.asL wZ) fun s5 =>
 optO (atL s5.2 vk) fun c180 =>
 chkO (c180.length == 3) (
 optO (c180[0]?) fun zb =>
 optO (c180[1]?) fun qT =>
 optO (c180[2]?) fun zr =>
 chkO (room (l176.length + 1) 72) (
 QdO lb n ku jt js jh jl ji jq aleg7 j9 jK jH jm jp jn jB jD jx jJ wZ wn yg x23 wA yd wz (g9 && false) (l176 ++ [[CV.str jt, CV.int .i64 js, zb, qT, zr, CV.list jq aleg7]]) gW (IntKind.wrap .i64 (vk + 1)))))
 else
 (QdO lb n ku jt js jh jl ji jq aleg7 j9 jK jH jm jp jn jB jD jx jJ wZ wn yg x23 wA yd wz g9 l176 gW (IntKind.wrap .i64 (vk + 1))) := (Qac _).trans (by kernel_rfl)
noncomputable def Qm4 (lb n : Nat) (jt : LB) (js jh jl ji : Int) (jq : Bool) (aleg7 : LL) (j9 : Int) (jK : LB) (jH jm jp jn jB : Int) (jD : LB) (jx : Bool) (jJ : LL) (wZ wn yg x23 wA yd wz : CV) (mN : Bool) (mU : LL) (mP n5 : Int) : Option CV :=
 hold (E0 lb n 0 994 (sub (B QaX) [1, 1, 1, 1, 1, 1]) (retK Tryz.prog (R QaX) 0 (outK (Qaf Tryz.prog QaX))) ⟨fr 83 [(0, .val (.agg [.str jt, .int .i64 js, .int .i64 jh, .int .i64 jl, .int .i64 ji, .list jq aleg7])), (1, .val (.agg [.int .i64 j9, .str jK, .int .i64 jH, .int .i64 jm, .int .i64 jp, .int .i64 jn, .int .i64 jB, .str jD, .list jx jJ])), (2, .ptr 0 2 0), (3, .ptr 0 3 0), (4, .lst true true 42 []), (5, vI 0), (6, vV wZ), (7, .ptr 0 7 0), (8, vV wn), (9, .lst true mN 42 mU), (10, vI mP), (11, vI n5), (12, .ptr 0 2 2), (13, .val (.agg [.int .i64 jh, .int .i64 jl, .int .i64 ji])), (14, .ptr 0 3 3), (15, .val (.agg [.int .i64 jm, .int .i64 jp, .int .i64 jn])), (16, vV wZ), (17, vV yg), (18, .ptr 0 2 2), (19, .val (.agg [.int .i64 jh, .int .i64 jl, .int .i64 ji])), (20, .ptr 0 3 3), (21, .val (.agg [.int .i64 jm, .int .i64 jp, .int .i64 jn])), (22, vV yg), (23, vV x23), (24, vV wn)], [bx 83 [(2, some [vS jt, vI js, vI jh, vI jl, vI ji, .val (.list jq aleg7)]), (3, some [vI j9, vS jK, vI jH, vI jm, vI jp, vI jn, vI jB, vS jD, .val (.list jx jJ)]), (7, some [.val wA, .val yd, .val wz])]], KK⟩)
theorem Qqs (lb n : Nat) (jt : LB) (js jh jl ji : Int) (jq : Bool) (aleg7 : LL) (j9 : Int) (jK : LB) (jH jm jp jn jB : Int) (jD : LB) (jx : Bool) (jJ : LL) (wZ wn yg x23 wA yd wz : CV) (mN : Bool) (mU : LL) (mP n5 : Int) :
 Qm4 lb n jt js jh jl ji jq aleg7 j9 jK jH jm jp jn jB jD jx jJ wZ wn yg x23 wA yd wz mN mU mP n5 =
 some (.tup [.list mN mU, .int .i64 mP]) := (Qac _).trans (by kernel_rfl)
theorem Qdx (lb n ku : Nat) (jt : LB) (js jh jl ji : Int) (jq : Bool) (aleg7 : LL) (j9 : Int) (jK : LB) (jH jm jp jn jB : Int) (jD : LB) (jx : Bool) (jJ : LL) (wZ wn yg x23 wA yd wz : CV) (oD : Bool) (l108 : LL) (oS vk : Int) :
 QdO lb n (ku + 1) jt js jh jl ji jq aleg7 j9 jK jH jm jp jn jB jD jx jJ wZ wn yg x23 wA yd wz oD l108 oS vk =
 optO (CV.asL wZ) fun sx =>
 bif (decide (vk ≤ (sx.2.length : Int))) then
 (bif (decide (oS < 0)) then
 (bif (j9 != 2) then
 (optO (CV.asL wZ) fun sc =>
 bif (vk == (sc.2.length : Int)) then
 (optO (C lb n Qaq [.agg [.str jt, .int .i64 js, .int .i64 jh, .int .i64 jl, .int .i64 ji, .list jq aleg7], .agg [.int .i64 j9, .str jK, .int .i64 jH, .int .i64 jm, .int .i64 jp, .int .i64 jn, .int .i64 jB, .str jD, .list jx jJ], .agg [wA, yd, wz]]) fun sK =>
 optO (CV.asA sK) fun c168 =>
 chkO (c168.length == 6) (
 optO (c168[0]?) fun zL =>
 optO (c168[1]?) fun ld =>
 optO (c168[2]?) fun s7 =>
 optO (c168[3]?) fun mC =>
 optO (c168[4]?) fun z6 =>
 optO (c168[5]?) fun sR =>
 chkO (room (l108.length + 1) 72) (
 Qdm lb n ku jt js jh jl ji jq aleg7 j9 jK jH jm jp jn jB jD jx jJ wZ wn vk yg x23 wA yd wz (oD && false) (l108 ++ [[zL, ld, s7, mC, z6, sR]]) (l108.length : Int))))
 else
 (optO (CV.asL wZ) fun sF =>
 optO (atL sF.2 vk) fun c185 =>
 chkO (c185.length == 3) (
 optO (c185[0]?) fun zM =>
 optO (CV.asI .i64 zM) fun qY =>
 optO (CV.asI .i64 wA) fun qR =>
 bif (decide (qY > qR)) then
 (optO (C lb n Qaq [.agg [.str jt, .int .i64 js, .int .i64 jh, .int .i64 jl, .int .i64 ji, .list jq aleg7], .agg [.int .i64 j9, .str jK, .int .i64 jH, .int .i64 jm, .int .i64 jp, .int .i64 jn, .int .i64 jB, .str jD, .list jx jJ], .agg [wA, yd, wz]]) fun li =>
 optO (CV.asA li) fun c190 =>
 chkO (c190.length == 6) (
 optO (c190[0]?) fun zX =>
 optO (c190[1]?) fun zj =>
 optO (c190[2]?) fun s6 =>
 optO (c190[3]?) fun z7 =>
 optO (c190[4]?) fun zl =>
 optO (c190[5]?) fun sE =>
 chkO (room (l108.length + 1) 72) (
 Qdm lb n ku jt js jh jl ji jq aleg7 j9 jK jH jm jp jn jB jD jx jJ wZ wn vk yg x23 wA yd wz (oD && false) (l108 ++ [[zX, zj, s6, z7, zl, sE]]) (l108.length : Int))))
 else
 (Qdm lb n ku jt js jh jl ji jq aleg7 j9 jK jH jm jp jn jB jD jx jJ wZ wn vk yg x23 wA yd wz oD l108 oS))))
 else
 (Qdm lb n ku jt js jh jl ji jq aleg7 j9 jK jH jm jp jn jB jD jx jJ wZ wn vk yg x23 wA yd wz oD l108 oS))
 else
 (Qdm lb n ku jt js jh jl ji jq aleg7 j9 jK jH jm jp jn jB jD jx jJ wZ wn vk yg x23 wA yd wz oD l108 oS))
 else
 (Qm4 lb n jt js jh jl ji jq aleg7 j9 jK jH jm jp jn jB jD jx jJ wZ wn yg x23 wA yd wz oD l108 oS vk) := (Qac _).trans (by kernel_rfl)
theorem QtJ (lb n : Nat) (jt : LB) (js jh jl ji : Int) (jq : Bool) (aleg7 : LL) (j9 : Int) (jK : LB) (jH jm jp jn jB : Int) (jD : LB) (jx : Bool) (jJ : LL) :
 top lb n QaX [.agg [.str jt, .int .i64 js, .int .i64 jh, .int .i64 jl, .int .i64 ji, .list jq aleg7], .agg [.int .i64 j9, .str jK, .int .i64 jH, .int .i64 jm, .int .i64 jp, .int .i64 jn, .int .i64 jB, .str jD, .list jx jJ]] =
 optO (C lb n Qbi [.agg [.int .i64 jh, .int .i64 jl, .int .i64 ji], .agg [.int .i64 jm, .int .i64 jp, .int .i64 jn]]) fun wZ =>
 optO (C lb n Qb2 [.agg [.int .i64 jh, .int .i64 jl, .int .i64 ji], .agg [.int .i64 jm, .int .i64 jp, .int .i64 jn]]) fun yg =>
 optO (CV.asT yg) fun rc =>
 optO (rc[0]?) fun x23 =>
 optO (CV.asT yg) fun nL =>
 optO (nL[1]?) fun wn =>
 optO (CV.asA x23) fun c26 =>
 chkO (c26.length == 3) (
 optO (c26[0]?) fun wA =>
 optO (c26[1]?) fun yd =>
 optO (c26[2]?) fun wz =>
 QdO lb n n jt js jh jl ji jq aleg7 j9 jK jH jm jp jn jB jD jx jJ wZ wn yg x23 wA yd wz true [] (-1) 0) := by kernel_rfl
end Go.Proofs
