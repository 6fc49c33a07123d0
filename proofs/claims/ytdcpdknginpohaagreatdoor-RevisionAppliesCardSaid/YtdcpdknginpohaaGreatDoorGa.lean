/- Equations of functions, printed by program. Conditions: none. -/
import Derived.Test.YtdcpdknginpohaaGreatDoorEv
namespace Go.Proofs
open Go.Am
set_option maxRecDepth 100000
set_option linter.unusedVariables false
noncomputable def r06_Find_L1 :=
 fun lb n (kv : Nat) (ja : Bool) (aair2 : LL) (jb : Bool) (adis4 : LL) b5 yD =>
 hold (Qas (E0 lb n 0 995) 0 (Qad (sub (B QbM) [1, 0, 1, 0, 0]) ++ []) [] (sub (B QbM) [1, 0, 1, 0, 0]) (Qak 0 (seqK (E0 lb n 0 998) (sub (B QbM) [1, 0]) (sub (B QbM) [1, 1]) (retK Tryz.prog (R QbM) 0 (outK (Qaf Tryz.prog QbM))))) kv ⟨fr 28 [(0, .val (.agg [.list ja aair2, .list jb adis4])), (1, vS b5), (2, .ptr 0 2 0), (4, .ptr 0 4 0), (5, vB false), (6, vI yD)], [bx 28 [(2, some [.val (.list ja aair2), .val (.list jb adis4)]), (4, some [.val (.str []), .val (.str []), .val (.str []), vI 0, .lst true true 195 []])]], KK⟩)
noncomputable def QoK (lb n : Nat) (ja : Bool) (aair2 : LL) (jb : Bool) (adis4 : LL) (b5 : LB) (kc : Int) : Option CV :=
 hold (E0 lb n 0 998 (sub (B QbM) [1, 1]) (retK Tryz.prog (R QbM) 0 (outK (Qaf Tryz.prog QbM))) ⟨fr 28 [(0, .val (.agg [.list ja aair2, .list jb adis4])), (1, vS b5), (2, .ptr 0 2 0), (4, .ptr 0 4 0), (5, vB false), (6, vI kc)], [bx 28 [(2, some [.val (.list ja aair2), .val (.list jb adis4)]), (4, some [.val (.str []), .val (.str []), .val (.str []), vI 0, .lst true true 195 []])]], KK⟩)
theorem Qrq (lb n : Nat) (ja : Bool) (aair2 : LL) (jb : Bool) (adis4 : LL) (b5 : LB) (kc : Int) :
 QoK lb n ja aair2 jb adis4 b5 kc =
 some (.tup [.agg [.str [], .str [], .str [], .int .i64 0, .list true []], .bool false]) := (Qac _).trans (by kernel_rfl)
theorem Qjg (lb n kv : Nat) (ja : Bool) (aair2 : LL) (jb : Bool) (adis4 : LL) (b5 : LB) (yD : Int) :
 r06_Find_L1 lb n (kv + 1) ja aair2 jb adis4 b5 yD =
 bif (decide (yD < (aair2.length : Int))) then
 (optO (atL aair2 yD) fun c28 =>
 chkO (c28.length == 5) (
 optO (c28[0]?) fun wz =>
 optO (CV.asS wz) fun gO =>
 bif (gO == b5) then
 (optO (atL aair2 yD) fun c31 =>
 chkO (c31.length == 5) (
 optO (c31[0]?) fun w9 =>
 optO (c31[1]?) fun wY =>
 optO (c31[2]?) fun yC =>
 optO (c31[3]?) fun yL =>
 optO (c31[4]?) fun yE =>
 some (.tup [.agg [w9, wY, yC, yL, yE], .bool true])))
 else
 (r06_Find_L1 lb n kv ja aair2 jb adis4 b5 (IntKind.wrap .i64 (yD + 1)))))
 else
 (QoK lb n ja aair2 jb adis4 b5 yD) := (Qac _).trans (by kernel_rfl)
theorem Qvb (lb n : Nat) (ja : Bool) (aair2 : LL) (jb : Bool) (adis4 : LL) (b5 : LB) :
 top lb n QbM [.agg [.list ja aair2, .list jb adis4], .str b5] =
 r06_Find_L1 lb n n ja aair2 jb adis4 b5 0 := by kernel_rfl
noncomputable def QfT (lb n ga : Nat) (ja : Bool) (aair2 : LL) (jb : Bool) (adis4 : LL) (b5 : LB) (vj : Int) : Option CV :=
 hold (Qas (E0 lb n 0 995) 0 (Qad (sub (B Qbj) [1, 0, 1, 0, 0]) ++ []) [7] (sub (B Qbj) [1, 0, 1, 0, 0]) (Qak 0 (seqK (E0 lb n 0 998) (sub (B Qbj) [1, 0]) (sub (B Qbj) [1, 1]) (retK Tryz.prog (R Qbj) 0 (outK (Qaf Tryz.prog Qbj))))) ga ⟨fr 22 [(0, .val (.agg [.list ja aair2, .list jb adis4])), (1, vS b5), (2, .ptr 0 2 0), (4, .ptr 0 4 0), (5, vB false), (8, .ptr 0 2 0), (9, .val (.list ja aair2)), (10, .val (.int .i64 (aair2.length : Int))), (11, vI vj)], [bx 22 [(2, some [.val (.list ja aair2), .val (.list jb adis4)]), (4, some [.val (.str []), .val (.str []), .val (.str []), vI 0, .lst true true 195 []])]], KK⟩)
noncomputable def QkD (lb n : Nat) (ja : Bool) (aair2 : LL) (jb : Bool) (adis4 : LL) (b5 : LB) : Option CV :=
 hold (E0 lb n 0 998 (sub (B Qbj) [1, 1]) (retK Tryz.prog (R Qbj) 0 (outK (Qaf Tryz.prog Qbj))) ⟨fr 22 [(0, .val (.agg [.list ja aair2, .list jb adis4])), (1, vS b5), (2, .ptr 0 2 0), (4, .ptr 0 4 0), (5, vB false)], [bx 22 [(2, some [.val (.list ja aair2), .val (.list jb adis4)]), (4, some [.val (.str []), .val (.str []), .val (.str []), vI 0, .lst true true 195 []])]], KK⟩)
theorem Qn2 (lb n : Nat) (ja : Bool) (aair2 : LL) (jb : Bool) (adis4 : LL) (b5 : LB) :
 QkD lb n ja aair2 jb adis4 b5 =
 some (.tup [.agg [.str [], .str [], .str [], .int .i64 0, .list true []], .bool false]) := (Qac _).trans (by kernel_rfl)
theorem Qhc (lb n ga : Nat) (ja : Bool) (aair2 : LL) (jb : Bool) (adis4 : LL) (b5 : LB) (vj : Int) :
 QfT lb n (ga + 1) ja aair2 jb adis4 b5 vj =
 bif (decide (vj < (aair2.length : Int))) then
 (optO (atL aair2 vj) fun c24 =>
 chkO (c24.length == 5) (
 optO (c24[0]?) fun wn =>
 optO (c24[1]?) fun w8 =>
 optO (c24[2]?) fun wA =>
 optO (c24[3]?) fun yd =>
 optO (c24[4]?) fun wz =>
 optO (CV.asS wn) fun gO =>
 bif (gO == b5) then
 (some (.tup [.agg [wn, w8, wA, yd, wz], .bool true]))
 else
 (QfT lb n ga ja aair2 jb adis4 b5 (IntKind.wrap .i64 (vj + 1)))))
 else
 (QkD lb n ja aair2 jb adis4 b5 ) := (Qac _).trans (by kernel_rfl)
theorem Qrs (lb n : Nat) (ja : Bool) (aair2 : LL) (jb : Bool) (adis4 : LL) (b5 : LB) :
 top lb n Qbj [.agg [.list ja aair2, .list jb adis4], .str b5] =
 QfT lb n n ja aair2 jb adis4 b5 0 := by kernel_rfl
noncomputable def QhV (lb n kv : Nat) (wB : Int) (wy : Bool) (ashi3 : LL) (b4 : Int) (r5 : CV) (p6 : Bool × LL) (yD yG : Int) : Option CV :=
 hold (Qas (E0 lb n 0 994) 0 (Qad (sub (B QbK) [1, 1, 0, 1, 0, 0]) ++ []) [7] (sub (B QbK) [1, 1, 0, 1, 0, 0]) (Qak 0 (seqK (E0 lb n 0 997) (sub (B QbK) [1, 1, 0]) (sub (B QbK) [1, 1, 1]) (retK Tryz.prog (R QbK) 0 (outK (Qaf Tryz.prog QbK))))) kv ⟨fr 28 [(0, .val (.agg [.int .i64 wB, .list wy ashi3])), (1, vI b4), (2, .ptr 0 2 0), (4, vI 0), (5, vI yD), (8, .val (.agg [.int .i64 wB, .list wy ashi3])), (9, vV r5), (10, .val (.int .i64 (p6.2.length : Int))), (11, vI yG)], [bx 28 [(2, some [vI wB, .val (.list wy ashi3)])]], KK⟩)
noncomputable def Qol (lb n : Nat) (wB : Int) (wy : Bool) (ashi3 : LL) (b4 i37 : Int) (qA ql qk : CV) : Option CV :=
 hold (E0 lb n 0 997 (sub (B QbK) [1, 1, 1]) (retK Tryz.prog (R QbK) 0 (outK (Qaf Tryz.prog QbK))) ⟨fr 28 [(0, .val (.agg [.int .i64 wB, .list wy ashi3])), (1, vI b4), (2, .ptr 0 2 0), (4, vI 0), (5, vI i37)], [bx 28 [(2, some [vI wB, .val (.list wy ashi3)]), (7, some [.val qA, .val ql, .val qk])]], KK⟩)
theorem Qrl (lb n : Nat) (wB : Int) (wy : Bool) (ashi3 : LL) (b4 i37 : Int) (qA ql qk : CV) :
 Qol lb n wB wy ashi3 b4 i37 qA ql qk =
 some (.int .i64 i37) := (Qac _).trans (by kernel_rfl)
noncomputable def Qoi (lb n : Nat) (wB : Int) (wy : Bool) (ashi3 : LL) (b4 vp : Int) : Option CV :=
 hold (E0 lb n 0 997 (sub (B QbK) [1, 1, 1]) (retK Tryz.prog (R QbK) 0 (outK (Qaf Tryz.prog QbK))) ⟨fr 28 [(0, .val (.agg [.int .i64 wB, .list wy ashi3])), (1, vI b4), (2, .ptr 0 2 0), (4, vI 0), (5, vI vp)], [bx 28 [(2, some [vI wB, .val (.list wy ashi3)])]], KK⟩)
theorem Qrn (lb n : Nat) (wB : Int) (wy : Bool) (ashi3 : LL) (b4 vp : Int) :
 Qoi lb n wB wy ashi3 b4 vp =
 some (.int .i64 vp) := (Qac _).trans (by kernel_rfl)
theorem Qje (lb n kv : Nat) (wB : Int) (wy : Bool) (ashi3 : LL) (b4 : Int) (r5 : CV) (p6 : Bool × LL) (yD yG : Int) :
 QhV lb n (kv + 1) wB wy ashi3 b4 r5 p6 yD yG =
 bif (decide (yG < (p6.2.length : Int))) then
 (optO (CV.asL r5) fun rT =>
 optO (atL rT.2 yG) fun c29 =>
 chkO (c29.length == 3) (
 optO (c29[0]?) fun yn =>
 optO (c29[1]?) fun wN =>
 optO (c29[2]?) fun w9 =>
 optO (CV.asI .i64 w9) fun vA =>
 optO (CV.asI .i64 yn) fun kQ =>
 optO (CV.asI .i64 wN) fun vX =>
 bif (decide ((if (IntKind.wrap .i64 (b4 - vA)) > kQ then (IntKind.wrap .i64 (b4 - vA)) else kQ) < vX)) then
 (Qol lb n wB wy ashi3 b4 (if (IntKind.wrap .i64 (b4 - vA)) > kQ then (IntKind.wrap .i64 (b4 - vA)) else kQ) yn wN w9)
 else
 (QhV lb n kv wB wy ashi3 b4 r5 p6 (if (IntKind.wrap .i64 (b4 - vA)) > kQ then (IntKind.wrap .i64 (b4 - vA)) else kQ) (IntKind.wrap .i64 (yG + 1)))))
 else
 (Qoi lb n wB wy ashi3 b4 yD) := (Qac _).trans (by kernel_rfl)
theorem Qu4 (lb n : Nat) (wB : Int) (wy : Bool) (ashi3 : LL) (b4 : Int) :
 top lb n QbK [.agg [.int .i64 wB, .list wy ashi3], .int .i64 b4] =
 optO (C lb n QgH [.agg [.int .i64 wB, .list wy ashi3]]) fun r5 =>
 optO (CV.asL r5) fun p6 =>
 QhV lb n n wB wy ashi3 b4 r5 p6 0 0 := by kernel_rfl
noncomputable def QiM (lb n kv : Nat) (wB : Int) (wy : Bool) (ashi3 : LL) (b4 oF yD : Int) : Option CV :=
 hold (Qas (E0 lb n 0 994) 0 (Qad (sub (B Qc1) [1, 1, 0, 1, 0, 0]) ++ []) [] (sub (B Qc1) [1, 1, 0, 1, 0, 0]) (Qak 0 (seqK (E0 lb n 0 997) (sub (B Qc1) [1, 1, 0]) (sub (B Qc1) [1, 1, 1]) (retK Tryz.prog (R Qc1) 0 (outK (Qaf Tryz.prog Qc1))))) kv ⟨fr 43 [(0, .val (.agg [.int .i64 wB, .list wy ashi3])), (1, vI b4), (2, .ptr 0 2 0), (4, vI 0), (5, vI oF), (6, vI yD), (7, vI b4), (8, .ptr 0 2 0), (9, vI wB), (10, .val (.int .i64 (IntKind.wrap .i64 (b4 - wB))))], [bx 43 [(2, some [vI wB, .val (.list wy ashi3)])]], KK⟩)
noncomputable def Qp7 (lb n : Nat) (wB : Int) (wy : Bool) (ashi3 : LL) (b4 kc oa : Int) : Option CV :=
 hold (E0 lb n 0 997 (sub (B Qc1) [1, 1, 1]) (retK Tryz.prog (R Qc1) 0 (outK (Qaf Tryz.prog Qc1))) ⟨fr 43 [(0, .val (.agg [.int .i64 wB, .list wy ashi3])), (1, vI b4), (2, .ptr 0 2 0), (4, vI 0), (5, vI kc), (6, vI oa), (7, vI b4), (8, .ptr 0 2 0), (9, vI wB), (10, .val (.int .i64 (IntKind.wrap .i64 (b4 - wB))))], [bx 43 [(2, some [vI wB, .val (.list wy ashi3)])]], KK⟩)
theorem QsF (lb n : Nat) (wB : Int) (wy : Bool) (ashi3 : LL) (b4 kc oa : Int) :
 Qp7 lb n wB wy ashi3 b4 kc oa =
 some (.int .i64 kc) := (Qac _).trans (by kernel_rfl)
theorem Qj0 (lb n kv : Nat) (wB : Int) (wy : Bool) (ashi3 : LL) (b4 oF yD : Int) :
 QiM lb n (kv + 1) wB wy ashi3 b4 oF yD =
 bif (decide (yD < (ashi3.length : Int))) then
 (optO (atL ashi3 yD) fun c28 =>
 chkO (c28.length == 2) (
 optO (c28[0]?) fun wz =>
 optO (CV.asI .i64 wz) fun gI =>
 bif (decide (oF < gI)) then
 (some (.int .i64 oF))
 else
 (optO (atL ashi3 yD) fun c31 =>
 chkO (c31.length == 2) (
 optO (c31[0]?) fun w9 =>
 optO (atL ashi3 yD) fun c34 =>
 chkO (c34.length == 2) (
 optO (c34[1]?) fun yC =>
 optO (CV.asI .i64 yC) fun vX =>
 optO (CV.asI .i64 w9) fun i37 =>
 QiM lb n kv wB wy ashi3 b4 (if (IntKind.wrap .i64 (b4 - vX)) > i37 then (IntKind.wrap .i64 (b4 - vX)) else i37) (IntKind.wrap .i64 (yD + 1)))))))
 else
 (Qp7 lb n wB wy ashi3 b4 oF yD) := (Qac _).trans (by kernel_rfl)
theorem QvU (lb n : Nat) (wB : Int) (wy : Bool) (ashi3 : LL) (b4 : Int) :
 top lb n Qc1 [.agg [.int .i64 wB, .list wy ashi3], .int .i64 b4] =
 QiM lb n n wB wy ashi3 b4 (IntKind.wrap .i64 (b4 - wB)) 0 := by kernel_rfl
theorem Qqg (lb n : Nat) (ja : Bool) (aair2 : LL) (jb : Bool) (adis4 : LL) (pK qg : LB) (pT pw : Int) (qn : LB) (c11 : Int) :
 top lb n Qhm [.agg [.list ja aair2, .list jb adis4], .agg [.str pK, .str qg, .int .i64 pT, .int .i64 pw, .str qn], .int .i64 c11] =
 optO (C lb n Qbj [.agg [.list ja aair2, .list jb adis4], .str pK]) fun yN =>
 optO (CV.asT yN) fun nV =>
 optO (nV[0]?) fun yM =>
 optO (CV.asT yN) fun nF =>
 optO (nF[1]?) fun gN =>
 optO (CV.asA yM) fun c18 =>
 chkO (c18.length == 5) (
 optO (c18[0]?) fun yk =>
 optO (c18[1]?) fun wV =>
 optO (c18[2]?) fun yq =>
 optO (c18[3]?) fun wC =>
 optO (c18[4]?) fun x23 =>
 optO (C lb n Qbj [.agg [.list ja aair2, .list jb adis4], .str qg]) fun kd =>
 optO (CV.asT kd) fun tx =>
 optO (tx[0]?) fun w8 =>
 optO (CV.asT kd) fun l9 =>
 optO (l9[1]?) fun yd =>
 optO (CV.asA w8) fun c29 =>
 chkO (c29.length == 5) (
 optO (c29[0]?) fun yn =>
 optO (c29[1]?) fun wN =>
 optO (c29[2]?) fun w9 =>
 optO (c29[3]?) fun wY =>
 optO (c29[4]?) fun yC =>
 optO (C lb n QbK [.agg [wC, x23], .int .i64 (IntKind.wrap .i64 ((IntKind.wrap .i64 (c11 * 1440)) + pT))]) fun mo =>
 optO (C lb n QbK [.agg [wY, yC], .int .i64 (IntKind.wrap .i64 ((IntKind.wrap .i64 (c11 * 1440)) + pw))]) fun nS =>
 some (.tup [mo, nS]))) := by kernel_rfl
theorem QvR (lb n : Nat) (ja : Bool) (aair2 : LL) (jb : Bool) (adis4 : LL) (b5 : LB) (c6 d7 : Int) :
 top lb n Qj5 [.agg [.list ja aair2, .list jb adis4], .str b5, .int .i64 c6, .int .i64 d7] =
 optO (C lb n QbM [.agg [.list ja aair2, .list jb adis4], .str b5]) fun r9 =>
 optO (CV.asT r9) fun lz =>
 optO (lz[0]?) fun wI =>
 optO (CV.asT r9) fun qj =>
 optO (qj[1]?) fun wX =>
 optO (CV.asA wI) fun c14 =>
 chkO (c14.length == 5) (
 optO (c14[0]?) fun ym =>
 optO (c14[1]?) fun gN =>
 optO (c14[2]?) fun w5 =>
 optO (c14[3]?) fun yk =>
 optO (c14[4]?) fun wV =>
 optO (C lb n Qc1 [.agg [yk, wV], .int .i64 (IntKind.wrap .i64 ((IntKind.wrap .i64 (c6 * 1440)) + d7))]) fun yg =>
 some (yg)) := by kernel_rfl
theorem QqM (lb n : Nat) (ju jG jv : Int) :
 top lb n Qbz [.agg [.int .i64 ju, .int .i64 jG, .int .i64 jv]] =
 bif (decide (ju < 0)) then
 (some (.int .i64 12))
 else
 (bif (decide (jG < ju)) then
 (some (.int .i64 12))
 else
 (bif (decide (jG ≥ 36525)) then
 (some (.int .i64 12))
 else
 (bif (decide ((IntKind.wrap .i64 (jG - ju)) ≥ 800)) then
 (some (.int .i64 4))
 else
 (bif (decide (jv < 1)) then
 (some (.int .i64 2))
 else
 (bif (decide (jv > 127)) then
 (some (.int .i64 2))
 else
 (some (.int .i64 0))))))) := by kernel_rfl
theorem Qti (lb n : Nat) (ju jG jv : Int) :
 top lb n Qdb [.agg [.int .i64 ju, .int .i64 jG, .int .i64 jv]] =
 bif (decide (ju < 0)) then
 (some (.int .i64 12))
 else
 (bif (decide (ju > jG)) then
 (some (.int .i64 12))
 else
 (bif (decide (jG ≥ 36525)) then
 (some (.int .i64 12))
 else
 (bif (decide ((IntKind.wrap .i64 (jG - ju)) ≥ 800)) then
 (some (.int .i64 4))
 else
 (bif (decide (jv < 1)) then
 (some (.int .i64 2))
 else
 (bif (decide (jv > 127)) then
 (some (.int .i64 2))
 else
 (some (.int .i64 0))))))) := by kernel_rfl
theorem Qmg (lb n : Nat) (a1 : Int) :
 top lb n Qd6 [.int .i64 a1] =
 some (.int .i64 (Int.tmod (IntKind.wrap .i64 ((Int.tmod a1 7) + 12)) 7)) := by kernel_rfl
theorem Qrc (lb n : Nat) (a1 : Int) :
 top lb n Qil [.int .i64 a1] =
 some (.int .i64 (Int.tmod (IntKind.wrap .i64 ((Int.tmod a1 7) + 12)) 7)) := by kernel_rfl
noncomputable def QiL (lb n k9 : Nat) (a1 i4 i5 : Int) : Option CV :=
 hold (Qas (E0 lb n 0 994) 0 (Qad (sub (B Qcu) [1, 1, 0, 1, 0, 0]) ++ []) [] (sub (B Qcu) [1, 1, 0, 1, 0, 0]) (Qak 0 (seqK (E0 lb n 0 997) (sub (B Qcu) [1, 1, 0]) (sub (B Qcu) [1, 1, 1]) (retK Tryz.prog (R Qcu) 0 (outK (Qaf Tryz.prog Qcu))))) k9 ⟨fr 14 [(0, vI a1), (2, vI 0), (3, vI i4), (4, vI i5)], [bx 14 []], KK⟩)
noncomputable def Qqw (lb n : Nat) (a1 kh kg : Int) : Option CV :=
 hold (E0 lb n 0 997 (sub (B Qcu) [1, 1, 1]) (retK Tryz.prog (R Qcu) 0 (outK (Qaf Tryz.prog Qcu))) ⟨fr 14 [(0, vI a1), (2, vI 0), (3, vI kh), (4, vI kg)], [bx 14 []], KK⟩)
theorem Qsx (lb n : Nat) (a1 kh kg : Int) :
 Qqw lb n a1 kh kg =
 some (.int .i64 kh) := (Qac _).trans (by kernel_rfl)
theorem Qj3 (lb n k9 : Nat) (a1 i4 i5 : Int) :
 QiL lb n (k9 + 1) a1 i4 i5 =
 optO (C lb n Qil [.int .i64 a1]) fun gS =>
 optO (CV.asI .i64 gS) fun vo =>
 bif (decide (i5 < vo)) then
 (QiL lb n k9 a1 (IntKind.wrap .i64 (2 * i4)) (IntKind.wrap .i64 (i5 + 1)))
 else
 (Qqw lb n a1 i4 i5) := (Qac _).trans (by kernel_rfl)
theorem QvS (lb n : Nat) (a1 : Int) :
 top lb n Qcu [.int .i64 a1] =
 QiL lb n n a1 1 0 := by kernel_rfl
theorem Qwa (lb n : Nat) (ju jG jv b4 : Int) :
 top lb n Qh5 [.agg [.int .i64 ju, .int .i64 jG, .int .i64 jv], .int .i64 b4] =
 optO (C lb n Qdb [.agg [.int .i64 ju, .int .i64 jG, .int .i64 jv]]) fun r5 =>
 optO (CV.asI .i64 r5) fun i6 =>
 bif (i6 == 0) then
 (bif (decide (b4 ≥ ju)) then
 (bif (decide (b4 ≤ jG)) then
 (optO (C lb n Qcu [.int .i64 b4]) fun r7 =>
 optO (CV.asI .i64 r7) fun i9 =>
 chkO (i9 != 0) (
 some (.bool ((Int.tmod (IntKind.wrap .i64 (Int.tdiv jv i9)) 2) == 1))))
 else
 (some (.bool false)))
 else
 (some (.bool false)))
 else
 (some (.bool false)) := by kernel_rfl
noncomputable def Qe9 (lb n oL : Nat) (ju jG jv : Int) (me : Bool) (l13 : LL) (vj : Int) : Option CV :=
 hold (Qas (E0 lb n 0 994) 0 (Qad (sub (B Qb3) [1, 1, 0, 1, 0, 0]) ++ []) [] (sub (B Qb3) [1, 1, 0, 1, 0, 0]) (Qak 0 (seqK (E0 lb n 0 997) (sub (B Qb3) [1, 1, 0]) (sub (B Qb3) [1, 1, 1]) (retK Tryz.prog (R Qb3) 0 (outK (Qaf Tryz.prog Qb3))))) oL ⟨fr 26 [(0, .val (.agg [.int .i64 ju, .int .i64 jG, .int .i64 jv])), (1, .ptr 0 1 0), (2, .lst true true 3 []), (3, .lst true me 3 l13), (4, vI vj), (5, .ptr 0 1 0), (6, vI ju)], [bx 26 [(1, some [vI ju, vI jG, vI jv])]], KK⟩)
noncomputable def Qkz (lb n : Nat) (ju jG jv : Int) (pr : Bool) (pL : LL) (gm : Int) : Option CV :=
 hold (E0 lb n 0 997 (sub (B Qb3) [1, 1, 1]) (retK Tryz.prog (R Qb3) 0 (outK (Qaf Tryz.prog Qb3))) ⟨fr 26 [(0, .val (.agg [.int .i64 ju, .int .i64 jG, .int .i64 jv])), (1, .ptr 0 1 0), (2, .lst true true 3 []), (3, .lst true pr 3 pL), (4, vI gm)], [bx 26 [(1, some [vI ju, vI jG, vI jv])]], KK⟩)
theorem QkM (lb n : Nat) (ju jG jv : Int) (pr : Bool) (pL : LL) (gm : Int) :
 Qkz lb n ju jG jv pr pL gm =
 some (.list pr pL) := (Qac _).trans (by kernel_rfl)
theorem Qgl (lb n oL : Nat) (ju jG jv : Int) (me : Bool) (l13 : LL) (vj : Int) :
 Qe9 lb n (oL + 1) ju jG jv me l13 vj =
 optO (C lb n Qdb [.agg [.int .i64 ju, .int .i64 jG, .int .i64 jv]]) fun yg =>
 optO (CV.asI .i64 yg) fun kM =>
 bif (kM == 0) then
 (bif (decide (vj ≤ jG)) then
 (optO (C lb n Qh5 [.agg [.int .i64 ju, .int .i64 jG, .int .i64 jv], .int .i64 vj]) fun yh =>
 optO (CV.asB yh) fun lE =>
 bif lE then
 (chkO (room (l13.length + 1) 8) (
 Qe9 lb n oL ju jG jv (me && false) (l13 ++ [[CV.int .i64 vj]]) (IntKind.wrap .i64 (vj + 1))))
 else
 (Qe9 lb n oL ju jG jv me l13 (IntKind.wrap .i64 (vj + 1))))
 else
 (Qkz lb n ju jG jv me l13 vj))
 else
 (Qkz lb n ju jG jv me l13 vj) := (Qac _).trans (by kernel_rfl)
theorem QuX (lb n : Nat) (ju jG jv : Int) :
 top lb n Qb3 [.agg [.int .i64 ju, .int .i64 jG, .int .i64 jv]] =
 Qe9 lb n n ju jG jv true [] ju := by kernel_rfl
noncomputable def QhW (lb n k4 : Nat) (ja : Bool) (aair2 : LL) (jb : Bool) (adis4 : LL) (bcar5 : LB) (jg jd jf jc : Int) (je : Bool) (bleg12 : LL) (c13 : Int) (kR : Bool) (l24 : LL) (gq : Int) : Option CV :=
 hold (Qas (E0 lb n 0 994) 0 (Qad (sub (B Qcn) [1, 1, 0, 1, 0, 0]) ++ []) [9] (sub (B Qcn) [1, 1, 0, 1, 0, 0]) (Qak 0 (seqK (E0 lb n 0 997) (sub (B Qcn) [1, 1, 0]) (sub (B Qcn) [1, 1, 1]) (retK Tryz.prog (R Qcn) 0 (outK (Qaf Tryz.prog Qcn))))) k4 ⟨fr 52 [(0, .val (.agg [.list ja aair2, .list jb adis4])), (1, .val (.agg [.str bcar5, .int .i64 jg, .int .i64 jd, .int .i64 jf, .int .i64 jc, .list je bleg12])), (2, vI c13), (3, .ptr 0 3 0), (4, .ptr 0 4 0), (6, .lst true true 113 []), (7, .lst true kR 113 l24), (8, vI gq)], [bx 52 [(3, some [.val (.list ja aair2), .val (.list jb adis4)]), (4, some [vS bcar5, vI jg, vI jd, vI jf, vI jc, .val (.list je bleg12)])]], KK⟩)
noncomputable def QoY (lb n : Nat) (ja : Bool) (aair2 : LL) (jb : Bool) (adis4 : LL) (bcar5 : LB) (jg jd jf jc : Int) (je : Bool) (bleg12 : LL) (c13 : Int) (kH : Bool) (l45 : LL) (i46 : Int) : Option CV :=
 hold (E0 lb n 0 997 (sub (B Qcn) [1, 1, 1]) (retK Tryz.prog (R Qcn) 0 (outK (Qaf Tryz.prog Qcn))) ⟨fr 52 [(0, .val (.agg [.list ja aair2, .list jb adis4])), (1, .val (.agg [.str bcar5, .int .i64 jg, .int .i64 jd, .int .i64 jf, .int .i64 jc, .list je bleg12])), (2, vI c13), (3, .ptr 0 3 0), (4, .ptr 0 4 0), (6, .lst true true 113 []), (7, .lst true kH 113 l45), (8, vI i46)], [bx 52 [(3, some [.val (.list ja aair2), .val (.list jb adis4)]), (4, some [vS bcar5, vI jg, vI jd, vI jf, vI jc, .val (.list je bleg12)])]], KK⟩)
theorem Qrm (lb n : Nat) (ja : Bool) (aair2 : LL) (jb : Bool) (adis4 : LL) (bcar5 : LB) (jg jd jf jc : Int) (je : Bool) (bleg12 : LL) (c13 : Int) (kH : Bool) (l45 : LL) (i46 : Int) :
 QoY lb n ja aair2 jb adis4 bcar5 jg jd jf jc je bleg12 c13 kH l45 i46 =
 some (.list kH l45) := (Qac _).trans (by kernel_rfl)
theorem Qjx (lb n k4 : Nat) (ja : Bool) (aair2 : LL) (jb : Bool) (adis4 : LL) (bcar5 : LB) (jg jd jf jc : Int) (je : Bool) (bleg12 : LL) (c13 : Int) (kR : Bool) (l24 : LL) (gq : Int) :
 QhW lb n (k4 + 1) ja aair2 jb adis4 bcar5 jg jd jf jc je bleg12 c13 kR l24 gq =
 bif (decide (gq < (bleg12.length : Int))) then
 (optO (atL bleg12 gq) fun c36 =>
 chkO (c36.length == 5) (
 optO (c36[0]?) fun yE =>
 optO (c36[1]?) fun yR =>
 optO (c36[2]?) fun mt =>
 optO (c36[3]?) fun oY =>
 optO (c36[4]?) fun po =>
 optO (C lb n Qj5 [.agg [.list ja aair2, .list jb adis4], yE, .int .i64 c13, mt]) fun pH =>
 optO (C lb n Qj5 [.agg [.list ja aair2, .list jb adis4], yR, .int .i64 c13, oY]) fun qG =>
 chkO (CV.isCell yE) (
 chkO (CV.isCell yR) (
 chkO (CV.isCell pH) (
 chkO (CV.isCell qG) (
 chkO (CV.isCell po) (
 chkO (room (l24.length + 1) 96) (
 QhW lb n k4 ja aair2 jb adis4 bcar5 jg jd jf jc je bleg12 c13 (kR && false) (l24 ++ [[CV.str bcar5, CV.int .i64 jg, CV.int .i64 c13, yE, yR, pH, qG, po]]) (IntKind.wrap .i64 (gq + 1))))))))))
 else
 (QoY lb n ja aair2 jb adis4 bcar5 jg jd jf jc je bleg12 c13 kR l24 gq) := (Qac _).trans (by kernel_rfl)
theorem Qvh (lb n : Nat) (ja : Bool) (aair2 : LL) (jb : Bool) (adis4 : LL) (bcar5 : LB) (jg jd jf jc : Int) (je : Bool) (bleg12 : LL) (c13 : Int) :
 top lb n Qcn [.agg [.list ja aair2, .list jb adis4], .agg [.str bcar5, .int .i64 jg, .int .i64 jd, .int .i64 jf, .int .i64 jc, .list je bleg12], .int .i64 c13] =
 QhW lb n n ja aair2 jb adis4 bcar5 jg jd jf jc je bleg12 c13 true [] 0 := by kernel_rfl
noncomputable def Qdy (lb n o0 : Nat) (ja : Bool) (aair2 : LL) (jb : Bool) (adis4 : LL) (jA : Bool) (b6 : LL) (c7 : Int) (nM : CV) (ve : Int) : Option CV :=
 hold (Qas (E0 lb n 0 994) 0 (Qad (sub (B Qbf) [1, 1, 0, 1, 0, 0]) ++ [8, 10, 11]) [9] (sub (B Qbf) [1, 1, 0, 1, 0, 0]) (Qak 0 (seqK (E0 lb n 0 997) (sub (B Qbf) [1, 1, 0]) (sub (B Qbf) [1, 1, 1]) (retK Tryz.prog (R Qbf) 0 (outK (Qaf Tryz.prog Qbf))))) o0 ⟨fr 40 [(0, .val (.agg [.list ja aair2, .list jb adis4])), (1, .val (.list jA b6)), (2, vI c7), (3, .ptr 0 3 0), (6, vB false), (7, vV nM), (12, .val (.list jA b6)), (13, .val (.int .i64 (b6.length : Int))), (14, vI ve)], [bx 40 [(3, some [.val (.list ja aair2), .val (.list jb adis4)])]], KK⟩)
noncomputable def Qix (lb n : Nat) (ja : Bool) (aair2 : LL) (jb : Bool) (adis4 : LL) (jA : Bool) (b6 : LL) (c7 : Int) (qq : CV) : Option CV :=
 hold (E0 lb n 0 997 (sub (B Qbf) [1, 1, 1]) (retK Tryz.prog (R Qbf) 0 (outK (Qaf Tryz.prog Qbf))) ⟨fr 40 [(0, .val (.agg [.list ja aair2, .list jb adis4])), (1, .val (.list jA b6)), (2, vI c7), (3, .ptr 0 3 0), (6, vB false), (7, vV qq)], [bx 40 [(3, some [.val (.list ja aair2), .val (.list jb adis4)])]], KK⟩)
theorem QlT (lb n : Nat) (ja : Bool) (aair2 : LL) (jb : Bool) (adis4 : LL) (jA : Bool) (b6 : LL) (c7 : Int) (qq : CV) :
 Qix lb n ja aair2 jb adis4 jA b6 c7 qq =
 some (.bool true) := (Qac _).trans (by kernel_rfl)
theorem Qf3 (lb n o0 : Nat) (ja : Bool) (aair2 : LL) (jb : Bool) (adis4 : LL) (jA : Bool) (b6 : LL) (c7 : Int) (nM : CV) (ve : Int) :
 Qdy lb n (o0 + 1) ja aair2 jb adis4 jA b6 c7 nM ve =
 bif (decide (ve < (b6.length : Int))) then
 (optO (atL b6 ve) fun c42 =>
 chkO (c42.length == 5) (
 optO (c42[0]?) fun oM =>
 optO (c42[1]?) fun oG =>
 optO (c42[2]?) fun qa =>
 optO (c42[3]?) fun qp =>
 optO (c42[4]?) fun qu =>
 optO (C lb n Qhm [.agg [.list ja aair2, .list jb adis4], .agg [oM, oG, qa, qp, qu], .int .i64 c7]) fun gH =>
 optO (CV.asT gH) fun nI =>
 optO (nI[0]?) fun oZ =>
 optO (CV.asT gH) fun t51 =>
 optO (t51[1]?) fun oU =>
 optO (CV.asI .i64 oZ) fun i53 =>
 optO (CV.asI .i64 oU) fun l6 =>
 bif (decide (i53 ≥ l6)) then
 (some (.bool false))
 else
 (bif (decide (ve > 0)) then
 (optO (CV.asI .i64 oZ) fun lG =>
 optO (CV.asI .i64 nM) fun rI =>
 bif (decide (lG < rI)) then
 (some (.bool false))
 else
 (Qdy lb n o0 ja aair2 jb adis4 jA b6 c7 oU (IntKind.wrap .i64 (ve + 1))))
 else
 (Qdy lb n o0 ja aair2 jb adis4 jA b6 c7 oU (IntKind.wrap .i64 (ve + 1))))))
 else
 (Qix lb n ja aair2 jb adis4 jA b6 c7 nM) := (Qac _).trans (by kernel_rfl)
theorem Qoh (lb n : Nat) (ja : Bool) (aair2 : LL) (jb : Bool) (adis4 : LL) (jA : Bool) (b6 : LL) (c7 : Int) :
 top lb n Qbf [.agg [.list ja aair2, .list jb adis4], .list jA b6, .int .i64 c7] =
 Qdy lb n n ja aair2 jb adis4 jA b6 c7 (.int .i64 0) 0 := by kernel_rfl
noncomputable def Qev (lb n oP : Nat) (wb : Bool) (a2 : LL) (ko : Int) : Option CV :=
 hold (Qas (E0 lb n 0 995) 0 (Qad (sub (B Qbx) [1, 0, 1, 0, 0]) ++ []) [] (sub (B Qbx) [1, 0, 1, 0, 0]) (Qak 0 (seqK (E0 lb n 0 998) (sub (B Qbx) [1, 0]) (sub (B Qbx) [1, 1]) (retK Tryz.prog (R Qbx) 0 (outK (Qaf Tryz.prog Qbx))))) oP ⟨fr 39 [(0, .val (.list wb a2)), (2, vB false), (3, vI ko)], [bx 39 []], KK⟩)
noncomputable def Qk5 (lb n : Nat) (wb : Bool) (a2 : LL) (kc : Int) : Option CV :=
 hold (E0 lb n 0 998 (sub (B Qbx) [1, 1]) (retK Tryz.prog (R Qbx) 0 (outK (Qaf Tryz.prog Qbx))) ⟨fr 39 [(0, .val (.list wb a2)), (2, vB false), (3, vI kc)], [bx 39 []], KK⟩)
theorem Qn8 (lb n : Nat) (wb : Bool) (a2 : LL) (kc : Int) :
 Qk5 lb n wb a2 kc =
 some (.bool true) := (Qac _).trans (by kernel_rfl)
theorem Qhj (lb n oP : Nat) (wb : Bool) (a2 : LL) (ko : Int) :
 Qev lb n (oP + 1) wb a2 ko =
 bif (decide (ko < (a2.length : Int))) then
 (optO (atL a2 ko) fun c25 =>
 chkO (c25.length == 8) (
 optO (c25[5]?) fun w8 =>
 optO (atL a2 ko) fun c27 =>
 chkO (c27.length == 8) (
 optO (c27[6]?) fun yd =>
 optO (CV.asI .i64 w8) fun od =>
 optO (CV.asI .i64 yd) fun gI =>
 bif (decide (od ≥ gI)) then
 (some (.bool false))
 else
 (bif (decide (ko > 0)) then
 (optO (atL a2 ko) fun c31 =>
 chkO (c31.length == 8) (
 optO (c31[5]?) fun w9 =>
 optO (atL a2 (IntKind.wrap .i64 (ko - 1))) fun c34 =>
 chkO (c34.length == 8) (
 optO (c34[6]?) fun yC =>
 optO (CV.asI .i64 w9) fun vX =>
 optO (CV.asI .i64 yC) fun i37 =>
 bif (decide (vX < i37)) then
 (some (.bool false))
 else
 (Qev lb n oP wb a2 (IntKind.wrap .i64 (ko + 1))))))
 else
 (Qev lb n oP wb a2 (IntKind.wrap .i64 (ko + 1)))))))
 else
 (Qk5 lb n wb a2 ko) := (Qac _).trans (by kernel_rfl)
theorem Qrr (lb n : Nat) (wb : Bool) (a2 : LL) :
 top lb n Qbx [.list wb a2] =
 Qev lb n n wb a2 0 := by kernel_rfl
theorem QnZ (lb n : Nat) (a1 : Int) :
 top lb n QbG [.int .i64 a1] =
 bif (decide (a1 ≥ (-1440))) then
 (some (.bool (decide (a1 < 5760))))
 else
 (some (.bool false)) := by kernel_rfl
theorem Qv0 (lb n : Nat) (a1 : Int) :
 top lb n QdE [.int .i64 a1] =
 bif (decide (a1 < (-1440))) then
 (some (.bool true))
 else
 (some (.bool (decide (a1 > 5759)))) := by kernel_rfl
end Go.Proofs
