/- Equations of functions, printed by program. Conditions: none. -/
import Derived.Test.YtdcpdknginpohaaGreatDoorEv
namespace Go.Proofs
open Go.Am
set_option maxRecDepth 100000
set_option linter.unusedVariables false
noncomputable def r06_Find_L1 :=
 fun lb n (kH : Nat) (ja : Bool) (aair2 : LL) (jb : Bool) (adis4 : LL) b5 yC =>
 hold (Qar (E0 lb n 0 995) 0 (Qad (sub (B QbN) [1, 0, 1, 0, 0]) ++ []) [] (sub (B QbN) [1, 0, 1, 0, 0]) (Qaj 0 (seqK (E0 lb n 0 998) (sub (B QbN) [1, 0]) (sub (B QbN) [1, 1]) (retK Tryz.prog (R QbN) 0 (outK (Qaf Tryz.prog QbN))))) kH ⟨fr 28 [(0, .val (.agg [.list ja aair2, .list jb adis4])), (1, vS b5), (2, .ptr 0 2 0), (4, .ptr 0 4 0), (5, vB false), (6, vI yC)], [bx 28 [(2, some [.val (.list ja aair2), .val (.list jb adis4)]), (4, some [.val (.str []), .val (.str []), .val (.str []), vI 0, .lst true true 195 []])]], KK⟩)
noncomputable def Qo3 (lb n : Nat) (ja : Bool) (aair2 : LL) (jb : Bool) (adis4 : LL) (b5 : LB) (kv : Int) : Option CV :=
 hold (E0 lb n 0 998 (sub (B QbN) [1, 1]) (retK Tryz.prog (R QbN) 0 (outK (Qaf Tryz.prog QbN))) ⟨fr 28 [(0, .val (.agg [.list ja aair2, .list jb adis4])), (1, vS b5), (2, .ptr 0 2 0), (4, .ptr 0 4 0), (5, vB false), (6, vI kv)], [bx 28 [(2, some [.val (.list ja aair2), .val (.list jb adis4)]), (4, some [.val (.str []), .val (.str []), .val (.str []), vI 0, .lst true true 195 []])]], KK⟩)
theorem Qr5 (lb n : Nat) (ja : Bool) (aair2 : LL) (jb : Bool) (adis4 : LL) (b5 : LB) (kv : Int) :
 Qo3 lb n ja aair2 jb adis4 b5 kv =
 some (.tup [.agg [.str [], .str [], .str [], .int .i64 0, .list true []], .bool false]) := (Qac _).trans (by kernel_rfl)
theorem Qjr (lb n kH : Nat) (ja : Bool) (aair2 : LL) (jb : Bool) (adis4 : LL) (b5 : LB) (yC : Int) :
 r06_Find_L1 lb n (kH + 1) ja aair2 jb adis4 b5 yC =
 bif (decide (yC < (aair2.length : Int))) then
 (optO (atL aair2 yC) fun c28 =>
 chkO (c28.length == 5) (
 optO (c28[0]?) fun wz =>
 optO (CV.asS wz) fun gZ =>
 bif (gZ == b5) then
 (optO (atL aair2 yC) fun c31 =>
 chkO (c31.length == 5) (
 optO (c31[0]?) fun ya =>
 optO (c31[1]?) fun wY =>
 optO (c31[2]?) fun yF =>
 optO (c31[3]?) fun yN =>
 optO (c31[4]?) fun yE =>
 some (.tup [.agg [ya, wY, yF, yN, yE], .bool true])))
 else
 (r06_Find_L1 lb n kH ja aair2 jb adis4 b5 (IntKind.wrap .i64 (yC + 1)))))
 else
 (Qo3 lb n ja aair2 jb adis4 b5 yC) := (Qac _).trans (by kernel_rfl)
theorem Qvc (lb n : Nat) (ja : Bool) (aair2 : LL) (jb : Bool) (adis4 : LL) (b5 : LB) :
 top lb n QbN [.agg [.list ja aair2, .list jb adis4], .str b5] =
 r06_Find_L1 lb n n ja aair2 jb adis4 b5 0 := by kernel_rfl
noncomputable def QfY (lb n gh : Nat) (ja : Bool) (aair2 : LL) (jb : Bool) (adis4 : LL) (b5 : LB) (vm : Int) : Option CV :=
 hold (Qar (E0 lb n 0 995) 0 (Qad (sub (B Qbk) [1, 0, 1, 0, 0]) ++ []) [7] (sub (B Qbk) [1, 0, 1, 0, 0]) (Qaj 0 (seqK (E0 lb n 0 998) (sub (B Qbk) [1, 0]) (sub (B Qbk) [1, 1]) (retK Tryz.prog (R Qbk) 0 (outK (Qaf Tryz.prog Qbk))))) gh ⟨fr 22 [(0, .val (.agg [.list ja aair2, .list jb adis4])), (1, vS b5), (2, .ptr 0 2 0), (4, .ptr 0 4 0), (5, vB false), (8, .ptr 0 2 0), (9, .val (.list ja aair2)), (10, .val (.int .i64 (aair2.length : Int))), (11, vI vm)], [bx 22 [(2, some [.val (.list ja aair2), .val (.list jb adis4)]), (4, some [.val (.str []), .val (.str []), .val (.str []), vI 0, .lst true true 195 []])]], KK⟩)
noncomputable def Qlj (lb n : Nat) (ja : Bool) (aair2 : LL) (jb : Bool) (adis4 : LL) (b5 : LB) : Option CV :=
 hold (E0 lb n 0 998 (sub (B Qbk) [1, 1]) (retK Tryz.prog (R Qbk) 0 (outK (Qaf Tryz.prog Qbk))) ⟨fr 22 [(0, .val (.agg [.list ja aair2, .list jb adis4])), (1, vS b5), (2, .ptr 0 2 0), (4, .ptr 0 4 0), (5, vB false)], [bx 22 [(2, some [.val (.list ja aair2), .val (.list jb adis4)]), (4, some [.val (.str []), .val (.str []), .val (.str []), vI 0, .lst true true 195 []])]], KK⟩)
theorem Qok (lb n : Nat) (ja : Bool) (aair2 : LL) (jb : Bool) (adis4 : LL) (b5 : LB) :
 Qlj lb n ja aair2 jb adis4 b5 =
 some (.tup [.agg [.str [], .str [], .str [], .int .i64 0, .list true []], .bool false]) := (Qac _).trans (by kernel_rfl)
theorem Qhl (lb n gh : Nat) (ja : Bool) (aair2 : LL) (jb : Bool) (adis4 : LL) (b5 : LB) (vm : Int) :
 QfY lb n (gh + 1) ja aair2 jb adis4 b5 vm =
 bif (decide (vm < (aair2.length : Int))) then
 (optO (atL aair2 vm) fun c24 =>
 chkO (c24.length == 5) (
 optO (c24[0]?) fun wn =>
 optO (c24[1]?) fun w8 =>
 optO (c24[2]?) fun wA =>
 optO (c24[3]?) fun yc =>
 optO (c24[4]?) fun wz =>
 optO (CV.asS wn) fun gZ =>
 bif (gZ == b5) then
 (some (.tup [.agg [wn, w8, wA, yc, wz], .bool true]))
 else
 (QfY lb n gh ja aair2 jb adis4 b5 (IntKind.wrap .i64 (vm + 1)))))
 else
 (Qlj lb n ja aair2 jb adis4 b5 ) := (Qac _).trans (by kernel_rfl)
theorem QrO (lb n : Nat) (ja : Bool) (aair2 : LL) (jb : Bool) (adis4 : LL) (b5 : LB) :
 top lb n Qbk [.agg [.list ja aair2, .list jb adis4], .str b5] =
 QfY lb n n ja aair2 jb adis4 b5 0 := by kernel_rfl
noncomputable def QhR (lb n kH : Nat) (wB : Int) (wy : Bool) (ashi3 : LL) (b4 : Int) (r5 : CV) (p6 : Bool × LL) (yC yG : Int) : Option CV :=
 hold (Qar (E0 lb n 0 994) 0 (Qad (sub (B QbO) [1, 1, 0, 1, 0, 0]) ++ []) [7] (sub (B QbO) [1, 1, 0, 1, 0, 0]) (Qaj 0 (seqK (E0 lb n 0 997) (sub (B QbO) [1, 1, 0]) (sub (B QbO) [1, 1, 1]) (retK Tryz.prog (R QbO) 0 (outK (Qaf Tryz.prog QbO))))) kH ⟨fr 28 [(0, .val (.agg [.int .i64 wB, .list wy ashi3])), (1, vI b4), (2, .ptr 0 2 0), (4, vI 0), (5, vI yC), (8, .val (.agg [.int .i64 wB, .list wy ashi3])), (9, vV r5), (10, .val (.int .i64 (p6.2.length : Int))), (11, vI yG)], [bx 28 [(2, some [vI wB, .val (.list wy ashi3)])]], KK⟩)
noncomputable def QoH (lb n : Nat) (wB : Int) (wy : Bool) (ashi3 : LL) (b4 i37 : Int) (qq qv qA : CV) : Option CV :=
 hold (E0 lb n 0 997 (sub (B QbO) [1, 1, 1]) (retK Tryz.prog (R QbO) 0 (outK (Qaf Tryz.prog QbO))) ⟨fr 28 [(0, .val (.agg [.int .i64 wB, .list wy ashi3])), (1, vI b4), (2, .ptr 0 2 0), (4, vI 0), (5, vI i37)], [bx 28 [(2, some [vI wB, .val (.list wy ashi3)]), (7, some [.val qq, .val qv, .val qA])]], KK⟩)
theorem Qrk (lb n : Nat) (wB : Int) (wy : Bool) (ashi3 : LL) (b4 i37 : Int) (qq qv qA : CV) :
 QoH lb n wB wy ashi3 b4 i37 qq qv qA =
 some (.int .i64 i37) := (Qac _).trans (by kernel_rfl)
noncomputable def Qo5 (lb n : Nat) (wB : Int) (wy : Bool) (ashi3 : LL) (b4 vu : Int) : Option CV :=
 hold (E0 lb n 0 997 (sub (B QbO) [1, 1, 1]) (retK Tryz.prog (R QbO) 0 (outK (Qaf Tryz.prog QbO))) ⟨fr 28 [(0, .val (.agg [.int .i64 wB, .list wy ashi3])), (1, vI b4), (2, .ptr 0 2 0), (4, vI 0), (5, vI vu)], [bx 28 [(2, some [vI wB, .val (.list wy ashi3)])]], KK⟩)
theorem QrT (lb n : Nat) (wB : Int) (wy : Bool) (ashi3 : LL) (b4 vu : Int) :
 Qo5 lb n wB wy ashi3 b4 vu =
 some (.int .i64 vu) := (Qac _).trans (by kernel_rfl)
theorem Qi7 (lb n kH : Nat) (wB : Int) (wy : Bool) (ashi3 : LL) (b4 : Int) (r5 : CV) (p6 : Bool × LL) (yC yG : Int) :
 QhR lb n (kH + 1) wB wy ashi3 b4 r5 p6 yC yG =
 bif (decide (yG < (p6.2.length : Int))) then
 (optO (CV.asL r5) fun tx =>
 optO (atL tx.2 yG) fun c29 =>
 chkO (c29.length == 3) (
 optO (c29[0]?) fun yp =>
 optO (c29[1]?) fun wN =>
 optO (c29[2]?) fun ya =>
 optO (CV.asI .i64 ya) fun vE =>
 optO (CV.asI .i64 yp) fun kR =>
 optO (CV.asI .i64 wN) fun vK =>
 bif (decide ((if (IntKind.wrap .i64 (b4 - vE)) > kR then (IntKind.wrap .i64 (b4 - vE)) else kR) < vK)) then
 (QoH lb n wB wy ashi3 b4 (if (IntKind.wrap .i64 (b4 - vE)) > kR then (IntKind.wrap .i64 (b4 - vE)) else kR) yp wN ya)
 else
 (QhR lb n kH wB wy ashi3 b4 r5 p6 (if (IntKind.wrap .i64 (b4 - vE)) > kR then (IntKind.wrap .i64 (b4 - vE)) else kR) (IntKind.wrap .i64 (yG + 1)))))
 else
 (Qo5 lb n wB wy ashi3 b4 yC) := (Qac _).trans (by kernel_rfl)
theorem QvD (lb n : Nat) (wB : Int) (wy : Bool) (ashi3 : LL) (b4 : Int) :
 top lb n QbO [.agg [.int .i64 wB, .list wy ashi3], .int .i64 b4] =
 optO (C lb n QgW [.agg [.int .i64 wB, .list wy ashi3]]) fun r5 =>
 optO (CV.asL r5) fun p6 =>
 QhR lb n n wB wy ashi3 b4 r5 p6 0 0 := by kernel_rfl
noncomputable def QiT (lb n kH : Nat) (wB : Int) (wy : Bool) (ashi3 : LL) (b4 oQ yC : Int) : Option CV :=
 hold (Qar (E0 lb n 0 994) 0 (Qad (sub (B Qc6) [1, 1, 0, 1, 0, 0]) ++ []) [] (sub (B Qc6) [1, 1, 0, 1, 0, 0]) (Qaj 0 (seqK (E0 lb n 0 997) (sub (B Qc6) [1, 1, 0]) (sub (B Qc6) [1, 1, 1]) (retK Tryz.prog (R Qc6) 0 (outK (Qaf Tryz.prog Qc6))))) kH ⟨fr 43 [(0, .val (.agg [.int .i64 wB, .list wy ashi3])), (1, vI b4), (2, .ptr 0 2 0), (4, vI 0), (5, vI oQ), (6, vI yC), (7, vI b4), (8, .ptr 0 2 0), (9, vI wB), (10, .val (.int .i64 (IntKind.wrap .i64 (b4 - wB))))], [bx 43 [(2, some [vI wB, .val (.list wy ashi3)])]], KK⟩)
noncomputable def Qqf (lb n : Nat) (wB : Int) (wy : Bool) (ashi3 : LL) (b4 kv oC : Int) : Option CV :=
 hold (E0 lb n 0 997 (sub (B Qc6) [1, 1, 1]) (retK Tryz.prog (R Qc6) 0 (outK (Qaf Tryz.prog Qc6))) ⟨fr 43 [(0, .val (.agg [.int .i64 wB, .list wy ashi3])), (1, vI b4), (2, .ptr 0 2 0), (4, vI 0), (5, vI kv), (6, vI oC), (7, vI b4), (8, .ptr 0 2 0), (9, vI wB), (10, .val (.int .i64 (IntKind.wrap .i64 (b4 - wB))))], [bx 43 [(2, some [vI wB, .val (.list wy ashi3)])]], KK⟩)
theorem Qte (lb n : Nat) (wB : Int) (wy : Bool) (ashi3 : LL) (b4 kv oC : Int) :
 Qqf lb n wB wy ashi3 b4 kv oC =
 some (.int .i64 kv) := (Qac _).trans (by kernel_rfl)
theorem QjV (lb n kH : Nat) (wB : Int) (wy : Bool) (ashi3 : LL) (b4 oQ yC : Int) :
 QiT lb n (kH + 1) wB wy ashi3 b4 oQ yC =
 bif (decide (yC < (ashi3.length : Int))) then
 (optO (atL ashi3 yC) fun c28 =>
 chkO (c28.length == 2) (
 optO (c28[0]?) fun wz =>
 optO (CV.asI .i64 wz) fun gO =>
 bif (decide (oQ < gO)) then
 (some (.int .i64 oQ))
 else
 (optO (atL ashi3 yC) fun c31 =>
 chkO (c31.length == 2) (
 optO (c31[0]?) fun ya =>
 optO (atL ashi3 yC) fun c34 =>
 chkO (c34.length == 2) (
 optO (c34[1]?) fun yF =>
 optO (CV.asI .i64 yF) fun vK =>
 optO (CV.asI .i64 ya) fun i37 =>
 QiT lb n kH wB wy ashi3 b4 (if (IntKind.wrap .i64 (b4 - vK)) > i37 then (IntKind.wrap .i64 (b4 - vK)) else i37) (IntKind.wrap .i64 (yC + 1)))))))
 else
 (Qqf lb n wB wy ashi3 b4 oQ yC) := (Qac _).trans (by kernel_rfl)
theorem QwW (lb n : Nat) (wB : Int) (wy : Bool) (ashi3 : LL) (b4 : Int) :
 top lb n Qc6 [.agg [.int .i64 wB, .list wy ashi3], .int .i64 b4] =
 QiT lb n n wB wy ashi3 b4 (IntKind.wrap .i64 (b4 - wB)) 0 := by kernel_rfl
theorem QqJ (lb n : Nat) (ja : Bool) (aair2 : LL) (jb : Bool) (adis4 : LL) (pF ql : LB) (qi pY : Int) (qk : LB) (c11 : Int) :
 top lb n QhI [.agg [.list ja aair2, .list jb adis4], .agg [.str pF, .str ql, .int .i64 qi, .int .i64 pY, .str qk], .int .i64 c11] =
 optO (C lb n Qbk [.agg [.list ja aair2, .list jb adis4], .str pF]) fun yJ =>
 optO (CV.asT yJ) fun nU =>
 optO (nU[0]?) fun yO =>
 optO (CV.asT yJ) fun nT =>
 optO (nT[1]?) fun gY =>
 optO (CV.asA yO) fun c18 =>
 chkO (c18.length == 5) (
 optO (c18[0]?) fun yl =>
 optO (c18[1]?) fun wV =>
 optO (c18[2]?) fun yq =>
 optO (c18[3]?) fun wC =>
 optO (c18[4]?) fun x23 =>
 optO (C lb n Qbk [.agg [.list ja aair2, .list jb adis4], .str ql]) fun kt =>
 optO (CV.asT kt) fun tv =>
 optO (tv[0]?) fun w8 =>
 optO (CV.asT kt) fun rD =>
 optO (rD[1]?) fun yc =>
 optO (CV.asA w8) fun c29 =>
 chkO (c29.length == 5) (
 optO (c29[0]?) fun yp =>
 optO (c29[1]?) fun wN =>
 optO (c29[2]?) fun ya =>
 optO (c29[3]?) fun wY =>
 optO (c29[4]?) fun yF =>
 optO (C lb n QbO [.agg [wC, x23], .int .i64 (IntKind.wrap .i64 ((IntKind.wrap .i64 (c11 * 1440)) + qi))]) fun qh =>
 optO (C lb n QbO [.agg [wY, yF], .int .i64 (IntKind.wrap .i64 ((IntKind.wrap .i64 (c11 * 1440)) + pY))]) fun n0 =>
 some (.tup [qh, n0]))) := by kernel_rfl
theorem QwH (lb n : Nat) (ja : Bool) (aair2 : LL) (jb : Bool) (adis4 : LL) (b5 : LB) (c6 d7 : Int) :
 top lb n Qkc [.agg [.list ja aair2, .list jb adis4], .str b5, .int .i64 c6, .int .i64 d7] =
 optO (C lb n QbN [.agg [.list ja aair2, .list jb adis4], .str b5]) fun r9 =>
 optO (CV.asT r9) fun rO =>
 optO (rO[0]?) fun wI =>
 optO (CV.asT r9) fun qG =>
 optO (qG[1]?) fun wX =>
 optO (CV.asA wI) fun c14 =>
 chkO (c14.length == 5) (
 optO (c14[0]?) fun ym =>
 optO (c14[1]?) fun gY =>
 optO (c14[2]?) fun w5 =>
 optO (c14[3]?) fun yl =>
 optO (c14[4]?) fun wV =>
 optO (C lb n Qc6 [.agg [yl, wV], .int .i64 (IntKind.wrap .i64 ((IntKind.wrap .i64 (c6 * 1440)) + d7))]) fun yh =>
 some (yh)) := by kernel_rfl
theorem Qqi (lb n : Nat) (ju jG jv : Int) :
 top lb n QbA [.agg [.int .i64 ju, .int .i64 jG, .int .i64 jv]] =
 bif (decide (ju < 0)) then
 (some (.int .i64 12))
 else
 (bif (decide (jG < ju)) then
 (some (.int .i64 12))
 else
 (bif (decide (jG ≥ 36525)) then
 (some (.int .i64 12))
 else
 (bif (decide ((IntKind.wrap .i64 (jG - ju)) ≥ 800)) then
 (some (.int .i64 4))
 else
 (bif (decide (jv < 1)) then
 (some (.int .i64 2))
 else
 (bif (decide (jv > 127)) then
 (some (.int .i64 2))
 else
 (some (.int .i64 0))))))) := by kernel_rfl
theorem Qt5 (lb n : Nat) (ju jG jv : Int) :
 top lb n Qdk [.agg [.int .i64 ju, .int .i64 jG, .int .i64 jv]] =
 bif (decide (ju < 0)) then
 (some (.int .i64 12))
 else
 (bif (decide (ju > jG)) then
 (some (.int .i64 12))
 else
 (bif (decide (jG ≥ 36525)) then
 (some (.int .i64 12))
 else
 (bif (decide ((IntKind.wrap .i64 (jG - ju)) ≥ 800)) then
 (some (.int .i64 4))
 else
 (bif (decide (jv < 1)) then
 (some (.int .i64 2))
 else
 (bif (decide (jv > 127)) then
 (some (.int .i64 2))
 else
 (some (.int .i64 0))))))) := by kernel_rfl
theorem QmC (lb n : Nat) (a1 : Int) :
 top lb n Qed [.int .i64 a1] =
 some (.int .i64 (Int.tmod (IntKind.wrap .i64 ((Int.tmod a1 7) + 12)) 7)) := by kernel_rfl
theorem QrG (lb n : Nat) (a1 : Int) :
 top lb n Qio [.int .i64 a1] =
 some (.int .i64 (Int.tmod (IntKind.wrap .i64 ((Int.tmod a1 7) + 12)) 7)) := by kernel_rfl
noncomputable def QiP (lb n k9 : Nat) (a1 i4 i5 : Int) : Option CV :=
 hold (Qar (E0 lb n 0 994) 0 (Qad (sub (B Qcu) [1, 1, 0, 1, 0, 0]) ++ []) [] (sub (B Qcu) [1, 1, 0, 1, 0, 0]) (Qaj 0 (seqK (E0 lb n 0 997) (sub (B Qcu) [1, 1, 0]) (sub (B Qcu) [1, 1, 1]) (retK Tryz.prog (R Qcu) 0 (outK (Qaf Tryz.prog Qcu))))) k9 ⟨fr 14 [(0, vI a1), (2, vI 0), (3, vI i4), (4, vI i5)], [bx 14 []], KK⟩)
noncomputable def Qqd (lb n : Nat) (a1 kh ke : Int) : Option CV :=
 hold (E0 lb n 0 997 (sub (B Qcu) [1, 1, 1]) (retK Tryz.prog (R Qcu) 0 (outK (Qaf Tryz.prog Qcu))) ⟨fr 14 [(0, vI a1), (2, vI 0), (3, vI kh), (4, vI ke)], [bx 14 []], KK⟩)
theorem Qs2 (lb n : Nat) (a1 kh ke : Int) :
 Qqd lb n a1 kh ke =
 some (.int .i64 kh) := (Qac _).trans (by kernel_rfl)
theorem QjP (lb n k9 : Nat) (a1 i4 i5 : Int) :
 QiP lb n (k9 + 1) a1 i4 i5 =
 optO (C lb n Qio [.int .i64 a1]) fun gj =>
 optO (CV.asI .i64 gj) fun vt =>
 bif (decide (i5 < vt)) then
 (QiP lb n k9 a1 (IntKind.wrap .i64 (2 * i4)) (IntKind.wrap .i64 (i5 + 1)))
 else
 (Qqd lb n a1 i4 i5) := (Qac _).trans (by kernel_rfl)
theorem Qwi (lb n : Nat) (a1 : Int) :
 top lb n Qcu [.int .i64 a1] =
 QiP lb n n a1 1 0 := by kernel_rfl
theorem Qwn (lb n : Nat) (ju jG jv b4 : Int) :
 top lb n Qie [.agg [.int .i64 ju, .int .i64 jG, .int .i64 jv], .int .i64 b4] =
 optO (C lb n Qdk [.agg [.int .i64 ju, .int .i64 jG, .int .i64 jv]]) fun r5 =>
 optO (CV.asI .i64 r5) fun i6 =>
 bif (i6 == 0) then
 (bif (decide (b4 ≥ ju)) then
 (bif (decide (b4 ≤ jG)) then
 (optO (C lb n Qcu [.int .i64 b4]) fun r7 =>
 optO (CV.asI .i64 r7) fun i9 =>
 chkO (i9 != 0) (
 some (.bool ((Int.tmod (IntKind.wrap .i64 (Int.tdiv jv i9)) 2) == 1))))
 else
 (some (.bool false)))
 else
 (some (.bool false)))
 else
 (some (.bool false)) := by kernel_rfl
noncomputable def Qfh (lb n oS : Nat) (ju jG jv : Int) (mu : Bool) (l13 : LL) (vm : Int) : Option CV :=
 hold (Qar (E0 lb n 0 994) 0 (Qad (sub (B Qb5) [1, 1, 0, 1, 0, 0]) ++ []) [] (sub (B Qb5) [1, 1, 0, 1, 0, 0]) (Qaj 0 (seqK (E0 lb n 0 997) (sub (B Qb5) [1, 1, 0]) (sub (B Qb5) [1, 1, 1]) (retK Tryz.prog (R Qb5) 0 (outK (Qaf Tryz.prog Qb5))))) oS ⟨fr 26 [(0, .val (.agg [.int .i64 ju, .int .i64 jG, .int .i64 jv])), (1, .ptr 0 1 0), (2, .lst true true 3 []), (3, .lst true mu 3 l13), (4, vI vm), (5, .ptr 0 1 0), (6, vI ju)], [bx 26 [(1, some [vI ju, vI jG, vI jv])]], KK⟩)
noncomputable def Qkx (lb n : Nat) (ju jG jv : Int) (qa : Bool) (pP : LL) (gp : Int) : Option CV :=
 hold (E0 lb n 0 997 (sub (B Qb5) [1, 1, 1]) (retK Tryz.prog (R Qb5) 0 (outK (Qaf Tryz.prog Qb5))) ⟨fr 26 [(0, .val (.agg [.int .i64 ju, .int .i64 jG, .int .i64 jv])), (1, .ptr 0 1 0), (2, .lst true true 3 []), (3, .lst true qa 3 pP), (4, vI gp)], [bx 26 [(1, some [vI ju, vI jG, vI jv])]], KK⟩)
theorem Qlf (lb n : Nat) (ju jG jv : Int) (qa : Bool) (pP : LL) (gp : Int) :
 Qkx lb n ju jG jv qa pP gp =
 some (.list qa pP) := (Qac _).trans (by kernel_rfl)
theorem Qgs (lb n oS : Nat) (ju jG jv : Int) (mu : Bool) (l13 : LL) (vm : Int) :
 Qfh lb n (oS + 1) ju jG jv mu l13 vm =
 optO (C lb n Qdk [.agg [.int .i64 ju, .int .i64 jG, .int .i64 jv]]) fun yh =>
 optO (CV.asI .i64 yh) fun kN =>
 bif (kN == 0) then
 (bif (decide (vm ≤ jG)) then
 (optO (C lb n Qie [.agg [.int .i64 ju, .int .i64 jG, .int .i64 jv], .int .i64 vm]) fun yg =>
 optO (CV.asB yg) fun rm =>
 bif rm then
 (chkO (room (l13.length + 1) 8) (
 Qfh lb n oS ju jG jv (mu && false) (l13 ++ [[CV.int .i64 vm]]) (IntKind.wrap .i64 (vm + 1))))
 else
 (Qfh lb n oS ju jG jv mu l13 (IntKind.wrap .i64 (vm + 1))))
 else
 (Qkx lb n ju jG jv mu l13 vm))
 else
 (Qkx lb n ju jG jv mu l13 vm) := (Qac _).trans (by kernel_rfl)
theorem Qvy (lb n : Nat) (ju jG jv : Int) :
 top lb n Qb5 [.agg [.int .i64 ju, .int .i64 jG, .int .i64 jv]] =
 Qfh lb n n ju jG jv true [] ju := by kernel_rfl
noncomputable def QhY (lb n oc : Nat) (ja : Bool) (aair2 : LL) (jb : Bool) (adis4 : LL) (bcar5 : LB) (jg jd jf jc : Int) (je : Bool) (bleg12 : LL) (c13 : Int) (oj : Bool) (l24 : LL) (gq : Int) : Option CV :=
 hold (Qar (E0 lb n 0 994) 0 (Qad (sub (B Qcr) [1, 1, 0, 1, 0, 0]) ++ []) [9] (sub (B Qcr) [1, 1, 0, 1, 0, 0]) (Qaj 0 (seqK (E0 lb n 0 997) (sub (B Qcr) [1, 1, 0]) (sub (B Qcr) [1, 1, 1]) (retK Tryz.prog (R Qcr) 0 (outK (Qaf Tryz.prog Qcr))))) oc ⟨fr 52 [(0, .val (.agg [.list ja aair2, .list jb adis4])), (1, .val (.agg [.str bcar5, .int .i64 jg, .int .i64 jd, .int .i64 jf, .int .i64 jc, .list je bleg12])), (2, vI c13), (3, .ptr 0 3 0), (4, .ptr 0 4 0), (6, .lst true true 113 []), (7, .lst true oj 113 l24), (8, vI gq)], [bx 52 [(3, some [.val (.list ja aair2), .val (.list jb adis4)]), (4, some [vS bcar5, vI jg, vI jd, vI jf, vI jc, .val (.list je bleg12)])]], KK⟩)
noncomputable def Qo4 (lb n : Nat) (ja : Bool) (aair2 : LL) (jb : Bool) (adis4 : LL) (bcar5 : LB) (jg jd jf jc : Int) (je : Bool) (bleg12 : LL) (c13 : Int) (kK : Bool) (l45 : LL) (i46 : Int) : Option CV :=
 hold (E0 lb n 0 997 (sub (B Qcr) [1, 1, 1]) (retK Tryz.prog (R Qcr) 0 (outK (Qaf Tryz.prog Qcr))) ⟨fr 52 [(0, .val (.agg [.list ja aair2, .list jb adis4])), (1, .val (.agg [.str bcar5, .int .i64 jg, .int .i64 jd, .int .i64 jf, .int .i64 jc, .list je bleg12])), (2, vI c13), (3, .ptr 0 3 0), (4, .ptr 0 4 0), (6, .lst true true 113 []), (7, .lst true kK 113 l45), (8, vI i46)], [bx 52 [(3, some [.val (.list ja aair2), .val (.list jb adis4)]), (4, some [vS bcar5, vI jg, vI jd, vI jf, vI jc, .val (.list je bleg12)])]], KK⟩)
theorem Qrs (lb n : Nat) (ja : Bool) (aair2 : LL) (jb : Bool) (adis4 : LL) (bcar5 : LB) (jg jd jf jc : Int) (je : Bool) (bleg12 : LL) (c13 : Int) (kK : Bool) (l45 : LL) (i46 : Int) :
 Qo4 lb n ja aair2 jb adis4 bcar5 jg jd jf jc je bleg12 c13 kK l45 i46 =
 some (.list kK l45) := (Qac _).trans (by kernel_rfl)
theorem Qjt (lb n oc : Nat) (ja : Bool) (aair2 : LL) (jb : Bool) (adis4 : LL) (bcar5 : LB) (jg jd jf jc : Int) (je : Bool) (bleg12 : LL) (c13 : Int) (oj : Bool) (l24 : LL) (gq : Int) :
 QhY lb n (oc + 1) ja aair2 jb adis4 bcar5 jg jd jf jc je bleg12 c13 oj l24 gq =
 bif (decide (gq < (bleg12.length : Int))) then
 (optO (atL bleg12 gq) fun c36 =>
 chkO (c36.length == 5) (
 optO (c36[0]?) fun yE =>
 optO (c36[1]?) fun yU =>
 optO (c36[2]?) fun mE =>
 optO (c36[3]?) fun o5 =>
 optO (c36[4]?) fun qc =>
 optO (C lb n Qkc [.agg [.list ja aair2, .list jb adis4], yE, .int .i64 c13, mE]) fun p9 =>
 optO (C lb n Qkc [.agg [.list ja aair2, .list jb adis4], yU, .int .i64 c13, o5]) fun qY =>
 chkO (CV.isCell yE) (
 chkO (CV.isCell yU) (
 chkO (CV.isCell p9) (
 chkO (CV.isCell qY) (
 chkO (CV.isCell qc) (
 chkO (room (l24.length + 1) 96) (
 QhY lb n oc ja aair2 jb adis4 bcar5 jg jd jf jc je bleg12 c13 (oj && false) (l24 ++ [[CV.str bcar5, CV.int .i64 jg, CV.int .i64 c13, yE, yU, p9, qY, qc]]) (IntKind.wrap .i64 (gq + 1))))))))))
 else
 (Qo4 lb n ja aair2 jb adis4 bcar5 jg jd jf jc je bleg12 c13 oj l24 gq) := (Qac _).trans (by kernel_rfl)
theorem QvK (lb n : Nat) (ja : Bool) (aair2 : LL) (jb : Bool) (adis4 : LL) (bcar5 : LB) (jg jd jf jc : Int) (je : Bool) (bleg12 : LL) (c13 : Int) :
 top lb n Qcr [.agg [.list ja aair2, .list jb adis4], .agg [.str bcar5, .int .i64 jg, .int .i64 jd, .int .i64 jf, .int .i64 jc, .list je bleg12], .int .i64 c13] =
 QhY lb n n ja aair2 jb adis4 bcar5 jg jd jf jc je bleg12 c13 true [] 0 := by kernel_rfl
noncomputable def QdA (lb n o8 : Nat) (ja : Bool) (aair2 : LL) (jb : Bool) (adis4 : LL) (jy : Bool) (b6 : LL) (c7 : Int) (n6 : CV) (vh : Int) : Option CV :=
 hold (Qar (E0 lb n 0 994) 0 (Qad (sub (B Qbg) [1, 1, 0, 1, 0, 0]) ++ [8, 10, 11]) [9] (sub (B Qbg) [1, 1, 0, 1, 0, 0]) (Qaj 0 (seqK (E0 lb n 0 997) (sub (B Qbg) [1, 1, 0]) (sub (B Qbg) [1, 1, 1]) (retK Tryz.prog (R Qbg) 0 (outK (Qaf Tryz.prog Qbg))))) o8 ⟨fr 40 [(0, .val (.agg [.list ja aair2, .list jb adis4])), (1, .val (.list jy b6)), (2, vI c7), (3, .ptr 0 3 0), (6, vB false), (7, vV n6), (12, .val (.list jy b6)), (13, .val (.int .i64 (b6.length : Int))), (14, vI vh)], [bx 40 [(3, some [.val (.list ja aair2), .val (.list jb adis4)])]], KK⟩)
noncomputable def Qix (lb n : Nat) (ja : Bool) (aair2 : LL) (jb : Bool) (adis4 : LL) (jy : Bool) (b6 : LL) (c7 : Int) (qr : CV) : Option CV :=
 hold (E0 lb n 0 997 (sub (B Qbg) [1, 1, 1]) (retK Tryz.prog (R Qbg) 0 (outK (Qaf Tryz.prog Qbg))) ⟨fr 40 [(0, .val (.agg [.list ja aair2, .list jb adis4])), (1, .val (.list jy b6)), (2, vI c7), (3, .ptr 0 3 0), (6, vB false), (7, vV qr)], [bx 40 [(3, some [.val (.list ja aair2), .val (.list jb adis4)])]], KK⟩)
theorem Qlu (lb n : Nat) (ja : Bool) (aair2 : LL) (jb : Bool) (adis4 : LL) (jy : Bool) (b6 : LL) (c7 : Int) (qr : CV) :
 Qix lb n ja aair2 jb adis4 jy b6 c7 qr =
 some (.bool true) := (Qac _).trans (by kernel_rfl)
theorem Qf7 (lb n o8 : Nat) (ja : Bool) (aair2 : LL) (jb : Bool) (adis4 : LL) (jy : Bool) (b6 : LL) (c7 : Int) (n6 : CV) (vh : Int) :
 QdA lb n (o8 + 1) ja aair2 jb adis4 jy b6 c7 n6 vh =
 bif (decide (vh < (b6.length : Int))) then
 (optO (atL b6 vh) fun c42 =>
 chkO (c42.length == 5) (
 optO (c42[0]?) fun oW =>
 optO (c42[1]?) fun oN =>
 optO (c42[2]?) fun n7 =>
 optO (c42[3]?) fun nI =>
 optO (c42[4]?) fun pc =>
 optO (C lb n QhI [.agg [.list ja aair2, .list jb adis4], .agg [oW, oN, n7, nI, pc], .int .i64 c7]) fun gM =>
 optO (CV.asT gM) fun nR =>
 optO (nR[0]?) fun k5 =>
 optO (CV.asT gM) fun t51 =>
 optO (t51[1]?) fun kO =>
 optO (CV.asI .i64 k5) fun i53 =>
 optO (CV.asI .i64 kO) fun tc =>
 bif (decide (i53 ≥ tc)) then
 (some (.bool false))
 else
 (bif (decide (vh > 0)) then
 (optO (CV.asI .i64 k5) fun rd =>
 optO (CV.asI .i64 n6) fun rx =>
 bif (decide (rd < rx)) then
 (some (.bool false))
 else
 (QdA lb n o8 ja aair2 jb adis4 jy b6 c7 kO (IntKind.wrap .i64 (vh + 1))))
 else
 (QdA lb n o8 ja aair2 jb adis4 jy b6 c7 kO (IntKind.wrap .i64 (vh + 1))))))
 else
 (Qix lb n ja aair2 jb adis4 jy b6 c7 n6) := (Qac _).trans (by kernel_rfl)
theorem Qob (lb n : Nat) (ja : Bool) (aair2 : LL) (jb : Bool) (adis4 : LL) (jy : Bool) (b6 : LL) (c7 : Int) :
 top lb n Qbg [.agg [.list ja aair2, .list jb adis4], .list jy b6, .int .i64 c7] =
 QdA lb n n ja aair2 jb adis4 jy b6 c7 (.int .i64 0) 0 := by kernel_rfl
noncomputable def QeD (lb n o4 : Nat) (wb : Bool) (a2 : LL) (kp : Int) : Option CV :=
 hold (Qar (E0 lb n 0 995) 0 (Qad (sub (B Qby) [1, 0, 1, 0, 0]) ++ []) [] (sub (B Qby) [1, 0, 1, 0, 0]) (Qaj 0 (seqK (E0 lb n 0 998) (sub (B Qby) [1, 0]) (sub (B Qby) [1, 1]) (retK Tryz.prog (R Qby) 0 (outK (Qaf Tryz.prog Qby))))) o4 ⟨fr 39 [(0, .val (.list wb a2)), (2, vB false), (3, vI kp)], [bx 39 []], KK⟩)
noncomputable def QkY (lb n : Nat) (wb : Bool) (a2 : LL) (kv : Int) : Option CV :=
 hold (E0 lb n 0 998 (sub (B Qby) [1, 1]) (retK Tryz.prog (R Qby) 0 (outK (Qaf Tryz.prog Qby))) ⟨fr 39 [(0, .val (.list wb a2)), (2, vB false), (3, vI kv)], [bx 39 []], KK⟩)
theorem Qom (lb n : Nat) (wb : Bool) (a2 : LL) (kv : Int) :
 QkY lb n wb a2 kv =
 some (.bool true) := (Qac _).trans (by kernel_rfl)
theorem Qhp (lb n o4 : Nat) (wb : Bool) (a2 : LL) (kp : Int) :
 QeD lb n (o4 + 1) wb a2 kp =
 bif (decide (kp < (a2.length : Int))) then
 (optO (atL a2 kp) fun c25 =>
 chkO (c25.length == 8) (
 optO (c25[5]?) fun w8 =>
 optO (atL a2 kp) fun c27 =>
 chkO (c27.length == 8) (
 optO (c27[6]?) fun yc =>
 optO (CV.asI .i64 w8) fun oi =>
 optO (CV.asI .i64 yc) fun gO =>
 bif (decide (oi ≥ gO)) then
 (some (.bool false))
 else
 (bif (decide (kp > 0)) then
 (optO (atL a2 kp) fun c31 =>
 chkO (c31.length == 8) (
 optO (c31[5]?) fun ya =>
 optO (atL a2 (IntKind.wrap .i64 (kp - 1))) fun c34 =>
 chkO (c34.length == 8) (
 optO (c34[6]?) fun yF =>
 optO (CV.asI .i64 ya) fun vK =>
 optO (CV.asI .i64 yF) fun i37 =>
 bif (decide (vK < i37)) then
 (some (.bool false))
 else
 (QeD lb n o4 wb a2 (IntKind.wrap .i64 (kp + 1))))))
 else
 (QeD lb n o4 wb a2 (IntKind.wrap .i64 (kp + 1)))))))
 else
 (QkY lb n wb a2 kp) := (Qac _).trans (by kernel_rfl)
theorem QrZ (lb n : Nat) (wb : Bool) (a2 : LL) :
 top lb n Qby [.list wb a2] =
 QeD lb n n wb a2 0 := by kernel_rfl
theorem Qop (lb n : Nat) (a1 : Int) :
 top lb n QbJ [.int .i64 a1] =
 bif (decide (a1 ≥ (-1440))) then
 (some (.bool (decide (a1 < 5760))))
 else
 (some (.bool false)) := by kernel_rfl
theorem Qwe (lb n : Nat) (a1 : Int) :
 top lb n QdM [.int .i64 a1] =
 bif (decide (a1 < (-1440))) then
 (some (.bool true))
 else
 (some (.bool (decide (a1 > 5759)))) := by kernel_rfl
end Go.Proofs
