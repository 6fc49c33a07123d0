/- Equations of functions, printed by program. Conditions: none. -/
import Derived.Test.YtdcpdknginpohaaGreatDoorEv
namespace Go.Proofs
open Go.Am
set_option maxRecDepth 100000
set_option linter.unusedVariables false
noncomputable def r06_Find_L1 :=
 fun lb n (v7 : Nat) (ja : Bool) (aair2 : LL) (jb : Bool) (adis4 : LL) b5 yx =>
 hold (Qas (E0 lb n 0 995) 0 (Qad (sub (B QbJ) [1, 0, 1, 0, 0]) ++ []) [] (sub (B QbJ) [1, 0, 1, 0, 0]) (Qaj 0 (seqK (E0 lb n 0 998) (sub (B QbJ) [1, 0]) (sub (B QbJ) [1, 1]) (retK Tryz.prog (R QbJ) 0 (outK (Qag Tryz.prog QbJ))))) v7 ⟨fr 28 [(0, .val (.agg [.list ja aair2, .list jb adis4])), (1, vS b5), (2, .ptr 0 2 0), (4, .ptr 0 4 0), (5, vB false), (6, vI yx)], [bx 28 [(2, some [.val (.list ja aair2), .val (.list jb adis4)]), (4, some [.val (.str []), .val (.str []), .val (.str []), vI 0, .lst true true 195 []])]], KK⟩)
noncomputable def Qot (lb n : Nat) (ja : Bool) (aair2 : LL) (jb : Bool) (adis4 : LL) (b5 : LB) (vW : Int) : Option CV :=
 hold (E0 lb n 0 998 (sub (B QbJ) [1, 1]) (retK Tryz.prog (R QbJ) 0 (outK (Qag Tryz.prog QbJ))) ⟨fr 28 [(0, .val (.agg [.list ja aair2, .list jb adis4])), (1, vS b5), (2, .ptr 0 2 0), (4, .ptr 0 4 0), (5, vB false), (6, vI vW)], [bx 28 [(2, some [.val (.list ja aair2), .val (.list jb adis4)]), (4, some [.val (.str []), .val (.str []), .val (.str []), vI 0, .lst true true 195 []])]], KK⟩)
theorem Qrf (lb n : Nat) (ja : Bool) (aair2 : LL) (jb : Bool) (adis4 : LL) (b5 : LB) (vW : Int) :
 Qot lb n ja aair2 jb adis4 b5 vW =
 some (.tup [.agg [.str [], .str [], .str [], .int .i64 0, .list true []], .bool false]) := (Qaf _).trans (by kernel_rfl)
theorem Qjp (lb n v7 : Nat) (ja : Bool) (aair2 : LL) (jb : Bool) (adis4 : LL) (b5 : LB) (yx : Int) :
 r06_Find_L1 lb n (v7 + 1) ja aair2 jb adis4 b5 yx =
 bif (decide (yx < (aair2.length : Int))) then
 (optO (atL aair2 yx) fun c28 =>
 chkO (c28.length == 5) (
 optO (c28[0]?) fun j1 =>
 optO (CV.asS j1) fun gA =>
 bif (gA == b5) then
 (optO (atL aair2 yx) fun c31 =>
 chkO (c31.length == 5) (
 optO (c31[0]?) fun wW =>
 optO (c31[1]?) fun wH =>
 optO (c31[2]?) fun yH =>
 optO (c31[3]?) fun yG =>
 optO (c31[4]?) fun yy =>
 some (.tup [.agg [wW, wH, yH, yG, yy], .bool true])))
 else
 (r06_Find_L1 lb n v7 ja aair2 jb adis4 b5 (IntKind.wrap .i64 (yx + 1)))))
 else
 (Qot lb n ja aair2 jb adis4 b5 yx) := (Qaf _).trans (by kernel_rfl)
theorem Qu6 (lb n : Nat) (ja : Bool) (aair2 : LL) (jb : Bool) (adis4 : LL) (b5 : LB) :
 top lb n QbJ [.agg [.list ja aair2, .list jb adis4], .str b5] =
 r06_Find_L1 lb n n ja aair2 jb adis4 b5 0 := by kernel_rfl
noncomputable def QfN (lb n oG : Nat) (ja : Bool) (aair2 : LL) (jb : Bool) (adis4 : LL) (b5 : LB) (ve : Int) : Option CV :=
 hold (Qas (E0 lb n 0 995) 0 (Qad (sub (B Qbk) [1, 0, 1, 0, 0]) ++ []) [7] (sub (B Qbk) [1, 0, 1, 0, 0]) (Qaj 0 (seqK (E0 lb n 0 998) (sub (B Qbk) [1, 0]) (sub (B Qbk) [1, 1]) (retK Tryz.prog (R Qbk) 0 (outK (Qag Tryz.prog Qbk))))) oG ⟨fr 22 [(0, .val (.agg [.list ja aair2, .list jb adis4])), (1, vS b5), (2, .ptr 0 2 0), (4, .ptr 0 4 0), (5, vB false), (8, .ptr 0 2 0), (9, .val (.list ja aair2)), (10, .val (.int .i64 (aair2.length : Int))), (11, vI ve)], [bx 22 [(2, some [.val (.list ja aair2), .val (.list jb adis4)]), (4, some [.val (.str []), .val (.str []), .val (.str []), vI 0, .lst true true 195 []])]], KK⟩)
noncomputable def QkS (lb n : Nat) (ja : Bool) (aair2 : LL) (jb : Bool) (adis4 : LL) (b5 : LB) : Option CV :=
 hold (E0 lb n 0 998 (sub (B Qbk) [1, 1]) (retK Tryz.prog (R Qbk) 0 (outK (Qag Tryz.prog Qbk))) ⟨fr 22 [(0, .val (.agg [.list ja aair2, .list jb adis4])), (1, vS b5), (2, .ptr 0 2 0), (4, .ptr 0 4 0), (5, vB false)], [bx 22 [(2, some [.val (.list ja aair2), .val (.list jb adis4)]), (4, some [.val (.str []), .val (.str []), .val (.str []), vI 0, .lst true true 195 []])]], KK⟩)
theorem Qn1 (lb n : Nat) (ja : Bool) (aair2 : LL) (jb : Bool) (adis4 : LL) (b5 : LB) :
 QkS lb n ja aair2 jb adis4 b5 =
 some (.tup [.agg [.str [], .str [], .str [], .int .i64 0, .list true []], .bool false]) := (Qaf _).trans (by kernel_rfl)
theorem Qho (lb n oG : Nat) (ja : Bool) (aair2 : LL) (jb : Bool) (adis4 : LL) (b5 : LB) (ve : Int) :
 QfN lb n (oG + 1) ja aair2 jb adis4 b5 ve =
 bif (decide (ve < (aair2.length : Int))) then
 (optO (atL aair2 ve) fun c24 =>
 chkO (c24.length == 5) (
 optO (c24[0]?) fun wG =>
 optO (c24[1]?) fun wR =>
 optO (c24[2]?) fun wC =>
 optO (c24[3]?) fun y8 =>
 optO (c24[4]?) fun j1 =>
 optO (CV.asS wG) fun gA =>
 bif (gA == b5) then
 (some (.tup [.agg [wG, wR, wC, y8, j1], .bool true]))
 else
 (QfN lb n oG ja aair2 jb adis4 b5 (IntKind.wrap .i64 (ve + 1)))))
 else
 (QkS lb n ja aair2 jb adis4 b5 ) := (Qaf _).trans (by kernel_rfl)
theorem Qq5 (lb n : Nat) (ja : Bool) (aair2 : LL) (jb : Bool) (adis4 : LL) (b5 : LB) :
 top lb n Qbk [.agg [.list ja aair2, .list jb adis4], .str b5] =
 QfN lb n n ja aair2 jb adis4 b5 0 := by kernel_rfl
noncomputable def QhT (lb n v7 : Nat) (wc : Int) (j9 : Bool) (ashi3 : LL) (b4 : Int) (r5 : CV) (p6 : Bool × LL) (yx y4 : Int) : Option CV :=
 hold (Qas (E0 lb n 0 994) 0 (Qad (sub (B QbK) [1, 1, 0, 1, 0, 0]) ++ []) [7] (sub (B QbK) [1, 1, 0, 1, 0, 0]) (Qaj 0 (seqK (E0 lb n 0 997) (sub (B QbK) [1, 1, 0]) (sub (B QbK) [1, 1, 1]) (retK Tryz.prog (R QbK) 0 (outK (Qag Tryz.prog QbK))))) v7 ⟨fr 28 [(0, .val (.agg [.int .i64 wc, .list j9 ashi3])), (1, vI b4), (2, .ptr 0 2 0), (4, vI 0), (5, vI yx), (8, .val (.agg [.int .i64 wc, .list j9 ashi3])), (9, vV r5), (10, .val (.int .i64 (p6.2.length : Int))), (11, vI y4)], [bx 28 [(2, some [vI wc, .val (.list j9 ashi3)])]], KK⟩)
noncomputable def Qoc (lb n : Nat) (wc : Int) (j9 : Bool) (ashi3 : LL) (b4 i37 : Int) (qv pU pY : CV) : Option CV :=
 hold (E0 lb n 0 997 (sub (B QbK) [1, 1, 1]) (retK Tryz.prog (R QbK) 0 (outK (Qag Tryz.prog QbK))) ⟨fr 28 [(0, .val (.agg [.int .i64 wc, .list j9 ashi3])), (1, vI b4), (2, .ptr 0 2 0), (4, vI 0), (5, vI i37)], [bx 28 [(2, some [vI wc, .val (.list j9 ashi3)]), (7, some [.val qv, .val pU, .val pY])]], KK⟩)
theorem QqO (lb n : Nat) (wc : Int) (j9 : Bool) (ashi3 : LL) (b4 i37 : Int) (qv pU pY : CV) :
 Qoc lb n wc j9 ashi3 b4 i37 qv pU pY =
 some (.int .i64 i37) := (Qaf _).trans (by kernel_rfl)
noncomputable def Qow (lb n : Nat) (wc : Int) (j9 : Bool) (ashi3 : LL) (b4 pr : Int) : Option CV :=
 hold (E0 lb n 0 997 (sub (B QbK) [1, 1, 1]) (retK Tryz.prog (R QbK) 0 (outK (Qag Tryz.prog QbK))) ⟨fr 28 [(0, .val (.agg [.int .i64 wc, .list j9 ashi3])), (1, vI b4), (2, .ptr 0 2 0), (4, vI 0), (5, vI pr)], [bx 28 [(2, some [vI wc, .val (.list j9 ashi3)])]], KK⟩)
theorem QqI (lb n : Nat) (wc : Int) (j9 : Bool) (ashi3 : LL) (b4 pr : Int) :
 Qow lb n wc j9 ashi3 b4 pr =
 some (.int .i64 pr) := (Qaf _).trans (by kernel_rfl)
theorem Qji (lb n v7 : Nat) (wc : Int) (j9 : Bool) (ashi3 : LL) (b4 : Int) (r5 : CV) (p6 : Bool × LL) (yx y4 : Int) :
 QhT lb n (v7 + 1) wc j9 ashi3 b4 r5 p6 yx y4 =
 bif (decide (y4 < (p6.2.length : Int))) then
 (optO (CV.asL r5) fun l8 =>
 optO (atL l8.2 y4) fun c29 =>
 chkO (c29.length == 3) (
 optO (c29[0]?) fun yo =>
 optO (c29[1]?) fun jZ =>
 optO (c29[2]?) fun wW =>
 optO (CV.asI .i64 wW) fun k8 =>
 optO (CV.asI .i64 yo) fun gj =>
 optO (CV.asI .i64 jZ) fun vz =>
 bif (decide ((if (IntKind.wrap .i64 (b4 - k8)) > gj then (IntKind.wrap .i64 (b4 - k8)) else gj) < vz)) then
 (Qoc lb n wc j9 ashi3 b4 (if (IntKind.wrap .i64 (b4 - k8)) > gj then (IntKind.wrap .i64 (b4 - k8)) else gj) yo jZ wW)
 else
 (QhT lb n v7 wc j9 ashi3 b4 r5 p6 (if (IntKind.wrap .i64 (b4 - k8)) > gj then (IntKind.wrap .i64 (b4 - k8)) else gj) (IntKind.wrap .i64 (y4 + 1)))))
 else
 (Qow lb n wc j9 ashi3 b4 yx) := (Qaf _).trans (by kernel_rfl)
theorem QuN (lb n : Nat) (wc : Int) (j9 : Bool) (ashi3 : LL) (b4 : Int) :
 top lb n QbK [.agg [.int .i64 wc, .list j9 ashi3], .int .i64 b4] =
 optO (C lb n Qhh [.agg [.int .i64 wc, .list j9 ashi3]]) fun r5 =>
 optO (CV.asL r5) fun p6 =>
 QhT lb n n wc j9 ashi3 b4 r5 p6 0 0 := by kernel_rfl
noncomputable def QiP (lb n v7 : Nat) (wc : Int) (j9 : Bool) (ashi3 : LL) (b4 kT yx : Int) : Option CV :=
 hold (Qas (E0 lb n 0 994) 0 (Qad (sub (B Qc6) [1, 1, 0, 1, 0, 0]) ++ []) [] (sub (B Qc6) [1, 1, 0, 1, 0, 0]) (Qaj 0 (seqK (E0 lb n 0 997) (sub (B Qc6) [1, 1, 0]) (sub (B Qc6) [1, 1, 1]) (retK Tryz.prog (R Qc6) 0 (outK (Qag Tryz.prog Qc6))))) v7 ⟨fr 43 [(0, .val (.agg [.int .i64 wc, .list j9 ashi3])), (1, vI b4), (2, .ptr 0 2 0), (4, vI 0), (5, vI kT), (6, vI yx), (7, vI b4), (8, .ptr 0 2 0), (9, vI wc), (10, .val (.int .i64 (IntKind.wrap .i64 (b4 - wc))))], [bx 43 [(2, some [vI wc, .val (.list j9 ashi3)])]], KK⟩)
noncomputable def Qqw (lb n : Nat) (wc : Int) (j9 : Bool) (ashi3 : LL) (b4 vW oM : Int) : Option CV :=
 hold (E0 lb n 0 997 (sub (B Qc6) [1, 1, 1]) (retK Tryz.prog (R Qc6) 0 (outK (Qag Tryz.prog Qc6))) ⟨fr 43 [(0, .val (.agg [.int .i64 wc, .list j9 ashi3])), (1, vI b4), (2, .ptr 0 2 0), (4, vI 0), (5, vI vW), (6, vI oM), (7, vI b4), (8, .ptr 0 2 0), (9, vI wc), (10, .val (.int .i64 (IntKind.wrap .i64 (b4 - wc))))], [bx 43 [(2, some [vI wc, .val (.list j9 ashi3)])]], KK⟩)
theorem Qst (lb n : Nat) (wc : Int) (j9 : Bool) (ashi3 : LL) (b4 vW oM : Int) :
 Qqw lb n wc j9 ashi3 b4 vW oM =
 some (.int .i64 vW) := (Qaf _).trans (by kernel_rfl)
theorem Qj8 (lb n v7 : Nat) (wc : Int) (j9 : Bool) (ashi3 : LL) (b4 kT yx : Int) :
 QiP lb n (v7 + 1) wc j9 ashi3 b4 kT yx =
 bif (decide (yx < (ashi3.length : Int))) then
 (optO (atL ashi3 yx) fun c28 =>
 chkO (c28.length == 2) (
 optO (c28[0]?) fun j1 =>
 optO (CV.asI .i64 j1) fun gi =>
 bif (decide (kT < gi)) then
 (some (.int .i64 kT))
 else
 (optO (atL ashi3 yx) fun c31 =>
 chkO (c31.length == 2) (
 optO (c31[0]?) fun wW =>
 optO (atL ashi3 yx) fun c34 =>
 chkO (c34.length == 2) (
 optO (c34[1]?) fun yH =>
 optO (CV.asI .i64 yH) fun vz =>
 optO (CV.asI .i64 wW) fun i37 =>
 QiP lb n v7 wc j9 ashi3 b4 (if (IntKind.wrap .i64 (b4 - vz)) > i37 then (IntKind.wrap .i64 (b4 - vz)) else i37) (IntKind.wrap .i64 (yx + 1)))))))
 else
 (Qqw lb n wc j9 ashi3 b4 kT yx) := (Qaf _).trans (by kernel_rfl)
theorem Qwc (lb n : Nat) (wc : Int) (j9 : Bool) (ashi3 : LL) (b4 : Int) :
 top lb n Qc6 [.agg [.int .i64 wc, .list j9 ashi3], .int .i64 b4] =
 QiP lb n n wc j9 ashi3 b4 (IntKind.wrap .i64 (b4 - wc)) 0 := by kernel_rfl
theorem QpG (lb n : Nat) (ja : Bool) (aair2 : LL) (jb : Bool) (adis4 : LL) (pE pZ : LB) (pp n9 : Int) (pK : LB) (c11 : Int) :
 top lb n QhD [.agg [.list ja aair2, .list jb adis4], .agg [.str pE, .str pZ, .int .i64 pp, .int .i64 n9, .str pK], .int .i64 c11] =
 optO (C lb n Qbk [.agg [.list ja aair2, .list jb adis4], .str pE]) fun y6 =>
 optO (CV.asT y6) fun mZ =>
 optO (mZ[0]?) fun yI =>
 optO (CV.asT y6) fun m9 =>
 optO (m9[1]?) fun gt =>
 optO (CV.asA yI) fun c18 =>
 chkO (c18.length == 5) (
 optO (c18[0]?) fun w8 =>
 optO (c18[1]?) fun wA =>
 optO (c18[2]?) fun yi =>
 optO (c18[3]?) fun wi =>
 optO (c18[4]?) fun x23 =>
 optO (C lb n Qbk [.agg [.list ja aair2, .list jb adis4], .str pZ]) fun vO =>
 optO (CV.asT vO) fun lF =>
 optO (lF[0]?) fun wR =>
 optO (CV.asT vO) fun zq =>
 optO (zq[1]?) fun y8 =>
 optO (CV.asA wR) fun c29 =>
 chkO (c29.length == 5) (
 optO (c29[0]?) fun yo =>
 optO (c29[1]?) fun jZ =>
 optO (c29[2]?) fun wW =>
 optO (c29[3]?) fun wH =>
 optO (c29[4]?) fun yH =>
 optO (C lb n QbK [.agg [wi, x23], .int .i64 (IntKind.wrap .i64 ((IntKind.wrap .i64 (c11 * 1440)) + pp))]) fun gP =>
 optO (C lb n QbK [.agg [wH, yH], .int .i64 (IntKind.wrap .i64 ((IntKind.wrap .i64 (c11 * 1440)) + n9))]) fun pO =>
 some (.tup [gP, pO]))) := by kernel_rfl
theorem QvD (lb n : Nat) (ja : Bool) (aair2 : LL) (jb : Bool) (adis4 : LL) (b5 : LB) (c6 d7 : Int) :
 top lb n QjF [.agg [.list ja aair2, .list jb adis4], .str b5, .int .i64 c6, .int .i64 d7] =
 optO (C lb n QbJ [.agg [.list ja aair2, .list jb adis4], .str b5]) fun r9 =>
 optO (CV.asT r9) fun zL =>
 optO (zL[0]?) fun wn =>
 optO (CV.asT r9) fun qk =>
 optO (qk[1]?) fun wD =>
 optO (CV.asA wn) fun c14 =>
 chkO (c14.length == 5) (
 optO (c14[0]?) fun yc =>
 optO (c14[1]?) fun gt =>
 optO (c14[2]?) fun wK =>
 optO (c14[3]?) fun w8 =>
 optO (c14[4]?) fun wA =>
 optO (C lb n Qc6 [.agg [w8, wA], .int .i64 (IntKind.wrap .i64 ((IntKind.wrap .i64 (c6 * 1440)) + d7))]) fun m5 =>
 some (m5)) := by kernel_rfl
theorem QpB (lb n : Nat) (jj jM jo : Int) :
 top lb n Qbq [.agg [.int .i64 jj, .int .i64 jM, .int .i64 jo]] =
 bif (decide (jj < 0)) then
 (some (.int .i64 12))
 else
 (bif (decide (jM < jj)) then
 (some (.int .i64 12))
 else
 (bif (decide (jM ≥ 36525)) then
 (some (.int .i64 12))
 else
 (bif (decide ((IntKind.wrap .i64 (jM - jj)) ≥ 800)) then
 (some (.int .i64 4))
 else
 (bif (decide (jo < 1)) then
 (some (.int .i64 2))
 else
 (bif (decide (jo > 127)) then
 (some (.int .i64 2))
 else
 (some (.int .i64 0))))))) := by kernel_rfl
theorem QtB (lb n : Nat) (jj jM jo : Int) :
 top lb n Qe7 [.agg [.int .i64 jj, .int .i64 jM, .int .i64 jo]] =
 bif (decide (jj < 0)) then
 (some (.int .i64 12))
 else
 (bif (decide (jj > jM)) then
 (some (.int .i64 12))
 else
 (bif (decide (jM ≥ 36525)) then
 (some (.int .i64 12))
 else
 (bif (decide ((IntKind.wrap .i64 (jM - jj)) ≥ 800)) then
 (some (.int .i64 4))
 else
 (bif (decide (jo < 1)) then
 (some (.int .i64 2))
 else
 (bif (decide (jo > 127)) then
 (some (.int .i64 2))
 else
 (some (.int .i64 0))))))) := by kernel_rfl
theorem Qmg (lb n : Nat) (a1 : Int) :
 top lb n Qdk [.int .i64 a1] =
 some (.int .i64 (Int.tmod (IntKind.wrap .i64 ((Int.tmod a1 7) + 12)) 7)) := by kernel_rfl
theorem QqY (lb n : Nat) (a1 : Int) :
 top lb n Qit [.int .i64 a1] =
 some (.int .i64 (Int.tmod (IntKind.wrap .i64 ((Int.tmod a1 7) + 12)) 7)) := by kernel_rfl
theorem Quo (lb n : Nat) (a1 b2 : Int) :
 top lb n Qks [.int .i64 a1, .int .i64 b2] =
 optO (C lb n Qdk [.int .i64 b2]) fun r3 =>
 optO (CV.asI .i64 r3) fun i4 =>
 chkO (decide (0 ≤ i4)) (
 some (.bool ((IntKind.wrap .i64 ((BitVec.ofInt 64 (Int.fdiv a1 (2 ^ (min (i4).toNat 64))) &&& BitVec.ofInt 64 1).toNat)) == 1))) := by kernel_rfl
noncomputable def QiU (lb n k9 : Nat) (a1 i4 i5 : Int) : Option CV :=
 hold (Qas (E0 lb n 0 994) 0 (Qad (sub (B Qco) [1, 1, 0, 1, 0, 0]) ++ []) [] (sub (B Qco) [1, 1, 0, 1, 0, 0]) (Qaj 0 (seqK (E0 lb n 0 997) (sub (B Qco) [1, 1, 0]) (sub (B Qco) [1, 1, 1]) (retK Tryz.prog (R Qco) 0 (outK (Qag Tryz.prog Qco))))) k9 ⟨fr 14 [(0, vI a1), (2, vI 0), (3, vI i4), (4, vI i5)], [bx 14 []], KK⟩)
noncomputable def Qqm (lb n : Nat) (a1 vR vQ : Int) : Option CV :=
 hold (E0 lb n 0 997 (sub (B Qco) [1, 1, 1]) (retK Tryz.prog (R Qco) 0 (outK (Qag Tryz.prog Qco))) ⟨fr 14 [(0, vI a1), (2, vI 0), (3, vI vR), (4, vI vQ)], [bx 14 []], KK⟩)
theorem QsB (lb n : Nat) (a1 vR vQ : Int) :
 Qqm lb n a1 vR vQ =
 some (.int .i64 vR) := (Qaf _).trans (by kernel_rfl)
theorem QjQ (lb n k9 : Nat) (a1 i4 i5 : Int) :
 QiU lb n (k9 + 1) a1 i4 i5 =
 optO (C lb n Qit [.int .i64 a1]) fun na =>
 optO (CV.asI .i64 na) fun vf =>
 bif (decide (i5 < vf)) then
 (QiU lb n k9 a1 (IntKind.wrap .i64 (2 * i4)) (IntKind.wrap .i64 (i5 + 1)))
 else
 (Qqm lb n a1 i4 i5) := (Qaf _).trans (by kernel_rfl)
theorem Qwd (lb n : Nat) (a1 : Int) :
 top lb n Qco [.int .i64 a1] =
 QiU lb n n a1 1 0 := by kernel_rfl
theorem Qsp (lb n : Nat) (jj jM jo b4 : Int) :
 top lb n QfA [.agg [.int .i64 jj, .int .i64 jM, .int .i64 jo], .int .i64 b4] =
 optO (C lb n Qbq [.agg [.int .i64 jj, .int .i64 jM, .int .i64 jo]]) fun r5 =>
 optO (CV.asI .i64 r5) fun i6 =>
 bif (i6 == 0) then
 (bif (decide (b4 ≥ jj)) then
 (bif (decide (b4 ≤ jM)) then
 (optO (C lb n Qks [.int .i64 jo, .int .i64 b4]) fun r7 =>
 some (r7))
 else
 (some (.bool false)))
 else
 (some (.bool false)))
 else
 (some (.bool false)) := by kernel_rfl
theorem Qwi (lb n : Nat) (jj jM jo b4 : Int) :
 top lb n Qj0 [.agg [.int .i64 jj, .int .i64 jM, .int .i64 jo], .int .i64 b4] =
 optO (C lb n Qe7 [.agg [.int .i64 jj, .int .i64 jM, .int .i64 jo]]) fun r5 =>
 optO (CV.asI .i64 r5) fun i6 =>
 bif (i6 == 0) then
 (bif (decide (b4 ≥ jj)) then
 (bif (decide (b4 ≤ jM)) then
 (optO (C lb n Qco [.int .i64 b4]) fun r7 =>
 optO (CV.asI .i64 r7) fun i9 =>
 chkO (i9 != 0) (
 some (.bool ((Int.tmod (IntKind.wrap .i64 (Int.tdiv jo i9)) 2) == 1))))
 else
 (some (.bool false)))
 else
 (some (.bool false)))
 else
 (some (.bool false)) := by kernel_rfl
noncomputable def Qe8 (lb n k5 : Nat) (jj jM jo : Int) (gp : Bool) (l13 : LL) (ve : Int) : Option CV :=
 hold (Qas (E0 lb n 0 994) 0 (Qad (sub (B Qck) [1, 1, 0, 1, 0, 0]) ++ []) [] (sub (B Qck) [1, 1, 0, 1, 0, 0]) (Qaj 0 (seqK (E0 lb n 0 997) (sub (B Qck) [1, 1, 0]) (sub (B Qck) [1, 1, 1]) (retK Tryz.prog (R Qck) 0 (outK (Qag Tryz.prog Qck))))) k5 ⟨fr 26 [(0, .val (.agg [.int .i64 jj, .int .i64 jM, .int .i64 jo])), (1, .ptr 0 1 0), (2, .lst true true 3 []), (3, .lst true gp 3 l13), (4, vI ve), (5, .ptr 0 1 0), (6, vI jj)], [bx 26 [(1, some [vI jj, vI jM, vI jo])]], KK⟩)
noncomputable def Qkm (lb n : Nat) (jj jM jo : Int) (pc : Bool) (pF : LL) (oI : Int) : Option CV :=
 hold (E0 lb n 0 997 (sub (B Qck) [1, 1, 1]) (retK Tryz.prog (R Qck) 0 (outK (Qag Tryz.prog Qck))) ⟨fr 26 [(0, .val (.agg [.int .i64 jj, .int .i64 jM, .int .i64 jo])), (1, .ptr 0 1 0), (2, .lst true true 3 []), (3, .lst true pc 3 pF), (4, vI oI)], [bx 26 [(1, some [vI jj, vI jM, vI jo])]], KK⟩)
theorem QkP (lb n : Nat) (jj jM jo : Int) (pc : Bool) (pF : LL) (oI : Int) :
 Qkm lb n jj jM jo pc pF oI =
 some (.list pc pF) := (Qaf _).trans (by kernel_rfl)
theorem QgH (lb n k5 : Nat) (jj jM jo : Int) (gp : Bool) (l13 : LL) (ve : Int) :
 Qe8 lb n (k5 + 1) jj jM jo gp l13 ve =
 optO (C lb n Qe7 [.agg [.int .i64 jj, .int .i64 jM, .int .i64 jo]]) fun m5 =>
 optO (CV.asI .i64 m5) fun kh =>
 bif (kh == 0) then
 (bif (decide (ve ≤ jM)) then
 (optO (C lb n Qj0 [.agg [.int .i64 jj, .int .i64 jM, .int .i64 jo], .int .i64 ve]) fun w5 =>
 optO (CV.asB w5) fun l6 =>
 bif l6 then
 (chkO (room (l13.length + 1) 8) (
 Qe8 lb n k5 jj jM jo (gp && false) (l13 ++ [[CV.int .i64 ve]]) (IntKind.wrap .i64 (ve + 1))))
 else
 (Qe8 lb n k5 jj jM jo gp l13 (IntKind.wrap .i64 (ve + 1))))
 else
 (Qkm lb n jj jM jo gp l13 ve))
 else
 (Qkm lb n jj jM jo gp l13 ve) := (Qaf _).trans (by kernel_rfl)
theorem QuE (lb n : Nat) (jj jM jo : Int) :
 top lb n Qck [.agg [.int .i64 jj, .int .i64 jM, .int .i64 jo]] =
 Qe8 lb n n jj jM jo true [] jj := by kernel_rfl
noncomputable def QhX (lb n oi : Nat) (ja : Bool) (aair2 : LL) (jb : Bool) (adis4 : LL) (jh : LB) (jg jd jf jc : Int) (je : Bool) (bleg12 : LL) (c13 : Int) (kE : Bool) (l24 : LL) (oX : Int) : Option CV :=
 hold (Qas (E0 lb n 0 994) 0 (Qad (sub (B Qch) [1, 1, 0, 1, 0, 0]) ++ []) [9] (sub (B Qch) [1, 1, 0, 1, 0, 0]) (Qaj 0 (seqK (E0 lb n 0 997) (sub (B Qch) [1, 1, 0]) (sub (B Qch) [1, 1, 1]) (retK Tryz.prog (R Qch) 0 (outK (Qag Tryz.prog Qch))))) oi ⟨fr 52 [(0, .val (.agg [.list ja aair2, .list jb adis4])), (1, .val (.agg [.str jh, .int .i64 jg, .int .i64 jd, .int .i64 jf, .int .i64 jc, .list je bleg12])), (2, vI c13), (3, .ptr 0 3 0), (4, .ptr 0 4 0), (6, .lst true true 113 []), (7, .lst true kE 113 l24), (8, vI oX)], [bx 52 [(3, some [.val (.list ja aair2), .val (.list jb adis4)]), (4, some [vS jh, vI jg, vI jd, vI jf, vI jc, .val (.list je bleg12)])]], KK⟩)
noncomputable def Qoj (lb n : Nat) (ja : Bool) (aair2 : LL) (jb : Bool) (adis4 : LL) (jh : LB) (jg jd jf jc : Int) (je : Bool) (bleg12 : LL) (c13 : Int) (kd : Bool) (l45 : LL) (i46 : Int) : Option CV :=
 hold (E0 lb n 0 997 (sub (B Qch) [1, 1, 1]) (retK Tryz.prog (R Qch) 0 (outK (Qag Tryz.prog Qch))) ⟨fr 52 [(0, .val (.agg [.list ja aair2, .list jb adis4])), (1, .val (.agg [.str jh, .int .i64 jg, .int .i64 jd, .int .i64 jf, .int .i64 jc, .list je bleg12])), (2, vI c13), (3, .ptr 0 3 0), (4, .ptr 0 4 0), (6, .lst true true 113 []), (7, .lst true kd 113 l45), (8, vI i46)], [bx 52 [(3, some [.val (.list ja aair2), .val (.list jb adis4)]), (4, some [vS jh, vI jg, vI jd, vI jf, vI jc, .val (.list je bleg12)])]], KK⟩)
theorem QqX (lb n : Nat) (ja : Bool) (aair2 : LL) (jb : Bool) (adis4 : LL) (jh : LB) (jg jd jf jc : Int) (je : Bool) (bleg12 : LL) (c13 : Int) (kd : Bool) (l45 : LL) (i46 : Int) :
 Qoj lb n ja aair2 jb adis4 jh jg jd jf jc je bleg12 c13 kd l45 i46 =
 some (.list kd l45) := (Qaf _).trans (by kernel_rfl)
theorem Qjw (lb n oi : Nat) (ja : Bool) (aair2 : LL) (jb : Bool) (adis4 : LL) (jh : LB) (jg jd jf jc : Int) (je : Bool) (bleg12 : LL) (c13 : Int) (kE : Bool) (l24 : LL) (oX : Int) :
 QhX lb n (oi + 1) ja aair2 jb adis4 jh jg jd jf jc je bleg12 c13 kE l24 oX =
 bif (decide (oX < (bleg12.length : Int))) then
 (optO (atL bleg12 oX) fun c36 =>
 chkO (c36.length == 5) (
 optO (c36[0]?) fun yy =>
 optO (c36[1]?) fun yJ =>
 optO (c36[2]?) fun oU =>
 optO (c36[3]?) fun oc =>
 optO (c36[4]?) fun gM =>
 optO (C lb n QjF [.agg [.list ja aair2, .list jb adis4], yy, .int .i64 c13, oU]) fun pq =>
 optO (C lb n QjF [.agg [.list ja aair2, .list jb adis4], yJ, .int .i64 c13, oc]) fun qx =>
 chkO (CV.isCell yy) (
 chkO (CV.isCell yJ) (
 chkO (CV.isCell pq) (
 chkO (CV.isCell qx) (
 chkO (CV.isCell gM) (
 chkO (room (l24.length + 1) 96) (
 QhX lb n oi ja aair2 jb adis4 jh jg jd jf jc je bleg12 c13 (kE && false) (l24 ++ [[CV.str jh, CV.int .i64 jg, CV.int .i64 c13, yy, yJ, pq, qx, gM]]) (IntKind.wrap .i64 (oX + 1))))))))))
 else
 (Qoj lb n ja aair2 jb adis4 jh jg jd jf jc je bleg12 c13 kE l24 oX) := (Qaf _).trans (by kernel_rfl)
theorem QuI (lb n : Nat) (ja : Bool) (aair2 : LL) (jb : Bool) (adis4 : LL) (jh : LB) (jg jd jf jc : Int) (je : Bool) (bleg12 : LL) (c13 : Int) :
 top lb n Qch [.agg [.list ja aair2, .list jb adis4], .agg [.str jh, .int .i64 jg, .int .i64 jd, .int .i64 jf, .int .i64 jc, .list je bleg12], .int .i64 c13] =
 QhX lb n n ja aair2 jb adis4 jh jg jd jf jc je bleg12 c13 true [] 0 := by kernel_rfl
noncomputable def Qdw (lb n nk : Nat) (ja : Bool) (aair2 : LL) (jb : Bool) (adis4 : LL) (ji : Bool) (b6 : LL) (c7 : Int) (nw : CV) (kc : Int) : Option CV :=
 hold (Qas (E0 lb n 0 994) 0 (Qad (sub (B Qbg) [1, 1, 0, 1, 0, 0]) ++ [8, 10, 11]) [9] (sub (B Qbg) [1, 1, 0, 1, 0, 0]) (Qaj 0 (seqK (E0 lb n 0 997) (sub (B Qbg) [1, 1, 0]) (sub (B Qbg) [1, 1, 1]) (retK Tryz.prog (R Qbg) 0 (outK (Qag Tryz.prog Qbg))))) nk ⟨fr 40 [(0, .val (.agg [.list ja aair2, .list jb adis4])), (1, .val (.list ji b6)), (2, vI c7), (3, .ptr 0 3 0), (6, vB false), (7, vV nw), (12, .val (.list ji b6)), (13, .val (.int .i64 (b6.length : Int))), (14, vI kc)], [bx 40 [(3, some [.val (.list ja aair2), .val (.list jb adis4)])]], KK⟩)
noncomputable def QiI (lb n : Nat) (ja : Bool) (aair2 : LL) (jb : Bool) (adis4 : LL) (ji : Bool) (b6 : LL) (c7 : Int) (qc : CV) : Option CV :=
 hold (E0 lb n 0 997 (sub (B Qbg) [1, 1, 1]) (retK Tryz.prog (R Qbg) 0 (outK (Qag Tryz.prog Qbg))) ⟨fr 40 [(0, .val (.agg [.list ja aair2, .list jb adis4])), (1, .val (.list ji b6)), (2, vI c7), (3, .ptr 0 3 0), (6, vB false), (7, vV qc)], [bx 40 [(3, some [.val (.list ja aair2), .val (.list jb adis4)])]], KK⟩)
theorem QlK (lb n : Nat) (ja : Bool) (aair2 : LL) (jb : Bool) (adis4 : LL) (ji : Bool) (b6 : LL) (c7 : Int) (qc : CV) :
 QiI lb n ja aair2 jb adis4 ji b6 c7 qc =
 some (.bool true) := (Qaf _).trans (by kernel_rfl)
theorem Qge (lb n nk : Nat) (ja : Bool) (aair2 : LL) (jb : Bool) (adis4 : LL) (ji : Bool) (b6 : LL) (c7 : Int) (nw : CV) (kc : Int) :
 Qdw lb n (nk + 1) ja aair2 jb adis4 ji b6 c7 nw kc =
 bif (decide (kc < (b6.length : Int))) then
 (optO (atL b6 kc) fun c42 =>
 chkO (c42.length == 5) (
 optO (c42[0]?) fun gw =>
 optO (c42[1]?) fun oj =>
 optO (c42[2]?) fun lc =>
 optO (c42[3]?) fun lq =>
 optO (c42[4]?) fun zz =>
 optO (C lb n QhD [.agg [.list ja aair2, .list jb adis4], .agg [gw, oj, lc, lq, zz], .int .i64 c7]) fun gk =>
 optO (CV.asT gk) fun nr =>
 optO (nr[0]?) fun gK =>
 optO (CV.asT gk) fun t51 =>
 optO (t51[1]?) fun gv =>
 optO (CV.asI .i64 gK) fun i53 =>
 optO (CV.asI .i64 gv) fun ou =>
 bif (decide (i53 ≥ ou)) then
 (some (.bool false))
 else
 (bif (decide (kc > 0)) then
 (optO (CV.asI .i64 gK) fun zM =>
 optO (CV.asI .i64 nw) fun zA =>
 bif (decide (zM < zA)) then
 (some (.bool false))
 else
 (Qdw lb n nk ja aair2 jb adis4 ji b6 c7 gv (IntKind.wrap .i64 (kc + 1))))
 else
 (Qdw lb n nk ja aair2 jb adis4 ji b6 c7 gv (IntKind.wrap .i64 (kc + 1))))))
 else
 (QiI lb n ja aair2 jb adis4 ji b6 c7 nw) := (Qaf _).trans (by kernel_rfl)
theorem Qn7 (lb n : Nat) (ja : Bool) (aair2 : LL) (jb : Bool) (adis4 : LL) (ji : Bool) (b6 : LL) (c7 : Int) :
 top lb n Qbg [.agg [.list ja aair2, .list jb adis4], .list ji b6, .int .i64 c7] =
 Qdw lb n n ja aair2 jb adis4 ji b6 c7 (.int .i64 0) 0 := by kernel_rfl
noncomputable def Qey (lb n kZ : Nat) (jK : Bool) (a2 : LL) (ke : Int) : Option CV :=
 hold (Qas (E0 lb n 0 995) 0 (Qad (sub (B QbA) [1, 0, 1, 0, 0]) ++ []) [] (sub (B QbA) [1, 0, 1, 0, 0]) (Qaj 0 (seqK (E0 lb n 0 998) (sub (B QbA) [1, 0]) (sub (B QbA) [1, 1]) (retK Tryz.prog (R QbA) 0 (outK (Qag Tryz.prog QbA))))) kZ ⟨fr 39 [(0, .val (.list jK a2)), (2, vB false), (3, vI ke)], [bx 39 []], KK⟩)
noncomputable def QkX (lb n : Nat) (jK : Bool) (a2 : LL) (vW : Int) : Option CV :=
 hold (E0 lb n 0 998 (sub (B QbA) [1, 1]) (retK Tryz.prog (R QbA) 0 (outK (Qag Tryz.prog QbA))) ⟨fr 39 [(0, .val (.list jK a2)), (2, vB false), (3, vI vW)], [bx 39 []], KK⟩)
theorem QnS (lb n : Nat) (jK : Bool) (a2 : LL) (vW : Int) :
 QkX lb n jK a2 vW =
 some (.bool true) := (Qaf _).trans (by kernel_rfl)
theorem Qhn (lb n kZ : Nat) (jK : Bool) (a2 : LL) (ke : Int) :
 Qey lb n (kZ + 1) jK a2 ke =
 bif (decide (ke < (a2.length : Int))) then
 (optO (atL a2 ke) fun c25 =>
 chkO (c25.length == 8) (
 optO (c25[5]?) fun wR =>
 optO (atL a2 ke) fun c27 =>
 chkO (c27.length == 8) (
 optO (c27[6]?) fun y8 =>
 optO (CV.asI .i64 wR) fun kD =>
 optO (CV.asI .i64 y8) fun gi =>
 bif (decide (kD ≥ gi)) then
 (some (.bool false))
 else
 (bif (decide (ke > 0)) then
 (optO (atL a2 ke) fun c31 =>
 chkO (c31.length == 8) (
 optO (c31[5]?) fun wW =>
 optO (atL a2 (IntKind.wrap .i64 (ke - 1))) fun c34 =>
 chkO (c34.length == 8) (
 optO (c34[6]?) fun yH =>
 optO (CV.asI .i64 wW) fun vz =>
 optO (CV.asI .i64 yH) fun i37 =>
 bif (decide (vz < i37)) then
 (some (.bool false))
 else
 (Qey lb n kZ jK a2 (IntKind.wrap .i64 (ke + 1))))))
 else
 (Qey lb n kZ jK a2 (IntKind.wrap .i64 (ke + 1)))))))
 else
 (QkX lb n jK a2 ke) := (Qaf _).trans (by kernel_rfl)
theorem Qq7 (lb n : Nat) (jK : Bool) (a2 : LL) :
 top lb n QbA [.list jK a2] =
 Qey lb n n jK a2 0 := by kernel_rfl
theorem QnV (lb n : Nat) (a1 : Int) :
 top lb n QbI [.int .i64 a1] =
 bif (decide (a1 ≥ (-1440))) then
 (some (.bool (decide (a1 < 5760))))
 else
 (some (.bool false)) := by kernel_rfl
theorem QvM (lb n : Nat) (a1 : Int) :
 top lb n QdE [.int .i64 a1] =
 bif (decide (a1 < (-1440))) then
 (some (.bool true))
 else
 (some (.bool (decide (a1 > 5759)))) := by kernel_rfl
end Go.Proofs
