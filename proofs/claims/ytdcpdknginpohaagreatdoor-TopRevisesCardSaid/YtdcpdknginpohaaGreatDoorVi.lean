/- Equations of functions, printed by program. Conditions: none. -/
import Derived.Test.YtdcpdknginpohaaGreatDoorEv
namespace Go.Proofs
open Go.Am
set_option maxRecDepth 100000
set_option linter.unusedVariables false
noncomputable def schedule_Check_L1 :=
 fun lb n (ym : Nat) (ja : Bool) (aair2 : LL) (jb : Bool) (adis4 : LL) (ji : Bool) (b6 : LL) (ku : Bool) (ky : LL) i111 =>
 hold (Qas (E0 lb n 0 994) 0 (Qad (sub (B Qac) [1, 1, 0, 1, 0, 0]) ++ [6, 8, 12]) [7, 10, 11] (sub (B Qac) [1, 1, 0, 1, 0, 0]) (Qaj 0 (seqK (E0 lb n 0 997) (sub (B Qac) [1, 1, 0]) (sub (B Qac) [1, 1, 1]) (retK Tryz.prog (R Qac) 0 (outK (Qag Tryz.prog Qac))))) ym ⟨fr 59 [(0, .val (.agg [.list ja aair2, .list jb adis4])), (1, .val (.list ji b6)), (2, .ptr 0 2 0), (4, .lst true true 83 []), (5, .lst true ku 83 ky), (13, .val (.list ji b6)), (14, .val (.int .i64 (b6.length : Int))), (15, vI i111)], [bx 59 [(2, some [.val (.list ja aair2), .val (.list jb adis4)])]], KK⟩)
noncomputable def Qee (lb n mX ym : Nat) (ja : Bool) (aair2 : LL) (jb : Bool) (adis4 : LL) (ji : Bool) (b6 : LL) (i111 : Int) (s216 : LB) (c208 : List CV) (ya yb yf yg ye yk yC k6 : CV) (oA : Bool × LL) (gJ : Bool) (l225 : LL) (oY : Int) : Option CV :=
 hold (Qas (E0 lb n 0 984) 0 (Qad (sub (B Qac) [1, 1, 0, 1, 0, 0, 1, 1, 0, 0, 1, 1, 0, 1, 0, 0]) ++ []) [10] (sub (B Qac) [1, 1, 0, 1, 0, 0, 1, 1, 0, 0, 1, 1, 0, 1, 0, 0]) (Qaj 2 (seqK (E0 lb n 0 987) (sub (B Qac) [1, 1, 0, 1, 0, 0, 1, 1, 0, 0, 1, 1, 0]) (sub (B Qac) [1, 1, 0, 1, 0, 0, 1, 1, 0, 0, 1, 1, 1]) (Qaj 1 (seqK (E0 lb n 0 991) (sub (B Qac) [1, 1, 0, 1, 0, 0, 1, 1, 0]) (sub (B Qac) [1, 1, 0, 1, 0, 0, 1, 1, 1]) (Qbs 0 (Qad (sub (B Qac) [1, 1, 0, 1, 0, 0]) ++ [6, 8, 12]) [7, 10, 11] (Qas (E0 lb n 0 994) 0 (Qad (sub (B Qac) [1, 1, 0, 1, 0, 0]) ++ [6, 8, 12]) [7, 10, 11] (sub (B Qac) [1, 1, 0, 1, 0, 0]) (Qaj 0 (seqK (E0 lb n 0 997) (sub (B Qac) [1, 1, 0]) (sub (B Qac) [1, 1, 1]) (retK Tryz.prog (R Qac) 0 (outK (Qag Tryz.prog Qac))))) ym) (Qaj 0 (seqK (E0 lb n 0 997) (sub (B Qac) [1, 1, 0]) (sub (B Qac) [1, 1, 1]) (retK Tryz.prog (R Qac) 0 (outK (Qag Tryz.prog Qac)))))))))) mX ⟨fr 59 [(0, .val (.agg [.list ja aair2, .list jb adis4])), (1, .val (.list ji b6)), (2, .ptr 0 2 0), (4, .lst true true 83 []), (5, .lst true gJ 83 l225), (6, vI i111), (7, .ptr 0 7 0), (8, .val (.str (([102, 108, 105, 103, 104, 116, 32] : LB) ++ s216))), (13, .val (.list ji b6)), (14, .val (.int .i64 (b6.length : Int))), (15, vI i111), (16, .val (.bool (decide (i111 < (b6.length : Int))))), (17, vI i111), (18, .cptr c208 0), (19, .val (.agg [ya, yb, yf, yg, ye, yk])), (20, vI i111), (21, vV yC), (22, .val (.str (([102, 108, 105, 103, 104, 116, 32] : LB) ++ s216))), (23, .val (.agg [.list ja aair2, .list jb adis4])), (24, .val (.agg [ya, yb, yf, yg, ye, yk])), (25, vV k6), (26, .val (.int .i64 (oA.2.length : Int))), (27, vI oY)], [bx 59 [(2, some [.val (.list ja aair2), .val (.list jb adis4)]), (7, some [.val ya, .val yb, .val yf, .val yg, .val ye, .val yk])]], KK⟩)
noncomputable def Qf4 (lb n ym : Nat) (ja : Bool) (aair2 : LL) (jb : Bool) (adis4 : LL) (ji : Bool) (b6 : LL) (i111 : Int) (s216 : LB) (c208 : List CV) (ya yb yf yg ye yk yC : CV) (vn : Bool) (l239 : LL) : Option CV :=
 hold (E0 lb n 0 987 (sub (B Qac) [1, 1, 0, 1, 0, 0, 1, 1, 0, 0, 1, 1, 1]) (Qaj 1 (seqK (E0 lb n 0 991) (sub (B Qac) [1, 1, 0, 1, 0, 0, 1, 1, 0]) (sub (B Qac) [1, 1, 0, 1, 0, 0, 1, 1, 1]) (Qbs 0 (Qad (sub (B Qac) [1, 1, 0, 1, 0, 0]) ++ [6, 8, 12]) [7, 10, 11] (Qas (E0 lb n 0 994) 0 (Qad (sub (B Qac) [1, 1, 0, 1, 0, 0]) ++ [6, 8, 12]) [7, 10, 11] (sub (B Qac) [1, 1, 0, 1, 0, 0]) (Qaj 0 (seqK (E0 lb n 0 997) (sub (B Qac) [1, 1, 0]) (sub (B Qac) [1, 1, 1]) (retK Tryz.prog (R Qac) 0 (outK (Qag Tryz.prog Qac))))) ym) (Qaj 0 (seqK (E0 lb n 0 997) (sub (B Qac) [1, 1, 0]) (sub (B Qac) [1, 1, 1]) (retK Tryz.prog (R Qac) 0 (outK (Qag Tryz.prog Qac)))))))) ⟨fr 59 [(0, .val (.agg [.list ja aair2, .list jb adis4])), (1, .val (.list ji b6)), (2, .ptr 0 2 0), (4, .lst true true 83 []), (5, .lst true vn 83 l239), (6, vI i111), (7, .ptr 0 7 0), (8, .val (.str (([102, 108, 105, 103, 104, 116, 32] : LB) ++ s216))), (13, .val (.list ji b6)), (14, .val (.int .i64 (b6.length : Int))), (15, vI i111), (16, .val (.bool (decide (i111 < (b6.length : Int))))), (17, vI i111), (18, .cptr c208 0), (19, .val (.agg [ya, yb, yf, yg, ye, yk])), (20, vI i111), (21, vV yC), (22, .val (.str (([102, 108, 105, 103, 104, 116, 32] : LB) ++ s216)))], [bx 59 [(2, some [.val (.list ja aair2), .val (.list jb adis4)]), (7, some [.val ya, .val yb, .val yf, .val yg, .val ye, .val yk])]], KK⟩)
noncomputable def QcZ (lb n o4 : Nat) (ja : Bool) (aair2 : LL) (jb : Bool) (adis4 : LL) (ji : Bool) (b6 : LL) (vn : Bool) (l239 : LL) (i111 : Int) (s216 : LB) (c208 : List CV) (ya yb yf yg ye yk yC : CV) (ym : Nat) (og : Int) : Option CV :=
 hold (Qas (E1 lb n 1 995) 1 (Qad (sub (B QaC) [1, 0, 1, 0, 0]) ++ []) [7] (sub (B QaC) [1, 0, 1, 0, 0]) (Qaj 0 (seqK (E1 lb n 1 998) (sub (B QaC) [1, 0]) (sub (B QaC) [1, 1]) (retK Tryz.prog (R QaC) 1 (inlK (opAt (QaA (sub (B Qac) [1, 1, 0, 1, 0, 0, 1, 1, 0, 0, 1, 1, 1, 0])) 4) ⟨fr 59 [(0, .val (.agg [.list ja aair2, .list jb adis4])), (1, .val (.list ji b6)), (2, .ptr 0 2 0), (4, .lst true true 83 []), (5, .lst true vn 83 l239), (6, vI i111), (7, .ptr 0 7 0), (8, .val (.str (([102, 108, 105, 103, 104, 116, 32] : LB) ++ s216))), (13, .val (.list ji b6)), (14, .val (.int .i64 (b6.length : Int))), (15, vI i111), (16, .val (.bool (decide (i111 < (b6.length : Int))))), (17, vI i111), (18, .cptr c208 0), (19, .val (.agg [ya, yb, yf, yg, ye, yk])), (20, vI i111), (21, vV yC), (22, .val (.str (([102, 108, 105, 103, 104, 116, 32] : LB) ++ s216))), (44, .val (.list ji b6)), (45, vI i111), (46, .val (.list ji ((b6.take i111.toNat).drop 0))), (47, .clo Qd1 [.ptr 0 7 0])], [bx 59 [(2, some [.val (.list ja aair2), .val (.list jb adis4)]), (7, some [.val ya, .val yb, .val yf, .val yg, .val ye, .val yk])]], KK⟩ (opsK Tryz.prog (C lb n) (I9 lb n) 0 (QaA (sub (B Qac) [1, 1, 0, 1, 0, 0, 1, 1, 0, 0, 1, 1, 1, 0])) ((QaA (sub (B Qac) [1, 1, 0, 1, 0, 0, 1, 1, 0, 0, 1, 1, 1, 0])).drop 5) ((seqK (E0 lb n 0 986) (sub (B Qac) [1, 1, 0, 1, 0, 0, 1, 1, 0, 0, 1, 1, 1, 0]) (sub (B Qac) [1, 1, 0, 1, 0, 0, 1, 1, 0, 0, 1, 1, 1, 1]) (Qaj 1 (seqK (E0 lb n 0 991) (sub (B Qac) [1, 1, 0, 1, 0, 0, 1, 1, 0]) (sub (B Qac) [1, 1, 0, 1, 0, 0, 1, 1, 1]) (Qbs 0 (Qad (sub (B Qac) [1, 1, 0, 1, 0, 0]) ++ [6, 8, 12]) [7, 10, 11] (Qas (E0 lb n 0 994) 0 (Qad (sub (B Qac) [1, 1, 0, 1, 0, 0]) ++ [6, 8, 12]) [7, 10, 11] (sub (B Qac) [1, 1, 0, 1, 0, 0]) (Qaj 0 (seqK (E0 lb n 0 997) (sub (B Qac) [1, 1, 0]) (sub (B Qac) [1, 1, 1]) (retK Tryz.prog (R Qac) 0 (outK (Qag Tryz.prog Qac))))) ym) (Qaj 0 (seqK (E0 lb n 0 997) (sub (B Qac) [1, 1, 0]) (sub (B Qac) [1, 1, 1]) (retK Tryz.prog (R Qac) 0 (outK (Qag Tryz.prog Qac))))))))) .normal)))))) o4 ⟨fr 21 [(0, .val (.list ji ((b6.take i111.toNat).drop 0))), (1, .clo Qd1 [.ptr 0 7 0]), (4, .ptr 1 4 0), (5, vB false), (9, .val (.list ji ((b6.take i111.toNat).drop 0))), (10, .val (.int .i64 (((b6.take i111.toNat).drop 0).length : Int))), (11, vI og)], [bx 59 [(2, some [.val (.list ja aair2), .val (.list jb adis4)]), (7, some [.val ya, .val yb, .val yf, .val yg, .val ye, .val yk])], bx 21 [(4, some [.val (.str []), vI 0, vI 0, vI 0, vI 0, .lst true true 94 []])]], KK⟩)
noncomputable def Qf7 (lb n ym : Nat) (ja : Bool) (aair2 : LL) (jb : Bool) (adis4 : LL) (ji : Bool) (b6 : LL) (i111 : Int) (me : Bool) (my : LL) (nB : Int) (n0 : LB) (n6 : Bool) (nL n3 nY nR nG nD ny nM nX nZ nU nT : CV) : Option CV :=
 hold (E0 lb n 0 991 (sub (B Qac) [1, 1, 0, 1, 0, 0, 1, 1, 1]) (Qbs 0 (Qad (sub (B Qac) [1, 1, 0, 1, 0, 0]) ++ [6, 8, 12]) [7, 10, 11] (Qas (E0 lb n 0 994) 0 (Qad (sub (B Qac) [1, 1, 0, 1, 0, 0]) ++ [6, 8, 12]) [7, 10, 11] (sub (B Qac) [1, 1, 0, 1, 0, 0]) (Qaj 0 (seqK (E0 lb n 0 997) (sub (B Qac) [1, 1, 0]) (sub (B Qac) [1, 1, 1]) (retK Tryz.prog (R Qac) 0 (outK (Qag Tryz.prog Qac))))) ym) (Qaj 0 (seqK (E0 lb n 0 997) (sub (B Qac) [1, 1, 0]) (sub (B Qac) [1, 1, 1]) (retK Tryz.prog (R Qac) 0 (outK (Qag Tryz.prog Qac)))))) ⟨fr 59 [(0, .val (.agg [.list ja aair2, .list jb adis4])), (1, .val (.list ji b6)), (2, .ptr 0 2 0), (4, .lst true true 83 []), (5, .lst true me 83 my), (6, vI nB), (8, vS n0), (12, vB n6), (13, .val (.list ji b6)), (14, .val (.int .i64 (b6.length : Int))), (15, vI i111), (16, .val (.bool (decide (i111 < (b6.length : Int)))))], [bx 59 [(2, some [.val (.list ja aair2), .val (.list jb adis4)]), (7, some [.val nL, .val n3, .val nY, .val nR, .val nG, .val nD]), (11, some [.val ny, .val nM, .val nX, .val nZ, .val nU, .val nT])]], KK⟩)
theorem Qlb (lb n ym : Nat) (ja : Bool) (aair2 : LL) (jb : Bool) (adis4 : LL) (ji : Bool) (b6 : LL) (i111 : Int) (me : Bool) (my : LL) (nB : Int) (n0 : LB) (n6 : Bool) (nL n3 nY nR nG nD ny nM nX nZ nU nT : CV) :
 Qf7 lb n ym ja aair2 jb adis4 ji b6 i111 me my nB n0 n6 nL n3 nY nR nG nD ny nM nX nZ nU nT =
 schedule_Check_L1 lb n ym ja aair2 jb adis4 ji b6 me my (IntKind.wrap .i64 (i111 + 1)) := (Qaf _).trans (by kernel_rfl)
noncomputable def Qf1 (lb n : Nat) (ja : Bool) (aair2 : LL) (jb : Bool) (adis4 : LL) (ji : Bool) (b6 : LL) (vn : Bool) (l239 : LL) (i111 : Int) (s216 : LB) (c208 : List CV) (ya yb yf yg ye yk yC : CV) (ym : Nat) : Option CV :=
 hold (E1 lb n 1 998 (sub (B QaC) [1, 1]) (retK Tryz.prog (R QaC) 1 (inlK (opAt (QaA (sub (B Qac) [1, 1, 0, 1, 0, 0, 1, 1, 0, 0, 1, 1, 1, 0])) 4) ⟨fr 59 [(0, .val (.agg [.list ja aair2, .list jb adis4])), (1, .val (.list ji b6)), (2, .ptr 0 2 0), (4, .lst true true 83 []), (5, .lst true vn 83 l239), (6, vI i111), (7, .ptr 0 7 0), (8, .val (.str (([102, 108, 105, 103, 104, 116, 32] : LB) ++ s216))), (13, .val (.list ji b6)), (14, .val (.int .i64 (b6.length : Int))), (15, vI i111), (16, .val (.bool (decide (i111 < (b6.length : Int))))), (17, vI i111), (18, .cptr c208 0), (19, .val (.agg [ya, yb, yf, yg, ye, yk])), (20, vI i111), (21, vV yC), (22, .val (.str (([102, 108, 105, 103, 104, 116, 32] : LB) ++ s216))), (44, .val (.list ji b6)), (45, vI i111), (46, .val (.list ji ((b6.take i111.toNat).drop 0))), (47, .clo Qd1 [.ptr 0 7 0])], [bx 59 [(2, some [.val (.list ja aair2), .val (.list jb adis4)]), (7, some [.val ya, .val yb, .val yf, .val yg, .val ye, .val yk])]], KK⟩ (opsK Tryz.prog (C lb n) (I9 lb n) 0 (QaA (sub (B Qac) [1, 1, 0, 1, 0, 0, 1, 1, 0, 0, 1, 1, 1, 0])) ((QaA (sub (B Qac) [1, 1, 0, 1, 0, 0, 1, 1, 0, 0, 1, 1, 1, 0])).drop 5) ((seqK (E0 lb n 0 986) (sub (B Qac) [1, 1, 0, 1, 0, 0, 1, 1, 0, 0, 1, 1, 1, 0]) (sub (B Qac) [1, 1, 0, 1, 0, 0, 1, 1, 0, 0, 1, 1, 1, 1]) (Qaj 1 (seqK (E0 lb n 0 991) (sub (B Qac) [1, 1, 0, 1, 0, 0, 1, 1, 0]) (sub (B Qac) [1, 1, 0, 1, 0, 0, 1, 1, 1]) (Qbs 0 (Qad (sub (B Qac) [1, 1, 0, 1, 0, 0]) ++ [6, 8, 12]) [7, 10, 11] (Qas (E0 lb n 0 994) 0 (Qad (sub (B Qac) [1, 1, 0, 1, 0, 0]) ++ [6, 8, 12]) [7, 10, 11] (sub (B Qac) [1, 1, 0, 1, 0, 0]) (Qaj 0 (seqK (E0 lb n 0 997) (sub (B Qac) [1, 1, 0]) (sub (B Qac) [1, 1, 1]) (retK Tryz.prog (R Qac) 0 (outK (Qag Tryz.prog Qac))))) ym) (Qaj 0 (seqK (E0 lb n 0 997) (sub (B Qac) [1, 1, 0]) (sub (B Qac) [1, 1, 1]) (retK Tryz.prog (R Qac) 0 (outK (Qag Tryz.prog Qac))))))))) .normal)))) ⟨fr 21 [(0, .val (.list ji ((b6.take i111.toNat).drop 0))), (1, .clo Qd1 [.ptr 0 7 0]), (4, .ptr 1 4 0), (5, vB false)], [bx 59 [(2, some [.val (.list ja aair2), .val (.list jb adis4)]), (7, some [.val ya, .val yb, .val yf, .val yg, .val ye, .val yk])], bx 21 [(4, some [.val (.str []), vI 0, vI 0, vI 0, vI 0, .lst true true 94 []])]], KK⟩)
theorem Qlj (lb n : Nat) (ja : Bool) (aair2 : LL) (jb : Bool) (adis4 : LL) (ji : Bool) (b6 : LL) (vn : Bool) (l239 : LL) (i111 : Int) (s216 : LB) (c208 : List CV) (ya yb yf yg ye yk yC : CV) (ym : Nat) :
 Qf1 lb n ja aair2 jb adis4 ji b6 vn l239 i111 s216 c208 ya yb yf yg ye yk yC ym =
 Qf7 lb n ym ja aair2 jb adis4 ji b6 i111 vn l239 i111 (([102, 108, 105, 103, 104, 116, 32] : LB) ++ s216) false ya yb yf yg ye yk (.str []) (.int .i64 0) (.int .i64 0) (.int .i64 0) (.int .i64 0) (.list true []) := (Qaf _).trans (by kernel_rfl)
theorem Qgn (lb n o4 : Nat) (ja : Bool) (aair2 : LL) (jb : Bool) (adis4 : LL) (ji : Bool) (b6 : LL) (vn : Bool) (l239 : LL) (i111 : Int) (s216 : LB) (c208 : List CV) (ya yb yf yg ye yk yC : CV) (ym : Nat) (og : Int) :
 QcZ lb n (o4 + 1) ja aair2 jb adis4 ji b6 vn l239 i111 s216 c208 ya yb yf yg ye yk yC ym og =
 bif (decide (og < (((b6.take i111.toNat).drop 0).length : Int))) then
 (optO (atL ((b6.take i111.toNat).drop 0) og) fun c286 =>
 chkO (c286.length == 6) (
 optO (c286[0]?) fun qo =>
 optO (c286[1]?) fun pT =>
 optO (c286[2]?) fun qj =>
 optO (c286[3]?) fun qa =>
 optO (c286[4]?) fun qu =>
 optO (c286[5]?) fun sD =>
 optO (CV.asS qo) fun qH =>
 optO (CV.asS ya) fun sO =>
 bif (!(qH == sO)) then
 (QcZ lb n o4 ja aair2 jb adis4 ji b6 vn l239 i111 s216 c208 ya yb yf yg ye yk yC ym (IntKind.wrap .i64 (og + 1)))
 else
 (optO (CV.asI .i64 pT) fun qF =>
 optO (CV.asI .i64 yb) fun sQ =>
 bif (qF != sQ) then
 (QcZ lb n o4 ja aair2 jb adis4 ji b6 vn l239 i111 s216 c208 ya yb yf yg ye yk yC ym (IntKind.wrap .i64 (og + 1)))
 else
 (optO (C lb n QeW [.agg [qj, qa, qu], .agg [yf, yg, ye]]) fun pP =>
 optO (CV.asT pP) fun qR =>
 optO (qR[0]?) fun ss =>
 optO (CV.asT pP) fun sW =>
 optO (sW[1]?) fun zk =>
 optO (CV.asA ss) fun c302 =>
 chkO (c302.length == 3) (
 optO (c302[0]?) fun ru =>
 optO (c302[1]?) fun rq =>
 optO (c302[2]?) fun ry =>
 optO (CV.asB zk) fun zg =>
 bif zg then
 (chkO (room (l239.length + 1) 24) (
 Qf7 lb n ym ja aair2 jb adis4 ji b6 i111 (vn && false) (l239 ++ [[CV.int .i64 6, CV.str (([102, 108, 105, 103, 104, 116, 32] : LB) ++ s216)]]) i111 (([102, 108, 105, 103, 104, 116, 32] : LB) ++ s216) true ya yb yf yg ye yk qo pT qj qa qu sD))
 else
 (QcZ lb n o4 ja aair2 jb adis4 ji b6 vn l239 i111 s216 c208 ya yb yf yg ye yk yC ym (IntKind.wrap .i64 (og + 1))))))))
 else
 (Qf1 lb n ja aair2 jb adis4 ji b6 vn l239 i111 s216 c208 ya yb yf yg ye yk yC ym ) := (Qaf _).trans (by kernel_rfl)
theorem Qly (lb n ym : Nat) (ja : Bool) (aair2 : LL) (jb : Bool) (adis4 : LL) (ji : Bool) (b6 : LL) (i111 : Int) (s216 : LB) (c208 : List CV) (ya yb yf yg ye yk yC : CV) (vn : Bool) (l239 : LL) :
 Qf4 lb n ym ja aair2 jb adis4 ji b6 i111 s216 c208 ya yb yf yg ye yk yC vn l239 =
 chkO (b6.all (·.length == 6)) (
 chkO (decide ((0 : Int) ≤ i111 ∧ i111 ≤ (b6.length : Int))) (
 QcZ lb n n ja aair2 jb adis4 ji b6 vn l239 i111 s216 c208 ya yb yf yg ye yk yC ym 0)) := (Qaf _).trans (by kernel_rfl)
theorem Qkh (lb n mX ym : Nat) (ja : Bool) (aair2 : LL) (jb : Bool) (adis4 : LL) (ji : Bool) (b6 : LL) (i111 : Int) (s216 : LB) (c208 : List CV) (ya yb yf yg ye yk yC k6 : CV) (oA : Bool × LL) (gJ : Bool) (l225 : LL) (oY : Int) :
 Qee lb n (mX + 1) ym ja aair2 jb adis4 ji b6 i111 s216 c208 ya yb yf yg ye yk yC k6 oA gJ l225 oY =
 bif (decide (oY < (oA.2.length : Int))) then
 (optO (CV.asL k6) fun s8 =>
 optO (atL s8.2 oY) fun c234 =>
 chkO (c234.length == 2) (
 optO (c234[0]?) fun pM =>
 optO (c234[1]?) fun sf =>
 chkO (decide ((([102, 108, 105, 103, 104, 116, 32] : LB) ++ s216).length + [32].length ≤ 9223372036854775807)) (
 optO (CV.asS sf) fun s237 =>
 chkO (decide (((([102, 108, 105, 103, 104, 116, 32] : LB) ++ s216) ++ [32]).length + s237.length ≤ 9223372036854775807)) (
 chkO (CV.isCell pM) (
 chkO (room (l225.length + 1) 24) (
 Qee lb n mX ym ja aair2 jb adis4 ji b6 i111 s216 c208 ya yb yf yg ye yk yC k6 oA (gJ && false) (l225 ++ [[pM, CV.str (((([102, 108, 105, 103, 104, 116, 32] : LB) ++ s216) ++ [32]) ++ s237)]]) (IntKind.wrap .i64 (oY + 1))))))))
 else
 (Qf4 lb n ym ja aair2 jb adis4 ji b6 i111 s216 c208 ya yb yf yg ye yk yC gJ l225) := (Qaf _).trans (by kernel_rfl)
noncomputable def QiG (lb n : Nat) (ja : Bool) (aair2 : LL) (jb : Bool) (adis4 : LL) (ji : Bool) (b6 : LL) (mt : Bool) (mf : LL) : Option CV :=
 hold (E0 lb n 0 997 (sub (B Qac) [1, 1, 1]) (retK Tryz.prog (R Qac) 0 (outK (Qag Tryz.prog Qac))) ⟨fr 59 [(0, .val (.agg [.list ja aair2, .list jb adis4])), (1, .val (.list ji b6)), (2, .ptr 0 2 0), (4, .lst true true 83 []), (5, .lst true mt 83 mf)], [bx 59 [(2, some [.val (.list ja aair2), .val (.list jb adis4)])]], KK⟩)
theorem Qlm (lb n : Nat) (ja : Bool) (aair2 : LL) (jb : Bool) (adis4 : LL) (ji : Bool) (b6 : LL) (mt : Bool) (mf : LL) :
 QiG lb n ja aair2 jb adis4 ji b6 mt mf =
 some (.list mt mf) := (Qaf _).trans (by kernel_rfl)
theorem Qgi (lb n ym : Nat) (ja : Bool) (aair2 : LL) (jb : Bool) (adis4 : LL) (ji : Bool) (b6 : LL) (ku : Bool) (ky : LL) (i111 : Int) :
 schedule_Check_L1 lb n (ym + 1) ja aair2 jb adis4 ji b6 ku ky i111 =
 bif (decide (i111 < (b6.length : Int))) then
 (optO (atL b6 i111) fun c208 =>
 chkO (c208.length == 6) (
 optO (c208[0]?) fun ya =>
 optO (c208[1]?) fun yb =>
 optO (c208[2]?) fun yf =>
 optO (c208[3]?) fun yg =>
 optO (c208[4]?) fun ye =>
 optO (c208[5]?) fun yk =>
 optO (C lb n QeA [.int .i64 i111]) fun yC =>
 optO (CV.asS yC) fun s216 =>
 chkO (decide (([102, 108, 105, 103, 104, 116, 32] : LB).length + s216.length ≤ 9223372036854775807)) (
 optO (C lb n Qak [.agg [.list ja aair2, .list jb adis4], .agg [ya, yb, yf, yg, ye, yk]]) fun k6 =>
 optO (CV.asL k6) fun oA =>
 Qee lb n n ym ja aair2 jb adis4 ji b6 i111 s216 c208 ya yb yf yg ye yk yC k6 oA ku ky 0)))
 else
 (QiG lb n ja aair2 jb adis4 ji b6 ku ky) := (Qaf _).trans (by kernel_rfl)
theorem QnY (lb n : Nat) (ja : Bool) (aair2 : LL) (jb : Bool) (adis4 : LL) (ji : Bool) (b6 : LL) :
 top lb n Qac [.agg [.list ja aair2, .list jb adis4], .list ji b6] =
 schedule_Check_L1 lb n n ja aair2 jb adis4 ji b6 true [] 0 := by kernel_rfl
noncomputable def QbP (lb n gN : Nat) (jK : Bool) (a2 : LL) (vd : Bool) (b4 : LL) (c5 : LB) (d6 y5 vo yK : Int) (wS : CV) (oJ : Bool × LL) (gF : Bool) (l53 : LL) (ou : Int) : Option CV :=
 hold (Qas (E0 lb n 0 994) 0 (Qad (sub (B Qbh) [1, 1, 0, 1, 0, 0]) ++ [13, 15, 17]) [14, 16] (sub (B Qbh) [1, 1, 0, 1, 0, 0]) (Qaj 0 (seqK (E0 lb n 0 997) (sub (B Qbh) [1, 1, 0]) (sub (B Qbh) [1, 1, 1]) (retK Tryz.prog (R Qbh) 0 (outK (Qag Tryz.prog Qbh))))) gN ⟨fr 58 [(0, .val (.list jK a2)), (1, .val (.list vd b4)), (2, vS c5), (3, vI d6), (4, .val (.agg [.int .i64 y5, .int .i64 vo, .int .i64 yK])), (9, .ptr 0 9 0), (10, .lst true true 3 []), (11, .lst true gF 3 l53), (18, .val (.agg [.int .i64 y5, .int .i64 vo, .int .i64 yK])), (19, vV wS), (20, .val (.int .i64 (oJ.2.length : Int))), (21, vI ou)], [bx 58 [(9, some [vI y5, vI vo, vI yK])]], KK⟩)
noncomputable def Qh8 (lb n : Nat) (jK : Bool) (a2 : LL) (vd : Bool) (b4 : LL) (c5 : LB) (d6 y5 vo yK : Int) (o0 : Bool) (ma : LL) : Option CV :=
 hold (E0 lb n 0 997 (sub (B Qbh) [1, 1, 1]) (retK Tryz.prog (R Qbh) 0 (outK (Qag Tryz.prog Qbh))) ⟨fr 58 [(0, .val (.list jK a2)), (1, .val (.list vd b4)), (2, vS c5), (3, vI d6), (4, .val (.agg [.int .i64 y5, .int .i64 vo, .int .i64 yK])), (9, .ptr 0 9 0), (10, .lst true true 3 []), (11, .lst true o0 3 ma)], [bx 58 [(9, some [vI y5, vI vo, vI yK])]], KK⟩)
theorem QkV (lb n : Nat) (jK : Bool) (a2 : LL) (vd : Bool) (b4 : LL) (c5 : LB) (d6 y5 vo yK : Int) (o0 : Bool) (ma : LL) :
 Qh8 lb n jK a2 vd b4 c5 d6 y5 vo yK o0 ma =
 some (.list o0 ma) := (Qaf _).trans (by kernel_rfl)
theorem Qf0 (lb n gN : Nat) (jK : Bool) (a2 : LL) (vd : Bool) (b4 : LL) (c5 : LB) (d6 y5 vo yK : Int) (wS : CV) (oJ : Bool × LL) (gF : Bool) (l53 : LL) (ou : Int) :
 QbP lb n (gN + 1) jK a2 vd b4 c5 d6 y5 vo yK wS oJ gF l53 ou =
 bif (decide (ou < (oJ.2.length : Int))) then
 (optO (CV.asL wS) fun qh =>
 optO (atL qh.2 ou) fun c89 =>
 chkO (c89.length == 1) (
 optO (c89[0]?) fun gR =>
 optO (C lb n Qba [.list jK a2, .str c5, .int .i64 d6, gR]) fun qz =>
 optO (CV.asT qz) fun zJ =>
 optO (zJ[0]?) fun rd =>
 optO (CV.asT qz) fun zO =>
 optO (zO[1]?) fun zS =>
 optO (CV.asA rd) fun c96 =>
 chkO (c96.length == 6) (
 optO (c96[0]?) fun rz =>
 optO (c96[1]?) fun rB =>
 optO (c96[2]?) fun rC =>
 optO (c96[3]?) fun rx =>
 optO (c96[4]?) fun rp =>
 optO (c96[5]?) fun qQ =>
 optO (C lb n Qba [.list vd b4, .str c5, .int .i64 d6, gR]) fun qi =>
 optO (CV.asT qi) fun sV =>
 optO (sV[0]?) fun qY =>
 optO (CV.asT qi) fun sJ =>
 optO (sJ[1]?) fun qD =>
 optO (CV.asA qY) fun c108 =>
 chkO (c108.length == 6) (
 optO (c108[0]?) fun rn =>
 optO (c108[1]?) fun ro =>
 optO (c108[2]?) fun rt =>
 optO (c108[3]?) fun rr =>
 optO (c108[4]?) fun rm =>
 optO (c108[5]?) fun sA =>
 optO (CV.asB zS) fun qU =>
 optO (CV.asB qD) fun sM =>
 bif (!(qU == sM)) then
 (chkO (CV.isCell gR) (
 chkO (room (l53.length + 1) 8) (
 QbP lb n gN jK a2 vd b4 c5 d6 y5 vo yK wS oJ (gF && false) (l53 ++ [[gR]]) (IntKind.wrap .i64 (ou + 1)))))
 else
 (optO (C lb n QaY [qQ, sA]) fun qE =>
 optO (CV.asB qE) fun sB =>
 bif (!sB) then
 (chkO (CV.isCell gR) (
 chkO (room (l53.length + 1) 8) (
 QbP lb n gN jK a2 vd b4 c5 d6 y5 vo yK wS oJ (gF && false) (l53 ++ [[gR]]) (IntKind.wrap .i64 (ou + 1)))))
 else
 (QbP lb n gN jK a2 vd b4 c5 d6 y5 vo yK wS oJ gF l53 (IntKind.wrap .i64 (ou + 1))))))))
 else
 (Qh8 lb n jK a2 vd b4 c5 d6 y5 vo yK gF l53) := (Qaf _).trans (by kernel_rfl)
theorem QmK (lb n : Nat) (jK : Bool) (a2 : LL) (vd : Bool) (b4 : LL) (c5 : LB) (d6 y5 vo yK : Int) :
 top lb n Qbh [.list jK a2, .list vd b4, .str c5, .int .i64 d6, .agg [.int .i64 y5, .int .i64 vo, .int .i64 yK]] =
 optO (C lb n QeV [.agg [.int .i64 y5, .int .i64 vo, .int .i64 yK]]) fun wS =>
 optO (CV.asL wS) fun oJ =>
 QbP lb n n jK a2 vd b4 c5 d6 y5 vo yK wS oJ true [] 0 := by kernel_rfl
noncomputable def Qdy (lb n vU : Nat) (ja : Bool) (aair2 : LL) (jb : Bool) (adis4 : LL) (ji : Bool) (b6 : LL) (wk : Int) (wj : LB) (j2 jp jL jq wa : Int) (wb : LB) (jS : Bool) (cleg18 : LL) (j1 jZ wI : CV) (i85 : Int) : Option CV :=
 hold (Qas (E0 lb n 0 990) 0 (Qad (sub (B Qap) [1, 1, 1, 1, 1, 1, 0, 1, 0, 0]) ++ [10, 11, 11]) [] (sub (B Qap) [1, 1, 1, 1, 1, 1, 0, 1, 0, 0]) (Qaj 0 (seqK (E0 lb n 0 993) (sub (B Qap) [1, 1, 1, 1, 1, 1, 0]) (sub (B Qap) [1, 1, 1, 1, 1, 1, 1]) (retK Tryz.prog (R Qap) 0 (outK (Qag Tryz.prog Qap))))) vU ⟨fr 112 [(0, .val (.agg [.list ja aair2, .list jb adis4])), (1, .val (.list ji b6)), (2, .val (.agg [.int .i64 wk, .str wj, .int .i64 j2, .int .i64 jp, .int .i64 jL, .int .i64 jq, .int .i64 wa, .str wb, .list jS cleg18])), (3, .ptr 0 3 0), (5, .ptr 0 5 0), (6, vB false), (7, vV j1), (8, vV jZ), (9, vI i85), (33, vV wI), (34, .val (.agg [.list ja aair2, .list jb adis4])), (35, .val (.list ji b6)), (36, .val (.agg [.int .i64 wk, .str wj, .int .i64 j2, .int .i64 jp, .int .i64 jL, .int .i64 jq, .int .i64 wa, .str wb, .list jS cleg18])), (37, vV wI), (38, vV j1), (39, vV jZ)], [bx 112 [(3, some [.val (.list ja aair2), .val (.list jb adis4)]), (5, some [vI wk, vS wj, vI j2, vI jp, vI jL, vI jq, vI wa, vS wb, .val (.list jS cleg18)])]], KK⟩)
noncomputable def Qen (lb n mu vU : Nat) (ja : Bool) (aair2 : LL) (jb : Bool) (adis4 : LL) (ji : Bool) (b6 : LL) (wk : Int) (wj : LB) (j2 jp jL jq wa : Int) (wb : LB) (jS : Bool) (cleg18 : LL) (j1 jZ : CV) (i85 : Int) (kF wI : CV) (c133 : List CV) (oC : CV) (c135 : List CV) (oD : CV) (c137 : List CV) (oz oB oE : CV) (ov : Int) : Option CV :=
 hold (Qas (E0 lb n 0 983) 0 (Qad (sub (B Qap) [1, 1, 1, 1, 1, 1, 0, 1, 0, 0, 1, 0, 0, 1, 1, 0, 0]) ++ []) [] (sub (B Qap) [1, 1, 1, 1, 1, 1, 0, 1, 0, 0, 1, 0, 0, 1, 1, 0, 0]) (Qaj 2 (Qaj 1 (seqK (E0 lb n 0 988) (sub (B Qap) [1, 1, 1, 1, 1, 1, 0, 1, 0, 0, 1, 0]) (sub (B Qap) [1, 1, 1, 1, 1, 1, 0, 1, 0, 0, 1, 1]) (Qbs 0 (Qad (sub (B Qap) [1, 1, 1, 1, 1, 1, 0, 1, 0, 0]) ++ [10, 11, 11]) [] (Qas (E0 lb n 0 990) 0 (Qad (sub (B Qap) [1, 1, 1, 1, 1, 1, 0, 1, 0, 0]) ++ [10, 11, 11]) [] (sub (B Qap) [1, 1, 1, 1, 1, 1, 0, 1, 0, 0]) (Qaj 0 (seqK (E0 lb n 0 993) (sub (B Qap) [1, 1, 1, 1, 1, 1, 0]) (sub (B Qap) [1, 1, 1, 1, 1, 1, 1]) (retK Tryz.prog (R Qap) 0 (outK (Qag Tryz.prog Qap))))) vU) (Qaj 0 (seqK (E0 lb n 0 993) (sub (B Qap) [1, 1, 1, 1, 1, 1, 0]) (sub (B Qap) [1, 1, 1, 1, 1, 1, 1]) (retK Tryz.prog (R Qap) 0 (outK (Qag Tryz.prog Qap))))))))) mu ⟨fr 112 [(0, .val (.agg [.list ja aair2, .list jb adis4])), (1, .val (.list ji b6)), (2, .val (.agg [.int .i64 wk, .str wj, .int .i64 j2, .int .i64 jp, .int .i64 jL, .int .i64 jq, .int .i64 wa, .str wb, .list jS cleg18])), (3, .ptr 0 3 0), (5, .ptr 0 5 0), (6, vB false), (7, vV j1), (8, vV jZ), (9, vI i85), (10, vV kF), (11, vI ov), (33, vV wI), (34, .val (.agg [.list ja aair2, .list jb adis4])), (35, .val (.list ji b6)), (36, .val (.agg [.int .i64 wk, .str wj, .int .i64 j2, .int .i64 jp, .int .i64 jL, .int .i64 jq, .int .i64 wa, .str wb, .list jS cleg18])), (37, vV wI), (38, vV j1), (39, vV jZ), (59, .val (.list ji b6)), (60, vV j1), (61, .val (.list ji b6)), (62, vI i85), (63, .cptr c133 0), (64, .cptr c133 0), (65, vV oC), (66, .val (.list ji b6)), (67, vI i85), (68, .cptr c135 0), (69, .cptr c135 1), (70, vV oD), (71, .val (.list ji b6)), (72, vI i85), (73, .cptr c137 0), (74, .cptr c137 2), (75, .val (.agg [oz, oB, oE])), (76, vV kF)], [bx 112 [(3, some [.val (.list ja aair2), .val (.list jb adis4)]), (5, some [vI wk, vS wj, vI j2, vI jp, vI jL, vI jq, vI wa, vS wb, .val (.list jS cleg18)])]], KK⟩)
noncomputable def Qix (lb n vU : Nat) (ja : Bool) (aair2 : LL) (jb : Bool) (adis4 : LL) (ji : Bool) (b6 : LL) (wk : Int) (wj : LB) (j2 jp jL jq wa : Int) (wb : LB) (jS : Bool) (cleg18 : LL) (j1 jZ : CV) (i85 : Int) (wI n4 : CV) (nQ : Int) : Option CV :=
 hold (E0 lb n 0 988 (sub (B Qap) [1, 1, 1, 1, 1, 1, 0, 1, 0, 0, 1, 1]) (Qbs 0 (Qad (sub (B Qap) [1, 1, 1, 1, 1, 1, 0, 1, 0, 0]) ++ [10, 11, 11]) [] (Qas (E0 lb n 0 990) 0 (Qad (sub (B Qap) [1, 1, 1, 1, 1, 1, 0, 1, 0, 0]) ++ [10, 11, 11]) [] (sub (B Qap) [1, 1, 1, 1, 1, 1, 0, 1, 0, 0]) (Qaj 0 (seqK (E0 lb n 0 993) (sub (B Qap) [1, 1, 1, 1, 1, 1, 0]) (sub (B Qap) [1, 1, 1, 1, 1, 1, 1]) (retK Tryz.prog (R Qap) 0 (outK (Qag Tryz.prog Qap))))) vU) (Qaj 0 (seqK (E0 lb n 0 993) (sub (B Qap) [1, 1, 1, 1, 1, 1, 0]) (sub (B Qap) [1, 1, 1, 1, 1, 1, 1]) (retK Tryz.prog (R Qap) 0 (outK (Qag Tryz.prog Qap)))))) ⟨fr 112 [(0, .val (.agg [.list ja aair2, .list jb adis4])), (1, .val (.list ji b6)), (2, .val (.agg [.int .i64 wk, .str wj, .int .i64 j2, .int .i64 jp, .int .i64 jL, .int .i64 jq, .int .i64 wa, .str wb, .list jS cleg18])), (3, .ptr 0 3 0), (5, .ptr 0 5 0), (6, vB false), (7, vV j1), (8, vV jZ), (9, vI i85), (10, vV n4), (11, vI nQ), (33, vV wI), (34, .val (.agg [.list ja aair2, .list jb adis4])), (35, .val (.list ji b6)), (36, .val (.agg [.int .i64 wk, .str wj, .int .i64 j2, .int .i64 jp, .int .i64 jL, .int .i64 jq, .int .i64 wa, .str wb, .list jS cleg18])), (37, vV wI), (38, vV j1), (39, vV jZ)], [bx 112 [(3, some [.val (.list ja aair2), .val (.list jb adis4)]), (5, some [vI wk, vS wj, vI j2, vI jp, vI jL, vI jq, vI wa, vS wb, .val (.list jS cleg18)])]], KK⟩)
theorem Qlc (lb n vU : Nat) (ja : Bool) (aair2 : LL) (jb : Bool) (adis4 : LL) (ji : Bool) (b6 : LL) (wk : Int) (wj : LB) (j2 jp jL jq wa : Int) (wb : LB) (jS : Bool) (cleg18 : LL) (j1 jZ : CV) (i85 : Int) (wI n4 : CV) (nQ : Int) :
 Qix lb n vU ja aair2 jb adis4 ji b6 wk wj j2 jp jL jq wa wb jS cleg18 j1 jZ i85 wI n4 nQ =
 Qdy lb n vU ja aair2 jb adis4 ji b6 wk wj j2 jp jL jq wa wb jS cleg18 j1 jZ wI (IntKind.wrap .i64 (i85 + 1)) := (Qaf _).trans (by kernel_rfl)
theorem Qgj (lb n mu vU : Nat) (ja : Bool) (aair2 : LL) (jb : Bool) (adis4 : LL) (ji : Bool) (b6 : LL) (wk : Int) (wj : LB) (j2 jp jL jq wa : Int) (wb : LB) (jS : Bool) (cleg18 : LL) (j1 jZ : CV) (i85 : Int) (kF wI : CV) (c133 : List CV) (oC : CV) (c135 : List CV) (oD : CV) (c137 : List CV) (oz oB oE : CV) (ov : Int) :
 Qen lb n (mu + 1) vU ja aair2 jb adis4 ji b6 wk wj j2 jp jL jq wa wb jS cleg18 j1 jZ i85 kF wI c133 oC c135 oD c137 oz oB oE ov =
 optO (CV.asL kF) fun qT =>
 bif (decide (ov < (qT.2.length : Int))) then
 (optO (atL b6 i85) fun c169 =>
 chkO (c169.length == 6) (
 optO (c169[0]?) fun s7 =>
 optO (CV.asS s7) fun sI =>
 bif (!(sI == wj)) then
 (some (.bool false))
 else
 (optO (atL b6 i85) fun c172 =>
 chkO (c172.length == 6) (
 optO (c172[1]?) fun zh =>
 optO (CV.asI .i64 zh) fun qW =>
 bif (qW != j2) then
 (some (.bool false))
 else
 (optO (CV.asL kF) fun sC =>
 optO (atL sC.2 ov) fun c176 =>
 chkO (c176.length == 1) (
 optO (c176[0]?) fun sZ =>
 optO (C lb n QfA [.agg [.int .i64 jp, .int .i64 jL, .int .i64 jq], sZ]) fun qO =>
 optO (CV.asB qO) fun sK =>
 bif (!sK) then
 (some (.bool false))
 else
 (Qen lb n mu vU ja aair2 jb adis4 ji b6 wk wj j2 jp jL jq wa wb jS cleg18 j1 jZ i85 kF wI c133 oC c135 oD c137 oz oB oE (IntKind.wrap .i64 (ov + 1)))))))))
 else
 (Qix lb n vU ja aair2 jb adis4 ji b6 wk wj j2 jp jL jq wa wb jS cleg18 j1 jZ i85 wI kF ov) := (Qaf _).trans (by kernel_rfl)
noncomputable def Qiv (lb n : Nat) (ja : Bool) (aair2 : LL) (jb : Bool) (adis4 : LL) (ji : Bool) (b6 : LL) (wk : Int) (wj : LB) (j2 jp jL jq wa : Int) (wb : LB) (jS : Bool) (cleg18 : LL) (j1 jZ wI : CV) (nJ : Int) : Option CV :=
 hold (E0 lb n 0 993 (sub (B Qap) [1, 1, 1, 1, 1, 1, 1]) (retK Tryz.prog (R Qap) 0 (outK (Qag Tryz.prog Qap))) ⟨fr 112 [(0, .val (.agg [.list ja aair2, .list jb adis4])), (1, .val (.list ji b6)), (2, .val (.agg [.int .i64 wk, .str wj, .int .i64 j2, .int .i64 jp, .int .i64 jL, .int .i64 jq, .int .i64 wa, .str wb, .list jS cleg18])), (3, .ptr 0 3 0), (5, .ptr 0 5 0), (6, vB false), (7, vV j1), (8, vV jZ), (9, vI nJ), (33, vV wI), (34, .val (.agg [.list ja aair2, .list jb adis4])), (35, .val (.list ji b6)), (36, .val (.agg [.int .i64 wk, .str wj, .int .i64 j2, .int .i64 jp, .int .i64 jL, .int .i64 jq, .int .i64 wa, .str wb, .list jS cleg18])), (37, vV wI), (38, vV j1), (39, vV jZ)], [bx 112 [(3, some [.val (.list ja aair2), .val (.list jb adis4)]), (5, some [vI wk, vS wj, vI j2, vI jp, vI jL, vI jq, vI wa, vS wb, .val (.list jS cleg18)])]], KK⟩)
theorem Qlq (lb n : Nat) (ja : Bool) (aair2 : LL) (jb : Bool) (adis4 : LL) (ji : Bool) (b6 : LL) (wk : Int) (wj : LB) (j2 jp jL jq wa : Int) (wb : LB) (jS : Bool) (cleg18 : LL) (j1 jZ wI : CV) (nJ : Int) :
 Qiv lb n ja aair2 jb adis4 ji b6 wk wj j2 jp jL jq wa wb jS cleg18 j1 jZ wI nJ =
 optO (C lb n Qdc []) fun sH =>
 some (sH) := (Qaf _).trans (by kernel_rfl)
theorem Qf9 (lb n vU : Nat) (ja : Bool) (aair2 : LL) (jb : Bool) (adis4 : LL) (ji : Bool) (b6 : LL) (wk : Int) (wj : LB) (j2 jp jL jq wa : Int) (wb : LB) (jS : Bool) (cleg18 : LL) (j1 jZ wI : CV) (i85 : Int) :
 Qdy lb n (vU + 1) ja aair2 jb adis4 ji b6 wk wj j2 jp jL jq wa wb jS cleg18 j1 jZ wI i85 =
 bif (decide (i85 < (b6.length : Int))) then
 (optO (atL b6 i85) fun c133 =>
 chkO (c133.length == 6) (
 optO (c133[0]?) fun oC =>
 optO (atL b6 i85) fun c135 =>
 chkO (c135.length == 6) (
 optO (c135[1]?) fun oD =>
 optO (atL b6 i85) fun c137 =>
 chkO (c137.length == 6) (
 optO (c137[2]?) fun oz =>
 optO (c137[3]?) fun oB =>
 optO (c137[4]?) fun oE =>
 optO (C lb n Qbh [.list ji b6, j1, oC, oD, .agg [oz, oB, oE]]) fun kF =>
 Qen lb n n vU ja aair2 jb adis4 ji b6 wk wj j2 jp jL jq wa wb jS cleg18 j1 jZ i85 kF wI c133 oC c135 oD c137 oz oB oE 0))))
 else
 (Qiv lb n ja aair2 jb adis4 ji b6 wk wj j2 jp jL jq wa wb jS cleg18 j1 jZ wI i85) := (Qaf _).trans (by kernel_rfl)
theorem QcX (lb n : Nat) (ja : Bool) (aair2 : LL) (jb : Bool) (adis4 : LL) (ji : Bool) (b6 : LL) (wk : Int) (wj : LB) (j2 jp jL jq wa : Int) (wb : LB) (jS : Bool) (cleg18 : LL) :
 top lb n Qap [.agg [.list ja aair2, .list jb adis4], .list ji b6, .agg [.int .i64 wk, .str wj, .int .i64 j2, .int .i64 jp, .int .i64 jL, .int .i64 jq, .int .i64 wa, .str wb, .list jS cleg18]] =
 optO (C lb n Qf5 [.agg [.list ja aair2, .list jb adis4]]) fun vP =>
 optO (CV.asB vP) fun lP =>
 bif (!lP) then
 (optO (C lb n Qdc []) fun m5 =>
 some (m5))
 else
 (bif (decide ((b6.length : Int) > 8)) then
 (optO (C lb n Qdc []) fun qq =>
 some (qq))
 else
 (bif (decide ((cleg18.length : Int) > 8)) then
 (optO (C lb n Qdc []) fun w5 =>
 some (w5))
 else
 (optO (C lb n Qah [.agg [.list ja aair2, .list jb adis4], .list ji b6]) fun vO =>
 optO (CV.asL vO) fun kA =>
 bif (decide ((kA.2.length : Int) > 0)) then
 (optO (C lb n Qdc []) fun zu =>
 some (zu))
 else
 (optO (C lb n Qbl [.agg [.list ja aair2, .list jb adis4], .list ji b6, .agg [.int .i64 wk, .str wj, .int .i64 j2, .int .i64 jp, .int .i64 jL, .int .i64 jq, .int .i64 wa, .str wb, .list jS cleg18]]) fun wI =>
 optO (CV.asT wI) fun pV =>
 optO (pV[0]?) fun j1 =>
 optO (CV.asT wI) fun pQ =>
 optO (pQ[1]?) fun jZ =>
 optO (CV.asI .i64 jZ) fun nd =>
 bif (nd != 0) then
 (optO (CV.asL j1) fun zC =>
 bif ((zC.2.length : Int) == 0) then
 (optO (C lb n Qdc []) fun lT =>
 some (lT))
 else
 (some (.bool false)))
 else
 (optO (C lb n Qac [.agg [.list ja aair2, .list jb adis4], j1]) fun gP =>
 optO (CV.asL gP) fun qe =>
 bif (decide ((qe.2.length : Int) > 0)) then
 (some (.bool false))
 else
 (Qdy lb n n ja aair2 jb adis4 ji b6 wk wj j2 jp jL jq wa wb jS cleg18 j1 jZ wI 0)))))) := by kernel_rfl
theorem QfB (lb n : Nat) (ja : Bool) (aair2 : LL) (jb : Bool) (adis4 : LL) :
 top lb n Qf5 [.agg [.list ja aair2, .list jb adis4]] =
 bif (decide ((aair2.length : Int) ≤ 12)) then
 (bif (decide ((adis4.length : Int) ≤ 20)) then
 (optO (C lb n Qam [.agg [.list ja aair2, .list jb adis4]]) fun r5 =>
 optO (CV.asL r5) fun p6 =>
 some (.bool ((p6.2.length : Int) == 0)))
 else
 (some (.bool false)))
 else
 (some (.bool false)) := by kernel_rfl
end Go.Proofs
