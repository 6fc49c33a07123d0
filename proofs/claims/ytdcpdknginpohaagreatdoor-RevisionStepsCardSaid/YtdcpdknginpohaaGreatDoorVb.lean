/- Equations of functions, printed by program. Conditions: none. -/
import Derived.Test.YtdcpdknginpohaaGreatDoorEv
namespace Go.Proofs
open Go.Am
set_option maxRecDepth 100000
set_option linter.unusedVariables false
theorem QmA (lb n) (js : LB) (jr jh jj ji : Int) (jq) (aleg7 : LL) (j9 : Int) (jJ : LB) (jH jk jo jl jB : Int) (jD : LB) (jx) (jI : LL) :
 top lb n Qef [.agg [.str js, .int .i64 jr, .int .i64 jh, .int .i64 jj, .int .i64 ji, .list jq aleg7], .agg [.int .i64 j9, .str jJ, .int .i64 jH, .int .i64 jk, .int .i64 jo, .int .i64 jl, .int .i64 jB, .str jD, .list jx jI]] =
 bif (!(js == jJ)) then
 (some (.bool false))
 else
 (bif (jr != jH) then
 (some (.bool false))
 else
 (optO (C lb n Qgr [.agg [.int .i64 jh, .int .i64 jj, .int .i64 ji], .agg [.int .i64 jk, .int .i64 jo, .int .i64 jl]]) fun wZ =>
 optO (CV.asT wZ) fun t21 =>
 optO (t21[0]?) fun wC =>
 optO (CV.asT wZ) fun nZ =>
 optO (nZ[1]?) fun yf =>
 optO (CV.asA wC) fun c25 =>
 chkO (c25.length == 3) (
 optO (c25[0]?) fun w8 =>
 optO (c25[1]?) fun wA =>
 optO (c25[2]?) fun yc =>
 some (yf)))) := by kernel_rfl
theorem QrJ (lb n) (js : LB) (jr jh jj ji : Int) (jq) (aleg7 : LL) (j9 : Int) (jJ : LB) (jH jk jo jl jB : Int) (jD : LB) (jx) (jI : LL) :
 top lb n Qis [.agg [.str js, .int .i64 jr, .int .i64 jh, .int .i64 jj, .int .i64 ji, .list jq aleg7], .agg [.int .i64 j9, .str jJ, .int .i64 jH, .int .i64 jk, .int .i64 jo, .int .i64 jl, .int .i64 jB, .str jD, .list jx jI]] =
 optO (C lb n Qb6 [.agg [.int .i64 jh, .int .i64 jj, .int .i64 ji], .agg [.int .i64 jk, .int .i64 jo, .int .i64 jl]]) fun wZ =>
 optO (CV.asT wZ) fun t21 =>
 optO (t21[0]?) fun wC =>
 optO (CV.asT wZ) fun nZ =>
 optO (nZ[1]?) fun yf =>
 optO (CV.asA wC) fun c25 =>
 chkO (c25.length == 3) (
 optO (c25[0]?) fun w8 =>
 optO (c25[1]?) fun wA =>
 optO (c25[2]?) fun yc =>
 optO (CV.asB yf) fun mq =>
 bif mq then
 (bif (js == jJ) then
 (some (.bool (jr == jH)))
 else
 (some (.bool false)))
 else
 (some (.bool false))) := by kernel_rfl
theorem QtV (lb n) (js : LB) (jr jh jj ji : Int) (jq) (aleg7 : LL) (oF : LB) (od vw ko vR : Int) (oa) (oz : LL) :
 top lb n QkF [.agg [.str js, .int .i64 jr, .int .i64 jh, .int .i64 jj, .int .i64 ji, .list jq aleg7], .agg [.str oF, .int .i64 od, .int .i64 vw, .int .i64 ko, .int .i64 vR, .list oa oz]] =
 optO (C lb n Qb6 [.agg [.int .i64 jh, .int .i64 jj, .int .i64 ji], .agg [.int .i64 vw, .int .i64 ko, .int .i64 vR]]) fun mH =>
 optO (CV.asT mH) fun rh =>
 optO (rh[0]?) fun yl =>
 optO (CV.asT mH) fun t20 =>
 optO (t20[1]?) fun yq =>
 optO (CV.asA yl) fun c22 =>
 chkO (c22.length == 3) (
 optO (c22[0]?) fun x23 =>
 optO (c22[1]?) fun yf =>
 optO (c22[2]?) fun wn =>
 bif (js == oF) then
 (bif (jr == od) then
 (some (yq))
 else
 (some (.bool false)))
 else
 (some (.bool false))) := by kernel_rfl
noncomputable def r10_Big_L1 :=
 fun lb n (pM : Nat) (ja : Bool) (aair2 : LL) (jb : Bool) (adis4 : LL) (jy : Bool) (b6 : LL) yG =>
 hold (Qar (E0 lb n 0 994) 0 (Qad (sub (B Qc4) [1, 1, 0, 1, 0, 0]) ++ []) [] (sub (B Qc4) [1, 1, 0, 1, 0, 0]) (Qaj 0 (seqK (E0 lb n 0 997) (sub (B Qc4) [1, 1, 0]) (sub (B Qc4) [1, 1, 1]) (retK Tryz.prog (R Qc4) 0 (outK (Qaf Tryz.prog Qc4))))) pM ⟨fr 33 [(0, .val (.agg [.list ja aair2, .list jb adis4])), (1, .val (.list jy b6)), (2, .ptr 0 2 0), (4, vB false), (5, vI yG)], [bx 33 [(2, some [.val (.list ja aair2), .val (.list jb adis4)])]], KK⟩)
noncomputable def Qqq (lb n : Nat) (ja : Bool) (aair2 : LL) (jb : Bool) (adis4 : LL) (jy : Bool) (b6 : LL) (oC : Int) : Option CV :=
 hold (E0 lb n 0 997 (sub (B Qc4) [1, 1, 1]) (retK Tryz.prog (R Qc4) 0 (outK (Qaf Tryz.prog Qc4))) ⟨fr 33 [(0, .val (.agg [.list ja aair2, .list jb adis4])), (1, .val (.list jy b6)), (2, .ptr 0 2 0), (4, vB false), (5, vI oC)], [bx 33 [(2, some [.val (.list ja aair2), .val (.list jb adis4)])]], KK⟩)
theorem Qtm (lb n : Nat) (ja : Bool) (aair2 : LL) (jb : Bool) (adis4 : LL) (jy : Bool) (b6 : LL) (oC : Int) :
 Qqq lb n ja aair2 jb adis4 jy b6 oC =
 some (.bool false) := (Qac _).trans (by kernel_rfl)
theorem Qkb (lb n pM : Nat) (ja : Bool) (aair2 : LL) (jb : Bool) (adis4 : LL) (jy : Bool) (b6 : LL) (yG : Int) :
 r10_Big_L1 lb n (pM + 1) ja aair2 jb adis4 jy b6 yG =
 bif (decide (yG < (b6.length : Int))) then
 (optO (atL b6 yG) fun c29 =>
 chkO (c29.length == 6) (
 optO (c29[0]?) fun yp =>
 optO (c29[1]?) fun wN =>
 optO (c29[2]?) fun ya =>
 optO (c29[3]?) fun wY =>
 optO (c29[4]?) fun yF =>
 optO (c29[5]?) fun yN =>
 optO (C lb n Qcw [.agg [.list ja aair2, .list jb adis4], .agg [yp, wN, ya, wY, yF, yN]]) fun n0 =>
 optO (CV.asB n0) fun lR =>
 bif lR then
 (some (.bool true))
 else
 (r10_Big_L1 lb n pM ja aair2 jb adis4 jy b6 (IntKind.wrap .i64 (yG + 1)))))
 else
 (Qqq lb n ja aair2 jb adis4 jy b6 yG) := (Qac _).trans (by kernel_rfl)
theorem QiR (lb n : Nat) (ja : Bool) (aair2 : LL) (jb : Bool) (adis4 : LL) (jy : Bool) (b6 : LL) :
 top lb n Qc4 [.agg [.list ja aair2, .list jb adis4], .list jy b6] =
 bif (decide ((b6.length : Int) > 12)) then
 (some (.bool true))
 else
 (bif (decide ((aair2.length : Int) > 20)) then
 (some (.bool true))
 else
 (bif (decide ((adis4.length : Int) > 40)) then
 (some (.bool true))
 else
 (r10_Big_L1 lb n n ja aair2 jb adis4 jy b6 0))) := by kernel_rfl
theorem QtM (lb n : Nat) (qT : Int) (pG : LB) (qU pr qj po qS : Int) (aequ9 : LB) (mC : Bool) (nY : LL) :
 top lb n Qky [.agg [.int .i64 qT, .str pG, .int .i64 qU, .int .i64 pr, .int .i64 qj, .int .i64 po, .int .i64 qS, .str aequ9, .list mC nY]] =
 bif (decide ((aequ9.length : Int) ≤ 100)) then
 (optO (C lb n Qcw [.agg [.list true [], .list true []], .agg [.str pG, .int .i64 0, .int .i64 0, .int .i64 0, .int .i64 0, .list mC nY]]) fun yJ =>
 optO (CV.asB yJ) fun kU =>
 some (.bool (!kU)))
 else
 (some (.bool false)) := by kernel_rfl
theorem Qju (lb n : Nat) (ja : Bool) (aair2 : LL) (jb : Bool) (adis4 : LL) (jy : Bool) (b6 : LL) :
 top lb n QkA [.agg [.list ja aair2, .list jb adis4], .list jy b6] =
 optO (C lb n Qc4 [.agg [.list ja aair2, .list jb adis4], .list jy b6]) fun r7 =>
 optO (CV.asB r7) fun b9 =>
 bif (!b9) then
 (optO (C lb n Qal [.agg [.list ja aair2, .list jb adis4]]) fun gj =>
 optO (CV.asL gj) fun rC =>
 bif ((rC.2.length : Int) == 0) then
 (optO (C lb n Qag [.agg [.list ja aair2, .list jb adis4], .list jy b6]) fun yJ =>
 optO (CV.asL yJ) fun rj =>
 some (.bool ((rj.2.length : Int) == 0)))
 else
 (some (.bool false)))
 else
 (some (.bool false)) := by kernel_rfl
noncomputable def QfT (lb n o8 : Nat) (wb : Bool) (a2 : LL) (vD : Bool) (b4 : LL) (oe : Int) : Option CV :=
 hold (Qar (E0 lb n 0 994) 0 (Qad (sub (B QbR) [1, 1, 0, 1, 0, 0]) ++ []) [] (sub (B QbR) [1, 1, 0, 1, 0, 0]) (Qaj 0 (seqK (E0 lb n 0 997) (sub (B QbR) [1, 1, 0]) (sub (B QbR) [1, 1, 1]) (retK Tryz.prog (R QbR) 0 (outK (Qaf Tryz.prog QbR))))) o8 ⟨fr 27 [(0, .val (.list wb a2)), (1, .val (.list vD b4)), (4, vB false), (5, vI oe)], [bx 27 []], KK⟩)
noncomputable def QkR (lb n : Nat) (wb : Bool) (a2 : LL) (vD : Bool) (b4 : LL) (qI : Int) : Option CV :=
 hold (E0 lb n 0 997 (sub (B QbR) [1, 1, 1]) (retK Tryz.prog (R QbR) 0 (outK (Qaf Tryz.prog QbR))) ⟨fr 27 [(0, .val (.list wb a2)), (1, .val (.list vD b4)), (4, vB false), (5, vI qI)], [bx 27 []], KK⟩)
theorem Qn9 (lb n : Nat) (wb : Bool) (a2 : LL) (vD : Bool) (b4 : LL) (qI : Int) :
 QkR lb n wb a2 vD b4 qI =
 some (.bool true) := (Qac _).trans (by kernel_rfl)
theorem Qhh (lb n o8 : Nat) (wb : Bool) (a2 : LL) (vD : Bool) (b4 : LL) (oe : Int) :
 QfT lb n (o8 + 1) wb a2 vD b4 oe =
 bif (decide (oe < (a2.length : Int))) then
 (optO (atL a2 oe) fun c42 =>
 chkO (c42.length == 6) (
 optO (c42[0]?) fun oW =>
 optO (c42[1]?) fun oN =>
 optO (c42[2]?) fun n7 =>
 optO (c42[3]?) fun nI =>
 optO (c42[4]?) fun pc =>
 optO (c42[5]?) fun mt =>
 optO (atL b4 oe) fun c49 =>
 chkO (c49.length == 6) (
 optO (c49[0]?) fun k5 =>
 optO (c49[1]?) fun me =>
 optO (c49[2]?) fun kO =>
 optO (c49[3]?) fun gm =>
 optO (c49[4]?) fun vz =>
 optO (c49[5]?) fun yX =>
 optO (C lb n QlL [.agg [oW, oN, n7, nI, pc, mt], .agg [k5, me, kO, gm, vz, yX]]) fun kV =>
 optO (CV.asB kV) fun n5 =>
 bif (!n5) then
 (some (.bool false))
 else
 (QfT lb n o8 wb a2 vD b4 (IntKind.wrap .i64 (oe + 1))))))
 else
 (QkR lb n wb a2 vD b4 oe) := (Qac _).trans (by kernel_rfl)
theorem QrA (lb n : Nat) (wb : Bool) (a2 : LL) (vD : Bool) (b4 : LL) :
 top lb n QbR [.list wb a2, .list vD b4] =
 bif ((a2.length : Int) != (b4.length : Int)) then
 (some (.bool false))
 else
 (QfT lb n n wb a2 vD b4 0) := by kernel_rfl
noncomputable def QgL (lb n yu : Nat) (ja : Bool) (aair2 : LL) (jb : Bool) (adis4 : LL) (jy : Bool) (b6 : LL) (ot : Bool) (oY : LL) (yo : Int) : Option CV :=
 hold (Qar (E0 lb n 0 994) 0 (Qad (sub (B Qag) [1, 1, 0, 1, 0, 0]) ++ [7, 8, 9, 9, 10, 11, 10, 11]) [] (sub (B Qag) [1, 1, 0, 1, 0, 0]) (Qaj 0 (seqK (E0 lb n 0 997) (sub (B Qag) [1, 1, 0]) (sub (B Qag) [1, 1, 1]) (retK Tryz.prog (R Qag) 0 (outK (Qaf Tryz.prog Qag))))) yu ⟨fr 74 [(0, .val (.agg [.list ja aair2, .list jb adis4])), (1, .val (.list jy b6)), (2, .ptr 0 2 0), (4, .lst true true 83 []), (5, .lst true ot 83 oY), (6, vI yo)], [bx 74 [(2, some [.val (.list ja aair2), .val (.list jb adis4)])]], KK⟩)
noncomputable def QgO (lb n nv yu : Nat) (ja : Bool) (aair2 : LL) (jb : Bool) (adis4 : LL) (jy : Bool) (b6 : LL) (yo : Int) (s140 : LB) (yi yz : CV) (c141 : List CV) (y4 yQ y5 yP y9 y6 : CV) (yv : Bool) (l158 : LL) (oV : Int) : Option CV :=
 hold (Qar (E0 lb n 0 985) 0 (Qad (sub (B Qag) [1, 1, 0, 1, 0, 0, 1, 0, 0, 1, 1, 0, 1, 0, 0]) ++ []) [] (sub (B Qag) [1, 1, 0, 1, 0, 0, 1, 0, 0, 1, 1, 0, 1, 0, 0]) (Qaj 2 (seqK (E0 lb n 0 988) (sub (B Qag) [1, 1, 0, 1, 0, 0, 1, 0, 0, 1, 1, 0]) (sub (B Qag) [1, 1, 0, 1, 0, 0, 1, 0, 0, 1, 1, 1]) (Qaj 1 (seqK (E0 lb n 0 992) (sub (B Qag) [1, 1, 0, 1, 0, 0, 1, 0]) (sub (B Qag) [1, 1, 0, 1, 0, 0, 1, 1]) (QbK 0 (Qad (sub (B Qag) [1, 1, 0, 1, 0, 0]) ++ [7, 8, 9, 9, 10, 11, 10, 11]) [] (Qar (E0 lb n 0 994) 0 (Qad (sub (B Qag) [1, 1, 0, 1, 0, 0]) ++ [7, 8, 9, 9, 10, 11, 10, 11]) [] (sub (B Qag) [1, 1, 0, 1, 0, 0]) (Qaj 0 (seqK (E0 lb n 0 997) (sub (B Qag) [1, 1, 0]) (sub (B Qag) [1, 1, 1]) (retK Tryz.prog (R Qag) 0 (outK (Qaf Tryz.prog Qag))))) yu) (Qaj 0 (seqK (E0 lb n 0 997) (sub (B Qag) [1, 1, 0]) (sub (B Qag) [1, 1, 1]) (retK Tryz.prog (R Qag) 0 (outK (Qaf Tryz.prog Qag)))))))))) nv ⟨fr 74 [(0, .val (.agg [.list ja aair2, .list jb adis4])), (1, .val (.list jy b6)), (2, .ptr 0 2 0), (4, .lst true true 83 []), (5, .lst true yv 83 l158), (6, vI yo), (7, .val (.str (([102, 108, 105, 103, 104, 116, 32] : LB) ++ s140))), (8, vV yi), (9, vI oV), (18, vI yo), (19, vV yz), (20, .val (.str (([102, 108, 105, 103, 104, 116, 32] : LB) ++ s140))), (21, .val (.agg [.list ja aair2, .list jb adis4])), (22, .val (.list jy b6)), (23, vI yo), (24, .cptr c141 0), (25, .val (.agg [y4, yQ, y5, yP, y9, y6])), (26, vV yi)], [bx 74 [(2, some [.val (.list ja aair2), .val (.list jb adis4)])]], KK⟩)
noncomputable def Qjn (lb n yu : Nat) (ja : Bool) (aair2 : LL) (jb : Bool) (adis4 : LL) (jy : Bool) (b6 : LL) (yo : Int) (s140 : LB) (yi yz : CV) (c141 : List CV) (y4 yQ y5 yP y9 y6 : CV) (vW : Bool) (l178 : LL) (vi : Int) : Option CV :=
 hold (E0 lb n 0 988 (sub (B Qag) [1, 1, 0, 1, 0, 0, 1, 0, 0, 1, 1, 1]) (Qaj 1 (seqK (E0 lb n 0 992) (sub (B Qag) [1, 1, 0, 1, 0, 0, 1, 0]) (sub (B Qag) [1, 1, 0, 1, 0, 0, 1, 1]) (QbK 0 (Qad (sub (B Qag) [1, 1, 0, 1, 0, 0]) ++ [7, 8, 9, 9, 10, 11, 10, 11]) [] (Qar (E0 lb n 0 994) 0 (Qad (sub (B Qag) [1, 1, 0, 1, 0, 0]) ++ [7, 8, 9, 9, 10, 11, 10, 11]) [] (sub (B Qag) [1, 1, 0, 1, 0, 0]) (Qaj 0 (seqK (E0 lb n 0 997) (sub (B Qag) [1, 1, 0]) (sub (B Qag) [1, 1, 1]) (retK Tryz.prog (R Qag) 0 (outK (Qaf Tryz.prog Qag))))) yu) (Qaj 0 (seqK (E0 lb n 0 997) (sub (B Qag) [1, 1, 0]) (sub (B Qag) [1, 1, 1]) (retK Tryz.prog (R Qag) 0 (outK (Qaf Tryz.prog Qag)))))))) ⟨fr 74 [(0, .val (.agg [.list ja aair2, .list jb adis4])), (1, .val (.list jy b6)), (2, .ptr 0 2 0), (4, .lst true true 83 []), (5, .lst true vW 83 l178), (6, vI yo), (7, .val (.str (([102, 108, 105, 103, 104, 116, 32] : LB) ++ s140))), (8, vV yi), (9, vI vi), (18, vI yo), (19, vV yz), (20, .val (.str (([102, 108, 105, 103, 104, 116, 32] : LB) ++ s140))), (21, .val (.agg [.list ja aair2, .list jb adis4])), (22, .val (.list jy b6)), (23, vI yo), (24, .cptr c141 0), (25, .val (.agg [y4, yQ, y5, yP, y9, y6])), (26, vV yi)], [bx 74 [(2, some [.val (.list ja aair2), .val (.list jb adis4)])]], KK⟩)
noncomputable def QfN (lb n my yu : Nat) (ja : Bool) (aair2 : LL) (jb : Bool) (adis4 : LL) (jy : Bool) (b6 : LL) (vW : Bool) (l178 : LL) (yo : Int) (s140 : LB) (yi : CV) (vi : Int) (yz : CV) (c141 : List CV) (y4 yQ y5 yP y9 y6 mz : CV) (oX : Int) : Option CV :=
 hold (Qar (E0 lb n 0 983) 0 (Qad (sub (B Qag) [1, 1, 0, 1, 0, 0, 1, 0, 0, 1, 1, 1, 1, 0, 1, 0, 0]) ++ []) [] (sub (B Qag) [1, 1, 0, 1, 0, 0, 1, 0, 0, 1, 1, 1, 1, 0, 1, 0, 0]) (Qaj 4 (seqK (E0 lb n 0 986) (sub (B Qag) [1, 1, 0, 1, 0, 0, 1, 0, 0, 1, 1, 1, 1, 0]) (sub (B Qag) [1, 1, 0, 1, 0, 0, 1, 0, 0, 1, 1, 1, 1, 1]) (Qaj 1 (seqK (E0 lb n 0 992) (sub (B Qag) [1, 1, 0, 1, 0, 0, 1, 0]) (sub (B Qag) [1, 1, 0, 1, 0, 0, 1, 1]) (QbK 0 (Qad (sub (B Qag) [1, 1, 0, 1, 0, 0]) ++ [7, 8, 9, 9, 10, 11, 10, 11]) [] (Qar (E0 lb n 0 994) 0 (Qad (sub (B Qag) [1, 1, 0, 1, 0, 0]) ++ [7, 8, 9, 9, 10, 11, 10, 11]) [] (sub (B Qag) [1, 1, 0, 1, 0, 0]) (Qaj 0 (seqK (E0 lb n 0 997) (sub (B Qag) [1, 1, 0]) (sub (B Qag) [1, 1, 1]) (retK Tryz.prog (R Qag) 0 (outK (Qaf Tryz.prog Qag))))) yu) (Qaj 0 (seqK (E0 lb n 0 997) (sub (B Qag) [1, 1, 0]) (sub (B Qag) [1, 1, 1]) (retK Tryz.prog (R Qag) 0 (outK (Qaf Tryz.prog Qag)))))))))) my ⟨fr 74 [(0, .val (.agg [.list ja aair2, .list jb adis4])), (1, .val (.list jy b6)), (2, .ptr 0 2 0), (4, .lst true true 83 []), (5, .lst true vW 83 l178), (6, vI yo), (7, .val (.str (([102, 108, 105, 103, 104, 116, 32] : LB) ++ s140))), (8, vV yi), (9, vI vi), (10, vV mz), (11, vI oX), (18, vI yo), (19, vV yz), (20, .val (.str (([102, 108, 105, 103, 104, 116, 32] : LB) ++ s140))), (21, .val (.agg [.list ja aair2, .list jb adis4])), (22, .val (.list jy b6)), (23, vI yo), (24, .cptr c141 0), (25, .val (.agg [y4, yQ, y5, yP, y9, y6])), (26, vV yi)], [bx 74 [(2, some [.val (.list ja aair2), .val (.list jb adis4)])]], KK⟩)
noncomputable def Qjx (lb n yu : Nat) (ja : Bool) (aair2 : LL) (jb : Bool) (adis4 : LL) (jy : Bool) (b6 : LL) (vW : Bool) (l178 : LL) (yo : Int) (s140 : LB) (yi : CV) (vi : Int) (yz : CV) (c141 : List CV) (y4 yQ y5 yP y9 y6 gC : CV) (gV : Int) : Option CV :=
 hold (E0 lb n 0 986 (sub (B Qag) [1, 1, 0, 1, 0, 0, 1, 0, 0, 1, 1, 1, 1, 1]) (Qaj 1 (seqK (E0 lb n 0 992) (sub (B Qag) [1, 1, 0, 1, 0, 0, 1, 0]) (sub (B Qag) [1, 1, 0, 1, 0, 0, 1, 1]) (QbK 0 (Qad (sub (B Qag) [1, 1, 0, 1, 0, 0]) ++ [7, 8, 9, 9, 10, 11, 10, 11]) [] (Qar (E0 lb n 0 994) 0 (Qad (sub (B Qag) [1, 1, 0, 1, 0, 0]) ++ [7, 8, 9, 9, 10, 11, 10, 11]) [] (sub (B Qag) [1, 1, 0, 1, 0, 0]) (Qaj 0 (seqK (E0 lb n 0 997) (sub (B Qag) [1, 1, 0]) (sub (B Qag) [1, 1, 1]) (retK Tryz.prog (R Qag) 0 (outK (Qaf Tryz.prog Qag))))) yu) (Qaj 0 (seqK (E0 lb n 0 997) (sub (B Qag) [1, 1, 0]) (sub (B Qag) [1, 1, 1]) (retK Tryz.prog (R Qag) 0 (outK (Qaf Tryz.prog Qag)))))))) ⟨fr 74 [(0, .val (.agg [.list ja aair2, .list jb adis4])), (1, .val (.list jy b6)), (2, .ptr 0 2 0), (4, .lst true true 83 []), (5, .lst true vW 83 l178), (6, vI yo), (7, .val (.str (([102, 108, 105, 103, 104, 116, 32] : LB) ++ s140))), (8, vV yi), (9, vI vi), (10, vV gC), (11, vI gV), (18, vI yo), (19, vV yz), (20, .val (.str (([102, 108, 105, 103, 104, 116, 32] : LB) ++ s140))), (21, .val (.agg [.list ja aair2, .list jb adis4])), (22, .val (.list jy b6)), (23, vI yo), (24, .cptr c141 0), (25, .val (.agg [y4, yQ, y5, yP, y9, y6])), (26, vV yi)], [bx 74 [(2, some [.val (.list ja aair2), .val (.list jb adis4)])]], KK⟩)
noncomputable def QjB (lb n yu : Nat) (ja : Bool) (aair2 : LL) (jb : Bool) (adis4 : LL) (jy : Bool) (b6 : LL) (yo : Int) (mM : Bool) (ny : LL) (pn : LB) (pB : CV) (pj : Int) (pu : CV) (pd : Int) : Option CV :=
 hold (E0 lb n 0 992 (sub (B Qag) [1, 1, 0, 1, 0, 0, 1, 1]) (QbK 0 (Qad (sub (B Qag) [1, 1, 0, 1, 0, 0]) ++ [7, 8, 9, 9, 10, 11, 10, 11]) [] (Qar (E0 lb n 0 994) 0 (Qad (sub (B Qag) [1, 1, 0, 1, 0, 0]) ++ [7, 8, 9, 9, 10, 11, 10, 11]) [] (sub (B Qag) [1, 1, 0, 1, 0, 0]) (Qaj 0 (seqK (E0 lb n 0 997) (sub (B Qag) [1, 1, 0]) (sub (B Qag) [1, 1, 1]) (retK Tryz.prog (R Qag) 0 (outK (Qaf Tryz.prog Qag))))) yu) (Qaj 0 (seqK (E0 lb n 0 997) (sub (B Qag) [1, 1, 0]) (sub (B Qag) [1, 1, 1]) (retK Tryz.prog (R Qag) 0 (outK (Qaf Tryz.prog Qag)))))) ⟨fr 74 [(0, .val (.agg [.list ja aair2, .list jb adis4])), (1, .val (.list jy b6)), (2, .ptr 0 2 0), (4, .lst true true 83 []), (5, .lst true mM 83 ny), (6, vI yo), (7, vS pn), (8, vV pB), (9, vI pj), (10, vV pu), (11, vI pd)], [bx 74 [(2, some [.val (.list ja aair2), .val (.list jb adis4)])]], KK⟩)
theorem QjZ (lb n yu : Nat) (ja : Bool) (aair2 : LL) (jb : Bool) (adis4 : LL) (jy : Bool) (b6 : LL) (yo : Int) (mM : Bool) (ny : LL) (pn : LB) (pB : CV) (pj : Int) (pu : CV) (pd : Int) :
 QjB lb n yu ja aair2 jb adis4 jy b6 yo mM ny pn pB pj pu pd =
 QgL lb n yu ja aair2 jb adis4 jy b6 mM ny (IntKind.wrap .i64 (yo + 1)) := (Qac _).trans (by kernel_rfl)
theorem Qq6 (lb n yu : Nat) (ja : Bool) (aair2 : LL) (jb : Bool) (adis4 : LL) (jy : Bool) (b6 : LL) (vW : Bool) (l178 : LL) (yo : Int) (s140 : LB) (yi : CV) (vi : Int) (yz : CV) (c141 : List CV) (y4 yQ y5 yP y9 y6 gC : CV) (gV : Int) :
 Qjx lb n yu ja aair2 jb adis4 jy b6 vW l178 yo s140 yi vi yz c141 y4 yQ y5 yP y9 y6 gC gV =
 optO (CV.asB gC) fun zG =>
 bif zG then
 (chkO (room (l178.length + 1) 24) (
 QjB lb n yu ja aair2 jb adis4 jy b6 yo (vW && false) (l178 ++ [[CV.int .i64 6, CV.str (([102, 108, 105, 103, 104, 116, 32] : LB) ++ s140)]]) (([102, 108, 105, 103, 104, 116, 32] : LB) ++ s140) yi vi gC gV))
 else
 (QjB lb n yu ja aair2 jb adis4 jy b6 yo vW l178 (([102, 108, 105, 103, 104, 116, 32] : LB) ++ s140) yi vi gC gV) := (Qac _).trans (by kernel_rfl)
theorem QiD (lb n my yu : Nat) (ja : Bool) (aair2 : LL) (jb : Bool) (adis4 : LL) (jy : Bool) (b6 : LL) (vW : Bool) (l178 : LL) (yo : Int) (s140 : LB) (yi : CV) (vi : Int) (yz : CV) (c141 : List CV) (y4 yQ y5 yP y9 y6 mz : CV) (oX : Int) :
 QfN lb n (my + 1) yu ja aair2 jb adis4 jy b6 vW l178 yo s140 yi vi yz c141 y4 yQ y5 yP y9 y6 mz oX =
 bif (decide (oX < yo)) then
 (optO (CV.asB mz) fun sQ =>
 bif sQ then
 (QfN lb n my yu ja aair2 jb adis4 jy b6 vW l178 yo s140 yi vi yz c141 y4 yQ y5 yP y9 y6 (.bool true) (IntKind.wrap .i64 (oX + 1)))
 else
 (optO (atL b6 oX) fun c215 =>
 chkO (c215.length == 6) (
 optO (c215[0]?) fun sc =>
 optO (c215[1]?) fun zy =>
 optO (c215[2]?) fun zB =>
 optO (c215[3]?) fun sf =>
 optO (c215[4]?) fun sH =>
 optO (c215[5]?) fun sP =>
 optO (atL b6 yo) fun c222 =>
 chkO (c222.length == 6) (
 optO (c222[0]?) fun lc =>
 optO (c222[1]?) fun z8 =>
 optO (c222[2]?) fun si =>
 optO (c222[3]?) fun s7 =>
 optO (c222[4]?) fun zF =>
 optO (c222[5]?) fun le =>
 optO (C lb n QkF [.agg [sc, zy, zB, sf, sH, sP], .agg [lc, z8, si, s7, zF, le]]) fun zJ =>
 QfN lb n my yu ja aair2 jb adis4 jy b6 vW l178 yo s140 yi vi yz c141 y4 yQ y5 yP y9 y6 zJ (IntKind.wrap .i64 (oX + 1))))))
 else
 (Qjx lb n yu ja aair2 jb adis4 jy b6 vW l178 yo s140 yi vi yz c141 y4 yQ y5 yP y9 y6 mz oX) := (Qac _).trans (by kernel_rfl)
theorem QqL (lb n yu : Nat) (ja : Bool) (aair2 : LL) (jb : Bool) (adis4 : LL) (jy : Bool) (b6 : LL) (yo : Int) (s140 : LB) (yi yz : CV) (c141 : List CV) (y4 yQ y5 yP y9 y6 : CV) (vW : Bool) (l178 : LL) (vi : Int) :
 Qjn lb n yu ja aair2 jb adis4 jy b6 yo s140 yi yz c141 y4 yQ y5 yP y9 y6 vW l178 vi =
 QfN lb n n yu ja aair2 jb adis4 jy b6 vW l178 yo s140 yi vi yz c141 y4 yQ y5 yP y9 y6 (.bool false) 0 := (Qac _).trans (by kernel_rfl)
theorem QiB (lb n nv yu : Nat) (ja : Bool) (aair2 : LL) (jb : Bool) (adis4 : LL) (jy : Bool) (b6 : LL) (yo : Int) (s140 : LB) (yi yz : CV) (c141 : List CV) (y4 yQ y5 yP y9 y6 : CV) (yv : Bool) (l158 : LL) (oV : Int) :
 QgO lb n (nv + 1) yu ja aair2 jb adis4 jy b6 yo s140 yi yz c141 y4 yQ y5 yP y9 y6 yv l158 oV =
 optO (CV.asL yi) fun sD =>
 bif (decide (oV < (sD.2.length : Int))) then
 (optO (CV.asL yi) fun sx =>
 optO (atL sx.2 oV) fun c171 =>
 chkO (c171.length == 2) (
 optO (c171[0]?) fun mR =>
 chkO (decide ((([102, 108, 105, 103, 104, 116, 32] : LB) ++ s140).length + [32].length ≤ 9223372036854775807)) (
 optO (CV.asL yi) fun zb =>
 optO (atL zb.2 oV) fun c174 =>
 chkO (c174.length == 2) (
 optO (c174[1]?) fun sA =>
 optO (CV.asS sA) fun s176 =>
 chkO (decide (((([102, 108, 105, 103, 104, 116, 32] : LB) ++ s140) ++ [32]).length + s176.length ≤ 9223372036854775807)) (
 chkO (CV.isCell mR) (
 chkO (room (l158.length + 1) 24) (
 QgO lb n nv yu ja aair2 jb adis4 jy b6 yo s140 yi yz c141 y4 yQ y5 yP y9 y6 (yv && false) (l158 ++ [[mR, CV.str (((([102, 108, 105, 103, 104, 116, 32] : LB) ++ s140) ++ [32]) ++ s176)]]) (IntKind.wrap .i64 (oV + 1)))))))))
 else
 (Qjn lb n yu ja aair2 jb adis4 jy b6 yo s140 yi yz c141 y4 yQ y5 yP y9 y6 yv l158 oV) := (Qac _).trans (by kernel_rfl)
noncomputable def QnD (lb n : Nat) (ja : Bool) (aair2 : LL) (jb : Bool) (adis4 : LL) (jy : Bool) (b6 : LL) (mW : Bool) (nw : LL) (pk : Int) : Option CV :=
 hold (E0 lb n 0 997 (sub (B Qag) [1, 1, 1]) (retK Tryz.prog (R Qag) 0 (outK (Qaf Tryz.prog Qag))) ⟨fr 74 [(0, .val (.agg [.list ja aair2, .list jb adis4])), (1, .val (.list jy b6)), (2, .ptr 0 2 0), (4, .lst true true 83 []), (5, .lst true mW 83 nw), (6, vI pk)], [bx 74 [(2, some [.val (.list ja aair2), .val (.list jb adis4)])]], KK⟩)
theorem Qq4 (lb n : Nat) (ja : Bool) (aair2 : LL) (jb : Bool) (adis4 : LL) (jy : Bool) (b6 : LL) (mW : Bool) (nw : LL) (pk : Int) :
 QnD lb n ja aair2 jb adis4 jy b6 mW nw pk =
 some (.list mW nw) := (Qac _).trans (by kernel_rfl)
theorem QiH (lb n yu : Nat) (ja : Bool) (aair2 : LL) (jb : Bool) (adis4 : LL) (jy : Bool) (b6 : LL) (ot : Bool) (oY : LL) (yo : Int) :
 QgL lb n (yu + 1) ja aair2 jb adis4 jy b6 ot oY yo =
 bif (decide (yo < (b6.length : Int))) then
 (optO (C lb n Qd1 [.int .i64 yo]) fun yz =>
 optO (CV.asS yz) fun s140 =>
 chkO (decide (([102, 108, 105, 103, 104, 116, 32] : LB).length + s140.length ≤ 9223372036854775807)) (
 optO (atL b6 yo) fun c141 =>
 chkO (c141.length == 6) (
 optO (c141[0]?) fun y4 =>
 optO (c141[1]?) fun yQ =>
 optO (c141[2]?) fun y5 =>
 optO (c141[3]?) fun yP =>
 optO (c141[4]?) fun y9 =>
 optO (c141[5]?) fun y6 =>
 optO (C lb n Qam [.agg [.list ja aair2, .list jb adis4], .agg [y4, yQ, y5, yP, y9, y6]]) fun yi =>
 QgO lb n n yu ja aair2 jb adis4 jy b6 yo s140 yi yz c141 y4 yQ y5 yP y9 y6 ot oY 0)))
 else
 (QnD lb n ja aair2 jb adis4 jy b6 ot oY yo) := (Qac _).trans (by kernel_rfl)
theorem Qu2 (lb n : Nat) (ja : Bool) (aair2 : LL) (jb : Bool) (adis4 : LL) (jy : Bool) (b6 : LL) :
 top lb n Qag [.agg [.list ja aair2, .list jb adis4], .list jy b6] =
 QgL lb n n ja aair2 jb adis4 jy b6 true [] 0 := by kernel_rfl
end Go.Proofs
