/- Equations of functions, printed by program. Conditions: none. -/
import Derived.Test.YtdcpdknginpohaaGreatDoorEv
namespace Go.Proofs
open Go.Am
set_option maxRecDepth 100000
set_option linter.unusedVariables false
theorem Qme (lb n) (jt : LB) (js jh jl ji : Int) (jq) (aleg7 : LL) (j9 : Int) (jK : LB) (jH jm jp jn jB : Int) (jD : LB) (jx) (jJ : LL) :
 top lb n Qd2 [.agg [.str jt, .int .i64 js, .int .i64 jh, .int .i64 jl, .int .i64 ji, .list jq aleg7], .agg [.int .i64 j9, .str jK, .int .i64 jH, .int .i64 jm, .int .i64 jp, .int .i64 jn, .int .i64 jB, .str jD, .list jx jJ]] =
 bif (!(jt == jK)) then
 (some (.bool false))
 else
 (bif (js != jH) then
 (some (.bool false))
 else
 (optO (C lb n Qgi [.agg [.int .i64 jh, .int .i64 jl, .int .i64 ji], .agg [.int .i64 jm, .int .i64 jp, .int .i64 jn]]) fun wZ =>
 optO (CV.asT wZ) fun t21 =>
 optO (t21[0]?) fun wC =>
 optO (CV.asT wZ) fun nD =>
 optO (nD[1]?) fun yf =>
 optO (CV.asA wC) fun c25 =>
 chkO (c25.length == 3) (
 optO (c25[0]?) fun w8 =>
 optO (c25[1]?) fun wA =>
 optO (c25[2]?) fun yd =>
 some (yf)))) := by kernel_rfl
theorem QqW (lb n) (jt : LB) (js jh jl ji : Int) (jq) (aleg7 : LL) (j9 : Int) (jK : LB) (jH jm jp jn jB : Int) (jD : LB) (jx) (jJ : LL) :
 top lb n Qii [.agg [.str jt, .int .i64 js, .int .i64 jh, .int .i64 jl, .int .i64 ji, .list jq aleg7], .agg [.int .i64 j9, .str jK, .int .i64 jH, .int .i64 jm, .int .i64 jp, .int .i64 jn, .int .i64 jB, .str jD, .list jx jJ]] =
 optO (C lb n Qb2 [.agg [.int .i64 jh, .int .i64 jl, .int .i64 ji], .agg [.int .i64 jm, .int .i64 jp, .int .i64 jn]]) fun wZ =>
 optO (CV.asT wZ) fun t21 =>
 optO (t21[0]?) fun wC =>
 optO (CV.asT wZ) fun nD =>
 optO (nD[1]?) fun yf =>
 optO (CV.asA wC) fun c25 =>
 chkO (c25.length == 3) (
 optO (c25[0]?) fun w8 =>
 optO (c25[1]?) fun wA =>
 optO (c25[2]?) fun yd =>
 optO (CV.asB yf) fun gT =>
 bif gT then
 (bif (jt == jK) then
 (some (.bool (js == jH)))
 else
 (some (.bool false)))
 else
 (some (.bool false))) := by kernel_rfl
theorem QtO (lb n) (jt : LB) (js jh jl ji : Int) (jq) (aleg7 : LL) (oA : LB) (kZ vt kl vO : Int) (kY) (ow : LL) :
 top lb n Qkv [.agg [.str jt, .int .i64 js, .int .i64 jh, .int .i64 jl, .int .i64 ji, .list jq aleg7], .agg [.str oA, .int .i64 kZ, .int .i64 vt, .int .i64 kl, .int .i64 vO, .list kY ow]] =
 optO (C lb n Qb2 [.agg [.int .i64 jh, .int .i64 jl, .int .i64 ji], .agg [.int .i64 vt, .int .i64 kl, .int .i64 vO]]) fun mh =>
 optO (CV.asT mh) fun lR =>
 optO (lR[0]?) fun yk =>
 optO (CV.asT mh) fun t20 =>
 optO (t20[1]?) fun yq =>
 optO (CV.asA yk) fun c22 =>
 chkO (c22.length == 3) (
 optO (c22[0]?) fun x23 =>
 optO (c22[1]?) fun yf =>
 optO (c22[2]?) fun wn =>
 bif (jt == oA) then
 (bif (js == kZ) then
 (some (yq))
 else
 (some (.bool false)))
 else
 (some (.bool false))) := by kernel_rfl
noncomputable def r10_Big_L1 :=
 fun lb n (pp : Nat) (ja : Bool) (aair2 : LL) (jb : Bool) (adis4 : LL) (jA : Bool) (b6 : LL) yG =>
 hold (Qas (E0 lb n 0 994) 0 (Qad (sub (B Qc3) [1, 1, 0, 1, 0, 0]) ++ []) [] (sub (B Qc3) [1, 1, 0, 1, 0, 0]) (Qak 0 (seqK (E0 lb n 0 997) (sub (B Qc3) [1, 1, 0]) (sub (B Qc3) [1, 1, 1]) (retK Tryz.prog (R Qc3) 0 (outK (Qaf Tryz.prog Qc3))))) pp ⟨fr 33 [(0, .val (.agg [.list ja aair2, .list jb adis4])), (1, .val (.list jA b6)), (2, .ptr 0 2 0), (4, vB false), (5, vI yG)], [bx 33 [(2, some [.val (.list ja aair2), .val (.list jb adis4)])]], KK⟩)
noncomputable def Qp0 (lb n : Nat) (ja : Bool) (aair2 : LL) (jb : Bool) (adis4 : LL) (jA : Bool) (b6 : LL) (oa : Int) : Option CV :=
 hold (E0 lb n 0 997 (sub (B Qc3) [1, 1, 1]) (retK Tryz.prog (R Qc3) 0 (outK (Qaf Tryz.prog Qc3))) ⟨fr 33 [(0, .val (.agg [.list ja aair2, .list jb adis4])), (1, .val (.list jA b6)), (2, .ptr 0 2 0), (4, vB false), (5, vI oa)], [bx 33 [(2, some [.val (.list ja aair2), .val (.list jb adis4)])]], KK⟩)
theorem QsQ (lb n : Nat) (ja : Bool) (aair2 : LL) (jb : Bool) (adis4 : LL) (jA : Bool) (b6 : LL) (oa : Int) :
 Qp0 lb n ja aair2 jb adis4 jA b6 oa =
 some (.bool false) := (Qac _).trans (by kernel_rfl)
theorem Qj9 (lb n pp : Nat) (ja : Bool) (aair2 : LL) (jb : Bool) (adis4 : LL) (jA : Bool) (b6 : LL) (yG : Int) :
 r10_Big_L1 lb n (pp + 1) ja aair2 jb adis4 jA b6 yG =
 bif (decide (yG < (b6.length : Int))) then
 (optO (atL b6 yG) fun c29 =>
 chkO (c29.length == 6) (
 optO (c29[0]?) fun yn =>
 optO (c29[1]?) fun wN =>
 optO (c29[2]?) fun w9 =>
 optO (c29[3]?) fun wY =>
 optO (c29[4]?) fun yC =>
 optO (c29[5]?) fun yL =>
 optO (C lb n Qcr [.agg [.list ja aair2, .list jb adis4], .agg [yn, wN, w9, wY, yC, yL]]) fun nS =>
 optO (CV.asB nS) fun tc =>
 bif tc then
 (some (.bool true))
 else
 (r10_Big_L1 lb n pp ja aair2 jb adis4 jA b6 (IntKind.wrap .i64 (yG + 1)))))
 else
 (Qp0 lb n ja aair2 jb adis4 jA b6 yG) := (Qac _).trans (by kernel_rfl)
theorem QiR (lb n : Nat) (ja : Bool) (aair2 : LL) (jb : Bool) (adis4 : LL) (jA : Bool) (b6 : LL) :
 top lb n Qc3 [.agg [.list ja aair2, .list jb adis4], .list jA b6] =
 bif (decide ((b6.length : Int) > 12)) then
 (some (.bool true))
 else
 (bif (decide ((aair2.length : Int) > 20)) then
 (some (.bool true))
 else
 (bif (decide ((adis4.length : Int) > 40)) then
 (some (.bool true))
 else
 (r10_Big_L1 lb n n ja aair2 jb adis4 jA b6 0))) := by kernel_rfl
theorem QuC (lb n : Nat) (qB : Int) (pN : LB) (qC n9 pY n0 qD : Int) (aequ9 : LB) (my : Bool) (nG : LL) :
 top lb n Qko [.agg [.int .i64 qB, .str pN, .int .i64 qC, .int .i64 n9, .int .i64 pY, .int .i64 n0, .int .i64 qD, .str aequ9, .list my nG]] =
 bif (decide ((aequ9.length : Int) ≤ 100)) then
 (optO (C lb n Qcr [.agg [.list true [], .list true []], .agg [.str pN, .int .i64 0, .int .i64 0, .int .i64 0, .int .i64 0, .list my nG]]) fun yN =>
 optO (CV.asB yN) fun kN =>
 some (.bool (!kN)))
 else
 (some (.bool false)) := by kernel_rfl
theorem Qi2 (lb n : Nat) (ja : Bool) (aair2 : LL) (jb : Bool) (adis4 : LL) (jA : Bool) (b6 : LL) :
 top lb n Qkw [.agg [.list ja aair2, .list jb adis4], .list jA b6] =
 optO (C lb n Qc3 [.agg [.list ja aair2, .list jb adis4], .list jA b6]) fun r7 =>
 optO (CV.asB r7) fun b9 =>
 bif (!b9) then
 (optO (C lb n Qal [.agg [.list ja aair2, .list jb adis4]]) fun gS =>
 optO (CV.asL gS) fun rA =>
 bif ((rA.2.length : Int) == 0) then
 (optO (C lb n Qag [.agg [.list ja aair2, .list jb adis4], .list jA b6]) fun yN =>
 optO (CV.asL yN) fun ri =>
 some (.bool ((ri.2.length : Int) == 0)))
 else
 (some (.bool false)))
 else
 (some (.bool false)) := by kernel_rfl
noncomputable def QfU (lb n o0 : Nat) (wb : Bool) (a2 : LL) (vz : Bool) (b4 : LL) (k5 : Int) : Option CV :=
 hold (Qas (E0 lb n 0 994) 0 (Qad (sub (B QbO) [1, 1, 0, 1, 0, 0]) ++ []) [] (sub (B QbO) [1, 1, 0, 1, 0, 0]) (Qak 0 (seqK (E0 lb n 0 997) (sub (B QbO) [1, 1, 0]) (sub (B QbO) [1, 1, 1]) (retK Tryz.prog (R QbO) 0 (outK (Qaf Tryz.prog QbO))))) o0 ⟨fr 27 [(0, .val (.list wb a2)), (1, .val (.list vz b4)), (4, vB false), (5, vI k5)], [bx 27 []], KK⟩)
noncomputable def QkO (lb n : Nat) (wb : Bool) (a2 : LL) (vz : Bool) (b4 : LL) (qe : Int) : Option CV :=
 hold (E0 lb n 0 997 (sub (B QbO) [1, 1, 1]) (retK Tryz.prog (R QbO) 0 (outK (Qaf Tryz.prog QbO))) ⟨fr 27 [(0, .val (.list wb a2)), (1, .val (.list vz b4)), (4, vB false), (5, vI qe)], [bx 27 []], KK⟩)
theorem QnY (lb n : Nat) (wb : Bool) (a2 : LL) (vz : Bool) (b4 : LL) (qe : Int) :
 QkO lb n wb a2 vz b4 qe =
 some (.bool true) := (Qac _).trans (by kernel_rfl)
theorem Qhb (lb n o0 : Nat) (wb : Bool) (a2 : LL) (vz : Bool) (b4 : LL) (k5 : Int) :
 QfU lb n (o0 + 1) wb a2 vz b4 k5 =
 bif (decide (k5 < (a2.length : Int))) then
 (optO (atL a2 k5) fun c42 =>
 chkO (c42.length == 6) (
 optO (c42[0]?) fun oM =>
 optO (c42[1]?) fun oG =>
 optO (c42[2]?) fun qa =>
 optO (c42[3]?) fun qp =>
 optO (c42[4]?) fun qu =>
 optO (c42[5]?) fun l0 =>
 optO (atL b4 k5) fun c49 =>
 chkO (c49.length == 6) (
 optO (c49[0]?) fun oZ =>
 optO (c49[1]?) fun lM =>
 optO (c49[2]?) fun oU =>
 optO (c49[3]?) fun qw =>
 optO (c49[4]?) fun ke =>
 optO (c49[5]?) fun vc =>
 optO (C lb n QlL [.agg [oM, oG, qa, qp, qu, l0], .agg [oZ, lM, oU, qw, ke, vc]]) fun og =>
 optO (CV.asB og) fun nT =>
 bif (!nT) then
 (some (.bool false))
 else
 (QfU lb n o0 wb a2 vz b4 (IntKind.wrap .i64 (k5 + 1))))))
 else
 (QkO lb n wb a2 vz b4 k5) := (Qac _).trans (by kernel_rfl)
theorem Qrz (lb n : Nat) (wb : Bool) (a2 : LL) (vz : Bool) (b4 : LL) :
 top lb n QbO [.list wb a2, .list vz b4] =
 bif ((a2.length : Int) != (b4.length : Int)) then
 (some (.bool false))
 else
 (QfU lb n n wb a2 vz b4 0) := by kernel_rfl
noncomputable def QgV (lb n yu : Nat) (ja : Bool) (aair2 : LL) (jb : Bool) (adis4 : LL) (jA : Bool) (b6 : LL) (oj : Bool) (oN : LL) (yp : Int) : Option CV :=
 hold (Qas (E0 lb n 0 994) 0 (Qad (sub (B Qag) [1, 1, 0, 1, 0, 0]) ++ [7, 8, 9, 9, 10, 11, 10, 11]) [] (sub (B Qag) [1, 1, 0, 1, 0, 0]) (Qak 0 (seqK (E0 lb n 0 997) (sub (B Qag) [1, 1, 0]) (sub (B Qag) [1, 1, 1]) (retK Tryz.prog (R Qag) 0 (outK (Qaf Tryz.prog Qag))))) yu ⟨fr 74 [(0, .val (.agg [.list ja aair2, .list jb adis4])), (1, .val (.list jA b6)), (2, .ptr 0 2 0), (4, .lst true true 83 []), (5, .lst true oj 83 oN), (6, vI yp)], [bx 74 [(2, some [.val (.list ja aair2), .val (.list jb adis4)])]], KK⟩)
noncomputable def QgF (lb n mM yu : Nat) (ja : Bool) (aair2 : LL) (jb : Bool) (adis4 : LL) (jA : Bool) (b6 : LL) (yp : Int) (s140 : LB) (yi yy : CV) (c141 : List CV) (y6 yO yZ yP y4 y7 : CV) (yv : Bool) (l158 : LL) (oO : Int) : Option CV :=
 hold (Qas (E0 lb n 0 985) 0 (Qad (sub (B Qag) [1, 1, 0, 1, 0, 0, 1, 0, 0, 1, 1, 0, 1, 0, 0]) ++ []) [] (sub (B Qag) [1, 1, 0, 1, 0, 0, 1, 0, 0, 1, 1, 0, 1, 0, 0]) (Qak 2 (seqK (E0 lb n 0 988) (sub (B Qag) [1, 1, 0, 1, 0, 0, 1, 0, 0, 1, 1, 0]) (sub (B Qag) [1, 1, 0, 1, 0, 0, 1, 0, 0, 1, 1, 1]) (Qak 1 (seqK (E0 lb n 0 992) (sub (B Qag) [1, 1, 0, 1, 0, 0, 1, 0]) (sub (B Qag) [1, 1, 0, 1, 0, 0, 1, 1]) (QbH 0 (Qad (sub (B Qag) [1, 1, 0, 1, 0, 0]) ++ [7, 8, 9, 9, 10, 11, 10, 11]) [] (Qas (E0 lb n 0 994) 0 (Qad (sub (B Qag) [1, 1, 0, 1, 0, 0]) ++ [7, 8, 9, 9, 10, 11, 10, 11]) [] (sub (B Qag) [1, 1, 0, 1, 0, 0]) (Qak 0 (seqK (E0 lb n 0 997) (sub (B Qag) [1, 1, 0]) (sub (B Qag) [1, 1, 1]) (retK Tryz.prog (R Qag) 0 (outK (Qaf Tryz.prog Qag))))) yu) (Qak 0 (seqK (E0 lb n 0 997) (sub (B Qag) [1, 1, 0]) (sub (B Qag) [1, 1, 1]) (retK Tryz.prog (R Qag) 0 (outK (Qaf Tryz.prog Qag)))))))))) mM ⟨fr 74 [(0, .val (.agg [.list ja aair2, .list jb adis4])), (1, .val (.list jA b6)), (2, .ptr 0 2 0), (4, .lst true true 83 []), (5, .lst true yv 83 l158), (6, vI yp), (7, .val (.str (([102, 108, 105, 103, 104, 116, 32] : LB) ++ s140))), (8, vV yi), (9, vI oO), (18, vI yp), (19, vV yy), (20, .val (.str (([102, 108, 105, 103, 104, 116, 32] : LB) ++ s140))), (21, .val (.agg [.list ja aair2, .list jb adis4])), (22, .val (.list jA b6)), (23, vI yp), (24, .cptr c141 0), (25, .val (.agg [y6, yO, yZ, yP, y4, y7])), (26, vV yi)], [bx 74 [(2, some [.val (.list ja aair2), .val (.list jb adis4)])]], KK⟩)
noncomputable def Qjp (lb n yu : Nat) (ja : Bool) (aair2 : LL) (jb : Bool) (adis4 : LL) (jA : Bool) (b6 : LL) (yp : Int) (s140 : LB) (yi yy : CV) (c141 : List CV) (y6 yO yZ yP y4 y7 : CV) (vR : Bool) (l178 : LL) (vg : Int) : Option CV :=
 hold (E0 lb n 0 988 (sub (B Qag) [1, 1, 0, 1, 0, 0, 1, 0, 0, 1, 1, 1]) (Qak 1 (seqK (E0 lb n 0 992) (sub (B Qag) [1, 1, 0, 1, 0, 0, 1, 0]) (sub (B Qag) [1, 1, 0, 1, 0, 0, 1, 1]) (QbH 0 (Qad (sub (B Qag) [1, 1, 0, 1, 0, 0]) ++ [7, 8, 9, 9, 10, 11, 10, 11]) [] (Qas (E0 lb n 0 994) 0 (Qad (sub (B Qag) [1, 1, 0, 1, 0, 0]) ++ [7, 8, 9, 9, 10, 11, 10, 11]) [] (sub (B Qag) [1, 1, 0, 1, 0, 0]) (Qak 0 (seqK (E0 lb n 0 997) (sub (B Qag) [1, 1, 0]) (sub (B Qag) [1, 1, 1]) (retK Tryz.prog (R Qag) 0 (outK (Qaf Tryz.prog Qag))))) yu) (Qak 0 (seqK (E0 lb n 0 997) (sub (B Qag) [1, 1, 0]) (sub (B Qag) [1, 1, 1]) (retK Tryz.prog (R Qag) 0 (outK (Qaf Tryz.prog Qag)))))))) ⟨fr 74 [(0, .val (.agg [.list ja aair2, .list jb adis4])), (1, .val (.list jA b6)), (2, .ptr 0 2 0), (4, .lst true true 83 []), (5, .lst true vR 83 l178), (6, vI yp), (7, .val (.str (([102, 108, 105, 103, 104, 116, 32] : LB) ++ s140))), (8, vV yi), (9, vI vg), (18, vI yp), (19, vV yy), (20, .val (.str (([102, 108, 105, 103, 104, 116, 32] : LB) ++ s140))), (21, .val (.agg [.list ja aair2, .list jb adis4])), (22, .val (.list jA b6)), (23, vI yp), (24, .cptr c141 0), (25, .val (.agg [y6, yO, yZ, yP, y4, y7])), (26, vV yi)], [bx 74 [(2, some [.val (.list ja aair2), .val (.list jb adis4)])]], KK⟩)
noncomputable def Qfq (lb n gQ yu : Nat) (ja : Bool) (aair2 : LL) (jb : Bool) (adis4 : LL) (jA : Bool) (b6 : LL) (vR : Bool) (l178 : LL) (yp : Int) (s140 : LB) (yi : CV) (vg : Int) (yy : CV) (c141 : List CV) (y6 yO yZ yP y4 y7 gX : CV) (oT : Int) : Option CV :=
 hold (Qas (E0 lb n 0 983) 0 (Qad (sub (B Qag) [1, 1, 0, 1, 0, 0, 1, 0, 0, 1, 1, 1, 1, 0, 1, 0, 0]) ++ []) [] (sub (B Qag) [1, 1, 0, 1, 0, 0, 1, 0, 0, 1, 1, 1, 1, 0, 1, 0, 0]) (Qak 4 (seqK (E0 lb n 0 986) (sub (B Qag) [1, 1, 0, 1, 0, 0, 1, 0, 0, 1, 1, 1, 1, 0]) (sub (B Qag) [1, 1, 0, 1, 0, 0, 1, 0, 0, 1, 1, 1, 1, 1]) (Qak 1 (seqK (E0 lb n 0 992) (sub (B Qag) [1, 1, 0, 1, 0, 0, 1, 0]) (sub (B Qag) [1, 1, 0, 1, 0, 0, 1, 1]) (QbH 0 (Qad (sub (B Qag) [1, 1, 0, 1, 0, 0]) ++ [7, 8, 9, 9, 10, 11, 10, 11]) [] (Qas (E0 lb n 0 994) 0 (Qad (sub (B Qag) [1, 1, 0, 1, 0, 0]) ++ [7, 8, 9, 9, 10, 11, 10, 11]) [] (sub (B Qag) [1, 1, 0, 1, 0, 0]) (Qak 0 (seqK (E0 lb n 0 997) (sub (B Qag) [1, 1, 0]) (sub (B Qag) [1, 1, 1]) (retK Tryz.prog (R Qag) 0 (outK (Qaf Tryz.prog Qag))))) yu) (Qak 0 (seqK (E0 lb n 0 997) (sub (B Qag) [1, 1, 0]) (sub (B Qag) [1, 1, 1]) (retK Tryz.prog (R Qag) 0 (outK (Qaf Tryz.prog Qag)))))))))) gQ ⟨fr 74 [(0, .val (.agg [.list ja aair2, .list jb adis4])), (1, .val (.list jA b6)), (2, .ptr 0 2 0), (4, .lst true true 83 []), (5, .lst true vR 83 l178), (6, vI yp), (7, .val (.str (([102, 108, 105, 103, 104, 116, 32] : LB) ++ s140))), (8, vV yi), (9, vI vg), (10, vV gX), (11, vI oT), (18, vI yp), (19, vV yy), (20, .val (.str (([102, 108, 105, 103, 104, 116, 32] : LB) ++ s140))), (21, .val (.agg [.list ja aair2, .list jb adis4])), (22, .val (.list jA b6)), (23, vI yp), (24, .cptr c141 0), (25, .val (.agg [y6, yO, yZ, yP, y4, y7])), (26, vV yi)], [bx 74 [(2, some [.val (.list ja aair2), .val (.list jb adis4)])]], KK⟩)
noncomputable def Qi4 (lb n yu : Nat) (ja : Bool) (aair2 : LL) (jb : Bool) (adis4 : LL) (jA : Bool) (b6 : LL) (vR : Bool) (l178 : LL) (yp : Int) (s140 : LB) (yi : CV) (vg : Int) (yy : CV) (c141 : List CV) (y6 yO yZ yP y4 y7 gz : CV) (ma : Int) : Option CV :=
 hold (E0 lb n 0 986 (sub (B Qag) [1, 1, 0, 1, 0, 0, 1, 0, 0, 1, 1, 1, 1, 1]) (Qak 1 (seqK (E0 lb n 0 992) (sub (B Qag) [1, 1, 0, 1, 0, 0, 1, 0]) (sub (B Qag) [1, 1, 0, 1, 0, 0, 1, 1]) (QbH 0 (Qad (sub (B Qag) [1, 1, 0, 1, 0, 0]) ++ [7, 8, 9, 9, 10, 11, 10, 11]) [] (Qas (E0 lb n 0 994) 0 (Qad (sub (B Qag) [1, 1, 0, 1, 0, 0]) ++ [7, 8, 9, 9, 10, 11, 10, 11]) [] (sub (B Qag) [1, 1, 0, 1, 0, 0]) (Qak 0 (seqK (E0 lb n 0 997) (sub (B Qag) [1, 1, 0]) (sub (B Qag) [1, 1, 1]) (retK Tryz.prog (R Qag) 0 (outK (Qaf Tryz.prog Qag))))) yu) (Qak 0 (seqK (E0 lb n 0 997) (sub (B Qag) [1, 1, 0]) (sub (B Qag) [1, 1, 1]) (retK Tryz.prog (R Qag) 0 (outK (Qaf Tryz.prog Qag)))))))) ⟨fr 74 [(0, .val (.agg [.list ja aair2, .list jb adis4])), (1, .val (.list jA b6)), (2, .ptr 0 2 0), (4, .lst true true 83 []), (5, .lst true vR 83 l178), (6, vI yp), (7, .val (.str (([102, 108, 105, 103, 104, 116, 32] : LB) ++ s140))), (8, vV yi), (9, vI vg), (10, vV gz), (11, vI ma), (18, vI yp), (19, vV yy), (20, .val (.str (([102, 108, 105, 103, 104, 116, 32] : LB) ++ s140))), (21, .val (.agg [.list ja aair2, .list jb adis4])), (22, .val (.list jA b6)), (23, vI yp), (24, .cptr c141 0), (25, .val (.agg [y6, yO, yZ, yP, y4, y7])), (26, vV yi)], [bx 74 [(2, some [.val (.list ja aair2), .val (.list jb adis4)])]], KK⟩)
noncomputable def Qjb (lb n yu : Nat) (ja : Bool) (aair2 : LL) (jb : Bool) (adis4 : LL) (jA : Bool) (b6 : LL) (yp : Int) (mV : Bool) (m8 : LL) (pk : LB) (nZ : CV) (n6 : Int) (pf : CV) (nY : Int) : Option CV :=
 hold (E0 lb n 0 992 (sub (B Qag) [1, 1, 0, 1, 0, 0, 1, 1]) (QbH 0 (Qad (sub (B Qag) [1, 1, 0, 1, 0, 0]) ++ [7, 8, 9, 9, 10, 11, 10, 11]) [] (Qas (E0 lb n 0 994) 0 (Qad (sub (B Qag) [1, 1, 0, 1, 0, 0]) ++ [7, 8, 9, 9, 10, 11, 10, 11]) [] (sub (B Qag) [1, 1, 0, 1, 0, 0]) (Qak 0 (seqK (E0 lb n 0 997) (sub (B Qag) [1, 1, 0]) (sub (B Qag) [1, 1, 1]) (retK Tryz.prog (R Qag) 0 (outK (Qaf Tryz.prog Qag))))) yu) (Qak 0 (seqK (E0 lb n 0 997) (sub (B Qag) [1, 1, 0]) (sub (B Qag) [1, 1, 1]) (retK Tryz.prog (R Qag) 0 (outK (Qaf Tryz.prog Qag)))))) ⟨fr 74 [(0, .val (.agg [.list ja aair2, .list jb adis4])), (1, .val (.list jA b6)), (2, .ptr 0 2 0), (4, .lst true true 83 []), (5, .lst true mV 83 m8), (6, vI yp), (7, vS pk), (8, vV nZ), (9, vI n6), (10, vV pf), (11, vI nY)], [bx 74 [(2, some [.val (.list ja aair2), .val (.list jb adis4)])]], KK⟩)
theorem QjD (lb n yu : Nat) (ja : Bool) (aair2 : LL) (jb : Bool) (adis4 : LL) (jA : Bool) (b6 : LL) (yp : Int) (mV : Bool) (m8 : LL) (pk : LB) (nZ : CV) (n6 : Int) (pf : CV) (nY : Int) :
 Qjb lb n yu ja aair2 jb adis4 jA b6 yp mV m8 pk nZ n6 pf nY =
 QgV lb n yu ja aair2 jb adis4 jA b6 mV m8 (IntKind.wrap .i64 (yp + 1)) := (Qac _).trans (by kernel_rfl)
theorem Qp3 (lb n yu : Nat) (ja : Bool) (aair2 : LL) (jb : Bool) (adis4 : LL) (jA : Bool) (b6 : LL) (vR : Bool) (l178 : LL) (yp : Int) (s140 : LB) (yi : CV) (vg : Int) (yy : CV) (c141 : List CV) (y6 yO yZ yP y4 y7 gz : CV) (ma : Int) :
 Qi4 lb n yu ja aair2 jb adis4 jA b6 vR l178 yp s140 yi vg yy c141 y6 yO yZ yP y4 y7 gz ma =
 optO (CV.asB gz) fun zx =>
 bif zx then
 (chkO (room (l178.length + 1) 24) (
 Qjb lb n yu ja aair2 jb adis4 jA b6 yp (vR && false) (l178 ++ [[CV.int .i64 6, CV.str (([102, 108, 105, 103, 104, 116, 32] : LB) ++ s140)]]) (([102, 108, 105, 103, 104, 116, 32] : LB) ++ s140) yi vg gz ma))
 else
 (Qjb lb n yu ja aair2 jb adis4 jA b6 yp vR l178 (([102, 108, 105, 103, 104, 116, 32] : LB) ++ s140) yi vg gz ma) := (Qac _).trans (by kernel_rfl)
theorem Qir (lb n gQ yu : Nat) (ja : Bool) (aair2 : LL) (jb : Bool) (adis4 : LL) (jA : Bool) (b6 : LL) (vR : Bool) (l178 : LL) (yp : Int) (s140 : LB) (yi : CV) (vg : Int) (yy : CV) (c141 : List CV) (y6 yO yZ yP y4 y7 gX : CV) (oT : Int) :
 Qfq lb n (gQ + 1) yu ja aair2 jb adis4 jA b6 vR l178 yp s140 yi vg yy c141 y6 yO yZ yP y4 y7 gX oT =
 bif (decide (oT < yp)) then
 (optO (CV.asB gX) fun q9 =>
 bif q9 then
 (Qfq lb n gQ yu ja aair2 jb adis4 jA b6 vR l178 yp s140 yi vg yy c141 y6 yO yZ yP y4 y7 (.bool true) (IntKind.wrap .i64 (oT + 1)))
 else
 (optO (atL b6 oT) fun c215 =>
 chkO (c215.length == 6) (
 optO (c215[0]?) fun sC =>
 optO (c215[1]?) fun sB =>
 optO (c215[2]?) fun s8 =>
 optO (c215[3]?) fun la =>
 optO (c215[4]?) fun sT =>
 optO (c215[5]?) fun sJ =>
 optO (atL b6 yp) fun c222 =>
 chkO (c222.length == 6) (
 optO (c222[0]?) fun qN =>
 optO (c222[1]?) fun su =>
 optO (c222[2]?) fun zP =>
 optO (c222[3]?) fun zC =>
 optO (c222[4]?) fun sk =>
 optO (c222[5]?) fun zm =>
 optO (C lb n Qkv [.agg [sC, sB, s8, la, sT, sJ], .agg [qN, su, zP, zC, sk, zm]]) fun zw =>
 Qfq lb n gQ yu ja aair2 jb adis4 jA b6 vR l178 yp s140 yi vg yy c141 y6 yO yZ yP y4 y7 zw (IntKind.wrap .i64 (oT + 1))))))
 else
 (Qi4 lb n yu ja aair2 jb adis4 jA b6 vR l178 yp s140 yi vg yy c141 y6 yO yZ yP y4 y7 gX oT) := (Qac _).trans (by kernel_rfl)
theorem QqS (lb n yu : Nat) (ja : Bool) (aair2 : LL) (jb : Bool) (adis4 : LL) (jA : Bool) (b6 : LL) (yp : Int) (s140 : LB) (yi yy : CV) (c141 : List CV) (y6 yO yZ yP y4 y7 : CV) (vR : Bool) (l178 : LL) (vg : Int) :
 Qjp lb n yu ja aair2 jb adis4 jA b6 yp s140 yi yy c141 y6 yO yZ yP y4 y7 vR l178 vg =
 Qfq lb n n yu ja aair2 jb adis4 jA b6 vR l178 yp s140 yi vg yy c141 y6 yO yZ yP y4 y7 (.bool false) 0 := (Qac _).trans (by kernel_rfl)
theorem Qit (lb n mM yu : Nat) (ja : Bool) (aair2 : LL) (jb : Bool) (adis4 : LL) (jA : Bool) (b6 : LL) (yp : Int) (s140 : LB) (yi yy : CV) (c141 : List CV) (y6 yO yZ yP y4 y7 : CV) (yv : Bool) (l158 : LL) (oO : Int) :
 QgF lb n (mM + 1) yu ja aair2 jb adis4 jA b6 yp s140 yi yy c141 y6 yO yZ yP y4 y7 yv l158 oO =
 optO (CV.asL yi) fun sH =>
 bif (decide (oO < (sH.2.length : Int))) then
 (optO (CV.asL yi) fun ze =>
 optO (atL ze.2 oO) fun c171 =>
 chkO (c171.length == 2) (
 optO (c171[0]?) fun mC =>
 chkO (decide ((([102, 108, 105, 103, 104, 116, 32] : LB) ++ s140).length + [32].length ≤ 9223372036854775807)) (
 optO (CV.asL yi) fun sg =>
 optO (atL sg.2 oO) fun c174 =>
 chkO (c174.length == 2) (
 optO (c174[1]?) fun zz =>
 optO (CV.asS zz) fun s176 =>
 chkO (decide (((([102, 108, 105, 103, 104, 116, 32] : LB) ++ s140) ++ [32]).length + s176.length ≤ 9223372036854775807)) (
 chkO (CV.isCell mC) (
 chkO (room (l158.length + 1) 24) (
 QgF lb n mM yu ja aair2 jb adis4 jA b6 yp s140 yi yy c141 y6 yO yZ yP y4 y7 (yv && false) (l158 ++ [[mC, CV.str (((([102, 108, 105, 103, 104, 116, 32] : LB) ++ s140) ++ [32]) ++ s176)]]) (IntKind.wrap .i64 (oO + 1)))))))))
 else
 (Qjp lb n yu ja aair2 jb adis4 jA b6 yp s140 yi yy c141 y6 yO yZ yP y4 y7 yv l158 oO) := (Qac _).trans (by kernel_rfl)
noncomputable def QmI (lb n : Nat) (ja : Bool) (aair2 : LL) (jb : Bool) (adis4 : LL) (jA : Bool) (b6 : LL) (np : Bool) (ns : LL) (ph : Int) : Option CV :=
 hold (E0 lb n 0 997 (sub (B Qag) [1, 1, 1]) (retK Tryz.prog (R Qag) 0 (outK (Qaf Tryz.prog Qag))) ⟨fr 74 [(0, .val (.agg [.list ja aair2, .list jb adis4])), (1, .val (.list jA b6)), (2, .ptr 0 2 0), (4, .lst true true 83 []), (5, .lst true np 83 ns), (6, vI ph)], [bx 74 [(2, some [.val (.list ja aair2), .val (.list jb adis4)])]], KK⟩)
theorem QqK (lb n : Nat) (ja : Bool) (aair2 : LL) (jb : Bool) (adis4 : LL) (jA : Bool) (b6 : LL) (np : Bool) (ns : LL) (ph : Int) :
 QmI lb n ja aair2 jb adis4 jA b6 np ns ph =
 some (.list np ns) := (Qac _).trans (by kernel_rfl)
theorem QiB (lb n yu : Nat) (ja : Bool) (aair2 : LL) (jb : Bool) (adis4 : LL) (jA : Bool) (b6 : LL) (oj : Bool) (oN : LL) (yp : Int) :
 QgV lb n (yu + 1) ja aair2 jb adis4 jA b6 oj oN yp =
 bif (decide (yp < (b6.length : Int))) then
 (optO (C lb n QdW [.int .i64 yp]) fun yy =>
 optO (CV.asS yy) fun s140 =>
 chkO (decide (([102, 108, 105, 103, 104, 116, 32] : LB).length + s140.length ≤ 9223372036854775807)) (
 optO (atL b6 yp) fun c141 =>
 chkO (c141.length == 6) (
 optO (c141[0]?) fun y6 =>
 optO (c141[1]?) fun yO =>
 optO (c141[2]?) fun yZ =>
 optO (c141[3]?) fun yP =>
 optO (c141[4]?) fun y4 =>
 optO (c141[5]?) fun y7 =>
 optO (C lb n Qam [.agg [.list ja aair2, .list jb adis4], .agg [y6, yO, yZ, yP, y4, y7]]) fun yi =>
 QgF lb n n yu ja aair2 jb adis4 jA b6 yp s140 yi yy c141 y6 yO yZ yP y4 y7 oj oN 0)))
 else
 (QmI lb n ja aair2 jb adis4 jA b6 oj oN yp) := (Qac _).trans (by kernel_rfl)
theorem QtQ (lb n : Nat) (ja : Bool) (aair2 : LL) (jb : Bool) (adis4 : LL) (jA : Bool) (b6 : LL) :
 top lb n Qag [.agg [.list ja aair2, .list jb adis4], .list jA b6] =
 QgV lb n n ja aair2 jb adis4 jA b6 true [] 0 := by kernel_rfl
end Go.Proofs
