/- Equations of functions, printed by program. Conditions: none. -/
import Derived.Test.YtdcpdknginpohaaGreatDoorEv
namespace Go.Proofs
open Go.Am
set_option maxRecDepth 100000
set_option linter.unusedVariables false
noncomputable def revision_All_L1 :=
 fun lb n (gA : Nat) (ja : Bool) (aair2 : LL) (jb : Bool) (adis4 : LL) (yD : Bool) (c9 : LL) oT vf =>
 hold (Qar (E0 lb n 0 995) 0 (Qad (sub (B Qbz) [1, 0, 1, 0, 0]) ++ [9, 11, 12]) [10] (sub (B Qbz) [1, 0, 1, 0, 0]) (Qaj 0 (seqK (E0 lb n 0 998) (sub (B Qbz) [1, 0]) (sub (B Qbz) [1, 1]) (retK Tryz.prog (R Qbz) 0 (outK (Qaf Tryz.prog Qbz))))) gA ⟨fr 36 [(0, .val (.agg [.list ja aair2, .list jb adis4])), (1, vV oT), (2, .val (.list yD c9)), (3, .ptr 0 3 0), (6, .lst true true 42 []), (7, vI 0), (8, vI 0), (13, .val (.list yD c9)), (14, .val (.int .i64 (c9.length : Int))), (15, vI vf)], [bx 36 [(3, some [.val (.list ja aair2), .val (.list jb adis4)])]], KK⟩)
noncomputable def Qkk (lb n : Nat) (ja : Bool) (aair2 : LL) (jb : Bool) (adis4 : LL) (yD : Bool) (c9 : LL) (gz : CV) : Option CV :=
 hold (E0 lb n 0 998 (sub (B Qbz) [1, 1]) (retK Tryz.prog (R Qbz) 0 (outK (Qaf Tryz.prog Qbz))) ⟨fr 36 [(0, .val (.agg [.list ja aair2, .list jb adis4])), (1, vV gz), (2, .val (.list yD c9)), (3, .ptr 0 3 0), (6, .lst true true 42 []), (7, vI 0), (8, vI 0)], [bx 36 [(3, some [.val (.list ja aair2), .val (.list jb adis4)])]], KK⟩)
theorem Qnf (lb n : Nat) (ja : Bool) (aair2 : LL) (jb : Bool) (adis4 : LL) (yD : Bool) (c9 : LL) (gz : CV) :
 Qkk lb n ja aair2 jb adis4 yD c9 gz =
 some (.tup [gz, .int .i64 (c9.length : Int), .int .i64 0]) := (Qac _).trans (by kernel_rfl)
theorem QeX (lb n gA : Nat) (ja : Bool) (aair2 : LL) (jb : Bool) (adis4 : LL) (yD : Bool) (c9 : LL) (oT : CV) (vf : Int) :
 revision_All_L1 lb n (gA + 1) ja aair2 jb adis4 yD c9 oT vf =
 bif (decide (vf < (c9.length : Int))) then
 (optO (atL c9 vf) fun c47 =>
 chkO (c47.length == 9) (
 optO (c47[0]?) fun mt =>
 optO (c47[1]?) fun mf =>
 optO (c47[2]?) fun k5 =>
 optO (c47[3]?) fun me =>
 optO (c47[4]?) fun kO =>
 optO (c47[5]?) fun gm =>
 optO (c47[6]?) fun vz =>
 optO (c47[7]?) fun yX =>
 optO (c47[8]?) fun ve =>
 optO (C lb n Qbm [.agg [.list ja aair2, .list jb adis4], oT, .agg [mt, mf, k5, me, kO, gm, vz, yX, ve]]) fun nM =>
 optO (CV.asT nM) fun qH =>
 optO (qH[0]?) fun oP =>
 optO (CV.asT nM) fun qt =>
 optO (qt[1]?) fun mo =>
 optO (CV.asI .i64 mo) fun oq =>
 bif (oq != 0) then
 (some (.tup [.list true [], .int .i64 vf, mo]))
 else
 (revision_All_L1 lb n gA ja aair2 jb adis4 yD c9 oP (IntKind.wrap .i64 (vf + 1)))))
 else
 (Qkk lb n ja aair2 jb adis4 yD c9 oT) := (Qac _).trans (by kernel_rfl)
theorem QqO (lb n : Nat) (ja : Bool) (aair2 : LL) (jb : Bool) (adis4 : LL) (jy : Bool) (b6 : LL) (yD : Bool) (c9 : LL) :
 top lb n Qbz [.agg [.list ja aair2, .list jb adis4], .list jy b6, .list yD c9] =
 revision_All_L1 lb n n ja aair2 jb adis4 yD c9 (.list jy b6) 0 := by kernel_rfl
noncomputable def QiZ (lb n gA : Nat) (ja : Bool) (aair2 : LL) (jb : Bool) (adis4 : LL) (yD : Bool) (c9 : LL) (oT : CV) (vf : Int) : Option CV :=
 hold (Qar (E0 lb n 0 995) 0 (Qad (sub (B Qc3) [1, 0, 1, 0, 0]) ++ [10, 11]) [] (sub (B Qc3) [1, 0, 1, 0, 0]) (Qaj 0 (seqK (E0 lb n 0 998) (sub (B Qc3) [1, 0]) (sub (B Qc3) [1, 1]) (retK Tryz.prog (R Qc3) 0 (outK (Qaf Tryz.prog Qc3))))) gA ⟨fr 36 [(0, .val (.agg [.list ja aair2, .list jb adis4])), (1, vV oT), (2, .val (.list yD c9)), (3, .ptr 0 3 0), (6, .lst true true 42 []), (7, vI 0), (8, vI 0), (9, vI vf)], [bx 36 [(3, some [.val (.list ja aair2), .val (.list jb adis4)])]], KK⟩)
noncomputable def QqP (lb n : Nat) (ja : Bool) (aair2 : LL) (jb : Bool) (adis4 : LL) (yD : Bool) (c9 : LL) (gz : CV) (qu : Int) : Option CV :=
 hold (E0 lb n 0 998 (sub (B Qc3) [1, 1]) (retK Tryz.prog (R Qc3) 0 (outK (Qaf Tryz.prog Qc3))) ⟨fr 36 [(0, .val (.agg [.list ja aair2, .list jb adis4])), (1, vV gz), (2, .val (.list yD c9)), (3, .ptr 0 3 0), (6, .lst true true 42 []), (7, vI 0), (8, vI 0), (9, vI qu)], [bx 36 [(3, some [.val (.list ja aair2), .val (.list jb adis4)])]], KK⟩)
theorem Qtp (lb n : Nat) (ja : Bool) (aair2 : LL) (jb : Bool) (adis4 : LL) (yD : Bool) (c9 : LL) (gz : CV) (qu : Int) :
 QqP lb n ja aair2 jb adis4 yD c9 gz qu =
 some (.tup [gz, .int .i64 (c9.length : Int), .int .i64 0]) := (Qac _).trans (by kernel_rfl)
theorem Qhg (lb n gA : Nat) (ja : Bool) (aair2 : LL) (jb : Bool) (adis4 : LL) (yD : Bool) (c9 : LL) (oT : CV) (vf : Int) :
 QiZ lb n (gA + 1) ja aair2 jb adis4 yD c9 oT vf =
 bif (decide (vf < (c9.length : Int))) then
 (optO (atL c9 vf) fun c47 =>
 chkO (c47.length == 9) (
 optO (c47[0]?) fun mt =>
 optO (c47[1]?) fun mf =>
 optO (c47[2]?) fun k5 =>
 optO (c47[3]?) fun me =>
 optO (c47[4]?) fun kO =>
 optO (c47[5]?) fun gm =>
 optO (c47[6]?) fun vz =>
 optO (c47[7]?) fun yX =>
 optO (c47[8]?) fun ve =>
 optO (C lb n QaD [.agg [.list ja aair2, .list jb adis4], oT, .agg [mt, mf, k5, me, kO, gm, vz, yX, ve]]) fun nM =>
 optO (CV.asT nM) fun qH =>
 optO (qH[0]?) fun oP =>
 optO (CV.asT nM) fun qt =>
 optO (qt[1]?) fun mo =>
 optO (CV.asI .i64 mo) fun oq =>
 bif (oq != 0) then
 (some (.tup [.list true [], .int .i64 vf, mo]))
 else
 (QiZ lb n gA ja aair2 jb adis4 yD c9 oP (IntKind.wrap .i64 (vf + 1)))))
 else
 (QqP lb n ja aair2 jb adis4 yD c9 oT vf) := (Qac _).trans (by kernel_rfl)
theorem QwP (lb n : Nat) (ja : Bool) (aair2 : LL) (jb : Bool) (adis4 : LL) (jy : Bool) (b6 : LL) (yD : Bool) (c9 : LL) :
 top lb n Qc3 [.agg [.list ja aair2, .list jb adis4], .list jy b6, .list yD c9] =
 QiZ lb n n ja aair2 jb adis4 yD c9 (.list jy b6) 0 := by kernel_rfl
noncomputable def QdE (lb n pZ : Nat) (ja : Bool) (aair2 : LL) (jb : Bool) (adis4 : LL) (jy : Bool) (b6 : LL) (yD : Bool) (c9 : LL) (vf : Int) : Option CV :=
 hold (Qar (E0 lb n 0 994) 0 (Qad (sub (B Qbd) [1, 1, 0, 1, 0, 0]) ++ []) [] (sub (B Qbd) [1, 1, 0, 1, 0, 0]) (Qaj 0 (seqK (E0 lb n 0 997) (sub (B Qbd) [1, 1, 0]) (sub (B Qbd) [1, 1, 1]) (retK Tryz.prog (R Qbd) 0 (outK (Qaf Tryz.prog Qbd))))) pZ ⟨fr 69 [(0, .val (.agg [.list ja aair2, .list jb adis4])), (1, .val (.list jy b6)), (2, .val (.list yD c9)), (3, .ptr 0 3 0), (6, vB false), (7, vI vf)], [bx 69 [(3, some [.val (.list ja aair2), .val (.list jb adis4)])]], KK⟩)
noncomputable def QeY (lb n : Nat) (ja : Bool) (aair2 : LL) (jb : Bool) (adis4 : LL) (jy : Bool) (b6 : LL) (yD : Bool) (c9 : LL) (g9 : Int) : Option CV :=
 hold (E0 lb n 0 997 (sub (B Qbd) [1, 1, 1]) (retK Tryz.prog (R Qbd) 0 (outK (Qaf Tryz.prog Qbd))) ⟨fr 69 [(0, .val (.agg [.list ja aair2, .list jb adis4])), (1, .val (.list jy b6)), (2, .val (.list yD c9)), (3, .ptr 0 3 0), (6, vB false), (7, vI g9)], [bx 69 [(3, some [.val (.list ja aair2), .val (.list jb adis4)])]], KK⟩)
theorem QjJ (lb n : Nat) (ja : Bool) (aair2 : LL) (jb : Bool) (adis4 : LL) (jy : Bool) (b6 : LL) (yD : Bool) (c9 : LL) (g9 : Int) :
 QeY lb n ja aair2 jb adis4 jy b6 yD c9 g9 =
 optO (C lb n Qbz [.agg [.list ja aair2, .list jb adis4], .list jy b6, .list yD c9]) fun qR =>
 optO (CV.asT qR) fun lG =>
 optO (lG[0]?) fun qw =>
 optO (CV.asT qR) fun rE =>
 optO (rE[1]?) fun qJ =>
 optO (CV.asT qR) fun tC =>
 optO (tC[2]?) fun kZ =>
 optO (C lb n Qc3 [.agg [.list ja aair2, .list jb adis4], .list jy b6, .list yD c9]) fun qp =>
 optO (CV.asT qp) fun tA =>
 optO (tA[0]?) fun kf =>
 optO (CV.asT qp) fun rN =>
 optO (rN[1]?) fun mI =>
 optO (CV.asT qp) fun ti =>
 optO (ti[2]?) fun qn =>
 optO (C lb n QbR [qw, kf]) fun rz =>
 optO (CV.asB rz) fun gu =>
 bif gu then
 (optO (CV.asI .i64 qJ) fun i75 =>
 optO (CV.asI .i64 mI) fun i76 =>
 bif (i75 == i76) then
 (optO (CV.asI .i64 kZ) fun kS =>
 optO (CV.asI .i64 qn) fun gU =>
 bif (kS == gU) then
 (optO (C lb n Qeg []) fun qD =>
 some (qD))
 else
 (some (.bool false)))
 else
 (some (.bool false)))
 else
 (some (.bool false)) := (Qac _).trans (by kernel_rfl)
theorem QdD (lb n pZ : Nat) (ja : Bool) (aair2 : LL) (jb : Bool) (adis4 : LL) (jy : Bool) (b6 : LL) (yD : Bool) (c9 : LL) (vf : Int) :
 QdE lb n (pZ + 1) ja aair2 jb adis4 jy b6 yD c9 vf =
 bif (decide (vf < (c9.length : Int))) then
 (optO (atL c9 vf) fun c44 =>
 chkO (c44.length == 9) (
 optO (c44[0]?) fun n7 =>
 optO (c44[1]?) fun nI =>
 optO (c44[2]?) fun pc =>
 optO (c44[3]?) fun mt =>
 optO (c44[4]?) fun mf =>
 optO (c44[5]?) fun k5 =>
 optO (c44[6]?) fun me =>
 optO (c44[7]?) fun kO =>
 optO (c44[8]?) fun gm =>
 optO (C lb n Qky [.agg [n7, nI, pc, mt, mf, k5, me, kO, gm]]) fun lV =>
 optO (CV.asB lV) fun rZ =>
 bif (!rZ) then
 (optO (C lb n Qeg []) fun kV =>
 some (kV))
 else
 (QdE lb n pZ ja aair2 jb adis4 jy b6 yD c9 (IntKind.wrap .i64 (vf + 1)))))
 else
 (QeY lb n ja aair2 jb adis4 jy b6 yD c9 vf) := (Qac _).trans (by kernel_rfl)
theorem QeP (lb n : Nat) (ja : Bool) (aair2 : LL) (jb : Bool) (adis4 : LL) (jy : Bool) (b6 : LL) (yD : Bool) (c9 : LL) :
 top lb n Qbd [.agg [.list ja aair2, .list jb adis4], .list jy b6, .list yD c9] =
 optO (C lb n QkA [.agg [.list ja aair2, .list jb adis4], .list jy b6]) fun gj =>
 optO (CV.asB gj) fun gK =>
 bif (!gK) then
 (optO (C lb n Qeg []) fun yJ =>
 some (yJ))
 else
 (bif (decide ((c9.length : Int) > 5)) then
 (optO (C lb n Qeg []) fun oM =>
 some (oM))
 else
 (QdE lb n n ja aair2 jb adis4 jy b6 yD c9 0)) := by kernel_rfl
end Go.Proofs
