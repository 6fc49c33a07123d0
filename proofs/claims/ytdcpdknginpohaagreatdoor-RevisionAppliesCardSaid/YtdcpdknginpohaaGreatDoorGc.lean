/- Equations of functions, printed by program. Conditions: none. -/
import Derived.Test.YtdcpdknginpohaaGreatDoorEv
namespace Go.Proofs
open Go.Am
set_option maxRecDepth 100000
set_option linter.unusedVariables false
noncomputable def r07_Big_L1 :=
 fun lb n (k4 : Nat) (ja : Bool) (aair2 : LL) (jb : Bool) (adis4 : LL) bcar5 jg jd jf jc (je : Bool) (bleg12 : LL) k5 ve =>
 hold (Qas (E0 lb n 0 994) 0 (Qad (sub (B Qcr) [1, 1, 0, 1, 0, 0]) ++ []) [] (sub (B Qcr) [1, 1, 0, 1, 0, 0]) (Qak 0 (seqK (E0 lb n 0 997) (sub (B Qcr) [1, 1, 0]) (sub (B Qcr) [1, 1, 1]) (retK Tryz.prog (R Qcr) 0 (outK (Qaf Tryz.prog Qcr))))) k4 ⟨fr 66 [(0, .val (.agg [.list ja aair2, .list jb adis4])), (1, .val (.agg [.str bcar5, .int .i64 jg, .int .i64 jd, .int .i64 jf, .int .i64 jc, .list je bleg12])), (2, .ptr 0 2 0), (3, .ptr 0 3 0), (4, vB false), (5, vI k5), (6, vI ve), (7, .ptr 0 3 0), (8, vS bcar5), (9, .val (.int .i64 (bcar5.length : Int)))], [bx 66 [(2, some [.val (.list ja aair2), .val (.list jb adis4)]), (3, some [vS bcar5, vI jg, vI jd, vI jf, vI jc, .val (.list je bleg12)])]], KK⟩)
noncomputable def QiJ (lb n : Nat) (ja : Bool) (aair2 : LL) (jb : Bool) (adis4 : LL) (bcar5 : LB) (jg jd jf jc : Int) (je : Bool) (bleg12 : LL) (oR i46 : Int) : Option CV :=
 hold (E0 lb n 0 997 (sub (B Qcr) [1, 1, 1]) (retK Tryz.prog (R Qcr) 0 (outK (Qaf Tryz.prog Qcr))) ⟨fr 66 [(0, .val (.agg [.list ja aair2, .list jb adis4])), (1, .val (.agg [.str bcar5, .int .i64 jg, .int .i64 jd, .int .i64 jf, .int .i64 jc, .list je bleg12])), (2, .ptr 0 2 0), (3, .ptr 0 3 0), (4, vB false), (5, vI oR), (6, vI i46), (7, .ptr 0 3 0), (8, vS bcar5), (9, .val (.int .i64 (bcar5.length : Int)))], [bx 66 [(2, some [.val (.list ja aair2), .val (.list jb adis4)]), (3, some [vS bcar5, vI jg, vI jd, vI jf, vI jc, .val (.list je bleg12)])]], KK⟩)
theorem QsY (lb n : Nat) (ja : Bool) (aair2 : LL) (jb : Bool) (adis4 : LL) (bcar5 : LB) (jg jd jf jc : Int) (je : Bool) (bleg12 : LL) (oR i46 : Int) :
 QiJ lb n ja aair2 jb adis4 bcar5 jg jd jf jc je bleg12 oR i46 =
 bif (decide (oR > 400)) then
 (some (.bool true))
 else
 (bif (decide ((bleg12.length : Int) > 12)) then
 (some (.bool true))
 else
 (bif (decide ((aair2.length : Int) > 20)) then
 (some (.bool true))
 else
 (some (.bool (decide ((adis4.length : Int) > 40)))))) := (Qac _).trans (by kernel_rfl)
theorem QjE (lb n k4 : Nat) (ja : Bool) (aair2 : LL) (jb : Bool) (adis4 : LL) (bcar5 : LB) (jg jd jf jc : Int) (je : Bool) (bleg12 : LL) (k5 ve : Int) :
 r07_Big_L1 lb n (k4 + 1) ja aair2 jb adis4 bcar5 jg jd jf jc je bleg12 k5 ve =
 bif (decide (ve < (bleg12.length : Int))) then
 (bif (decide (ve < 20)) then
 (optO (atL bleg12 ve) fun c36 =>
 chkO (c36.length == 5) (
 optO (c36[0]?) fun yE =>
 optO (CV.asS yE) fun s38 =>
 optO (atL bleg12 ve) fun c39 =>
 chkO (c39.length == 5) (
 optO (c39[1]?) fun oY =>
 optO (CV.asS oY) fun s41 =>
 optO (atL bleg12 ve) fun c42 =>
 chkO (c42.length == 5) (
 optO (c42[4]?) fun oM =>
 optO (CV.asS oM) fun s44 =>
 r07_Big_L1 lb n k4 ja aair2 jb adis4 bcar5 jg jd jf jc je bleg12 (IntKind.wrap .i64 ((IntKind.wrap .i64 ((IntKind.wrap .i64 (k5 + (s38.length : Int))) + (s41.length : Int))) + (s44.length : Int))) (IntKind.wrap .i64 (ve + 1))))))
 else
 (QiJ lb n ja aair2 jb adis4 bcar5 jg jd jf jc je bleg12 k5 ve))
 else
 (QiJ lb n ja aair2 jb adis4 bcar5 jg jd jf jc je bleg12 k5 ve) := (Qac _).trans (by kernel_rfl)
theorem Qwo (lb n : Nat) (ja : Bool) (aair2 : LL) (jb : Bool) (adis4 : LL) (bcar5 : LB) (jg jd jf jc : Int) (je : Bool) (bleg12 : LL) :
 top lb n Qcr [.agg [.list ja aair2, .list jb adis4], .agg [.str bcar5, .int .i64 jg, .int .i64 jd, .int .i64 jf, .int .i64 jc, .list je bleg12]] =
 r07_Big_L1 lb n n ja aair2 jb adis4 bcar5 jg jd jf jc je bleg12 (bcar5.length : Int) 0 := by kernel_rfl
noncomputable def QfC (lb n oc : Nat) (ja : Bool) (aair2 : LL) (jb : Bool) (adis4 : LL) (gT : Bool) (nP : LL) (vd : Int) : Option CV :=
 hold (Qas (E0 lb n 0 994) 0 (Qad (sub (B Qal) [1, 1, 0, 1, 0, 0]) ++ [5, 6, 6]) [] (sub (B Qal) [1, 1, 0, 1, 0, 0]) (Qak 0 (seqK (E0 lb n 0 997) (sub (B Qal) [1, 1, 0]) (sub (B Qal) [1, 1, 1]) (retK Tryz.prog (R Qal) 0 (outK (Qaf Tryz.prog Qal))))) oc ⟨fr 65 [(0, .val (.agg [.list ja aair2, .list jb adis4])), (1, .ptr 0 1 0), (2, .lst true true 83 []), (3, .lst true gT 83 nP), (4, vI vd)], [bx 65 [(1, some [.val (.list ja aair2), .val (.list jb adis4)])]], KK⟩)
noncomputable def QgR (lb n pA oc : Nat) (ja : Bool) (aair2 : LL) (jb : Bool) (adis4 : LL) (vd : Int) (og : CV) (nW : Bool) (l65 : LL) (gY : Int) : Option CV :=
 hold (Qas (E0 lb n 0 987) 0 (Qad (sub (B Qal) [1, 1, 0, 1, 0, 0, 1, 0, 0, 1, 1, 0, 0]) ++ []) [] (sub (B Qal) [1, 1, 0, 1, 0, 0, 1, 0, 0, 1, 1, 0, 0]) (Qak 2 (Qak 1 (seqK (E0 lb n 0 992) (sub (B Qal) [1, 1, 0, 1, 0, 0, 1, 0]) (sub (B Qal) [1, 1, 0, 1, 0, 0, 1, 1]) (QbH 0 (Qad (sub (B Qal) [1, 1, 0, 1, 0, 0]) ++ [5, 6, 6]) [] (Qas (E0 lb n 0 994) 0 (Qad (sub (B Qal) [1, 1, 0, 1, 0, 0]) ++ [5, 6, 6]) [] (sub (B Qal) [1, 1, 0, 1, 0, 0]) (Qak 0 (seqK (E0 lb n 0 997) (sub (B Qal) [1, 1, 0]) (sub (B Qal) [1, 1, 1]) (retK Tryz.prog (R Qal) 0 (outK (Qaf Tryz.prog Qal))))) oc) (Qak 0 (seqK (E0 lb n 0 997) (sub (B Qal) [1, 1, 0]) (sub (B Qal) [1, 1, 1]) (retK Tryz.prog (R Qal) 0 (outK (Qaf Tryz.prog Qal))))))))) pA ⟨fr 65 [(0, .val (.agg [.list ja aair2, .list jb adis4])), (1, .ptr 0 1 0), (2, .lst true true 83 []), (3, .lst true nW 83 l65), (4, vI vd), (5, vV og), (6, vI gY), (17, .val (.agg [.list ja aair2, .list jb adis4])), (18, vI vd), (19, vV og)], [bx 65 [(1, some [.val (.list ja aair2), .val (.list jb adis4)])]], KK⟩)
noncomputable def Qnx (lb n oc : Nat) (ja : Bool) (aair2 : LL) (jb : Bool) (adis4 : LL) (vd : Int) (y9 : Bool) (pQ : LL) (qc : CV) (p9 : Int) : Option CV :=
 hold (E0 lb n 0 992 (sub (B Qal) [1, 1, 0, 1, 0, 0, 1, 1]) (QbH 0 (Qad (sub (B Qal) [1, 1, 0, 1, 0, 0]) ++ [5, 6, 6]) [] (Qas (E0 lb n 0 994) 0 (Qad (sub (B Qal) [1, 1, 0, 1, 0, 0]) ++ [5, 6, 6]) [] (sub (B Qal) [1, 1, 0, 1, 0, 0]) (Qak 0 (seqK (E0 lb n 0 997) (sub (B Qal) [1, 1, 0]) (sub (B Qal) [1, 1, 1]) (retK Tryz.prog (R Qal) 0 (outK (Qaf Tryz.prog Qal))))) oc) (Qak 0 (seqK (E0 lb n 0 997) (sub (B Qal) [1, 1, 0]) (sub (B Qal) [1, 1, 1]) (retK Tryz.prog (R Qal) 0 (outK (Qaf Tryz.prog Qal)))))) ⟨fr 65 [(0, .val (.agg [.list ja aair2, .list jb adis4])), (1, .ptr 0 1 0), (2, .lst true true 83 []), (3, .lst true y9 83 pQ), (4, vI vd), (5, vV qc), (6, vI p9)], [bx 65 [(1, some [.val (.list ja aair2), .val (.list jb adis4)])]], KK⟩)
theorem Qqj (lb n oc : Nat) (ja : Bool) (aair2 : LL) (jb : Bool) (adis4 : LL) (vd : Int) (y9 : Bool) (pQ : LL) (qc : CV) (p9 : Int) :
 Qnx lb n oc ja aair2 jb adis4 vd y9 pQ qc p9 =
 QfC lb n oc ja aair2 jb adis4 y9 pQ (IntKind.wrap .i64 (vd + 1)) := (Qac _).trans (by kernel_rfl)
theorem QiC (lb n pA oc : Nat) (ja : Bool) (aair2 : LL) (jb : Bool) (adis4 : LL) (vd : Int) (og : CV) (nW : Bool) (l65 : LL) (gY : Int) :
 QgR lb n (pA + 1) oc ja aair2 jb adis4 vd og nW l65 gY =
 optO (CV.asL og) fun re =>
 bif (decide (gY < (re.2.length : Int))) then
 (optO (CV.asL og) fun tj =>
 optO (atL tj.2 gY) fun c76 =>
 chkO (c76.length == 1) (
 optO (c76[0]?) fun qI =>
 optO (C lb n QdW [.int .i64 vd]) fun rF =>
 optO (CV.asS rF) fun s79 =>
 chkO (decide (([97, 105, 114, 112, 111, 114, 116, 32] : LB).length + s79.length ≤ 9223372036854775807)) (
 chkO (CV.isCell qI) (
 chkO (room (l65.length + 1) 24) (
 QgR lb n pA oc ja aair2 jb adis4 vd og (nW && false) (l65 ++ [[qI, CV.str (([97, 105, 114, 112, 111, 114, 116, 32] : LB) ++ s79)]]) (IntKind.wrap .i64 (gY + 1)))))))
 else
 (Qnx lb n oc ja aair2 jb adis4 vd nW l65 og gY) := (Qac _).trans (by kernel_rfl)
noncomputable def QmF (lb n : Nat) (ja : Bool) (aair2 : LL) (jb : Bool) (adis4 : LL) (oV : Bool) (l85 : LL) (yY : Int) : Option CV :=
 hold (E0 lb n 0 997 (sub (B Qal) [1, 1, 1]) (retK Tryz.prog (R Qal) 0 (outK (Qaf Tryz.prog Qal))) ⟨fr 65 [(0, .val (.agg [.list ja aair2, .list jb adis4])), (1, .ptr 0 1 0), (2, .lst true true 83 []), (3, .lst true oV 83 l85), (4, vI yY)], [bx 65 [(1, some [.val (.list ja aair2), .val (.list jb adis4)])]], KK⟩)
noncomputable def Qeu (lb n ki : Nat) (ja : Bool) (aair2 : LL) (jb : Bool) (adis4 : LL) (yY : Int) (md : Bool) (mf : LL) (vl : Int) : Option CV :=
 hold (Qas (E0 lb n 0 993) 0 (Qad (sub (B Qal) [1, 1, 1, 0, 1, 0, 0]) ++ [8, 9, 9]) [] (sub (B Qal) [1, 1, 1, 0, 1, 0, 0]) (Qak 4 (seqK (E0 lb n 0 996) (sub (B Qal) [1, 1, 1, 0]) (sub (B Qal) [1, 1, 1, 1]) (retK Tryz.prog (R Qal) 0 (outK (Qaf Tryz.prog Qal))))) ki ⟨fr 65 [(0, .val (.agg [.list ja aair2, .list jb adis4])), (1, .ptr 0 1 0), (2, .lst true true 83 []), (3, .lst true md 83 mf), (4, vI yY), (7, vI vl)], [bx 65 [(1, some [.val (.list ja aair2), .val (.list jb adis4)])]], KK⟩)
noncomputable def QgT (lb n mZ ki : Nat) (ja : Bool) (aair2 : LL) (jb : Bool) (adis4 : LL) (yY vl : Int) (oi : CV) (gU : Bool) (l143 : LL) (o6 : Int) : Option CV :=
 hold (Qas (E0 lb n 0 986) 0 (Qad (sub (B Qal) [1, 1, 1, 0, 1, 0, 0, 1, 0, 0, 1, 1, 0, 0]) ++ []) [] (sub (B Qal) [1, 1, 1, 0, 1, 0, 0, 1, 0, 0, 1, 1, 0, 0]) (Qak 6 (Qak 5 (seqK (E0 lb n 0 991) (sub (B Qal) [1, 1, 1, 0, 1, 0, 0, 1, 0]) (sub (B Qal) [1, 1, 1, 0, 1, 0, 0, 1, 1]) (QbH 0 (Qad (sub (B Qal) [1, 1, 1, 0, 1, 0, 0]) ++ [8, 9, 9]) [] (Qas (E0 lb n 0 993) 0 (Qad (sub (B Qal) [1, 1, 1, 0, 1, 0, 0]) ++ [8, 9, 9]) [] (sub (B Qal) [1, 1, 1, 0, 1, 0, 0]) (Qak 4 (seqK (E0 lb n 0 996) (sub (B Qal) [1, 1, 1, 0]) (sub (B Qal) [1, 1, 1, 1]) (retK Tryz.prog (R Qal) 0 (outK (Qaf Tryz.prog Qal))))) ki) (Qak 4 (seqK (E0 lb n 0 996) (sub (B Qal) [1, 1, 1, 0]) (sub (B Qal) [1, 1, 1, 1]) (retK Tryz.prog (R Qal) 0 (outK (Qaf Tryz.prog Qal))))))))) mZ ⟨fr 65 [(0, .val (.agg [.list ja aair2, .list jb adis4])), (1, .ptr 0 1 0), (2, .lst true true 83 []), (3, .lst true gU 83 l143), (4, vI yY), (7, vI vl), (8, vV oi), (9, vI o6), (44, .val (.agg [.list ja aair2, .list jb adis4])), (45, vI vl), (46, vV oi)], [bx 65 [(1, some [.val (.list ja aair2), .val (.list jb adis4)])]], KK⟩)
noncomputable def QmZ (lb n ki : Nat) (ja : Bool) (aair2 : LL) (jb : Bool) (adis4 : LL) (yY vl : Int) (mS : Bool) (mL : LL) (nX : CV) (w6 : Int) : Option CV :=
 hold (E0 lb n 0 991 (sub (B Qal) [1, 1, 1, 0, 1, 0, 0, 1, 1]) (QbH 0 (Qad (sub (B Qal) [1, 1, 1, 0, 1, 0, 0]) ++ [8, 9, 9]) [] (Qas (E0 lb n 0 993) 0 (Qad (sub (B Qal) [1, 1, 1, 0, 1, 0, 0]) ++ [8, 9, 9]) [] (sub (B Qal) [1, 1, 1, 0, 1, 0, 0]) (Qak 4 (seqK (E0 lb n 0 996) (sub (B Qal) [1, 1, 1, 0]) (sub (B Qal) [1, 1, 1, 1]) (retK Tryz.prog (R Qal) 0 (outK (Qaf Tryz.prog Qal))))) ki) (Qak 4 (seqK (E0 lb n 0 996) (sub (B Qal) [1, 1, 1, 0]) (sub (B Qal) [1, 1, 1, 1]) (retK Tryz.prog (R Qal) 0 (outK (Qaf Tryz.prog Qal)))))) ⟨fr 65 [(0, .val (.agg [.list ja aair2, .list jb adis4])), (1, .ptr 0 1 0), (2, .lst true true 83 []), (3, .lst true mS 83 mL), (4, vI yY), (7, vI vl), (8, vV nX), (9, vI w6)], [bx 65 [(1, some [.val (.list ja aair2), .val (.list jb adis4)])]], KK⟩)
theorem Qp5 (lb n ki : Nat) (ja : Bool) (aair2 : LL) (jb : Bool) (adis4 : LL) (yY vl : Int) (mS : Bool) (mL : LL) (nX : CV) (w6 : Int) :
 QmZ lb n ki ja aair2 jb adis4 yY vl mS mL nX w6 =
 Qeu lb n ki ja aair2 jb adis4 yY mS mL (IntKind.wrap .i64 (vl + 1)) := (Qac _).trans (by kernel_rfl)
theorem Qis (lb n mZ ki : Nat) (ja : Bool) (aair2 : LL) (jb : Bool) (adis4 : LL) (yY vl : Int) (oi : CV) (gU : Bool) (l143 : LL) (o6 : Int) :
 QgT lb n (mZ + 1) ki ja aair2 jb adis4 yY vl oi gU l143 o6 =
 optO (CV.asL oi) fun zE =>
 bif (decide (o6 < (zE.2.length : Int))) then
 (optO (CV.asL oi) fun sO =>
 optO (atL sO.2 o6) fun c154 =>
 chkO (c154.length == 1) (
 optO (c154[0]?) fun mB =>
 optO (C lb n QdW [.int .i64 vl]) fun sj =>
 optO (CV.asS sj) fun s157 =>
 chkO (decide (([100, 105, 115, 116, 97, 110, 99, 101, 32] : LB).length + s157.length ≤ 9223372036854775807)) (
 chkO (CV.isCell mB) (
 chkO (room (l143.length + 1) 24) (
 QgT lb n mZ ki ja aair2 jb adis4 yY vl oi (gU && false) (l143 ++ [[mB, CV.str (([100, 105, 115, 116, 97, 110, 99, 101, 32] : LB) ++ s157)]]) (IntKind.wrap .i64 (o6 + 1)))))))
 else
 (QmZ lb n ki ja aair2 jb adis4 yY vl gU l143 oi o6) := (Qac _).trans (by kernel_rfl)
noncomputable def QnF (lb n : Nat) (ja : Bool) (aair2 : LL) (jb : Bool) (adis4 : LL) (yY : Int) (m6 : Bool) (nh : LL) (n4 : Int) : Option CV :=
 hold (E0 lb n 0 996 (sub (B Qal) [1, 1, 1, 1]) (retK Tryz.prog (R Qal) 0 (outK (Qaf Tryz.prog Qal))) ⟨fr 65 [(0, .val (.agg [.list ja aair2, .list jb adis4])), (1, .ptr 0 1 0), (2, .lst true true 83 []), (3, .lst true m6 83 nh), (4, vI yY), (7, vI n4)], [bx 65 [(1, some [.val (.list ja aair2), .val (.list jb adis4)])]], KK⟩)
theorem QqJ (lb n : Nat) (ja : Bool) (aair2 : LL) (jb : Bool) (adis4 : LL) (yY : Int) (m6 : Bool) (nh : LL) (n4 : Int) :
 QnF lb n ja aair2 jb adis4 yY m6 nh n4 =
 some (.list m6 nh) := (Qac _).trans (by kernel_rfl)
theorem Qiu (lb n ki : Nat) (ja : Bool) (aair2 : LL) (jb : Bool) (adis4 : LL) (yY : Int) (md : Bool) (mf : LL) (vl : Int) :
 Qeu lb n (ki + 1) ja aair2 jb adis4 yY md mf vl =
 bif (decide (vl < (adis4.length : Int))) then
 (optO (C lb n Qa1 [.agg [.list ja aair2, .list jb adis4], .int .i64 vl]) fun oi =>
 QgT lb n n ki ja aair2 jb adis4 yY vl oi md mf 0)
 else
 (QnF lb n ja aair2 jb adis4 yY md mf vl) := (Qac _).trans (by kernel_rfl)
theorem QqB (lb n : Nat) (ja : Bool) (aair2 : LL) (jb : Bool) (adis4 : LL) (oV : Bool) (l85 : LL) (yY : Int) :
 QmF lb n ja aair2 jb adis4 oV l85 yY =
 Qeu lb n n ja aair2 jb adis4 yY oV l85 0 := (Qac _).trans (by kernel_rfl)
theorem Qiw (lb n oc : Nat) (ja : Bool) (aair2 : LL) (jb : Bool) (adis4 : LL) (gT : Bool) (nP : LL) (vd : Int) :
 QfC lb n (oc + 1) ja aair2 jb adis4 gT nP vd =
 bif (decide (vd < (aair2.length : Int))) then
 (optO (C lb n QaZ [.agg [.list ja aair2, .list jb adis4], .int .i64 vd]) fun og =>
 QgR lb n n oc ja aair2 jb adis4 vd og gT nP 0)
 else
 (QmF lb n ja aair2 jb adis4 gT nP vd) := (Qac _).trans (by kernel_rfl)
theorem Quu (lb n : Nat) (ja : Bool) (aair2 : LL) (jb : Bool) (adis4 : LL) :
 top lb n Qal [.agg [.list ja aair2, .list jb adis4]] =
 QfC lb n n ja aair2 jb adis4 true [] 0 := by kernel_rfl
noncomputable def QdL (lb n : Nat) (ja : Bool) (aair2 : LL) (jb : Bool) (adis4 : LL) (b5 : Int) (c6 : List CV) (x7 x9 we wI wH : CV) (yT : Bool) (l17 : LL) : Option CV :=
 hold (E0 lb n 0 996 (sub (B QaZ) [1, 1, 1, 1]) (retK Tryz.prog (R QaZ) 0 (outK (Qaf Tryz.prog QaZ))) ⟨fr 93 [(0, .val (.agg [.list ja aair2, .list jb adis4])), (1, vI b5), (2, .ptr 0 2 0), (4, .lst true true 36 []), (5, .lst true yT 36 l17), (6, .ptr 0 6 0), (11, .ptr 0 2 0), (12, .val (.list ja aair2)), (13, vI b5), (14, .cptr c6 0), (15, .val (.agg [x7, x9, we, wI, wH]))], [bx 93 [(2, some [.val (.list ja aair2), .val (.list jb adis4)]), (6, some [.val x7, .val x9, .val we, .val wI, .val wH])]], KK⟩)
noncomputable def Qcp (lb n gp : Nat) (ja : Bool) (aair2 : LL) (jb : Bool) (adis4 : LL) (b5 : Int) (yT : Bool) (l17 : LL) (c6 : List CV) (x7 x9 we wI wH : CV) (oK gJ : Bool) (vX : Int) : Option CV :=
 hold (Qas (E0 lb n 0 991) 0 (Qad (sub (B QaZ) [1, 1, 1, 1, 1, 0, 1, 0, 0]) ++ []) [] (sub (B QaZ) [1, 1, 1, 1, 1, 0, 1, 0, 0]) (Qak 0 (seqK (E0 lb n 0 994) (sub (B QaZ) [1, 1, 1, 1, 1, 0]) (sub (B QaZ) [1, 1, 1, 1, 1, 1]) (retK Tryz.prog (R QaZ) 0 (outK (Qaf Tryz.prog QaZ))))) gp ⟨fr 93 [(0, .val (.agg [.list ja aair2, .list jb adis4])), (1, vI b5), (2, .ptr 0 2 0), (4, .lst true true 36 []), (5, .lst true yT 36 l17), (6, .ptr 0 6 0), (7, vB oK), (8, vB gJ), (9, vI vX), (11, .ptr 0 2 0), (12, .val (.list ja aair2)), (13, vI b5), (14, .cptr c6 0), (15, .val (.agg [x7, x9, we, wI, wH]))], [bx 93 [(2, some [.val (.list ja aair2), .val (.list jb adis4)]), (6, some [.val x7, .val x9, .val we, .val wI, .val wH])]], KK⟩)
noncomputable def QfV (lb n : Nat) (ja : Bool) (aair2 : LL) (jb : Bool) (adis4 : LL) (b5 : Int) (yT : Bool) (l17 : LL) (c6 : List CV) (x7 x9 we wI wH : CV) (y8 y9 : Bool) (kE : Int) : Option CV :=
 hold (E0 lb n 0 994 (sub (B QaZ) [1, 1, 1, 1, 1, 1]) (retK Tryz.prog (R QaZ) 0 (outK (Qaf Tryz.prog QaZ))) ⟨fr 93 [(0, .val (.agg [.list ja aair2, .list jb adis4])), (1, vI b5), (2, .ptr 0 2 0), (4, .lst true true 36 []), (5, .lst true yT 36 l17), (6, .ptr 0 6 0), (7, vB y8), (8, vB y9), (9, vI kE), (11, .ptr 0 2 0), (12, .val (.list ja aair2)), (13, vI b5), (14, .cptr c6 0), (15, .val (.agg [x7, x9, we, wI, wH]))], [bx 93 [(2, some [.val (.list ja aair2), .val (.list jb adis4)]), (6, some [.val x7, .val x9, .val we, .val wI, .val wH])]], KK⟩)
noncomputable def QhD (lb n : Nat) (ja : Bool) (aair2 : LL) (jb : Bool) (adis4 : LL) (b5 : Int) (y8 y9 : Bool) (kE : Int) (c6 : List CV) (x7 x9 we wI wH : CV) (nQ : Bool) (l83 : LL) : Option CV :=
 hold (E0 lb n 0 993 (sub (B QaZ) [1, 1, 1, 1, 1, 1, 1]) (retK Tryz.prog (R QaZ) 0 (outK (Qaf Tryz.prog QaZ))) ⟨fr 93 [(0, .val (.agg [.list ja aair2, .list jb adis4])), (1, vI b5), (2, .ptr 0 2 0), (4, .lst true true 36 []), (5, .lst true nQ 36 l83), (6, .ptr 0 6 0), (7, vB y8), (8, vB y9), (9, vI kE), (11, .ptr 0 2 0), (12, .val (.list ja aair2)), (13, vI b5), (14, .cptr c6 0), (15, .val (.agg [x7, x9, we, wI, wH]))], [bx 93 [(2, some [.val (.list ja aair2), .val (.list jb adis4)]), (6, some [.val x7, .val x9, .val we, .val wI, .val wH])]], KK⟩)
noncomputable def QfL (lb n : Nat) (ja : Bool) (aair2 : LL) (jb : Bool) (adis4 : LL) (b5 : Int) (y8 y9 : Bool) (kE : Int) (c6 : List CV) (x7 x9 we wI wH : CV) (oV : Bool) (l85 : LL) : Option CV :=
 hold (E0 lb n 0 992 (sub (B QaZ) [1, 1, 1, 1, 1, 1, 1, 1]) (retK Tryz.prog (R QaZ) 0 (outK (Qaf Tryz.prog QaZ))) ⟨fr 93 [(0, .val (.agg [.list ja aair2, .list jb adis4])), (1, vI b5), (2, .ptr 0 2 0), (4, .lst true true 36 []), (5, .lst true oV 36 l85), (6, .ptr 0 6 0), (7, vB y8), (8, vB y9), (9, vI kE), (11, .ptr 0 2 0), (12, .val (.list ja aair2)), (13, vI b5), (14, .cptr c6 0), (15, .val (.agg [x7, x9, we, wI, wH]))], [bx 93 [(2, some [.val (.list ja aair2), .val (.list jb adis4)]), (6, some [.val x7, .val x9, .val we, .val wI, .val wH])]], KK⟩)
theorem Qn3 (lb n : Nat) (ja : Bool) (aair2 : LL) (jb : Bool) (adis4 : LL) (b5 : Int) (y8 y9 : Bool) (kE : Int) (c6 : List CV) (x7 x9 we wI wH : CV) (oV : Bool) (l85 : LL) :
 QfL lb n ja aair2 jb adis4 b5 y8 y9 kE c6 x7 x9 we wI wH oV l85 =
 optO (C lb n QbR [.agg [wI, wH]]) fun qt =>
 optO (CV.asI .i64 qt) fun lu =>
 bif (lu != 0) then
 (chkO (CV.isCell qt) (
 chkO (room (l85.length + 1) 8) (
 some (.list (oV && false) (l85 ++ [[qt]])))))
 else
 (some (.list oV l85)) := (Qac _).trans (by kernel_rfl)
theorem Qob (lb n : Nat) (ja : Bool) (aair2 : LL) (jb : Bool) (adis4 : LL) (b5 : Int) (y8 y9 : Bool) (kE : Int) (c6 : List CV) (x7 x9 we wI wH : CV) (nQ : Bool) (l83 : LL) :
 QhD lb n ja aair2 jb adis4 b5 y8 y9 kE c6 x7 x9 we wI wH nQ l83 =
 bif y9 then
 (chkO (room (l83.length + 1) 8) (
 QfL lb n ja aair2 jb adis4 b5 y8 y9 kE c6 x7 x9 we wI wH (nQ && false) (l83 ++ [[CV.int .i64 8]])))
 else
 (QfL lb n ja aair2 jb adis4 b5 y8 y9 kE c6 x7 x9 we wI wH nQ l83) := (Qac _).trans (by kernel_rfl)
theorem Qn5 (lb n : Nat) (ja : Bool) (aair2 : LL) (jb : Bool) (adis4 : LL) (b5 : Int) (yT : Bool) (l17 : LL) (c6 : List CV) (x7 x9 we wI wH : CV) (y8 y9 : Bool) (kE : Int) :
 QfV lb n ja aair2 jb adis4 b5 yT l17 c6 x7 x9 we wI wH y8 y9 kE =
 bif y8 then
 (chkO (room (l17.length + 1) 8) (
 QhD lb n ja aair2 jb adis4 b5 y8 y9 kE c6 x7 x9 we wI wH (yT && false) (l17 ++ [[CV.int .i64 6]])))
 else
 (QhD lb n ja aair2 jb adis4 b5 y8 y9 kE c6 x7 x9 we wI wH yT l17) := (Qac _).trans (by kernel_rfl)
theorem Qhd (lb n gp : Nat) (ja : Bool) (aair2 : LL) (jb : Bool) (adis4 : LL) (b5 : Int) (yT : Bool) (l17 : LL) (c6 : List CV) (x7 x9 we wI wH : CV) (oK gJ : Bool) (vX : Int) :
 Qcp lb n (gp + 1) ja aair2 jb adis4 b5 yT l17 c6 x7 x9 we wI wH oK gJ vX =
 bif (decide (vX < b5)) then
 (bif oK then
 (bif gJ then
 (Qcp lb n gp ja aair2 jb adis4 b5 yT l17 c6 x7 x9 we wI wH true true (IntKind.wrap .i64 (vX + 1)))
 else
 (optO (atL aair2 vX) fun c58 =>
 chkO (c58.length == 5) (
 optO (c58[1]?) fun gD =>
 optO (CV.asS gD) fun lA =>
 optO (CV.asS x9) fun l5 =>
 bif (lA == l5) then
 (optO (atL aair2 vX) fun c62 =>
 chkO (c62.length == 5) (
 optO (c62[2]?) fun kS =>
 optO (CV.asS kS) fun th =>
 optO (CV.asS we) fun ls =>
 Qcp lb n gp ja aair2 jb adis4 b5 yT l17 c6 x7 x9 we wI wH true (!(th == ls)) (IntKind.wrap .i64 (vX + 1))))
 else
 (Qcp lb n gp ja aair2 jb adis4 b5 yT l17 c6 x7 x9 we wI wH true false (IntKind.wrap .i64 (vX + 1))))))
 else
 (optO (atL aair2 vX) fun c67 =>
 chkO (c67.length == 5) (
 optO (c67[0]?) fun kB =>
 optO (CV.asS kB) fun nO =>
 optO (CV.asS x7) fun nC =>
 bif gJ then
 (Qcp lb n gp ja aair2 jb adis4 b5 yT l17 c6 x7 x9 we wI wH (nO == nC) true (IntKind.wrap .i64 (vX + 1)))
 else
 (optO (atL aair2 vX) fun c71 =>
 chkO (c71.length == 5) (
 optO (c71[1]?) fun lN =>
 optO (CV.asS lN) fun rG =>
 optO (CV.asS x9) fun ry =>
 bif (rG == ry) then
 (optO (atL aair2 vX) fun c75 =>
 chkO (c75.length == 5) (
 optO (c75[2]?) fun qx =>
 optO (CV.asS qx) fun lJ =>
 optO (CV.asS we) fun tg =>
 Qcp lb n gp ja aair2 jb adis4 b5 yT l17 c6 x7 x9 we wI wH (nO == nC) (!(lJ == tg)) (IntKind.wrap .i64 (vX + 1))))
 else
 (Qcp lb n gp ja aair2 jb adis4 b5 yT l17 c6 x7 x9 we wI wH (nO == nC) false (IntKind.wrap .i64 (vX + 1))))))))
 else
 (QfV lb n ja aair2 jb adis4 b5 yT l17 c6 x7 x9 we wI wH oK gJ vX) := (Qac _).trans (by kernel_rfl)
theorem Qog (lb n : Nat) (ja : Bool) (aair2 : LL) (jb : Bool) (adis4 : LL) (b5 : Int) (c6 : List CV) (x7 x9 we wI wH : CV) (yT : Bool) (l17 : LL) :
 QdL lb n ja aair2 jb adis4 b5 c6 x7 x9 we wI wH yT l17 =
 Qcp lb n n ja aair2 jb adis4 b5 yT l17 c6 x7 x9 we wI wH false false 0 := (Qac _).trans (by kernel_rfl)
theorem Qrw (lb n : Nat) (ja : Bool) (aair2 : LL) (jb : Bool) (adis4 : LL) (b5 : Int) :
 top lb n QaZ [.agg [.list ja aair2, .list jb adis4], .int .i64 b5] =
 optO (atL aair2 b5) fun c6 =>
 chkO (c6.length == 5) (
 optO (c6[0]?) fun x7 =>
 optO (c6[1]?) fun x9 =>
 optO (c6[2]?) fun we =>
 optO (c6[3]?) fun wI =>
 optO (c6[4]?) fun wH =>
 optO (C lb n Qgg [x7]) fun o4 =>
 optO (CV.asB o4) fun kf =>
 bif (!kf) then
 (QdL lb n ja aair2 jb adis4 b5 c6 x7 x9 we wI wH false [[CV.int .i64 5]])
 else
 (optO (C lb n Qgg [x9]) fun rf =>
 optO (CV.asB rf) fun lS =>
 bif (!lS) then
 (QdL lb n ja aair2 jb adis4 b5 c6 x7 x9 we wI wH false [[CV.int .i64 5]])
 else
 (optO (C lb n Qij [we]) fun qv =>
 optO (CV.asB qv) fun rp =>
 bif (!rp) then
 (QdL lb n ja aair2 jb adis4 b5 c6 x7 x9 we wI wH false [[CV.int .i64 5]])
 else
 (QdL lb n ja aair2 jb adis4 b5 c6 x7 x9 we wI wH true [])))) := by kernel_rfl
noncomputable def Qd9 (lb n : Nat) (ja : Bool) (aair2 : LL) (jb : Bool) (adis4 : LL) (b5 : Int) (ym wA : CV) (c6 : List CV) (x7 x9 we yl wX yh wn w5 yk wV yq wC wz yn wN w9 wY : CV) (vq : Bool) (l37 : LL) : Option CV :=
 hold (E0 lb n 0 994 (sub (B Qa1) [1, 1, 1, 1, 1, 1]) (retK Tryz.prog (R Qa1) 0 (outK (Qaf Tryz.prog Qa1))) ⟨fr 99 [(0, .val (.agg [.list ja aair2, .list jb adis4])), (1, vI b5), (2, .ptr 0 2 0), (4, .lst true true 36 []), (5, .lst true vq 36 l37), (6, .ptr 0 6 0), (7, .ptr 0 7 0), (8, vV ym), (9, .ptr 0 9 0), (10, vV wA), (14, .ptr 0 2 1), (15, .val (.list jb adis4)), (16, vI b5), (17, .cptr c6 0), (18, .val (.agg [x7, x9, we])), (19, vV yl), (20, .val (.agg [.list ja aair2, .list jb adis4])), (21, .ptr 0 6 0), (22, vV x7), (23, vV yl), (24, vV wX), (25, vV ym), (26, vV yh), (27, .val (.agg [.list ja aair2, .list jb adis4])), (28, .ptr 0 6 1), (29, vV x9), (30, vV yh), (31, vV wn), (32, vV wA)], [bx 99 [(2, some [.val (.list ja aair2), .val (.list jb adis4)]), (6, some [.val x7, .val x9, .val we]), (7, some [.val w5, .val yk, .val wV, .val yq, .val wC]), (9, some [.val wz, .val yn, .val wN, .val w9, .val wY])]], KK⟩)
noncomputable def Qb5 (lb n gg : Nat) (ja : Bool) (aair2 : LL) (jb : Bool) (adis4 : LL) (b5 : Int) (vq : Bool) (l37 : LL) (ym wA : CV) (c6 : List CV) (x7 x9 we yl wX yh wn w5 yk wV yq wC wz yn wN w9 wY : CV) (nN : Bool) (kp : Int) : Option CV :=
 hold (Qas (E0 lb n 0 989) 0 (Qad (sub (B Qa1) [1, 1, 1, 1, 1, 1, 1, 0, 1, 0, 0]) ++ []) [13] (sub (B Qa1) [1, 1, 1, 1, 1, 1, 1, 0, 1, 0, 0]) (Qak 0 (seqK (E0 lb n 0 992) (sub (B Qa1) [1, 1, 1, 1, 1, 1, 1, 0]) (sub (B Qa1) [1, 1, 1, 1, 1, 1, 1, 1]) (retK Tryz.prog (R Qa1) 0 (outK (Qaf Tryz.prog Qa1))))) gg ⟨fr 99 [(0, .val (.agg [.list ja aair2, .list jb adis4])), (1, vI b5), (2, .ptr 0 2 0), (4, .lst true true 36 []), (5, .lst true vq 36 l37), (6, .ptr 0 6 0), (7, .ptr 0 7 0), (8, vV ym), (9, .ptr 0 9 0), (10, vV wA), (11, vB nN), (12, vI kp), (14, .ptr 0 2 1), (15, .val (.list jb adis4)), (16, vI b5), (17, .cptr c6 0), (18, .val (.agg [x7, x9, we])), (19, vV yl), (20, .val (.agg [.list ja aair2, .list jb adis4])), (21, .ptr 0 6 0), (22, vV x7), (23, vV yl), (24, vV wX), (25, vV ym), (26, vV yh), (27, .val (.agg [.list ja aair2, .list jb adis4])), (28, .ptr 0 6 1), (29, vV x9), (30, vV yh), (31, vV wn), (32, vV wA)], [bx 99 [(2, some [.val (.list ja aair2), .val (.list jb adis4)]), (6, some [.val x7, .val x9, .val we]), (7, some [.val w5, .val yk, .val wV, .val yq, .val wC]), (9, some [.val wz, .val yn, .val wN, .val w9, .val wY])]], KK⟩)
noncomputable def Qfj (lb n : Nat) (ja : Bool) (aair2 : LL) (jb : Bool) (adis4 : LL) (b5 : Int) (vq : Bool) (l37 : LL) (ym wA : CV) (c6 : List CV) (x7 x9 we yl wX yh wn w5 yk wV yq wC wz yn wN w9 wY : CV) (ks : Bool) (oq : Int) : Option CV :=
 hold (E0 lb n 0 992 (sub (B Qa1) [1, 1, 1, 1, 1, 1, 1, 1]) (retK Tryz.prog (R Qa1) 0 (outK (Qaf Tryz.prog Qa1))) ⟨fr 99 [(0, .val (.agg [.list ja aair2, .list jb adis4])), (1, vI b5), (2, .ptr 0 2 0), (4, .lst true true 36 []), (5, .lst true vq 36 l37), (6, .ptr 0 6 0), (7, .ptr 0 7 0), (8, vV ym), (9, .ptr 0 9 0), (10, vV wA), (11, vB ks), (12, vI oq), (14, .ptr 0 2 1), (15, .val (.list jb adis4)), (16, vI b5), (17, .cptr c6 0), (18, .val (.agg [x7, x9, we])), (19, vV yl), (20, .val (.agg [.list ja aair2, .list jb adis4])), (21, .ptr 0 6 0), (22, vV x7), (23, vV yl), (24, vV wX), (25, vV ym), (26, vV yh), (27, .val (.agg [.list ja aair2, .list jb adis4])), (28, .ptr 0 6 1), (29, vV x9), (30, vV yh), (31, vV wn), (32, vV wA)], [bx 99 [(2, some [.val (.list ja aair2), .val (.list jb adis4)]), (6, some [.val x7, .val x9, .val we]), (7, some [.val w5, .val yk, .val wV, .val yq, .val wC]), (9, some [.val wz, .val yn, .val wN, .val w9, .val wY])]], KK⟩)
noncomputable def Qff (lb n : Nat) (ja : Bool) (aair2 : LL) (jb : Bool) (adis4 : LL) (b5 : Int) (ym wA : CV) (ks : Bool) (oq : Int) (c6 : List CV) (x7 x9 we yl wX yh wn w5 yk wV yq wC wz yn wN w9 wY : CV) (gv : Bool) (l101 : LL) : Option CV :=
 hold (E0 lb n 0 991 (sub (B Qa1) [1, 1, 1, 1, 1, 1, 1, 1, 1]) (retK Tryz.prog (R Qa1) 0 (outK (Qaf Tryz.prog Qa1))) ⟨fr 99 [(0, .val (.agg [.list ja aair2, .list jb adis4])), (1, vI b5), (2, .ptr 0 2 0), (4, .lst true true 36 []), (5, .lst true gv 36 l101), (6, .ptr 0 6 0), (7, .ptr 0 7 0), (8, vV ym), (9, .ptr 0 9 0), (10, vV wA), (11, vB ks), (12, vI oq), (14, .ptr 0 2 1), (15, .val (.list jb adis4)), (16, vI b5), (17, .cptr c6 0), (18, .val (.agg [x7, x9, we])), (19, vV yl), (20, .val (.agg [.list ja aair2, .list jb adis4])), (21, .ptr 0 6 0), (22, vV x7), (23, vV yl), (24, vV wX), (25, vV ym), (26, vV yh), (27, .val (.agg [.list ja aair2, .list jb adis4])), (28, .ptr 0 6 1), (29, vV x9), (30, vV yh), (31, vV wn), (32, vV wA)], [bx 99 [(2, some [.val (.list ja aair2), .val (.list jb adis4)]), (6, some [.val x7, .val x9, .val we]), (7, some [.val w5, .val yk, .val wV, .val yq, .val wC]), (9, some [.val wz, .val yn, .val wN, .val w9, .val wY])]], KK⟩)
theorem QmM (lb n : Nat) (ja : Bool) (aair2 : LL) (jb : Bool) (adis4 : LL) (b5 : Int) (ym wA : CV) (ks : Bool) (oq : Int) (c6 : List CV) (x7 x9 we yl wX yh wn w5 yk wV yq wC wz yn wN w9 wY : CV) (gv : Bool) (l101 : LL) :
 Qff lb n ja aair2 jb adis4 b5 ym wA ks oq c6 x7 x9 we yl wX yh wn w5 yk wV yq wC wz yn wN w9 wY gv l101 =
 optO (C lb n QfB [.agg [x7, x9, we]]) fun sQ =>
 optO (CV.asB sQ) fun zT =>
 bif (!zT) then
 (chkO (room (l101.length + 1) 8) (
 some (.list (gv && false) (l101 ++ [[CV.int .i64 2]]))))
 else
 (optO (CV.asS x7) fun pg =>
 optO (CV.asS x9) fun n8 =>
 bif (pg == n8) then
 (chkO (room (l101.length + 1) 8) (
 some (.list (gv && false) (l101 ++ [[CV.int .i64 2]]))))
 else
 (some (.list gv l101))) := (Qac _).trans (by kernel_rfl)
theorem Qne (lb n : Nat) (ja : Bool) (aair2 : LL) (jb : Bool) (adis4 : LL) (b5 : Int) (vq : Bool) (l37 : LL) (ym wA : CV) (c6 : List CV) (x7 x9 we yl wX yh wn w5 yk wV yq wC wz yn wN w9 wY : CV) (ks : Bool) (oq : Int) :
 Qfj lb n ja aair2 jb adis4 b5 vq l37 ym wA c6 x7 x9 we yl wX yh wn w5 yk wV yq wC wz yn wN w9 wY ks oq =
 bif ks then
 (chkO (room (l37.length + 1) 8) (
 Qff lb n ja aair2 jb adis4 b5 ym wA ks oq c6 x7 x9 we yl wX yh wn w5 yk wV yq wC wz yn wN w9 wY (vq && false) (l37 ++ [[CV.int .i64 6]])))
 else
 (Qff lb n ja aair2 jb adis4 b5 ym wA ks oq c6 x7 x9 we yl wX yh wn w5 yk wV yq wC wz yn wN w9 wY vq l37) := (Qac _).trans (by kernel_rfl)
theorem QgY (lb n gg : Nat) (ja : Bool) (aair2 : LL) (jb : Bool) (adis4 : LL) (b5 : Int) (vq : Bool) (l37 : LL) (ym wA : CV) (c6 : List CV) (x7 x9 we yl wX yh wn w5 yk wV yq wC wz yn wN w9 wY : CV) (nN : Bool) (kp : Int) :
 Qb5 lb n (gg + 1) ja aair2 jb adis4 b5 vq l37 ym wA c6 x7 x9 we yl wX yh wn w5 yk wV yq wC wz yn wN w9 wY nN kp =
 bif (decide (kp < b5)) then
 (optO (atL adis4 kp) fun c82 =>
 chkO (c82.length == 3) (
 optO (c82[0]?) fun kT =>
 optO (c82[1]?) fun kV =>
 optO (c82[2]?) fun ou =>
 bif nN then
 (Qb5 lb n gg ja aair2 jb adis4 b5 vq l37 ym wA c6 x7 x9 we yl wX yh wn w5 yk wV yq wC wz yn wN w9 wY true (IntKind.wrap .i64 (kp + 1)))
 else
 (optO (CV.asS kT) fun rP =>
 optO (CV.asS x7) fun rZ =>
 bif (rP == rZ) then
 (optO (CV.asS kV) fun rW =>
 optO (CV.asS x9) fun lW =>
 bif (rW == lW) then
 (Qb5 lb n gg ja aair2 jb adis4 b5 vq l37 ym wA c6 x7 x9 we yl wX yh wn w5 yk wV yq wC wz yn wN w9 wY true (IntKind.wrap .i64 (kp + 1)))
 else
 (optO (CV.asS kT) fun rD =>
 optO (CV.asS x9) fun s91 =>
 bif (rD == s91) then
 (optO (CV.asS kV) fun lU =>
 optO (CV.asS x7) fun rC =>
 Qb5 lb n gg ja aair2 jb adis4 b5 vq l37 ym wA c6 x7 x9 we yl wX yh wn w5 yk wV yq wC wz yn wN w9 wY (lU == rC) (IntKind.wrap .i64 (kp + 1)))
 else
 (Qb5 lb n gg ja aair2 jb adis4 b5 vq l37 ym wA c6 x7 x9 we yl wX yh wn w5 yk wV yq wC wz yn wN w9 wY false (IntKind.wrap .i64 (kp + 1)))))
 else
 (optO (CV.asS kT) fun lL =>
 optO (CV.asS x9) fun lq =>
 bif (lL == lq) then
 (optO (CV.asS kV) fun td =>
 optO (CV.asS x7) fun tu =>
 Qb5 lb n gg ja aair2 jb adis4 b5 vq l37 ym wA c6 x7 x9 we yl wX yh wn w5 yk wV yq wC wz yn wN w9 wY (td == tu) (IntKind.wrap .i64 (kp + 1)))
 else
 (Qb5 lb n gg ja aair2 jb adis4 b5 vq l37 ym wA c6 x7 x9 we yl wX yh wn w5 yk wV yq wC wz yn wN w9 wY false (IntKind.wrap .i64 (kp + 1)))))))
 else
 (Qfj lb n ja aair2 jb adis4 b5 vq l37 ym wA c6 x7 x9 we yl wX yh wn w5 yk wV yq wC wz yn wN w9 wY nN kp) := (Qac _).trans (by kernel_rfl)
theorem Qnt (lb n : Nat) (ja : Bool) (aair2 : LL) (jb : Bool) (adis4 : LL) (b5 : Int) (ym wA : CV) (c6 : List CV) (x7 x9 we yl wX yh wn w5 yk wV yq wC wz yn wN w9 wY : CV) (vq : Bool) (l37 : LL) :
 Qd9 lb n ja aair2 jb adis4 b5 ym wA c6 x7 x9 we yl wX yh wn w5 yk wV yq wC wz yn wN w9 wY vq l37 =
 Qb5 lb n n ja aair2 jb adis4 b5 vq l37 ym wA c6 x7 x9 we yl wX yh wn w5 yk wV yq wC wz yn wN w9 wY false 0 := (Qac _).trans (by kernel_rfl)
theorem Qqu (lb n : Nat) (ja : Bool) (aair2 : LL) (jb : Bool) (adis4 : LL) (b5 : Int) :
 top lb n Qa1 [.agg [.list ja aair2, .list jb adis4], .int .i64 b5] =
 optO (atL adis4 b5) fun c6 =>
 chkO (c6.length == 3) (
 optO (c6[0]?) fun x7 =>
 optO (c6[1]?) fun x9 =>
 optO (c6[2]?) fun we =>
 optO (C lb n Qco [.agg [.list ja aair2, .list jb adis4], x7]) fun yl =>
 optO (CV.asT yl) fun qj =>
 optO (qj[0]?) fun wX =>
 optO (CV.asT yl) fun l8 =>
 optO (l8[1]?) fun ym =>
 optO (CV.asA wX) fun c17 =>
 chkO (c17.length == 5) (
 optO (c17[0]?) fun w5 =>
 optO (c17[1]?) fun yk =>
 optO (c17[2]?) fun wV =>
 optO (c17[3]?) fun yq =>
 optO (c17[4]?) fun wC =>
 optO (C lb n Qco [.agg [.list ja aair2, .list jb adis4], x9]) fun yh =>
 optO (CV.asT yh) fun nL =>
 optO (nL[0]?) fun wn =>
 optO (CV.asT yh) fun nB =>
 optO (nB[1]?) fun wA =>
 optO (CV.asA wn) fun c28 =>
 chkO (c28.length == 5) (
 optO (c28[0]?) fun wz =>
 optO (c28[1]?) fun yn =>
 optO (c28[2]?) fun wN =>
 optO (c28[3]?) fun w9 =>
 optO (c28[4]?) fun wY =>
 optO (CV.asB ym) fun gJ =>
 bif (!gJ) then
 (Qd9 lb n ja aair2 jb adis4 b5 ym wA c6 x7 x9 we yl wX yh wn w5 yk wV yq wC wz yn wN w9 wY false [[CV.int .i64 14]])
 else
 (optO (CV.asB wA) fun zo =>
 bif (!zo) then
 (Qd9 lb n ja aair2 jb adis4 b5 ym wA c6 x7 x9 we yl wX yh wn w5 yk wV yq wC wz yn wN w9 wY false [[CV.int .i64 14]])
 else
 (Qd9 lb n ja aair2 jb adis4 b5 ym wA c6 x7 x9 we yl wX yh wn w5 yk wV yq wC wz yn wN w9 wY true []))))) := by kernel_rfl
noncomputable def QhY (lb n kv : Nat) (ja : Bool) (aair2 : LL) (jb : Bool) (adis4 : LL) (b5 : LB) (yD : Int) : Option CV :=
 hold (Qas (E0 lb n 0 995) 0 (Qad (sub (B Qco) [1, 0, 1, 0, 0]) ++ []) [] (sub (B Qco) [1, 0, 1, 0, 0]) (Qak 0 (seqK (E0 lb n 0 998) (sub (B Qco) [1, 0]) (sub (B Qco) [1, 1]) (retK Tryz.prog (R Qco) 0 (outK (Qaf Tryz.prog Qco))))) kv ⟨fr 28 [(0, .val (.agg [.list ja aair2, .list jb adis4])), (1, vS b5), (2, .ptr 0 2 0), (4, .ptr 0 4 0), (5, vB false), (6, vI yD)], [bx 28 [(2, some [.val (.list ja aair2), .val (.list jb adis4)]), (4, some [.val (.str []), .val (.str []), .val (.str []), vI 0, .lst true true 195 []])]], KK⟩)
noncomputable def QoX (lb n : Nat) (ja : Bool) (aair2 : LL) (jb : Bool) (adis4 : LL) (b5 : LB) (kc : Int) : Option CV :=
 hold (E0 lb n 0 998 (sub (B Qco) [1, 1]) (retK Tryz.prog (R Qco) 0 (outK (Qaf Tryz.prog Qco))) ⟨fr 28 [(0, .val (.agg [.list ja aair2, .list jb adis4])), (1, vS b5), (2, .ptr 0 2 0), (4, .ptr 0 4 0), (5, vB false), (6, vI kc)], [bx 28 [(2, some [.val (.list ja aair2), .val (.list jb adis4)]), (4, some [.val (.str []), .val (.str []), .val (.str []), vI 0, .lst true true 195 []])]], KK⟩)
theorem Qq4 (lb n : Nat) (ja : Bool) (aair2 : LL) (jb : Bool) (adis4 : LL) (b5 : LB) (kc : Int) :
 QoX lb n ja aair2 jb adis4 b5 kc =
 some (.tup [.agg [.str [], .str [], .str [], .int .i64 0, .list true []], .bool false]) := (Qac _).trans (by kernel_rfl)
theorem Qjw (lb n kv : Nat) (ja : Bool) (aair2 : LL) (jb : Bool) (adis4 : LL) (b5 : LB) (yD : Int) :
 QhY lb n (kv + 1) ja aair2 jb adis4 b5 yD =
 bif (decide (yD < (aair2.length : Int))) then
 (optO (atL aair2 yD) fun c28 =>
 chkO (c28.length == 5) (
 optO (c28[1]?) fun wz =>
 optO (CV.asS wz) fun gO =>
 bif (gO == b5) then
 (optO (atL aair2 yD) fun c31 =>
 chkO (c31.length == 5) (
 optO (c31[0]?) fun w9 =>
 optO (c31[1]?) fun wY =>
 optO (c31[2]?) fun yC =>
 optO (c31[3]?) fun yL =>
 optO (c31[4]?) fun yE =>
 some (.tup [.agg [w9, wY, yC, yL, yE], .bool true])))
 else
 (QhY lb n kv ja aair2 jb adis4 b5 (IntKind.wrap .i64 (yD + 1)))))
 else
 (QoX lb n ja aair2 jb adis4 b5 yD) := (Qac _).trans (by kernel_rfl)
theorem Qu5 (lb n : Nat) (ja : Bool) (aair2 : LL) (jb : Bool) (adis4 : LL) (b5 : LB) :
 top lb n Qco [.agg [.list ja aair2, .list jb adis4], .str b5] =
 QhY lb n n ja aair2 jb adis4 b5 0 := by kernel_rfl
theorem Qsw (lb n : Nat) (ju jG : LB) (mH : Int) :
 top lb n QfB [.agg [.str ju, .str jG, .int .i64 mH]] =
 bif (decide (mH ≥ 1)) then
 (some (.bool (decide (mH ≤ 20000))))
 else
 (some (.bool false)) := by kernel_rfl
noncomputable def Qfz (lb n ot : Nat) (wB : Int) (wy : Bool) (ashi3 : LL) (vj : Int) : Option CV :=
 hold (Qas (E0 lb n 0 993) 0 (Qad (sub (B QbR) [1, 1, 1, 0, 1, 0, 0]) ++ []) [4] (sub (B QbR) [1, 1, 1, 0, 1, 0, 0]) (Qak 0 (seqK (E0 lb n 0 996) (sub (B QbR) [1, 1, 1, 0]) (sub (B QbR) [1, 1, 1, 1]) (retK Tryz.prog (R QbR) 0 (outK (Qaf Tryz.prog QbR))))) ot ⟨fr 54 [(0, .val (.agg [.int .i64 wB, .list wy ashi3])), (1, .ptr 0 1 0), (2, vI 0), (3, vI vj)], [bx 54 [(1, some [vI wB, .val (.list wy ashi3)])]], KK⟩)
noncomputable def Qnn (lb n : Nat) (wB : Int) (wy : Bool) (ashi3 : LL) (qy : Int) : Option CV :=
 hold (E0 lb n 0 996 (sub (B QbR) [1, 1, 1, 1]) (retK Tryz.prog (R QbR) 0 (outK (Qaf Tryz.prog QbR))) ⟨fr 54 [(0, .val (.agg [.int .i64 wB, .list wy ashi3])), (1, .ptr 0 1 0), (2, vI 0), (3, vI qy)], [bx 54 [(1, some [vI wB, .val (.list wy ashi3)])]], KK⟩)
theorem QqL (lb n : Nat) (wB : Int) (wy : Bool) (ashi3 : LL) (qy : Int) :
 Qnn lb n wB wy ashi3 qy =
 some (.int .i64 0) := (Qac _).trans (by kernel_rfl)
theorem Qiq (lb n ot : Nat) (wB : Int) (wy : Bool) (ashi3 : LL) (vj : Int) :
 Qfz lb n (ot + 1) wB wy ashi3 vj =
 bif (decide (vj < (ashi3.length : Int))) then
 (optO (atL ashi3 vj) fun c30 =>
 chkO (c30.length == 2) (
 optO (c30[0]?) fun wN =>
 optO (c30[1]?) fun w9 =>
 optO (CV.asI .i64 wN) fun vA =>
 bif (decide (vA < 0)) then
 (some (.int .i64 13))
 else
 (optO (CV.asI .i64 wN) fun kQ =>
 bif (decide (kQ ≥ 52596000)) then
 (some (.int .i64 13))
 else
 (bif (decide (vj > 0)) then
 (optO (atL ashi3 (IntKind.wrap .i64 (vj - 1))) fun c36 =>
 chkO (c36.length == 2) (
 optO (c36[0]?) fun yE =>
 optO (CV.asI .i64 wN) fun kc =>
 optO (CV.asI .i64 yE) fun oa =>
 bif (decide ((IntKind.wrap .i64 (kc - oa)) < 2880)) then
 (some (.int .i64 13))
 else
 (optO (C lb n QfI [w9]) fun nU =>
 optO (CV.asB nU) fun oX =>
 bif (!oX) then
 (some (.int .i64 2))
 else
 (Qfz lb n ot wB wy ashi3 (IntKind.wrap .i64 (vj + 1))))))
 else
 (optO (C lb n QfI [w9]) fun pH =>
 optO (CV.asB pH) fun pZ =>
 bif (!pZ) then
 (some (.int .i64 2))
 else
 (Qfz lb n ot wB wy ashi3 (IntKind.wrap .i64 (vj + 1))))))))
 else
 (Qnn lb n wB wy ashi3 vj) := (Qac _).trans (by kernel_rfl)
theorem Qm2 (lb n : Nat) (wB : Int) (wy : Bool) (ashi3 : LL) :
 top lb n QbR [.agg [.int .i64 wB, .list wy ashi3]] =
 bif (decide ((ashi3.length : Int) > 256)) then
 (some (.int .i64 4))
 else
 (optO (C lb n QfI [.int .i64 wB]) fun r4 =>
 optO (CV.asB r4) fun b5 =>
 bif (!b5) then
 (some (.int .i64 2))
 else
 (Qfz lb n n wB wy ashi3 0)) := by kernel_rfl
theorem QsL (lb n : Nat) (a1 : Int) :
 top lb n QfI [.int .i64 a1] =
 bif (decide (a1 ≥ (-840))) then
 (some (.bool (decide (a1 ≤ 840))))
 else
 (some (.bool false)) := by kernel_rfl
end Go.Proofs
