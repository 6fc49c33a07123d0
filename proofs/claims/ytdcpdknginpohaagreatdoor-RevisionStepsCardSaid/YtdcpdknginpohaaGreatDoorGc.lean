/- Equations of functions, printed by program. Conditions: none. -/
import Derived.Test.YtdcpdknginpohaaGreatDoorEv
namespace Go.Proofs
open Go.Am
set_option maxRecDepth 100000
set_option linter.unusedVariables false
noncomputable def r07_Big_L1 :=
 fun lb n (oc : Nat) (ja : Bool) (aair2 : LL) (jb : Bool) (adis4 : LL) bcar5 jg jd jf jc (je : Bool) (bleg12 : LL) oe vh =>
 hold (Qar (E0 lb n 0 994) 0 (Qad (sub (B Qcw) [1, 1, 0, 1, 0, 0]) ++ []) [] (sub (B Qcw) [1, 1, 0, 1, 0, 0]) (Qaj 0 (seqK (E0 lb n 0 997) (sub (B Qcw) [1, 1, 0]) (sub (B Qcw) [1, 1, 1]) (retK Tryz.prog (R Qcw) 0 (outK (Qaf Tryz.prog Qcw))))) oc ⟨fr 66 [(0, .val (.agg [.list ja aair2, .list jb adis4])), (1, .val (.agg [.str bcar5, .int .i64 jg, .int .i64 jd, .int .i64 jf, .int .i64 jc, .list je bleg12])), (2, .ptr 0 2 0), (3, .ptr 0 3 0), (4, vB false), (5, vI oe), (6, vI vh), (7, .ptr 0 3 0), (8, vS bcar5), (9, .val (.int .i64 (bcar5.length : Int)))], [bx 66 [(2, some [.val (.list ja aair2), .val (.list jb adis4)]), (3, some [vS bcar5, vI jg, vI jd, vI jf, vI jc, .val (.list je bleg12)])]], KK⟩)
noncomputable def QiQ (lb n : Nat) (ja : Bool) (aair2 : LL) (jb : Bool) (adis4 : LL) (bcar5 : LB) (jg jd jf jc : Int) (je : Bool) (bleg12 : LL) (oR i46 : Int) : Option CV :=
 hold (E0 lb n 0 997 (sub (B Qcw) [1, 1, 1]) (retK Tryz.prog (R Qcw) 0 (outK (Qaf Tryz.prog Qcw))) ⟨fr 66 [(0, .val (.agg [.list ja aair2, .list jb adis4])), (1, .val (.agg [.str bcar5, .int .i64 jg, .int .i64 jd, .int .i64 jf, .int .i64 jc, .list je bleg12])), (2, .ptr 0 2 0), (3, .ptr 0 3 0), (4, vB false), (5, vI oR), (6, vI i46), (7, .ptr 0 3 0), (8, vS bcar5), (9, .val (.int .i64 (bcar5.length : Int)))], [bx 66 [(2, some [.val (.list ja aair2), .val (.list jb adis4)]), (3, some [vS bcar5, vI jg, vI jd, vI jf, vI jc, .val (.list je bleg12)])]], KK⟩)
theorem QsW (lb n : Nat) (ja : Bool) (aair2 : LL) (jb : Bool) (adis4 : LL) (bcar5 : LB) (jg jd jf jc : Int) (je : Bool) (bleg12 : LL) (oR i46 : Int) :
 QiQ lb n ja aair2 jb adis4 bcar5 jg jd jf jc je bleg12 oR i46 =
 bif (decide (oR > 400)) then
 (some (.bool true))
 else
 (bif (decide ((bleg12.length : Int) > 12)) then
 (some (.bool true))
 else
 (bif (decide ((aair2.length : Int) > 20)) then
 (some (.bool true))
 else
 (some (.bool (decide ((adis4.length : Int) > 40)))))) := (Qac _).trans (by kernel_rfl)
theorem QjT (lb n oc : Nat) (ja : Bool) (aair2 : LL) (jb : Bool) (adis4 : LL) (bcar5 : LB) (jg jd jf jc : Int) (je : Bool) (bleg12 : LL) (oe vh : Int) :
 r07_Big_L1 lb n (oc + 1) ja aair2 jb adis4 bcar5 jg jd jf jc je bleg12 oe vh =
 bif (decide (vh < (bleg12.length : Int))) then
 (bif (decide (vh < 20)) then
 (optO (atL bleg12 vh) fun c36 =>
 chkO (c36.length == 5) (
 optO (c36[0]?) fun yE =>
 optO (CV.asS yE) fun s38 =>
 optO (atL bleg12 vh) fun c39 =>
 chkO (c39.length == 5) (
 optO (c39[1]?) fun o5 =>
 optO (CV.asS o5) fun s41 =>
 optO (atL bleg12 vh) fun c42 =>
 chkO (c42.length == 5) (
 optO (c42[4]?) fun oW =>
 optO (CV.asS oW) fun s44 =>
 r07_Big_L1 lb n oc ja aair2 jb adis4 bcar5 jg jd jf jc je bleg12 (IntKind.wrap .i64 ((IntKind.wrap .i64 ((IntKind.wrap .i64 (oe + (s38.length : Int))) + (s41.length : Int))) + (s44.length : Int))) (IntKind.wrap .i64 (vh + 1))))))
 else
 (QiQ lb n ja aair2 jb adis4 bcar5 jg jd jf jc je bleg12 oe vh))
 else
 (QiQ lb n ja aair2 jb adis4 bcar5 jg jd jf jc je bleg12 oe vh) := (Qac _).trans (by kernel_rfl)
theorem QwG (lb n : Nat) (ja : Bool) (aair2 : LL) (jb : Bool) (adis4 : LL) (bcar5 : LB) (jg jd jf jc : Int) (je : Bool) (bleg12 : LL) :
 top lb n Qcw [.agg [.list ja aair2, .list jb adis4], .agg [.str bcar5, .int .i64 jg, .int .i64 jd, .int .i64 jf, .int .i64 jc, .list je bleg12]] =
 r07_Big_L1 lb n n ja aair2 jb adis4 bcar5 jg jd jf jc je bleg12 (bcar5.length : Int) 0 := by kernel_rfl
noncomputable def QfF (lb n oh : Nat) (ja : Bool) (aair2 : LL) (jb : Bool) (adis4 : LL) (mq : Bool) (nO : LL) (vg : Int) : Option CV :=
 hold (Qar (E0 lb n 0 994) 0 (Qad (sub (B Qal) [1, 1, 0, 1, 0, 0]) ++ [5, 6, 6]) [] (sub (B Qal) [1, 1, 0, 1, 0, 0]) (Qaj 0 (seqK (E0 lb n 0 997) (sub (B Qal) [1, 1, 0]) (sub (B Qal) [1, 1, 1]) (retK Tryz.prog (R Qal) 0 (outK (Qaf Tryz.prog Qal))))) oh ⟨fr 65 [(0, .val (.agg [.list ja aair2, .list jb adis4])), (1, .ptr 0 1 0), (2, .lst true true 83 []), (3, .lst true mq 83 nO), (4, vI vg)], [bx 65 [(1, some [.val (.list ja aair2), .val (.list jb adis4)])]], KK⟩)
noncomputable def QgS (lb n pH oh : Nat) (ja : Bool) (aair2 : LL) (jb : Bool) (adis4 : LL) (vg : Int) (kV : CV) (nN : Bool) (l65 : LL) (mb : Int) : Option CV :=
 hold (Qar (E0 lb n 0 987) 0 (Qad (sub (B Qal) [1, 1, 0, 1, 0, 0, 1, 0, 0, 1, 1, 0, 0]) ++ []) [] (sub (B Qal) [1, 1, 0, 1, 0, 0, 1, 0, 0, 1, 1, 0, 0]) (Qaj 2 (Qaj 1 (seqK (E0 lb n 0 992) (sub (B Qal) [1, 1, 0, 1, 0, 0, 1, 0]) (sub (B Qal) [1, 1, 0, 1, 0, 0, 1, 1]) (QbK 0 (Qad (sub (B Qal) [1, 1, 0, 1, 0, 0]) ++ [5, 6, 6]) [] (Qar (E0 lb n 0 994) 0 (Qad (sub (B Qal) [1, 1, 0, 1, 0, 0]) ++ [5, 6, 6]) [] (sub (B Qal) [1, 1, 0, 1, 0, 0]) (Qaj 0 (seqK (E0 lb n 0 997) (sub (B Qal) [1, 1, 0]) (sub (B Qal) [1, 1, 1]) (retK Tryz.prog (R Qal) 0 (outK (Qaf Tryz.prog Qal))))) oh) (Qaj 0 (seqK (E0 lb n 0 997) (sub (B Qal) [1, 1, 0]) (sub (B Qal) [1, 1, 1]) (retK Tryz.prog (R Qal) 0 (outK (Qaf Tryz.prog Qal))))))))) pH ⟨fr 65 [(0, .val (.agg [.list ja aair2, .list jb adis4])), (1, .ptr 0 1 0), (2, .lst true true 83 []), (3, .lst true nN 83 l65), (4, vI vg), (5, vV kV), (6, vI mb), (17, .val (.agg [.list ja aair2, .list jb adis4])), (18, vI vg), (19, vV kV)], [bx 65 [(1, some [.val (.list ja aair2), .val (.list jb adis4)])]], KK⟩)
noncomputable def Qnn (lb n oh : Nat) (ja : Bool) (aair2 : LL) (jb : Bool) (adis4 : LL) (vg : Int) (vb : Bool) (pS : LL) (qo : CV) (qm : Int) : Option CV :=
 hold (E0 lb n 0 992 (sub (B Qal) [1, 1, 0, 1, 0, 0, 1, 1]) (QbK 0 (Qad (sub (B Qal) [1, 1, 0, 1, 0, 0]) ++ [5, 6, 6]) [] (Qar (E0 lb n 0 994) 0 (Qad (sub (B Qal) [1, 1, 0, 1, 0, 0]) ++ [5, 6, 6]) [] (sub (B Qal) [1, 1, 0, 1, 0, 0]) (Qaj 0 (seqK (E0 lb n 0 997) (sub (B Qal) [1, 1, 0]) (sub (B Qal) [1, 1, 1]) (retK Tryz.prog (R Qal) 0 (outK (Qaf Tryz.prog Qal))))) oh) (Qaj 0 (seqK (E0 lb n 0 997) (sub (B Qal) [1, 1, 0]) (sub (B Qal) [1, 1, 1]) (retK Tryz.prog (R Qal) 0 (outK (Qaf Tryz.prog Qal)))))) ⟨fr 65 [(0, .val (.agg [.list ja aair2, .list jb adis4])), (1, .ptr 0 1 0), (2, .lst true true 83 []), (3, .lst true vb 83 pS), (4, vI vg), (5, vV qo), (6, vI qm)], [bx 65 [(1, some [.val (.list ja aair2), .val (.list jb adis4)])]], KK⟩)
theorem QqV (lb n oh : Nat) (ja : Bool) (aair2 : LL) (jb : Bool) (adis4 : LL) (vg : Int) (vb : Bool) (pS : LL) (qo : CV) (qm : Int) :
 Qnn lb n oh ja aair2 jb adis4 vg vb pS qo qm =
 QfF lb n oh ja aair2 jb adis4 vb pS (IntKind.wrap .i64 (vg + 1)) := (Qac _).trans (by kernel_rfl)
theorem QiM (lb n pH oh : Nat) (ja : Bool) (aair2 : LL) (jb : Bool) (adis4 : LL) (vg : Int) (kV : CV) (nN : Bool) (l65 : LL) (mb : Int) :
 QgS lb n (pH + 1) oh ja aair2 jb adis4 vg kV nN l65 mb =
 optO (CV.asL kV) fun tj =>
 bif (decide (mb < (tj.2.length : Int))) then
 (optO (CV.asL kV) fun tn =>
 optO (atL tn.2 mb) fun c76 =>
 chkO (c76.length == 1) (
 optO (c76[0]?) fun qW =>
 optO (C lb n Qd1 [.int .i64 vg]) fun tK =>
 optO (CV.asS tK) fun s79 =>
 chkO (decide (([97, 105, 114, 112, 111, 114, 116, 32] : LB).length + s79.length ≤ 9223372036854775807)) (
 chkO (CV.isCell qW) (
 chkO (room (l65.length + 1) 24) (
 QgS lb n pH oh ja aair2 jb adis4 vg kV (nN && false) (l65 ++ [[qW, CV.str (([97, 105, 114, 112, 111, 114, 116, 32] : LB) ++ s79)]]) (IntKind.wrap .i64 (mb + 1)))))))
 else
 (Qnn lb n oh ja aair2 jb adis4 vg nN l65 kV mb) := (Qac _).trans (by kernel_rfl)
noncomputable def QnR (lb n : Nat) (ja : Bool) (aair2 : LL) (jb : Bool) (adis4 : LL) (o7 : Bool) (l85 : LL) (yZ : Int) : Option CV :=
 hold (E0 lb n 0 997 (sub (B Qal) [1, 1, 1]) (retK Tryz.prog (R Qal) 0 (outK (Qaf Tryz.prog Qal))) ⟨fr 65 [(0, .val (.agg [.list ja aair2, .list jb adis4])), (1, .ptr 0 1 0), (2, .lst true true 83 []), (3, .lst true o7 83 l85), (4, vI yZ)], [bx 65 [(1, some [.val (.list ja aair2), .val (.list jb adis4)])]], KK⟩)
noncomputable def QeE (lb n kk : Nat) (ja : Bool) (aair2 : LL) (jb : Bool) (adis4 : LL) (yZ : Int) (mr : Bool) (ml : LL) (vn : Int) : Option CV :=
 hold (Qar (E0 lb n 0 993) 0 (Qad (sub (B Qal) [1, 1, 1, 0, 1, 0, 0]) ++ [8, 9, 9]) [] (sub (B Qal) [1, 1, 1, 0, 1, 0, 0]) (Qaj 4 (seqK (E0 lb n 0 996) (sub (B Qal) [1, 1, 1, 0]) (sub (B Qal) [1, 1, 1, 1]) (retK Tryz.prog (R Qal) 0 (outK (Qaf Tryz.prog Qal))))) kk ⟨fr 65 [(0, .val (.agg [.list ja aair2, .list jb adis4])), (1, .ptr 0 1 0), (2, .lst true true 83 []), (3, .lst true mr 83 ml), (4, vI yZ), (7, vI vn)], [bx 65 [(1, some [.val (.list ja aair2), .val (.list jb adis4)])]], KK⟩)
noncomputable def QgN (lb n np kk : Nat) (ja : Bool) (aair2 : LL) (jb : Bool) (adis4 : LL) (yZ vn : Int) (oo : CV) (gX : Bool) (l143 : LL) (gd : Int) : Option CV :=
 hold (Qar (E0 lb n 0 986) 0 (Qad (sub (B Qal) [1, 1, 1, 0, 1, 0, 0, 1, 0, 0, 1, 1, 0, 0]) ++ []) [] (sub (B Qal) [1, 1, 1, 0, 1, 0, 0, 1, 0, 0, 1, 1, 0, 0]) (Qaj 6 (Qaj 5 (seqK (E0 lb n 0 991) (sub (B Qal) [1, 1, 1, 0, 1, 0, 0, 1, 0]) (sub (B Qal) [1, 1, 1, 0, 1, 0, 0, 1, 1]) (QbK 0 (Qad (sub (B Qal) [1, 1, 1, 0, 1, 0, 0]) ++ [8, 9, 9]) [] (Qar (E0 lb n 0 993) 0 (Qad (sub (B Qal) [1, 1, 1, 0, 1, 0, 0]) ++ [8, 9, 9]) [] (sub (B Qal) [1, 1, 1, 0, 1, 0, 0]) (Qaj 4 (seqK (E0 lb n 0 996) (sub (B Qal) [1, 1, 1, 0]) (sub (B Qal) [1, 1, 1, 1]) (retK Tryz.prog (R Qal) 0 (outK (Qaf Tryz.prog Qal))))) kk) (Qaj 4 (seqK (E0 lb n 0 996) (sub (B Qal) [1, 1, 1, 0]) (sub (B Qal) [1, 1, 1, 1]) (retK Tryz.prog (R Qal) 0 (outK (Qaf Tryz.prog Qal))))))))) np ⟨fr 65 [(0, .val (.agg [.list ja aair2, .list jb adis4])), (1, .ptr 0 1 0), (2, .lst true true 83 []), (3, .lst true gX 83 l143), (4, vI yZ), (7, vI vn), (8, vV oo), (9, vI gd), (44, .val (.agg [.list ja aair2, .list jb adis4])), (45, vI vn), (46, vV oo)], [bx 65 [(1, some [.val (.list ja aair2), .val (.list jb adis4)])]], KK⟩)
noncomputable def Qnl (lb n kk : Nat) (ja : Bool) (aair2 : LL) (jb : Bool) (adis4 : LL) (yZ vn : Int) (nD : Bool) (nj : LL) (pD : CV) (w7 : Int) : Option CV :=
 hold (E0 lb n 0 991 (sub (B Qal) [1, 1, 1, 0, 1, 0, 0, 1, 1]) (QbK 0 (Qad (sub (B Qal) [1, 1, 1, 0, 1, 0, 0]) ++ [8, 9, 9]) [] (Qar (E0 lb n 0 993) 0 (Qad (sub (B Qal) [1, 1, 1, 0, 1, 0, 0]) ++ [8, 9, 9]) [] (sub (B Qal) [1, 1, 1, 0, 1, 0, 0]) (Qaj 4 (seqK (E0 lb n 0 996) (sub (B Qal) [1, 1, 1, 0]) (sub (B Qal) [1, 1, 1, 1]) (retK Tryz.prog (R Qal) 0 (outK (Qaf Tryz.prog Qal))))) kk) (Qaj 4 (seqK (E0 lb n 0 996) (sub (B Qal) [1, 1, 1, 0]) (sub (B Qal) [1, 1, 1, 1]) (retK Tryz.prog (R Qal) 0 (outK (Qaf Tryz.prog Qal)))))) ⟨fr 65 [(0, .val (.agg [.list ja aair2, .list jb adis4])), (1, .ptr 0 1 0), (2, .lst true true 83 []), (3, .lst true nD 83 nj), (4, vI yZ), (7, vI vn), (8, vV pD), (9, vI w7)], [bx 65 [(1, some [.val (.list ja aair2), .val (.list jb adis4)])]], KK⟩)
theorem Qqb (lb n kk : Nat) (ja : Bool) (aair2 : LL) (jb : Bool) (adis4 : LL) (yZ vn : Int) (nD : Bool) (nj : LL) (pD : CV) (w7 : Int) :
 Qnl lb n kk ja aair2 jb adis4 yZ vn nD nj pD w7 =
 QeE lb n kk ja aair2 jb adis4 yZ nD nj (IntKind.wrap .i64 (vn + 1)) := (Qac _).trans (by kernel_rfl)
theorem QiA (lb n np kk : Nat) (ja : Bool) (aair2 : LL) (jb : Bool) (adis4 : LL) (yZ vn : Int) (oo : CV) (gX : Bool) (l143 : LL) (gd : Int) :
 QgN lb n (np + 1) kk ja aair2 jb adis4 yZ vn oo gX l143 gd =
 optO (CV.asL oo) fun sM =>
 bif (decide (gd < (sM.2.length : Int))) then
 (optO (CV.asL oo) fun sr =>
 optO (atL sr.2 gd) fun c154 =>
 chkO (c154.length == 1) (
 optO (c154[0]?) fun nm =>
 optO (C lb n Qd1 [.int .i64 vn]) fun zT =>
 optO (CV.asS zT) fun s157 =>
 chkO (decide (([100, 105, 115, 116, 97, 110, 99, 101, 32] : LB).length + s157.length ≤ 9223372036854775807)) (
 chkO (CV.isCell nm) (
 chkO (room (l143.length + 1) 24) (
 QgN lb n np kk ja aair2 jb adis4 yZ vn oo (gX && false) (l143 ++ [[nm, CV.str (([100, 105, 115, 116, 97, 110, 99, 101, 32] : LB) ++ s157)]]) (IntKind.wrap .i64 (gd + 1)))))))
 else
 (Qnl lb n kk ja aair2 jb adis4 yZ vn gX l143 oo gd) := (Qac _).trans (by kernel_rfl)
noncomputable def QnG (lb n : Nat) (ja : Bool) (aair2 : LL) (jb : Bool) (adis4 : LL) (yZ : Int) (mS : Bool) (nh : LL) (ph : Int) : Option CV :=
 hold (E0 lb n 0 996 (sub (B Qal) [1, 1, 1, 1]) (retK Tryz.prog (R Qal) 0 (outK (Qaf Tryz.prog Qal))) ⟨fr 65 [(0, .val (.agg [.list ja aair2, .list jb adis4])), (1, .ptr 0 1 0), (2, .lst true true 83 []), (3, .lst true mS 83 nh), (4, vI yZ), (7, vI ph)], [bx 65 [(1, some [.val (.list ja aair2), .val (.list jb adis4)])]], KK⟩)
theorem Qqp (lb n : Nat) (ja : Bool) (aair2 : LL) (jb : Bool) (adis4 : LL) (yZ : Int) (mS : Bool) (nh : LL) (ph : Int) :
 QnG lb n ja aair2 jb adis4 yZ mS nh ph =
 some (.list mS nh) := (Qac _).trans (by kernel_rfl)
theorem QiK (lb n kk : Nat) (ja : Bool) (aair2 : LL) (jb : Bool) (adis4 : LL) (yZ : Int) (mr : Bool) (ml : LL) (vn : Int) :
 QeE lb n (kk + 1) ja aair2 jb adis4 yZ mr ml vn =
 bif (decide (vn < (adis4.length : Int))) then
 (optO (C lb n Qa1 [.agg [.list ja aair2, .list jb adis4], .int .i64 vn]) fun oo =>
 QgN lb n n kk ja aair2 jb adis4 yZ vn oo mr ml 0)
 else
 (QnG lb n ja aair2 jb adis4 yZ mr ml vn) := (Qac _).trans (by kernel_rfl)
theorem Qp8 (lb n : Nat) (ja : Bool) (aair2 : LL) (jb : Bool) (adis4 : LL) (o7 : Bool) (l85 : LL) (yZ : Int) :
 QnR lb n ja aair2 jb adis4 o7 l85 yZ =
 QeE lb n n ja aair2 jb adis4 yZ o7 l85 0 := (Qac _).trans (by kernel_rfl)
theorem Qiz (lb n oh : Nat) (ja : Bool) (aair2 : LL) (jb : Bool) (adis4 : LL) (mq : Bool) (nO : LL) (vg : Int) :
 QfF lb n (oh + 1) ja aair2 jb adis4 mq nO vg =
 bif (decide (vg < (aair2.length : Int))) then
 (optO (C lb n QaZ [.agg [.list ja aair2, .list jb adis4], .int .i64 vg]) fun kV =>
 QgS lb n n oh ja aair2 jb adis4 vg kV mq nO 0)
 else
 (QnR lb n ja aair2 jb adis4 mq nO vg) := (Qac _).trans (by kernel_rfl)
theorem QtR (lb n : Nat) (ja : Bool) (aair2 : LL) (jb : Bool) (adis4 : LL) :
 top lb n Qal [.agg [.list ja aair2, .list jb adis4]] =
 QfF lb n n ja aair2 jb adis4 true [] 0 := by kernel_rfl
noncomputable def QdO (lb n : Nat) (ja : Bool) (aair2 : LL) (jb : Bool) (adis4 : LL) (b5 : Int) (c6 : List CV) (x7 x9 we wI wH : CV) (yT : Bool) (l17 : LL) : Option CV :=
 hold (E0 lb n 0 996 (sub (B QaZ) [1, 1, 1, 1]) (retK Tryz.prog (R QaZ) 0 (outK (Qaf Tryz.prog QaZ))) ⟨fr 93 [(0, .val (.agg [.list ja aair2, .list jb adis4])), (1, vI b5), (2, .ptr 0 2 0), (4, .lst true true 36 []), (5, .lst true yT 36 l17), (6, .ptr 0 6 0), (11, .ptr 0 2 0), (12, .val (.list ja aair2)), (13, vI b5), (14, .cptr c6 0), (15, .val (.agg [x7, x9, we, wI, wH]))], [bx 93 [(2, some [.val (.list ja aair2), .val (.list jb adis4)]), (6, some [.val x7, .val x9, .val we, .val wI, .val wH])]], KK⟩)
noncomputable def Qcn (lb n gx : Nat) (ja : Bool) (aair2 : LL) (jb : Bool) (adis4 : LL) (b5 : Int) (yT : Bool) (l17 : LL) (c6 : List CV) (x7 x9 we wI wH : CV) (oZ gS : Bool) (vK : Int) : Option CV :=
 hold (Qar (E0 lb n 0 991) 0 (Qad (sub (B QaZ) [1, 1, 1, 1, 1, 0, 1, 0, 0]) ++ []) [] (sub (B QaZ) [1, 1, 1, 1, 1, 0, 1, 0, 0]) (Qaj 0 (seqK (E0 lb n 0 994) (sub (B QaZ) [1, 1, 1, 1, 1, 0]) (sub (B QaZ) [1, 1, 1, 1, 1, 1]) (retK Tryz.prog (R QaZ) 0 (outK (Qaf Tryz.prog QaZ))))) gx ⟨fr 93 [(0, .val (.agg [.list ja aair2, .list jb adis4])), (1, vI b5), (2, .ptr 0 2 0), (4, .lst true true 36 []), (5, .lst true yT 36 l17), (6, .ptr 0 6 0), (7, vB oZ), (8, vB gS), (9, vI vK), (11, .ptr 0 2 0), (12, .val (.list ja aair2)), (13, vI b5), (14, .cptr c6 0), (15, .val (.agg [x7, x9, we, wI, wH]))], [bx 93 [(2, some [.val (.list ja aair2), .val (.list jb adis4)]), (6, some [.val x7, .val x9, .val we, .val wI, .val wH])]], KK⟩)
noncomputable def Qf0 (lb n : Nat) (ja : Bool) (aair2 : LL) (jb : Bool) (adis4 : LL) (b5 : Int) (yT : Bool) (l17 : LL) (c6 : List CV) (x7 x9 we wI wH : CV) (va vb : Bool) (kC : Int) : Option CV :=
 hold (E0 lb n 0 994 (sub (B QaZ) [1, 1, 1, 1, 1, 1]) (retK Tryz.prog (R QaZ) 0 (outK (Qaf Tryz.prog QaZ))) ⟨fr 93 [(0, .val (.agg [.list ja aair2, .list jb adis4])), (1, vI b5), (2, .ptr 0 2 0), (4, .lst true true 36 []), (5, .lst true yT 36 l17), (6, .ptr 0 6 0), (7, vB va), (8, vB vb), (9, vI kC), (11, .ptr 0 2 0), (12, .val (.list ja aair2)), (13, vI b5), (14, .cptr c6 0), (15, .val (.agg [x7, x9, we, wI, wH]))], [bx 93 [(2, some [.val (.list ja aair2), .val (.list jb adis4)]), (6, some [.val x7, .val x9, .val we, .val wI, .val wH])]], KK⟩)
noncomputable def Qhr (lb n : Nat) (ja : Bool) (aair2 : LL) (jb : Bool) (adis4 : LL) (b5 : Int) (va vb : Bool) (kC : Int) (c6 : List CV) (x7 x9 we wI wH : CV) (n3 : Bool) (l83 : LL) : Option CV :=
 hold (E0 lb n 0 993 (sub (B QaZ) [1, 1, 1, 1, 1, 1, 1]) (retK Tryz.prog (R QaZ) 0 (outK (Qaf Tryz.prog QaZ))) ⟨fr 93 [(0, .val (.agg [.list ja aair2, .list jb adis4])), (1, vI b5), (2, .ptr 0 2 0), (4, .lst true true 36 []), (5, .lst true n3 36 l83), (6, .ptr 0 6 0), (7, vB va), (8, vB vb), (9, vI kC), (11, .ptr 0 2 0), (12, .val (.list ja aair2)), (13, vI b5), (14, .cptr c6 0), (15, .val (.agg [x7, x9, we, wI, wH]))], [bx 93 [(2, some [.val (.list ja aair2), .val (.list jb adis4)]), (6, some [.val x7, .val x9, .val we, .val wI, .val wH])]], KK⟩)
noncomputable def QfV (lb n : Nat) (ja : Bool) (aair2 : LL) (jb : Bool) (adis4 : LL) (b5 : Int) (va vb : Bool) (kC : Int) (c6 : List CV) (x7 x9 we wI wH : CV) (o7 : Bool) (l85 : LL) : Option CV :=
 hold (E0 lb n 0 992 (sub (B QaZ) [1, 1, 1, 1, 1, 1, 1, 1]) (retK Tryz.prog (R QaZ) 0 (outK (Qaf Tryz.prog QaZ))) ⟨fr 93 [(0, .val (.agg [.list ja aair2, .list jb adis4])), (1, vI b5), (2, .ptr 0 2 0), (4, .lst true true 36 []), (5, .lst true o7 36 l85), (6, .ptr 0 6 0), (7, vB va), (8, vB vb), (9, vI kC), (11, .ptr 0 2 0), (12, .val (.list ja aair2)), (13, vI b5), (14, .cptr c6 0), (15, .val (.agg [x7, x9, we, wI, wH]))], [bx 93 [(2, some [.val (.list ja aair2), .val (.list jb adis4)]), (6, some [.val x7, .val x9, .val we, .val wI, .val wH])]], KK⟩)
theorem Qoq (lb n : Nat) (ja : Bool) (aair2 : LL) (jb : Bool) (adis4 : LL) (b5 : Int) (va vb : Bool) (kC : Int) (c6 : List CV) (x7 x9 we wI wH : CV) (o7 : Bool) (l85 : LL) :
 QfV lb n ja aair2 jb adis4 b5 va vb kC c6 x7 x9 we wI wH o7 l85 =
 optO (C lb n QbU [.agg [wI, wH]]) fun qC =>
 optO (CV.asI .i64 qC) fun lZ =>
 bif (lZ != 0) then
 (chkO (CV.isCell qC) (
 chkO (room (l85.length + 1) 8) (
 some (.list (o7 && false) (l85 ++ [[qC]])))))
 else
 (some (.list o7 l85)) := (Qac _).trans (by kernel_rfl)
theorem Qoa (lb n : Nat) (ja : Bool) (aair2 : LL) (jb : Bool) (adis4 : LL) (b5 : Int) (va vb : Bool) (kC : Int) (c6 : List CV) (x7 x9 we wI wH : CV) (n3 : Bool) (l83 : LL) :
 Qhr lb n ja aair2 jb adis4 b5 va vb kC c6 x7 x9 we wI wH n3 l83 =
 bif vb then
 (chkO (room (l83.length + 1) 8) (
 QfV lb n ja aair2 jb adis4 b5 va vb kC c6 x7 x9 we wI wH (n3 && false) (l83 ++ [[CV.int .i64 8]])))
 else
 (QfV lb n ja aair2 jb adis4 b5 va vb kC c6 x7 x9 we wI wH n3 l83) := (Qac _).trans (by kernel_rfl)
theorem Qoh (lb n : Nat) (ja : Bool) (aair2 : LL) (jb : Bool) (adis4 : LL) (b5 : Int) (yT : Bool) (l17 : LL) (c6 : List CV) (x7 x9 we wI wH : CV) (va vb : Bool) (kC : Int) :
 Qf0 lb n ja aair2 jb adis4 b5 yT l17 c6 x7 x9 we wI wH va vb kC =
 bif va then
 (chkO (room (l17.length + 1) 8) (
 Qhr lb n ja aair2 jb adis4 b5 va vb kC c6 x7 x9 we wI wH (yT && false) (l17 ++ [[CV.int .i64 6]])))
 else
 (Qhr lb n ja aair2 jb adis4 b5 va vb kC c6 x7 x9 we wI wH yT l17) := (Qac _).trans (by kernel_rfl)
theorem Qhn (lb n gx : Nat) (ja : Bool) (aair2 : LL) (jb : Bool) (adis4 : LL) (b5 : Int) (yT : Bool) (l17 : LL) (c6 : List CV) (x7 x9 we wI wH : CV) (oZ gS : Bool) (vK : Int) :
 Qcn lb n (gx + 1) ja aair2 jb adis4 b5 yT l17 c6 x7 x9 we wI wH oZ gS vK =
 bif (decide (vK < b5)) then
 (bif oZ then
 (bif gS then
 (Qcn lb n gx ja aair2 jb adis4 b5 yT l17 c6 x7 x9 we wI wH true true (IntKind.wrap .i64 (vK + 1)))
 else
 (optO (atL aair2 vK) fun c58 =>
 chkO (c58.length == 5) (
 optO (c58[1]?) fun oP =>
 optO (CV.asS oP) fun lX =>
 optO (CV.asS x9) fun tr =>
 bif (lX == tr) then
 (optO (atL aair2 vK) fun c62 =>
 chkO (c62.length == 5) (
 optO (c62[2]?) fun k4 =>
 optO (CV.asS k4) fun lT =>
 optO (CV.asS we) fun tM =>
 Qcn lb n gx ja aair2 jb adis4 b5 yT l17 c6 x7 x9 we wI wH true (!(lT == tM)) (IntKind.wrap .i64 (vK + 1))))
 else
 (Qcn lb n gx ja aair2 jb adis4 b5 yT l17 c6 x7 x9 we wI wH true false (IntKind.wrap .i64 (vK + 1))))))
 else
 (optO (atL aair2 vK) fun c67 =>
 chkO (c67.length == 5) (
 optO (c67[0]?) fun kf =>
 optO (CV.asS kf) fun nJ =>
 optO (CV.asS x7) fun nL =>
 bif gS then
 (Qcn lb n gx ja aair2 jb adis4 b5 yT l17 c6 x7 x9 we wI wH (nJ == nL) true (IntKind.wrap .i64 (vK + 1)))
 else
 (optO (atL aair2 vK) fun c71 =>
 chkO (c71.length == 5) (
 optO (c71[1]?) fun qn =>
 optO (CV.asS qn) fun rU =>
 optO (CV.asS x9) fun rn =>
 bif (rU == rn) then
 (optO (atL aair2 vK) fun c75 =>
 chkO (c75.length == 5) (
 optO (c75[2]?) fun qP =>
 optO (CV.asS qP) fun lH =>
 optO (CV.asS we) fun l6 =>
 Qcn lb n gx ja aair2 jb adis4 b5 yT l17 c6 x7 x9 we wI wH (nJ == nL) (!(lH == l6)) (IntKind.wrap .i64 (vK + 1))))
 else
 (Qcn lb n gx ja aair2 jb adis4 b5 yT l17 c6 x7 x9 we wI wH (nJ == nL) false (IntKind.wrap .i64 (vK + 1))))))))
 else
 (Qf0 lb n ja aair2 jb adis4 b5 yT l17 c6 x7 x9 we wI wH oZ gS vK) := (Qac _).trans (by kernel_rfl)
theorem Qol (lb n : Nat) (ja : Bool) (aair2 : LL) (jb : Bool) (adis4 : LL) (b5 : Int) (c6 : List CV) (x7 x9 we wI wH : CV) (yT : Bool) (l17 : LL) :
 QdO lb n ja aair2 jb adis4 b5 c6 x7 x9 we wI wH yT l17 =
 Qcn lb n n ja aair2 jb adis4 b5 yT l17 c6 x7 x9 we wI wH false false 0 := (Qac _).trans (by kernel_rfl)
theorem Qr4 (lb n : Nat) (ja : Bool) (aair2 : LL) (jb : Bool) (adis4 : LL) (b5 : Int) :
 top lb n QaZ [.agg [.list ja aair2, .list jb adis4], .int .i64 b5] =
 optO (atL aair2 b5) fun c6 =>
 chkO (c6.length == 5) (
 optO (c6[0]?) fun x7 =>
 optO (c6[1]?) fun x9 =>
 optO (c6[2]?) fun we =>
 optO (c6[3]?) fun wI =>
 optO (c6[4]?) fun wH =>
 optO (C lb n Qgl [x7]) fun oM =>
 optO (CV.asB oM) fun kg =>
 bif (!kg) then
 (QdO lb n ja aair2 jb adis4 b5 c6 x7 x9 we wI wH false [[CV.int .i64 5]])
 else
 (optO (C lb n Qgl [x9]) fun ra =>
 optO (CV.asB ra) fun rB =>
 bif (!rB) then
 (QdO lb n ja aair2 jb adis4 b5 c6 x7 x9 we wI wH false [[CV.int .i64 5]])
 else
 (optO (C lb n Qiv [we]) fun qs =>
 optO (CV.asB qs) fun rL =>
 bif (!rL) then
 (QdO lb n ja aair2 jb adis4 b5 c6 x7 x9 we wI wH false [[CV.int .i64 5]])
 else
 (QdO lb n ja aair2 jb adis4 b5 c6 x7 x9 we wI wH true [])))) := by kernel_rfl
noncomputable def Qeb (lb n : Nat) (ja : Bool) (aair2 : LL) (jb : Bool) (adis4 : LL) (b5 : Int) (ym wA : CV) (c6 : List CV) (x7 x9 we yk wX yg wn w5 yl wV yq wC wz yp wN ya wY : CV) (vp : Bool) (l37 : LL) : Option CV :=
 hold (E0 lb n 0 994 (sub (B Qa1) [1, 1, 1, 1, 1, 1]) (retK Tryz.prog (R Qa1) 0 (outK (Qaf Tryz.prog Qa1))) ⟨fr 99 [(0, .val (.agg [.list ja aair2, .list jb adis4])), (1, vI b5), (2, .ptr 0 2 0), (4, .lst true true 36 []), (5, .lst true vp 36 l37), (6, .ptr 0 6 0), (7, .ptr 0 7 0), (8, vV ym), (9, .ptr 0 9 0), (10, vV wA), (14, .ptr 0 2 1), (15, .val (.list jb adis4)), (16, vI b5), (17, .cptr c6 0), (18, .val (.agg [x7, x9, we])), (19, vV yk), (20, .val (.agg [.list ja aair2, .list jb adis4])), (21, .ptr 0 6 0), (22, vV x7), (23, vV yk), (24, vV wX), (25, vV ym), (26, vV yg), (27, .val (.agg [.list ja aair2, .list jb adis4])), (28, .ptr 0 6 1), (29, vV x9), (30, vV yg), (31, vV wn), (32, vV wA)], [bx 99 [(2, some [.val (.list ja aair2), .val (.list jb adis4)]), (6, some [.val x7, .val x9, .val we]), (7, some [.val w5, .val yl, .val wV, .val yq, .val wC]), (9, some [.val wz, .val yp, .val wN, .val ya, .val wY])]], KK⟩)
noncomputable def Qb8 (lb n gB : Nat) (ja : Bool) (aair2 : LL) (jb : Bool) (adis4 : LL) (b5 : Int) (vp : Bool) (l37 : LL) (ym wA : CV) (c6 : List CV) (x7 x9 we yk wX yg wn w5 yl wV yq wC wz yp wN ya wY : CV) (nP : Bool) (ku : Int) : Option CV :=
 hold (Qar (E0 lb n 0 989) 0 (Qad (sub (B Qa1) [1, 1, 1, 1, 1, 1, 1, 0, 1, 0, 0]) ++ []) [13] (sub (B Qa1) [1, 1, 1, 1, 1, 1, 1, 0, 1, 0, 0]) (Qaj 0 (seqK (E0 lb n 0 992) (sub (B Qa1) [1, 1, 1, 1, 1, 1, 1, 0]) (sub (B Qa1) [1, 1, 1, 1, 1, 1, 1, 1]) (retK Tryz.prog (R Qa1) 0 (outK (Qaf Tryz.prog Qa1))))) gB ⟨fr 99 [(0, .val (.agg [.list ja aair2, .list jb adis4])), (1, vI b5), (2, .ptr 0 2 0), (4, .lst true true 36 []), (5, .lst true vp 36 l37), (6, .ptr 0 6 0), (7, .ptr 0 7 0), (8, vV ym), (9, .ptr 0 9 0), (10, vV wA), (11, vB nP), (12, vI ku), (14, .ptr 0 2 1), (15, .val (.list jb adis4)), (16, vI b5), (17, .cptr c6 0), (18, .val (.agg [x7, x9, we])), (19, vV yk), (20, .val (.agg [.list ja aair2, .list jb adis4])), (21, .ptr 0 6 0), (22, vV x7), (23, vV yk), (24, vV wX), (25, vV ym), (26, vV yg), (27, .val (.agg [.list ja aair2, .list jb adis4])), (28, .ptr 0 6 1), (29, vV x9), (30, vV yg), (31, vV wn), (32, vV wA)], [bx 99 [(2, some [.val (.list ja aair2), .val (.list jb adis4)]), (6, some [.val x7, .val x9, .val we]), (7, some [.val w5, .val yl, .val wV, .val yq, .val wC]), (9, some [.val wz, .val yp, .val wN, .val ya, .val wY])]], KK⟩)
noncomputable def Qfq (lb n : Nat) (ja : Bool) (aair2 : LL) (jb : Bool) (adis4 : LL) (b5 : Int) (vp : Bool) (l37 : LL) (ym wA : CV) (c6 : List CV) (x7 x9 we yk wX yg wn w5 yl wV yq wC wz yp wN ya wY : CV) (kr : Bool) (ow : Int) : Option CV :=
 hold (E0 lb n 0 992 (sub (B Qa1) [1, 1, 1, 1, 1, 1, 1, 1]) (retK Tryz.prog (R Qa1) 0 (outK (Qaf Tryz.prog Qa1))) ⟨fr 99 [(0, .val (.agg [.list ja aair2, .list jb adis4])), (1, vI b5), (2, .ptr 0 2 0), (4, .lst true true 36 []), (5, .lst true vp 36 l37), (6, .ptr 0 6 0), (7, .ptr 0 7 0), (8, vV ym), (9, .ptr 0 9 0), (10, vV wA), (11, vB kr), (12, vI ow), (14, .ptr 0 2 1), (15, .val (.list jb adis4)), (16, vI b5), (17, .cptr c6 0), (18, .val (.agg [x7, x9, we])), (19, vV yk), (20, .val (.agg [.list ja aair2, .list jb adis4])), (21, .ptr 0 6 0), (22, vV x7), (23, vV yk), (24, vV wX), (25, vV ym), (26, vV yg), (27, .val (.agg [.list ja aair2, .list jb adis4])), (28, .ptr 0 6 1), (29, vV x9), (30, vV yg), (31, vV wn), (32, vV wA)], [bx 99 [(2, some [.val (.list ja aair2), .val (.list jb adis4)]), (6, some [.val x7, .val x9, .val we]), (7, some [.val w5, .val yl, .val wV, .val yq, .val wC]), (9, some [.val wz, .val yp, .val wN, .val ya, .val wY])]], KK⟩)
noncomputable def Qfn (lb n : Nat) (ja : Bool) (aair2 : LL) (jb : Bool) (adis4 : LL) (b5 : Int) (ym wA : CV) (kr : Bool) (ow : Int) (c6 : List CV) (x7 x9 we yk wX yg wn w5 yl wV yq wC wz yp wN ya wY : CV) (gJ : Bool) (l101 : LL) : Option CV :=
 hold (E0 lb n 0 991 (sub (B Qa1) [1, 1, 1, 1, 1, 1, 1, 1, 1]) (retK Tryz.prog (R Qa1) 0 (outK (Qaf Tryz.prog Qa1))) ⟨fr 99 [(0, .val (.agg [.list ja aair2, .list jb adis4])), (1, vI b5), (2, .ptr 0 2 0), (4, .lst true true 36 []), (5, .lst true gJ 36 l101), (6, .ptr 0 6 0), (7, .ptr 0 7 0), (8, vV ym), (9, .ptr 0 9 0), (10, vV wA), (11, vB kr), (12, vI ow), (14, .ptr 0 2 1), (15, .val (.list jb adis4)), (16, vI b5), (17, .cptr c6 0), (18, .val (.agg [x7, x9, we])), (19, vV yk), (20, .val (.agg [.list ja aair2, .list jb adis4])), (21, .ptr 0 6 0), (22, vV x7), (23, vV yk), (24, vV wX), (25, vV ym), (26, vV yg), (27, .val (.agg [.list ja aair2, .list jb adis4])), (28, .ptr 0 6 1), (29, vV x9), (30, vV yg), (31, vV wn), (32, vV wA)], [bx 99 [(2, some [.val (.list ja aair2), .val (.list jb adis4)]), (6, some [.val x7, .val x9, .val we]), (7, some [.val w5, .val yl, .val wV, .val yq, .val wC]), (9, some [.val wz, .val yp, .val wN, .val ya, .val wY])]], KK⟩)
theorem Qnw (lb n : Nat) (ja : Bool) (aair2 : LL) (jb : Bool) (adis4 : LL) (b5 : Int) (ym wA : CV) (kr : Bool) (ow : Int) (c6 : List CV) (x7 x9 we yk wX yg wn w5 yl wV yq wC wz yp wN ya wY : CV) (gJ : Bool) (l101 : LL) :
 Qfn lb n ja aair2 jb adis4 b5 ym wA kr ow c6 x7 x9 we yk wX yg wn w5 yl wV yq wC wz yp wN ya wY gJ l101 =
 optO (C lb n QfB [.agg [x7, x9, we]]) fun zr =>
 optO (CV.asB zr) fun zf =>
 bif (!zf) then
 (chkO (room (l101.length + 1) 8) (
 some (.list (gJ && false) (l101 ++ [[CV.int .i64 2]]))))
 else
 (optO (CV.asS x7) fun pw =>
 optO (CV.asS x9) fun pp =>
 bif (pw == pp) then
 (chkO (room (l101.length + 1) 8) (
 some (.list (gJ && false) (l101 ++ [[CV.int .i64 2]]))))
 else
 (some (.list gJ l101))) := (Qac _).trans (by kernel_rfl)
theorem QnI (lb n : Nat) (ja : Bool) (aair2 : LL) (jb : Bool) (adis4 : LL) (b5 : Int) (vp : Bool) (l37 : LL) (ym wA : CV) (c6 : List CV) (x7 x9 we yk wX yg wn w5 yl wV yq wC wz yp wN ya wY : CV) (kr : Bool) (ow : Int) :
 Qfq lb n ja aair2 jb adis4 b5 vp l37 ym wA c6 x7 x9 we yk wX yg wn w5 yl wV yq wC wz yp wN ya wY kr ow =
 bif kr then
 (chkO (room (l37.length + 1) 8) (
 Qfn lb n ja aair2 jb adis4 b5 ym wA kr ow c6 x7 x9 we yk wX yg wn w5 yl wV yq wC wz yp wN ya wY (vp && false) (l37 ++ [[CV.int .i64 6]])))
 else
 (Qfn lb n ja aair2 jb adis4 b5 ym wA kr ow c6 x7 x9 we yk wX yg wn w5 yl wV yq wC wz yp wN ya wY vp l37) := (Qac _).trans (by kernel_rfl)
theorem Qg6 (lb n gB : Nat) (ja : Bool) (aair2 : LL) (jb : Bool) (adis4 : LL) (b5 : Int) (vp : Bool) (l37 : LL) (ym wA : CV) (c6 : List CV) (x7 x9 we yk wX yg wn w5 yl wV yq wC wz yp wN ya wY : CV) (nP : Bool) (ku : Int) :
 Qb8 lb n (gB + 1) ja aair2 jb adis4 b5 vp l37 ym wA c6 x7 x9 we yk wX yg wn w5 yl wV yq wC wz yp wN ya wY nP ku =
 bif (decide (ku < b5)) then
 (optO (atL adis4 ku) fun c82 =>
 chkO (c82.length == 3) (
 optO (c82[0]?) fun kY =>
 optO (c82[1]?) fun kW =>
 optO (c82[2]?) fun oD =>
 bif nP then
 (Qb8 lb n gB ja aair2 jb adis4 b5 vp l37 ym wA c6 x7 x9 we yk wX yg wn w5 yl wV yq wC wz yp wN ya wY true (IntKind.wrap .i64 (ku + 1)))
 else
 (optO (CV.asS kY) fun rP =>
 optO (CV.asS x7) fun rK =>
 bif (rP == rK) then
 (optO (CV.asS kW) fun rV =>
 optO (CV.asS x9) fun lN =>
 bif (rV == lN) then
 (Qb8 lb n gB ja aair2 jb adis4 b5 vp l37 ym wA c6 x7 x9 we yk wX yg wn w5 yl wV yq wC wz yp wN ya wY true (IntKind.wrap .i64 (ku + 1)))
 else
 (optO (CV.asS kY) fun r8 =>
 optO (CV.asS x9) fun s91 =>
 bif (r8 == s91) then
 (optO (CV.asS kW) fun l7 =>
 optO (CV.asS x7) fun rH =>
 Qb8 lb n gB ja aair2 jb adis4 b5 vp l37 ym wA c6 x7 x9 we yk wX yg wn w5 yl wV yq wC wz yp wN ya wY (l7 == rH) (IntKind.wrap .i64 (ku + 1)))
 else
 (Qb8 lb n gB ja aair2 jb adis4 b5 vp l37 ym wA c6 x7 x9 we yk wX yg wn w5 yl wV yq wC wz yp wN ya wY false (IntKind.wrap .i64 (ku + 1)))))
 else
 (optO (CV.asS kY) fun td =>
 optO (CV.asS x9) fun lY =>
 bif (td == lY) then
 (optO (CV.asS kW) fun ru =>
 optO (CV.asS x7) fun rc =>
 Qb8 lb n gB ja aair2 jb adis4 b5 vp l37 ym wA c6 x7 x9 we yk wX yg wn w5 yl wV yq wC wz yp wN ya wY (ru == rc) (IntKind.wrap .i64 (ku + 1)))
 else
 (Qb8 lb n gB ja aair2 jb adis4 b5 vp l37 ym wA c6 x7 x9 we yk wX yg wn w5 yl wV yq wC wz yp wN ya wY false (IntKind.wrap .i64 (ku + 1)))))))
 else
 (Qfq lb n ja aair2 jb adis4 b5 vp l37 ym wA c6 x7 x9 we yk wX yg wn w5 yl wV yq wC wz yp wN ya wY nP ku) := (Qac _).trans (by kernel_rfl)
theorem QnE (lb n : Nat) (ja : Bool) (aair2 : LL) (jb : Bool) (adis4 : LL) (b5 : Int) (ym wA : CV) (c6 : List CV) (x7 x9 we yk wX yg wn w5 yl wV yq wC wz yp wN ya wY : CV) (vp : Bool) (l37 : LL) :
 Qeb lb n ja aair2 jb adis4 b5 ym wA c6 x7 x9 we yk wX yg wn w5 yl wV yq wC wz yp wN ya wY vp l37 =
 Qb8 lb n n ja aair2 jb adis4 b5 vp l37 ym wA c6 x7 x9 we yk wX yg wn w5 yl wV yq wC wz yp wN ya wY false 0 := (Qac _).trans (by kernel_rfl)
theorem Qqy (lb n : Nat) (ja : Bool) (aair2 : LL) (jb : Bool) (adis4 : LL) (b5 : Int) :
 top lb n Qa1 [.agg [.list ja aair2, .list jb adis4], .int .i64 b5] =
 optO (atL adis4 b5) fun c6 =>
 chkO (c6.length == 3) (
 optO (c6[0]?) fun x7 =>
 optO (c6[1]?) fun x9 =>
 optO (c6[2]?) fun we =>
 optO (C lb n Qcp [.agg [.list ja aair2, .list jb adis4], x7]) fun yk =>
 optO (CV.asT yk) fun qG =>
 optO (qG[0]?) fun wX =>
 optO (CV.asT yk) fun tk =>
 optO (tk[1]?) fun ym =>
 optO (CV.asA wX) fun c17 =>
 chkO (c17.length == 5) (
 optO (c17[0]?) fun w5 =>
 optO (c17[1]?) fun yl =>
 optO (c17[2]?) fun wV =>
 optO (c17[3]?) fun yq =>
 optO (c17[4]?) fun wC =>
 optO (C lb n Qcp [.agg [.list ja aair2, .list jb adis4], x9]) fun yg =>
 optO (CV.asT yg) fun nQ =>
 optO (nQ[0]?) fun wn =>
 optO (CV.asT yg) fun qF =>
 optO (qF[1]?) fun wA =>
 optO (CV.asA wn) fun c28 =>
 chkO (c28.length == 5) (
 optO (c28[0]?) fun wz =>
 optO (c28[1]?) fun yp =>
 optO (c28[2]?) fun wN =>
 optO (c28[3]?) fun ya =>
 optO (c28[4]?) fun wY =>
 optO (CV.asB ym) fun gS =>
 bif (!gS) then
 (Qeb lb n ja aair2 jb adis4 b5 ym wA c6 x7 x9 we yk wX yg wn w5 yl wV yq wC wz yp wN ya wY false [[CV.int .i64 14]])
 else
 (optO (CV.asB wA) fun lh =>
 bif (!lh) then
 (Qeb lb n ja aair2 jb adis4 b5 ym wA c6 x7 x9 we yk wX yg wn w5 yl wV yq wC wz yp wN ya wY false [[CV.int .i64 14]])
 else
 (Qeb lb n ja aair2 jb adis4 b5 ym wA c6 x7 x9 we yk wX yg wn w5 yl wV yq wC wz yp wN ya wY true []))))) := by kernel_rfl
noncomputable def QhZ (lb n kH : Nat) (ja : Bool) (aair2 : LL) (jb : Bool) (adis4 : LL) (b5 : LB) (yC : Int) : Option CV :=
 hold (Qar (E0 lb n 0 995) 0 (Qad (sub (B Qcp) [1, 0, 1, 0, 0]) ++ []) [] (sub (B Qcp) [1, 0, 1, 0, 0]) (Qaj 0 (seqK (E0 lb n 0 998) (sub (B Qcp) [1, 0]) (sub (B Qcp) [1, 1]) (retK Tryz.prog (R Qcp) 0 (outK (Qaf Tryz.prog Qcp))))) kH ⟨fr 28 [(0, .val (.agg [.list ja aair2, .list jb adis4])), (1, vS b5), (2, .ptr 0 2 0), (4, .ptr 0 4 0), (5, vB false), (6, vI yC)], [bx 28 [(2, some [.val (.list ja aair2), .val (.list jb adis4)]), (4, some [.val (.str []), .val (.str []), .val (.str []), vI 0, .lst true true 195 []])]], KK⟩)
noncomputable def Qoy (lb n : Nat) (ja : Bool) (aair2 : LL) (jb : Bool) (adis4 : LL) (b5 : LB) (kv : Int) : Option CV :=
 hold (E0 lb n 0 998 (sub (B Qcp) [1, 1]) (retK Tryz.prog (R Qcp) 0 (outK (Qaf Tryz.prog Qcp))) ⟨fr 28 [(0, .val (.agg [.list ja aair2, .list jb adis4])), (1, vS b5), (2, .ptr 0 2 0), (4, .ptr 0 4 0), (5, vB false), (6, vI kv)], [bx 28 [(2, some [.val (.list ja aair2), .val (.list jb adis4)]), (4, some [.val (.str []), .val (.str []), .val (.str []), vI 0, .lst true true 195 []])]], KK⟩)
theorem QrN (lb n : Nat) (ja : Bool) (aair2 : LL) (jb : Bool) (adis4 : LL) (b5 : LB) (kv : Int) :
 Qoy lb n ja aair2 jb adis4 b5 kv =
 some (.tup [.agg [.str [], .str [], .str [], .int .i64 0, .list true []], .bool false]) := (Qac _).trans (by kernel_rfl)
theorem Qi9 (lb n kH : Nat) (ja : Bool) (aair2 : LL) (jb : Bool) (adis4 : LL) (b5 : LB) (yC : Int) :
 QhZ lb n (kH + 1) ja aair2 jb adis4 b5 yC =
 bif (decide (yC < (aair2.length : Int))) then
 (optO (atL aair2 yC) fun c28 =>
 chkO (c28.length == 5) (
 optO (c28[1]?) fun wz =>
 optO (CV.asS wz) fun gZ =>
 bif (gZ == b5) then
 (optO (atL aair2 yC) fun c31 =>
 chkO (c31.length == 5) (
 optO (c31[0]?) fun ya =>
 optO (c31[1]?) fun wY =>
 optO (c31[2]?) fun yF =>
 optO (c31[3]?) fun yN =>
 optO (c31[4]?) fun yE =>
 some (.tup [.agg [ya, wY, yF, yN, yE], .bool true])))
 else
 (QhZ lb n kH ja aair2 jb adis4 b5 (IntKind.wrap .i64 (yC + 1)))))
 else
 (Qoy lb n ja aair2 jb adis4 b5 yC) := (Qac _).trans (by kernel_rfl)
theorem Qve (lb n : Nat) (ja : Bool) (aair2 : LL) (jb : Bool) (adis4 : LL) (b5 : LB) :
 top lb n Qcp [.agg [.list ja aair2, .list jb adis4], .str b5] =
 QhZ lb n n ja aair2 jb adis4 b5 0 := by kernel_rfl
theorem QsU (lb n : Nat) (ju jG : LB) (nf : Int) :
 top lb n QfB [.agg [.str ju, .str jG, .int .i64 nf]] =
 bif (decide (nf ≥ 1)) then
 (some (.bool (decide (nf ≤ 20000))))
 else
 (some (.bool false)) := by kernel_rfl
noncomputable def QfL (lb n ou : Nat) (wB : Int) (wy : Bool) (ashi3 : LL) (vm : Int) : Option CV :=
 hold (Qar (E0 lb n 0 993) 0 (Qad (sub (B QbU) [1, 1, 1, 0, 1, 0, 0]) ++ []) [4] (sub (B QbU) [1, 1, 1, 0, 1, 0, 0]) (Qaj 0 (seqK (E0 lb n 0 996) (sub (B QbU) [1, 1, 1, 0]) (sub (B QbU) [1, 1, 1, 1]) (retK Tryz.prog (R QbU) 0 (outK (Qaf Tryz.prog QbU))))) ou ⟨fr 54 [(0, .val (.agg [.int .i64 wB, .list wy ashi3])), (1, .ptr 0 1 0), (2, vI 0), (3, vI vm)], [bx 54 [(1, some [vI wB, .val (.list wy ashi3)])]], KK⟩)
noncomputable def Qnb (lb n : Nat) (wB : Int) (wy : Bool) (ashi3 : LL) (qx : Int) : Option CV :=
 hold (E0 lb n 0 996 (sub (B QbU) [1, 1, 1, 1]) (retK Tryz.prog (R QbU) 0 (outK (Qaf Tryz.prog QbU))) ⟨fr 54 [(0, .val (.agg [.int .i64 wB, .list wy ashi3])), (1, .ptr 0 1 0), (2, vI 0), (3, vI qx)], [bx 54 [(1, some [vI wB, .val (.list wy ashi3)])]], KK⟩)
theorem Qqx (lb n : Nat) (wB : Int) (wy : Bool) (ashi3 : LL) (qx : Int) :
 Qnb lb n wB wy ashi3 qx =
 some (.int .i64 0) := (Qac _).trans (by kernel_rfl)
theorem QiI (lb n ou : Nat) (wB : Int) (wy : Bool) (ashi3 : LL) (vm : Int) :
 QfL lb n (ou + 1) wB wy ashi3 vm =
 bif (decide (vm < (ashi3.length : Int))) then
 (optO (atL ashi3 vm) fun c30 =>
 chkO (c30.length == 2) (
 optO (c30[0]?) fun wN =>
 optO (c30[1]?) fun ya =>
 optO (CV.asI .i64 wN) fun vE =>
 bif (decide (vE < 0)) then
 (some (.int .i64 13))
 else
 (optO (CV.asI .i64 wN) fun kR =>
 bif (decide (kR ≥ 52596000)) then
 (some (.int .i64 13))
 else
 (bif (decide (vm > 0)) then
 (optO (atL ashi3 (IntKind.wrap .i64 (vm - 1))) fun c36 =>
 chkO (c36.length == 2) (
 optO (c36[0]?) fun yE =>
 optO (CV.asI .i64 wN) fun kv =>
 optO (CV.asI .i64 yE) fun oC =>
 bif (decide ((IntKind.wrap .i64 (kv - oC)) < 2880)) then
 (some (.int .i64 13))
 else
 (optO (C lb n QfC [ya]) fun qK =>
 optO (CV.asB qK) fun o6 =>
 bif (!o6) then
 (some (.int .i64 2))
 else
 (QfL lb n ou wB wy ashi3 (IntKind.wrap .i64 (vm + 1))))))
 else
 (optO (C lb n QfC [ya]) fun p9 =>
 optO (CV.asB p9) fun qQ =>
 bif (!qQ) then
 (some (.int .i64 2))
 else
 (QfL lb n ou wB wy ashi3 (IntKind.wrap .i64 (vm + 1))))))))
 else
 (Qnb lb n wB wy ashi3 vm) := (Qac _).trans (by kernel_rfl)
theorem QmY (lb n : Nat) (wB : Int) (wy : Bool) (ashi3 : LL) :
 top lb n QbU [.agg [.int .i64 wB, .list wy ashi3]] =
 bif (decide ((ashi3.length : Int) > 256)) then
 (some (.int .i64 4))
 else
 (optO (C lb n QfC [.int .i64 wB]) fun r4 =>
 optO (CV.asB r4) fun b5 =>
 bif (!b5) then
 (some (.int .i64 2))
 else
 (QfL lb n n wB wy ashi3 0)) := by kernel_rfl
theorem Qtq (lb n : Nat) (a1 : Int) :
 top lb n QfC [.int .i64 a1] =
 bif (decide (a1 ≥ (-840))) then
 (some (.bool (decide (a1 ≤ 840))))
 else
 (some (.bool false)) := by kernel_rfl
end Go.Proofs
