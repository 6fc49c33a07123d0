/- Equations of functions, printed by program. Conditions: none. -/
import Derived.Test.YtdcpdknginpohaaGreatDoorEv
namespace Go.Proofs
open Go.Am
set_option maxRecDepth 100000
set_option linter.unusedVariables false
theorem Qqj (lb n ja) (aair2 : LL) (jb) (adis4 : LL) (bcar5 : LB) (jg jd jf jc : Int) (je) (bleg12 : LL) (jp : Int) :
 top lb n Qiz [.agg [.list ja aair2, .list jb adis4], .agg [.str bcar5, .int .i64 jg, .int .i64 jd, .int .i64 jf, .int .i64 jc, .list je bleg12], .int .i64 jp] =
 optO (C lb n Qes [.agg [.int .i64 jd, .int .i64 jf, .int .i64 jc], .int .i64 jp]) fun jj =>
 optO (CV.asB jj) fun wm =>
 bif (!wm) then
 (some (.tup [.list true [], .int .i64 12]))
 else
 (optO (C lb n Qbi [.agg [.list ja aair2, .list jb adis4], .agg [.str bcar5, .int .i64 jg, .int .i64 jd, .int .i64 jf, .int .i64 jc, .list je bleg12], .int .i64 jp]) fun o8 =>
 some (.tup [o8, .int .i64 0])) := by kernel_rfl
noncomputable def r07_Segs_L1 :=
 fun lb n (yl : Nat) (ja : Bool) (aair2 : LL) (jb : Bool) (adis4 : LL) bcar5 jg jd jf jc (je : Bool) (bleg12 : LL) jp jo ji jj (kC : Bool) (kO : LL) w3 =>
 hold (Qat (E0 lb n 0 993) 0 (Qag (sub (B Qap) [1, 1, 1, 0, 1, 0, 0]) ++ [12, 12]) [] (sub (B Qap) [1, 1, 1, 0, 1, 0, 0]) (Qai 0 (seqK (E0 lb n 0 996) (sub (B Qap) [1, 1, 1, 0]) (sub (B Qap) [1, 1, 1, 1]) (retK Tryz.prog (R Qap) 0 (outK (Qaf Tryz.prog Qap))))) yl ⟨fr 42 [(0, .val (.agg [.list ja aair2, .list jb adis4])), (1, .val (.agg [.str bcar5, .int .i64 jg, .int .i64 jd, .int .i64 jf, .int .i64 jc, .list je bleg12])), (2, vI jp), (3, .ptr 0 3 0), (4, .ptr 0 4 0), (6, .lst true true 106 []), (7, vI 0), (8, vV jo), (9, vV ji), (10, .lst true kC 106 kO), (11, vI w3), (13, vV jj), (14, .val (.agg [.list ja aair2, .list jb adis4])), (15, .val (.agg [.str bcar5, .int .i64 jg, .int .i64 jd, .int .i64 jf, .int .i64 jc, .list je bleg12])), (16, vI jp), (17, vV jj), (18, vV jo), (19, vV ji)], [bx 42 [(3, some [.val (.list ja aair2), .val (.list jb adis4)]), (4, some [vS bcar5, vI jg, vI jd, vI jf, vI jc, .val (.list je bleg12)])]], KK⟩)
noncomputable def QfI (lb n kc yl : Nat) (ja : Bool) (aair2 : LL) (jb : Bool) (adis4 : LL) (bcar5 : LB) (jg jd jf jc : Int) (je : Bool) (bleg12 : LL) (jp : Int) (jo ji : CV) (w3 : Int) (jj : CV) (vq : Bool) (l106 : LL) (yh : Int) : Option CV :=
 hold (Qat (E0 lb n 0 987) 0 (Qag (sub (B Qap) [1, 1, 1, 0, 1, 0, 0, 1, 0, 0, 1, 0, 0]) ++ []) [] (sub (B Qap) [1, 1, 1, 0, 1, 0, 0, 1, 0, 0, 1, 0, 0]) (Qai 2 (Qai 1 (seqK (E0 lb n 0 991) (sub (B Qap) [1, 1, 1, 0, 1, 0, 0, 1, 0]) (sub (B Qap) [1, 1, 1, 0, 1, 0, 0, 1, 1]) (QbL 0 (Qag (sub (B Qap) [1, 1, 1, 0, 1, 0, 0]) ++ [12, 12]) [] (Qat (E0 lb n 0 993) 0 (Qag (sub (B Qap) [1, 1, 1, 0, 1, 0, 0]) ++ [12, 12]) [] (sub (B Qap) [1, 1, 1, 0, 1, 0, 0]) (Qai 0 (seqK (E0 lb n 0 996) (sub (B Qap) [1, 1, 1, 0]) (sub (B Qap) [1, 1, 1, 1]) (retK Tryz.prog (R Qap) 0 (outK (Qaf Tryz.prog Qap))))) yl) (Qai 0 (seqK (E0 lb n 0 996) (sub (B Qap) [1, 1, 1, 0]) (sub (B Qap) [1, 1, 1, 1]) (retK Tryz.prog (R Qap) 0 (outK (Qaf Tryz.prog Qap))))))))) kc ⟨fr 42 [(0, .val (.agg [.list ja aair2, .list jb adis4])), (1, .val (.agg [.str bcar5, .int .i64 jg, .int .i64 jd, .int .i64 jf, .int .i64 jc, .list je bleg12])), (2, vI jp), (3, .ptr 0 3 0), (4, .ptr 0 4 0), (6, .lst true true 106 []), (7, vI 0), (8, vV jo), (9, vV ji), (10, .lst true vq 106 l106), (11, vI w3), (12, vI yh), (13, vV jj), (14, .val (.agg [.list ja aair2, .list jb adis4])), (15, .val (.agg [.str bcar5, .int .i64 jg, .int .i64 jd, .int .i64 jf, .int .i64 jc, .list je bleg12])), (16, vI jp), (17, vV jj), (18, vV jo), (19, vV ji), (26, vI w3)], [bx 42 [(3, some [.val (.list ja aair2), .val (.list jb adis4)]), (4, some [vS bcar5, vI jg, vI jd, vI jf, vI jc, .val (.list je bleg12)])]], KK⟩)
noncomputable def Qk1 (lb n yl : Nat) (ja : Bool) (aair2 : LL) (jb : Bool) (adis4 : LL) (bcar5 : LB) (jg jd jf jc : Int) (je : Bool) (bleg12 : LL) (jp : Int) (jo ji : CV) (w3 : Int) (jj : CV) (vY : Bool) (ko : LL) (oo : Int) : Option CV :=
 hold (E0 lb n 0 991 (sub (B Qap) [1, 1, 1, 0, 1, 0, 0, 1, 1]) (QbL 0 (Qag (sub (B Qap) [1, 1, 1, 0, 1, 0, 0]) ++ [12, 12]) [] (Qat (E0 lb n 0 993) 0 (Qag (sub (B Qap) [1, 1, 1, 0, 1, 0, 0]) ++ [12, 12]) [] (sub (B Qap) [1, 1, 1, 0, 1, 0, 0]) (Qai 0 (seqK (E0 lb n 0 996) (sub (B Qap) [1, 1, 1, 0]) (sub (B Qap) [1, 1, 1, 1]) (retK Tryz.prog (R Qap) 0 (outK (Qaf Tryz.prog Qap))))) yl) (Qai 0 (seqK (E0 lb n 0 996) (sub (B Qap) [1, 1, 1, 0]) (sub (B Qap) [1, 1, 1, 1]) (retK Tryz.prog (R Qap) 0 (outK (Qaf Tryz.prog Qap)))))) ⟨fr 42 [(0, .val (.agg [.list ja aair2, .list jb adis4])), (1, .val (.agg [.str bcar5, .int .i64 jg, .int .i64 jd, .int .i64 jf, .int .i64 jc, .list je bleg12])), (2, vI jp), (3, .ptr 0 3 0), (4, .ptr 0 4 0), (6, .lst true true 106 []), (7, vI 0), (8, vV jo), (9, vV ji), (10, .lst true vY 106 ko), (11, vI w3), (12, vI oo), (13, vV jj), (14, .val (.agg [.list ja aair2, .list jb adis4])), (15, .val (.agg [.str bcar5, .int .i64 jg, .int .i64 jd, .int .i64 jf, .int .i64 jc, .list je bleg12])), (16, vI jp), (17, vV jj), (18, vV jo), (19, vV ji)], [bx 42 [(3, some [.val (.list ja aair2), .val (.list jb adis4)]), (4, some [vS bcar5, vI jg, vI jd, vI jf, vI jc, .val (.list je bleg12)])]], KK⟩)
theorem Qnm (lb n yl : Nat) (ja : Bool) (aair2 : LL) (jb : Bool) (adis4 : LL) (bcar5 : LB) (jg jd jf jc : Int) (je : Bool) (bleg12 : LL) (jp : Int) (jo ji : CV) (w3 : Int) (jj : CV) (vY : Bool) (ko : LL) (oo : Int) :
 Qk1 lb n yl ja aair2 jb adis4 bcar5 jg jd jf jc je bleg12 jp jo ji w3 jj vY ko oo =
 r07_Segs_L1 lb n yl ja aair2 jb adis4 bcar5 jg jd jf jc je bleg12 jp jo ji jj vY ko (IntKind.wrap .i64 (w3 + 1)) := (Qae _).trans (by kernel_rfl)
theorem Qgy (lb n kc yl : Nat) (ja : Bool) (aair2 : LL) (jb : Bool) (adis4 : LL) (bcar5 : LB) (jg jd jf jc : Int) (je : Bool) (bleg12 : LL) (jp : Int) (jo ji : CV) (w3 : Int) (jj : CV) (vq : Bool) (l106 : LL) (yh : Int) :
 QfI lb n (kc + 1) yl ja aair2 jb adis4 bcar5 jg jd jf jc je bleg12 jp jo ji w3 jj vq l106 yh =
 optO (CV.asL jo) fun mT =>
 bif (decide (yh < (mT.2.length : Int))) then
 (optO (C lb n Qjo [jo, .int .i64 w3, .int .i64 yh]) fun mr =>
 optO (CV.asA mr) fun c121 =>
 chkO (c121.length == 7) (
 optO (c121[0]?) fun nv =>
 optO (c121[1]?) fun nr =>
 optO (c121[2]?) fun mH =>
 optO (c121[3]?) fun m9 =>
 optO (c121[4]?) fun mY =>
 optO (c121[5]?) fun nf =>
 optO (c121[6]?) fun np =>
 chkO (room (l106.length + 1) 80) (
 QfI lb n kc yl ja aair2 jb adis4 bcar5 jg jd jf jc je bleg12 jp jo ji w3 jj (vq && false) (l106 ++ [[nv, nr, mH, m9, mY, nf, np]]) (IntKind.wrap .i64 (yh + 1)))))
 else
 (Qk1 lb n yl ja aair2 jb adis4 bcar5 jg jd jf jc je bleg12 jp jo ji w3 jj vq l106 yh) := (Qae _).trans (by kernel_rfl)
noncomputable def Qld (lb n : Nat) (ja : Bool) (aair2 : LL) (jb : Bool) (adis4 : LL) (bcar5 : LB) (jg jd jf jc : Int) (je : Bool) (bleg12 : LL) (jp : Int) (jo ji jj : CV) (vZ : Bool) (ks : LL) (ot : Int) : Option CV :=
 hold (E0 lb n 0 996 (sub (B Qap) [1, 1, 1, 1]) (retK Tryz.prog (R Qap) 0 (outK (Qaf Tryz.prog Qap))) ⟨fr 42 [(0, .val (.agg [.list ja aair2, .list jb adis4])), (1, .val (.agg [.str bcar5, .int .i64 jg, .int .i64 jd, .int .i64 jf, .int .i64 jc, .list je bleg12])), (2, vI jp), (3, .ptr 0 3 0), (4, .ptr 0 4 0), (6, .lst true true 106 []), (7, vI 0), (8, vV jo), (9, vV ji), (10, .lst true vZ 106 ks), (11, vI ot), (13, vV jj), (14, .val (.agg [.list ja aair2, .list jb adis4])), (15, .val (.agg [.str bcar5, .int .i64 jg, .int .i64 jd, .int .i64 jf, .int .i64 jc, .list je bleg12])), (16, vI jp), (17, vV jj), (18, vV jo), (19, vV ji)], [bx 42 [(3, some [.val (.list ja aair2), .val (.list jb adis4)]), (4, some [vS bcar5, vI jg, vI jd, vI jf, vI jc, .val (.list je bleg12)])]], KK⟩)
theorem Qm6 (lb n : Nat) (ja : Bool) (aair2 : LL) (jb : Bool) (adis4 : LL) (bcar5 : LB) (jg jd jf jc : Int) (je : Bool) (bleg12 : LL) (jp : Int) (jo ji jj : CV) (vZ : Bool) (ks : LL) (ot : Int) :
 Qld lb n ja aair2 jb adis4 bcar5 jg jd jf jc je bleg12 jp jo ji jj vZ ks ot =
 some (.tup [.list vZ ks, ji]) := (Qae _).trans (by kernel_rfl)
theorem QgB (lb n yl : Nat) (ja : Bool) (aair2 : LL) (jb : Bool) (adis4 : LL) (bcar5 : LB) (jg jd jf jc : Int) (je : Bool) (bleg12 : LL) (jp : Int) (jo ji jj : CV) (kC : Bool) (kO : LL) (w3 : Int) :
 r07_Segs_L1 lb n (yl + 1) ja aair2 jb adis4 bcar5 jg jd jf jc je bleg12 jp jo ji jj kC kO w3 =
 optO (CV.asL jo) fun pS =>
 bif (decide (w3 < (pS.2.length : Int))) then
 (QfI lb n n yl ja aair2 jb adis4 bcar5 jg jd jf jc je bleg12 jp jo ji w3 jj kC kO w3)
 else
 (Qld lb n ja aair2 jb adis4 bcar5 jg jd jf jc je bleg12 jp jo ji jj kC kO w3) := (Qae _).trans (by kernel_rfl)
theorem QkX (lb n : Nat) (ja : Bool) (aair2 : LL) (jb : Bool) (adis4 : LL) (bcar5 : LB) (jg jd jf jc : Int) (je : Bool) (bleg12 : LL) (jp : Int) :
 top lb n Qap [.agg [.list ja aair2, .list jb adis4], .agg [.str bcar5, .int .i64 jg, .int .i64 jd, .int .i64 jf, .int .i64 jc, .list je bleg12], .int .i64 jp] =
 optO (C lb n Qiz [.agg [.list ja aair2, .list jb adis4], .agg [.str bcar5, .int .i64 jg, .int .i64 jd, .int .i64 jf, .int .i64 jc, .list je bleg12], .int .i64 jp]) fun jj =>
 optO (CV.asT jj) fun vg =>
 optO (vg[0]?) fun jo =>
 optO (CV.asT jj) fun vD =>
 optO (vD[1]?) fun ji =>
 r07_Segs_L1 lb n n ja aair2 jb adis4 bcar5 jg jd jf jc je bleg12 jp jo ji jj true [] 0 := by kernel_rfl
noncomputable def Qcv (lb n w8 : Nat) (ja : Bool) (aair2 : LL) (jb : Bool) (adis4 : LL) (bcar5 : LB) (jg jd jf jc : Int) (je : Bool) (bleg12 : LL) (jp : Int) (jo ji jj : CV) (wT : Bool × LL) (kP : Bool) (kS : LL) (i67 : Int) : Option CV :=
 hold (Qat (E0 lb n 0 992) 0 (Qag (sub (B Qak) [1, 1, 1, 1, 0, 1, 0, 0]) ++ [11]) [12, 14] (sub (B Qak) [1, 1, 1, 1, 0, 1, 0, 0]) (Qai 0 (seqK (E0 lb n 0 995) (sub (B Qak) [1, 1, 1, 1, 0]) (sub (B Qak) [1, 1, 1, 1, 1]) (retK Tryz.prog (R Qak) 0 (outK (Qaf Tryz.prog Qak))))) w8 ⟨fr 60 [(0, .val (.agg [.list ja aair2, .list jb adis4])), (1, .val (.agg [.str bcar5, .int .i64 jg, .int .i64 jd, .int .i64 jf, .int .i64 jc, .list je bleg12])), (2, vI jp), (3, .ptr 0 3 0), (4, .ptr 0 4 0), (6, .lst true true 106 []), (7, vI 0), (8, vV jo), (9, vV ji), (10, .lst true kP 106 kS), (15, vV jj), (16, .val (.agg [.list ja aair2, .list jb adis4])), (17, .val (.agg [.str bcar5, .int .i64 jg, .int .i64 jd, .int .i64 jf, .int .i64 jc, .list je bleg12])), (18, vI jp), (19, vV jj), (20, vV jo), (21, vV ji), (25, vV jo), (26, .val (.int .i64 (wT.2.length : Int))), (27, vI i67)], [bx 60 [(3, some [.val (.list ja aair2), .val (.list jb adis4)]), (4, some [vS bcar5, vI jg, vI jd, vI jf, vI jc, .val (.list je bleg12)])]], KK⟩)
noncomputable def QdS (lb n kt w8 : Nat) (ja : Bool) (aair2 : LL) (jb : Bool) (adis4 : LL) (bcar5 : LB) (jg jd jf jc : Int) (je : Bool) (bleg12 : LL) (jp : Int) (jo ji : CV) (i67 : Int) (jj : CV) (wT : Bool × LL) (c111 : List CV) (yC yD yF yr yM yp yG yL : CV) (wp : Bool × LL) (vh : Bool) (l131 : LL) (yY : Int) : Option CV :=
 hold (Qat (E0 lb n 0 984) 0 (Qag (sub (B Qak) [1, 1, 1, 1, 0, 1, 0, 0, 1, 1, 0, 0, 1, 1, 0, 0]) ++ []) [14] (sub (B Qak) [1, 1, 1, 1, 0, 1, 0, 0, 1, 1, 0, 0, 1, 1, 0, 0]) (Qai 2 (Qai 1 (seqK (E0 lb n 0 989) (sub (B Qak) [1, 1, 1, 1, 0, 1, 0, 0, 1, 1, 0]) (sub (B Qak) [1, 1, 1, 1, 0, 1, 0, 0, 1, 1, 1]) (QbL 0 (Qag (sub (B Qak) [1, 1, 1, 1, 0, 1, 0, 0]) ++ [11]) [12, 14] (Qat (E0 lb n 0 992) 0 (Qag (sub (B Qak) [1, 1, 1, 1, 0, 1, 0, 0]) ++ [11]) [12, 14] (sub (B Qak) [1, 1, 1, 1, 0, 1, 0, 0]) (Qai 0 (seqK (E0 lb n 0 995) (sub (B Qak) [1, 1, 1, 1, 0]) (sub (B Qak) [1, 1, 1, 1, 1]) (retK Tryz.prog (R Qak) 0 (outK (Qaf Tryz.prog Qak))))) w8) (Qai 0 (seqK (E0 lb n 0 995) (sub (B Qak) [1, 1, 1, 1, 0]) (sub (B Qak) [1, 1, 1, 1, 1]) (retK Tryz.prog (R Qak) 0 (outK (Qaf Tryz.prog Qak))))))))) kt ⟨fr 60 [(0, .val (.agg [.list ja aair2, .list jb adis4])), (1, .val (.agg [.str bcar5, .int .i64 jg, .int .i64 jd, .int .i64 jf, .int .i64 jc, .list je bleg12])), (2, vI jp), (3, .ptr 0 3 0), (4, .ptr 0 4 0), (6, .lst true true 106 []), (7, vI 0), (8, vV jo), (9, vV ji), (10, .lst true vh 106 l131), (11, vI i67), (12, .ptr 0 12 0), (15, vV jj), (16, .val (.agg [.list ja aair2, .list jb adis4])), (17, .val (.agg [.str bcar5, .int .i64 jg, .int .i64 jd, .int .i64 jf, .int .i64 jc, .list je bleg12])), (18, vI jp), (19, vV jj), (20, vV jo), (21, vV ji), (25, vV jo), (26, .val (.int .i64 (wT.2.length : Int))), (27, vI i67), (28, .val (.bool (decide (i67 < (wT.2.length : Int))))), (29, vI i67), (30, .cptr c111 0), (31, .val (.agg [yC, yD, yF, yr, yM, yp, yG, yL])), (32, vV jo), (33, vI i67), (34, .val (.list wp.1 ((wp.2.take ((wp.2.length : Int).toNat)).drop i67.toNat))), (35, .val (.int .i64 (((wp.2.take ((wp.2.length : Int).toNat)).drop i67.toNat).length : Int))), (36, vI yY)], [bx 60 [(3, some [.val (.list ja aair2), .val (.list jb adis4)]), (4, some [vS bcar5, vI jg, vI jd, vI jf, vI jc, .val (.list je bleg12)]), (12, some [.val yC, .val yD, .val yF, .val yr, .val yM, .val yp, .val yG, .val yL])]], KK⟩)
noncomputable def Qih (lb n w8 : Nat) (ja : Bool) (aair2 : LL) (jb : Bool) (adis4 : LL) (bcar5 : LB) (jg jd jf jc : Int) (je : Bool) (bleg12 : LL) (jp : Int) (jo ji jj : CV) (wT : Bool × LL) (i67 : Int) (ke : Bool) (kj : LL) (k6 : Int) (k5 ow ol oz oe yS k8 og : CV) : Option CV :=
 hold (E0 lb n 0 989 (sub (B Qak) [1, 1, 1, 1, 0, 1, 0, 0, 1, 1, 1]) (QbL 0 (Qag (sub (B Qak) [1, 1, 1, 1, 0, 1, 0, 0]) ++ [11]) [12, 14] (Qat (E0 lb n 0 992) 0 (Qag (sub (B Qak) [1, 1, 1, 1, 0, 1, 0, 0]) ++ [11]) [12, 14] (sub (B Qak) [1, 1, 1, 1, 0, 1, 0, 0]) (Qai 0 (seqK (E0 lb n 0 995) (sub (B Qak) [1, 1, 1, 1, 0]) (sub (B Qak) [1, 1, 1, 1, 1]) (retK Tryz.prog (R Qak) 0 (outK (Qaf Tryz.prog Qak))))) w8) (Qai 0 (seqK (E0 lb n 0 995) (sub (B Qak) [1, 1, 1, 1, 0]) (sub (B Qak) [1, 1, 1, 1, 1]) (retK Tryz.prog (R Qak) 0 (outK (Qaf Tryz.prog Qak)))))) ⟨fr 60 [(0, .val (.agg [.list ja aair2, .list jb adis4])), (1, .val (.agg [.str bcar5, .int .i64 jg, .int .i64 jd, .int .i64 jf, .int .i64 jc, .list je bleg12])), (2, vI jp), (3, .ptr 0 3 0), (4, .ptr 0 4 0), (6, .lst true true 106 []), (7, vI 0), (8, vV jo), (9, vV ji), (10, .lst true ke 106 kj), (11, vI k6), (15, vV jj), (16, .val (.agg [.list ja aair2, .list jb adis4])), (17, .val (.agg [.str bcar5, .int .i64 jg, .int .i64 jd, .int .i64 jf, .int .i64 jc, .list je bleg12])), (18, vI jp), (19, vV jj), (20, vV jo), (21, vV ji), (25, vV jo), (26, .val (.int .i64 (wT.2.length : Int))), (27, vI i67), (28, .val (.bool (decide (i67 < (wT.2.length : Int)))))], [bx 60 [(3, some [.val (.list ja aair2), .val (.list jb adis4)]), (4, some [vS bcar5, vI jg, vI jd, vI jf, vI jc, .val (.list je bleg12)]), (12, some [.val k5, .val ow, .val ol, .val oz, .val oe, .val yS, .val k8, .val og])]], KK⟩)
theorem Qkx (lb n w8 : Nat) (ja : Bool) (aair2 : LL) (jb : Bool) (adis4 : LL) (bcar5 : LB) (jg jd jf jc : Int) (je : Bool) (bleg12 : LL) (jp : Int) (jo ji jj : CV) (wT : Bool × LL) (i67 : Int) (ke : Bool) (kj : LL) (k6 : Int) (k5 ow ol oz oe yS k8 og : CV) :
 Qih lb n w8 ja aair2 jb adis4 bcar5 jg jd jf jc je bleg12 jp jo ji jj wT i67 ke kj k6 k5 ow ol oz oe yS k8 og =
 Qcv lb n w8 ja aair2 jb adis4 bcar5 jg jd jf jc je bleg12 jp jo ji jj wT ke kj (IntKind.wrap .i64 (i67 + 1)) := (Qae _).trans (by kernel_rfl)
theorem Qe5 (lb n kt w8 : Nat) (ja : Bool) (aair2 : LL) (jb : Bool) (adis4 : LL) (bcar5 : LB) (jg jd jf jc : Int) (je : Bool) (bleg12 : LL) (jp : Int) (jo ji : CV) (i67 : Int) (jj : CV) (wT : Bool × LL) (c111 : List CV) (yC yD yF yr yM yp yG yL : CV) (wp : Bool × LL) (vh : Bool) (l131 : LL) (yY : Int) :
 QdS lb n (kt + 1) w8 ja aair2 jb adis4 bcar5 jg jd jf jc je bleg12 jp jo ji i67 jj wT c111 yC yD yF yr yM yp yG yL wp vh l131 yY =
 bif (decide (yY < (((wp.2.take ((wp.2.length : Int).toNat)).drop i67.toNat).length : Int))) then
 (optO (atL ((wp.2.take ((wp.2.length : Int).toNat)).drop i67.toNat) yY) fun c143 =>
 chkO (c143.length == 8) (
 optO (c143[0]?) fun wg =>
 optO (c143[1]?) fun wd =>
 optO (c143[2]?) fun wc =>
 optO (c143[3]?) fun we =>
 optO (c143[4]?) fun gj =>
 optO (c143[5]?) fun qp =>
 optO (c143[6]?) fun gZ =>
 optO (c143[7]?) fun qq =>
 chkO (CV.isCell yr) (
 chkO (CV.isCell gj) (
 chkO (CV.isCell yp) (
 chkO (CV.isCell gZ) (
 chkO (room (l131.length + 1) 80) (
 QdS lb n kt w8 ja aair2 jb adis4 bcar5 jg jd jf jc je bleg12 jp jo ji i67 jj wT c111 yC yD yF yr yM yp yG yL wp (vh && false) (l131 ++ [[CV.str bcar5, CV.int .i64 jg, CV.int .i64 jp, yr, gj, yp, gZ]]) (IntKind.wrap .i64 (yY + 1)))))))))
 else
 (Qih lb n w8 ja aair2 jb adis4 bcar5 jg jd jf jc je bleg12 jp jo ji jj wT i67 vh l131 i67 yC yD yF yr yM yp yG yL) := (Qae _).trans (by kernel_rfl)
noncomputable def QhZ (lb n : Nat) (ja : Bool) (aair2 : LL) (jb : Bool) (adis4 : LL) (bcar5 : LB) (jg jd jf jc : Int) (je : Bool) (bleg12 : LL) (jp : Int) (jo ji jj : CV) (kg : Bool) (kb : LL) : Option CV :=
 hold (E0 lb n 0 995 (sub (B Qak) [1, 1, 1, 1, 1]) (retK Tryz.prog (R Qak) 0 (outK (Qaf Tryz.prog Qak))) ⟨fr 60 [(0, .val (.agg [.list ja aair2, .list jb adis4])), (1, .val (.agg [.str bcar5, .int .i64 jg, .int .i64 jd, .int .i64 jf, .int .i64 jc, .list je bleg12])), (2, vI jp), (3, .ptr 0 3 0), (4, .ptr 0 4 0), (6, .lst true true 106 []), (7, vI 0), (8, vV jo), (9, vV ji), (10, .lst true kg 106 kb), (15, vV jj), (16, .val (.agg [.list ja aair2, .list jb adis4])), (17, .val (.agg [.str bcar5, .int .i64 jg, .int .i64 jd, .int .i64 jf, .int .i64 jc, .list je bleg12])), (18, vI jp), (19, vV jj), (20, vV jo), (21, vV ji)], [bx 60 [(3, some [.val (.list ja aair2), .val (.list jb adis4)]), (4, some [vS bcar5, vI jg, vI jd, vI jf, vI jc, .val (.list je bleg12)])]], KK⟩)
theorem QkD (lb n : Nat) (ja : Bool) (aair2 : LL) (jb : Bool) (adis4 : LL) (bcar5 : LB) (jg jd jf jc : Int) (je : Bool) (bleg12 : LL) (jp : Int) (jo ji jj : CV) (kg : Bool) (kb : LL) :
 QhZ lb n ja aair2 jb adis4 bcar5 jg jd jf jc je bleg12 jp jo ji jj kg kb =
 some (.tup [.list kg kb, .int .i64 0]) := (Qae _).trans (by kernel_rfl)
theorem Qe4 (lb n w8 : Nat) (ja : Bool) (aair2 : LL) (jb : Bool) (adis4 : LL) (bcar5 : LB) (jg jd jf jc : Int) (je : Bool) (bleg12 : LL) (jp : Int) (jo ji jj : CV) (wT : Bool × LL) (kP : Bool) (kS : LL) (i67 : Int) :
 Qcv lb n (w8 + 1) ja aair2 jb adis4 bcar5 jg jd jf jc je bleg12 jp jo ji jj wT kP kS i67 =
 bif (decide (i67 < (wT.2.length : Int))) then
 (optO (CV.asL jo) fun ny =>
 optO (atL ny.2 i67) fun c111 =>
 chkO (c111.length == 8) (
 optO (c111[0]?) fun yC =>
 optO (c111[1]?) fun yD =>
 optO (c111[2]?) fun yF =>
 optO (c111[3]?) fun yr =>
 optO (c111[4]?) fun yM =>
 optO (c111[5]?) fun yp =>
 optO (c111[6]?) fun yG =>
 optO (c111[7]?) fun yL =>
 optO (CV.asL jo) fun wp =>
 chkO (wp.2.all (·.length == 8)) (
 chkO (decide ((0 : Int) ≤ i67 ∧ i67 ≤ (wp.2.length : Int))) (
 QdS lb n n w8 ja aair2 jb adis4 bcar5 jg jd jf jc je bleg12 jp jo ji i67 jj wT c111 yC yD yF yr yM yp yG yL wp kP kS 0))))
 else
 (QhZ lb n ja aair2 jb adis4 bcar5 jg jd jf jc je bleg12 jp jo ji jj kP kS) := (Qae _).trans (by kernel_rfl)
theorem Qm5 (lb n : Nat) (ja : Bool) (aair2 : LL) (jb : Bool) (adis4 : LL) (bcar5 : LB) (jg jd jf jc : Int) (je : Bool) (bleg12 : LL) (jp : Int) :
 top lb n Qak [.agg [.list ja aair2, .list jb adis4], .agg [.str bcar5, .int .i64 jg, .int .i64 jd, .int .i64 jf, .int .i64 jc, .list je bleg12], .int .i64 jp] =
 optO (C lb n Qbb [.agg [.list ja aair2, .list jb adis4], .agg [.str bcar5, .int .i64 jg, .int .i64 jd, .int .i64 jf, .int .i64 jc, .list je bleg12], .int .i64 jp]) fun jj =>
 optO (CV.asT jj) fun vg =>
 optO (vg[0]?) fun jo =>
 optO (CV.asT jj) fun vD =>
 optO (vD[1]?) fun ji =>
 optO (CV.asI .i64 ji) fun i20 =>
 bif (i20 != 0) then
 (some (.tup [.list true [], ji]))
 else
 (optO (CV.asL jo) fun wT =>
 Qcv lb n n ja aair2 jb adis4 bcar5 jg jd jf jc je bleg12 jp jo ji jj wT true [] 0) := by kernel_rfl
theorem Qq1 (lb n : Nat) (jv : Bool) (a2 : LL) (b3 c4 : Int) :
 top lb n Qjo [.list jv a2, .int .i64 b3, .int .i64 c4] =
 optO (atL a2 b3) fun c5 =>
 chkO (c5.length == 8) (
 optO (c5[0]?) fun x6 =>
 optO (atL a2 b3) fun c7 =>
 chkO (c7.length == 8) (
 optO (c7[1]?) fun x9 =>
 optO (atL a2 b3) fun c10 =>
 chkO (c10.length == 8) (
 optO (c10[2]?) fun jJ =>
 optO (atL a2 b3) fun c12 =>
 chkO (c12.length == 8) (
 optO (c12[3]?) fun jZ =>
 optO (atL a2 c4) fun c14 =>
 chkO (c14.length == 8) (
 optO (c14[4]?) fun jz =>
 optO (atL a2 b3) fun c17 =>
 chkO (c17.length == 8) (
 optO (c17[5]?) fun jA =>
 optO (atL a2 c4) fun c19 =>
 chkO (c19.length == 8) (
 optO (c19[6]?) fun ju =>
 chkO (CV.isCell x6) (
 chkO (CV.isCell x9) (
 chkO (CV.isCell jJ) (
 chkO (CV.isCell jZ) (
 chkO (CV.isCell jz) (
 chkO (CV.isCell jA) (
 chkO (CV.isCell ju) (
 some (.agg [x6, x9, jJ, jZ, jz, jA, ju]))))))))))))))) := by kernel_rfl
end Go.Proofs
