/- Equations of functions, printed by program. Conditions: none. -/
import Derived.Test.YtdcpdknginpohaaGreatDoorEv
namespace Go.Proofs
open Go.Am
set_option maxRecDepth 100000
set_option linter.unusedVariables false
noncomputable def r07_Big_L1 :=
 fun lb n (yj : Nat) (ja : Bool) (aair2 : LL) (jb : Bool) (adis4 : LL) bcar5 jg jd jf jc (je : Bool) (bleg12 : LL) vR w6 =>
 hold (Qat (E0 lb n 0 994) 0 (Qag (sub (B QbO) [1, 1, 0, 1, 0, 0]) ++ []) [] (sub (B QbO) [1, 1, 0, 1, 0, 0]) (Qai 0 (seqK (E0 lb n 0 997) (sub (B QbO) [1, 1, 0]) (sub (B QbO) [1, 1, 1]) (retK Tryz.prog (R QbO) 0 (outK (Qaf Tryz.prog QbO))))) yj ⟨fr 66 [(0, .val (.agg [.list ja aair2, .list jb adis4])), (1, .val (.agg [.str bcar5, .int .i64 jg, .int .i64 jd, .int .i64 jf, .int .i64 jc, .list je bleg12])), (2, .ptr 0 2 0), (3, .ptr 0 3 0), (4, vB false), (5, vI vR), (6, vI w6), (7, .ptr 0 3 0), (8, vS bcar5), (9, .val (.int .i64 (bcar5.length : Int)))], [bx 66 [(2, some [.val (.list ja aair2), .val (.list jb adis4)]), (3, some [vS bcar5, vI jg, vI jd, vI jf, vI jc, .val (.list je bleg12)])]], KK⟩)
noncomputable def Qgb (lb n : Nat) (ja : Bool) (aair2 : LL) (jb : Bool) (adis4 : LL) (bcar5 : LB) (jg jd jf jc : Int) (je : Bool) (bleg12 : LL) (oX i46 : Int) : Option CV :=
 hold (E0 lb n 0 997 (sub (B QbO) [1, 1, 1]) (retK Tryz.prog (R QbO) 0 (outK (Qaf Tryz.prog QbO))) ⟨fr 66 [(0, .val (.agg [.list ja aair2, .list jb adis4])), (1, .val (.agg [.str bcar5, .int .i64 jg, .int .i64 jd, .int .i64 jf, .int .i64 jc, .list je bleg12])), (2, .ptr 0 2 0), (3, .ptr 0 3 0), (4, vB false), (5, vI oX), (6, vI i46), (7, .ptr 0 3 0), (8, vS bcar5), (9, .val (.int .i64 (bcar5.length : Int)))], [bx 66 [(2, some [.val (.list ja aair2), .val (.list jb adis4)]), (3, some [vS bcar5, vI jg, vI jd, vI jf, vI jc, .val (.list je bleg12)])]], KK⟩)
theorem Qow (lb n : Nat) (ja : Bool) (aair2 : LL) (jb : Bool) (adis4 : LL) (bcar5 : LB) (jg jd jf jc : Int) (je : Bool) (bleg12 : LL) (oX i46 : Int) :
 Qgb lb n ja aair2 jb adis4 bcar5 jg jd jf jc je bleg12 oX i46 =
 bif (decide (oX > 400)) then
 (some (.bool true))
 else
 (bif (decide ((bleg12.length : Int) > 12)) then
 (some (.bool true))
 else
 (bif (decide ((aair2.length : Int) > 20)) then
 (some (.bool true))
 else
 (some (.bool (decide ((adis4.length : Int) > 40)))))) := (Qae _).trans (by kernel_rfl)
theorem Qhc (lb n yj : Nat) (ja : Bool) (aair2 : LL) (jb : Bool) (adis4 : LL) (bcar5 : LB) (jg jd jf jc : Int) (je : Bool) (bleg12 : LL) (vR w6 : Int) :
 r07_Big_L1 lb n (yj + 1) ja aair2 jb adis4 bcar5 jg jd jf jc je bleg12 vR w6 =
 bif (decide (w6 < (bleg12.length : Int))) then
 (bif (decide (w6 < 20)) then
 (optO (atL bleg12 w6) fun c36 =>
 chkO (c36.length == 5) (
 optO (c36[0]?) fun ym =>
 optO (CV.asS ym) fun s38 =>
 optO (atL bleg12 w6) fun c39 =>
 chkO (c39.length == 5) (
 optO (c39[1]?) fun vQ =>
 optO (CV.asS vQ) fun s41 =>
 optO (atL bleg12 w6) fun c42 =>
 chkO (c42.length == 5) (
 optO (c42[4]?) fun pP =>
 optO (CV.asS pP) fun s44 =>
 r07_Big_L1 lb n yj ja aair2 jb adis4 bcar5 jg jd jf jc je bleg12 (IntKind.wrap .i64 ((IntKind.wrap .i64 ((IntKind.wrap .i64 (vR + (s38.length : Int))) + (s41.length : Int))) + (s44.length : Int))) (IntKind.wrap .i64 (w6 + 1))))))
 else
 (Qgb lb n ja aair2 jb adis4 bcar5 jg jd jf jc je bleg12 vR w6))
 else
 (Qgb lb n ja aair2 jb adis4 bcar5 jg jd jf jc je bleg12 vR w6) := (Qae _).trans (by kernel_rfl)
theorem QqX (lb n : Nat) (ja : Bool) (aair2 : LL) (jb : Bool) (adis4 : LL) (bcar5 : LB) (jg jd jf jc : Int) (je : Bool) (bleg12 : LL) :
 top lb n QbO [.agg [.list ja aair2, .list jb adis4], .agg [.str bcar5, .int .i64 jg, .int .i64 jd, .int .i64 jf, .int .i64 jc, .list je bleg12]] =
 r07_Big_L1 lb n n ja aair2 jb adis4 bcar5 jg jd jf jc je bleg12 (bcar5.length : Int) 0 := by kernel_rfl
noncomputable def Qdw (lb n yi : Nat) (ja : Bool) (aair2 : LL) (jb : Bool) (adis4 : LL) (kW : Bool) (kx : LL) (wI : Int) : Option CV :=
 hold (Qat (E0 lb n 0 994) 0 (Qag (sub (B Qad) [1, 1, 0, 1, 0, 0]) ++ [5, 6, 6]) [] (sub (B Qad) [1, 1, 0, 1, 0, 0]) (Qai 0 (seqK (E0 lb n 0 997) (sub (B Qad) [1, 1, 0]) (sub (B Qad) [1, 1, 1]) (retK Tryz.prog (R Qad) 0 (outK (Qaf Tryz.prog Qad))))) yi ⟨fr 65 [(0, .val (.agg [.list ja aair2, .list jb adis4])), (1, .ptr 0 1 0), (2, .lst true true 83 []), (3, .lst true kW 83 kx), (4, vI wI)], [bx 65 [(1, some [.val (.list ja aair2), .val (.list jb adis4)])]], KK⟩)
noncomputable def QeO (lb n oN yi : Nat) (ja : Bool) (aair2 : LL) (jb : Bool) (adis4 : LL) (wI : Int) (yN : CV) (kA : Bool) (l65 : LL) (vC : Int) : Option CV :=
 hold (Qat (E0 lb n 0 987) 0 (Qag (sub (B Qad) [1, 1, 0, 1, 0, 0, 1, 0, 0, 1, 1, 0, 0]) ++ []) [] (sub (B Qad) [1, 1, 0, 1, 0, 0, 1, 0, 0, 1, 1, 0, 0]) (Qai 2 (Qai 1 (seqK (E0 lb n 0 992) (sub (B Qad) [1, 1, 0, 1, 0, 0, 1, 0]) (sub (B Qad) [1, 1, 0, 1, 0, 0, 1, 1]) (QbL 0 (Qag (sub (B Qad) [1, 1, 0, 1, 0, 0]) ++ [5, 6, 6]) [] (Qat (E0 lb n 0 994) 0 (Qag (sub (B Qad) [1, 1, 0, 1, 0, 0]) ++ [5, 6, 6]) [] (sub (B Qad) [1, 1, 0, 1, 0, 0]) (Qai 0 (seqK (E0 lb n 0 997) (sub (B Qad) [1, 1, 0]) (sub (B Qad) [1, 1, 1]) (retK Tryz.prog (R Qad) 0 (outK (Qaf Tryz.prog Qad))))) yi) (Qai 0 (seqK (E0 lb n 0 997) (sub (B Qad) [1, 1, 0]) (sub (B Qad) [1, 1, 1]) (retK Tryz.prog (R Qad) 0 (outK (Qaf Tryz.prog Qad))))))))) oN ⟨fr 65 [(0, .val (.agg [.list ja aair2, .list jb adis4])), (1, .ptr 0 1 0), (2, .lst true true 83 []), (3, .lst true kA 83 l65), (4, vI wI), (5, vV yN), (6, vI vC), (17, .val (.agg [.list ja aair2, .list jb adis4])), (18, vI wI), (19, vV yN)], [bx 65 [(1, some [.val (.list ja aair2), .val (.list jb adis4)])]], KK⟩)
noncomputable def Qj2 (lb n yi : Nat) (ja : Bool) (aair2 : LL) (jb : Bool) (adis4 : LL) (wI : Int) (wo : Bool) (o0 : LL) (gN : CV) (gi : Int) : Option CV :=
 hold (E0 lb n 0 992 (sub (B Qad) [1, 1, 0, 1, 0, 0, 1, 1]) (QbL 0 (Qag (sub (B Qad) [1, 1, 0, 1, 0, 0]) ++ [5, 6, 6]) [] (Qat (E0 lb n 0 994) 0 (Qag (sub (B Qad) [1, 1, 0, 1, 0, 0]) ++ [5, 6, 6]) [] (sub (B Qad) [1, 1, 0, 1, 0, 0]) (Qai 0 (seqK (E0 lb n 0 997) (sub (B Qad) [1, 1, 0]) (sub (B Qad) [1, 1, 1]) (retK Tryz.prog (R Qad) 0 (outK (Qaf Tryz.prog Qad))))) yi) (Qai 0 (seqK (E0 lb n 0 997) (sub (B Qad) [1, 1, 0]) (sub (B Qad) [1, 1, 1]) (retK Tryz.prog (R Qad) 0 (outK (Qaf Tryz.prog Qad)))))) ⟨fr 65 [(0, .val (.agg [.list ja aair2, .list jb adis4])), (1, .ptr 0 1 0), (2, .lst true true 83 []), (3, .lst true wo 83 o0), (4, vI wI), (5, vV gN), (6, vI gi)], [bx 65 [(1, some [.val (.list ja aair2), .val (.list jb adis4)])]], KK⟩)
theorem Qma (lb n yi : Nat) (ja : Bool) (aair2 : LL) (jb : Bool) (adis4 : LL) (wI : Int) (wo : Bool) (o0 : LL) (gN : CV) (gi : Int) :
 Qj2 lb n yi ja aair2 jb adis4 wI wo o0 gN gi =
 Qdw lb n yi ja aair2 jb adis4 wo o0 (IntKind.wrap .i64 (wI + 1)) := (Qae _).trans (by kernel_rfl)
theorem Qf7 (lb n oN yi : Nat) (ja : Bool) (aair2 : LL) (jb : Bool) (adis4 : LL) (wI : Int) (yN : CV) (kA : Bool) (l65 : LL) (vC : Int) :
 QeO lb n (oN + 1) yi ja aair2 jb adis4 wI yN kA l65 vC =
 optO (CV.asL yN) fun gS =>
 bif (decide (vC < (gS.2.length : Int))) then
 (optO (CV.asL yN) fun n8 =>
 optO (atL n8.2 vC) fun c76 =>
 chkO (c76.length == 1) (
 optO (c76[0]?) fun mf =>
 optO (C lb n QcE [.int .i64 wI]) fun qb =>
 optO (CV.asS qb) fun s79 =>
 chkO (decide (([97, 105, 114, 112, 111, 114, 116, 32] : LB).length + s79.length ≤ 9223372036854775807)) (
 chkO (CV.isCell mf) (
 chkO (room (l65.length + 1) 24) (
 QeO lb n oN yi ja aair2 jb adis4 wI yN (kA && false) (l65 ++ [[mf, CV.str (([97, 105, 114, 112, 111, 114, 116, 32] : LB) ++ s79)]]) (IntKind.wrap .i64 (vC + 1)))))))
 else
 (Qj2 lb n yi ja aair2 jb adis4 wI kA l65 yN vC) := (Qae _).trans (by kernel_rfl)
noncomputable def Qjv (lb n : Nat) (ja : Bool) (aair2 : LL) (jb : Bool) (adis4 : LL) (yP : Bool) (l85 : LL) (wh : Int) : Option CV :=
 hold (E0 lb n 0 997 (sub (B Qad) [1, 1, 1]) (retK Tryz.prog (R Qad) 0 (outK (Qaf Tryz.prog Qad))) ⟨fr 65 [(0, .val (.agg [.list ja aair2, .list jb adis4])), (1, .ptr 0 1 0), (2, .lst true true 83 []), (3, .lst true yP 83 l85), (4, vI wh)], [bx 65 [(1, some [.val (.list ja aair2), .val (.list jb adis4)])]], KK⟩)
noncomputable def QcV (lb n w7 : Nat) (ja : Bool) (aair2 : LL) (jb : Bool) (adis4 : LL) (wh : Int) (vm : Bool) (vl : LL) (wB : Int) : Option CV :=
 hold (Qat (E0 lb n 0 993) 0 (Qag (sub (B Qad) [1, 1, 1, 0, 1, 0, 0]) ++ [8, 9, 9]) [] (sub (B Qad) [1, 1, 1, 0, 1, 0, 0]) (Qai 4 (seqK (E0 lb n 0 996) (sub (B Qad) [1, 1, 1, 0]) (sub (B Qad) [1, 1, 1, 1]) (retK Tryz.prog (R Qad) 0 (outK (Qaf Tryz.prog Qad))))) w7 ⟨fr 65 [(0, .val (.agg [.list ja aair2, .list jb adis4])), (1, .ptr 0 1 0), (2, .lst true true 83 []), (3, .lst true vm 83 vl), (4, vI wh), (7, vI wB)], [bx 65 [(1, some [.val (.list ja aair2), .val (.list jb adis4)])]], KK⟩)
noncomputable def Qez (lb n ka w7 : Nat) (ja : Bool) (aair2 : LL) (jb : Bool) (adis4 : LL) (wh wB : Int) (yq : CV) (vp : Bool) (l143 : LL) (yT : Int) : Option CV :=
 hold (Qat (E0 lb n 0 986) 0 (Qag (sub (B Qad) [1, 1, 1, 0, 1, 0, 0, 1, 0, 0, 1, 1, 0, 0]) ++ []) [] (sub (B Qad) [1, 1, 1, 0, 1, 0, 0, 1, 0, 0, 1, 1, 0, 0]) (Qai 6 (Qai 5 (seqK (E0 lb n 0 991) (sub (B Qad) [1, 1, 1, 0, 1, 0, 0, 1, 0]) (sub (B Qad) [1, 1, 1, 0, 1, 0, 0, 1, 1]) (QbL 0 (Qag (sub (B Qad) [1, 1, 1, 0, 1, 0, 0]) ++ [8, 9, 9]) [] (Qat (E0 lb n 0 993) 0 (Qag (sub (B Qad) [1, 1, 1, 0, 1, 0, 0]) ++ [8, 9, 9]) [] (sub (B Qad) [1, 1, 1, 0, 1, 0, 0]) (Qai 4 (seqK (E0 lb n 0 996) (sub (B Qad) [1, 1, 1, 0]) (sub (B Qad) [1, 1, 1, 1]) (retK Tryz.prog (R Qad) 0 (outK (Qaf Tryz.prog Qad))))) w7) (Qai 4 (seqK (E0 lb n 0 996) (sub (B Qad) [1, 1, 1, 0]) (sub (B Qad) [1, 1, 1, 1]) (retK Tryz.prog (R Qad) 0 (outK (Qaf Tryz.prog Qad))))))))) ka ⟨fr 65 [(0, .val (.agg [.list ja aair2, .list jb adis4])), (1, .ptr 0 1 0), (2, .lst true true 83 []), (3, .lst true vp 83 l143), (4, vI wh), (7, vI wB), (8, vV yq), (9, vI yT), (44, .val (.agg [.list ja aair2, .list jb adis4])), (45, vI wB), (46, vV yq)], [bx 65 [(1, some [.val (.list ja aair2), .val (.list jb adis4)])]], KK⟩)
noncomputable def Qka (lb n w7 : Nat) (ja : Bool) (aair2 : LL) (jb : Bool) (adis4 : LL) (wh wB : Int) (kk : Bool) (vX : LL) (yS : CV) (kY : Int) : Option CV :=
 hold (E0 lb n 0 991 (sub (B Qad) [1, 1, 1, 0, 1, 0, 0, 1, 1]) (QbL 0 (Qag (sub (B Qad) [1, 1, 1, 0, 1, 0, 0]) ++ [8, 9, 9]) [] (Qat (E0 lb n 0 993) 0 (Qag (sub (B Qad) [1, 1, 1, 0, 1, 0, 0]) ++ [8, 9, 9]) [] (sub (B Qad) [1, 1, 1, 0, 1, 0, 0]) (Qai 4 (seqK (E0 lb n 0 996) (sub (B Qad) [1, 1, 1, 0]) (sub (B Qad) [1, 1, 1, 1]) (retK Tryz.prog (R Qad) 0 (outK (Qaf Tryz.prog Qad))))) w7) (Qai 4 (seqK (E0 lb n 0 996) (sub (B Qad) [1, 1, 1, 0]) (sub (B Qad) [1, 1, 1, 1]) (retK Tryz.prog (R Qad) 0 (outK (Qaf Tryz.prog Qad)))))) ⟨fr 65 [(0, .val (.agg [.list ja aair2, .list jb adis4])), (1, .ptr 0 1 0), (2, .lst true true 83 []), (3, .lst true kk 83 vX), (4, vI wh), (7, vI wB), (8, vV yS), (9, vI kY)], [bx 65 [(1, some [.val (.list ja aair2), .val (.list jb adis4)])]], KK⟩)
theorem QlZ (lb n w7 : Nat) (ja : Bool) (aair2 : LL) (jb : Bool) (adis4 : LL) (wh wB : Int) (kk : Bool) (vX : LL) (yS : CV) (kY : Int) :
 Qka lb n w7 ja aair2 jb adis4 wh wB kk vX yS kY =
 QcV lb n w7 ja aair2 jb adis4 wh kk vX (IntKind.wrap .i64 (wB + 1)) := (Qae _).trans (by kernel_rfl)
theorem Qf2 (lb n ka w7 : Nat) (ja : Bool) (aair2 : LL) (jb : Bool) (adis4 : LL) (wh wB : Int) (yq : CV) (vp : Bool) (l143 : LL) (yT : Int) :
 Qez lb n (ka + 1) w7 ja aair2 jb adis4 wh wB yq vp l143 yT =
 optO (CV.asL yq) fun m6 =>
 bif (decide (yT < (m6.2.length : Int))) then
 (optO (CV.asL yq) fun nB =>
 optO (atL nB.2 yT) fun c154 =>
 chkO (c154.length == 1) (
 optO (c154[0]?) fun gO =>
 optO (C lb n QcE [.int .i64 wB]) fun mA =>
 optO (CV.asS mA) fun s157 =>
 chkO (decide (([100, 105, 115, 116, 97, 110, 99, 101, 32] : LB).length + s157.length ≤ 9223372036854775807)) (
 chkO (CV.isCell gO) (
 chkO (room (l143.length + 1) 24) (
 Qez lb n ka w7 ja aair2 jb adis4 wh wB yq (vp && false) (l143 ++ [[gO, CV.str (([100, 105, 115, 116, 97, 110, 99, 101, 32] : LB) ++ s157)]]) (IntKind.wrap .i64 (yT + 1)))))))
 else
 (Qka lb n w7 ja aair2 jb adis4 wh wB vp l143 yq yT) := (Qae _).trans (by kernel_rfl)
noncomputable def Qji (lb n : Nat) (ja : Bool) (aair2 : LL) (jb : Bool) (adis4 : LL) (wh : Int) (kd : Bool) (kf : LL) (oB : Int) : Option CV :=
 hold (E0 lb n 0 996 (sub (B Qad) [1, 1, 1, 1]) (retK Tryz.prog (R Qad) 0 (outK (Qaf Tryz.prog Qad))) ⟨fr 65 [(0, .val (.agg [.list ja aair2, .list jb adis4])), (1, .ptr 0 1 0), (2, .lst true true 83 []), (3, .lst true kd 83 kf), (4, vI wh), (7, vI oB)], [bx 65 [(1, some [.val (.list ja aair2), .val (.list jb adis4)])]], KK⟩)
theorem Ql6 (lb n : Nat) (ja : Bool) (aair2 : LL) (jb : Bool) (adis4 : LL) (wh : Int) (kd : Bool) (kf : LL) (oB : Int) :
 Qji lb n ja aair2 jb adis4 wh kd kf oB =
 some (.list kd kf) := (Qae _).trans (by kernel_rfl)
theorem Qf6 (lb n w7 : Nat) (ja : Bool) (aair2 : LL) (jb : Bool) (adis4 : LL) (wh : Int) (vm : Bool) (vl : LL) (wB : Int) :
 QcV lb n (w7 + 1) ja aair2 jb adis4 wh vm vl wB =
 bif (decide (wB < (adis4.length : Int))) then
 (optO (C lb n QaG [.agg [.list ja aair2, .list jb adis4], .int .i64 wB]) fun yq =>
 Qez lb n n w7 ja aair2 jb adis4 wh wB yq vm vl 0)
 else
 (Qji lb n ja aair2 jb adis4 wh vm vl wB) := (Qae _).trans (by kernel_rfl)
theorem QlL (lb n : Nat) (ja : Bool) (aair2 : LL) (jb : Bool) (adis4 : LL) (yP : Bool) (l85 : LL) (wh : Int) :
 Qjv lb n ja aair2 jb adis4 yP l85 wh =
 QcV lb n n ja aair2 jb adis4 wh yP l85 0 := (Qae _).trans (by kernel_rfl)
theorem Qf4 (lb n yi : Nat) (ja : Bool) (aair2 : LL) (jb : Bool) (adis4 : LL) (kW : Bool) (kx : LL) (wI : Int) :
 Qdw lb n (yi + 1) ja aair2 jb adis4 kW kx wI =
 bif (decide (wI < (aair2.length : Int))) then
 (optO (C lb n QaC [.agg [.list ja aair2, .list jb adis4], .int .i64 wI]) fun yN =>
 QeO lb n n yi ja aair2 jb adis4 wI yN kW kx 0)
 else
 (Qjv lb n ja aair2 jb adis4 kW kx wI) := (Qae _).trans (by kernel_rfl)
theorem Qpl (lb n : Nat) (ja : Bool) (aair2 : LL) (jb : Bool) (adis4 : LL) :
 top lb n Qad [.agg [.list ja aair2, .list jb adis4]] =
 Qdw lb n n ja aair2 jb adis4 true [] 0 := by kernel_rfl
noncomputable def Qcx (lb n : Nat) (ja : Bool) (aair2 : LL) (jb : Bool) (adis4 : LL) (b5 : Int) (c6 : List CV) (x7 x9 jq jJ jL : CV) (wm : Bool) (l17 : LL) : Option CV :=
 hold (E0 lb n 0 996 (sub (B QaC) [1, 1, 1, 1]) (retK Tryz.prog (R QaC) 0 (outK (Qaf Tryz.prog QaC))) ⟨fr 93 [(0, .val (.agg [.list ja aair2, .list jb adis4])), (1, vI b5), (2, .ptr 0 2 0), (4, .lst true true 36 []), (5, .lst true wm 36 l17), (6, .ptr 0 6 0), (11, .ptr 0 2 0), (12, .val (.list ja aair2)), (13, vI b5), (14, .cptr c6 0), (15, .val (.agg [x7, x9, jq, jJ, jL]))], [bx 93 [(2, some [.val (.list ja aair2), .val (.list jb adis4)]), (6, some [.val x7, .val x9, .val jq, .val jJ, .val jL])]], KK⟩)
noncomputable def Qbz (lb n yW : Nat) (ja : Bool) (aair2 : LL) (jb : Bool) (adis4 : LL) (b5 : Int) (wm : Bool) (l17 : LL) (c6 : List CV) (x7 x9 jq jJ jL : CV) (kE y7 : Bool) (wQ : Int) : Option CV :=
 hold (Qat (E0 lb n 0 991) 0 (Qag (sub (B QaC) [1, 1, 1, 1, 1, 0, 1, 0, 0]) ++ []) [] (sub (B QaC) [1, 1, 1, 1, 1, 0, 1, 0, 0]) (Qai 0 (seqK (E0 lb n 0 994) (sub (B QaC) [1, 1, 1, 1, 1, 0]) (sub (B QaC) [1, 1, 1, 1, 1, 1]) (retK Tryz.prog (R QaC) 0 (outK (Qaf Tryz.prog QaC))))) yW ⟨fr 93 [(0, .val (.agg [.list ja aair2, .list jb adis4])), (1, vI b5), (2, .ptr 0 2 0), (4, .lst true true 36 []), (5, .lst true wm 36 l17), (6, .ptr 0 6 0), (7, vB kE), (8, vB y7), (9, vI wQ), (11, .ptr 0 2 0), (12, .val (.list ja aair2)), (13, vI b5), (14, .cptr c6 0), (15, .val (.agg [x7, x9, jq, jJ, jL]))], [bx 93 [(2, some [.val (.list ja aair2), .val (.list jb adis4)]), (6, some [.val x7, .val x9, .val jq, .val jJ, .val jL])]], KK⟩)
noncomputable def QdV (lb n : Nat) (ja : Bool) (aair2 : LL) (jb : Bool) (adis4 : LL) (b5 : Int) (wm : Bool) (l17 : LL) (c6 : List CV) (x7 x9 jq jJ jL : CV) (wG wo : Bool) (yc : Int) : Option CV :=
 hold (E0 lb n 0 994 (sub (B QaC) [1, 1, 1, 1, 1, 1]) (retK Tryz.prog (R QaC) 0 (outK (Qaf Tryz.prog QaC))) ⟨fr 93 [(0, .val (.agg [.list ja aair2, .list jb adis4])), (1, vI b5), (2, .ptr 0 2 0), (4, .lst true true 36 []), (5, .lst true wm 36 l17), (6, .ptr 0 6 0), (7, vB wG), (8, vB wo), (9, vI yc), (11, .ptr 0 2 0), (12, .val (.list ja aair2)), (13, vI b5), (14, .cptr c6 0), (15, .val (.agg [x7, x9, jq, jJ, jL]))], [bx 93 [(2, some [.val (.list ja aair2), .val (.list jb adis4)]), (6, some [.val x7, .val x9, .val jq, .val jJ, .val jL])]], KK⟩)
noncomputable def Qfq (lb n : Nat) (ja : Bool) (aair2 : LL) (jb : Bool) (adis4 : LL) (b5 : Int) (wG wo : Bool) (yc : Int) (c6 : List CV) (x7 x9 jq jJ jL : CV) (kV : Bool) (l83 : LL) : Option CV :=
 hold (E0 lb n 0 993 (sub (B QaC) [1, 1, 1, 1, 1, 1, 1]) (retK Tryz.prog (R QaC) 0 (outK (Qaf Tryz.prog QaC))) ⟨fr 93 [(0, .val (.agg [.list ja aair2, .list jb adis4])), (1, vI b5), (2, .ptr 0 2 0), (4, .lst true true 36 []), (5, .lst true kV 36 l83), (6, .ptr 0 6 0), (7, vB wG), (8, vB wo), (9, vI yc), (11, .ptr 0 2 0), (12, .val (.list ja aair2)), (13, vI b5), (14, .cptr c6 0), (15, .val (.agg [x7, x9, jq, jJ, jL]))], [bx 93 [(2, some [.val (.list ja aair2), .val (.list jb adis4)]), (6, some [.val x7, .val x9, .val jq, .val jJ, .val jL])]], KK⟩)
noncomputable def QdQ (lb n : Nat) (ja : Bool) (aair2 : LL) (jb : Bool) (adis4 : LL) (b5 : Int) (wG wo : Bool) (yc : Int) (c6 : List CV) (x7 x9 jq jJ jL : CV) (yP : Bool) (l85 : LL) : Option CV :=
 hold (E0 lb n 0 992 (sub (B QaC) [1, 1, 1, 1, 1, 1, 1, 1]) (retK Tryz.prog (R QaC) 0 (outK (Qaf Tryz.prog QaC))) ⟨fr 93 [(0, .val (.agg [.list ja aair2, .list jb adis4])), (1, vI b5), (2, .ptr 0 2 0), (4, .lst true true 36 []), (5, .lst true yP 36 l85), (6, .ptr 0 6 0), (7, vB wG), (8, vB wo), (9, vI yc), (11, .ptr 0 2 0), (12, .val (.list ja aair2)), (13, vI b5), (14, .cptr c6 0), (15, .val (.agg [x7, x9, jq, jJ, jL]))], [bx 93 [(2, some [.val (.list ja aair2), .val (.list jb adis4)]), (6, some [.val x7, .val x9, .val jq, .val jJ, .val jL])]], KK⟩)
theorem Qkz (lb n : Nat) (ja : Bool) (aair2 : LL) (jb : Bool) (adis4 : LL) (b5 : Int) (wG wo : Bool) (yc : Int) (c6 : List CV) (x7 x9 jq jJ jL : CV) (yP : Bool) (l85 : LL) :
 QdQ lb n ja aair2 jb adis4 b5 wG wo yc c6 x7 x9 jq jJ jL yP l85 =
 optO (C lb n Qbf [.agg [jJ, jL]]) fun gR =>
 optO (CV.asI .i64 gR) fun pj =>
 bif (pj != 0) then
 (chkO (CV.isCell gR) (
 chkO (room (l85.length + 1) 8) (
 some (.list (yP && false) (l85 ++ [[gR]])))))
 else
 (some (.list yP l85)) := (Qae _).trans (by kernel_rfl)
theorem Qks (lb n : Nat) (ja : Bool) (aair2 : LL) (jb : Bool) (adis4 : LL) (b5 : Int) (wG wo : Bool) (yc : Int) (c6 : List CV) (x7 x9 jq jJ jL : CV) (kV : Bool) (l83 : LL) :
 Qfq lb n ja aair2 jb adis4 b5 wG wo yc c6 x7 x9 jq jJ jL kV l83 =
 bif wo then
 (chkO (room (l83.length + 1) 8) (
 QdQ lb n ja aair2 jb adis4 b5 wG wo yc c6 x7 x9 jq jJ jL (kV && false) (l83 ++ [[CV.int .i64 8]])))
 else
 (QdQ lb n ja aair2 jb adis4 b5 wG wo yc c6 x7 x9 jq jJ jL kV l83) := (Qae _).trans (by kernel_rfl)
theorem QkB (lb n : Nat) (ja : Bool) (aair2 : LL) (jb : Bool) (adis4 : LL) (b5 : Int) (wm : Bool) (l17 : LL) (c6 : List CV) (x7 x9 jq jJ jL : CV) (wG wo : Bool) (yc : Int) :
 QdV lb n ja aair2 jb adis4 b5 wm l17 c6 x7 x9 jq jJ jL wG wo yc =
 bif wG then
 (chkO (room (l17.length + 1) 8) (
 Qfq lb n ja aair2 jb adis4 b5 wG wo yc c6 x7 x9 jq jJ jL (wm && false) (l17 ++ [[CV.int .i64 6]])))
 else
 (Qfq lb n ja aair2 jb adis4 b5 wG wo yc c6 x7 x9 jq jJ jL wm l17) := (Qae _).trans (by kernel_rfl)
theorem Qe6 (lb n yW : Nat) (ja : Bool) (aair2 : LL) (jb : Bool) (adis4 : LL) (b5 : Int) (wm : Bool) (l17 : LL) (c6 : List CV) (x7 x9 jq jJ jL : CV) (kE y7 : Bool) (wQ : Int) :
 Qbz lb n (yW + 1) ja aair2 jb adis4 b5 wm l17 c6 x7 x9 jq jJ jL kE y7 wQ =
 bif (decide (wQ < b5)) then
 (bif kE then
 (bif y7 then
 (Qbz lb n yW ja aair2 jb adis4 b5 wm l17 c6 x7 x9 jq jJ jL true true (IntKind.wrap .i64 (wQ + 1)))
 else
 (optO (atL aair2 wQ) fun c58 =>
 chkO (c58.length == 5) (
 optO (c58[1]?) fun gn =>
 optO (CV.asS gn) fun nJ =>
 optO (CV.asS x9) fun qc =>
 bif (nJ == qc) then
 (optO (atL aair2 wQ) fun c62 =>
 chkO (c62.length == 5) (
 optO (c62[2]?) fun gp =>
 optO (CV.asS gp) fun nG =>
 optO (CV.asS jq) fun pY =>
 Qbz lb n yW ja aair2 jb adis4 b5 wm l17 c6 x7 x9 jq jJ jL true (!(nG == pY)) (IntKind.wrap .i64 (wQ + 1))))
 else
 (Qbz lb n yW ja aair2 jb adis4 b5 wm l17 c6 x7 x9 jq jJ jL true false (IntKind.wrap .i64 (wQ + 1))))))
 else
 (optO (atL aair2 wQ) fun c67 =>
 chkO (c67.length == 5) (
 optO (c67[0]?) fun kH =>
 optO (CV.asS kH) fun kM =>
 optO (CV.asS x7) fun kF =>
 bif y7 then
 (Qbz lb n yW ja aair2 jb adis4 b5 wm l17 c6 x7 x9 jq jJ jL (kM == kF) true (IntKind.wrap .i64 (wQ + 1)))
 else
 (optO (atL aair2 wQ) fun c71 =>
 chkO (c71.length == 5) (
 optO (c71[1]?) fun nP =>
 optO (CV.asS nP) fun n0 =>
 optO (CV.asS x9) fun pc =>
 bif (n0 == pc) then
 (optO (atL aair2 wQ) fun c75 =>
 chkO (c75.length == 5) (
 optO (c75[2]?) fun gT =>
 optO (CV.asS gT) fun gB =>
 optO (CV.asS jq) fun po =>
 Qbz lb n yW ja aair2 jb adis4 b5 wm l17 c6 x7 x9 jq jJ jL (kM == kF) (!(gB == po)) (IntKind.wrap .i64 (wQ + 1))))
 else
 (Qbz lb n yW ja aair2 jb adis4 b5 wm l17 c6 x7 x9 jq jJ jL (kM == kF) false (IntKind.wrap .i64 (wQ + 1))))))))
 else
 (QdV lb n ja aair2 jb adis4 b5 wm l17 c6 x7 x9 jq jJ jL kE y7 wQ) := (Qae _).trans (by kernel_rfl)
theorem QkA (lb n : Nat) (ja : Bool) (aair2 : LL) (jb : Bool) (adis4 : LL) (b5 : Int) (c6 : List CV) (x7 x9 jq jJ jL : CV) (wm : Bool) (l17 : LL) :
 Qcx lb n ja aair2 jb adis4 b5 c6 x7 x9 jq jJ jL wm l17 =
 Qbz lb n n ja aair2 jb adis4 b5 wm l17 c6 x7 x9 jq jJ jL false false 0 := (Qae _).trans (by kernel_rfl)
theorem Qng (lb n : Nat) (ja : Bool) (aair2 : LL) (jb : Bool) (adis4 : LL) (b5 : Int) :
 top lb n QaC [.agg [.list ja aair2, .list jb adis4], .int .i64 b5] =
 optO (atL aair2 b5) fun c6 =>
 chkO (c6.length == 5) (
 optO (c6[0]?) fun x7 =>
 optO (c6[1]?) fun x9 =>
 optO (c6[2]?) fun jq =>
 optO (c6[3]?) fun jJ =>
 optO (c6[4]?) fun jL =>
 optO (C lb n Qeb [x7]) fun jS =>
 optO (CV.asB jS) fun gz =>
 bif (!gz) then
 (Qcx lb n ja aair2 jb adis4 b5 c6 x7 x9 jq jJ jL false [[CV.int .i64 5]])
 else
 (optO (C lb n Qeb [x9]) fun qk =>
 optO (CV.asB qk) fun pK =>
 bif (!pK) then
 (Qcx lb n ja aair2 jb adis4 b5 c6 x7 x9 jq jJ jL false [[CV.int .i64 5]])
 else
 (optO (C lb n QfX [jq]) fun pd =>
 optO (CV.asB pd) fun pE =>
 bif (!pE) then
 (Qcx lb n ja aair2 jb adis4 b5 c6 x7 x9 jq jJ jL false [[CV.int .i64 5]])
 else
 (Qcx lb n ja aair2 jb adis4 b5 c6 x7 x9 jq jJ jL true [])))) := by kernel_rfl
noncomputable def QcI (lb n : Nat) (ja : Bool) (aair2 : LL) (jb : Bool) (adis4 : LL) (b5 : Int) (jz jO : CV) (c6 : List CV) (x7 x9 jq jW jZ jU jx jA ji ju jy jk jr jX jt jK jQ : CV) (wC : Bool) (l37 : LL) : Option CV :=
 hold (E0 lb n 0 994 (sub (B QaG) [1, 1, 1, 1, 1, 1]) (retK Tryz.prog (R QaG) 0 (outK (Qaf Tryz.prog QaG))) ⟨fr 99 [(0, .val (.agg [.list ja aair2, .list jb adis4])), (1, vI b5), (2, .ptr 0 2 0), (4, .lst true true 36 []), (5, .lst true wC 36 l37), (6, .ptr 0 6 0), (7, .ptr 0 7 0), (8, vV jz), (9, .ptr 0 9 0), (10, vV jO), (14, .ptr 0 2 1), (15, .val (.list jb adis4)), (16, vI b5), (17, .cptr c6 0), (18, .val (.agg [x7, x9, jq])), (19, vV jW), (20, .val (.agg [.list ja aair2, .list jb adis4])), (21, .ptr 0 6 0), (22, vV x7), (23, vV jW), (24, vV jZ), (25, vV jz), (26, vV jU), (27, .val (.agg [.list ja aair2, .list jb adis4])), (28, .ptr 0 6 1), (29, vV x9), (30, vV jU), (31, vV jx), (32, vV jO)], [bx 99 [(2, some [.val (.list ja aair2), .val (.list jb adis4)]), (6, some [.val x7, .val x9, .val jq]), (7, some [.val jA, .val ji, .val ju, .val jy, .val jk]), (9, some [.val jr, .val jX, .val jt, .val jK, .val jQ])]], KK⟩)
noncomputable def Qbk (lb n yV : Nat) (ja : Bool) (aair2 : LL) (jb : Bool) (adis4 : LL) (b5 : Int) (wC : Bool) (l37 : LL) (jz jO : CV) (c6 : List CV) (x7 x9 jq jW jZ jU jx jA ji ju jy jk jr jX jt jK jQ : CV) (vk : Bool) (yz : Int) : Option CV :=
 hold (Qat (E0 lb n 0 989) 0 (Qag (sub (B QaG) [1, 1, 1, 1, 1, 1, 1, 0, 1, 0, 0]) ++ []) [13] (sub (B QaG) [1, 1, 1, 1, 1, 1, 1, 0, 1, 0, 0]) (Qai 0 (seqK (E0 lb n 0 992) (sub (B QaG) [1, 1, 1, 1, 1, 1, 1, 0]) (sub (B QaG) [1, 1, 1, 1, 1, 1, 1, 1]) (retK Tryz.prog (R QaG) 0 (outK (Qaf Tryz.prog QaG))))) yV ⟨fr 99 [(0, .val (.agg [.list ja aair2, .list jb adis4])), (1, vI b5), (2, .ptr 0 2 0), (4, .lst true true 36 []), (5, .lst true wC 36 l37), (6, .ptr 0 6 0), (7, .ptr 0 7 0), (8, vV jz), (9, .ptr 0 9 0), (10, vV jO), (11, vB vk), (12, vI yz), (14, .ptr 0 2 1), (15, .val (.list jb adis4)), (16, vI b5), (17, .cptr c6 0), (18, .val (.agg [x7, x9, jq])), (19, vV jW), (20, .val (.agg [.list ja aair2, .list jb adis4])), (21, .ptr 0 6 0), (22, vV x7), (23, vV jW), (24, vV jZ), (25, vV jz), (26, vV jU), (27, .val (.agg [.list ja aair2, .list jb adis4])), (28, .ptr 0 6 1), (29, vV x9), (30, vV jU), (31, vV jx), (32, vV jO)], [bx 99 [(2, some [.val (.list ja aair2), .val (.list jb adis4)]), (6, some [.val x7, .val x9, .val jq]), (7, some [.val jA, .val ji, .val ju, .val jy, .val jk]), (9, some [.val jr, .val jX, .val jt, .val jK, .val jQ])]], KK⟩)
noncomputable def Qdt (lb n : Nat) (ja : Bool) (aair2 : LL) (jb : Bool) (adis4 : LL) (b5 : Int) (wC : Bool) (l37 : LL) (jz jO : CV) (c6 : List CV) (x7 x9 jq jW jZ jU jx jA ji ju jy jk jr jX jt jK jQ : CV) (ya : Bool) (yu : Int) : Option CV :=
 hold (E0 lb n 0 992 (sub (B QaG) [1, 1, 1, 1, 1, 1, 1, 1]) (retK Tryz.prog (R QaG) 0 (outK (Qaf Tryz.prog QaG))) ⟨fr 99 [(0, .val (.agg [.list ja aair2, .list jb adis4])), (1, vI b5), (2, .ptr 0 2 0), (4, .lst true true 36 []), (5, .lst true wC 36 l37), (6, .ptr 0 6 0), (7, .ptr 0 7 0), (8, vV jz), (9, .ptr 0 9 0), (10, vV jO), (11, vB ya), (12, vI yu), (14, .ptr 0 2 1), (15, .val (.list jb adis4)), (16, vI b5), (17, .cptr c6 0), (18, .val (.agg [x7, x9, jq])), (19, vV jW), (20, .val (.agg [.list ja aair2, .list jb adis4])), (21, .ptr 0 6 0), (22, vV x7), (23, vV jW), (24, vV jZ), (25, vV jz), (26, vV jU), (27, .val (.agg [.list ja aair2, .list jb adis4])), (28, .ptr 0 6 1), (29, vV x9), (30, vV jU), (31, vV jx), (32, vV jO)], [bx 99 [(2, some [.val (.list ja aair2), .val (.list jb adis4)]), (6, some [.val x7, .val x9, .val jq]), (7, some [.val jA, .val ji, .val ju, .val jy, .val jk]), (9, some [.val jr, .val jX, .val jt, .val jK, .val jQ])]], KK⟩)
noncomputable def Qdu (lb n : Nat) (ja : Bool) (aair2 : LL) (jb : Bool) (adis4 : LL) (b5 : Int) (jz jO : CV) (ya : Bool) (yu : Int) (c6 : List CV) (x7 x9 jq jW jZ jU jx jA ji ju jy jk jr jX jt jK jQ : CV) (yX : Bool) (l101 : LL) : Option CV :=
 hold (E0 lb n 0 991 (sub (B QaG) [1, 1, 1, 1, 1, 1, 1, 1, 1]) (retK Tryz.prog (R QaG) 0 (outK (Qaf Tryz.prog QaG))) ⟨fr 99 [(0, .val (.agg [.list ja aair2, .list jb adis4])), (1, vI b5), (2, .ptr 0 2 0), (4, .lst true true 36 []), (5, .lst true yX 36 l101), (6, .ptr 0 6 0), (7, .ptr 0 7 0), (8, vV jz), (9, .ptr 0 9 0), (10, vV jO), (11, vB ya), (12, vI yu), (14, .ptr 0 2 1), (15, .val (.list jb adis4)), (16, vI b5), (17, .cptr c6 0), (18, .val (.agg [x7, x9, jq])), (19, vV jW), (20, .val (.agg [.list ja aair2, .list jb adis4])), (21, .ptr 0 6 0), (22, vV x7), (23, vV jW), (24, vV jZ), (25, vV jz), (26, vV jU), (27, .val (.agg [.list ja aair2, .list jb adis4])), (28, .ptr 0 6 1), (29, vV x9), (30, vV jU), (31, vV jx), (32, vV jO)], [bx 99 [(2, some [.val (.list ja aair2), .val (.list jb adis4)]), (6, some [.val x7, .val x9, .val jq]), (7, some [.val jA, .val ji, .val ju, .val jy, .val jk]), (9, some [.val jr, .val jX, .val jt, .val jK, .val jQ])]], KK⟩)
theorem Qj9 (lb n : Nat) (ja : Bool) (aair2 : LL) (jb : Bool) (adis4 : LL) (b5 : Int) (jz jO : CV) (ya : Bool) (yu : Int) (c6 : List CV) (x7 x9 jq jW jZ jU jx jA ji ju jy jk jr jX jt jK jQ : CV) (yX : Bool) (l101 : LL) :
 Qdu lb n ja aair2 jb adis4 b5 jz jO ya yu c6 x7 x9 jq jW jZ jU jx jA ji ju jy jk jr jX jt jK jQ yX l101 =
 optO (C lb n QdE [.agg [x7, x9, jq]]) fun mu =>
 optO (CV.asB mu) fun mI =>
 bif (!mI) then
 (chkO (room (l101.length + 1) 8) (
 some (.list (yX && false) (l101 ++ [[CV.int .i64 2]]))))
 else
 (optO (CV.asS x7) fun om =>
 optO (CV.asS x9) fun oj =>
 bif (om == oj) then
 (chkO (room (l101.length + 1) 8) (
 some (.list (yX && false) (l101 ++ [[CV.int .i64 2]]))))
 else
 (some (.list yX l101))) := (Qae _).trans (by kernel_rfl)
theorem Qkc (lb n : Nat) (ja : Bool) (aair2 : LL) (jb : Bool) (adis4 : LL) (b5 : Int) (wC : Bool) (l37 : LL) (jz jO : CV) (c6 : List CV) (x7 x9 jq jW jZ jU jx jA ji ju jy jk jr jX jt jK jQ : CV) (ya : Bool) (yu : Int) :
 Qdt lb n ja aair2 jb adis4 b5 wC l37 jz jO c6 x7 x9 jq jW jZ jU jx jA ji ju jy jk jr jX jt jK jQ ya yu =
 bif ya then
 (chkO (room (l37.length + 1) 8) (
 Qdu lb n ja aair2 jb adis4 b5 jz jO ya yu c6 x7 x9 jq jW jZ jU jx jA ji ju jy jk jr jX jt jK jQ (wC && false) (l37 ++ [[CV.int .i64 6]])))
 else
 (Qdu lb n ja aair2 jb adis4 b5 jz jO ya yu c6 x7 x9 jq jW jZ jU jx jA ji ju jy jk jr jX jt jK jQ wC l37) := (Qae _).trans (by kernel_rfl)
theorem QeF (lb n yV : Nat) (ja : Bool) (aair2 : LL) (jb : Bool) (adis4 : LL) (b5 : Int) (wC : Bool) (l37 : LL) (jz jO : CV) (c6 : List CV) (x7 x9 jq jW jZ jU jx jA ji ju jy jk jr jX jt jK jQ : CV) (vk : Bool) (yz : Int) :
 Qbk lb n (yV + 1) ja aair2 jb adis4 b5 wC l37 jz jO c6 x7 x9 jq jW jZ jU jx jA ji ju jy jk jr jX jt jK jQ vk yz =
 bif (decide (yz < b5)) then
 (optO (atL adis4 yz) fun c82 =>
 chkO (c82.length == 3) (
 optO (c82[0]?) fun gU =>
 optO (c82[1]?) fun vf =>
 optO (c82[2]?) fun vT =>
 bif vk then
 (Qbk lb n yV ja aair2 jb adis4 b5 wC l37 jz jO c6 x7 x9 jq jW jZ jU jx jA ji ju jy jk jr jX jt jK jQ true (IntKind.wrap .i64 (yz + 1)))
 else
 (optO (CV.asS gU) fun nK =>
 optO (CV.asS x7) fun pw =>
 bif (nK == pw) then
 (optO (CV.asS vf) fun nM =>
 optO (CV.asS x9) fun qn =>
 bif (nM == qn) then
 (Qbk lb n yV ja aair2 jb adis4 b5 wC l37 jz jO c6 x7 x9 jq jW jZ jU jx jA ji ju jy jk jr jX jt jK jQ true (IntKind.wrap .i64 (yz + 1)))
 else
 (optO (CV.asS gU) fun qh =>
 optO (CV.asS x9) fun pk =>
 bif (qh == pk) then
 (optO (CV.asS vf) fun pq =>
 optO (CV.asS x7) fun nT =>
 Qbk lb n yV ja aair2 jb adis4 b5 wC l37 jz jO c6 x7 x9 jq jW jZ jU jx jA ji ju jy jk jr jX jt jK jQ (pq == nT) (IntKind.wrap .i64 (yz + 1)))
 else
 (Qbk lb n yV ja aair2 jb adis4 b5 wC l37 jz jO c6 x7 x9 jq jW jZ jU jx jA ji ju jy jk jr jX jt jK jQ false (IntKind.wrap .i64 (yz + 1)))))
 else
 (optO (CV.asS gU) fun nQ =>
 optO (CV.asS x9) fun pm =>
 bif (nQ == pm) then
 (optO (CV.asS vf) fun pM =>
 optO (CV.asS x7) fun nO =>
 Qbk lb n yV ja aair2 jb adis4 b5 wC l37 jz jO c6 x7 x9 jq jW jZ jU jx jA ji ju jy jk jr jX jt jK jQ (pM == nO) (IntKind.wrap .i64 (yz + 1)))
 else
 (Qbk lb n yV ja aair2 jb adis4 b5 wC l37 jz jO c6 x7 x9 jq jW jZ jU jx jA ji ju jy jk jr jX jt jK jQ false (IntKind.wrap .i64 (yz + 1)))))))
 else
 (Qdt lb n ja aair2 jb adis4 b5 wC l37 jz jO c6 x7 x9 jq jW jZ jU jx jA ji ju jy jk jr jX jt jK jQ vk yz) := (Qae _).trans (by kernel_rfl)
theorem QjK (lb n : Nat) (ja : Bool) (aair2 : LL) (jb : Bool) (adis4 : LL) (b5 : Int) (jz jO : CV) (c6 : List CV) (x7 x9 jq jW jZ jU jx jA ji ju jy jk jr jX jt jK jQ : CV) (wC : Bool) (l37 : LL) :
 QcI lb n ja aair2 jb adis4 b5 jz jO c6 x7 x9 jq jW jZ jU jx jA ji ju jy jk jr jX jt jK jQ wC l37 =
 Qbk lb n n ja aair2 jb adis4 b5 wC l37 jz jO c6 x7 x9 jq jW jZ jU jx jA ji ju jy jk jr jX jt jK jQ false 0 := (Qae _).trans (by kernel_rfl)
theorem QlS (lb n : Nat) (ja : Bool) (aair2 : LL) (jb : Bool) (adis4 : LL) (b5 : Int) :
 top lb n QaG [.agg [.list ja aair2, .list jb adis4], .int .i64 b5] =
 optO (atL adis4 b5) fun c6 =>
 chkO (c6.length == 3) (
 optO (c6[0]?) fun x7 =>
 optO (c6[1]?) fun x9 =>
 optO (c6[2]?) fun jq =>
 optO (C lb n Qbx [.agg [.list ja aair2, .list jb adis4], x7]) fun jW =>
 optO (CV.asT jW) fun g8 =>
 optO (g8[0]?) fun jZ =>
 optO (CV.asT jW) fun kG =>
 optO (kG[1]?) fun jz =>
 optO (CV.asA jZ) fun c17 =>
 chkO (c17.length == 5) (
 optO (c17[0]?) fun jA =>
 optO (c17[1]?) fun ji =>
 optO (c17[2]?) fun ju =>
 optO (c17[3]?) fun jy =>
 optO (c17[4]?) fun jk =>
 optO (C lb n Qbx [.agg [.list ja aair2, .list jb adis4], x9]) fun jU =>
 optO (CV.asT jU) fun pA =>
 optO (pA[0]?) fun jx =>
 optO (CV.asT jU) fun n6 =>
 optO (n6[1]?) fun jO =>
 optO (CV.asA jx) fun c28 =>
 chkO (c28.length == 5) (
 optO (c28[0]?) fun jr =>
 optO (c28[1]?) fun jX =>
 optO (c28[2]?) fun jt =>
 optO (c28[3]?) fun jK =>
 optO (c28[4]?) fun jQ =>
 optO (CV.asB jz) fun y7 =>
 bif (!y7) then
 (QcI lb n ja aair2 jb adis4 b5 jz jO c6 x7 x9 jq jW jZ jU jx jA ji ju jy jk jr jX jt jK jQ false [[CV.int .i64 14]])
 else
 (optO (CV.asB jO) fun nz =>
 bif (!nz) then
 (QcI lb n ja aair2 jb adis4 b5 jz jO c6 x7 x9 jq jW jZ jU jx jA ji ju jy jk jr jX jt jK jQ false [[CV.int .i64 14]])
 else
 (QcI lb n ja aair2 jb adis4 b5 jz jO c6 x7 x9 jq jW jZ jU jx jA ji ju jy jk jr jX jt jK jQ true []))))) := by kernel_rfl
noncomputable def Qfu (lb n yb : Nat) (ja : Bool) (aair2 : LL) (jb : Bool) (adis4 : LL) (b5 : LB) (j6 : Int) : Option CV :=
 hold (Qat (E0 lb n 0 995) 0 (Qag (sub (B Qbx) [1, 0, 1, 0, 0]) ++ []) [] (sub (B Qbx) [1, 0, 1, 0, 0]) (Qai 0 (seqK (E0 lb n 0 998) (sub (B Qbx) [1, 0]) (sub (B Qbx) [1, 1]) (retK Tryz.prog (R Qbx) 0 (outK (Qaf Tryz.prog Qbx))))) yb ⟨fr 28 [(0, .val (.agg [.list ja aair2, .list jb adis4])), (1, vS b5), (2, .ptr 0 2 0), (4, .ptr 0 4 0), (5, vB false), (6, vI j6)], [bx 28 [(2, some [.val (.list ja aair2), .val (.list jb adis4)]), (4, some [.val (.str []), .val (.str []), .val (.str []), vI 0, .lst true true 195 []])]], KK⟩)
noncomputable def Qk4 (lb n : Nat) (ja : Bool) (aair2 : LL) (jb : Bool) (adis4 : LL) (b5 : LB) (w9 : Int) : Option CV :=
 hold (E0 lb n 0 998 (sub (B Qbx) [1, 1]) (retK Tryz.prog (R Qbx) 0 (outK (Qaf Tryz.prog Qbx))) ⟨fr 28 [(0, .val (.agg [.list ja aair2, .list jb adis4])), (1, vS b5), (2, .ptr 0 2 0), (4, .ptr 0 4 0), (5, vB false), (6, vI w9)], [bx 28 [(2, some [.val (.list ja aair2), .val (.list jb adis4)]), (4, some [.val (.str []), .val (.str []), .val (.str []), vI 0, .lst true true 195 []])]], KK⟩)
theorem Qm7 (lb n : Nat) (ja : Bool) (aair2 : LL) (jb : Bool) (adis4 : LL) (b5 : LB) (w9 : Int) :
 Qk4 lb n ja aair2 jb adis4 b5 w9 =
 some (.tup [.agg [.str [], .str [], .str [], .int .i64 0, .list true []], .bool false]) := (Qae _).trans (by kernel_rfl)
theorem QgS (lb n yb : Nat) (ja : Bool) (aair2 : LL) (jb : Bool) (adis4 : LL) (b5 : LB) (j6 : Int) :
 Qfu lb n (yb + 1) ja aair2 jb adis4 b5 j6 =
 bif (decide (j6 < (aair2.length : Int))) then
 (optO (atL aair2 j6) fun c28 =>
 chkO (c28.length == 5) (
 optO (c28[1]?) fun jr =>
 optO (CV.asS jr) fun vi =>
 bif (vi == b5) then
 (optO (atL aair2 j6) fun c31 =>
 chkO (c31.length == 5) (
 optO (c31[0]?) fun jK =>
 optO (c31[1]?) fun jQ =>
 optO (c31[2]?) fun yK =>
 optO (c31[3]?) fun yO =>
 optO (c31[4]?) fun ym =>
 some (.tup [.agg [jK, jQ, yK, yO, ym], .bool true])))
 else
 (Qfu lb n yb ja aair2 jb adis4 b5 (IntKind.wrap .i64 (j6 + 1)))))
 else
 (Qk4 lb n ja aair2 jb adis4 b5 j6) := (Qae _).trans (by kernel_rfl)
theorem Qqa (lb n : Nat) (ja : Bool) (aair2 : LL) (jb : Bool) (adis4 : LL) (b5 : LB) :
 top lb n Qbx [.agg [.list ja aair2, .list jb adis4], .str b5] =
 Qfu lb n n ja aair2 jb adis4 b5 0 := by kernel_rfl
theorem Qot (lb n : Nat) (jm jB : LB) (kl : Int) :
 top lb n QdE [.agg [.str jm, .str jB, .int .i64 kl]] =
 bif (decide (kl ≥ 1)) then
 (some (.bool (decide (kl ≤ 20000))))
 else
 (some (.bool false)) := by kernel_rfl
noncomputable def QdA (lb n yJ : Nat) (jn : Int) (jl : Bool) (ashi3 : LL) (ww : Int) : Option CV :=
 hold (Qat (E0 lb n 0 993) 0 (Qag (sub (B Qbf) [1, 1, 1, 0, 1, 0, 0]) ++ []) [4] (sub (B Qbf) [1, 1, 1, 0, 1, 0, 0]) (Qai 0 (seqK (E0 lb n 0 996) (sub (B Qbf) [1, 1, 1, 0]) (sub (B Qbf) [1, 1, 1, 1]) (retK Tryz.prog (R Qbf) 0 (outK (Qaf Tryz.prog Qbf))))) yJ ⟨fr 54 [(0, .val (.agg [.int .i64 jn, .list jl ashi3])), (1, .ptr 0 1 0), (2, vI 0), (3, vI ww)], [bx 54 [(1, some [vI jn, .val (.list jl ashi3)])]], KK⟩)
noncomputable def Qj6 (lb n : Nat) (jn : Int) (jl : Bool) (ashi3 : LL) (gY : Int) : Option CV :=
 hold (E0 lb n 0 996 (sub (B Qbf) [1, 1, 1, 1]) (retK Tryz.prog (R Qbf) 0 (outK (Qaf Tryz.prog Qbf))) ⟨fr 54 [(0, .val (.agg [.int .i64 jn, .list jl ashi3])), (1, .ptr 0 1 0), (2, vI 0), (3, vI gY)], [bx 54 [(1, some [vI jn, .val (.list jl ashi3)])]], KK⟩)
theorem Qme (lb n : Nat) (jn : Int) (jl : Bool) (ashi3 : LL) (gY : Int) :
 Qj6 lb n jn jl ashi3 gY =
 some (.int .i64 0) := (Qae _).trans (by kernel_rfl)
theorem QfY (lb n yJ : Nat) (jn : Int) (jl : Bool) (ashi3 : LL) (ww : Int) :
 QdA lb n (yJ + 1) jn jl ashi3 ww =
 bif (decide (ww < (ashi3.length : Int))) then
 (optO (atL ashi3 ww) fun c30 =>
 chkO (c30.length == 2) (
 optO (c30[0]?) fun jt =>
 optO (c30[1]?) fun jK =>
 optO (CV.asI .i64 jt) fun yA =>
 bif (decide (yA < 0)) then
 (some (.int .i64 13))
 else
 (optO (CV.asI .i64 jt) fun va =>
 bif (decide (va ≥ 52596000)) then
 (some (.int .i64 13))
 else
 (bif (decide (ww > 0)) then
 (optO (atL ashi3 (IntKind.wrap .i64 (ww - 1))) fun c36 =>
 chkO (c36.length == 2) (
 optO (c36[0]?) fun ym =>
 optO (CV.asI .i64 jt) fun w9 =>
 optO (CV.asI .i64 ym) fun w4 =>
 bif (decide ((IntKind.wrap .i64 (w9 - w4)) < 2880)) then
 (some (.int .i64 13))
 else
 (optO (C lb n Qdx [jK]) fun gv =>
 optO (CV.asB gv) fun ma =>
 bif (!ma) then
 (some (.int .i64 2))
 else
 (QdA lb n yJ jn jl ashi3 (IntKind.wrap .i64 (ww + 1))))))
 else
 (optO (C lb n Qdx [jK]) fun o9 =>
 optO (CV.asB o9) fun pL =>
 bif (!pL) then
 (some (.int .i64 2))
 else
 (QdA lb n yJ jn jl ashi3 (IntKind.wrap .i64 (ww + 1))))))))
 else
 (Qj6 lb n jn jl ashi3 ww) := (Qae _).trans (by kernel_rfl)
theorem Qjd (lb n : Nat) (jn : Int) (jl : Bool) (ashi3 : LL) :
 top lb n Qbf [.agg [.int .i64 jn, .list jl ashi3]] =
 bif (decide ((ashi3.length : Int) > 256)) then
 (some (.int .i64 4))
 else
 (optO (C lb n Qdx [.int .i64 jn]) fun r4 =>
 optO (CV.asB r4) fun b5 =>
 bif (!b5) then
 (some (.int .i64 2))
 else
 (QdA lb n n jn jl ashi3 0)) := by kernel_rfl
theorem Qom (lb n : Nat) (a1 : Int) :
 top lb n Qdx [.int .i64 a1] =
 bif (decide (a1 ≥ (-840))) then
 (some (.bool (decide (a1 ≤ 840))))
 else
 (some (.bool false)) := by kernel_rfl
end Go.Proofs
