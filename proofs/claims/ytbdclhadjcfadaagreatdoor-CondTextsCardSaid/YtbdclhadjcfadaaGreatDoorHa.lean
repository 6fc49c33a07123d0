/- Equations of functions, printed by program. Conditions: none. -/
import Derived.Test.YtbdclhadjcfadaaGreatDoorEv
namespace Go.Proofs
open Go.Am
set_option maxRecDepth 100000
set_option linter.unusedVariables false
noncomputable def cond_levels_L1 :=
 fun lb n (wS:Nat) jf (jg:Bool) (jh:LL) ji jj ja jc jb (jd:Bool) (je:LL) jZ jL =>
 hold (Qau (E0 lb n 0 994) 0 (Qah (sub (B Qbg) [1,1,0,1,0,0]) ++ []) [5] (sub (B Qbg) [1,1,0,1,0,0]) (Qak 0 (seqK (E0 lb n 0 997) (sub (B Qbg) [1,1,0]) (sub (B Qbg) [1,1,1]) (retK Tryz.prog (R Qbg) 0 (outK (Qag Tryz.prog Qbg))))) wS ⟨fr 20 [(0, .val (.agg [.int .i64 jf, .list jg jh, .int .i64 ji, .int .i64 jj, .int .i64 ja, .int .i64 jc, .int .i64 jb, .list jd je])),(1, .ptr 0 1 0),(2,vI 0),(3,vI jZ),(6, .ptr 0 1 1),(7, .val (.list jg jh)),(8, .val (.int .i64 (jh.length:Int))),(9,vI jL)],[bx 20 [(1,some [vI jf, .val (.list jg jh),vI ji,vI jj,vI ja,vI jc,vI jb, .val (.list jd je)])]],KK⟩)
noncomputable def QlD (lb n:Nat) (jf:Int) (jg:Bool) (jh:LL) (ji jj ja jc jb:Int) (jd:Bool) (je:LL) (wm:Int):Option CV :=
 hold (E0 lb n 0 997 (sub (B Qbg) [1,1,1]) (retK Tryz.prog (R Qbg) 0 (outK (Qag Tryz.prog Qbg))) ⟨fr 20 [(0, .val (.agg [.int .i64 jf, .list jg jh, .int .i64 ji, .int .i64 jj, .int .i64 ja, .int .i64 jc, .int .i64 jb, .list jd je])),(1, .ptr 0 1 0),(2,vI 0),(3,vI wm)],[bx 20 [(1,some [vI jf, .val (.list jg jh),vI ji,vI jj,vI ja,vI jc,vI jb, .val (.list jd je)])]],KK⟩)
theorem Qo3 (lb n:Nat) (jf:Int) (jg:Bool) (jh:LL) (ji jj ja jc jb:Int) (jd:Bool) (je:LL) (wm:Int) :
 QlD lb n jf jg jh ji jj ja jc jb jd je wm =
 some (.int .i64 (IntKind.wrap .i64 (wm + 1))) := (Qac _).trans (by kernel_rfl)
theorem Qht (lb n wS:Nat) (jf:Int) (jg:Bool) (jh:LL) (ji jj ja jc jb:Int) (jd:Bool) (je:LL) (jZ jL:Int) :
 cond_levels_L1 lb n (wS + 1) jf jg jh ji jj ja jc jb jd je jZ jL =
 bif (decide (jL < (jh.length:Int))) then
 (optO (atL jh jL) fun jQ =>
 chkO (jQ.length == 8) (
 optO (jQ[0]?) fun yS =>
 optO (jQ[1]?) fun yl =>
 optO (jQ[2]?) fun w3 =>
 optO (jQ[3]?) fun yD =>
 optO (jQ[4]?) fun yt =>
 optO (jQ[5]?) fun yu =>
 optO (jQ[6]?) fun yo =>
 optO (jQ[7]?) fun wZ =>
 optO (C lb n Qbg [.agg [yS,yl,w3,yD,yt,yu,yo,wZ]]) fun yW =>
 optO (CV.asI .i64 yW) fun ym =>
 cond_levels_L1 lb n wS jf jg jh ji jj ja jc jb jd je (if ym > jZ then ym else jZ) (IntKind.wrap .i64 (jL + 1))))
 else
 (QlD lb n jf jg jh ji jj ja jc jb jd je jZ) := (Qac _).trans (by kernel_rfl)
theorem Qsk (lb n:Nat) (jf:Int) (jg:Bool) (jh:LL) (ji jj ja jc jb:Int) (jd:Bool) (je:LL) :
 top lb n Qbg [.agg [.int .i64 jf, .list jg jh, .int .i64 ji, .int .i64 jj, .int .i64 ja, .int .i64 jc, .int .i64 jb, .list jd je]] =
 cond_levels_L1 lb n n jf jg jh ji jj ja jc jb jd je 0 0 := by kernel_rfl
noncomputable def Qg4 (lb n wS:Nat) (jf:Int) (jg:Bool) (jh:LL) (ji jj ja jc jb:Int) (jd:Bool) (je:LL) (jZ jL:Int):Option CV :=
 hold (Qau (E0 lb n 0 994) 0 (Qah (sub (B QbF) [1,1,0,1,0,0]) ++ []) [5] (sub (B QbF) [1,1,0,1,0,0]) (Qak 0 (seqK (E0 lb n 0 997) (sub (B QbF) [1,1,0]) (sub (B QbF) [1,1,1]) (retK Tryz.prog (R QbF) 0 (outK (Qag Tryz.prog QbF))))) wS ⟨fr 19 [(0, .val (.agg [.int .i64 jf, .list jg jh, .int .i64 ji, .int .i64 jj, .int .i64 ja, .int .i64 jc, .int .i64 jb, .list jd je])),(1, .ptr 0 1 0),(2,vI 0),(3,vI jZ),(6, .ptr 0 1 1),(7, .val (.list jg jh)),(8, .val (.int .i64 (jh.length:Int))),(9,vI jL)],[bx 19 [(1,some [vI jf, .val (.list jg jh),vI ji,vI jj,vI ja,vI jc,vI jb, .val (.list jd je)])]],KK⟩)
noncomputable def Qn2 (lb n:Nat) (jf:Int) (jg:Bool) (jh:LL) (ji jj ja jc jb:Int) (jd:Bool) (je:LL) (wm:Int):Option CV :=
 hold (E0 lb n 0 997 (sub (B QbF) [1,1,1]) (retK Tryz.prog (R QbF) 0 (outK (Qag Tryz.prog QbF))) ⟨fr 19 [(0, .val (.agg [.int .i64 jf, .list jg jh, .int .i64 ji, .int .i64 jj, .int .i64 ja, .int .i64 jc, .int .i64 jb, .list jd je])),(1, .ptr 0 1 0),(2,vI 0),(3,vI wm)],[bx 19 [(1,some [vI jf, .val (.list jg jh),vI ji,vI jj,vI ja,vI jc,vI jb, .val (.list jd je)])]],KK⟩)
theorem QrK (lb n:Nat) (jf:Int) (jg:Bool) (jh:LL) (ji jj ja jc jb:Int) (jd:Bool) (je:LL) (wm:Int) :
 Qn2 lb n jf jg jh ji jj ja jc jb jd je wm =
 some (.int .i64 wm) := (Qac _).trans (by kernel_rfl)
theorem Qi4 (lb n wS:Nat) (jf:Int) (jg:Bool) (jh:LL) (ji jj ja jc jb:Int) (jd:Bool) (je:LL) (jZ jL:Int) :
 Qg4 lb n (wS + 1) jf jg jh ji jj ja jc jb jd je jZ jL =
 bif (decide (jL < (jh.length:Int))) then
 (optO (atL jh jL) fun jQ =>
 chkO (jQ.length == 8) (
 optO (jQ[0]?) fun yS =>
 optO (jQ[1]?) fun yl =>
 optO (jQ[2]?) fun w3 =>
 optO (jQ[3]?) fun yD =>
 optO (jQ[4]?) fun yt =>
 optO (jQ[5]?) fun yu =>
 optO (jQ[6]?) fun yo =>
 optO (jQ[7]?) fun wZ =>
 optO (C lb n QbF [.agg [yS,yl,w3,yD,yt,yu,yo,wZ]]) fun yW =>
 optO (CV.asI .i64 yW) fun ym =>
 Qg4 lb n wS jf jg jh ji jj ja jc jb jd je (IntKind.wrap .i64 (jZ + ym)) (IntKind.wrap .i64 (jL + 1))))
 else
 (Qn2 lb n jf jg jh ji jj ja jc jb jd je jZ) := (Qac _).trans (by kernel_rfl)
theorem QvO (lb n:Nat) (jf:Int) (jg:Bool) (jh:LL) (ji jj ja jc jb:Int) (jd:Bool) (je:LL) :
 top lb n QbF [.agg [.int .i64 jf, .list jg jh, .int .i64 ji, .int .i64 jj, .int .i64 ja, .int .i64 jc, .int .i64 jb, .list jd je]] =
 Qg4 lb n n jf jg jh ji jj ja jc jb jd je 1 0 := by kernel_rfl
noncomputable def Qga (lb n wS:Nat) (jf:Int) (jg:Bool) (jh:LL) (ji jj ja jc jb:Int) (jd:Bool) (je:LL) (jZ jL:Int):Option CV :=
 hold (Qau (E0 lb n 0 994) 0 (Qah (sub (B Qbp) [1,1,0,1,0,0]) ++ []) [] (sub (B Qbp) [1,1,0,1,0,0]) (Qak 0 (seqK (E0 lb n 0 997) (sub (B Qbp) [1,1,0]) (sub (B Qbp) [1,1,1]) (retK Tryz.prog (R Qbp) 0 (outK (Qag Tryz.prog Qbp))))) wS ⟨fr 22 [(0, .val (.agg [.int .i64 jf, .list jg jh, .int .i64 ji, .int .i64 jj, .int .i64 ja, .int .i64 jc, .int .i64 jb, .list jd je])),(1, .ptr 0 1 0),(2,vI 0),(3,vI jZ),(4,vI jL)],[bx 22 [(1,some [vI jf, .val (.list jg jh),vI ji,vI jj,vI ja,vI jc,vI jb, .val (.list jd je)])]],KK⟩)
noncomputable def QmY (lb n:Nat) (jf:Int) (jg:Bool) (jh:LL) (ji jj ja jc jb:Int) (jd:Bool) (je:LL) (wm i51:Int):Option CV :=
 hold (E0 lb n 0 997 (sub (B Qbp) [1,1,1]) (retK Tryz.prog (R Qbp) 0 (outK (Qag Tryz.prog Qbp))) ⟨fr 22 [(0, .val (.agg [.int .i64 jf, .list jg jh, .int .i64 ji, .int .i64 jj, .int .i64 ja, .int .i64 jc, .int .i64 jb, .list jd je])),(1, .ptr 0 1 0),(2,vI 0),(3,vI wm),(4,vI i51)],[bx 22 [(1,some [vI jf, .val (.list jg jh),vI ji,vI jj,vI ja,vI jc,vI jb, .val (.list jd je)])]],KK⟩)
theorem QpS (lb n:Nat) (jf:Int) (jg:Bool) (jh:LL) (ji jj ja jc jb:Int) (jd:Bool) (je:LL) (wm i51:Int) :
 QmY lb n jf jg jh ji jj ja jc jb jd je wm i51 =
 some (.int .i64 (IntKind.wrap .i64 (wm + 1))) := (Qac _).trans (by kernel_rfl)
theorem Qiw (lb n wS:Nat) (jf:Int) (jg:Bool) (jh:LL) (ji jj ja jc jb:Int) (jd:Bool) (je:LL) (jZ jL:Int) :
 Qga lb n (wS + 1) jf jg jh ji jj ja jc jb jd je jZ jL =
 bif (decide (jL < (jh.length:Int))) then
 (optO (atL jh jL) fun jQ =>
 chkO (jQ.length == 8) (
 optO (jQ[0]?) fun yS =>
 optO (jQ[1]?) fun yl =>
 optO (jQ[2]?) fun w3 =>
 optO (jQ[3]?) fun yD =>
 optO (jQ[4]?) fun yt =>
 optO (jQ[5]?) fun yu =>
 optO (jQ[6]?) fun yo =>
 optO (jQ[7]?) fun wZ =>
 optO (C lb n Qbp [.agg [yS,yl,w3,yD,yt,yu,yo,wZ]]) fun yW =>
 optO (CV.asI .i64 yW) fun ym =>
 Qga lb n wS jf jg jh ji jj ja jc jb jd je (if ym > jZ then ym else jZ) (IntKind.wrap .i64 (jL + 1))))
 else
 (QmY lb n jf jg jh ji jj ja jc jb jd je jZ jL) := (Qac _).trans (by kernel_rfl)
theorem QtI (lb n:Nat) (jf:Int) (jg:Bool) (jh:LL) (ji jj ja jc jb:Int) (jd:Bool) (je:LL) :
 top lb n Qbp [.agg [.int .i64 jf, .list jg jh, .int .i64 ji, .int .i64 jj, .int .i64 ja, .int .i64 jc, .int .i64 jb, .list jd je]] =
 Qga lb n n jf jg jh ji jj ja jc jb jd je 0 0 := by kernel_rfl
noncomputable def Qii (lb n wS:Nat) (jf:Int) (jg:Bool) (jh:LL) (ji jj ja jc jb:Int) (jd:Bool) (je:LL) (jZ jL:Int):Option CV :=
 hold (Qau (E0 lb n 0 994) 0 (Qah (sub (B QbI) [1,1,0,1,0,0]) ++ []) [] (sub (B QbI) [1,1,0,1,0,0]) (Qak 0 (seqK (E0 lb n 0 997) (sub (B QbI) [1,1,0]) (sub (B QbI) [1,1,1]) (retK Tryz.prog (R QbI) 0 (outK (Qag Tryz.prog QbI))))) wS ⟨fr 21 [(0, .val (.agg [.int .i64 jf, .list jg jh, .int .i64 ji, .int .i64 jj, .int .i64 ja, .int .i64 jc, .int .i64 jb, .list jd je])),(1, .ptr 0 1 0),(2,vI 0),(3,vI jZ),(4,vI jL)],[bx 21 [(1,some [vI jf, .val (.list jg jh),vI ji,vI jj,vI ja,vI jc,vI jb, .val (.list jd je)])]],KK⟩)
noncomputable def Qpv (lb n:Nat) (jf:Int) (jg:Bool) (jh:LL) (ji jj ja jc jb:Int) (jd:Bool) (je:LL) (wm i51:Int):Option CV :=
 hold (E0 lb n 0 997 (sub (B QbI) [1,1,1]) (retK Tryz.prog (R QbI) 0 (outK (Qag Tryz.prog QbI))) ⟨fr 21 [(0, .val (.agg [.int .i64 jf, .list jg jh, .int .i64 ji, .int .i64 jj, .int .i64 ja, .int .i64 jc, .int .i64 jb, .list jd je])),(1, .ptr 0 1 0),(2,vI 0),(3,vI wm),(4,vI i51)],[bx 21 [(1,some [vI jf, .val (.list jg jh),vI ji,vI jj,vI ja,vI jc,vI jb, .val (.list jd je)])]],KK⟩)
theorem Qsd (lb n:Nat) (jf:Int) (jg:Bool) (jh:LL) (ji jj ja jc jb:Int) (jd:Bool) (je:LL) (wm i51:Int) :
 Qpv lb n jf jg jh ji jj ja jc jb jd je wm i51 =
 some (.int .i64 wm) := (Qac _).trans (by kernel_rfl)
theorem Qkb (lb n wS:Nat) (jf:Int) (jg:Bool) (jh:LL) (ji jj ja jc jb:Int) (jd:Bool) (je:LL) (jZ jL:Int) :
 Qii lb n (wS + 1) jf jg jh ji jj ja jc jb jd je jZ jL =
 bif (decide (jL < (jh.length:Int))) then
 (optO (atL jh jL) fun jQ =>
 chkO (jQ.length == 8) (
 optO (jQ[0]?) fun yS =>
 optO (jQ[1]?) fun yl =>
 optO (jQ[2]?) fun w3 =>
 optO (jQ[3]?) fun yD =>
 optO (jQ[4]?) fun yt =>
 optO (jQ[5]?) fun yu =>
 optO (jQ[6]?) fun yo =>
 optO (jQ[7]?) fun wZ =>
 optO (C lb n QbI [.agg [yS,yl,w3,yD,yt,yu,yo,wZ]]) fun yW =>
 optO (CV.asI .i64 yW) fun ym =>
 Qii lb n wS jf jg jh ji jj ja jc jb jd je (IntKind.wrap .i64 (jZ + ym)) (IntKind.wrap .i64 (jL + 1))))
 else
 (Qpv lb n jf jg jh ji jj ja jc jb jd je jZ jL) := (Qac _).trans (by kernel_rfl)
theorem QwG (lb n:Nat) (jf:Int) (jg:Bool) (jh:LL) (ji jj ja jc jb:Int) (jd:Bool) (je:LL) :
 top lb n QbI [.agg [.int .i64 jf, .list jg jh, .int .i64 ji, .int .i64 jj, .int .i64 ja, .int .i64 jc, .int .i64 jb, .list jd je]] =
 Qii lb n n jf jg jh ji jj ja jc jb jd je 1 0 := by kernel_rfl
noncomputable def QgQ (lb n yw:Nat) (jf:Int) (jg:Bool) (jh:LL) (ji jj ja jc jb:Int) (jd:Bool) (je:LL) (jX:Int):Option CV :=
 hold (Qau (E0 lb n 0 993) 0 (Qah (sub (B QaT) [1,1,1,0,1,0,0]) ++ []) [] (sub (B QaT) [1,1,1,0,1,0,0]) (Qak 0 (seqK (E0 lb n 0 996) (sub (B QaT) [1,1,1,0]) (sub (B QaT) [1,1,1,1]) (retK Tryz.prog (R QaT) 0 (outK (Qag Tryz.prog QaT))))) yw ⟨fr 46 [(0, .val (.agg [.int .i64 jf, .list jg jh, .int .i64 ji, .int .i64 jj, .int .i64 ja, .int .i64 jc, .int .i64 jb, .list jd je])),(1, .ptr 0 1 0),(2,vB false),(3, .val (.int .i64 (je.length:Int))),(4,vI jX),(9, .ptr 0 1 7),(10, .val (.list jd je)),(11, .val (.int .i64 (je.length:Int)))],[bx 46 [(1,some [vI jf, .val (.list jg jh),vI ji,vI jj,vI ja,vI jc,vI jb, .val (.list jd je)])]],KK⟩)
noncomputable def Qop (lb n:Nat) (jf:Int) (jg:Bool) (jh:LL) (ji jj ja jc jb:Int) (jd:Bool) (je:LL) (i51:Int):Option CV :=
 hold (E0 lb n 0 996 (sub (B QaT) [1,1,1,1]) (retK Tryz.prog (R QaT) 0 (outK (Qag Tryz.prog QaT))) ⟨fr 46 [(0, .val (.agg [.int .i64 jf, .list jg jh, .int .i64 ji, .int .i64 jj, .int .i64 ja, .int .i64 jc, .int .i64 jb, .list jd je])),(1, .ptr 0 1 0),(2,vB false),(3, .val (.int .i64 (je.length:Int))),(4,vI i51),(9, .ptr 0 1 7),(10, .val (.list jd je)),(11, .val (.int .i64 (je.length:Int)))],[bx 46 [(1,some [vI jf, .val (.list jg jh),vI ji,vI jj,vI ja,vI jc,vI jb, .val (.list jd je)])]],KK⟩)
noncomputable def Qhm (lb n o9:Nat) (jf:Int) (jg:Bool) (jh:LL) (ji jj ja jc jb:Int) (jd:Bool) (je:LL) (i51 vJ vw:Int):Option CV :=
 hold (Qau (E0 lb n 0 992) 0 (Qah (sub (B QaT) [1,1,1,1,0,1,0,0]) ++ []) [] (sub (B QaT) [1,1,1,1,0,1,0,0]) (Qak 2 (seqK (E0 lb n 0 995) (sub (B QaT) [1,1,1,1,0]) (sub (B QaT) [1,1,1,1,1]) (retK Tryz.prog (R QaT) 0 (outK (Qag Tryz.prog QaT))))) o9 ⟨fr 46 [(0, .val (.agg [.int .i64 jf, .list jg jh, .int .i64 ji, .int .i64 jj, .int .i64 ja, .int .i64 jc, .int .i64 jb, .list jd je])),(1, .ptr 0 1 0),(2,vB false),(3,vI vJ),(4,vI i51),(5,vI vw),(9, .ptr 0 1 7),(10, .val (.list jd je)),(11, .val (.int .i64 (je.length:Int)))],[bx 46 [(1,some [vI jf, .val (.list jg jh),vI ji,vI jj,vI ja,vI jc,vI jb, .val (.list jd je)])]],KK⟩)
noncomputable def QjT (lb n:Nat) (jf:Int) (jg:Bool) (jh:LL) (ji jj ja jc jb:Int) (jd:Bool) (je:LL) (i51 y5 wo:Int):Option CV :=
 hold (E0 lb n 0 995 (sub (B QaT) [1,1,1,1,1]) (retK Tryz.prog (R QaT) 0 (outK (Qag Tryz.prog QaT))) ⟨fr 46 [(0, .val (.agg [.int .i64 jf, .list jg jh, .int .i64 ji, .int .i64 jj, .int .i64 ja, .int .i64 jc, .int .i64 jb, .list jd je])),(1, .ptr 0 1 0),(2,vB false),(3,vI y5),(4,vI i51),(5,vI wo),(9, .ptr 0 1 7),(10, .val (.list jd je)),(11, .val (.int .i64 (je.length:Int)))],[bx 46 [(1,some [vI jf, .val (.list jg jh),vI ji,vI jj,vI ja,vI jc,vI jb, .val (.list jd je)])]],KK⟩)
theorem Qhd (lb n:Nat) (jf:Int) (jg:Bool) (jh:LL) (ji jj ja jc jb:Int) (jd:Bool) (je:LL) (i51 y5 wo:Int) :
 QjT lb n jf jg jh ji jj ja jc jb jd je i51 y5 wo =
 some (.bool (decide (y5 > 400))) := (Qac _).trans (by kernel_rfl)
theorem Qi0 (lb n o9:Nat) (jf:Int) (jg:Bool) (jh:LL) (ji jj ja jc jb:Int) (jd:Bool) (je:LL) (i51 vJ vw:Int) :
 Qhm lb n (o9 + 1) jf jg jh ji jj ja jc jb jd je i51 vJ vw =
 bif (decide (vw < (je.length:Int))) then
 (bif (decide (vw < 200)) then
 (optO (atL je vw) fun nZ =>
 chkO (nZ.length == 1) (
 optO (nZ[0]?) fun gO =>
 optO (CV.asS gO) fun lT =>
 Qhm lb n o9 jf jg jh ji jj ja jc jb jd je i51 (IntKind.wrap .i64 (vJ + (lT.length:Int))) (IntKind.wrap .i64 (vw + 1))))
 else
 (QjT lb n jf jg jh ji jj ja jc jb jd je i51 vJ vw))
 else
 (QjT lb n jf jg jh ji jj ja jc jb jd je i51 vJ vw) := (Qac _).trans (by kernel_rfl)
theorem Qrf (lb n:Nat) (jf:Int) (jg:Bool) (jh:LL) (ji jj ja jc jb:Int) (jd:Bool) (je:LL) (i51:Int) :
 Qop lb n jf jg jh ji jj ja jc jb jd je i51 =
 Qhm lb n n jf jg jh ji jj ja jc jb jd je i51 (je.length:Int) 0 := (Qac _).trans (by kernel_rfl)
theorem Qi1 (lb n yw:Nat) (jf:Int) (jg:Bool) (jh:LL) (ji jj ja jc jb:Int) (jd:Bool) (je:LL) (jX:Int) :
 QgQ lb n (yw + 1) jf jg jh ji jj ja jc jb jd je jX =
 bif (decide (jX < (jh.length:Int))) then
 (optO (atL jh jX) fun wk =>
 chkO (wk.length == 8) (
 optO (wk[0]?) fun yl =>
 optO (wk[1]?) fun w3 =>
 optO (wk[2]?) fun yD =>
 optO (wk[3]?) fun yt =>
 optO (wk[4]?) fun yu =>
 optO (wk[5]?) fun yo =>
 optO (wk[6]?) fun wZ =>
 optO (wk[7]?) fun oA =>
 optO (C lb n QaT [.agg [yl,w3,yD,yt,yu,yo,wZ,oA]]) fun kj =>
 optO (CV.asB kj) fun lA =>
 bif lA then
 (some (.bool true))
 else
 (QgQ lb n yw jf jg jh ji jj ja jc jb jd je (IntKind.wrap .i64 (jX + 1)))))
 else
 (Qop lb n jf jg jh ji jj ja jc jb jd je jX) := (Qac _).trans (by kernel_rfl)
theorem Qvn (lb n:Nat) (jf:Int) (jg:Bool) (jh:LL) (ji jj ja jc jb:Int) (jd:Bool) (je:LL) :
 top lb n QaT [.agg [.int .i64 jf, .list jg jh, .int .i64 ji, .int .i64 jj, .int .i64 ja, .int .i64 jc, .int .i64 jb, .list jd je]] =
 optO (C lb n QbI [.agg [.int .i64 jf, .list jg jh, .int .i64 ji, .int .i64 jj, .int .i64 ja, .int .i64 jc, .int .i64 jb, .list jd je]]) fun jk =>
 optO (CV.asI .i64 jk) fun jm =>
 bif (decide (jm > 300)) then
 (some (.bool true))
 else
 (QgQ lb n n jf jg jh ji jj ja jc jb jd je 0) := by kernel_rfl
end Go.Proofs
