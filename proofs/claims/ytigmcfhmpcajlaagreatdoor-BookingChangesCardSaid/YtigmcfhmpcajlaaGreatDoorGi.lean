/- Equations of functions, printed by program. Conditions: none. -/
import Derived.Test.YtigmcfhmpcajlaaGreatDoorEv
namespace Go.Proofs
open Go.Am
set_option maxRecDepth 100000
set_option linter.unusedVariables false
noncomputable def r35_Change_J1:=
 fun lb n jj (jb:Bool) (jf:LL) jg (je:Bool) (ja:LL) (jd:Bool) (jh:LL) jc jn jo wH wd (wv:List CV) wL wG y7 yS=>
 hold (E0 lb n 0 994 (sub (B Qap) [1,1,1,1,1,1]) (retK Tryz.prog (R Qap) 0 (outK (Qae Tryz.prog Qap))) ⟨fr 102 [(0, .val (.agg [.str jj, .list jb jf, .int .i64 jg, .list je ja, .list jd jh, .int .i64 jc])),(1,vI jn),(2,vI jo),(3, .ptr 0 3 0),(6, .ptr 0 6 0),(7, .lst true true 3 []),(8,vI 0),(9,vV wH),(10,vV y7),(11,vV yS),(26,vV wd),(27, .ptr 0 3 3),(28, .val (.list je ja)),(29,vI jn),(30, .cptr wv 0),(31, .cptr wv 8),(32,vV wL),(33,vI jo),(34,vV wd),(35,vV wH),(36,vV wG),(41,vI jn),(42, .val (.list false [[CV.int .i64 jn]]))],[bx 102 [(3,some [vS jj, .val (.list jb jf),vI jg, .val (.list je ja), .val (.list jd jh),vI jc]),(6,some [.val (.str []), .lst true true 89 [],vI 0, .lst true true 39 [], .lst true true 70 [],vI 0])]],KK⟩)
noncomputable def QsG (lb n k50:Nat) (jj:LB) (jb:Bool) (jf:LL) (jg:Int) (je:Bool) (ja:LL) (jd:Bool) (jh:LL) (jc jn jo:Int) (wH y7 yS wd:CV) (wv:List CV) (wL wG:CV):Option CV:=
 hold (Qax (E0 lb n 0 989) 0 (Qak (sub (B Qap) [1,1,1,1,1,1,1,0,1,0,0])++ [14,15]) [] (sub (B Qap) [1,1,1,1,1,1,1,0,1,0,0]) (Qam 0 (seqK (E0 lb n 0 992) (sub (B Qap) [1,1,1,1,1,1,1,0]) (sub (B Qap) [1,1,1,1,1,1,1,1]) (retK Tryz.prog (R Qap) 0 (outK (Qae Tryz.prog Qap))))) k50 ⟨fr 102 [(0, .val (.agg [.str jj, .list jb jf, .int .i64 jg, .list je ja, .list jd jh, .int .i64 jc])),(1,vI jn),(2,vI jo),(3, .ptr 0 3 0),(6, .ptr 0 6 0),(7, .lst true true 3 []),(8,vI 0),(9,vV wH),(10,vV y7),(11,vV yS),(12, .val (.list false [])),(13,vI 0),(26,vV wd),(27, .ptr 0 3 3),(28, .val (.list je ja)),(29,vI jn),(30, .cptr wv 0),(31, .cptr wv 8),(32,vV wL),(33,vI jo),(34,vV wd),(35,vV wH),(36,vV wG),(41,vI jn),(42, .val (.list false [[CV.int .i64 jn]])),(64, .lst false false 39 []),(65, .ptr 0 3 3),(66, .val (.list je ja)),(67, .val (.list false []))],[bx 102 [(3,some [vS jj, .val (.list jb jf),vI jg, .val (.list je ja), .val (.list jd jh),vI jc]),(6,some [.val (.str []), .lst true true 89 [],vI 0, .lst true true 39 [], .lst true true 70 [],vI 0])]],KK⟩)
noncomputable def Qgl (lb n nh:Nat) (jj:LB) (jb:Bool) (jf:LL) (jg:Int) (je:Bool) (ja:LL) (jd:Bool) (jh:LL) (jc jn jo:Int) (wH y7 yS wd:CV) (wv:List CV) (wL wG:CV) (gd:Int) (gB:LL):Option CV:=
 hold (Qax (E0 lb n 0 989) 0 (Qak (sub (B Qap) [1,1,1,1,1,1,1,0,1,0,0])++ [14,15]) [] (sub (B Qap) [1,1,1,1,1,1,1,0,1,0,0]) (Qam 0 (seqK (E0 lb n 0 992) (sub (B Qap) [1,1,1,1,1,1,1,0]) (sub (B Qap) [1,1,1,1,1,1,1,1]) (retK Tryz.prog (R Qap) 0 (outK (Qae Tryz.prog Qap))))) nh ⟨fr 102 [(0, .val (.agg [.str jj, .list jb jf, .int .i64 jg, .list je ja, .list jd jh, .int .i64 jc])),(1,vI jn),(2,vI jo),(3, .ptr 0 3 0),(6, .ptr 0 6 0),(7, .lst true true 3 []),(8,vI 0),(9,vV wH),(10,vV y7),(11,vV yS),(12, .rsl 39 0 12 0 ja.length ja.length),(13,vI gd),(26,vV wd),(27, .ptr 0 3 3),(28, .val (.list je ja)),(29,vI jn),(30, .cptr wv 0),(31, .cptr wv 8),(32,vV wL),(33,vI jo),(34,vV wd),(35,vV wH),(36,vV wG),(41,vI jn),(42, .val (.list false [[CV.int .i64 jn]])),(64, .lst false false 39 []),(65, .ptr 0 3 3),(66, .val (.list je ja)),(67, .rsl 39 0 12 0 ja.length ja.length)],[bx 102 [(3,some [vS jj, .val (.list jb jf),vI jg, .val (.list je ja), .val (.list jd jh),vI jc]),(6,some [.val (.str []), .lst true true 89 [],vI 0, .lst true true 39 [], .lst true true 70 [],vI 0]),(12,some [.row 39 gB])]],KK⟩)
noncomputable def Qmt (lb n:Nat) (jj:LB) (jb:Bool) (jf:LL) (jg:Int) (je:Bool) (ja:LL) (jd:Bool) (jh:LL) (jc jn jo:Int) (wH y7 yS wd:CV) (wv:List CV) (wL wG:CV) (pD:Int) (kj:LL):Option CV:=
 hold (E0 lb n 0 992 (sub (B Qap) [1,1,1,1,1,1,1,1]) (retK Tryz.prog (R Qap) 0 (outK (Qae Tryz.prog Qap))) ⟨fr 102 [(0, .val (.agg [.str jj, .list jb jf, .int .i64 jg, .list je ja, .list jd jh, .int .i64 jc])),(1,vI jn),(2,vI jo),(3, .ptr 0 3 0),(6, .ptr 0 6 0),(7, .lst true true 3 []),(8,vI 0),(9,vV wH),(10,vV y7),(11,vV yS),(12, .rsl 39 0 12 0 ja.length ja.length),(13,vI pD),(26,vV wd),(27, .ptr 0 3 3),(28, .val (.list je ja)),(29,vI jn),(30, .cptr wv 0),(31, .cptr wv 8),(32,vV wL),(33,vI jo),(34,vV wd),(35,vV wH),(36,vV wG),(41,vI jn),(42, .val (.list false [[CV.int .i64 jn]])),(64, .lst false false 39 []),(65, .ptr 0 3 3),(66, .val (.list je ja)),(67, .rsl 39 0 12 0 ja.length ja.length)],[bx 102 [(3,some [vS jj, .val (.list jb jf),vI jg, .val (.list je ja), .val (.list jd jh),vI jc]),(6,some [.val (.str []), .lst true true 89 [],vI 0, .lst true true 39 [], .lst true true 70 [],vI 0]),(12,some [.row 39 kj])]],KK⟩)
theorem Qpv (lb n:Nat) (jj:LB) (jb:Bool) (jf:LL) (jg:Int) (je:Bool) (ja:LL) (jd:Bool) (jh:LL) (jc jn jo:Int) (wH y7 yS wd:CV) (wv:List CV) (wL wG:CV) (pD:Int) (kj:LL):
 Qmt lb n jj jb jf jg je ja jd jh jc jn jo wH y7 yS wd wv wL wG pD kj=
 chkO (decide ((0+ja.length)≤kj.length)) (
 some (.tup [.agg [.str jj, .list jb jf, .int .i64 jg, .list false ((kj.drop 0).take ja.length), .list jd jh, .int .i64 jc],yS, .int .i64 0])):=(Qah _).trans (by kernel_rfl)
theorem Qio (lb n nh:Nat) (jj:LB) (jb:Bool) (jf:LL) (jg:Int) (je:Bool) (ja:LL) (jd:Bool) (jh:LL) (jc jn jo:Int) (wH y7 yS wd:CV) (wv:List CV) (wL wG:CV) (gd:Int) (gB:LL):
 Qgl lb n (nh+1) jj jb jf jg je ja jd jh jc jn jo wH y7 yS wd wv wL wG gd gB=
 optO (CV.asL yS) fun uE=>
 bif (decide (gd<(uE.2.length:Int))) then
 (optO (CV.asL yS) fun tn=>
 optO (atL tn.2 gd) fun su=>
 chkO (su.length==1) (
 optO (su[0]?) fun lr=>
 optO (CV.asN lr) fun pC=>
 chkO ((decide (0≤(pC:Int)))&&(decide ((pC:Int)<((ja.length:Nat):Int)))) (
 optO (gB[0+pC.toNat]?) fun l5=>
 optO (l5[8]?) fun tk=>
 optO (C lb n Qhg [tk, .int .i64 jo]) fun qC=>
 optO (CV.asT qC) fun ld=>
 optO (ld[0]?) fun qj=>
 optO (CV.asT qC) fun l7=>
 optO (l7[1]?) fun tA=>
 optO (CV.asI .i64 tA) fun lk=>
 bif (lk !=0) then
 (some (.tup [.agg [.str [], .list true [], .int .i64 0, .list true [], .list true [], .int .i64 0], .list true [], .int .i64 18]))
 else
 (optO (CV.asL yS) fun uh=>
 optO (atL uh.2 gd) fun qn=>
 chkO (qn.length==1) (
 optO (qn[0]?) fun nb=>
 optO (CV.asN nb) fun mY=>
 chkO ((decide (0≤(mY:Int)))&&(decide ((mY:Int)<((ja.length:Nat):Int)))) (
 chkO (CV.isCell qj) (
 optO (gB[0+mY.toNat]?) fun c127=>
 chkO (decide ((9:Nat)≤c127.length)) (
 Qgl lb n nh jj jb jf jg je ja jd jh jc jn jo wH y7 yS wd wv wL wG (IntKind.wrap .i64 (gd+1)) (setN gB (0+mY.toNat) (QbI c127 8 [qj]))))))))))
 else
 (Qmt lb n jj jb jf jg je ja jd jh jc jn jo wH y7 yS wd wv wL wG gd gB):=(Qah _).trans (by kernel_rfl)
theorem Qpm (lb n:Nat) (jj:LB) (jb:Bool) (jf:LL) (jg:Int) (je:Bool) (ja:LL) (jd:Bool) (jh:LL) (jc jn jo:Int) (wH wd:CV) (wv:List CV) (wL wG y7 yS:CV):
 r35_Change_J1 lb n jj jb jf jg je ja jd jh jc jn jo wH wd wv wL wG y7 yS=
 chkO (ja.all (·.length==10)) (
 chkO (room ja.length 112) (
 bif ja.isEmpty then
 (QsG lb n n jj jb jf jg je ja jd jh jc jn jo wH y7 yS wd wv wL wG)
 else
 (Qgl lb n n jj jb jf jg je ja jd jh jc jn jo wH y7 yS wd wv wL wG 0 ja))):=(Qah _).trans (by kernel_rfl)
noncomputable def QeK (lb n:Nat) (jj:LB) (jb:Bool) (jf:LL) (jg:Int) (je:Bool) (ja:LL) (jd:Bool) (jh:LL) (jc jn jo:Int) (wH wG wd:CV) (wv:List CV) (wL:CV):Option CV:=
 hold (E0 lb n 0 994 (sub (B Qap) [1,1,1,1,1,1]) (retK Tryz.prog (R Qap) 0 (outK (Qae Tryz.prog Qap))) ⟨fr 102 [(0, .val (.agg [.str jj, .list jb jf, .int .i64 jg, .list je ja, .list jd jh, .int .i64 jc])),(1,vI jn),(2,vI jo),(3, .ptr 0 3 0),(6, .ptr 0 6 0),(7, .lst true true 3 []),(8,vI 0),(9,vV wH),(10,vV wG),(11, .lst true false 3 [[CV.int .i64 jn]]),(26,vV wd),(27, .ptr 0 3 3),(28, .val (.list je ja)),(29,vI jn),(30, .cptr wv 0),(31, .cptr wv 8),(32,vV wL),(33,vI jo),(34,vV wd),(35,vV wH),(36,vV wG),(41,vI jn),(42, .val (.list false [[CV.int .i64 jn]]))],[bx 102 [(3,some [vS jj, .val (.list jb jf),vI jg, .val (.list je ja), .val (.list jd jh),vI jc]),(6,some [.val (.str []), .lst true true 89 [],vI 0, .lst true true 39 [], .lst true true 70 [],vI 0])]],KK⟩)
noncomputable def QsN (lb n jam:Nat) (jj:LB) (jb:Bool) (jf:LL) (jg:Int) (je:Bool) (ja:LL) (jd:Bool) (jh:LL) (jc jn jo:Int) (wH wG wd:CV) (wv:List CV) (wL:CV):Option CV:=
 hold (Qax (E0 lb n 0 989) 0 (Qak (sub (B Qap) [1,1,1,1,1,1,1,0,1,0,0])++ [14,15]) [] (sub (B Qap) [1,1,1,1,1,1,1,0,1,0,0]) (Qam 0 (seqK (E0 lb n 0 992) (sub (B Qap) [1,1,1,1,1,1,1,0]) (sub (B Qap) [1,1,1,1,1,1,1,1]) (retK Tryz.prog (R Qap) 0 (outK (Qae Tryz.prog Qap))))) jam ⟨fr 102 [(0, .val (.agg [.str jj, .list jb jf, .int .i64 jg, .list je ja, .list jd jh, .int .i64 jc])),(1,vI jn),(2,vI jo),(3, .ptr 0 3 0),(6, .ptr 0 6 0),(7, .lst true true 3 []),(8,vI 0),(9,vV wH),(10,vV wG),(11, .lst true false 3 [[CV.int .i64 jn]]),(12, .val (.list false [])),(13,vI 0),(26,vV wd),(27, .ptr 0 3 3),(28, .val (.list je ja)),(29,vI jn),(30, .cptr wv 0),(31, .cptr wv 8),(32,vV wL),(33,vI jo),(34,vV wd),(35,vV wH),(36,vV wG),(41,vI jn),(42, .val (.list false [[CV.int .i64 jn]])),(64, .lst false false 39 []),(65, .ptr 0 3 3),(66, .val (.list je ja)),(67, .val (.list false []))],[bx 102 [(3,some [vS jj, .val (.list jb jf),vI jg, .val (.list je ja), .val (.list jd jh),vI jc]),(6,some [.val (.str []), .lst true true 89 [],vI 0, .lst true true 39 [], .lst true true 70 [],vI 0])]],KK⟩)
noncomputable def Qgm (lb n mS:Nat) (jj:LB) (jb:Bool) (jf:LL) (jg:Int) (je:Bool) (ja:LL) (jd:Bool) (jh:LL) (jc jn jo:Int) (wH wG wd:CV) (wv:List CV) (wL:CV) (kk:Int) (oD:LL):Option CV:=
 hold (Qax (E0 lb n 0 989) 0 (Qak (sub (B Qap) [1,1,1,1,1,1,1,0,1,0,0])++ [14,15]) [] (sub (B Qap) [1,1,1,1,1,1,1,0,1,0,0]) (Qam 0 (seqK (E0 lb n 0 992) (sub (B Qap) [1,1,1,1,1,1,1,0]) (sub (B Qap) [1,1,1,1,1,1,1,1]) (retK Tryz.prog (R Qap) 0 (outK (Qae Tryz.prog Qap))))) mS ⟨fr 102 [(0, .val (.agg [.str jj, .list jb jf, .int .i64 jg, .list je ja, .list jd jh, .int .i64 jc])),(1,vI jn),(2,vI jo),(3, .ptr 0 3 0),(6, .ptr 0 6 0),(7, .lst true true 3 []),(8,vI 0),(9,vV wH),(10,vV wG),(11, .lst true false 3 [[CV.int .i64 jn]]),(12, .rsl 39 0 12 0 ja.length ja.length),(13,vI kk),(26,vV wd),(27, .ptr 0 3 3),(28, .val (.list je ja)),(29,vI jn),(30, .cptr wv 0),(31, .cptr wv 8),(32,vV wL),(33,vI jo),(34,vV wd),(35,vV wH),(36,vV wG),(41,vI jn),(42, .val (.list false [[CV.int .i64 jn]])),(64, .lst false false 39 []),(65, .ptr 0 3 3),(66, .val (.list je ja)),(67, .rsl 39 0 12 0 ja.length ja.length)],[bx 102 [(3,some [vS jj, .val (.list jb jf),vI jg, .val (.list je ja), .val (.list jd jh),vI jc]),(6,some [.val (.str []), .lst true true 89 [],vI 0, .lst true true 39 [], .lst true true 70 [],vI 0]),(12,some [.row 39 oD])]],KK⟩)
noncomputable def QmD (lb n:Nat) (jj:LB) (jb:Bool) (jf:LL) (jg:Int) (je:Bool) (ja:LL) (jd:Bool) (jh:LL) (jc jn jo:Int) (wH wG wd:CV) (wv:List CV) (wL:CV) (nR:Int) (gt:LL):Option CV:=
 hold (E0 lb n 0 992 (sub (B Qap) [1,1,1,1,1,1,1,1]) (retK Tryz.prog (R Qap) 0 (outK (Qae Tryz.prog Qap))) ⟨fr 102 [(0, .val (.agg [.str jj, .list jb jf, .int .i64 jg, .list je ja, .list jd jh, .int .i64 jc])),(1,vI jn),(2,vI jo),(3, .ptr 0 3 0),(6, .ptr 0 6 0),(7, .lst true true 3 []),(8,vI 0),(9,vV wH),(10,vV wG),(11, .lst true false 3 [[CV.int .i64 jn]]),(12, .rsl 39 0 12 0 ja.length ja.length),(13,vI nR),(26,vV wd),(27, .ptr 0 3 3),(28, .val (.list je ja)),(29,vI jn),(30, .cptr wv 0),(31, .cptr wv 8),(32,vV wL),(33,vI jo),(34,vV wd),(35,vV wH),(36,vV wG),(41,vI jn),(42, .val (.list false [[CV.int .i64 jn]])),(64, .lst false false 39 []),(65, .ptr 0 3 3),(66, .val (.list je ja)),(67, .rsl 39 0 12 0 ja.length ja.length)],[bx 102 [(3,some [vS jj, .val (.list jb jf),vI jg, .val (.list je ja), .val (.list jd jh),vI jc]),(6,some [.val (.str []), .lst true true 89 [],vI 0, .lst true true 39 [], .lst true true 70 [],vI 0]),(12,some [.row 39 gt])]],KK⟩)
theorem Qpd (lb n:Nat) (jj:LB) (jb:Bool) (jf:LL) (jg:Int) (je:Bool) (ja:LL) (jd:Bool) (jh:LL) (jc jn jo:Int) (wH wG wd:CV) (wv:List CV) (wL:CV) (nR:Int) (gt:LL):
 QmD lb n jj jb jf jg je ja jd jh jc jn jo wH wG wd wv wL nR gt=
 chkO (decide ((0+ja.length)≤gt.length)) (
 some (.tup [.agg [.str jj, .list jb jf, .int .i64 jg, .list false ((gt.drop 0).take ja.length), .list jd jh, .int .i64 jc], .list false [[CV.int .i64 jn]], .int .i64 0])):=(Qah _).trans (by kernel_rfl)
theorem Qil (lb n mS:Nat) (jj:LB) (jb:Bool) (jf:LL) (jg:Int) (je:Bool) (ja:LL) (jd:Bool) (jh:LL) (jc jn jo:Int) (wH wG wd:CV) (wv:List CV) (wL:CV) (kk:Int) (oD:LL):
 Qgm lb n (mS+1) jj jb jf jg je ja jd jh jc jn jo wH wG wd wv wL kk oD=
 bif (decide (kk<1)) then
 (optO (atL [[CV.int .i64 jn]] kk) fun sD=>
 chkO (sD.length==1) (
 optO (sD[0]?) fun tH=>
 optO (CV.asN tH) fun gY=>
 chkO ((decide (0≤(gY:Int)))&&(decide ((gY:Int)<((ja.length:Nat):Int)))) (
 optO (oD[0+gY.toNat]?) fun uk=>
 optO (uk[8]?) fun nP=>
 optO (C lb n Qhg [nP, .int .i64 jo]) fun zd=>
 optO (CV.asT zd) fun lW=>
 optO (lW[0]?) fun mO=>
 optO (CV.asT zd) fun jan=>
 optO (jan[1]?) fun uN=>
 optO (CV.asI .i64 uN) fun pE=>
 bif (pE !=0) then
 (some (.tup [.agg [.str [], .list true [], .int .i64 0, .list true [], .list true [], .int .i64 0], .list true [], .int .i64 18]))
 else
 (optO (atL [[CV.int .i64 jn]] kk) fun s7=>
 chkO (s7.length==1) (
 optO (s7[0]?) fun wZ=>
 optO (CV.asN wZ) fun oZ=>
 chkO ((decide (0≤(oZ:Int)))&&(decide ((oZ:Int)<((ja.length:Nat):Int)))) (
 chkO (CV.isCell mO) (
 optO (oD[0+oZ.toNat]?) fun sj=>
 chkO (decide ((9:Nat)≤sj.length)) (
 Qgm lb n mS jj jb jf jg je ja jd jh jc jn jo wH wG wd wv wL (IntKind.wrap .i64 (kk+1)) (setN oD (0+oZ.toNat) (QbI sj 8 [mO]))))))))))
 else
 (QmD lb n jj jb jf jg je ja jd jh jc jn jo wH wG wd wv wL kk oD):=(Qah _).trans (by kernel_rfl)
theorem Qpb (lb n:Nat) (jj:LB) (jb:Bool) (jf:LL) (jg:Int) (je:Bool) (ja:LL) (jd:Bool) (jh:LL) (jc jn jo:Int) (wH wG wd:CV) (wv:List CV) (wL:CV):
 QeK lb n jj jb jf jg je ja jd jh jc jn jo wH wG wd wv wL=
 chkO (ja.all (·.length==10)) (
 chkO (room ja.length 112) (
 bif ja.isEmpty then
 (QsN lb n n jj jb jf jg je ja jd jh jc jn jo wH wG wd wv wL)
 else
 (Qgm lb n n jj jb jf jg je ja jd jh jc jn jo wH wG wd wv wL 0 ja))):=(Qah _).trans (by kernel_rfl)
theorem Qsn (lb n:Nat) (jj:LB) (jb:Bool) (jf:LL) (jg:Int) (je:Bool) (ja:LL) (jd:Bool) (jh:LL) (jc jn jo:Int):
 top lb n Qap [.agg [.str jj, .list jb jf, .int .i64 jg, .list je ja, .list jd jh, .int .i64 jc], .int .i64 jn, .int .i64 jo]=
 bif (decide (jn<0)) then
 (some (.tup [.agg [.str [], .list true [], .int .i64 0, .list true [], .list true [], .int .i64 0], .list true [], .int .i64 7]))
 else
 (bif (decide (jn≥(ja.length:Int))) then
 (some (.tup [.agg [.str [], .list true [], .int .i64 0, .list true [], .list true [], .int .i64 0], .list true [], .int .i64 7]))
 else
 (optO (atL ja jn) fun wv=>
 chkO (wv.length==10) (
 optO (wv[8]?) fun wL=>
 optO (C lb n Qhg [wL, .int .i64 jo]) fun wd=>
 optO (CV.asT wd) fun t17=>
 optO (t17[0]?) fun wH=>
 optO (CV.asT wd) fun t19=>
 optO (t19[1]?) fun wG=>
 optO (CV.asI .i64 wG) fun i21=>
 bif (i21 !=0) then
 (some (.tup [.agg [.str [], .list true [], .int .i64 0, .list true [], .list true [], .int .i64 0], .list true [],wG]))
 else
 (bif (jo !=5) then
 (bif (jo !=6) then
 (bif (jo !=7) then
 (optO (C lb n Qbd [.agg [.str jj, .list jb jf, .int .i64 jg, .list je ja, .list jd jh, .int .i64 jc]]) fun ju=>
 optO (C lb n Qcd [ju, .int .i64 jn]) fun js=>
 optO (CV.asT js) fun gN=>
 optO (gN[0]?) fun jI=>
 optO (CV.asT js) fun nC=>
 optO (nC[1]?) fun jV=>
 optO (CV.asI .i64 jV) fun yH=>
 bif (yH !=0) then
 (some (.tup [.agg [.str [], .list true [], .int .i64 0, .list true [], .list true [], .int .i64 0], .list true [],jV]))
 else
 (r35_Change_J1 lb n jj jb jf jg je ja jd jh jc jn jo wH wd wv wL wG jV jI))
 else
 (QeK lb n jj jb jf jg je ja jd jh jc jn jo wH wG wd wv wL))
 else
 (QeK lb n jj jb jf jg je ja jd jh jc jn jo wH wG wd wv wL))
 else
 (QeK lb n jj jb jf jg je ja jd jh jc jn jo wH wG wd wv wL))))):=by kernel_rfl
theorem Qur (lb n:Nat) (a1 b2:Int):
 top lb n Qhg [.int .i64 a1, .int .i64 b2]=
 optO (C lb n Ql9 [.int .i64 a1, .int .i64 b2]) fun r3=>
 optO (CV.asI .i64 r3) fun i4=>
 bif (decide (i4<0)) then
 (some (.tup [.int .i64 0, .int .i64 10]))
 else
 (some (.tup [r3, .int .i64 0])):=by kernel_rfl
theorem QkV (lb n:Nat) (a1 b2:Int):
 top lb n Ql9 [.int .i64 a1, .int .i64 b2]=
 bif (a1==1) then
 (bif (b2==1) then
 (bif (a1==0) then
 (some (.int .i64 1))
 else
 (bif (a1==5) then
 (some (.int .i64 1))
 else
 (some (.int .i64 (-1)))))
 else
 (bif (b2==2) then
 (bif (a1==0) then
 (some (.int .i64 2))
 else
 (some (.int .i64 (-1))))
 else
 (bif (b2==3) then
 (bif (a1==2) then
 (some (.int .i64 3))
 else
 (some (.int .i64 (-1))))
 else
 (bif (b2==4) then
 (bif (a1==2) then
 (some (.int .i64 6))
 else
 (some (.int .i64 (-1))))
 else
 (bif (b2==5) then
 (some (.int .i64 4))
 else
 (bif (b2==6) then
 (some (.int .i64 5))
 else
 (bif (b2==7) then
 (bif (a1==3) then
 (some (.int .i64 1))
 else
 (bif (a1==4) then
 (some (.int .i64 1))
 else
 (some (.int .i64 (-1)))))
 else
 (bif (b2==8) then
 (bif (decide (a1>0)) then
 (bif (decide (a1<7)) then
 (some (.int .i64 7))
 else
 (some (.int .i64 (-1))))
 else
 (some (.int .i64 (-1))))
 else
 (some (.int .i64 (-1)))))))))))
 else
 (bif (a1==3) then
 (bif (b2==1) then
 (bif (a1==0) then
 (some (.int .i64 1))
 else
 (bif (a1==5) then
 (some (.int .i64 1))
 else
 (some (.int .i64 (-1)))))
 else
 (bif (b2==2) then
 (bif (a1==0) then
 (some (.int .i64 2))
 else
 (some (.int .i64 (-1))))
 else
 (bif (b2==3) then
 (bif (a1==2) then
 (some (.int .i64 3))
 else
 (some (.int .i64 (-1))))
 else
 (bif (b2==4) then
 (bif (a1==2) then
 (some (.int .i64 6))
 else
 (some (.int .i64 (-1))))
 else
 (bif (b2==5) then
 (some (.int .i64 4))
 else
 (bif (b2==6) then
 (some (.int .i64 5))
 else
 (bif (b2==7) then
 (bif (a1==3) then
 (some (.int .i64 1))
 else
 (bif (a1==4) then
 (some (.int .i64 1))
 else
 (some (.int .i64 (-1)))))
 else
 (bif (b2==8) then
 (bif (decide (a1>0)) then
 (bif (decide (a1<7)) then
 (some (.int .i64 7))
 else
 (some (.int .i64 (-1))))
 else
 (some (.int .i64 (-1))))
 else
 (some (.int .i64 (-1)))))))))))
 else
 (bif (b2==1) then
 (bif (a1==0) then
 (some (.int .i64 1))
 else
 (bif (a1==5) then
 (some (.int .i64 1))
 else
 (some (.int .i64 (-1)))))
 else
 (bif (b2==2) then
 (bif (a1==0) then
 (some (.int .i64 2))
 else
 (some (.int .i64 (-1))))
 else
 (bif (b2==3) then
 (bif (a1==2) then
 (some (.int .i64 3))
 else
 (some (.int .i64 (-1))))
 else
 (bif (b2==4) then
 (bif (a1==2) then
 (some (.int .i64 6))
 else
 (some (.int .i64 (-1))))
 else
 (bif (b2==5) then
 (bif (a1==4) then
 (some (.int .i64 4))
 else
 (some (.int .i64 (-1))))
 else
 (bif (b2==6) then
 (bif (a1==4) then
 (some (.int .i64 5))
 else
 (bif (a1==2) then
 (some (.int .i64 5))
 else
 (some (.int .i64 (-1)))))
 else
 (bif (b2==7) then
 (bif (a1==3) then
 (some (.int .i64 1))
 else
 (bif (a1==4) then
 (some (.int .i64 1))
 else
 (some (.int .i64 (-1)))))
 else
 (bif (b2==8) then
 (bif (decide (a1>0)) then
 (bif (decide (a1<7)) then
 (some (.int .i64 7))
 else
 (some (.int .i64 (-1))))
 else
 (some (.int .i64 (-1))))
 else
 (some (.int .i64 (-1)))))))))))):=by kernel_rfl
noncomputable def Qcx (lb n gH:Nat) (jk:Bool) (a2:LL) (b3:Int) (r4:CV) (od:Bool) (y9:LL) (yH:Int):Option CV:=
 hold (Qax (E0 lb n 0 992) 0 (Qak (sub (B Qcd) [1,1,1,1,0,1,0,0])++ []) [] (sub (B Qcd) [1,1,1,1,0,1,0,0]) (Qam 0 (seqK (E0 lb n 0 995) (sub (B Qcd) [1,1,1,1,0]) (sub (B Qcd) [1,1,1,1,1]) (retK Tryz.prog (R Qcd) 0 (outK (Qae Tryz.prog Qcd))))) gH ⟨fr 54 [(0, .val (.list jk a2)),(1,vI b3),(4, .lst true true 3 []),(5,vI 0),(6,vV r4),(7, .lst true od 3 y9),(8,vI yH)],[bx 54 []],KK⟩)
noncomputable def Qop (lb n:Nat) (jk:Bool) (a2:LL) (b3:Int) (r4:CV) (pS:Bool) (pL:LL) (i51:Int):Option CV:=
 hold (E0 lb n 0 995 (sub (B Qcd) [1,1,1,1,1]) (retK Tryz.prog (R Qcd) 0 (outK (Qae Tryz.prog Qcd))) ⟨fr 54 [(0, .val (.list jk a2)),(1,vI b3),(4, .lst true true 3 []),(5,vI 0),(6,vV r4),(7, .lst true pS 3 pL),(8,vI i51)],[bx 54 []],KK⟩)
theorem QqW (lb n:Nat) (jk:Bool) (a2:LL) (b3:Int) (r4:CV) (pS:Bool) (pL:LL) (i51:Int):
 Qop lb n jk a2 b3 r4 pS pL i51=
 some (.tup [.list pS pL, .int .i64 0]):=(Qah _).trans (by kernel_rfl)
theorem QjH (lb n gH:Nat) (jk:Bool) (a2:LL) (b3:Int) (r4:CV) (od:Bool) (y9:LL) (yH:Int):
 Qcx lb n (gH+1) jk a2 b3 r4 od y9 yH=
 bif (decide (yH<(a2.length:Int))) then
 (bif (yH==b3) then
 (chkO (room (y9.length+1) 8) (
 Qcx lb n gH jk a2 b3 r4 (od&&false) (y9++ [[CV.int .i64 yH]]) (IntKind.wrap .i64 (yH+1))))
 else
 (optO (atL a2 yH) fun zJ=>
 chkO (zJ.length==1) (
 optO (zJ[0]?) fun gu=>
 optO (CV.asI .i64 gu) fun yK=>
 bif (decide (yK>0)) then
 (optO (atL a2 yH) fun nw=>
 chkO (nw.length==1) (
 optO (nw[0]?) fun nD=>
 optO (atL a2 b3) fun ni=>
 chkO (ni.length==1) (
 optO (ni[0]?) fun kJ=>
 optO (CV.asI .i64 nD) fun i47=>
 optO (CV.asI .i64 kJ) fun i48=>
 bif (i47==i48) then
 (chkO (room (y9.length+1) 8) (
 Qcx lb n gH jk a2 b3 r4 (od&&false) (y9++ [[CV.int .i64 yH]]) (IntKind.wrap .i64 (yH+1))))
 else
 (Qcx lb n gH jk a2 b3 r4 od y9 (IntKind.wrap .i64 (yH+1))))))
 else
 (Qcx lb n gH jk a2 b3 r4 od y9 (IntKind.wrap .i64 (yH+1))))))
 else
 (Qop lb n jk a2 b3 r4 od y9 yH):=(Qah _).trans (by kernel_rfl)
theorem Quu (lb n:Nat) (jk:Bool) (a2:LL) (b3:Int):
 top lb n Qcd [.list jk a2, .int .i64 b3]=
 optO (C lb n Qat [.list jk a2]) fun r4=>
 optO (CV.asI .i64 r4) fun i5=>
 bif (i5 !=0) then
 (some (.tup [.list true [],r4]))
 else
 (bif (decide (b3<0)) then
 (some (.tup [.list true [], .int .i64 2]))
 else
 (bif (decide (b3≥(a2.length:Int))) then
 (some (.tup [.list true [], .int .i64 2]))
 else
 (Qcx lb n n jk a2 b3 r4 true [] 0))):=by kernel_rfl
noncomputable def Qia (lb n oc:Nat) (jk:Bool) (a2:LL) (kM:Bool) (b4:LL) (y6:Int):Option CV:=
 hold (Qax (E0 lb n 0 994) 0 (Qak (sub (B Qa3) [1,1,0,1,0,0])++ []) [] (sub (B Qa3) [1,1,0,1,0,0]) (Qam 0 (seqK (E0 lb n 0 997) (sub (B Qa3) [1,1,0]) (sub (B Qa3) [1,1,1]) (retK Tryz.prog (R Qa3) 0 (outK (Qae Tryz.prog Qa3))))) oc ⟨fr 26 [(0, .val (.list jk a2)),(1, .val (.list kM b4)),(4,vB false),(5,vI y6)],[bx 26 []],KK⟩)
noncomputable def QoI (lb n:Nat) (jk:Bool) (a2:LL) (kM:Bool) (b4:LL) (y5:Int):Option CV:=
 hold (E0 lb n 0 997 (sub (B Qa3) [1,1,1]) (retK Tryz.prog (R Qa3) 0 (outK (Qae Tryz.prog Qa3))) ⟨fr 26 [(0, .val (.list jk a2)),(1, .val (.list kM b4)),(4,vB false),(5,vI y5)],[bx 26 []],KK⟩)
theorem Qrf (lb n:Nat) (jk:Bool) (a2:LL) (kM:Bool) (b4:LL) (y5:Int):
 QoI lb n jk a2 kM b4 y5=
 some (.bool true):=(Qah _).trans (by kernel_rfl)
theorem Qjq (lb n oc:Nat) (jk:Bool) (a2:LL) (kM:Bool) (b4:LL) (y6:Int):
 Qia lb n (oc+1) jk a2 kM b4 y6=
 bif (decide (y6<(a2.length:Int))) then
 (optO (atL a2 y6) fun c21=>
 chkO (c21.length==1) (
 optO (c21[0]?) fun gh=>
 optO (atL b4 y6) fun pV=>
 chkO (pV.length==1) (
 optO (pV[0]?) fun qE=>
 optO (CV.asI .i64 gh) fun mn=>
 optO (CV.asI .i64 qE) fun qR=>
 bif (mn !=qR) then
 (some (.bool false))
 else
 (Qia lb n oc jk a2 kM b4 (IntKind.wrap .i64 (y6+1))))))
 else
 (QoI lb n jk a2 kM b4 y6):=(Qah _).trans (by kernel_rfl)
theorem QuF (lb n:Nat) (jk:Bool) (a2:LL) (kM:Bool) (b4:LL):
 top lb n Qa3 [.list jk a2, .list kM b4]=
 bif ((a2.length:Int) !=(b4.length:Int)) then
 (some (.bool false))
 else
 (Qia lb n n jk a2 kM b4 0):=by kernel_rfl
end Go.Proofs
