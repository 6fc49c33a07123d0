/- Equations of functions, printed by program. Conditions: none. -/
import Derived.Test.YtigmcfhmpcajlaaGreatDoorEv
namespace Go.Proofs
open Go.Am
set_option maxRecDepth 100000
set_option linter.unusedVariables false
noncomputable def r35_Check_J1:=
 fun lb n jj (jb:Bool) (jf:LL) jg (je:Bool) (ja:LL) (jd:Bool) (jh:LL) jc (yy:Bool) (yT:LL)=>
 hold (E0 lb n 0 997 (sub (B Qai) [1,1,1]) (retK Tryz.prog (R Qai) 0 (outK (Qae Tryz.prog Qai))) ⟨fr 140 [(0, .val (.agg [.str jj, .list jb jf, .int .i64 jg, .list je ja, .list jd jh, .int .i64 jc])),(1, .ptr 0 1 0),(2, .lst true true 61 []),(3, .lst true yy 61 yT)],[bx 140 [(1,some [vS jj, .val (.list jb jf),vI jg, .val (.list je ja), .val (.list jd jh),vI jc])]],KK⟩)
noncomputable def QdQ (lb n:Nat) (jj:LB) (jb:Bool) (jf:LL) (jg:Int) (je:Bool) (ja:LL) (jd:Bool) (jh:LL) (jc:Int) (jr:Bool) (jq:LL):Option CV:=
 hold (E0 lb n 0 996 (sub (B Qai) [1,1,1,1]) (retK Tryz.prog (R Qai) 0 (outK (Qae Tryz.prog Qai))) ⟨fr 140 [(0, .val (.agg [.str jj, .list jb jf, .int .i64 jg, .list je ja, .list jd jh, .int .i64 jc])),(1, .ptr 0 1 0),(2, .lst true true 61 []),(3, .lst true jr 61 jq)],[bx 140 [(1,some [vS jj, .val (.list jb jf),vI jg, .val (.list je ja), .val (.list jd jh),vI jc])]],KK⟩)
noncomputable def QdJ (lb n:Nat) (jj:LB) (jb:Bool) (jf:LL) (jg:Int) (je:Bool) (ja:LL) (jd:Bool) (jh:LL) (jc:Int) (jr:Bool) (jq:LL) (jl:CV) (jp:Bool×LL) (vQ:Bool) (kx:LL):Option CV:=
 hold (E0 lb n 0 994 (sub (B Qai) [1,1,1,1,1,1]) (retK Tryz.prog (R Qai) 0 (outK (Qae Tryz.prog Qai))) ⟨fr 140 [(0, .val (.agg [.str jj, .list jb jf, .int .i64 jg, .list je ja, .list jd jh, .int .i64 jc])),(1, .ptr 0 1 0),(2, .lst true true 61 []),(3, .lst true vQ 61 kx),(31, .val (.list jr jq)),(32, .ptr 0 1 1),(33, .val (.list jb jf)),(34, .ptr 0 1 2),(35,vI jg),(36,vV jl),(37, .val (.list (jr&&jp.2.isEmpty) (jq++jp.2)))],[bx 140 [(1,some [vS jj, .val (.list jb jf),vI jg, .val (.list je ja), .val (.list jd jh),vI jc])]],KK⟩)
noncomputable def Qfj (lb n:Nat) (jj:LB) (jb:Bool) (jf:LL) (jg:Int) (je:Bool) (ja:LL) (jd:Bool) (jh:LL) (jc:Int) (js:CV) (jr:Bool) (jq:LL) (jl:CV) (jp:Bool×LL) (ju:CV) (k9:Bool) (oP:LL):Option CV:=
 hold (E0 lb n 0 992 (sub (B Qai) [1,1,1,1,1,1,1,1]) (retK Tryz.prog (R Qai) 0 (outK (Qae Tryz.prog Qai))) ⟨fr 140 [(0, .val (.agg [.str jj, .list jb jf, .int .i64 jg, .list je ja, .list jd jh, .int .i64 jc])),(1, .ptr 0 1 0),(2, .lst true true 61 []),(3, .lst true k9 61 oP),(4,vV js),(31, .val (.list jr jq)),(32, .ptr 0 1 1),(33, .val (.list jb jf)),(34, .ptr 0 1 2),(35,vI jg),(36,vV jl),(37, .val (.list (jr&&jp.2.isEmpty) (jq++jp.2))),(46, .val (.agg [.str jj, .list jb jf, .int .i64 jg, .list je ja, .list jd jh, .int .i64 jc])),(47,vV ju),(48,vV js)],[bx 140 [(1,some [vS jj, .val (.list jb jf),vI jg, .val (.list je ja), .val (.list jd jh),vI jc])]],KK⟩)
noncomputable def Qft (lb n yX:Nat) (jj:LB) (jb:Bool) (jf:LL) (jg:Int) (je:Bool) (ja:LL) (jd:Bool) (jh:LL) (jc:Int) (js:CV) (jr:Bool) (jq:LL) (jl:CV) (jp:Bool×LL) (ju:CV) (yZ:Bool) (nr:LL) (yG:Int):Option CV:=
 hold (Qax (E0 lb n 0 988) 0 (Qak (sub (B Qai) [1,1,1,1,1,1,1,1,0,1,0,0])++ [6,7,7]) [] (sub (B Qai) [1,1,1,1,1,1,1,1,0,1,0,0]) (Qam 0 (seqK (E0 lb n 0 991) (sub (B Qai) [1,1,1,1,1,1,1,1,0]) (sub (B Qai) [1,1,1,1,1,1,1,1,1]) (retK Tryz.prog (R Qai) 0 (outK (Qae Tryz.prog Qai))))) yX ⟨fr 140 [(0, .val (.agg [.str jj, .list jb jf, .int .i64 jg, .list je ja, .list jd jh, .int .i64 jc])),(1, .ptr 0 1 0),(2, .lst true true 61 []),(3, .lst true yZ 61 nr),(4,vV js),(5,vI yG),(31, .val (.list jr jq)),(32, .ptr 0 1 1),(33, .val (.list jb jf)),(34, .ptr 0 1 2),(35,vI jg),(36,vV jl),(37, .val (.list (jr&&jp.2.isEmpty) (jq++jp.2))),(46, .val (.agg [.str jj, .list jb jf, .int .i64 jg, .list je ja, .list jd jh, .int .i64 jc])),(47,vV ju),(48,vV js)],[bx 140 [(1,some [vS jj, .val (.list jb jf),vI jg, .val (.list je ja), .val (.list jd jh),vI jc])]],KK⟩)
noncomputable def Qfy (lb n mR yX:Nat) (jj:LB) (jb:Bool) (jf:LL) (jg:Int) (je:Bool) (ja:LL) (jd:Bool) (jh:LL) (jc:Int) (js:CV) (yG:Int) (yL:CV) (jr:Bool) (jq:LL) (jl:CV) (jp:Bool×LL) (ju:CV) (y0:List CV) (jy jz yf jC jA jB jS jR jE vt:CV) (gA:Bool) (oS:LL) (oi:Int):Option CV:=
 hold (Qax (E0 lb n 0 981) 0 (Qak (sub (B Qai) [1,1,1,1,1,1,1,1,0,1,0,0,1,0,0,1,1,0,0])++ []) [] (sub (B Qai) [1,1,1,1,1,1,1,1,0,1,0,0,1,0,0,1,1,0,0]) (Qam 2 (Qam 1 (seqK (E0 lb n 0 986) (sub (B Qai) [1,1,1,1,1,1,1,1,0,1,0,0,1,0]) (sub (B Qai) [1,1,1,1,1,1,1,1,0,1,0,0,1,1]) (Qcz 0 (Qak (sub (B Qai) [1,1,1,1,1,1,1,1,0,1,0,0])++ [6,7,7]) [] (Qax (E0 lb n 0 988) 0 (Qak (sub (B Qai) [1,1,1,1,1,1,1,1,0,1,0,0])++ [6,7,7]) [] (sub (B Qai) [1,1,1,1,1,1,1,1,0,1,0,0]) (Qam 0 (seqK (E0 lb n 0 991) (sub (B Qai) [1,1,1,1,1,1,1,1,0]) (sub (B Qai) [1,1,1,1,1,1,1,1,1]) (retK Tryz.prog (R Qai) 0 (outK (Qae Tryz.prog Qai))))) yX) (Qam 0 (seqK (E0 lb n 0 991) (sub (B Qai) [1,1,1,1,1,1,1,1,0]) (sub (B Qai) [1,1,1,1,1,1,1,1,1]) (retK Tryz.prog (R Qai) 0 (outK (Qae Tryz.prog Qai))))))))) mR ⟨fr 140 [(0, .val (.agg [.str jj, .list jb jf, .int .i64 jg, .list je ja, .list jd jh, .int .i64 jc])),(1, .ptr 0 1 0),(2, .lst true true 61 []),(3, .lst true gA 61 oS),(4,vV js),(5,vI yG),(6,vV yL),(7,vI oi),(31, .val (.list jr jq)),(32, .ptr 0 1 1),(33, .val (.list jb jf)),(34, .ptr 0 1 2),(35,vI jg),(36,vV jl),(37, .val (.list (jr&&jp.2.isEmpty) (jq++jp.2))),(46, .val (.agg [.str jj, .list jb jf, .int .i64 jg, .list je ja, .list jd jh, .int .i64 jc])),(47,vV ju),(48,vV js),(63, .ptr 0 1 3),(64, .val (.list je ja)),(65,vI yG),(66, .cptr y0 0),(67, .val (.agg [jy,jz,yf,jC,jA,jB,jS,jR,jE,vt])),(68,vV yL)],[bx 140 [(1,some [vS jj, .val (.list jb jf),vI jg, .val (.list je ja), .val (.list jd jh),vI jc])]],KK⟩)
noncomputable def Qnb (lb n yX:Nat) (jj:LB) (jb:Bool) (jf:LL) (jg:Int) (je:Bool) (ja:LL) (jd:Bool) (jh:LL) (jc:Int) (js:CV) (yG:Int) (jr:Bool) (jq:LL) (jl:CV) (jp:Bool×LL) (ju:CV) (mV:Bool) (nd:LL) (oA:CV) (ph:Int):Option CV:=
 hold (E0 lb n 0 986 (sub (B Qai) [1,1,1,1,1,1,1,1,0,1,0,0,1,1]) (Qcz 0 (Qak (sub (B Qai) [1,1,1,1,1,1,1,1,0,1,0,0])++ [6,7,7]) [] (Qax (E0 lb n 0 988) 0 (Qak (sub (B Qai) [1,1,1,1,1,1,1,1,0,1,0,0])++ [6,7,7]) [] (sub (B Qai) [1,1,1,1,1,1,1,1,0,1,0,0]) (Qam 0 (seqK (E0 lb n 0 991) (sub (B Qai) [1,1,1,1,1,1,1,1,0]) (sub (B Qai) [1,1,1,1,1,1,1,1,1]) (retK Tryz.prog (R Qai) 0 (outK (Qae Tryz.prog Qai))))) yX) (Qam 0 (seqK (E0 lb n 0 991) (sub (B Qai) [1,1,1,1,1,1,1,1,0]) (sub (B Qai) [1,1,1,1,1,1,1,1,1]) (retK Tryz.prog (R Qai) 0 (outK (Qae Tryz.prog Qai)))))) ⟨fr 140 [(0, .val (.agg [.str jj, .list jb jf, .int .i64 jg, .list je ja, .list jd jh, .int .i64 jc])),(1, .ptr 0 1 0),(2, .lst true true 61 []),(3, .lst true mV 61 nd),(4,vV js),(5,vI yG),(6,vV oA),(7,vI ph),(31, .val (.list jr jq)),(32, .ptr 0 1 1),(33, .val (.list jb jf)),(34, .ptr 0 1 2),(35,vI jg),(36,vV jl),(37, .val (.list (jr&&jp.2.isEmpty) (jq++jp.2))),(46, .val (.agg [.str jj, .list jb jf, .int .i64 jg, .list je ja, .list jd jh, .int .i64 jc])),(47,vV ju),(48,vV js)],[bx 140 [(1,some [vS jj, .val (.list jb jf),vI jg, .val (.list je ja), .val (.list jd jh),vI jc])]],KK⟩)
theorem QqE (lb n yX:Nat) (jj:LB) (jb:Bool) (jf:LL) (jg:Int) (je:Bool) (ja:LL) (jd:Bool) (jh:LL) (jc:Int) (js:CV) (yG:Int) (jr:Bool) (jq:LL) (jl:CV) (jp:Bool×LL) (ju:CV) (mV:Bool) (nd:LL) (oA:CV) (ph:Int):
 Qnb lb n yX jj jb jf jg je ja jd jh jc js yG jr jq jl jp ju mV nd oA ph=
 Qft lb n yX jj jb jf jg je ja jd jh jc js jr jq jl jp ju mV nd (IntKind.wrap .i64 (yG+1)):=(Qah _).trans (by kernel_rfl)
theorem QiY (lb n mR yX:Nat) (jj:LB) (jb:Bool) (jf:LL) (jg:Int) (je:Bool) (ja:LL) (jd:Bool) (jh:LL) (jc:Int) (js:CV) (yG:Int) (yL:CV) (jr:Bool) (jq:LL) (jl:CV) (jp:Bool×LL) (ju:CV) (y0:List CV) (jy jz yf jC jA jB jS jR jE vt:CV) (gA:Bool) (oS:LL) (oi:Int):
 Qfy lb n (mR+1) yX jj jb jf jg je ja jd jh jc js yG yL jr jq jl jp ju y0 jy jz yf jC jA jB jS jR jE vt gA oS oi=
 optO (CV.asL yL) fun tJ=>
 bif (decide (oi<(tJ.2.length:Int))) then
 (optO (CV.asL yL) fun lA=>
 optO (atL lA.2 oi) fun qM=>
 chkO (qM.length==1) (
 optO (qM[0]?) fun mJ=>
 optO (C lb n QdZ [.int .i64 yG]) fun jaf=>
 optO (CV.asS jaf) fun s6=>
 chkO (decide (([115,101,103,32]:LB).length+s6.length≤9223372036854775807)) (
 chkO (CV.isCell mJ) (
 chkO (room (oS.length+1) 24) (
 Qfy lb n mR yX jj jb jf jg je ja jd jh jc js yG yL jr jq jl jp ju y0 jy jz yf jC jA jB jS jR jE vt (gA&&false) (oS++ [[mJ,CV.str (([115,101,103,32]:LB)++s6)]]) (IntKind.wrap .i64 (oi+1)))))))
 else
 (Qnb lb n yX jj jb jf jg je ja jd jh jc js yG jr jq jl jp ju gA oS yL oi):=(Qah _).trans (by kernel_rfl)
noncomputable def QjR (lb n:Nat) (jj:LB) (jb:Bool) (jf:LL) (jg:Int) (je:Bool) (ja:LL) (jd:Bool) (jh:LL) (jc:Int) (js:CV) (jr:Bool) (jq:LL) (jl:CV) (jp:Bool×LL) (ju:CV) (m8:Bool) (na:LL) (wS:Int):Option CV:=
 hold (E0 lb n 0 991 (sub (B Qai) [1,1,1,1,1,1,1,1,1]) (retK Tryz.prog (R Qai) 0 (outK (Qae Tryz.prog Qai))) ⟨fr 140 [(0, .val (.agg [.str jj, .list jb jf, .int .i64 jg, .list je ja, .list jd jh, .int .i64 jc])),(1, .ptr 0 1 0),(2, .lst true true 61 []),(3, .lst true m8 61 na),(4,vV js),(5,vI wS),(31, .val (.list jr jq)),(32, .ptr 0 1 1),(33, .val (.list jb jf)),(34, .ptr 0 1 2),(35,vI jg),(36,vV jl),(37, .val (.list (jr&&jp.2.isEmpty) (jq++jp.2))),(46, .val (.agg [.str jj, .list jb jf, .int .i64 jg, .list je ja, .list jd jh, .int .i64 jc])),(47,vV ju),(48,vV js)],[bx 140 [(1,some [vS jj, .val (.list jb jf),vI jg, .val (.list je ja), .val (.list jd jh),vI jc])]],KK⟩)
noncomputable def QbZ (lb n yP:Nat) (jj:LB) (jb:Bool) (jf:LL) (jg:Int) (je:Bool) (ja:LL) (jd:Bool) (jh:LL) (jc:Int) (js:CV) (wS:Int) (jr:Bool) (jq:LL) (jl:CV) (jp:Bool×LL) (ju:CV) (oT:Bool) (om:LL) (j9:Int):Option CV:=
 hold (Qax (E0 lb n 0 987) 0 (Qak (sub (B Qai) [1,1,1,1,1,1,1,1,1,0,1,0,0])++ [10]) [9] (sub (B Qai) [1,1,1,1,1,1,1,1,1,0,1,0,0]) (Qam 4 (seqK (E0 lb n 0 990) (sub (B Qai) [1,1,1,1,1,1,1,1,1,0]) (sub (B Qai) [1,1,1,1,1,1,1,1,1,1]) (retK Tryz.prog (R Qai) 0 (outK (Qae Tryz.prog Qai))))) yP ⟨fr 140 [(0, .val (.agg [.str jj, .list jb jf, .int .i64 jg, .list je ja, .list jd jh, .int .i64 jc])),(1, .ptr 0 1 0),(2, .lst true true 61 []),(3, .lst true oT 61 om),(4,vV js),(5,vI wS),(8,vI j9),(31, .val (.list jr jq)),(32, .ptr 0 1 1),(33, .val (.list jb jf)),(34, .ptr 0 1 2),(35,vI jg),(36,vV jl),(37, .val (.list (jr&&jp.2.isEmpty) (jq++jp.2))),(46, .val (.agg [.str jj, .list jb jf, .int .i64 jg, .list je ja, .list jd jh, .int .i64 jc])),(47,vV ju),(48,vV js)],[bx 140 [(1,some [vS jj, .val (.list jb jf),vI jg, .val (.list je ja), .val (.list jd jh),vI jc])]],KK⟩)
noncomputable def QeQ (lb n yP:Nat) (jj:LB) (jb:Bool) (jf:LL) (jg:Int) (je:Bool) (ja:LL) (jd:Bool) (jh:LL) (jc:Int) (js:CV) (wS j9:Int) (yR:LB) (jr:Bool) (jq:LL) (jl:CV) (jp:Bool×LL) (ju:CV) (vF:List CV) (kl vJ yr kH:CV) (kX:Bool) (vq:LL):Option CV:=
 hold (E0 lb n 0 982 (sub (B Qai) [1,1,1,1,1,1,1,1,1,0,1,0,0,1,0,0,1,1]) (Qam 5 (seqK (E0 lb n 0 985) (sub (B Qai) [1,1,1,1,1,1,1,1,1,0,1,0,0,1,0]) (sub (B Qai) [1,1,1,1,1,1,1,1,1,0,1,0,0,1,1]) (Qcz 0 (Qak (sub (B Qai) [1,1,1,1,1,1,1,1,1,0,1,0,0])++ [10]) [9] (Qax (E0 lb n 0 987) 0 (Qak (sub (B Qai) [1,1,1,1,1,1,1,1,1,0,1,0,0])++ [10]) [9] (sub (B Qai) [1,1,1,1,1,1,1,1,1,0,1,0,0]) (Qam 4 (seqK (E0 lb n 0 990) (sub (B Qai) [1,1,1,1,1,1,1,1,1,0]) (sub (B Qai) [1,1,1,1,1,1,1,1,1,1]) (retK Tryz.prog (R Qai) 0 (outK (Qae Tryz.prog Qai))))) yP) (Qam 4 (seqK (E0 lb n 0 990) (sub (B Qai) [1,1,1,1,1,1,1,1,1,0]) (sub (B Qai) [1,1,1,1,1,1,1,1,1,1]) (retK Tryz.prog (R Qai) 0 (outK (Qae Tryz.prog Qai)))))))) ⟨fr 140 [(0, .val (.agg [.str jj, .list jb jf, .int .i64 jg, .list je ja, .list jd jh, .int .i64 jc])),(1, .ptr 0 1 0),(2, .lst true true 61 []),(3, .lst true kX 61 vq),(4,vV js),(5,vI wS),(8,vI j9),(9, .ptr 0 9 0),(10, .val (.str (([115,101,114,118,105,99,101,32]:LB)++yR))),(31, .val (.list jr jq)),(32, .ptr 0 1 1),(33, .val (.list jb jf)),(34, .ptr 0 1 2),(35,vI jg),(36,vV jl),(37, .val (.list (jr&&jp.2.isEmpty) (jq++jp.2))),(46, .val (.agg [.str jj, .list jb jf, .int .i64 jg, .list je ja, .list jd jh, .int .i64 jc])),(47,vV ju),(48,vV js),(93, .ptr 0 1 4),(94, .val (.list jd jh)),(95,vI j9),(96, .cptr vF 0),(97, .val (.agg [kl,vJ,yr])),(98,vI j9),(99,vV kH),(100, .val (.str (([115,101,114,118,105,99,101,32]:LB)++yR)))],[bx 140 [(1,some [vS jj, .val (.list jb jf),vI jg, .val (.list je ja), .val (.list jd jh),vI jc]),(9,some [.val kl, .val vJ, .val yr])]],KK⟩)
theorem Qo8 (lb n yP:Nat) (jj:LB) (jb:Bool) (jf:LL) (jg:Int) (je:Bool) (ja:LL) (jd:Bool) (jh:LL) (jc:Int) (js:CV) (wS j9:Int) (yR:LB) (jr:Bool) (jq:LL) (jl:CV) (jp:Bool×LL) (ju:CV) (vF:List CV) (kl vJ yr kH:CV) (kX:Bool) (vq:LL):
 QeQ lb n yP jj jb jf jg je ja jd jh jc js wS j9 yR jr jq jl jp ju vF kl vJ yr kH kX vq=
 optO (CV.asI .i64 vJ) fun lg=>
 bif (decide (lg<0)) then
 (chkO (room (vq.length+1) 24) (
 QbZ lb n yP jj jb jf jg je ja jd jh jc js wS jr jq jl jp ju (kX&&false) (vq++ [[CV.int .i64 7,CV.str (([115,101,114,118,105,99,101,32]:LB)++yR)]]) (IntKind.wrap .i64 (j9+1))))
 else
 (optO (CV.asI .i64 vJ) fun lK=>
 bif (decide (lK≥(jf.length:Int))) then
 (chkO (room (vq.length+1) 24) (
 QbZ lb n yP jj jb jf jg je ja jd jh jc js wS jr jq jl jp ju (kX&&false) (vq++ [[CV.int .i64 7,CV.str (([115,101,114,118,105,99,101,32]:LB)++yR)]]) (IntKind.wrap .i64 (j9+1))))
 else
 (optO (CV.asI .i64 yr) fun nV=>
 bif (decide (nV<0)) then
 (chkO (room (vq.length+1) 24) (
 QbZ lb n yP jj jb jf jg je ja jd jh jc js wS jr jq jl jp ju (kX&&false) (vq++ [[CV.int .i64 7,CV.str (([115,101,114,118,105,99,101,32]:LB)++yR)]]) (IntKind.wrap .i64 (j9+1))))
 else
 (optO (CV.asI .i64 yr) fun pj=>
 bif (decide (pj≥(ja.length:Int))) then
 (chkO (room (vq.length+1) 24) (
 QbZ lb n yP jj jb jf jg je ja jd jh jc js wS jr jq jl jp ju (kX&&false) (vq++ [[CV.int .i64 7,CV.str (([115,101,114,118,105,99,101,32]:LB)++yR)]]) (IntKind.wrap .i64 (j9+1))))
 else
 (QbZ lb n yP jj jb jf jg je ja jd jh jc js wS jr jq jl jp ju kX vq (IntKind.wrap .i64 (j9+1)))))):=(Qah _).trans (by kernel_rfl)
noncomputable def Qmp (lb n:Nat) (jj:LB) (jb:Bool) (jf:LL) (jg:Int) (je:Bool) (ja:LL) (jd:Bool) (jh:LL) (jc:Int) (js:CV) (wS:Int) (jr:Bool) (jq:LL) (jl:CV) (jp:Bool×LL) (ju:CV) (m5:Bool) (ke:LL) (nY:Int):Option CV:=
 hold (E0 lb n 0 990 (sub (B Qai) [1,1,1,1,1,1,1,1,1,1]) (retK Tryz.prog (R Qai) 0 (outK (Qae Tryz.prog Qai))) ⟨fr 140 [(0, .val (.agg [.str jj, .list jb jf, .int .i64 jg, .list je ja, .list jd jh, .int .i64 jc])),(1, .ptr 0 1 0),(2, .lst true true 61 []),(3, .lst true m5 61 ke),(4,vV js),(5,vI wS),(8,vI nY),(31, .val (.list jr jq)),(32, .ptr 0 1 1),(33, .val (.list jb jf)),(34, .ptr 0 1 2),(35,vI jg),(36,vV jl),(37, .val (.list (jr&&jp.2.isEmpty) (jq++jp.2))),(46, .val (.agg [.str jj, .list jb jf, .int .i64 jg, .list je ja, .list jd jh, .int .i64 jc])),(47,vV ju),(48,vV js)],[bx 140 [(1,some [vS jj, .val (.list jb jf),vI jg, .val (.list je ja), .val (.list jd jh),vI jc])]],KK⟩)
theorem Qpu (lb n:Nat) (jj:LB) (jb:Bool) (jf:LL) (jg:Int) (je:Bool) (ja:LL) (jd:Bool) (jh:LL) (jc:Int) (js:CV) (wS:Int) (jr:Bool) (jq:LL) (jl:CV) (jp:Bool×LL) (ju:CV) (m5:Bool) (ke:LL) (nY:Int):
 Qmp lb n jj jb jf jg je ja jd jh jc js wS jr jq jl jp ju m5 ke nY=
 some (.list m5 ke):=(Qah _).trans (by kernel_rfl)
theorem QiQ (lb n yP:Nat) (jj:LB) (jb:Bool) (jf:LL) (jg:Int) (je:Bool) (ja:LL) (jd:Bool) (jh:LL) (jc:Int) (js:CV) (wS:Int) (jr:Bool) (jq:LL) (jl:CV) (jp:Bool×LL) (ju:CV) (oT:Bool) (om:LL) (j9:Int):
 QbZ lb n (yP+1) jj jb jf jg je ja jd jh jc js wS jr jq jl jp ju oT om j9=
 bif (decide (j9<(jh.length:Int))) then
 (optO (atL jh j9) fun vF=>
 chkO (vF.length==3) (
 optO (vF[0]?) fun kl=>
 optO (vF[1]?) fun vJ=>
 optO (vF[2]?) fun yr=>
 optO (C lb n QdZ [.int .i64 j9]) fun kH=>
 optO (CV.asS kH) fun yR=>
 chkO (decide (([115,101,114,118,105,99,101,32]:LB).length+yR.length≤9223372036854775807)) (
 optO (C lb n QbK [kl, .int .i64 4, .int .i64 4]) fun vY=>
 optO (CV.asB vY) fun uK=>
 bif (!uK) then
 (chkO (room (om.length+1) 24) (
 QeQ lb n yP jj jb jf jg je ja jd jh jc js wS j9 yR jr jq jl jp ju vF kl vJ yr kH (oT&&false) (om++ [[CV.int .i64 5,CV.str (([115,101,114,118,105,99,101,32]:LB)++yR)]])))
 else
 (QeQ lb n yP jj jb jf jg je ja jd jh jc js wS j9 yR jr jq jl jp ju vF kl vJ yr kH oT om))))
 else
 (Qmp lb n jj jb jf jg je ja jd jh jc js wS jr jq jl jp ju oT om j9):=(Qah _).trans (by kernel_rfl)
theorem Qqc (lb n:Nat) (jj:LB) (jb:Bool) (jf:LL) (jg:Int) (je:Bool) (ja:LL) (jd:Bool) (jh:LL) (jc:Int) (js:CV) (jr:Bool) (jq:LL) (jl:CV) (jp:Bool×LL) (ju:CV) (m8:Bool) (na:LL) (wS:Int):
 QjR lb n jj jb jf jg je ja jd jh jc js jr jq jl jp ju m8 na wS=
 QbZ lb n n jj jb jf jg je ja jd jh jc js wS jr jq jl jp ju m8 na 0:=(Qah _).trans (by kernel_rfl)
theorem QiX (lb n yX:Nat) (jj:LB) (jb:Bool) (jf:LL) (jg:Int) (je:Bool) (ja:LL) (jd:Bool) (jh:LL) (jc:Int) (js:CV) (jr:Bool) (jq:LL) (jl:CV) (jp:Bool×LL) (ju:CV) (yZ:Bool) (nr:LL) (yG:Int):
 Qft lb n (yX+1) jj jb jf jg je ja jd jh jc js jr jq jl jp ju yZ nr yG=
 bif (decide (yG<(ja.length:Int))) then
 (optO (atL ja yG) fun y0=>
 chkO (y0.length==10) (
 optO (y0[0]?) fun jy=>
 optO (y0[1]?) fun jz=>
 optO (y0[2]?) fun yf=>
 optO (y0[3]?) fun jC=>
 optO (y0[4]?) fun jA=>
 optO (y0[5]?) fun jB=>
 optO (y0[6]?) fun jS=>
 optO (y0[7]?) fun jR=>
 optO (y0[8]?) fun jE=>
 optO (y0[9]?) fun vt=>
 optO (C lb n Qbn [.agg [jy,jz,yf,jC,jA,jB,jS,jR,jE,vt]]) fun yL=>
 Qfy lb n n yX jj jb jf jg je ja jd jh jc js yG yL jr jq jl jp ju y0 jy jz yf jC jA jB jS jR jE vt yZ nr 0))
 else
 (QjR lb n jj jb jf jg je ja jd jh jc js jr jq jl jp ju yZ nr yG):=(Qah _).trans (by kernel_rfl)
theorem QqN (lb n:Nat) (jj:LB) (jb:Bool) (jf:LL) (jg:Int) (je:Bool) (ja:LL) (jd:Bool) (jh:LL) (jc:Int) (js:CV) (jr:Bool) (jq:LL) (jl:CV) (jp:Bool×LL) (ju:CV) (k9:Bool) (oP:LL):
 Qfj lb n jj jb jf jg je ja jd jh jc js jr jq jl jp ju k9 oP=
 Qft lb n n jj jb jf jg je ja jd jh jc js jr jq jl jp ju k9 oP 0:=(Qah _).trans (by kernel_rfl)
theorem Qqu (lb n:Nat) (jj:LB) (jb:Bool) (jf:LL) (jg:Int) (je:Bool) (ja:LL) (jd:Bool) (jh:LL) (jc:Int) (jr:Bool) (jq:LL) (jl:CV) (jp:Bool×LL) (vQ:Bool) (kx:LL):
 QdJ lb n jj jb jf jg je ja jd jh jc jr jq jl jp vQ kx=
 optO (C lb n Qbd [.agg [.str jj, .list jb jf, .int .i64 jg, .list je ja, .list jd jh, .int .i64 jc]]) fun ju=>
 optO (C lb n Qat [ju]) fun js=>
 optO (CV.asI .i64 js) fun kW=>
 bif (kW !=0) then
 (chkO (CV.isCell js) (
 chkO (room (kx.length+1) 24) (
 Qfj lb n jj jb jf jg je ja jd jh jc js jr jq jl jp ju (vQ&&false) (kx++ [[js,CV.str [115,101,103,115]]]))))
 else
 (Qfj lb n jj jb jf jg je ja jd jh jc js jr jq jl jp ju vQ kx):=(Qah _).trans (by kernel_rfl)
theorem QpW (lb n:Nat) (jj:LB) (jb:Bool) (jf:LL) (jg:Int) (je:Bool) (ja:LL) (jd:Bool) (jh:LL) (jc:Int) (jr:Bool) (jq:LL):
 QdQ lb n jj jb jf jg je ja jd jh jc jr jq=
 optO (C lb n QaG [.list jb jf, .int .i64 jg]) fun jl=>
 optO (CV.asL jl) fun jp=>
 chkO (jp.2.all (·.length==2)) (
 chkO (room (jq.length+jp.2.length) 24) (
 bif (decide ((ja.length:Int)>24)) then
 (chkO (room ((jq++jp.2).length+1) 24) (
 QdJ lb n jj jb jf jg je ja jd jh jc jr jq jl jp ((jr&&jp.2.isEmpty)&&false) ((jq++jp.2)++ [[CV.int .i64 4,CV.str [115,101,103,115]]])))
 else
 (QdJ lb n jj jb jf jg je ja jd jh jc jr jq jl jp (jr&&jp.2.isEmpty) (jq++jp.2)))):=(Qah _).trans (by kernel_rfl)
theorem Qp1 (lb n:Nat) (jj:LB) (jb:Bool) (jf:LL) (jg:Int) (je:Bool) (ja:LL) (jd:Bool) (jh:LL) (jc:Int) (yy:Bool) (yT:LL):
 r35_Check_J1 lb n jj jb jf jg je ja jd jh jc yy yT=
 bif (decide (jc<0)) then
 (chkO (room (yT.length+1) 24) (
 QdQ lb n jj jb jf jg je ja jd jh jc (yy&&false) (yT++ [[CV.int .i64 13,CV.str [108,105,109,105,116]]])))
 else
 (bif (decide (jc≥52596000)) then
 (chkO (room (yT.length+1) 24) (
 QdQ lb n jj jb jf jg je ja jd jh jc (yy&&false) (yT++ [[CV.int .i64 13,CV.str [108,105,109,105,116]]])))
 else
 (QdQ lb n jj jb jf jg je ja jd jh jc yy yT)):=(Qah _).trans (by kernel_rfl)
theorem QtN (lb n:Nat) (jj:LB) (jb:Bool) (jf:LL) (jg:Int) (je:Bool) (ja:LL) (jd:Bool) (jh:LL) (jc:Int):
 top lb n Qai [.agg [.str jj, .list jb jf, .int .i64 jg, .list je ja, .list jd jh, .int .i64 jc]]=
 optO (C lb n QiM [.str jj]) fun mu=>
 optO (CV.asB mu) fun sR=>
 bif (!sR) then
 (r35_Check_J1 lb n jj jb jf jg je ja jd jh jc false [[CV.int .i64 5,CV.str [108,111,99,97,116,111,114]]])
 else
 (r35_Check_J1 lb n jj jb jf jg je ja jd jh jc true []):=by kernel_rfl
theorem QrG (lb n:Nat) (a1:LB):
 top lb n QiM [.str a1]=
 optO (C lb n QbK [.str a1, .int .i64 6, .int .i64 6]) fun r2=>
 some (r2):=by kernel_rfl
noncomputable def QfL (lb n oM:Nat) (jj:LB) (jb:Bool) (jf:LL) (jg:Int) (je:Bool) (ja:LL) (jd:Bool) (jh:LL) (jc:Int) (yy:Bool) (yT:LL) (wj:Int):Option CV:=
 hold (Qax (E0 lb n 0 994) 0 (Qak (sub (B Qbd) [1,1,0,1,0,0])++ []) [] (sub (B Qbd) [1,1,0,1,0,0]) (Qam 0 (seqK (E0 lb n 0 997) (sub (B Qbd) [1,1,0]) (sub (B Qbd) [1,1,1]) (retK Tryz.prog (R Qbd) 0 (outK (Qae Tryz.prog Qbd))))) oM ⟨fr 22 [(0, .val (.agg [.str jj, .list jb jf, .int .i64 jg, .list je ja, .list jd jh, .int .i64 jc])),(1, .ptr 0 1 0),(2, .lst true true 3 []),(3, .lst true yy 3 yT),(4,vI wj)],[bx 22 [(1,some [vS jj, .val (.list jb jf),vI jg, .val (.list je ja), .val (.list jd jh),vI jc])]],KK⟩)
noncomputable def Qli (lb n:Nat) (jj:LB) (jb:Bool) (jf:LL) (jg:Int) (je:Bool) (ja:LL) (jd:Bool) (jh:LL) (jc:Int) (qe:Bool) (qa:LL) (kW:Int):Option CV:=
 hold (E0 lb n 0 997 (sub (B Qbd) [1,1,1]) (retK Tryz.prog (R Qbd) 0 (outK (Qae Tryz.prog Qbd))) ⟨fr 22 [(0, .val (.agg [.str jj, .list jb jf, .int .i64 jg, .list je ja, .list jd jh, .int .i64 jc])),(1, .ptr 0 1 0),(2, .lst true true 3 []),(3, .lst true qe 3 qa),(4,vI kW)],[bx 22 [(1,some [vS jj, .val (.list jb jf),vI jg, .val (.list je ja), .val (.list jd jh),vI jc])]],KK⟩)
theorem Qoj (lb n:Nat) (jj:LB) (jb:Bool) (jf:LL) (jg:Int) (je:Bool) (ja:LL) (jd:Bool) (jh:LL) (jc:Int) (qe:Bool) (qa:LL) (kW:Int):
 Qli lb n jj jb jf jg je ja jd jh jc qe qa kW=
 some (.list qe qa):=(Qah _).trans (by kernel_rfl)
theorem Qhz (lb n oM:Nat) (jj:LB) (jb:Bool) (jf:LL) (jg:Int) (je:Bool) (ja:LL) (jd:Bool) (jh:LL) (jc:Int) (yy:Bool) (yT:LL) (wj:Int):
 QfL lb n (oM+1) jj jb jf jg je ja jd jh jc yy yT wj=
 bif (decide (wj<(ja.length:Int))) then
 (optO (atL ja wj) fun c20=>
 chkO (c20.length==10) (
 optO (c20[9]?) fun j6=>
 chkO (CV.isCell j6) (
 chkO (room (yT.length+1) 8) (
 QfL lb n oM jj jb jf jg je ja jd jh jc (yy&&false) (yT++ [[j6]]) (IntKind.wrap .i64 (wj+1))))))
 else
 (Qli lb n jj jb jf jg je ja jd jh jc yy yT wj):=(Qah _).trans (by kernel_rfl)
theorem QqX (lb n:Nat) (jj:LB) (jb:Bool) (jf:LL) (jg:Int) (je:Bool) (ja:LL) (jd:Bool) (jh:LL) (jc:Int):
 top lb n Qbd [.agg [.str jj, .list jb jf, .int .i64 jg, .list je ja, .list jd jh, .int .i64 jc]]=
 QfL lb n n jj jb jf jg je ja jd jh jc true [] 0:=by kernel_rfl
noncomputable def QdA (lb n:Nat) (awansegcar1:LB) (awansegnum2 awansegday3:Int) (awansegfro4 jm:LB) (awansegdep6 awansegarr7:Int) (jt:LB) (jv jx:Int) (vb:Bool) (yh:LL):Option CV:=
 hold (E0 lb n 0 996 (sub (B Qbn) [1,1,1,1]) (retK Tryz.prog (R Qbn) 0 (outK (Qae Tryz.prog Qbn))) ⟨fr 67 [(0, .val (.agg [.str awansegcar1, .int .i64 awansegnum2, .int .i64 awansegday3, .str awansegfro4, .str jm, .int .i64 awansegdep6, .int .i64 awansegarr7, .str jt, .int .i64 jv, .int .i64 jx])),(1, .ptr 0 1 0),(2, .lst true true 31 []),(3, .lst true vb 31 yh),(4, .ptr 0 4 0),(7, .ptr 0 1 0),(8, .ptr 0 1 0),(9, .val (.agg [.str awansegcar1, .int .i64 awansegnum2, .int .i64 awansegday3, .str awansegfro4, .str jm, .int .i64 awansegdep6, .int .i64 awansegarr7]))],[bx 67 [(1,some [vS awansegcar1,vI awansegnum2,vI awansegday3,vS awansegfro4,vS jm,vI awansegdep6,vI awansegarr7,vS jt,vI jv,vI jx]),(4,some [vS awansegcar1,vI awansegnum2,vI awansegday3,vS awansegfro4,vS jm,vI awansegdep6,vI awansegarr7])]],KK⟩)
noncomputable def QdB (lb n:Nat) (awansegcar1:LB) (awansegnum2 awansegday3:Int) (awansegfro4 jm:LB) (awansegdep6 awansegarr7:Int) (jt:LB) (jv jx:Int) (kV:Bool) (kB:LL):Option CV:=
 hold (E0 lb n 0 995 (sub (B Qbn) [1,1,1,1,1]) (retK Tryz.prog (R Qbn) 0 (outK (Qae Tryz.prog Qbn))) ⟨fr 67 [(0, .val (.agg [.str awansegcar1, .int .i64 awansegnum2, .int .i64 awansegday3, .str awansegfro4, .str jm, .int .i64 awansegdep6, .int .i64 awansegarr7, .str jt, .int .i64 jv, .int .i64 jx])),(1, .ptr 0 1 0),(2, .lst true true 31 []),(3, .lst true kV 31 kB),(4, .ptr 0 4 0),(7, .ptr 0 1 0),(8, .ptr 0 1 0),(9, .val (.agg [.str awansegcar1, .int .i64 awansegnum2, .int .i64 awansegday3, .str awansegfro4, .str jm, .int .i64 awansegdep6, .int .i64 awansegarr7]))],[bx 67 [(1,some [vS awansegcar1,vI awansegnum2,vI awansegday3,vS awansegfro4,vS jm,vI awansegdep6,vI awansegarr7,vS jt,vI jv,vI jx]),(4,some [vS awansegcar1,vI awansegnum2,vI awansegday3,vS awansegfro4,vS jm,vI awansegdep6,vI awansegarr7])]],KK⟩)
noncomputable def QfR (lb n:Nat) (awansegcar1:LB) (awansegnum2 awansegday3:Int) (awansegfro4 jm:LB) (awansegdep6 awansegarr7:Int) (jt:LB) (jv jx:Int) (kD:Bool) (ky:LL):Option CV:=
 hold (E0 lb n 0 994 (sub (B Qbn) [1,1,1,1,1,1]) (retK Tryz.prog (R Qbn) 0 (outK (Qae Tryz.prog Qbn))) ⟨fr 67 [(0, .val (.agg [.str awansegcar1, .int .i64 awansegnum2, .int .i64 awansegday3, .str awansegfro4, .str jm, .int .i64 awansegdep6, .int .i64 awansegarr7, .str jt, .int .i64 jv, .int .i64 jx])),(1, .ptr 0 1 0),(2, .lst true true 31 []),(3, .lst true kD 31 ky),(4, .ptr 0 4 0),(7, .ptr 0 1 0),(8, .ptr 0 1 0),(9, .val (.agg [.str awansegcar1, .int .i64 awansegnum2, .int .i64 awansegday3, .str awansegfro4, .str jm, .int .i64 awansegdep6, .int .i64 awansegarr7]))],[bx 67 [(1,some [vS awansegcar1,vI awansegnum2,vI awansegday3,vS awansegfro4,vS jm,vI awansegdep6,vI awansegarr7,vS jt,vI jv,vI jx]),(4,some [vS awansegcar1,vI awansegnum2,vI awansegday3,vS awansegfro4,vS jm,vI awansegdep6,vI awansegarr7])]],KK⟩)
theorem Qob (lb n:Nat) (awansegcar1:LB) (awansegnum2 awansegday3:Int) (awansegfro4 jm:LB) (awansegdep6 awansegarr7:Int) (jt:LB) (jv jx:Int) (kD:Bool) (ky:LL):
 QfR lb n awansegcar1 awansegnum2 awansegday3 awansegfro4 jm awansegdep6 awansegarr7 jt jv jx kD ky=
 optO (C lb n QlO [.int .i64 jv]) fun js=>
 optO (CV.asT js) fun gN=>
 optO (gN[0]?) fun jI=>
 optO (CV.asT js) fun nC=>
 optO (nC[1]?) fun jV=>
 optO (CV.asI .i64 jV) fun yH=>
 bif (yH !=0) then
 (chkO (room (ky.length+1) 8) (
 some (.list (kD&&false) (ky++ [[CV.int .i64 10]]))))
 else
 (some (.list kD ky)):=(Qah _).trans (by kernel_rfl)
theorem Qoa (lb n:Nat) (awansegcar1:LB) (awansegnum2 awansegday3:Int) (awansegfro4 jm:LB) (awansegdep6 awansegarr7:Int) (jt:LB) (jv jx:Int) (kV:Bool) (kB:LL):
 QdB lb n awansegcar1 awansegnum2 awansegday3 awansegfro4 jm awansegdep6 awansegarr7 jt jv jx kV kB=
 optO (C lb n QkY [.str jt]) fun jD=>
 optO (CV.asB jD) fun vQ=>
 bif (!vQ) then
 (chkO (room (kB.length+1) 8) (
 QfR lb n awansegcar1 awansegnum2 awansegday3 awansegfro4 jm awansegdep6 awansegarr7 jt jv jx (kV&&false) (kB++ [[CV.int .i64 16]])))
 else
 (QfR lb n awansegcar1 awansegnum2 awansegday3 awansegfro4 jm awansegdep6 awansegarr7 jt jv jx kV kB):=(Qah _).trans (by kernel_rfl)
theorem Qn5 (lb n:Nat) (awansegcar1:LB) (awansegnum2 awansegday3:Int) (awansegfro4 jm:LB) (awansegdep6 awansegarr7:Int) (jt:LB) (jv jx:Int) (vb:Bool) (yh:LL):
 QdA lb n awansegcar1 awansegnum2 awansegday3 awansegfro4 jm awansegdep6 awansegarr7 jt jv jx vb yh=
 bif (decide (awansegdep6<0)) then
 (chkO (room (yh.length+1) 8) (
 QdB lb n awansegcar1 awansegnum2 awansegday3 awansegfro4 jm awansegdep6 awansegarr7 jt jv jx (vb&&false) (yh++ [[CV.int .i64 13]])))
 else
 (bif (decide (awansegarr7≤awansegdep6)) then
 (chkO (room (yh.length+1) 8) (
 QdB lb n awansegcar1 awansegnum2 awansegday3 awansegfro4 jm awansegdep6 awansegarr7 jt jv jx (vb&&false) (yh++ [[CV.int .i64 13]])))
 else
 (bif (decide (awansegarr7≥52596000)) then
 (chkO (room (yh.length+1) 8) (
 QdB lb n awansegcar1 awansegnum2 awansegday3 awansegfro4 jm awansegdep6 awansegarr7 jt jv jx (vb&&false) (yh++ [[CV.int .i64 13]])))
 else
 (QdB lb n awansegcar1 awansegnum2 awansegday3 awansegfro4 jm awansegdep6 awansegarr7 jt jv jx vb yh))):=(Qah _).trans (by kernel_rfl)
theorem QrC (lb n:Nat) (awansegcar1:LB) (awansegnum2 awansegday3:Int) (awansegfro4 jm:LB) (awansegdep6 awansegarr7:Int) (jt:LB) (jv jx:Int):
 top lb n Qbn [.agg [.str awansegcar1, .int .i64 awansegnum2, .int .i64 awansegday3, .str awansegfro4, .str jm, .int .i64 awansegdep6, .int .i64 awansegarr7, .str jt, .int .i64 jv, .int .i64 jx]]=
 optO (C lb n QiF [.str awansegcar1]) fun kZ=>
 optO (CV.asB kZ) fun yy=>
 bif (!yy) then
 (QdA lb n awansegcar1 awansegnum2 awansegday3 awansegfro4 jm awansegdep6 awansegarr7 jt jv jx false [[CV.int .i64 5]])
 else
 (optO (C lb n Qgi [.str awansegfro4]) fun zk=>
 optO (CV.asB zk) fun sX=>
 bif (!sX) then
 (QdA lb n awansegcar1 awansegnum2 awansegday3 awansegfro4 jm awansegdep6 awansegarr7 jt jv jx false [[CV.int .i64 5]])
 else
 (optO (C lb n Qgi [.str jm]) fun ql=>
 optO (CV.asB ql) fun qV=>
 bif (!qV) then
 (QdA lb n awansegcar1 awansegnum2 awansegday3 awansegfro4 jm awansegdep6 awansegarr7 jt jv jx false [[CV.int .i64 5]])
 else
 (QdA lb n awansegcar1 awansegnum2 awansegday3 awansegfro4 jm awansegdep6 awansegarr7 jt jv jx true []))):=by kernel_rfl
noncomputable def Qem (lb n kS:Nat) (jk:Bool) (a2:LL) (b3:Int) (kK:Bool) (kL:LL) (yD:Int):Option CV:=
 hold (Qax (E0 lb n 0 994) 0 (Qak (sub (B QaG) [1,1,0,1,0,0])++ [7]) [] (sub (B QaG) [1,1,0,1,0,0]) (Qam 0 (seqK (E0 lb n 0 997) (sub (B QaG) [1,1,0]) (sub (B QaG) [1,1,1]) (retK Tryz.prog (R QaG) 0 (outK (Qae Tryz.prog QaG))))) kS ⟨fr 82 [(0, .val (.list jk a2)),(1,vI b3),(4, .lst true true 61 []),(5, .lst true kK 61 kL),(6,vI yD)],[bx 82 []],KK⟩)
noncomputable def Qhi (lb n kS:Nat) (jk:Bool) (a2:LL) (b3 yD:Int) (kI:LB) (gP:CV) (kN:Bool) (mE:LL):Option CV:=
 hold (E0 lb n 0 989 (sub (B QaG) [1,1,0,1,0,0,1,0,0,1,1]) (Qam 1 (seqK (E0 lb n 0 992) (sub (B QaG) [1,1,0,1,0,0,1,0]) (sub (B QaG) [1,1,0,1,0,0,1,1]) (Qcz 0 (Qak (sub (B QaG) [1,1,0,1,0,0])++ [7]) [] (Qax (E0 lb n 0 994) 0 (Qak (sub (B QaG) [1,1,0,1,0,0])++ [7]) [] (sub (B QaG) [1,1,0,1,0,0]) (Qam 0 (seqK (E0 lb n 0 997) (sub (B QaG) [1,1,0]) (sub (B QaG) [1,1,1]) (retK Tryz.prog (R QaG) 0 (outK (Qae Tryz.prog QaG))))) kS) (Qam 0 (seqK (E0 lb n 0 997) (sub (B QaG) [1,1,0]) (sub (B QaG) [1,1,1]) (retK Tryz.prog (R QaG) 0 (outK (Qae Tryz.prog QaG)))))))) ⟨fr 82 [(0, .val (.list jk a2)),(1,vI b3),(4, .lst true true 61 []),(5, .lst true kN 61 mE),(6,vI yD),(7, .val (.str (([112,101,114,115,111,110,32]:LB)++kI))),(15,vI yD),(16,vV gP),(17, .val (.str (([112,101,114,115,111,110,32]:LB)++kI)))],[bx 82 []],KK⟩)
theorem Qqz (lb n kS:Nat) (jk:Bool) (a2:LL) (b3 yD:Int) (kI:LB) (gP:CV) (kN:Bool) (mE:LL):
 Qhi lb n kS jk a2 b3 yD kI gP kN mE=
 optO (atL a2 yD) fun qf=>
 chkO (qf.length==3) (
 optO (qf[0]?) fun jX=>
 optO (qf[1]?) fun sJ=>
 optO (qf[2]?) fun qz=>
 optO (C lb n Qh9 [.agg [jX,sJ,qz]]) fun qS=>
 optO (CV.asB qS) fun qp=>
 bif (!qp) then
 (chkO (room (mE.length+1) 24) (
 Qem lb n kS jk a2 b3 (kN&&false) (mE++ [[CV.int .i64 8,CV.str (([112,101,114,115,111,110,32]:LB)++kI)]]) (IntKind.wrap .i64 (yD+1))))
 else
 (Qem lb n kS jk a2 b3 kN mE (IntKind.wrap .i64 (yD+1)))):=(Qah _).trans (by kernel_rfl)
noncomputable def QjS (lb n:Nat) (jk:Bool) (a2:LL) (b3:Int) (mH:Bool) (gg:LL) (yW:Int):Option CV:=
 hold (E0 lb n 0 997 (sub (B QaG) [1,1,1]) (retK Tryz.prog (R QaG) 0 (outK (Qae Tryz.prog QaG))) ⟨fr 82 [(0, .val (.list jk a2)),(1,vI b3),(4, .lst true true 61 []),(5, .lst true mH 61 gg),(6,vI yW)],[bx 82 []],KK⟩)
noncomputable def QfD (lb n:Nat) (jk:Bool) (a2:LL) (yW i80:Int) (oO:Bool) (kv:LL):Option CV:=
 hold (E0 lb n 0 996 (sub (B QaG) [1,1,1,1]) (retK Tryz.prog (R QaG) 0 (outK (Qae Tryz.prog QaG))) ⟨fr 82 [(0, .val (.list jk a2)),(1,vI i80),(4, .lst true true 61 []),(5, .lst true oO 61 kv),(6,vI yW)],[bx 82 []],KK⟩)
noncomputable def Qcb (lb n:Nat) (jk:Bool) (a2:LL) (i80 yW:Int) (nq:Bool) (my:LL):Option CV:=
 hold (E0 lb n 0 994 (sub (B QaG) [1,1,1,1,1,1]) (retK Tryz.prog (R QaG) 0 (outK (Qae Tryz.prog QaG))) ⟨fr 82 [(0, .val (.list jk a2)),(1,vI i80),(4, .lst true true 61 []),(5, .lst true nq 61 my),(6,vI yW),(8, .val (.int .i64 (a2.length:Int))),(50, .val (.list jk a2)),(51, .val (.int .i64 (a2.length:Int)))],[bx 82 []],KK⟩)
theorem QpR (lb n:Nat) (jk:Bool) (a2:LL) (i80 yW:Int) (nq:Bool) (my:LL):
 Qcb lb n jk a2 i80 yW nq my=
 optO (C lb n Qce [.list jk a2]) fun sK=>
 optO (CV.asB sK) fun sq=>
 bif (!sq) then
 (chkO (room (my.length+1) 24) (
 some (.list (nq&&false) (my++ [[CV.int .i64 25,CV.str [112,97,114,116,121]]]))))
 else
 (some (.list nq my)):=(Qah _).trans (by kernel_rfl)
theorem Qp5 (lb n:Nat) (jk:Bool) (a2:LL) (yW i80:Int) (oO:Bool) (kv:LL):
 QfD lb n jk a2 yW i80 oO kv=
 bif ((IntKind.wrap .i64 ((a2.length:Int)+i80))==0) then
 (chkO (room (kv.length+1) 24) (
 Qcb lb n jk a2 i80 yW (oO&&false) (kv++ [[CV.int .i64 4,CV.str [112,97,114,116,121]]])))
 else
 (bif (i80==0) then
 (bif (decide ((a2.length:Int)>9)) then
 (chkO (room (kv.length+1) 24) (
 Qcb lb n jk a2 i80 yW (oO&&false) (kv++ [[CV.int .i64 4,CV.str [112,97,114,116,121]]])))
 else
 (bif (decide ((IntKind.wrap .i64 ((a2.length:Int)+i80))>99)) then
 (chkO (room (kv.length+1) 24) (
 Qcb lb n jk a2 i80 yW (oO&&false) (kv++ [[CV.int .i64 4,CV.str [112,97,114,116,121]]])))
 else
 (Qcb lb n jk a2 i80 yW oO kv)))
 else
 (bif (decide ((IntKind.wrap .i64 ((a2.length:Int)+i80))>99)) then
 (chkO (room (kv.length+1) 24) (
 Qcb lb n jk a2 i80 yW (oO&&false) (kv++ [[CV.int .i64 4,CV.str [112,97,114,116,121]]])))
 else
 (Qcb lb n jk a2 i80 yW oO kv))):=(Qah _).trans (by kernel_rfl)
theorem QgU (lb n:Nat) (jk:Bool) (a2:LL) (b3:Int) (mH:Bool) (gg:LL) (yW:Int):
 QjS lb n jk a2 b3 mH gg yW=
 bif (decide (b3<0)) then
 (chkO (room (gg.length+1) 24) (
 QfD lb n jk a2 yW 0 (mH&&false) (gg++ [[CV.int .i64 2,CV.str [112,97,114,116,121]]])))
 else
 (bif (decide (b3>99)) then
 (chkO (room (gg.length+1) 24) (
 QfD lb n jk a2 yW 0 (mH&&false) (gg++ [[CV.int .i64 2,CV.str [112,97,114,116,121]]])))
 else
 (QfD lb n jk a2 yW b3 mH gg)):=(Qah _).trans (by kernel_rfl)
theorem Qi0 (lb n kS:Nat) (jk:Bool) (a2:LL) (b3:Int) (kK:Bool) (kL:LL) (yD:Int):
 Qem lb n (kS+1) jk a2 b3 kK kL yD=
 bif (decide (yD<(a2.length:Int))) then
 (optO (C lb n QdZ [.int .i64 yD]) fun gP=>
 optO (CV.asS gP) fun kI=>
 chkO (decide (([112,101,114,115,111,110,32]:LB).length+kI.length≤9223372036854775807)) (
 optO (atL a2 yD) fun gx=>
 chkO (gx.length==3) (
 optO (gx[0]?) fun wx=>
 optO (gx[1]?) fun x65=>
 optO (gx[2]?) fun x66=>
 optO (C lb n Qh8 [.agg [wx,x65,x66]]) fun r67=>
 optO (CV.asB r67) fun b68=>
 bif (!b68) then
 (chkO (room (kL.length+1) 24) (
 Qhi lb n kS jk a2 b3 yD kI gP (kK&&false) (kL++ [[CV.int .i64 5,CV.str (([112,101,114,115,111,110,32]:LB)++kI)]])))
 else
 (Qhi lb n kS jk a2 b3 yD kI gP kK kL))))
 else
 (QjS lb n jk a2 b3 kK kL yD):=(Qah _).trans (by kernel_rfl)
theorem QtQ (lb n:Nat) (jk:Bool) (a2:LL) (b3:Int):
 top lb n QaG [.list jk a2, .int .i64 b3]=
 Qem lb n n jk a2 b3 true [] 0:=by kernel_rfl
theorem QtP (lb n:Nat) (yV yU yJ:LB):
 top lb n Qh8 [.agg [.str yV, .str yU, .str yJ]]=
 optO (C lb n Qb4 [.str yV]) fun r4=>
 optO (CV.asB r4) fun b5=>
 bif b5 then
 (optO (C lb n Qb4 [.str yU]) fun r6=>
 some (r6))
 else
 (some (.bool false)):=by kernel_rfl
theorem QtJ (lb n:Nat) (yV yU yJ:LB):
 top lb n Qh9 [.agg [.str yV, .str yU, .str yJ]]=
 optO (C lb n QbK [.str yJ, .int .i64 3, .int .i64 3]) fun r4=>
 some (r4):=by kernel_rfl
noncomputable def Qe1 (lb n mD:Nat) (jk:Bool) (a2:LL) (wj yI vp:Int):Option CV:=
 hold (Qax (E0 lb n 0 994) 0 (Qak (sub (B Qce) [1,1,0,1,0,0])++ []) [] (sub (B Qce) [1,1,0,1,0,0]) (Qam 0 (seqK (E0 lb n 0 997) (sub (B Qce) [1,1,0]) (sub (B Qce) [1,1,1]) (retK Tryz.prog (R Qce) 0 (outK (Qae Tryz.prog Qce))))) mD ⟨fr 31 [(0, .val (.list jk a2)),(2,vB false),(3,vI wj),(4,vI yI),(5,vI vp)],[bx 31 []],KK⟩)
noncomputable def QoP (lb n:Nat) (jk:Bool) (a2:LL) (pP mw nj:Int):Option CV:=
 hold (E0 lb n 0 997 (sub (B Qce) [1,1,1]) (retK Tryz.prog (R Qce) 0 (outK (Qae Tryz.prog Qce))) ⟨fr 31 [(0, .val (.list jk a2)),(2,vB false),(3,vI pP),(4,vI mw),(5,vI nj)],[bx 31 []],KK⟩)
theorem Qq5 (lb n:Nat) (jk:Bool) (a2:LL) (pP mw nj:Int):
 QoP lb n jk a2 pP mw nj=
 some (.bool (decide (pP≤mw))):=(Qah _).trans (by kernel_rfl)
theorem QjW (lb n mD:Nat) (jk:Bool) (a2:LL) (wj yI vp:Int):
 Qe1 lb n (mD+1) jk a2 wj yI vp=
 bif (decide (vp<(a2.length:Int))) then
 (optO (atL a2 vp) fun kE=>
 chkO (kE.length==3) (
 optO (kE[2]?) fun jV=>
 optO (CV.asS jV) fun s28=>
 bif (s28== [73,78,70]) then
 (Qe1 lb n mD jk a2 (IntKind.wrap .i64 (wj+1)) yI (IntKind.wrap .i64 (vp+1)))
 else
 (optO (atL a2 vp) fun zR=>
 chkO (zR.length==3) (
 optO (zR[2]?) fun jY=>
 optO (CV.asS jY) fun s31=>
 bif (!(s31== [67,72,68])) then
 (Qe1 lb n mD jk a2 wj (IntKind.wrap .i64 (yI+1)) (IntKind.wrap .i64 (vp+1)))
 else
 (Qe1 lb n mD jk a2 wj yI (IntKind.wrap .i64 (vp+1)))))))
 else
 (QoP lb n jk a2 wj yI vp):=(Qah _).trans (by kernel_rfl)
theorem Quo (lb n:Nat) (jk:Bool) (a2:LL):
 top lb n Qce [.list jk a2]=
 Qe1 lb n n jk a2 0 0 0:=by kernel_rfl
noncomputable def Qhr (lb n ka:Nat) (jk:Bool) (a2:LL) (i6:Int):Option CV:=
 hold (Qax (E0 lb n 0 995) 0 (Qak (sub (B Qat) [1,0,1,0,0])++ []) [] (sub (B Qat) [1,0,1,0,0]) (Qam 0 (seqK (E0 lb n 0 998) (sub (B Qat) [1,0]) (sub (B Qat) [1,1]) (retK Tryz.prog (R Qat) 0 (outK (Qae Tryz.prog Qat))))) ka ⟨fr 70 [(0, .val (.list jk a2)),(2,vI 0),(3,vI i6)],[bx 70 []],KK⟩)
noncomputable def Qng (lb n:Nat) (jk:Bool) (a2:LL) (wj:Int):Option CV:=
 hold (E0 lb n 0 998 (sub (B Qat) [1,1]) (retK Tryz.prog (R Qat) 0 (outK (Qae Tryz.prog Qat))) ⟨fr 70 [(0, .val (.list jk a2)),(2,vI 0),(3,vI wj)],[bx 70 []],KK⟩)
noncomputable def Qfx (lb n yB:Nat) (jk:Bool) (a2:LL) (wj yd:Int):Option CV:=
 hold (Qax (E0 lb n 0 994) 0 (Qak (sub (B Qat) [1,1,0,1,0,0])++ [5,5]) [] (sub (B Qat) [1,1,0,1,0,0]) (Qam 2 (seqK (E0 lb n 0 997) (sub (B Qat) [1,1,0]) (sub (B Qat) [1,1,1]) (retK Tryz.prog (R Qat) 0 (outK (Qae Tryz.prog Qat))))) yB ⟨fr 70 [(0, .val (.list jk a2)),(2,vI 0),(3,vI wj),(4,vI yd)],[bx 70 []],KK⟩)
noncomputable def QdI (lb n oV yB:Nat) (jk:Bool) (a2:LL) (wj yd ku:Int):Option CV:=
 hold (Qax (E0 lb n 0 987) 0 (Qak (sub (B Qat) [1,1,0,1,0,0,1,0,0,1,1,0,0])++ []) [] (sub (B Qat) [1,1,0,1,0,0,1,0,0,1,1,0,0]) (Qam 4 (Qam 3 (seqK (E0 lb n 0 992) (sub (B Qat) [1,1,0,1,0,0,1,0]) (sub (B Qat) [1,1,0,1,0,0,1,1]) (Qcz 0 (Qak (sub (B Qat) [1,1,0,1,0,0])++ [5,5]) [] (Qax (E0 lb n 0 994) 0 (Qak (sub (B Qat) [1,1,0,1,0,0])++ [5,5]) [] (sub (B Qat) [1,1,0,1,0,0]) (Qam 2 (seqK (E0 lb n 0 997) (sub (B Qat) [1,1,0]) (sub (B Qat) [1,1,1]) (retK Tryz.prog (R Qat) 0 (outK (Qae Tryz.prog Qat))))) yB) (Qam 2 (seqK (E0 lb n 0 997) (sub (B Qat) [1,1,0]) (sub (B Qat) [1,1,1]) (retK Tryz.prog (R Qat) 0 (outK (Qae Tryz.prog Qat))))))))) oV ⟨fr 70 [(0, .val (.list jk a2)),(2,vI 0),(3,vI wj),(4,vI yd),(5,vI ku),(34,vI yd),(35, .val (.int .i64 (IntKind.wrap .i64 (yd+2))))],[bx 70 []],KK⟩)
noncomputable def Qnr (lb n yB:Nat) (jk:Bool) (a2:LL) (wj yd pw:Int):Option CV:=
 hold (E0 lb n 0 992 (sub (B Qat) [1,1,0,1,0,0,1,1]) (Qcz 0 (Qak (sub (B Qat) [1,1,0,1,0,0])++ [5,5]) [] (Qax (E0 lb n 0 994) 0 (Qak (sub (B Qat) [1,1,0,1,0,0])++ [5,5]) [] (sub (B Qat) [1,1,0,1,0,0]) (Qam 2 (seqK (E0 lb n 0 997) (sub (B Qat) [1,1,0]) (sub (B Qat) [1,1,1]) (retK Tryz.prog (R Qat) 0 (outK (Qae Tryz.prog Qat))))) yB) (Qam 2 (seqK (E0 lb n 0 997) (sub (B Qat) [1,1,0]) (sub (B Qat) [1,1,1]) (retK Tryz.prog (R Qat) 0 (outK (Qae Tryz.prog Qat)))))) ⟨fr 70 [(0, .val (.list jk a2)),(2,vI 0),(3,vI wj),(4,vI yd),(5,vI pw)],[bx 70 []],KK⟩)
theorem QpM (lb n yB:Nat) (jk:Bool) (a2:LL) (wj yd pw:Int):
 Qnr lb n yB jk a2 wj yd pw=
 Qfx lb n yB jk a2 wj (IntKind.wrap .i64 (yd+1)):=(Qah _).trans (by kernel_rfl)
theorem QiU (lb n oV yB:Nat) (jk:Bool) (a2:LL) (wj yd ku:Int):
 QdI lb n (oV+1) yB jk a2 wj yd ku=
 bif (decide (ku<(a2.length:Int))) then
 (optO (atL a2 yd) fun zi=>
 chkO (zi.length==1) (
 optO (zi[0]?) fun l6=>
 optO (CV.asI .i64 l6) fun lV=>
 bif (decide (lV>0)) then
 (optO (atL a2 ku) fun ss=>
 chkO (ss.length==1) (
 optO (ss[0]?) fun uZ=>
 optO (atL a2 yd) fun sI=>
 chkO (sI.length==1) (
 optO (sI[0]?) fun rm=>
 optO (CV.asI .i64 uZ) fun uQ=>
 optO (CV.asI .i64 rm) fun lh=>
 bif (uQ==lh) then
 (optO (atL a2 (IntKind.wrap .i64 (ku-1))) fun qy=>
 chkO (qy.length==1) (
 optO (qy[0]?) fun ri=>
 optO (atL a2 yd) fun qY=>
 chkO (qY.length==1) (
 optO (qY[0]?) fun jac=>
 optO (CV.asI .i64 ri) fun lN=>
 optO (CV.asI .i64 jac) fun jaj=>
 bif (lN !=jaj) then
 (some (.int .i64 18))
 else
 (QdI lb n oV yB jk a2 wj yd (IntKind.wrap .i64 (ku+1))))))
 else
 (QdI lb n oV yB jk a2 wj yd (IntKind.wrap .i64 (ku+1))))))
 else
 (QdI lb n oV yB jk a2 wj yd (IntKind.wrap .i64 (ku+1)))))
 else
 (Qnr lb n yB jk a2 wj yd ku):=(Qah _).trans (by kernel_rfl)
noncomputable def Qnt (lb n:Nat) (jk:Bool) (a2:LL) (wj nX:Int):Option CV:=
 hold (E0 lb n 0 997 (sub (B Qat) [1,1,1]) (retK Tryz.prog (R Qat) 0 (outK (Qae Tryz.prog Qat))) ⟨fr 70 [(0, .val (.list jk a2)),(2,vI 0),(3,vI wj),(4,vI nX)],[bx 70 []],KK⟩)
theorem QpZ (lb n:Nat) (jk:Bool) (a2:LL) (wj nX:Int):
 Qnt lb n jk a2 wj nX=
 some (.int .i64 0):=(Qah _).trans (by kernel_rfl)
theorem QiW (lb n yB:Nat) (jk:Bool) (a2:LL) (wj yd:Int):
 Qfx lb n (yB+1) jk a2 wj yd=
 bif (decide (yd<(a2.length:Int))) then
 (optO (atL a2 yd) fun sW=>
 chkO (sW.length==1) (
 optO (sW[0]?) fun rx=>
 optO (CV.asI .i64 rx) fun ue=>
 bif (decide (ue>0)) then
 (optO (C lb n Qd4 [.list jk a2, .int .i64 yd]) fun rY=>
 optO (CV.asB rY) fun re=>
 bif (!re) then
 (some (.int .i64 18))
 else
 (QdI lb n n yB jk a2 wj yd (IntKind.wrap .i64 (yd+2))))
 else
 (QdI lb n n yB jk a2 wj yd (IntKind.wrap .i64 (yd+2)))))
 else
 (Qnt lb n jk a2 wj yd):=(Qah _).trans (by kernel_rfl)
theorem QpN (lb n:Nat) (jk:Bool) (a2:LL) (wj:Int):
 Qng lb n jk a2 wj=
 Qfx lb n n jk a2 wj 0:=(Qah _).trans (by kernel_rfl)
theorem QiT (lb n ka:Nat) (jk:Bool) (a2:LL) (i6:Int):
 Qhr lb n (ka+1) jk a2 i6=
 bif (decide (i6<(a2.length:Int))) then
 (optO (atL a2 i6) fun jo=>
 chkO (jo.length==1) (
 optO (jo[0]?) fun mg=>
 optO (CV.asI .i64 mg) fun o9=>
 bif (decide (o9<0)) then
 (some (.int .i64 2))
 else
 (Qhr lb n ka jk a2 (IntKind.wrap .i64 (i6+1)))))
 else
 (Qng lb n jk a2 i6):=(Qah _).trans (by kernel_rfl)
theorem Quj (lb n:Nat) (jk:Bool) (a2:LL):
 top lb n Qat [.list jk a2]=
 Qhr lb n n jk a2 0:=by kernel_rfl
theorem Qpa (lb n:Nat) (jk:Bool) (a2:LL) (b3:Int):
 top lb n Qd4 [.list jk a2, .int .i64 b3]=
 bif (decide (b3>0)) then
 (optO (atL a2 (IntKind.wrap .i64 (b3-1))) fun c4=>
 chkO (c4.length==1) (
 optO (c4[0]?) fun x5=>
 optO (atL a2 b3) fun c6=>
 chkO (c6.length==1) (
 optO (c6[0]?) fun x7=>
 optO (CV.asI .i64 x5) fun i9=>
 optO (CV.asI .i64 x7) fun qs=>
 bif (i9==qs) then
 (some (.bool true))
 else
 (bif (decide ((IntKind.wrap .i64 (b3+1))<(a2.length:Int))) then
 (optO (atL a2 (IntKind.wrap .i64 (b3+1))) fun oe=>
 chkO (oe.length==1) (
 optO (oe[0]?) fun sE=>
 optO (atL a2 b3) fun wv=>
 chkO (wv.length==1) (
 optO (wv[0]?) fun wL=>
 optO (CV.asI .i64 sE) fun wj=>
 optO (CV.asI .i64 wL) fun yI=>
 some (.bool (wj==yI)))))
 else
 (some (.bool false))))))
 else
 (bif (decide ((IntKind.wrap .i64 (b3+1))<(a2.length:Int))) then
 (optO (atL a2 (IntKind.wrap .i64 (b3+1))) fun zQ=>
 chkO (zQ.length==1) (
 optO (zQ[0]?) fun x19=>
 optO (atL a2 b3) fun c20=>
 chkO (c20.length==1) (
 optO (c20[0]?) fun j6=>
 optO (CV.asI .i64 x19) fun i22=>
 optO (CV.asI .i64 j6) fun i23=>
 some (.bool (i22==i23)))))
 else
 (some (.bool false))):=by kernel_rfl
theorem Quq (lb n:Nat) (a1:Int):
 top lb n QlO [.int .i64 a1]=
 bif (decide (a1≤0)) then
 (some (.tup [.str [], .int .i64 8]))
 else
 (bif (decide (a1>7)) then
 (some (.tup [.str [], .int .i64 8]))
 else
 (optO (C lb n QkN []) fun r2=>
 optO (CV.asL r2) fun p3=>
 optO (atL p3.2 a1) fun c4=>
 chkO (c4.length==1) (
 optO (c4[0]?) fun x5=>
 some (.tup [x5, .int .i64 0])))):=by kernel_rfl
theorem Qs4 (lb n:Nat)  :
 top lb n QkN []=
 some (.list false [[CV.str []],[CV.str [72,75]],[CV.str [72,76]],[CV.str [75,76]],[CV.str [84,75]],[CV.str [85,78]],[CV.str [85,67]],[CV.str [88,88]]]):=by kernel_rfl
end Go.Proofs
