/- Equations of functions, printed by program. Conditions: none. -/
import Derived.Test.YtigmcfhmpcajlaaGreatDoorEv
namespace Go.Proofs
open Go.Am
set_option maxRecDepth 100000
set_option linter.unusedVariables false
noncomputable def booking_Check_J1 :=
 fun lb n jj (ja : Bool) (jf : LL) jg (jb : Bool) (je : LL) (jd : Bool) (jh : LL) jc (yd : Bool) (yy : LL) =>
 hold (E0 lb n 0 996 (sub (B Qaa) [1,1,1,1]) (retK Tryz.prog (R Qaa) 0 (outK (Qad Tryz.prog Qaa))) ⟨fr 122 [(0, .val (.agg [.str jj, .list ja jf, .int .i64 jg, .list jb je, .list jd jh, .int .i64 jc])),(1, .ptr 0 1 0),(2, .lst true true 61 []),(3, .ptr 0 3 0),(4, .clo Qau [.ptr 0 3 0]),(13, .clo Qau [.ptr 0 3 0])],[bx 122 [(1,some [vS jj, .val (.list ja jf),vI jg, .val (.list jb je), .val (.list jd jh),vI jc]),(3,some [.lst true yd 61 yy])]],KK⟩)
noncomputable def Qcr (lb n : Nat) (jj : LB) (ja : Bool) (jf : LL) (jg : Int) (jb : Bool) (je : LL) (jd : Bool) (jh : LL) (jc : Int) (jp : Bool) (jn : LL) : Option CV :=
 hold (E0 lb n 0 995 (sub (B Qaa) [1,1,1,1,1]) (retK Tryz.prog (R Qaa) 0 (outK (Qad Tryz.prog Qaa))) ⟨fr 122 [(0, .val (.agg [.str jj, .list ja jf, .int .i64 jg, .list jb je, .list jd jh, .int .i64 jc])),(1, .ptr 0 1 0),(2, .lst true true 61 []),(3, .ptr 0 3 0),(4, .clo Qau [.ptr 0 3 0]),(13, .clo Qau [.ptr 0 3 0])],[bx 122 [(1,some [vS jj, .val (.list ja jf),vI jg, .val (.list jb je), .val (.list jd jh),vI jc]),(3,some [.lst true jp 61 jn])]],KK⟩)
noncomputable def Qcq (lb n : Nat) (jj : LB) (ja : Bool) (jf : LL) (jg : Int) (jb : Bool) (je : LL) (jd : Bool) (jh : LL) (jc : Int) (jp : Bool) (jn : LL) (jl : CV) (jo : Bool × LL) (yW : Bool) (vE : LL) : Option CV :=
 hold (E0 lb n 0 993 (sub (B Qaa) [1,1,1,1,1,1,1]) (retK Tryz.prog (R Qaa) 0 (outK (Qad Tryz.prog Qaa))) ⟨fr 122 [(0, .val (.agg [.str jj, .list ja jf, .int .i64 jg, .list jb je, .list jd jh, .int .i64 jc])),(1, .ptr 0 1 0),(2, .lst true true 61 []),(3, .ptr 0 3 0),(4, .clo Qau [.ptr 0 3 0]),(13, .clo Qau [.ptr 0 3 0]),(30, .val (.list jp jn)),(31, .ptr 0 1 1),(32, .val (.list ja jf)),(33, .ptr 0 1 2),(34,vI jg),(35,vV jl),(36, .val (.list (jp && jo.2.isEmpty) (jn ++ jo.2)))],[bx 122 [(1,some [vS jj, .val (.list ja jf),vI jg, .val (.list jb je), .val (.list jd jh),vI jc]),(3,some [.lst true yW 61 vE])]],KK⟩)
noncomputable def QdM (lb n : Nat) (jj : LB) (ja : Bool) (jf : LL) (jg : Int) (jb : Bool) (je : LL) (jd : Bool) (jh : LL) (jc : Int) (jq : CV) (jp : Bool) (jn : LL) (jl : CV) (jo : Bool × LL) (js : CV) (vc : Bool) (vp : LL) : Option CV :=
 hold (E0 lb n 0 991 (sub (B Qaa) [1,1,1,1,1,1,1,1,1]) (retK Tryz.prog (R Qaa) 0 (outK (Qad Tryz.prog Qaa))) ⟨fr 122 [(0, .val (.agg [.str jj, .list ja jf, .int .i64 jg, .list jb je, .list jd jh, .int .i64 jc])),(1, .ptr 0 1 0),(2, .lst true true 61 []),(3, .ptr 0 3 0),(4, .clo Qau [.ptr 0 3 0]),(5,vV jq),(13, .clo Qau [.ptr 0 3 0]),(30, .val (.list jp jn)),(31, .ptr 0 1 1),(32, .val (.list ja jf)),(33, .ptr 0 1 2),(34,vI jg),(35,vV jl),(36, .val (.list (jp && jo.2.isEmpty) (jn ++ jo.2))),(43, .ptr 0 1 3),(44, .val (.list jb je)),(45,vV js),(46,vV jq)],[bx 122 [(1,some [vS jj, .val (.list ja jf),vI jg, .val (.list jb je), .val (.list jd jh),vI jc]),(3,some [.lst true vc 61 vp])]],KK⟩)
noncomputable def QdV (lb n yI : Nat) (jj : LB) (ja : Bool) (jf : LL) (jg : Int) (jb : Bool) (je : LL) (jd : Bool) (jh : LL) (jc : Int) (jq : CV) (jp : Bool) (jn : LL) (jl : CV) (jo : Bool × LL) (js : CV) (wl : Int) (mb : Bool) (mc : LL) : Option CV :=
 hold (Qaw (E0 lb n 0 987) 0 (Qah (sub (B Qaa) [1,1,1,1,1,1,1,1,1,0,1,0,0]) ++ [6,9]) [7] (sub (B Qaa) [1,1,1,1,1,1,1,1,1,0,1,0,0]) (Qap 0 (seqK (E0 lb n 0 990) (sub (B Qaa) [1,1,1,1,1,1,1,1,1,0]) (sub (B Qaa) [1,1,1,1,1,1,1,1,1,1]) (retK Tryz.prog (R Qaa) 0 (outK (Qad Tryz.prog Qaa))))) yI ⟨fr 122 [(0, .val (.agg [.str jj, .list ja jf, .int .i64 jg, .list jb je, .list jd jh, .int .i64 jc])),(1, .ptr 0 1 0),(2, .lst true true 61 []),(3, .ptr 0 3 0),(4, .clo Qau [.ptr 0 3 0]),(5,vV jq),(13, .clo Qau [.ptr 0 3 0]),(30, .val (.list jp jn)),(31, .ptr 0 1 1),(32, .val (.list ja jf)),(33, .ptr 0 1 2),(34,vI jg),(35,vV jl),(36, .val (.list (jp && jo.2.isEmpty) (jn ++ jo.2))),(43, .ptr 0 1 3),(44, .val (.list jb je)),(45,vV js),(46,vV jq),(52, .ptr 0 1 3),(53, .val (.list jb je)),(54, .val (.int .i64 (je.length : Int))),(55,vI wl)],[bx 122 [(1,some [vS jj, .val (.list ja jf),vI jg, .val (.list jb je), .val (.list jd jh),vI jc]),(3,some [.lst true mb 61 mc])]],KK⟩)
noncomputable def QdL (lb n gK yI : Nat) (jj : LB) (ja : Bool) (jf : LL) (jg : Int) (jb : Bool) (je : LL) (jd : Bool) (jh : LL) (jc : Int) (jq : CV) (wl : Int) (jp : Bool) (jn : LL) (jl : CV) (jo : Bool × LL) (js : CV) (yi : List CV) (wg wh wb wj jy jz w6 jC jB jA yS : CV) (y7 : Bool × LL) (oc : Int) (oW : Bool) (od : LL) : Option CV :=
 hold (Qaw (E0 lb n 0 979) 0 (Qah (sub (B Qaa) [1,1,1,1,1,1,1,1,1,0,1,0,0,1,1,0,0,1,1,0,0]) ++ [9]) [] (sub (B Qaa) [1,1,1,1,1,1,1,1,1,0,1,0,0,1,1,0,0,1,1,0,0]) (Qap 2 (Qap 1 (seqK (E0 lb n 0 984) (sub (B Qaa) [1,1,1,1,1,1,1,1,1,0,1,0,0,1,1,0]) (sub (B Qaa) [1,1,1,1,1,1,1,1,1,0,1,0,0,1,1,1]) (Qdv 0 (Qah (sub (B Qaa) [1,1,1,1,1,1,1,1,1,0,1,0,0]) ++ [6,9]) [7] (Qaw (E0 lb n 0 987) 0 (Qah (sub (B Qaa) [1,1,1,1,1,1,1,1,1,0,1,0,0]) ++ [6,9]) [7] (sub (B Qaa) [1,1,1,1,1,1,1,1,1,0,1,0,0]) (Qap 0 (seqK (E0 lb n 0 990) (sub (B Qaa) [1,1,1,1,1,1,1,1,1,0]) (sub (B Qaa) [1,1,1,1,1,1,1,1,1,1]) (retK Tryz.prog (R Qaa) 0 (outK (Qad Tryz.prog Qaa))))) yI) (Qap 0 (seqK (E0 lb n 0 990) (sub (B Qaa) [1,1,1,1,1,1,1,1,1,0]) (sub (B Qaa) [1,1,1,1,1,1,1,1,1,1]) (retK Tryz.prog (R Qaa) 0 (outK (Qad Tryz.prog Qaa))))))))) gK ⟨fr 122 [(0, .val (.agg [.str jj, .list ja jf, .int .i64 jg, .list jb je, .list jd jh, .int .i64 jc])),(1, .ptr 0 1 0),(2, .lst true true 61 []),(3, .ptr 0 3 0),(4, .clo Qau [.ptr 0 3 0]),(5,vV jq),(6,vI wl),(7, .ptr 0 7 0),(13, .clo Qau [.ptr 0 3 0]),(30, .val (.list jp jn)),(31, .ptr 0 1 1),(32, .val (.list ja jf)),(33, .ptr 0 1 2),(34,vI jg),(35,vV jl),(36, .val (.list (jp && jo.2.isEmpty) (jn ++ jo.2))),(43, .ptr 0 1 3),(44, .val (.list jb je)),(45,vV js),(46,vV jq),(52, .ptr 0 1 3),(53, .val (.list jb je)),(54, .val (.int .i64 (je.length : Int))),(55,vI wl),(56, .val (.bool (decide (wl < (je.length : Int))))),(57,vI wl),(58, .cptr yi 0),(59, .val (.agg [wg,wh,wb,wj,jy,jz,w6,jC,jB,jA])),(60, .val (.agg [wg,wh,wb,wj,jy,jz,w6,jC,jB,jA])),(61,vV yS),(62, .val (.int .i64 (y7.2.length : Int))),(63,vI oc)],[bx 122 [(1,some [vS jj, .val (.list ja jf),vI jg, .val (.list jb je), .val (.list jd jh),vI jc]),(3,some [.lst true oW 61 od]),(7,some [.val wg, .val wh, .val wb, .val wj, .val jy, .val jz, .val w6, .val jC, .val jB, .val jA])]],KK⟩)
noncomputable def QjE (lb n yI : Nat) (jj : LB) (ja : Bool) (jf : LL) (jg : Int) (jb : Bool) (je : LL) (jd : Bool) (jh : LL) (jc : Int) (jq : CV) (jp : Bool) (jn : LL) (jl : CV) (jo : Bool × LL) (js : CV) (wl i127 : Int) (gX : Bool) (gU : LL) (m5 mJ mV mP mZ kC mX nr v138 v139 : CV) : Option CV :=
 hold (E0 lb n 0 984 (sub (B Qaa) [1,1,1,1,1,1,1,1,1,0,1,0,0,1,1,1]) (Qdv 0 (Qah (sub (B Qaa) [1,1,1,1,1,1,1,1,1,0,1,0,0]) ++ [6,9]) [7] (Qaw (E0 lb n 0 987) 0 (Qah (sub (B Qaa) [1,1,1,1,1,1,1,1,1,0,1,0,0]) ++ [6,9]) [7] (sub (B Qaa) [1,1,1,1,1,1,1,1,1,0,1,0,0]) (Qap 0 (seqK (E0 lb n 0 990) (sub (B Qaa) [1,1,1,1,1,1,1,1,1,0]) (sub (B Qaa) [1,1,1,1,1,1,1,1,1,1]) (retK Tryz.prog (R Qaa) 0 (outK (Qad Tryz.prog Qaa))))) yI) (Qap 0 (seqK (E0 lb n 0 990) (sub (B Qaa) [1,1,1,1,1,1,1,1,1,0]) (sub (B Qaa) [1,1,1,1,1,1,1,1,1,1]) (retK Tryz.prog (R Qaa) 0 (outK (Qad Tryz.prog Qaa)))))) ⟨fr 122 [(0, .val (.agg [.str jj, .list ja jf, .int .i64 jg, .list jb je, .list jd jh, .int .i64 jc])),(1, .ptr 0 1 0),(2, .lst true true 61 []),(3, .ptr 0 3 0),(4, .clo Qau [.ptr 0 3 0]),(5,vV jq),(6,vI i127),(13, .clo Qau [.ptr 0 3 0]),(30, .val (.list jp jn)),(31, .ptr 0 1 1),(32, .val (.list ja jf)),(33, .ptr 0 1 2),(34,vI jg),(35,vV jl),(36, .val (.list (jp && jo.2.isEmpty) (jn ++ jo.2))),(43, .ptr 0 1 3),(44, .val (.list jb je)),(45,vV js),(46,vV jq),(52, .ptr 0 1 3),(53, .val (.list jb je)),(54, .val (.int .i64 (je.length : Int))),(55,vI wl),(56, .val (.bool (decide (wl < (je.length : Int)))))],[bx 122 [(1,some [vS jj, .val (.list ja jf),vI jg, .val (.list jb je), .val (.list jd jh),vI jc]),(3,some [.lst true gX 61 gU]),(7,some [.val m5, .val mJ, .val mV, .val mP, .val mZ, .val kC, .val mX, .val nr, .val v138, .val v139])]],KK⟩)
theorem Qms (lb n yI : Nat) (jj : LB) (ja : Bool) (jf : LL) (jg : Int) (jb : Bool) (je : LL) (jd : Bool) (jh : LL) (jc : Int) (jq : CV) (jp : Bool) (jn : LL) (jl : CV) (jo : Bool × LL) (js : CV) (wl i127 : Int) (gX : Bool) (gU : LL) (m5 mJ mV mP mZ kC mX nr v138 v139 : CV) :
 QjE lb n yI jj ja jf jg jb je jd jh jc jq jp jn jl jo js wl i127 gX gU m5 mJ mV mP mZ kC mX nr v138 v139 =
 QdV lb n yI jj ja jf jg jb je jd jh jc jq jp jn jl jo js (IntKind.wrap .i64 (wl + 1)) gX gU := (Qab _).trans (by kernel_rfl)
theorem QgH (lb n gK yI : Nat) (jj : LB) (ja : Bool) (jf : LL) (jg : Int) (jb : Bool) (je : LL) (jd : Bool) (jh : LL) (jc : Int) (jq : CV) (wl : Int) (jp : Bool) (jn : LL) (jl : CV) (jo : Bool × LL) (js : CV) (yi : List CV) (wg wh wb wj jy jz w6 jC jB jA yS : CV) (y7 : Bool × LL) (oc : Int) (oW : Bool) (od : LL) :
 QdL lb n (gK + 1) yI jj ja jf jg jb je jd jh jc jq wl jp jn jl jo js yi wg wh wb wj jy jz w6 jC jB jA yS y7 oc oW od =
 bif (decide (oc < (y7.2.length : Int))) then
 (optO (CV.asL yS) fun sS =>
 optO (atL sS.2 oc) fun po =>
 chkO (po.length == 1) (
 optO (po[0]?) fun pd =>
 optO (C lb n Qba [.int .i64 wl]) fun sq =>
 optO (CV.asS sq) fun pG =>
 chkO (decide (([115,101,103,32] : LB).length + pG.length ≤ 9223372036854775807)) (
 chkO (CV.isCell pd) (
 chkO (room (od.length + 1) 24) (
 QdL lb n gK yI jj ja jf jg jb je jd jh jc jq wl jp jn jl jo js yi wg wh wb wj jy jz w6 jC jB jA yS y7 (IntKind.wrap .i64 (oc + 1)) (oW && false) (od ++ [[pd,CV.str (([115,101,103,32] : LB) ++ pG)]]))))))
 else
 (QjE lb n yI jj ja jf jg jb je jd jh jc jq jp jn jl jo js wl wl oW od wg wh wb wj jy jz w6 jC jB jA) := (Qab _).trans (by kernel_rfl)
noncomputable def Qgz (lb n : Nat) (jj : LB) (ja : Bool) (jf : LL) (jg : Int) (jb : Bool) (je : LL) (jd : Bool) (jh : LL) (jc : Int) (jq : CV) (jp : Bool) (jn : LL) (jl : CV) (jo : Bool × LL) (js : CV) (gV : Bool) (gT : LL) : Option CV :=
 hold (E0 lb n 0 990 (sub (B Qaa) [1,1,1,1,1,1,1,1,1,1]) (retK Tryz.prog (R Qaa) 0 (outK (Qad Tryz.prog Qaa))) ⟨fr 122 [(0, .val (.agg [.str jj, .list ja jf, .int .i64 jg, .list jb je, .list jd jh, .int .i64 jc])),(1, .ptr 0 1 0),(2, .lst true true 61 []),(3, .ptr 0 3 0),(4, .clo Qau [.ptr 0 3 0]),(5,vV jq),(13, .clo Qau [.ptr 0 3 0]),(30, .val (.list jp jn)),(31, .ptr 0 1 1),(32, .val (.list ja jf)),(33, .ptr 0 1 2),(34,vI jg),(35,vV jl),(36, .val (.list (jp && jo.2.isEmpty) (jn ++ jo.2))),(43, .ptr 0 1 3),(44, .val (.list jb je)),(45,vV js),(46,vV jq)],[bx 122 [(1,some [vS jj, .val (.list ja jf),vI jg, .val (.list jb je), .val (.list jd jh),vI jc]),(3,some [.lst true gV 61 gT])]],KK⟩)
noncomputable def Qbk (lb n yu : Nat) (jj : LB) (ja : Bool) (jf : LL) (jg : Int) (jb : Bool) (je : LL) (jd : Bool) (jh : LL) (jc : Int) (jq : CV) (jp : Bool) (jn : LL) (jl : CV) (jo : Bool × LL) (js : CV) (j8 : Int) (k8 : Bool) (kD : LL) : Option CV :=
 hold (Qaw (E0 lb n 0 986) 0 (Qah (sub (B Qaa) [1,1,1,1,1,1,1,1,1,1,0,1,0,0]) ++ [10,12]) [11] (sub (B Qaa) [1,1,1,1,1,1,1,1,1,1,0,1,0,0]) (Qap 4 (seqK (E0 lb n 0 989) (sub (B Qaa) [1,1,1,1,1,1,1,1,1,1,0]) (sub (B Qaa) [1,1,1,1,1,1,1,1,1,1,1]) (retK Tryz.prog (R Qaa) 0 (outK (Qad Tryz.prog Qaa))))) yu ⟨fr 122 [(0, .val (.agg [.str jj, .list ja jf, .int .i64 jg, .list jb je, .list jd jh, .int .i64 jc])),(1, .ptr 0 1 0),(2, .lst true true 61 []),(3, .ptr 0 3 0),(4, .clo Qau [.ptr 0 3 0]),(5,vV jq),(13, .clo Qau [.ptr 0 3 0]),(30, .val (.list jp jn)),(31, .ptr 0 1 1),(32, .val (.list ja jf)),(33, .ptr 0 1 2),(34,vI jg),(35,vV jl),(36, .val (.list (jp && jo.2.isEmpty) (jn ++ jo.2))),(43, .ptr 0 1 3),(44, .val (.list jb je)),(45,vV js),(46,vV jq),(75, .ptr 0 1 4),(76, .val (.list jd jh)),(77, .val (.int .i64 (jh.length : Int))),(78,vI j8)],[bx 122 [(1,some [vS jj, .val (.list ja jf),vI jg, .val (.list jb je), .val (.list jd jh),vI jc]),(3,some [.lst true k8 61 kD])]],KK⟩)
noncomputable def Qdt (lb n yu : Nat) (jj : LB) (ja : Bool) (jf : LL) (jg : Int) (jb : Bool) (je : LL) (jd : Bool) (jh : LL) (jc : Int) (jq : CV) (j8 : Int) (yr : LB) (jp : Bool) (jn : LL) (jl : CV) (jo : Bool × LL) (js : CV) (y5 : List CV) (ye y8 y6 vl : CV) (kh : Bool) (yX : LL) : Option CV :=
 hold (E0 lb n 0 979 (sub (B Qaa) [1,1,1,1,1,1,1,1,1,1,0,1,0,0,1,1,0,0,1,1,1]) (Qap 5 (seqK (E0 lb n 0 983) (sub (B Qaa) [1,1,1,1,1,1,1,1,1,1,0,1,0,0,1,1,0]) (sub (B Qaa) [1,1,1,1,1,1,1,1,1,1,0,1,0,0,1,1,1]) (Qdv 0 (Qah (sub (B Qaa) [1,1,1,1,1,1,1,1,1,1,0,1,0,0]) ++ [10,12]) [11] (Qaw (E0 lb n 0 986) 0 (Qah (sub (B Qaa) [1,1,1,1,1,1,1,1,1,1,0,1,0,0]) ++ [10,12]) [11] (sub (B Qaa) [1,1,1,1,1,1,1,1,1,1,0,1,0,0]) (Qap 4 (seqK (E0 lb n 0 989) (sub (B Qaa) [1,1,1,1,1,1,1,1,1,1,0]) (sub (B Qaa) [1,1,1,1,1,1,1,1,1,1,1]) (retK Tryz.prog (R Qaa) 0 (outK (Qad Tryz.prog Qaa))))) yu) (Qap 4 (seqK (E0 lb n 0 989) (sub (B Qaa) [1,1,1,1,1,1,1,1,1,1,0]) (sub (B Qaa) [1,1,1,1,1,1,1,1,1,1,1]) (retK Tryz.prog (R Qaa) 0 (outK (Qad Tryz.prog Qaa)))))))) ⟨fr 122 [(0, .val (.agg [.str jj, .list ja jf, .int .i64 jg, .list jb je, .list jd jh, .int .i64 jc])),(1, .ptr 0 1 0),(2, .lst true true 61 []),(3, .ptr 0 3 0),(4, .clo Qau [.ptr 0 3 0]),(5,vV jq),(10,vI j8),(11, .ptr 0 11 0),(12, .val (.str (([115,101,114,118,105,99,101,32] : LB) ++ yr))),(13, .clo Qau [.ptr 0 3 0]),(30, .val (.list jp jn)),(31, .ptr 0 1 1),(32, .val (.list ja jf)),(33, .ptr 0 1 2),(34,vI jg),(35,vV jl),(36, .val (.list (jp && jo.2.isEmpty) (jn ++ jo.2))),(43, .ptr 0 1 3),(44, .val (.list jb je)),(45,vV js),(46,vV jq),(75, .ptr 0 1 4),(76, .val (.list jd jh)),(77, .val (.int .i64 (jh.length : Int))),(78,vI j8),(79, .val (.bool (decide (j8 < (jh.length : Int))))),(80,vI j8),(81, .cptr y5 0),(82, .val (.agg [ye,y8,y6])),(83,vI j8),(84,vV vl),(85, .val (.str (([115,101,114,118,105,99,101,32] : LB) ++ yr)))],[bx 122 [(1,some [vS jj, .val (.list ja jf),vI jg, .val (.list jb je), .val (.list jd jh),vI jc]),(3,some [.lst true kh 61 yX]),(11,some [.val ye, .val y8, .val y6])]],KK⟩)
theorem Qlp (lb n yu : Nat) (jj : LB) (ja : Bool) (jf : LL) (jg : Int) (jb : Bool) (je : LL) (jd : Bool) (jh : LL) (jc : Int) (jq : CV) (j8 : Int) (yr : LB) (jp : Bool) (jn : LL) (jl : CV) (jo : Bool × LL) (js : CV) (y5 : List CV) (ye y8 y6 vl : CV) (kh : Bool) (yX : LL) :
 Qdt lb n yu jj ja jf jg jb je jd jh jc jq j8 yr jp jn jl jo js y5 ye y8 y6 vl kh yX =
 optO (CV.asI .i64 y8) fun m9 =>
 bif (decide (m9 < 0)) then
 (chkO (room (yX.length + 1) 24) (
 Qbk lb n yu jj ja jf jg jb je jd jh jc jq jp jn jl jo js (IntKind.wrap .i64 (j8 + 1)) (kh && false) (yX ++ [[CV.int .i64 7,CV.str (([115,101,114,118,105,99,101,32] : LB) ++ yr)]])))
 else
 (optO (CV.asI .i64 y8) fun mH =>
 bif (decide (mH ≥ (jf.length : Int))) then
 (chkO (room (yX.length + 1) 24) (
 Qbk lb n yu jj ja jf jg jb je jd jh jc jq jp jn jl jo js (IntKind.wrap .i64 (j8 + 1)) (kh && false) (yX ++ [[CV.int .i64 7,CV.str (([115,101,114,118,105,99,101,32] : LB) ++ yr)]])))
 else
 (optO (CV.asI .i64 y6) fun lN =>
 bif (decide (lN < 0)) then
 (chkO (room (yX.length + 1) 24) (
 Qbk lb n yu jj ja jf jg jb je jd jh jc jq jp jn jl jo js (IntKind.wrap .i64 (j8 + 1)) (kh && false) (yX ++ [[CV.int .i64 7,CV.str (([115,101,114,118,105,99,101,32] : LB) ++ yr)]])))
 else
 (optO (CV.asI .i64 y6) fun zY =>
 bif (decide (zY ≥ (je.length : Int))) then
 (chkO (room (yX.length + 1) 24) (
 Qbk lb n yu jj ja jf jg jb je jd jh jc jq jp jn jl jo js (IntKind.wrap .i64 (j8 + 1)) (kh && false) (yX ++ [[CV.int .i64 7,CV.str (([115,101,114,118,105,99,101,32] : LB) ++ yr)]])))
 else
 (Qbk lb n yu jj ja jf jg jb je jd jh jc jq jp jn jl jo js (IntKind.wrap .i64 (j8 + 1)) kh yX)))) := (Qab _).trans (by kernel_rfl)
noncomputable def Qi3 (lb n : Nat) (jj : LB) (ja : Bool) (jf : LL) (jg : Int) (jb : Bool) (je : LL) (jd : Bool) (jh : LL) (jc : Int) (jq : CV) (jp : Bool) (jn : LL) (jl : CV) (jo : Bool × LL) (js : CV) (gJ : Bool) (gQ : LL) : Option CV :=
 hold (E0 lb n 0 989 (sub (B Qaa) [1,1,1,1,1,1,1,1,1,1,1]) (retK Tryz.prog (R Qaa) 0 (outK (Qad Tryz.prog Qaa))) ⟨fr 122 [(0, .val (.agg [.str jj, .list ja jf, .int .i64 jg, .list jb je, .list jd jh, .int .i64 jc])),(1, .ptr 0 1 0),(2, .lst true true 61 []),(3, .ptr 0 3 0),(4, .clo Qau [.ptr 0 3 0]),(5,vV jq),(13, .clo Qau [.ptr 0 3 0]),(30, .val (.list jp jn)),(31, .ptr 0 1 1),(32, .val (.list ja jf)),(33, .ptr 0 1 2),(34,vI jg),(35,vV jl),(36, .val (.list (jp && jo.2.isEmpty) (jn ++ jo.2))),(43, .ptr 0 1 3),(44, .val (.list jb je)),(45,vV js),(46,vV jq)],[bx 122 [(1,some [vS jj, .val (.list ja jf),vI jg, .val (.list jb je), .val (.list jd jh),vI jc]),(3,some [.lst true gJ 61 gQ])]],KK⟩)
theorem QlH (lb n : Nat) (jj : LB) (ja : Bool) (jf : LL) (jg : Int) (jb : Bool) (je : LL) (jd : Bool) (jh : LL) (jc : Int) (jq : CV) (jp : Bool) (jn : LL) (jl : CV) (jo : Bool × LL) (js : CV) (gJ : Bool) (gQ : LL) :
 Qi3 lb n jj ja jf jg jb je jd jh jc jq jp jn jl jo js gJ gQ =
 some (.list gJ gQ) := (Qab _).trans (by kernel_rfl)
theorem QgO (lb n yu : Nat) (jj : LB) (ja : Bool) (jf : LL) (jg : Int) (jb : Bool) (je : LL) (jd : Bool) (jh : LL) (jc : Int) (jq : CV) (jp : Bool) (jn : LL) (jl : CV) (jo : Bool × LL) (js : CV) (j8 : Int) (k8 : Bool) (kD : LL) :
 Qbk lb n (yu + 1) jj ja jf jg jb je jd jh jc jq jp jn jl jo js j8 k8 kD =
 bif (decide (j8 < (jh.length : Int))) then
 (optO (atL jh j8) fun y5 =>
 chkO (y5.length == 3) (
 optO (y5[0]?) fun ye =>
 optO (y5[1]?) fun y8 =>
 optO (y5[2]?) fun y6 =>
 optO (C lb n Qba [.int .i64 j8]) fun vl =>
 optO (CV.asS vl) fun yr =>
 chkO (decide (([115,101,114,118,105,99,101,32] : LB).length + yr.length ≤ 9223372036854775807)) (
 optO (C lb n QeS [ye, .int .i64 4, .int .i64 4]) fun sL =>
 optO (CV.asB sL) fun zJ =>
 bif (!zJ) then
 (chkO (room (kD.length + 1) 24) (
 Qdt lb n yu jj ja jf jg jb je jd jh jc jq j8 yr jp jn jl jo js y5 ye y8 y6 vl (k8 && false) (kD ++ [[CV.int .i64 5,CV.str (([115,101,114,118,105,99,101,32] : LB) ++ yr)]])))
 else
 (Qdt lb n yu jj ja jf jg jb je jd jh jc jq j8 yr jp jn jl jo js y5 ye y8 y6 vl k8 kD))))
 else
 (Qi3 lb n jj ja jf jg jb je jd jh jc jq jp jn jl jo js k8 kD) := (Qab _).trans (by kernel_rfl)
theorem Qmr (lb n : Nat) (jj : LB) (ja : Bool) (jf : LL) (jg : Int) (jb : Bool) (je : LL) (jd : Bool) (jh : LL) (jc : Int) (jq : CV) (jp : Bool) (jn : LL) (jl : CV) (jo : Bool × LL) (js : CV) (gV : Bool) (gT : LL) :
 Qgz lb n jj ja jf jg jb je jd jh jc jq jp jn jl jo js gV gT =
 Qbk lb n n jj ja jf jg jb je jd jh jc jq jp jn jl jo js 0 gV gT := (Qab _).trans (by kernel_rfl)
theorem QgI (lb n yI : Nat) (jj : LB) (ja : Bool) (jf : LL) (jg : Int) (jb : Bool) (je : LL) (jd : Bool) (jh : LL) (jc : Int) (jq : CV) (jp : Bool) (jn : LL) (jl : CV) (jo : Bool × LL) (js : CV) (wl : Int) (mb : Bool) (mc : LL) :
 QdV lb n (yI + 1) jj ja jf jg jb je jd jh jc jq jp jn jl jo js wl mb mc =
 bif (decide (wl < (je.length : Int))) then
 (optO (atL je wl) fun yi =>
 chkO (yi.length == 10) (
 optO (yi[0]?) fun wg =>
 optO (yi[1]?) fun wh =>
 optO (yi[2]?) fun wb =>
 optO (yi[3]?) fun wj =>
 optO (yi[4]?) fun jy =>
 optO (yi[5]?) fun jz =>
 optO (yi[6]?) fun w6 =>
 optO (yi[7]?) fun jC =>
 optO (yi[8]?) fun jB =>
 optO (yi[9]?) fun jA =>
 optO (C lb n Qbs [.agg [wg,wh,wb,wj,jy,jz,w6,jC,jB,jA]]) fun yS =>
 optO (CV.asL yS) fun y7 =>
 QdL lb n n yI jj ja jf jg jb je jd jh jc jq wl jp jn jl jo js yi wg wh wb wj jy jz w6 jC jB jA yS y7 0 mb mc))
 else
 (Qgz lb n jj ja jf jg jb je jd jh jc jq jp jn jl jo js mb mc) := (Qab _).trans (by kernel_rfl)
theorem Qmt (lb n : Nat) (jj : LB) (ja : Bool) (jf : LL) (jg : Int) (jb : Bool) (je : LL) (jd : Bool) (jh : LL) (jc : Int) (jq : CV) (jp : Bool) (jn : LL) (jl : CV) (jo : Bool × LL) (js : CV) (vc : Bool) (vp : LL) :
 QdM lb n jj ja jf jg jb je jd jh jc jq jp jn jl jo js vc vp =
 QdV lb n n jj ja jf jg jb je jd jh jc jq jp jn jl jo js 0 vc vp := (Qab _).trans (by kernel_rfl)
theorem Qmy (lb n : Nat) (jj : LB) (ja : Bool) (jf : LL) (jg : Int) (jb : Bool) (je : LL) (jd : Bool) (jh : LL) (jc : Int) (jp : Bool) (jn : LL) (jl : CV) (jo : Bool × LL) (yW : Bool) (vE : LL) :
 Qcq lb n jj ja jf jg jb je jd jh jc jp jn jl jo yW vE =
 optO (C lb n Qa2 [.list jb je]) fun js =>
 optO (C lb n QaT [js]) fun jq =>
 optO (CV.asI .i64 jq) fun ks =>
 bif (ks != 0) then
 (chkO (CV.isCell jq) (
 chkO (room (vE.length + 1) 24) (
 QdM lb n jj ja jf jg jb je jd jh jc jq jp jn jl jo js (yW && false) (vE ++ [[jq,CV.str [115,101,103,115]]]))))
 else
 (QdM lb n jj ja jf jg jb je jd jh jc jq jp jn jl jo js yW vE) := (Qab _).trans (by kernel_rfl)
theorem Qmm (lb n : Nat) (jj : LB) (ja : Bool) (jf : LL) (jg : Int) (jb : Bool) (je : LL) (jd : Bool) (jh : LL) (jc : Int) (jp : Bool) (jn : LL) :
 Qcr lb n jj ja jf jg jb je jd jh jc jp jn =
 optO (C lb n QaK [.list ja jf, .int .i64 jg]) fun jl =>
 optO (CV.asL jl) fun jo =>
 chkO (jo.2.all (·.length == 2)) (
 chkO (room (jn.length + jo.2.length) 24) (
 bif (decide ((je.length : Int) > 24)) then
 (chkO (room ((jn ++ jo.2).length + 1) 24) (
 Qcq lb n jj ja jf jg jb je jd jh jc jp jn jl jo ((jp && jo.2.isEmpty) && false) ((jn ++ jo.2) ++ [[CV.int .i64 4,CV.str [115,101,103,115]]])))
 else
 (Qcq lb n jj ja jf jg jb je jd jh jc jp jn jl jo (jp && jo.2.isEmpty) (jn ++ jo.2)))) := (Qab _).trans (by kernel_rfl)
theorem Qmp (lb n : Nat) (jj : LB) (ja : Bool) (jf : LL) (jg : Int) (jb : Bool) (je : LL) (jd : Bool) (jh : LL) (jc : Int) (yd : Bool) (yy : LL) :
 booking_Check_J1 lb n jj ja jf jg jb je jd jh jc yd yy =
 bif (decide (jc < 0)) then
 (chkO (room (yy.length + 1) 24) (
 Qcr lb n jj ja jf jg jb je jd jh jc (yd && false) (yy ++ [[CV.int .i64 13,CV.str [108,105,109,105,116]]])))
 else
 (bif (decide (jc ≥ 52596000)) then
 (chkO (room (yy.length + 1) 24) (
 Qcr lb n jj ja jf jg jb je jd jh jc (yd && false) (yy ++ [[CV.int .i64 13,CV.str [108,105,109,105,116]]])))
 else
 (Qcr lb n jj ja jf jg jb je jd jh jc yd yy)) := (Qab _).trans (by kernel_rfl)
theorem QoW (lb n : Nat) (jj : LB) (ja : Bool) (jf : LL) (jg : Int) (jb : Bool) (je : LL) (jd : Bool) (jh : LL) (jc : Int) :
 top lb n Qaa [.agg [.str jj, .list ja jf, .int .i64 jg, .list jb je, .list jd jh, .int .i64 jc]] =
 optO (C lb n QfV [.str jj]) fun jx =>
 optO (CV.asB jx) fun kc =>
 bif (!kc) then
 (booking_Check_J1 lb n jj ja jf jg jb je jd jh jc false [[CV.int .i64 5,CV.str [108,111,99,97,116,111,114]]])
 else
 (booking_Check_J1 lb n jj ja jf jg jb je jd jh jc true []) := by kernel_rfl
end Go.Proofs
