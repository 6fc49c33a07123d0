/- Equations of functions, printed by program. Conditions: none. -/
import Derived.Test.YtigmcfhmpcajlaaGreatDoorEv
namespace Go.Proofs
open Go.Am
set_option maxRecDepth 100000
set_option linter.unusedVariables false
noncomputable def booking_Check_J1 :=
 fun lb n jj (jb : Bool) (jd : LL) jg (ja : Bool) (jf : LL) (je : Bool) (jh : LL) jc (yL : Bool) (vc : LL) =>
 hold (E0 lb n 0 996 (sub (B Qab) [1,1,1,1]) (retK Tryz.prog (R Qab) 0 (outK (Qad Tryz.prog Qab))) ⟨fr 122 [(0, .val (.agg [.str jj, .list jb jd, .int .i64 jg, .list ja jf, .list je jh, .int .i64 jc])),(1, .ptr 0 1 0),(2, .lst true true 61 []),(3, .ptr 0 3 0),(4, .clo Qay [.ptr 0 3 0]),(13, .clo Qay [.ptr 0 3 0])],[bx 122 [(1,some [vS jj, .val (.list jb jd),vI jg, .val (.list ja jf), .val (.list je jh),vI jc]),(3,some [.lst true yL 61 vc])]],KK⟩)
noncomputable def Qb1 (lb n : Nat) (jj : LB) (jb : Bool) (jd : LL) (jg : Int) (ja : Bool) (jf : LL) (je : Bool) (jh : LL) (jc : Int) (ju : Bool) (js : LL) : Option CV :=
 hold (E0 lb n 0 995 (sub (B Qab) [1,1,1,1,1]) (retK Tryz.prog (R Qab) 0 (outK (Qad Tryz.prog Qab))) ⟨fr 122 [(0, .val (.agg [.str jj, .list jb jd, .int .i64 jg, .list ja jf, .list je jh, .int .i64 jc])),(1, .ptr 0 1 0),(2, .lst true true 61 []),(3, .ptr 0 3 0),(4, .clo Qay [.ptr 0 3 0]),(13, .clo Qay [.ptr 0 3 0])],[bx 122 [(1,some [vS jj, .val (.list jb jd),vI jg, .val (.list ja jf), .val (.list je jh),vI jc]),(3,some [.lst true ju 61 js])]],KK⟩)
noncomputable def Qb3 (lb n : Nat) (jj : LB) (jb : Bool) (jd : LL) (jg : Int) (ja : Bool) (jf : LL) (je : Bool) (jh : LL) (jc : Int) (ju : Bool) (js : LL) (jl : CV) (jt : Bool × LL) (ke : Bool) (kD : LL) : Option CV :=
 hold (E0 lb n 0 993 (sub (B Qab) [1,1,1,1,1,1,1]) (retK Tryz.prog (R Qab) 0 (outK (Qad Tryz.prog Qab))) ⟨fr 122 [(0, .val (.agg [.str jj, .list jb jd, .int .i64 jg, .list ja jf, .list je jh, .int .i64 jc])),(1, .ptr 0 1 0),(2, .lst true true 61 []),(3, .ptr 0 3 0),(4, .clo Qay [.ptr 0 3 0]),(13, .clo Qay [.ptr 0 3 0]),(30, .val (.list ju js)),(31, .ptr 0 1 1),(32, .val (.list jb jd)),(33, .ptr 0 1 2),(34,vI jg),(35,vV jl),(36, .val (.list (ju && jt.2.isEmpty) (js ++ jt.2)))],[bx 122 [(1,some [vS jj, .val (.list jb jd),vI jg, .val (.list ja jf), .val (.list je jh),vI jc]),(3,some [.lst true ke 61 kD])]],KK⟩)
noncomputable def Qdh (lb n : Nat) (jj : LB) (jb : Bool) (jd : LL) (jg : Int) (ja : Bool) (jf : LL) (je : Bool) (jh : LL) (jc : Int) (jx : CV) (ju : Bool) (js : LL) (jl : CV) (jt : Bool × LL) (jA : CV) (k8 : Bool) (oM : LL) : Option CV :=
 hold (E0 lb n 0 991 (sub (B Qab) [1,1,1,1,1,1,1,1,1]) (retK Tryz.prog (R Qab) 0 (outK (Qad Tryz.prog Qab))) ⟨fr 122 [(0, .val (.agg [.str jj, .list jb jd, .int .i64 jg, .list ja jf, .list je jh, .int .i64 jc])),(1, .ptr 0 1 0),(2, .lst true true 61 []),(3, .ptr 0 3 0),(4, .clo Qay [.ptr 0 3 0]),(5,vV jx),(13, .clo Qay [.ptr 0 3 0]),(30, .val (.list ju js)),(31, .ptr 0 1 1),(32, .val (.list jb jd)),(33, .ptr 0 1 2),(34,vI jg),(35,vV jl),(36, .val (.list (ju && jt.2.isEmpty) (js ++ jt.2))),(43, .ptr 0 1 3),(44, .val (.list ja jf)),(45,vV jA),(46,vV jx)],[bx 122 [(1,some [vS jj, .val (.list jb jd),vI jg, .val (.list ja jf), .val (.list je jh),vI jc]),(3,some [.lst true k8 61 oM])]],KK⟩)
noncomputable def Qc9 (lb n vn : Nat) (jj : LB) (jb : Bool) (jd : LL) (jg : Int) (ja : Bool) (jf : LL) (je : Bool) (jh : LL) (jc : Int) (jx : CV) (ju : Bool) (js : LL) (jl : CV) (jt : Bool × LL) (jA : CV) (yK : Int) (nF : Bool) (nd : LL) : Option CV :=
 hold (Qav (E0 lb n 0 987) 0 (Qag (sub (B Qab) [1,1,1,1,1,1,1,1,1,0,1,0,0]) ++ [6,9]) [7] (sub (B Qab) [1,1,1,1,1,1,1,1,1,0,1,0,0]) (Qak 0 (seqK (E0 lb n 0 990) (sub (B Qab) [1,1,1,1,1,1,1,1,1,0]) (sub (B Qab) [1,1,1,1,1,1,1,1,1,1]) (retK Tryz.prog (R Qab) 0 (outK (Qad Tryz.prog Qab))))) vn ⟨fr 122 [(0, .val (.agg [.str jj, .list jb jd, .int .i64 jg, .list ja jf, .list je jh, .int .i64 jc])),(1, .ptr 0 1 0),(2, .lst true true 61 []),(3, .ptr 0 3 0),(4, .clo Qay [.ptr 0 3 0]),(5,vV jx),(13, .clo Qay [.ptr 0 3 0]),(30, .val (.list ju js)),(31, .ptr 0 1 1),(32, .val (.list jb jd)),(33, .ptr 0 1 2),(34,vI jg),(35,vV jl),(36, .val (.list (ju && jt.2.isEmpty) (js ++ jt.2))),(43, .ptr 0 1 3),(44, .val (.list ja jf)),(45,vV jA),(46,vV jx),(52, .ptr 0 1 3),(53, .val (.list ja jf)),(54, .val (.int .i64 (jf.length : Int))),(55,vI yK)],[bx 122 [(1,some [vS jj, .val (.list jb jd),vI jg, .val (.list ja jf), .val (.list je jh),vI jc]),(3,some [.lst true nF 61 nd])]],KK⟩)
noncomputable def Qdi (lb n mV vn : Nat) (jj : LB) (jb : Bool) (jd : LL) (jg : Int) (ja : Bool) (jf : LL) (je : Bool) (jh : LL) (jc : Int) (jx : CV) (yK : Int) (ju : Bool) (js : LL) (jl : CV) (jt : Bool × LL) (jA : CV) (yM : List CV) (wA wv wl wp jC jH w5 jI jG jF vo : CV) (vO : Bool × LL) (oZ : Int) (gL : Bool) (o4 : LL) : Option CV :=
 hold (Qav (E0 lb n 0 979) 0 (Qag (sub (B Qab) [1,1,1,1,1,1,1,1,1,0,1,0,0,1,1,0,0,1,1,0,0]) ++ [9]) [] (sub (B Qab) [1,1,1,1,1,1,1,1,1,0,1,0,0,1,1,0,0,1,1,0,0]) (Qak 2 (Qak 1 (seqK (E0 lb n 0 984) (sub (B Qab) [1,1,1,1,1,1,1,1,1,0,1,0,0,1,1,0]) (sub (B Qab) [1,1,1,1,1,1,1,1,1,0,1,0,0,1,1,1]) (QbG 0 (Qag (sub (B Qab) [1,1,1,1,1,1,1,1,1,0,1,0,0]) ++ [6,9]) [7] (Qav (E0 lb n 0 987) 0 (Qag (sub (B Qab) [1,1,1,1,1,1,1,1,1,0,1,0,0]) ++ [6,9]) [7] (sub (B Qab) [1,1,1,1,1,1,1,1,1,0,1,0,0]) (Qak 0 (seqK (E0 lb n 0 990) (sub (B Qab) [1,1,1,1,1,1,1,1,1,0]) (sub (B Qab) [1,1,1,1,1,1,1,1,1,1]) (retK Tryz.prog (R Qab) 0 (outK (Qad Tryz.prog Qab))))) vn) (Qak 0 (seqK (E0 lb n 0 990) (sub (B Qab) [1,1,1,1,1,1,1,1,1,0]) (sub (B Qab) [1,1,1,1,1,1,1,1,1,1]) (retK Tryz.prog (R Qab) 0 (outK (Qad Tryz.prog Qab))))))))) mV ⟨fr 122 [(0, .val (.agg [.str jj, .list jb jd, .int .i64 jg, .list ja jf, .list je jh, .int .i64 jc])),(1, .ptr 0 1 0),(2, .lst true true 61 []),(3, .ptr 0 3 0),(4, .clo Qay [.ptr 0 3 0]),(5,vV jx),(6,vI yK),(7, .ptr 0 7 0),(13, .clo Qay [.ptr 0 3 0]),(30, .val (.list ju js)),(31, .ptr 0 1 1),(32, .val (.list jb jd)),(33, .ptr 0 1 2),(34,vI jg),(35,vV jl),(36, .val (.list (ju && jt.2.isEmpty) (js ++ jt.2))),(43, .ptr 0 1 3),(44, .val (.list ja jf)),(45,vV jA),(46,vV jx),(52, .ptr 0 1 3),(53, .val (.list ja jf)),(54, .val (.int .i64 (jf.length : Int))),(55,vI yK),(56, .val (.bool (decide (yK < (jf.length : Int))))),(57,vI yK),(58, .cptr yM 0),(59, .val (.agg [wA,wv,wl,wp,jC,jH,w5,jI,jG,jF])),(60, .val (.agg [wA,wv,wl,wp,jC,jH,w5,jI,jG,jF])),(61,vV vo),(62, .val (.int .i64 (vO.2.length : Int))),(63,vI oZ)],[bx 122 [(1,some [vS jj, .val (.list jb jd),vI jg, .val (.list ja jf), .val (.list je jh),vI jc]),(3,some [.lst true gL 61 o4]),(7,some [.val wA, .val wv, .val wl, .val wp, .val jC, .val jH, .val w5, .val jI, .val jG, .val jF])]],KK⟩)
noncomputable def QiR (lb n vn : Nat) (jj : LB) (jb : Bool) (jd : LL) (jg : Int) (ja : Bool) (jf : LL) (je : Bool) (jh : LL) (jc : Int) (jx : CV) (ju : Bool) (js : LL) (jl : CV) (jt : Bool × LL) (jA : CV) (yK i127 : Int) (mY : Bool) (mA : LL) (n4 pt nW pg n7 oH nN pE v138 v139 : CV) : Option CV :=
 hold (E0 lb n 0 984 (sub (B Qab) [1,1,1,1,1,1,1,1,1,0,1,0,0,1,1,1]) (QbG 0 (Qag (sub (B Qab) [1,1,1,1,1,1,1,1,1,0,1,0,0]) ++ [6,9]) [7] (Qav (E0 lb n 0 987) 0 (Qag (sub (B Qab) [1,1,1,1,1,1,1,1,1,0,1,0,0]) ++ [6,9]) [7] (sub (B Qab) [1,1,1,1,1,1,1,1,1,0,1,0,0]) (Qak 0 (seqK (E0 lb n 0 990) (sub (B Qab) [1,1,1,1,1,1,1,1,1,0]) (sub (B Qab) [1,1,1,1,1,1,1,1,1,1]) (retK Tryz.prog (R Qab) 0 (outK (Qad Tryz.prog Qab))))) vn) (Qak 0 (seqK (E0 lb n 0 990) (sub (B Qab) [1,1,1,1,1,1,1,1,1,0]) (sub (B Qab) [1,1,1,1,1,1,1,1,1,1]) (retK Tryz.prog (R Qab) 0 (outK (Qad Tryz.prog Qab)))))) ⟨fr 122 [(0, .val (.agg [.str jj, .list jb jd, .int .i64 jg, .list ja jf, .list je jh, .int .i64 jc])),(1, .ptr 0 1 0),(2, .lst true true 61 []),(3, .ptr 0 3 0),(4, .clo Qay [.ptr 0 3 0]),(5,vV jx),(6,vI i127),(13, .clo Qay [.ptr 0 3 0]),(30, .val (.list ju js)),(31, .ptr 0 1 1),(32, .val (.list jb jd)),(33, .ptr 0 1 2),(34,vI jg),(35,vV jl),(36, .val (.list (ju && jt.2.isEmpty) (js ++ jt.2))),(43, .ptr 0 1 3),(44, .val (.list ja jf)),(45,vV jA),(46,vV jx),(52, .ptr 0 1 3),(53, .val (.list ja jf)),(54, .val (.int .i64 (jf.length : Int))),(55,vI yK),(56, .val (.bool (decide (yK < (jf.length : Int)))))],[bx 122 [(1,some [vS jj, .val (.list jb jd),vI jg, .val (.list ja jf), .val (.list je jh),vI jc]),(3,some [.lst true mY 61 mA]),(7,some [.val n4, .val pt, .val nW, .val pg, .val n7, .val oH, .val nN, .val pE, .val v138, .val v139])]],KK⟩)
theorem QlJ (lb n vn : Nat) (jj : LB) (jb : Bool) (jd : LL) (jg : Int) (ja : Bool) (jf : LL) (je : Bool) (jh : LL) (jc : Int) (jx : CV) (ju : Bool) (js : LL) (jl : CV) (jt : Bool × LL) (jA : CV) (yK i127 : Int) (mY : Bool) (mA : LL) (n4 pt nW pg n7 oH nN pE v138 v139 : CV) :
 QiR lb n vn jj jb jd jg ja jf je jh jc jx ju js jl jt jA yK i127 mY mA n4 pt nW pg n7 oH nN pE v138 v139 =
 Qc9 lb n vn jj jb jd jg ja jf je jh jc jx ju js jl jt jA (IntKind.wrap .i64 (yK + 1)) mY mA := (Qac _).trans (by kernel_rfl)
theorem QfY (lb n mV vn : Nat) (jj : LB) (jb : Bool) (jd : LL) (jg : Int) (ja : Bool) (jf : LL) (je : Bool) (jh : LL) (jc : Int) (jx : CV) (yK : Int) (ju : Bool) (js : LL) (jl : CV) (jt : Bool × LL) (jA : CV) (yM : List CV) (wA wv wl wp jC jH w5 jI jG jF vo : CV) (vO : Bool × LL) (oZ : Int) (gL : Bool) (o4 : LL) :
 Qdi lb n (mV + 1) vn jj jb jd jg ja jf je jh jc jx yK ju js jl jt jA yM wA wv wl wp jC jH w5 jI jG jF vo vO oZ gL o4 =
 bif (decide (oZ < (vO.2.length : Int))) then
 (optO (CV.asL vo) fun rA =>
 optO (atL rA.2 oZ) fun sy =>
 chkO (sy.length == 1) (
 optO (sy[0]?) fun qU =>
 optO (C lb n Qc1 [.int .i64 yK]) fun rG =>
 optO (CV.asS rG) fun qv =>
 chkO (decide (([115,101,103,32] : LB).length + qv.length ≤ 9223372036854775807)) (
 chkO (CV.isCell qU) (
 chkO (room (o4.length + 1) 24) (
 Qdi lb n mV vn jj jb jd jg ja jf je jh jc jx yK ju js jl jt jA yM wA wv wl wp jC jH w5 jI jG jF vo vO (IntKind.wrap .i64 (oZ + 1)) (gL && false) (o4 ++ [[qU,CV.str (([115,101,103,32] : LB) ++ qv)]]))))))
 else
 (QiR lb n vn jj jb jd jg ja jf je jh jc jx ju js jl jt jA yK yK gL o4 wA wv wl wp jC jH w5 jI jG jF) := (Qac _).trans (by kernel_rfl)
noncomputable def QfF (lb n : Nat) (jj : LB) (jb : Bool) (jd : LL) (jg : Int) (ja : Bool) (jf : LL) (je : Bool) (jh : LL) (jc : Int) (jx : CV) (ju : Bool) (js : LL) (jl : CV) (jt : Bool × LL) (jA : CV) (m9 : Bool) (mH : LL) : Option CV :=
 hold (E0 lb n 0 990 (sub (B Qab) [1,1,1,1,1,1,1,1,1,1]) (retK Tryz.prog (R Qab) 0 (outK (Qad Tryz.prog Qab))) ⟨fr 122 [(0, .val (.agg [.str jj, .list jb jd, .int .i64 jg, .list ja jf, .list je jh, .int .i64 jc])),(1, .ptr 0 1 0),(2, .lst true true 61 []),(3, .ptr 0 3 0),(4, .clo Qay [.ptr 0 3 0]),(5,vV jx),(13, .clo Qay [.ptr 0 3 0]),(30, .val (.list ju js)),(31, .ptr 0 1 1),(32, .val (.list jb jd)),(33, .ptr 0 1 2),(34,vI jg),(35,vV jl),(36, .val (.list (ju && jt.2.isEmpty) (js ++ jt.2))),(43, .ptr 0 1 3),(44, .val (.list ja jf)),(45,vV jA),(46,vV jx)],[bx 122 [(1,some [vS jj, .val (.list jb jd),vI jg, .val (.list ja jf), .val (.list je jh),vI jc]),(3,some [.lst true m9 61 mH])]],KK⟩)
noncomputable def Qa2 (lb n y9 : Nat) (jj : LB) (jb : Bool) (jd : LL) (jg : Int) (ja : Bool) (jf : LL) (je : Bool) (jh : LL) (jc : Int) (jx : CV) (ju : Bool) (js : LL) (jl : CV) (jt : Bool × LL) (jA : CV) (wn : Int) (oX : Bool) (oD : LL) : Option CV :=
 hold (Qav (E0 lb n 0 986) 0 (Qag (sub (B Qab) [1,1,1,1,1,1,1,1,1,1,0,1,0,0]) ++ [10,12]) [11] (sub (B Qab) [1,1,1,1,1,1,1,1,1,1,0,1,0,0]) (Qak 4 (seqK (E0 lb n 0 989) (sub (B Qab) [1,1,1,1,1,1,1,1,1,1,0]) (sub (B Qab) [1,1,1,1,1,1,1,1,1,1,1]) (retK Tryz.prog (R Qab) 0 (outK (Qad Tryz.prog Qab))))) y9 ⟨fr 122 [(0, .val (.agg [.str jj, .list jb jd, .int .i64 jg, .list ja jf, .list je jh, .int .i64 jc])),(1, .ptr 0 1 0),(2, .lst true true 61 []),(3, .ptr 0 3 0),(4, .clo Qay [.ptr 0 3 0]),(5,vV jx),(13, .clo Qay [.ptr 0 3 0]),(30, .val (.list ju js)),(31, .ptr 0 1 1),(32, .val (.list jb jd)),(33, .ptr 0 1 2),(34,vI jg),(35,vV jl),(36, .val (.list (ju && jt.2.isEmpty) (js ++ jt.2))),(43, .ptr 0 1 3),(44, .val (.list ja jf)),(45,vV jA),(46,vV jx),(75, .ptr 0 1 4),(76, .val (.list je jh)),(77, .val (.int .i64 (jh.length : Int))),(78,vI wn)],[bx 122 [(1,some [vS jj, .val (.list jb jd),vI jg, .val (.list ja jf), .val (.list je jh),vI jc]),(3,some [.lst true oX 61 oD])]],KK⟩)
noncomputable def QcQ (lb n y9 : Nat) (jj : LB) (jb : Bool) (jd : LL) (jg : Int) (ja : Bool) (jf : LL) (je : Bool) (jh : LL) (jc : Int) (jx : CV) (wn : Int) (va : LB) (ju : Bool) (js : LL) (jl : CV) (jt : Bool × LL) (jA : CV) (vM : List CV) (yE v6 vQ kc : CV) (k9 : Bool) (vJ : LL) : Option CV :=
 hold (E0 lb n 0 979 (sub (B Qab) [1,1,1,1,1,1,1,1,1,1,0,1,0,0,1,1,0,0,1,1,1]) (Qak 5 (seqK (E0 lb n 0 983) (sub (B Qab) [1,1,1,1,1,1,1,1,1,1,0,1,0,0,1,1,0]) (sub (B Qab) [1,1,1,1,1,1,1,1,1,1,0,1,0,0,1,1,1]) (QbG 0 (Qag (sub (B Qab) [1,1,1,1,1,1,1,1,1,1,0,1,0,0]) ++ [10,12]) [11] (Qav (E0 lb n 0 986) 0 (Qag (sub (B Qab) [1,1,1,1,1,1,1,1,1,1,0,1,0,0]) ++ [10,12]) [11] (sub (B Qab) [1,1,1,1,1,1,1,1,1,1,0,1,0,0]) (Qak 4 (seqK (E0 lb n 0 989) (sub (B Qab) [1,1,1,1,1,1,1,1,1,1,0]) (sub (B Qab) [1,1,1,1,1,1,1,1,1,1,1]) (retK Tryz.prog (R Qab) 0 (outK (Qad Tryz.prog Qab))))) y9) (Qak 4 (seqK (E0 lb n 0 989) (sub (B Qab) [1,1,1,1,1,1,1,1,1,1,0]) (sub (B Qab) [1,1,1,1,1,1,1,1,1,1,1]) (retK Tryz.prog (R Qab) 0 (outK (Qad Tryz.prog Qab)))))))) ⟨fr 122 [(0, .val (.agg [.str jj, .list jb jd, .int .i64 jg, .list ja jf, .list je jh, .int .i64 jc])),(1, .ptr 0 1 0),(2, .lst true true 61 []),(3, .ptr 0 3 0),(4, .clo Qay [.ptr 0 3 0]),(5,vV jx),(10,vI wn),(11, .ptr 0 11 0),(12, .val (.str (([115,101,114,118,105,99,101,32] : LB) ++ va))),(13, .clo Qay [.ptr 0 3 0]),(30, .val (.list ju js)),(31, .ptr 0 1 1),(32, .val (.list jb jd)),(33, .ptr 0 1 2),(34,vI jg),(35,vV jl),(36, .val (.list (ju && jt.2.isEmpty) (js ++ jt.2))),(43, .ptr 0 1 3),(44, .val (.list ja jf)),(45,vV jA),(46,vV jx),(75, .ptr 0 1 4),(76, .val (.list je jh)),(77, .val (.int .i64 (jh.length : Int))),(78,vI wn),(79, .val (.bool (decide (wn < (jh.length : Int))))),(80,vI wn),(81, .cptr vM 0),(82, .val (.agg [yE,v6,vQ])),(83,vI wn),(84,vV kc),(85, .val (.str (([115,101,114,118,105,99,101,32] : LB) ++ va)))],[bx 122 [(1,some [vS jj, .val (.list jb jd),vI jg, .val (.list ja jf), .val (.list je jh),vI jc]),(3,some [.lst true k9 61 vJ]),(11,some [.val yE, .val v6, .val vQ])]],KK⟩)
theorem QkK (lb n y9 : Nat) (jj : LB) (jb : Bool) (jd : LL) (jg : Int) (ja : Bool) (jf : LL) (je : Bool) (jh : LL) (jc : Int) (jx : CV) (wn : Int) (va : LB) (ju : Bool) (js : LL) (jl : CV) (jt : Bool × LL) (jA : CV) (vM : List CV) (yE v6 vQ kc : CV) (k9 : Bool) (vJ : LL) :
 QcQ lb n y9 jj jb jd jg ja jf je jh jc jx wn va ju js jl jt jA vM yE v6 vQ kc k9 vJ =
 optO (CV.asI .i64 v6) fun n9 =>
 bif (decide (n9 < 0)) then
 (chkO (room (vJ.length + 1) 24) (
 Qa2 lb n y9 jj jb jd jg ja jf je jh jc jx ju js jl jt jA (IntKind.wrap .i64 (wn + 1)) (k9 && false) (vJ ++ [[CV.int .i64 7,CV.str (([115,101,114,118,105,99,101,32] : LB) ++ va)]])))
 else
 (optO (CV.asI .i64 v6) fun pc =>
 bif (decide (pc ≥ (jd.length : Int))) then
 (chkO (room (vJ.length + 1) 24) (
 Qa2 lb n y9 jj jb jd jg ja jf je jh jc jx ju js jl jt jA (IntKind.wrap .i64 (wn + 1)) (k9 && false) (vJ ++ [[CV.int .i64 7,CV.str (([115,101,114,118,105,99,101,32] : LB) ++ va)]])))
 else
 (optO (CV.asI .i64 vQ) fun tR =>
 bif (decide (tR < 0)) then
 (chkO (room (vJ.length + 1) 24) (
 Qa2 lb n y9 jj jb jd jg ja jf je jh jc jx ju js jl jt jA (IntKind.wrap .i64 (wn + 1)) (k9 && false) (vJ ++ [[CV.int .i64 7,CV.str (([115,101,114,118,105,99,101,32] : LB) ++ va)]])))
 else
 (optO (CV.asI .i64 vQ) fun gw =>
 bif (decide (gw ≥ (jf.length : Int))) then
 (chkO (room (vJ.length + 1) 24) (
 Qa2 lb n y9 jj jb jd jg ja jf je jh jc jx ju js jl jt jA (IntKind.wrap .i64 (wn + 1)) (k9 && false) (vJ ++ [[CV.int .i64 7,CV.str (([115,101,114,118,105,99,101,32] : LB) ++ va)]])))
 else
 (Qa2 lb n y9 jj jb jd jg ja jf je jh jc jx ju js jl jt jA (IntKind.wrap .i64 (wn + 1)) k9 vJ)))) := (Qac _).trans (by kernel_rfl)
noncomputable def Qh1 (lb n : Nat) (jj : LB) (jb : Bool) (jd : LL) (jg : Int) (ja : Bool) (jf : LL) (je : Bool) (jh : LL) (jc : Int) (jx : CV) (ju : Bool) (js : LL) (jl : CV) (jt : Bool × LL) (jA : CV) (na : Bool) (m7 : LL) : Option CV :=
 hold (E0 lb n 0 989 (sub (B Qab) [1,1,1,1,1,1,1,1,1,1,1]) (retK Tryz.prog (R Qab) 0 (outK (Qad Tryz.prog Qab))) ⟨fr 122 [(0, .val (.agg [.str jj, .list jb jd, .int .i64 jg, .list ja jf, .list je jh, .int .i64 jc])),(1, .ptr 0 1 0),(2, .lst true true 61 []),(3, .ptr 0 3 0),(4, .clo Qay [.ptr 0 3 0]),(5,vV jx),(13, .clo Qay [.ptr 0 3 0]),(30, .val (.list ju js)),(31, .ptr 0 1 1),(32, .val (.list jb jd)),(33, .ptr 0 1 2),(34,vI jg),(35,vV jl),(36, .val (.list (ju && jt.2.isEmpty) (js ++ jt.2))),(43, .ptr 0 1 3),(44, .val (.list ja jf)),(45,vV jA),(46,vV jx)],[bx 122 [(1,some [vS jj, .val (.list jb jd),vI jg, .val (.list ja jf), .val (.list je jh),vI jc]),(3,some [.lst true na 61 m7])]],KK⟩)
theorem Qld (lb n : Nat) (jj : LB) (jb : Bool) (jd : LL) (jg : Int) (ja : Bool) (jf : LL) (je : Bool) (jh : LL) (jc : Int) (jx : CV) (ju : Bool) (js : LL) (jl : CV) (jt : Bool × LL) (jA : CV) (na : Bool) (m7 : LL) :
 Qh1 lb n jj jb jd jg ja jf je jh jc jx ju js jl jt jA na m7 =
 some (.list na m7) := (Qac _).trans (by kernel_rfl)
theorem QfV (lb n y9 : Nat) (jj : LB) (jb : Bool) (jd : LL) (jg : Int) (ja : Bool) (jf : LL) (je : Bool) (jh : LL) (jc : Int) (jx : CV) (ju : Bool) (js : LL) (jl : CV) (jt : Bool × LL) (jA : CV) (wn : Int) (oX : Bool) (oD : LL) :
 Qa2 lb n (y9 + 1) jj jb jd jg ja jf je jh jc jx ju js jl jt jA wn oX oD =
 bif (decide (wn < (jh.length : Int))) then
 (optO (atL jh wn) fun vM =>
 chkO (vM.length == 3) (
 optO (vM[0]?) fun yE =>
 optO (vM[1]?) fun v6 =>
 optO (vM[2]?) fun vQ =>
 optO (C lb n Qc1 [.int .i64 wn]) fun kc =>
 optO (CV.asS kc) fun va =>
 chkO (decide (([115,101,114,118,105,99,101,32] : LB).length + va.length ≤ 9223372036854775807)) (
 optO (C lb n Qed [yE, .int .i64 4, .int .i64 4]) fun zJ =>
 optO (CV.asB zJ) fun lJ =>
 bif (!lJ) then
 (chkO (room (oD.length + 1) 24) (
 QcQ lb n y9 jj jb jd jg ja jf je jh jc jx wn va ju js jl jt jA vM yE v6 vQ kc (oX && false) (oD ++ [[CV.int .i64 5,CV.str (([115,101,114,118,105,99,101,32] : LB) ++ va)]])))
 else
 (QcQ lb n y9 jj jb jd jg ja jf je jh jc jx wn va ju js jl jt jA vM yE v6 vQ kc oX oD))))
 else
 (Qh1 lb n jj jb jd jg ja jf je jh jc jx ju js jl jt jA oX oD) := (Qac _).trans (by kernel_rfl)
theorem QlE (lb n : Nat) (jj : LB) (jb : Bool) (jd : LL) (jg : Int) (ja : Bool) (jf : LL) (je : Bool) (jh : LL) (jc : Int) (jx : CV) (ju : Bool) (js : LL) (jl : CV) (jt : Bool × LL) (jA : CV) (m9 : Bool) (mH : LL) :
 QfF lb n jj jb jd jg ja jf je jh jc jx ju js jl jt jA m9 mH =
 Qa2 lb n n jj jb jd jg ja jf je jh jc jx ju js jl jt jA 0 m9 mH := (Qac _).trans (by kernel_rfl)
theorem QfX (lb n vn : Nat) (jj : LB) (jb : Bool) (jd : LL) (jg : Int) (ja : Bool) (jf : LL) (je : Bool) (jh : LL) (jc : Int) (jx : CV) (ju : Bool) (js : LL) (jl : CV) (jt : Bool × LL) (jA : CV) (yK : Int) (nF : Bool) (nd : LL) :
 Qc9 lb n (vn + 1) jj jb jd jg ja jf je jh jc jx ju js jl jt jA yK nF nd =
 bif (decide (yK < (jf.length : Int))) then
 (optO (atL jf yK) fun yM =>
 chkO (yM.length == 10) (
 optO (yM[0]?) fun wA =>
 optO (yM[1]?) fun wv =>
 optO (yM[2]?) fun wl =>
 optO (yM[3]?) fun wp =>
 optO (yM[4]?) fun jC =>
 optO (yM[5]?) fun jH =>
 optO (yM[6]?) fun w5 =>
 optO (yM[7]?) fun jI =>
 optO (yM[8]?) fun jG =>
 optO (yM[9]?) fun jF =>
 optO (C lb n Qbe [.agg [wA,wv,wl,wp,jC,jH,w5,jI,jG,jF]]) fun vo =>
 optO (CV.asL vo) fun vO =>
 Qdi lb n n vn jj jb jd jg ja jf je jh jc jx yK ju js jl jt jA yM wA wv wl wp jC jH w5 jI jG jF vo vO 0 nF nd))
 else
 (QfF lb n jj jb jd jg ja jf je jh jc jx ju js jl jt jA nF nd) := (Qac _).trans (by kernel_rfl)
theorem QlB (lb n : Nat) (jj : LB) (jb : Bool) (jd : LL) (jg : Int) (ja : Bool) (jf : LL) (je : Bool) (jh : LL) (jc : Int) (jx : CV) (ju : Bool) (js : LL) (jl : CV) (jt : Bool × LL) (jA : CV) (k8 : Bool) (oM : LL) :
 Qdh lb n jj jb jd jg ja jf je jh jc jx ju js jl jt jA k8 oM =
 Qc9 lb n n jj jb jd jg ja jf je jh jc jx ju js jl jt jA 0 k8 oM := (Qac _).trans (by kernel_rfl)
theorem QlH (lb n : Nat) (jj : LB) (jb : Bool) (jd : LL) (jg : Int) (ja : Bool) (jf : LL) (je : Bool) (jh : LL) (jc : Int) (ju : Bool) (js : LL) (jl : CV) (jt : Bool × LL) (ke : Bool) (kD : LL) :
 Qb3 lb n jj jb jd jg ja jf je jh jc ju js jl jt ke kD =
 optO (C lb n QaP [.list ja jf]) fun jA =>
 optO (C lb n QaM [jA]) fun jx =>
 optO (CV.asI .i64 jx) fun kS =>
 bif (kS != 0) then
 (chkO (CV.isCell jx) (
 chkO (room (kD.length + 1) 24) (
 Qdh lb n jj jb jd jg ja jf je jh jc jx ju js jl jt jA (ke && false) (kD ++ [[jx,CV.str [115,101,103,115]]]))))
 else
 (Qdh lb n jj jb jd jg ja jf je jh jc jx ju js jl jt jA ke kD) := (Qac _).trans (by kernel_rfl)
theorem QlA (lb n : Nat) (jj : LB) (jb : Bool) (jd : LL) (jg : Int) (ja : Bool) (jf : LL) (je : Bool) (jh : LL) (jc : Int) (ju : Bool) (js : LL) :
 Qb1 lb n jj jb jd jg ja jf je jh jc ju js =
 optO (C lb n QaK [.list jb jd, .int .i64 jg]) fun jl =>
 optO (CV.asL jl) fun jt =>
 chkO (jt.2.all (·.length == 2)) (
 chkO (room (js.length + jt.2.length) 24) (
 bif (decide ((jf.length : Int) > 24)) then
 (chkO (room ((js ++ jt.2).length + 1) 24) (
 Qb3 lb n jj jb jd jg ja jf je jh jc ju js jl jt ((ju && jt.2.isEmpty) && false) ((js ++ jt.2) ++ [[CV.int .i64 4,CV.str [115,101,103,115]]])))
 else
 (Qb3 lb n jj jb jd jg ja jf je jh jc ju js jl jt (ju && jt.2.isEmpty) (js ++ jt.2)))) := (Qac _).trans (by kernel_rfl)
theorem QlF (lb n : Nat) (jj : LB) (jb : Bool) (jd : LL) (jg : Int) (ja : Bool) (jf : LL) (je : Bool) (jh : LL) (jc : Int) (yL : Bool) (vc : LL) :
 booking_Check_J1 lb n jj jb jd jg ja jf je jh jc yL vc =
 bif (decide (jc < 0)) then
 (chkO (room (vc.length + 1) 24) (
 Qb1 lb n jj jb jd jg ja jf je jh jc (yL && false) (vc ++ [[CV.int .i64 13,CV.str [108,105,109,105,116]]])))
 else
 (bif (decide (jc ≥ 52596000)) then
 (chkO (room (vc.length + 1) 24) (
 Qb1 lb n jj jb jd jg ja jf je jh jc (yL && false) (vc ++ [[CV.int .i64 13,CV.str [108,105,109,105,116]]])))
 else
 (Qb1 lb n jj jb jd jg ja jf je jh jc yL vc)) := (Qac _).trans (by kernel_rfl)
theorem QnY (lb n : Nat) (jj : LB) (jb : Bool) (jd : LL) (jg : Int) (ja : Bool) (jf : LL) (je : Bool) (jh : LL) (jc : Int) :
 top lb n Qab [.agg [.str jj, .list jb jd, .int .i64 jg, .list ja jf, .list je jh, .int .i64 jc]] =
 optO (C lb n QcR [.str jj]) fun gh =>
 optO (CV.asB gh) fun jv =>
 bif (!jv) then
 (booking_Check_J1 lb n jj jb jd jg ja jf je jh jc false [[CV.int .i64 5,CV.str [108,111,99,97,116,111,114]]])
 else
 (booking_Check_J1 lb n jj jb jd jg ja jf je jh jc true []) := by kernel_rfl
end Go.Proofs
