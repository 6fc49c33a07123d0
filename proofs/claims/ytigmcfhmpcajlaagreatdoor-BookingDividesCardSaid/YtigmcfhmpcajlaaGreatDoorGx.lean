/- Equations of functions, printed by program. Conditions: none. -/
import Derived.Test.YtigmcfhmpcajlaaGreatDoorEv
namespace Go.Proofs
open Go.Am
set_option maxRecDepth 100000
set_option linter.unusedVariables false
noncomputable def r35_Check_J1 :=
 fun lb n jj (jb : Bool) (jd : LL) jg (ja : Bool) (jf : LL) (je : Bool) (jh : LL) jc (yL : Bool) (vc : LL) =>
 hold (E0 lb n 0 997 (sub (B Qah) [1,1,1]) (retK Tryz.prog (R Qah) 0 (outK (Qad Tryz.prog Qah))) ⟨fr 140 [(0, .val (.agg [.str jj, .list jb jd, .int .i64 jg, .list ja jf, .list je jh, .int .i64 jc])),(1, .ptr 0 1 0),(2, .lst true true 61 []),(3, .lst true yL 61 vc)],[bx 140 [(1,some [vS jj, .val (.list jb jd),vI jg, .val (.list ja jf), .val (.list je jh),vI jc])]],KK⟩)
noncomputable def Qdg (lb n : Nat) (jj : LB) (jb : Bool) (jd : LL) (jg : Int) (ja : Bool) (jf : LL) (je : Bool) (jh : LL) (jc : Int) (ju : Bool) (js : LL) : Option CV :=
 hold (E0 lb n 0 996 (sub (B Qah) [1,1,1,1]) (retK Tryz.prog (R Qah) 0 (outK (Qad Tryz.prog Qah))) ⟨fr 140 [(0, .val (.agg [.str jj, .list jb jd, .int .i64 jg, .list ja jf, .list je jh, .int .i64 jc])),(1, .ptr 0 1 0),(2, .lst true true 61 []),(3, .lst true ju 61 js)],[bx 140 [(1,some [vS jj, .val (.list jb jd),vI jg, .val (.list ja jf), .val (.list je jh),vI jc])]],KK⟩)
noncomputable def Qdd (lb n : Nat) (jj : LB) (jb : Bool) (jd : LL) (jg : Int) (ja : Bool) (jf : LL) (je : Bool) (jh : LL) (jc : Int) (ju : Bool) (js : LL) (jl : CV) (jt : Bool × LL) (ke : Bool) (kD : LL) : Option CV :=
 hold (E0 lb n 0 994 (sub (B Qah) [1,1,1,1,1,1]) (retK Tryz.prog (R Qah) 0 (outK (Qad Tryz.prog Qah))) ⟨fr 140 [(0, .val (.agg [.str jj, .list jb jd, .int .i64 jg, .list ja jf, .list je jh, .int .i64 jc])),(1, .ptr 0 1 0),(2, .lst true true 61 []),(3, .lst true ke 61 kD),(31, .val (.list ju js)),(32, .ptr 0 1 1),(33, .val (.list jb jd)),(34, .ptr 0 1 2),(35,vI jg),(36,vV jl),(37, .val (.list (ju && jt.2.isEmpty) (js ++ jt.2)))],[bx 140 [(1,some [vS jj, .val (.list jb jd),vI jg, .val (.list ja jf), .val (.list je jh),vI jc])]],KK⟩)
noncomputable def QeG (lb n : Nat) (jj : LB) (jb : Bool) (jd : LL) (jg : Int) (ja : Bool) (jf : LL) (je : Bool) (jh : LL) (jc : Int) (jx : CV) (ju : Bool) (js : LL) (jl : CV) (jt : Bool × LL) (jA : CV) (k8 : Bool) (oM : LL) : Option CV :=
 hold (E0 lb n 0 992 (sub (B Qah) [1,1,1,1,1,1,1,1]) (retK Tryz.prog (R Qah) 0 (outK (Qad Tryz.prog Qah))) ⟨fr 140 [(0, .val (.agg [.str jj, .list jb jd, .int .i64 jg, .list ja jf, .list je jh, .int .i64 jc])),(1, .ptr 0 1 0),(2, .lst true true 61 []),(3, .lst true k8 61 oM),(4,vV jx),(31, .val (.list ju js)),(32, .ptr 0 1 1),(33, .val (.list jb jd)),(34, .ptr 0 1 2),(35,vI jg),(36,vV jl),(37, .val (.list (ju && jt.2.isEmpty) (js ++ jt.2))),(46, .val (.agg [.str jj, .list jb jd, .int .i64 jg, .list ja jf, .list je jh, .int .i64 jc])),(47,vV jA),(48,vV jx)],[bx 140 [(1,some [vS jj, .val (.list jb jd),vI jg, .val (.list ja jf), .val (.list je jh),vI jc])]],KK⟩)
noncomputable def QeH (lb n vl : Nat) (jj : LB) (jb : Bool) (jd : LL) (jg : Int) (ja : Bool) (jf : LL) (je : Bool) (jh : LL) (jc : Int) (jx : CV) (ju : Bool) (js : LL) (jl : CV) (jt : Bool × LL) (jA : CV) (vg : Bool) (ng : LL) (yW : Int) : Option CV :=
 hold (Qav (E0 lb n 0 988) 0 (Qag (sub (B Qah) [1,1,1,1,1,1,1,1,0,1,0,0]) ++ [6,7,7]) [] (sub (B Qah) [1,1,1,1,1,1,1,1,0,1,0,0]) (Qak 0 (seqK (E0 lb n 0 991) (sub (B Qah) [1,1,1,1,1,1,1,1,0]) (sub (B Qah) [1,1,1,1,1,1,1,1,1]) (retK Tryz.prog (R Qah) 0 (outK (Qad Tryz.prog Qah))))) vl ⟨fr 140 [(0, .val (.agg [.str jj, .list jb jd, .int .i64 jg, .list ja jf, .list je jh, .int .i64 jc])),(1, .ptr 0 1 0),(2, .lst true true 61 []),(3, .lst true vg 61 ng),(4,vV jx),(5,vI yW),(31, .val (.list ju js)),(32, .ptr 0 1 1),(33, .val (.list jb jd)),(34, .ptr 0 1 2),(35,vI jg),(36,vV jl),(37, .val (.list (ju && jt.2.isEmpty) (js ++ jt.2))),(46, .val (.agg [.str jj, .list jb jd, .int .i64 jg, .list ja jf, .list je jh, .int .i64 jc])),(47,vV jA),(48,vV jx)],[bx 140 [(1,some [vS jj, .val (.list jb jd),vI jg, .val (.list ja jf), .val (.list je jh),vI jc])]],KK⟩)
noncomputable def QeL (lb n mN vl : Nat) (jj : LB) (jb : Bool) (jd : LL) (jg : Int) (ja : Bool) (jf : LL) (je : Bool) (jh : LL) (jc : Int) (jx : CV) (yW : Int) (y1 : CV) (ju : Bool) (js : LL) (jl : CV) (jt : Bool × LL) (jA : CV) (y3 : List CV) (jC jH w5 jI jG jF jW j6 j5 vX : CV) (gR : Bool) (o5 : LL) (ki : Int) : Option CV :=
 hold (Qav (E0 lb n 0 981) 0 (Qag (sub (B Qah) [1,1,1,1,1,1,1,1,0,1,0,0,1,0,0,1,1,0,0]) ++ []) [] (sub (B Qah) [1,1,1,1,1,1,1,1,0,1,0,0,1,0,0,1,1,0,0]) (Qak 2 (Qak 1 (seqK (E0 lb n 0 986) (sub (B Qah) [1,1,1,1,1,1,1,1,0,1,0,0,1,0]) (sub (B Qah) [1,1,1,1,1,1,1,1,0,1,0,0,1,1]) (QbG 0 (Qag (sub (B Qah) [1,1,1,1,1,1,1,1,0,1,0,0]) ++ [6,7,7]) [] (Qav (E0 lb n 0 988) 0 (Qag (sub (B Qah) [1,1,1,1,1,1,1,1,0,1,0,0]) ++ [6,7,7]) [] (sub (B Qah) [1,1,1,1,1,1,1,1,0,1,0,0]) (Qak 0 (seqK (E0 lb n 0 991) (sub (B Qah) [1,1,1,1,1,1,1,1,0]) (sub (B Qah) [1,1,1,1,1,1,1,1,1]) (retK Tryz.prog (R Qah) 0 (outK (Qad Tryz.prog Qah))))) vl) (Qak 0 (seqK (E0 lb n 0 991) (sub (B Qah) [1,1,1,1,1,1,1,1,0]) (sub (B Qah) [1,1,1,1,1,1,1,1,1]) (retK Tryz.prog (R Qah) 0 (outK (Qad Tryz.prog Qah))))))))) mN ⟨fr 140 [(0, .val (.agg [.str jj, .list jb jd, .int .i64 jg, .list ja jf, .list je jh, .int .i64 jc])),(1, .ptr 0 1 0),(2, .lst true true 61 []),(3, .lst true gR 61 o5),(4,vV jx),(5,vI yW),(6,vV y1),(7,vI ki),(31, .val (.list ju js)),(32, .ptr 0 1 1),(33, .val (.list jb jd)),(34, .ptr 0 1 2),(35,vI jg),(36,vV jl),(37, .val (.list (ju && jt.2.isEmpty) (js ++ jt.2))),(46, .val (.agg [.str jj, .list jb jd, .int .i64 jg, .list ja jf, .list je jh, .int .i64 jc])),(47,vV jA),(48,vV jx),(63, .ptr 0 1 3),(64, .val (.list ja jf)),(65,vI yW),(66, .cptr y3 0),(67, .val (.agg [jC,jH,w5,jI,jG,jF,jW,j6,j5,vX])),(68,vV y1)],[bx 140 [(1,some [vS jj, .val (.list jb jd),vI jg, .val (.list ja jf), .val (.list je jh),vI jc])]],KK⟩)
noncomputable def QlW (lb n vl : Nat) (jj : LB) (jb : Bool) (jd : LL) (jg : Int) (ja : Bool) (jf : LL) (je : Bool) (jh : LL) (jc : Int) (jx : CV) (yW : Int) (ju : Bool) (js : LL) (jl : CV) (jt : Bool × LL) (jA : CV) (mB : Bool) (mI : LL) (oH : CV) (pd : Int) : Option CV :=
 hold (E0 lb n 0 986 (sub (B Qah) [1,1,1,1,1,1,1,1,0,1,0,0,1,1]) (QbG 0 (Qag (sub (B Qah) [1,1,1,1,1,1,1,1,0,1,0,0]) ++ [6,7,7]) [] (Qav (E0 lb n 0 988) 0 (Qag (sub (B Qah) [1,1,1,1,1,1,1,1,0,1,0,0]) ++ [6,7,7]) [] (sub (B Qah) [1,1,1,1,1,1,1,1,0,1,0,0]) (Qak 0 (seqK (E0 lb n 0 991) (sub (B Qah) [1,1,1,1,1,1,1,1,0]) (sub (B Qah) [1,1,1,1,1,1,1,1,1]) (retK Tryz.prog (R Qah) 0 (outK (Qad Tryz.prog Qah))))) vl) (Qak 0 (seqK (E0 lb n 0 991) (sub (B Qah) [1,1,1,1,1,1,1,1,0]) (sub (B Qah) [1,1,1,1,1,1,1,1,1]) (retK Tryz.prog (R Qah) 0 (outK (Qad Tryz.prog Qah)))))) ⟨fr 140 [(0, .val (.agg [.str jj, .list jb jd, .int .i64 jg, .list ja jf, .list je jh, .int .i64 jc])),(1, .ptr 0 1 0),(2, .lst true true 61 []),(3, .lst true mB 61 mI),(4,vV jx),(5,vI yW),(6,vV oH),(7,vI pd),(31, .val (.list ju js)),(32, .ptr 0 1 1),(33, .val (.list jb jd)),(34, .ptr 0 1 2),(35,vI jg),(36,vV jl),(37, .val (.list (ju && jt.2.isEmpty) (js ++ jt.2))),(46, .val (.agg [.str jj, .list jb jd, .int .i64 jg, .list ja jf, .list je jh, .int .i64 jc])),(47,vV jA),(48,vV jx)],[bx 140 [(1,some [vS jj, .val (.list jb jd),vI jg, .val (.list ja jf), .val (.list je jh),vI jc])]],KK⟩)
theorem QpD (lb n vl : Nat) (jj : LB) (jb : Bool) (jd : LL) (jg : Int) (ja : Bool) (jf : LL) (je : Bool) (jh : LL) (jc : Int) (jx : CV) (yW : Int) (ju : Bool) (js : LL) (jl : CV) (jt : Bool × LL) (jA : CV) (mB : Bool) (mI : LL) (oH : CV) (pd : Int) :
 QlW lb n vl jj jb jd jg ja jf je jh jc jx yW ju js jl jt jA mB mI oH pd =
 QeH lb n vl jj jb jd jg ja jf je jh jc jx ju js jl jt jA mB mI (IntKind.wrap .i64 (yW + 1)) := (Qac _).trans (by kernel_rfl)
theorem Qh0 (lb n mN vl : Nat) (jj : LB) (jb : Bool) (jd : LL) (jg : Int) (ja : Bool) (jf : LL) (je : Bool) (jh : LL) (jc : Int) (jx : CV) (yW : Int) (y1 : CV) (ju : Bool) (js : LL) (jl : CV) (jt : Bool × LL) (jA : CV) (y3 : List CV) (jC jH w5 jI jG jF jW j6 j5 vX : CV) (gR : Bool) (o5 : LL) (ki : Int) :
 QeL lb n (mN + 1) vl jj jb jd jg ja jf je jh jc jx yW y1 ju js jl jt jA y3 jC jH w5 jI jG jF jW j6 j5 vX gR o5 ki =
 optO (CV.asL y1) fun lD =>
 bif (decide (ki < (lD.2.length : Int))) then
 (optO (CV.asL y1) fun zV =>
 optO (atL zV.2 ki) fun qC =>
 chkO (qC.length == 1) (
 optO (qC[0]?) fun m8 =>
 optO (C lb n Qdn [.int .i64 yW]) fun ti =>
 optO (CV.asS ti) fun sx =>
 chkO (decide (([115,101,103,32] : LB).length + sx.length ≤ 9223372036854775807)) (
 chkO (CV.isCell m8) (
 chkO (room (o5.length + 1) 24) (
 QeL lb n mN vl jj jb jd jg ja jf je jh jc jx yW y1 ju js jl jt jA y3 jC jH w5 jI jG jF jW j6 j5 vX (gR && false) (o5 ++ [[m8,CV.str (([115,101,103,32] : LB) ++ sx)]]) (IntKind.wrap .i64 (ki + 1)))))))
 else
 (QlW lb n vl jj jb jd jg ja jf je jh jc jx yW ju js jl jt jA gR o5 y1 ki) := (Qac _).trans (by kernel_rfl)
noncomputable def Qiv (lb n : Nat) (jj : LB) (jb : Bool) (jd : LL) (jg : Int) (ja : Bool) (jf : LL) (je : Bool) (jh : LL) (jc : Int) (jx : CV) (ju : Bool) (js : LL) (jl : CV) (jt : Bool × LL) (jA : CV) (mT : Bool) (m5 : LL) (wk : Int) : Option CV :=
 hold (E0 lb n 0 991 (sub (B Qah) [1,1,1,1,1,1,1,1,1]) (retK Tryz.prog (R Qah) 0 (outK (Qad Tryz.prog Qah))) ⟨fr 140 [(0, .val (.agg [.str jj, .list jb jd, .int .i64 jg, .list ja jf, .list je jh, .int .i64 jc])),(1, .ptr 0 1 0),(2, .lst true true 61 []),(3, .lst true mT 61 m5),(4,vV jx),(5,vI wk),(31, .val (.list ju js)),(32, .ptr 0 1 1),(33, .val (.list jb jd)),(34, .ptr 0 1 2),(35,vI jg),(36,vV jl),(37, .val (.list (ju && jt.2.isEmpty) (js ++ jt.2))),(46, .val (.agg [.str jj, .list jb jd, .int .i64 jg, .list ja jf, .list je jh, .int .i64 jc])),(47,vV jA),(48,vV jx)],[bx 140 [(1,some [vS jj, .val (.list jb jd),vI jg, .val (.list ja jf), .val (.list je jh),vI jc])]],KK⟩)
noncomputable def QbJ (lb n y8 : Nat) (jj : LB) (jb : Bool) (jd : LL) (jg : Int) (ja : Bool) (jf : LL) (je : Bool) (jh : LL) (jc : Int) (jx : CV) (wk : Int) (ju : Bool) (js : LL) (jl : CV) (jt : Bool × LL) (jA : CV) (oY : Bool) (oC : LL) (wn : Int) : Option CV :=
 hold (Qav (E0 lb n 0 987) 0 (Qag (sub (B Qah) [1,1,1,1,1,1,1,1,1,0,1,0,0]) ++ [10]) [9] (sub (B Qah) [1,1,1,1,1,1,1,1,1,0,1,0,0]) (Qak 4 (seqK (E0 lb n 0 990) (sub (B Qah) [1,1,1,1,1,1,1,1,1,0]) (sub (B Qah) [1,1,1,1,1,1,1,1,1,1]) (retK Tryz.prog (R Qah) 0 (outK (Qad Tryz.prog Qah))))) y8 ⟨fr 140 [(0, .val (.agg [.str jj, .list jb jd, .int .i64 jg, .list ja jf, .list je jh, .int .i64 jc])),(1, .ptr 0 1 0),(2, .lst true true 61 []),(3, .lst true oY 61 oC),(4,vV jx),(5,vI wk),(8,vI wn),(31, .val (.list ju js)),(32, .ptr 0 1 1),(33, .val (.list jb jd)),(34, .ptr 0 1 2),(35,vI jg),(36,vV jl),(37, .val (.list (ju && jt.2.isEmpty) (js ++ jt.2))),(46, .val (.agg [.str jj, .list jb jd, .int .i64 jg, .list ja jf, .list je jh, .int .i64 jc])),(47,vV jA),(48,vV jx)],[bx 140 [(1,some [vS jj, .val (.list jb jd),vI jg, .val (.list ja jf), .val (.list je jh),vI jc])]],KK⟩)
noncomputable def Qeb (lb n y8 : Nat) (jj : LB) (jb : Bool) (jd : LL) (jg : Int) (ja : Bool) (jf : LL) (je : Bool) (jh : LL) (jc : Int) (jx : CV) (wk wn : Int) (y7 : LB) (ju : Bool) (js : LL) (jl : CV) (jt : Bool × LL) (jA : CV) (vP : List CV) (kt vL yE kL : CV) (oc : Bool) (vZ : LL) : Option CV :=
 hold (E0 lb n 0 982 (sub (B Qah) [1,1,1,1,1,1,1,1,1,0,1,0,0,1,0,0,1,1]) (Qak 5 (seqK (E0 lb n 0 985) (sub (B Qah) [1,1,1,1,1,1,1,1,1,0,1,0,0,1,0]) (sub (B Qah) [1,1,1,1,1,1,1,1,1,0,1,0,0,1,1]) (QbG 0 (Qag (sub (B Qah) [1,1,1,1,1,1,1,1,1,0,1,0,0]) ++ [10]) [9] (Qav (E0 lb n 0 987) 0 (Qag (sub (B Qah) [1,1,1,1,1,1,1,1,1,0,1,0,0]) ++ [10]) [9] (sub (B Qah) [1,1,1,1,1,1,1,1,1,0,1,0,0]) (Qak 4 (seqK (E0 lb n 0 990) (sub (B Qah) [1,1,1,1,1,1,1,1,1,0]) (sub (B Qah) [1,1,1,1,1,1,1,1,1,1]) (retK Tryz.prog (R Qah) 0 (outK (Qad Tryz.prog Qah))))) y8) (Qak 4 (seqK (E0 lb n 0 990) (sub (B Qah) [1,1,1,1,1,1,1,1,1,0]) (sub (B Qah) [1,1,1,1,1,1,1,1,1,1]) (retK Tryz.prog (R Qah) 0 (outK (Qad Tryz.prog Qah)))))))) ⟨fr 140 [(0, .val (.agg [.str jj, .list jb jd, .int .i64 jg, .list ja jf, .list je jh, .int .i64 jc])),(1, .ptr 0 1 0),(2, .lst true true 61 []),(3, .lst true oc 61 vZ),(4,vV jx),(5,vI wk),(8,vI wn),(9, .ptr 0 9 0),(10, .val (.str (([115,101,114,118,105,99,101,32] : LB) ++ y7))),(31, .val (.list ju js)),(32, .ptr 0 1 1),(33, .val (.list jb jd)),(34, .ptr 0 1 2),(35,vI jg),(36,vV jl),(37, .val (.list (ju && jt.2.isEmpty) (js ++ jt.2))),(46, .val (.agg [.str jj, .list jb jd, .int .i64 jg, .list ja jf, .list je jh, .int .i64 jc])),(47,vV jA),(48,vV jx),(93, .ptr 0 1 4),(94, .val (.list je jh)),(95,vI wn),(96, .cptr vP 0),(97, .val (.agg [kt,vL,yE])),(98,vI wn),(99,vV kL),(100, .val (.str (([115,101,114,118,105,99,101,32] : LB) ++ y7)))],[bx 140 [(1,some [vS jj, .val (.list jb jd),vI jg, .val (.list ja jf), .val (.list je jh),vI jc]),(9,some [.val kt, .val vL, .val yE])]],KK⟩)
theorem Qop (lb n y8 : Nat) (jj : LB) (jb : Bool) (jd : LL) (jg : Int) (ja : Bool) (jf : LL) (je : Bool) (jh : LL) (jc : Int) (jx : CV) (wk wn : Int) (y7 : LB) (ju : Bool) (js : LL) (jl : CV) (jt : Bool × LL) (jA : CV) (vP : List CV) (kt vL yE kL : CV) (oc : Bool) (vZ : LL) :
 Qeb lb n y8 jj jb jd jg ja jf je jh jc jx wk wn y7 ju js jl jt jA vP kt vL yE kL oc vZ =
 optO (CV.asI .i64 vL) fun my =>
 bif (decide (my < 0)) then
 (chkO (room (vZ.length + 1) 24) (
 QbJ lb n y8 jj jb jd jg ja jf je jh jc jx wk ju js jl jt jA (oc && false) (vZ ++ [[CV.int .i64 7,CV.str (([115,101,114,118,105,99,101,32] : LB) ++ y7)]]) (IntKind.wrap .i64 (wn + 1))))
 else
 (optO (CV.asI .i64 vL) fun gO =>
 bif (decide (gO ≥ (jd.length : Int))) then
 (chkO (room (vZ.length + 1) 24) (
 QbJ lb n y8 jj jb jd jg ja jf je jh jc jx wk ju js jl jt jA (oc && false) (vZ ++ [[CV.int .i64 7,CV.str (([115,101,114,118,105,99,101,32] : LB) ++ y7)]]) (IntKind.wrap .i64 (wn + 1))))
 else
 (optO (CV.asI .i64 yE) fun n9 =>
 bif (decide (n9 < 0)) then
 (chkO (room (vZ.length + 1) 24) (
 QbJ lb n y8 jj jb jd jg ja jf je jh jc jx wk ju js jl jt jA (oc && false) (vZ ++ [[CV.int .i64 7,CV.str (([115,101,114,118,105,99,101,32] : LB) ++ y7)]]) (IntKind.wrap .i64 (wn + 1))))
 else
 (optO (CV.asI .i64 yE) fun pc =>
 bif (decide (pc ≥ (jf.length : Int))) then
 (chkO (room (vZ.length + 1) 24) (
 QbJ lb n y8 jj jb jd jg ja jf je jh jc jx wk ju js jl jt jA (oc && false) (vZ ++ [[CV.int .i64 7,CV.str (([115,101,114,118,105,99,101,32] : LB) ++ y7)]]) (IntKind.wrap .i64 (wn + 1))))
 else
 (QbJ lb n y8 jj jb jd jg ja jf je jh jc jx wk ju js jl jt jA oc vZ (IntKind.wrap .i64 (wn + 1)))))) := (Qac _).trans (by kernel_rfl)
noncomputable def Qlo (lb n : Nat) (jj : LB) (jb : Bool) (jd : LL) (jg : Int) (ja : Bool) (jf : LL) (je : Bool) (jh : LL) (jc : Int) (jx : CV) (wk : Int) (ju : Bool) (js : LL) (jl : CV) (jt : Bool × LL) (jA : CV) (mt : Bool) (mz : LL) (nK : Int) : Option CV :=
 hold (E0 lb n 0 990 (sub (B Qah) [1,1,1,1,1,1,1,1,1,1]) (retK Tryz.prog (R Qah) 0 (outK (Qad Tryz.prog Qah))) ⟨fr 140 [(0, .val (.agg [.str jj, .list jb jd, .int .i64 jg, .list ja jf, .list je jh, .int .i64 jc])),(1, .ptr 0 1 0),(2, .lst true true 61 []),(3, .lst true mt 61 mz),(4,vV jx),(5,vI wk),(8,vI nK),(31, .val (.list ju js)),(32, .ptr 0 1 1),(33, .val (.list jb jd)),(34, .ptr 0 1 2),(35,vI jg),(36,vV jl),(37, .val (.list (ju && jt.2.isEmpty) (js ++ jt.2))),(46, .val (.agg [.str jj, .list jb jd, .int .i64 jg, .list ja jf, .list je jh, .int .i64 jc])),(47,vV jA),(48,vV jx)],[bx 140 [(1,some [vS jj, .val (.list jb jd),vI jg, .val (.list ja jf), .val (.list je jh),vI jc])]],KK⟩)
theorem QnZ (lb n : Nat) (jj : LB) (jb : Bool) (jd : LL) (jg : Int) (ja : Bool) (jf : LL) (je : Bool) (jh : LL) (jc : Int) (jx : CV) (wk : Int) (ju : Bool) (js : LL) (jl : CV) (jt : Bool × LL) (jA : CV) (mt : Bool) (mz : LL) (nK : Int) :
 Qlo lb n jj jb jd jg ja jf je jh jc jx wk ju js jl jt jA mt mz nK =
 some (.list mt mz) := (Qac _).trans (by kernel_rfl)
theorem Qh4 (lb n y8 : Nat) (jj : LB) (jb : Bool) (jd : LL) (jg : Int) (ja : Bool) (jf : LL) (je : Bool) (jh : LL) (jc : Int) (jx : CV) (wk : Int) (ju : Bool) (js : LL) (jl : CV) (jt : Bool × LL) (jA : CV) (oY : Bool) (oC : LL) (wn : Int) :
 QbJ lb n (y8 + 1) jj jb jd jg ja jf je jh jc jx wk ju js jl jt jA oY oC wn =
 bif (decide (wn < (jh.length : Int))) then
 (optO (atL jh wn) fun vP =>
 chkO (vP.length == 3) (
 optO (vP[0]?) fun kt =>
 optO (vP[1]?) fun vL =>
 optO (vP[2]?) fun yE =>
 optO (C lb n Qdn [.int .i64 wn]) fun kL =>
 optO (CV.asS kL) fun y7 =>
 chkO (decide (([115,101,114,118,105,99,101,32] : LB).length + y7.length ≤ 9223372036854775807)) (
 optO (C lb n Qbx [kt, .int .i64 4, .int .i64 4]) fun kc =>
 optO (CV.asB kc) fun tg =>
 bif (!tg) then
 (chkO (room (oC.length + 1) 24) (
 Qeb lb n y8 jj jb jd jg ja jf je jh jc jx wk wn y7 ju js jl jt jA vP kt vL yE kL (oY && false) (oC ++ [[CV.int .i64 5,CV.str (([115,101,114,118,105,99,101,32] : LB) ++ y7)]])))
 else
 (Qeb lb n y8 jj jb jd jg ja jf je jh jc jx wk wn y7 ju js jl jt jA vP kt vL yE kL oY oC))))
 else
 (Qlo lb n jj jb jd jg ja jf je jh jc jx wk ju js jl jt jA oY oC wn) := (Qac _).trans (by kernel_rfl)
theorem QoC (lb n : Nat) (jj : LB) (jb : Bool) (jd : LL) (jg : Int) (ja : Bool) (jf : LL) (je : Bool) (jh : LL) (jc : Int) (jx : CV) (ju : Bool) (js : LL) (jl : CV) (jt : Bool × LL) (jA : CV) (mT : Bool) (m5 : LL) (wk : Int) :
 Qiv lb n jj jb jd jg ja jf je jh jc jx ju js jl jt jA mT m5 wk =
 QbJ lb n n jj jb jd jg ja jf je jh jc jx wk ju js jl jt jA mT m5 0 := (Qac _).trans (by kernel_rfl)
theorem Qh8 (lb n vl : Nat) (jj : LB) (jb : Bool) (jd : LL) (jg : Int) (ja : Bool) (jf : LL) (je : Bool) (jh : LL) (jc : Int) (jx : CV) (ju : Bool) (js : LL) (jl : CV) (jt : Bool × LL) (jA : CV) (vg : Bool) (ng : LL) (yW : Int) :
 QeH lb n (vl + 1) jj jb jd jg ja jf je jh jc jx ju js jl jt jA vg ng yW =
 bif (decide (yW < (jf.length : Int))) then
 (optO (atL jf yW) fun y3 =>
 chkO (y3.length == 10) (
 optO (y3[0]?) fun jC =>
 optO (y3[1]?) fun jH =>
 optO (y3[2]?) fun w5 =>
 optO (y3[3]?) fun jI =>
 optO (y3[4]?) fun jG =>
 optO (y3[5]?) fun jF =>
 optO (y3[6]?) fun jW =>
 optO (y3[7]?) fun j6 =>
 optO (y3[8]?) fun j5 =>
 optO (y3[9]?) fun vX =>
 optO (C lb n Qa9 [.agg [jC,jH,w5,jI,jG,jF,jW,j6,j5,vX]]) fun y1 =>
 QeL lb n n vl jj jb jd jg ja jf je jh jc jx yW y1 ju js jl jt jA y3 jC jH w5 jI jG jF jW j6 j5 vX vg ng 0))
 else
 (Qiv lb n jj jb jd jg ja jf je jh jc jx ju js jl jt jA vg ng yW) := (Qac _).trans (by kernel_rfl)
theorem QoM (lb n : Nat) (jj : LB) (jb : Bool) (jd : LL) (jg : Int) (ja : Bool) (jf : LL) (je : Bool) (jh : LL) (jc : Int) (jx : CV) (ju : Bool) (js : LL) (jl : CV) (jt : Bool × LL) (jA : CV) (k8 : Bool) (oM : LL) :
 QeG lb n jj jb jd jg ja jf je jh jc jx ju js jl jt jA k8 oM =
 QeH lb n n jj jb jd jg ja jf je jh jc jx ju js jl jt jA k8 oM 0 := (Qac _).trans (by kernel_rfl)
theorem QoS (lb n : Nat) (jj : LB) (jb : Bool) (jd : LL) (jg : Int) (ja : Bool) (jf : LL) (je : Bool) (jh : LL) (jc : Int) (ju : Bool) (js : LL) (jl : CV) (jt : Bool × LL) (ke : Bool) (kD : LL) :
 Qdd lb n jj jb jd jg ja jf je jh jc ju js jl jt ke kD =
 optO (C lb n Qba [.agg [.str jj, .list jb jd, .int .i64 jg, .list ja jf, .list je jh, .int .i64 jc]]) fun jA =>
 optO (C lb n Qaq [jA]) fun jx =>
 optO (CV.asI .i64 jx) fun kS =>
 bif (kS != 0) then
 (chkO (CV.isCell jx) (
 chkO (room (kD.length + 1) 24) (
 QeG lb n jj jb jd jg ja jf je jh jc jx ju js jl jt jA (ke && false) (kD ++ [[jx,CV.str [115,101,103,115]]]))))
 else
 (QeG lb n jj jb jd jg ja jf je jh jc jx ju js jl jt jA ke kD) := (Qac _).trans (by kernel_rfl)
theorem QoR (lb n : Nat) (jj : LB) (jb : Bool) (jd : LL) (jg : Int) (ja : Bool) (jf : LL) (je : Bool) (jh : LL) (jc : Int) (ju : Bool) (js : LL) :
 Qdg lb n jj jb jd jg ja jf je jh jc ju js =
 optO (C lb n QaA [.list jb jd, .int .i64 jg]) fun jl =>
 optO (CV.asL jl) fun jt =>
 chkO (jt.2.all (·.length == 2)) (
 chkO (room (js.length + jt.2.length) 24) (
 bif (decide ((jf.length : Int) > 24)) then
 (chkO (room ((js ++ jt.2).length + 1) 24) (
 Qdd lb n jj jb jd jg ja jf je jh jc ju js jl jt ((ju && jt.2.isEmpty) && false) ((js ++ jt.2) ++ [[CV.int .i64 4,CV.str [115,101,103,115]]])))
 else
 (Qdd lb n jj jb jd jg ja jf je jh jc ju js jl jt (ju && jt.2.isEmpty) (js ++ jt.2)))) := (Qac _).trans (by kernel_rfl)
theorem Qpx (lb n : Nat) (jj : LB) (jb : Bool) (jd : LL) (jg : Int) (ja : Bool) (jf : LL) (je : Bool) (jh : LL) (jc : Int) (yL : Bool) (vc : LL) :
 r35_Check_J1 lb n jj jb jd jg ja jf je jh jc yL vc =
 bif (decide (jc < 0)) then
 (chkO (room (vc.length + 1) 24) (
 Qdg lb n jj jb jd jg ja jf je jh jc (yL && false) (vc ++ [[CV.int .i64 13,CV.str [108,105,109,105,116]]])))
 else
 (bif (decide (jc ≥ 52596000)) then
 (chkO (room (vc.length + 1) 24) (
 Qdg lb n jj jb jd jg ja jf je jh jc (yL && false) (vc ++ [[CV.int .i64 13,CV.str [108,105,109,105,116]]])))
 else
 (Qdg lb n jj jb jd jg ja jf je jh jc yL vc)) := (Qac _).trans (by kernel_rfl)
theorem Qs1 (lb n : Nat) (jj : LB) (jb : Bool) (jd : LL) (jg : Int) (ja : Bool) (jf : LL) (je : Bool) (jh : LL) (jc : Int) :
 top lb n Qah [.agg [.str jj, .list jb jd, .int .i64 jg, .list ja jf, .list je jh, .int .i64 jc]] =
 optO (C lb n Qd9 [.str jj]) fun gh =>
 optO (CV.asB gh) fun jv =>
 bif (!jv) then
 (r35_Check_J1 lb n jj jb jd jg ja jf je jh jc false [[CV.int .i64 5,CV.str [108,111,99,97,116,111,114]]])
 else
 (r35_Check_J1 lb n jj jb jd jg ja jf je jh jc true []) := by kernel_rfl
theorem Qp5 (lb n : Nat) (a1 : LB) :
 top lb n Qd9 [.str a1] =
 optO (C lb n Qbx [.str a1, .int .i64 6, .int .i64 6]) fun r2 =>
 some (r2) := by kernel_rfl
noncomputable def QeU (lb n oP : Nat) (jj : LB) (jb : Bool) (jd : LL) (jg : Int) (ja : Bool) (jf : LL) (je : Bool) (jh : LL) (jc : Int) (yL : Bool) (vc : LL) (ww : Int) : Option CV :=
 hold (Qav (E0 lb n 0 994) 0 (Qag (sub (B Qba) [1,1,0,1,0,0]) ++ []) [] (sub (B Qba) [1,1,0,1,0,0]) (Qak 0 (seqK (E0 lb n 0 997) (sub (B Qba) [1,1,0]) (sub (B Qba) [1,1,1]) (retK Tryz.prog (R Qba) 0 (outK (Qad Tryz.prog Qba))))) oP ⟨fr 22 [(0, .val (.agg [.str jj, .list jb jd, .int .i64 jg, .list ja jf, .list je jh, .int .i64 jc])),(1, .ptr 0 1 0),(2, .lst true true 3 []),(3, .lst true yL 3 vc),(4,vI ww)],[bx 22 [(1,some [vS jj, .val (.list jb jd),vI jg, .val (.list ja jf), .val (.list je jh),vI jc])]],KK⟩)
noncomputable def Qj2 (lb n : Nat) (jj : LB) (jb : Bool) (jd : LL) (jg : Int) (ja : Bool) (jf : LL) (je : Bool) (jh : LL) (jc : Int) (pP : Bool) (pW : LL) (kS : Int) : Option CV :=
 hold (E0 lb n 0 997 (sub (B Qba) [1,1,1]) (retK Tryz.prog (R Qba) 0 (outK (Qad Tryz.prog Qba))) ⟨fr 22 [(0, .val (.agg [.str jj, .list jb jd, .int .i64 jg, .list ja jf, .list je jh, .int .i64 jc])),(1, .ptr 0 1 0),(2, .lst true true 3 []),(3, .lst true pP 3 pW),(4,vI kS)],[bx 22 [(1,some [vS jj, .val (.list jb jd),vI jg, .val (.list ja jf), .val (.list je jh),vI jc])]],KK⟩)
theorem Qnc (lb n : Nat) (jj : LB) (jb : Bool) (jd : LL) (jg : Int) (ja : Bool) (jf : LL) (je : Bool) (jh : LL) (jc : Int) (pP : Bool) (pW : LL) (kS : Int) :
 Qj2 lb n jj jb jd jg ja jf je jh jc pP pW kS =
 some (.list pP pW) := (Qac _).trans (by kernel_rfl)
theorem QgF (lb n oP : Nat) (jj : LB) (jb : Bool) (jd : LL) (jg : Int) (ja : Bool) (jf : LL) (je : Bool) (jh : LL) (jc : Int) (yL : Bool) (vc : LL) (ww : Int) :
 QeU lb n (oP + 1) jj jb jd jg ja jf je jh jc yL vc ww =
 bif (decide (ww < (jf.length : Int))) then
 (optO (atL jf ww) fun c20 =>
 chkO (c20.length == 10) (
 optO (c20[9]?) fun jm =>
 chkO (CV.isCell jm) (
 chkO (room (vc.length + 1) 8) (
 QeU lb n oP jj jb jd jg ja jf je jh jc (yL && false) (vc ++ [[jm]]) (IntKind.wrap .i64 (ww + 1))))))
 else
 (Qj2 lb n jj jb jd jg ja jf je jh jc yL vc ww) := (Qac _).trans (by kernel_rfl)
theorem Qp9 (lb n : Nat) (jj : LB) (jb : Bool) (jd : LL) (jg : Int) (ja : Bool) (jf : LL) (je : Bool) (jh : LL) (jc : Int) :
 top lb n Qba [.agg [.str jj, .list jb jd, .int .i64 jg, .list ja jf, .list je jh, .int .i64 jc]] =
 QeU lb n n jj jb jd jg ja jf je jh jc true [] 0 := by kernel_rfl
noncomputable def QcZ (lb n : Nat) (awansegcar1 : LB) (awansegnum2 awansegday3 : Int) (awansegfro4 jo : LB) (awansegdep6 awansegarr7 : Int) (jz : LB) (jD jE : Int) (vH : Bool) (yn : LL) : Option CV :=
 hold (E0 lb n 0 996 (sub (B Qa9) [1,1,1,1]) (retK Tryz.prog (R Qa9) 0 (outK (Qad Tryz.prog Qa9))) ⟨fr 67 [(0, .val (.agg [.str awansegcar1, .int .i64 awansegnum2, .int .i64 awansegday3, .str awansegfro4, .str jo, .int .i64 awansegdep6, .int .i64 awansegarr7, .str jz, .int .i64 jD, .int .i64 jE])),(1, .ptr 0 1 0),(2, .lst true true 31 []),(3, .lst true vH 31 yn),(4, .ptr 0 4 0),(7, .ptr 0 1 0),(8, .ptr 0 1 0),(9, .val (.agg [.str awansegcar1, .int .i64 awansegnum2, .int .i64 awansegday3, .str awansegfro4, .str jo, .int .i64 awansegdep6, .int .i64 awansegarr7]))],[bx 67 [(1,some [vS awansegcar1,vI awansegnum2,vI awansegday3,vS awansegfro4,vS jo,vI awansegdep6,vI awansegarr7,vS jz,vI jD,vI jE]),(4,some [vS awansegcar1,vI awansegnum2,vI awansegday3,vS awansegfro4,vS jo,vI awansegdep6,vI awansegarr7])]],KK⟩)
noncomputable def Qc8 (lb n : Nat) (awansegcar1 : LB) (awansegnum2 awansegday3 : Int) (awansegfro4 jo : LB) (awansegdep6 awansegarr7 : Int) (jz : LB) (jD jE : Int) (oe : Bool) (vh : LL) : Option CV :=
 hold (E0 lb n 0 995 (sub (B Qa9) [1,1,1,1,1]) (retK Tryz.prog (R Qa9) 0 (outK (Qad Tryz.prog Qa9))) ⟨fr 67 [(0, .val (.agg [.str awansegcar1, .int .i64 awansegnum2, .int .i64 awansegday3, .str awansegfro4, .str jo, .int .i64 awansegdep6, .int .i64 awansegarr7, .str jz, .int .i64 jD, .int .i64 jE])),(1, .ptr 0 1 0),(2, .lst true true 31 []),(3, .lst true oe 31 vh),(4, .ptr 0 4 0),(7, .ptr 0 1 0),(8, .ptr 0 1 0),(9, .val (.agg [.str awansegcar1, .int .i64 awansegnum2, .int .i64 awansegday3, .str awansegfro4, .str jo, .int .i64 awansegdep6, .int .i64 awansegarr7]))],[bx 67 [(1,some [vS awansegcar1,vI awansegnum2,vI awansegday3,vS awansegfro4,vS jo,vI awansegdep6,vI awansegarr7,vS jz,vI jD,vI jE]),(4,some [vS awansegcar1,vI awansegnum2,vI awansegday3,vS awansegfro4,vS jo,vI awansegdep6,vI awansegarr7])]],KK⟩)
noncomputable def QeY (lb n : Nat) (awansegcar1 : LB) (awansegnum2 awansegday3 : Int) (awansegfro4 jo : LB) (awansegdep6 awansegarr7 : Int) (jz : LB) (jD jE : Int) (kB : Bool) (kF : LL) : Option CV :=
 hold (E0 lb n 0 994 (sub (B Qa9) [1,1,1,1,1,1]) (retK Tryz.prog (R Qa9) 0 (outK (Qad Tryz.prog Qa9))) ⟨fr 67 [(0, .val (.agg [.str awansegcar1, .int .i64 awansegnum2, .int .i64 awansegday3, .str awansegfro4, .str jo, .int .i64 awansegdep6, .int .i64 awansegarr7, .str jz, .int .i64 jD, .int .i64 jE])),(1, .ptr 0 1 0),(2, .lst true true 31 []),(3, .lst true kB 31 kF),(4, .ptr 0 4 0),(7, .ptr 0 1 0),(8, .ptr 0 1 0),(9, .val (.agg [.str awansegcar1, .int .i64 awansegnum2, .int .i64 awansegday3, .str awansegfro4, .str jo, .int .i64 awansegdep6, .int .i64 awansegarr7]))],[bx 67 [(1,some [vS awansegcar1,vI awansegnum2,vI awansegday3,vS awansegfro4,vS jo,vI awansegdep6,vI awansegarr7,vS jz,vI jD,vI jE]),(4,some [vS awansegcar1,vI awansegnum2,vI awansegday3,vS awansegfro4,vS jo,vI awansegdep6,vI awansegarr7])]],KK⟩)
theorem Qm3 (lb n : Nat) (awansegcar1 : LB) (awansegnum2 awansegday3 : Int) (awansegfro4 jo : LB) (awansegdep6 awansegarr7 : Int) (jz : LB) (jD jE : Int) (kB : Bool) (kF : LL) :
 QeY lb n awansegcar1 awansegnum2 awansegday3 awansegfro4 jo awansegdep6 awansegarr7 jz jD jE kB kF =
 optO (C lb n QkQ [.int .i64 jD]) fun jx =>
 optO (CV.asT jx) fun nB =>
 optO (nB[0]?) fun jO =>
 optO (CV.asT jx) fun sA =>
 optO (sA[1]?) fun wh =>
 optO (CV.asI .i64 wh) fun kX =>
 bif (kX != 0) then
 (chkO (room (kF.length + 1) 8) (
 some (.list (kB && false) (kF ++ [[CV.int .i64 10]]))))
 else
 (some (.list kB kF)) := (Qac _).trans (by kernel_rfl)
theorem Qm8 (lb n : Nat) (awansegcar1 : LB) (awansegnum2 awansegday3 : Int) (awansegfro4 jo : LB) (awansegdep6 awansegarr7 : Int) (jz : LB) (jD jE : Int) (oe : Bool) (vh : LL) :
 Qc8 lb n awansegcar1 awansegnum2 awansegday3 awansegfro4 jo awansegdep6 awansegarr7 jz jD jE oe vh =
 optO (C lb n QjD [.str jz]) fun jJ =>
 optO (CV.asB jJ) fun ke =>
 bif (!ke) then
 (chkO (room (vh.length + 1) 8) (
 QeY lb n awansegcar1 awansegnum2 awansegday3 awansegfro4 jo awansegdep6 awansegarr7 jz jD jE (oe && false) (vh ++ [[CV.int .i64 16]])))
 else
 (QeY lb n awansegcar1 awansegnum2 awansegday3 awansegfro4 jo awansegdep6 awansegarr7 jz jD jE oe vh) := (Qac _).trans (by kernel_rfl)
theorem Qm9 (lb n : Nat) (awansegcar1 : LB) (awansegnum2 awansegday3 : Int) (awansegfro4 jo : LB) (awansegdep6 awansegarr7 : Int) (jz : LB) (jD jE : Int) (vH : Bool) (yn : LL) :
 QcZ lb n awansegcar1 awansegnum2 awansegday3 awansegfro4 jo awansegdep6 awansegarr7 jz jD jE vH yn =
 bif (decide (awansegdep6 < 0)) then
 (chkO (room (yn.length + 1) 8) (
 Qc8 lb n awansegcar1 awansegnum2 awansegday3 awansegfro4 jo awansegdep6 awansegarr7 jz jD jE (vH && false) (yn ++ [[CV.int .i64 13]])))
 else
 (bif (decide (awansegarr7 ≤ awansegdep6)) then
 (chkO (room (yn.length + 1) 8) (
 Qc8 lb n awansegcar1 awansegnum2 awansegday3 awansegfro4 jo awansegdep6 awansegarr7 jz jD jE (vH && false) (yn ++ [[CV.int .i64 13]])))
 else
 (bif (decide (awansegarr7 ≥ 52596000)) then
 (chkO (room (yn.length + 1) 8) (
 Qc8 lb n awansegcar1 awansegnum2 awansegday3 awansegfro4 jo awansegdep6 awansegarr7 jz jD jE (vH && false) (yn ++ [[CV.int .i64 13]])))
 else
 (Qc8 lb n awansegcar1 awansegnum2 awansegday3 awansegfro4 jo awansegdep6 awansegarr7 jz jD jE vH yn))) := (Qac _).trans (by kernel_rfl)
theorem Qqe (lb n : Nat) (awansegcar1 : LB) (awansegnum2 awansegday3 : Int) (awansegfro4 jo : LB) (awansegdep6 awansegarr7 : Int) (jz : LB) (jD jE : Int) :
 top lb n Qa9 [.agg [.str awansegcar1, .int .i64 awansegnum2, .int .i64 awansegday3, .str awansegfro4, .str jo, .int .i64 awansegdep6, .int .i64 awansegarr7, .str jz, .int .i64 jD, .int .i64 jE]] =
 optO (C lb n QhN [.str awansegcar1]) fun kV =>
 optO (CV.asB kV) fun yL =>
 bif (!yL) then
 (QcZ lb n awansegcar1 awansegnum2 awansegday3 awansegfro4 jo awansegdep6 awansegarr7 jz jD jE false [[CV.int .i64 5]])
 else
 (optO (C lb n QfB [.str awansegfro4]) fun sV =>
 optO (CV.asB sV) fun sD =>
 bif (!sD) then
 (QcZ lb n awansegcar1 awansegnum2 awansegday3 awansegfro4 jo awansegdep6 awansegarr7 jz jD jE false [[CV.int .i64 5]])
 else
 (optO (C lb n QfB [.str jo]) fun sq =>
 optO (CV.asB sq) fun qm =>
 bif (!qm) then
 (QcZ lb n awansegcar1 awansegnum2 awansegday3 awansegfro4 jo awansegdep6 awansegarr7 jz jD jE false [[CV.int .i64 5]])
 else
 (QcZ lb n awansegcar1 awansegnum2 awansegday3 awansegfro4 jo awansegdep6 awansegarr7 jz jD jE true []))) := by kernel_rfl
noncomputable def QdN (lb n k0 : Nat) (jk : Bool) (a2 : LL) (b3 : Int) (oi : Bool) (kO : LL) (yv : Int) : Option CV :=
 hold (Qav (E0 lb n 0 994) 0 (Qag (sub (B QaA) [1,1,0,1,0,0]) ++ [7]) [] (sub (B QaA) [1,1,0,1,0,0]) (Qak 0 (seqK (E0 lb n 0 997) (sub (B QaA) [1,1,0]) (sub (B QaA) [1,1,1]) (retK Tryz.prog (R QaA) 0 (outK (Qad Tryz.prog QaA))))) k0 ⟨fr 82 [(0, .val (.list jk a2)),(1,vI b3),(4, .lst true true 61 []),(5, .lst true oi 61 kO),(6,vI yv)],[bx 82 []],KK⟩)
noncomputable def Qgh (lb n k0 : Nat) (jk : Bool) (a2 : LL) (b3 yv : Int) (kN : LB) (gz : CV) (kG : Bool) (mg : LL) : Option CV :=
 hold (E0 lb n 0 989 (sub (B QaA) [1,1,0,1,0,0,1,0,0,1,1]) (Qak 1 (seqK (E0 lb n 0 992) (sub (B QaA) [1,1,0,1,0,0,1,0]) (sub (B QaA) [1,1,0,1,0,0,1,1]) (QbG 0 (Qag (sub (B QaA) [1,1,0,1,0,0]) ++ [7]) [] (Qav (E0 lb n 0 994) 0 (Qag (sub (B QaA) [1,1,0,1,0,0]) ++ [7]) [] (sub (B QaA) [1,1,0,1,0,0]) (Qak 0 (seqK (E0 lb n 0 997) (sub (B QaA) [1,1,0]) (sub (B QaA) [1,1,1]) (retK Tryz.prog (R QaA) 0 (outK (Qad Tryz.prog QaA))))) k0) (Qak 0 (seqK (E0 lb n 0 997) (sub (B QaA) [1,1,0]) (sub (B QaA) [1,1,1]) (retK Tryz.prog (R QaA) 0 (outK (Qad Tryz.prog QaA)))))))) ⟨fr 82 [(0, .val (.list jk a2)),(1,vI b3),(4, .lst true true 61 []),(5, .lst true kG 61 mg),(6,vI yv),(7, .val (.str (([112,101,114,115,111,110,32] : LB) ++ kN))),(15,vI yv),(16,vV gz),(17, .val (.str (([112,101,114,115,111,110,32] : LB) ++ kN)))],[bx 82 []],KK⟩)
theorem QoO (lb n k0 : Nat) (jk : Bool) (a2 : LL) (b3 yv : Int) (kN : LB) (gz : CV) (kG : Bool) (mg : LL) :
 Qgh lb n k0 jk a2 b3 yv kN gz kG mg =
 optO (atL a2 yv) fun qf =>
 chkO (qf.length == 3) (
 optO (qf[0]?) fun pY =>
 optO (qf[1]?) fun qP =>
 optO (qf[2]?) fun qx =>
 optO (C lb n Qhe [.agg [pY,qP,qx]]) fun qT =>
 optO (CV.asB qT) fun sG =>
 bif (!sG) then
 (chkO (room (mg.length + 1) 24) (
 QdN lb n k0 jk a2 b3 (kG && false) (mg ++ [[CV.int .i64 8,CV.str (([112,101,114,115,111,110,32] : LB) ++ kN)]]) (IntKind.wrap .i64 (yv + 1))))
 else
 (QdN lb n k0 jk a2 b3 kG mg (IntKind.wrap .i64 (yv + 1)))) := (Qac _).trans (by kernel_rfl)
noncomputable def Qix (lb n : Nat) (jk : Bool) (a2 : LL) (b3 : Int) (ml : Bool) (ga : LL) (vp : Int) : Option CV :=
 hold (E0 lb n 0 997 (sub (B QaA) [1,1,1]) (retK Tryz.prog (R QaA) 0 (outK (Qad Tryz.prog QaA))) ⟨fr 82 [(0, .val (.list jk a2)),(1,vI b3),(4, .lst true true 61 []),(5, .lst true ml 61 ga),(6,vI vp)],[bx 82 []],KK⟩)
noncomputable def Qez (lb n : Nat) (jk : Bool) (a2 : LL) (vp i80 : Int) (ka : Bool) (vm : LL) : Option CV :=
 hold (E0 lb n 0 996 (sub (B QaA) [1,1,1,1]) (retK Tryz.prog (R QaA) 0 (outK (Qad Tryz.prog QaA))) ⟨fr 82 [(0, .val (.list jk a2)),(1,vI i80),(4, .lst true true 61 []),(5, .lst true ka 61 vm),(6,vI vp)],[bx 82 []],KK⟩)
noncomputable def QbU (lb n : Nat) (jk : Bool) (a2 : LL) (i80 vp : Int) (nA : Bool) (mf : LL) : Option CV :=
 hold (E0 lb n 0 994 (sub (B QaA) [1,1,1,1,1,1]) (retK Tryz.prog (R QaA) 0 (outK (Qad Tryz.prog QaA))) ⟨fr 82 [(0, .val (.list jk a2)),(1,vI i80),(4, .lst true true 61 []),(5, .lst true nA 61 mf),(6,vI vp),(8, .val (.int .i64 (a2.length : Int))),(50, .val (.list jk a2)),(51, .val (.int .i64 (a2.length : Int)))],[bx 82 []],KK⟩)
theorem QoQ (lb n : Nat) (jk : Bool) (a2 : LL) (i80 vp : Int) (nA : Bool) (mf : LL) :
 QbU lb n jk a2 i80 vp nA mf =
 optO (C lb n QbC [.list jk a2]) fun qr =>
 optO (CV.asB qr) fun sI =>
 bif (!sI) then
 (chkO (room (mf.length + 1) 24) (
 some (.list (nA && false) (mf ++ [[CV.int .i64 25,CV.str [112,97,114,116,121]]]))))
 else
 (some (.list nA mf)) := (Qac _).trans (by kernel_rfl)
theorem Qpj (lb n : Nat) (jk : Bool) (a2 : LL) (vp i80 : Int) (ka : Bool) (vm : LL) :
 Qez lb n jk a2 vp i80 ka vm =
 bif ((IntKind.wrap .i64 ((a2.length : Int) + i80)) == 0) then
 (chkO (room (vm.length + 1) 24) (
 QbU lb n jk a2 i80 vp (ka && false) (vm ++ [[CV.int .i64 4,CV.str [112,97,114,116,121]]])))
 else
 (bif (i80 == 0) then
 (bif (decide ((a2.length : Int) > 9)) then
 (chkO (room (vm.length + 1) 24) (
 QbU lb n jk a2 i80 vp (ka && false) (vm ++ [[CV.int .i64 4,CV.str [112,97,114,116,121]]])))
 else
 (bif (decide ((IntKind.wrap .i64 ((a2.length : Int) + i80)) > 99)) then
 (chkO (room (vm.length + 1) 24) (
 QbU lb n jk a2 i80 vp (ka && false) (vm ++ [[CV.int .i64 4,CV.str [112,97,114,116,121]]])))
 else
 (QbU lb n jk a2 i80 vp ka vm)))
 else
 (bif (decide ((IntKind.wrap .i64 ((a2.length : Int) + i80)) > 99)) then
 (chkO (room (vm.length + 1) 24) (
 QbU lb n jk a2 i80 vp (ka && false) (vm ++ [[CV.int .i64 4,CV.str [112,97,114,116,121]]])))
 else
 (QbU lb n jk a2 i80 vp ka vm))) := (Qac _).trans (by kernel_rfl)
theorem Qgb (lb n : Nat) (jk : Bool) (a2 : LL) (b3 : Int) (ml : Bool) (ga : LL) (vp : Int) :
 Qix lb n jk a2 b3 ml ga vp =
 bif (decide (b3 < 0)) then
 (chkO (room (ga.length + 1) 24) (
 Qez lb n jk a2 vp 0 (ml && false) (ga ++ [[CV.int .i64 2,CV.str [112,97,114,116,121]]])))
 else
 (bif (decide (b3 > 99)) then
 (chkO (room (ga.length + 1) 24) (
 Qez lb n jk a2 vp 0 (ml && false) (ga ++ [[CV.int .i64 2,CV.str [112,97,114,116,121]]])))
 else
 (Qez lb n jk a2 vp b3 ml ga)) := (Qac _).trans (by kernel_rfl)
theorem Qh6 (lb n k0 : Nat) (jk : Bool) (a2 : LL) (b3 : Int) (oi : Bool) (kO : LL) (yv : Int) :
 QdN lb n (k0 + 1) jk a2 b3 oi kO yv =
 bif (decide (yv < (a2.length : Int))) then
 (optO (C lb n Qdn [.int .i64 yv]) fun gz =>
 optO (CV.asS gz) fun kN =>
 chkO (decide (([112,101,114,115,111,110,32] : LB).length + kN.length ≤ 9223372036854775807)) (
 optO (atL a2 yv) fun oR =>
 chkO (oR.length == 3) (
 optO (oR[0]?) fun wx =>
 optO (oR[1]?) fun sT =>
 optO (oR[2]?) fun x66 =>
 optO (C lb n Qhg [.agg [wx,sT,x66]]) fun r67 =>
 optO (CV.asB r67) fun u9 =>
 bif (!u9) then
 (chkO (room (kO.length + 1) 24) (
 Qgh lb n k0 jk a2 b3 yv kN gz (oi && false) (kO ++ [[CV.int .i64 5,CV.str (([112,101,114,115,111,110,32] : LB) ++ kN)]])))
 else
 (Qgh lb n k0 jk a2 b3 yv kN gz oi kO))))
 else
 (Qix lb n jk a2 b3 oi kO yv) := (Qac _).trans (by kernel_rfl)
theorem Qsj (lb n : Nat) (jk : Bool) (a2 : LL) (b3 : Int) :
 top lb n QaA [.list jk a2, .int .i64 b3] =
 QdN lb n n jk a2 b3 true [] 0 := by kernel_rfl
theorem QsW (lb n : Nat) (vd vf yX : LB) :
 top lb n Qhg [.agg [.str vd, .str vf, .str yX]] =
 optO (C lb n QbN [.str vd]) fun r4 =>
 optO (CV.asB r4) fun b5 =>
 bif b5 then
 (optO (C lb n QbN [.str vf]) fun r6 =>
 some (r6))
 else
 (some (.bool false)) := by kernel_rfl
theorem QsX (lb n : Nat) (vd vf yX : LB) :
 top lb n Qhe [.agg [.str vd, .str vf, .str yX]] =
 optO (C lb n Qbx [.str yX, .int .i64 3, .int .i64 3]) fun r4 =>
 some (r4) := by kernel_rfl
noncomputable def Qee (lb n md : Nat) (jk : Bool) (a2 : LL) (ww yq oh : Int) : Option CV :=
 hold (Qav (E0 lb n 0 994) 0 (Qag (sub (B QbC) [1,1,0,1,0,0]) ++ []) [] (sub (B QbC) [1,1,0,1,0,0]) (Qak 0 (seqK (E0 lb n 0 997) (sub (B QbC) [1,1,0]) (sub (B QbC) [1,1,1]) (retK Tryz.prog (R QbC) 0 (outK (Qad Tryz.prog QbC))))) md ⟨fr 31 [(0, .val (.list jk a2)),(2,vB false),(3,vI ww),(4,vI yq),(5,vI oh)],[bx 31 []],KK⟩)
noncomputable def QnI (lb n : Nat) (jk : Bool) (a2 : LL) (p8 mh gp : Int) : Option CV :=
 hold (E0 lb n 0 997 (sub (B QbC) [1,1,1]) (retK Tryz.prog (R QbC) 0 (outK (Qad Tryz.prog QbC))) ⟨fr 31 [(0, .val (.list jk a2)),(2,vB false),(3,vI p8),(4,vI mh),(5,vI gp)],[bx 31 []],KK⟩)
theorem Qqf (lb n : Nat) (jk : Bool) (a2 : LL) (p8 mh gp : Int) :
 QnI lb n jk a2 p8 mh gp =
 some (.bool (decide (p8 ≤ mh))) := (Qac _).trans (by kernel_rfl)
theorem QiT (lb n md : Nat) (jk : Bool) (a2 : LL) (ww yq oh : Int) :
 Qee lb n (md + 1) jk a2 ww yq oh =
 bif (decide (oh < (a2.length : Int))) then
 (optO (atL a2 oh) fun om =>
 chkO (om.length == 3) (
 optO (om[2]?) fun wh =>
 optO (CV.asS wh) fun s28 =>
 bif (s28 == [73,78,70]) then
 (Qee lb n md jk a2 (IntKind.wrap .i64 (ww + 1)) yq (IntKind.wrap .i64 (oh + 1)))
 else
 (optO (atL a2 oh) fun ov =>
 chkO (ov.length == 3) (
 optO (ov[2]?) fun wc =>
 optO (CV.asS wc) fun s31 =>
 bif (!(s31 == [67,72,68])) then
 (Qee lb n md jk a2 ww (IntKind.wrap .i64 (yq + 1)) (IntKind.wrap .i64 (oh + 1)))
 else
 (Qee lb n md jk a2 ww yq (IntKind.wrap .i64 (oh + 1)))))))
 else
 (QnI lb n jk a2 ww yq oh) := (Qac _).trans (by kernel_rfl)
theorem Qs4 (lb n : Nat) (jk : Bool) (a2 : LL) :
 top lb n QbC [.list jk a2] =
 Qee lb n n jk a2 0 0 0 := by kernel_rfl
noncomputable def Qf8 (lb n kk : Nat) (jk : Bool) (a2 : LL) (i6 : Int) : Option CV :=
 hold (Qav (E0 lb n 0 995) 0 (Qag (sub (B Qaq) [1,0,1,0,0]) ++ []) [] (sub (B Qaq) [1,0,1,0,0]) (Qak 0 (seqK (E0 lb n 0 998) (sub (B Qaq) [1,0]) (sub (B Qaq) [1,1]) (retK Tryz.prog (R Qaq) 0 (outK (Qad Tryz.prog Qaq))))) kk ⟨fr 70 [(0, .val (.list jk a2)),(2,vI 0),(3,vI i6)],[bx 70 []],KK⟩)
noncomputable def Ql9 (lb n : Nat) (jk : Bool) (a2 : LL) (ww : Int) : Option CV :=
 hold (E0 lb n 0 998 (sub (B Qaq) [1,1]) (retK Tryz.prog (R Qaq) 0 (outK (Qad Tryz.prog Qaq))) ⟨fr 70 [(0, .val (.list jk a2)),(2,vI 0),(3,vI ww)],[bx 70 []],KK⟩)
noncomputable def Qeu (lb n yQ : Nat) (jk : Bool) (a2 : LL) (ww yj : Int) : Option CV :=
 hold (Qav (E0 lb n 0 994) 0 (Qag (sub (B Qaq) [1,1,0,1,0,0]) ++ [5,5]) [] (sub (B Qaq) [1,1,0,1,0,0]) (Qak 2 (seqK (E0 lb n 0 997) (sub (B Qaq) [1,1,0]) (sub (B Qaq) [1,1,1]) (retK Tryz.prog (R Qaq) 0 (outK (Qad Tryz.prog Qaq))))) yQ ⟨fr 70 [(0, .val (.list jk a2)),(2,vI 0),(3,vI ww),(4,vI yj)],[bx 70 []],KK⟩)
noncomputable def Qdf (lb n oW yQ : Nat) (jk : Bool) (a2 : LL) (ww yj kA : Int) : Option CV :=
 hold (Qav (E0 lb n 0 987) 0 (Qag (sub (B Qaq) [1,1,0,1,0,0,1,0,0,1,1,0,0]) ++ []) [] (sub (B Qaq) [1,1,0,1,0,0,1,0,0,1,1,0,0]) (Qak 4 (Qak 3 (seqK (E0 lb n 0 992) (sub (B Qaq) [1,1,0,1,0,0,1,0]) (sub (B Qaq) [1,1,0,1,0,0,1,1]) (QbG 0 (Qag (sub (B Qaq) [1,1,0,1,0,0]) ++ [5,5]) [] (Qav (E0 lb n 0 994) 0 (Qag (sub (B Qaq) [1,1,0,1,0,0]) ++ [5,5]) [] (sub (B Qaq) [1,1,0,1,0,0]) (Qak 2 (seqK (E0 lb n 0 997) (sub (B Qaq) [1,1,0]) (sub (B Qaq) [1,1,1]) (retK Tryz.prog (R Qaq) 0 (outK (Qad Tryz.prog Qaq))))) yQ) (Qak 2 (seqK (E0 lb n 0 997) (sub (B Qaq) [1,1,0]) (sub (B Qaq) [1,1,1]) (retK Tryz.prog (R Qaq) 0 (outK (Qad Tryz.prog Qaq))))))))) oW ⟨fr 70 [(0, .val (.list jk a2)),(2,vI 0),(3,vI ww),(4,vI yj),(5,vI kA),(34,vI yj),(35, .val (.int .i64 (IntKind.wrap .i64 (yj + 2))))],[bx 70 []],KK⟩)
noncomputable def QlM (lb n yQ : Nat) (jk : Bool) (a2 : LL) (ww yj pK : Int) : Option CV :=
 hold (E0 lb n 0 992 (sub (B Qaq) [1,1,0,1,0,0,1,1]) (QbG 0 (Qag (sub (B Qaq) [1,1,0,1,0,0]) ++ [5,5]) [] (Qav (E0 lb n 0 994) 0 (Qag (sub (B Qaq) [1,1,0,1,0,0]) ++ [5,5]) [] (sub (B Qaq) [1,1,0,1,0,0]) (Qak 2 (seqK (E0 lb n 0 997) (sub (B Qaq) [1,1,0]) (sub (B Qaq) [1,1,1]) (retK Tryz.prog (R Qaq) 0 (outK (Qad Tryz.prog Qaq))))) yQ) (Qak 2 (seqK (E0 lb n 0 997) (sub (B Qaq) [1,1,0]) (sub (B Qaq) [1,1,1]) (retK Tryz.prog (R Qaq) 0 (outK (Qad Tryz.prog Qaq)))))) ⟨fr 70 [(0, .val (.list jk a2)),(2,vI 0),(3,vI ww),(4,vI yj),(5,vI pK)],[bx 70 []],KK⟩)
theorem Qpv (lb n yQ : Nat) (jk : Bool) (a2 : LL) (ww yj pK : Int) :
 QlM lb n yQ jk a2 ww yj pK =
 Qeu lb n yQ jk a2 ww (IntKind.wrap .i64 (yj + 1)) := (Qac _).trans (by kernel_rfl)
theorem QhU (lb n oW yQ : Nat) (jk : Bool) (a2 : LL) (ww yj kA : Int) :
 Qdf lb n (oW + 1) yQ jk a2 ww yj kA =
 bif (decide (kA < (a2.length : Int))) then
 (optO (atL a2 yj) fun sk =>
 chkO (sk.length == 1) (
 optO (sk[0]?) fun zw =>
 optO (CV.asI .i64 zw) fun tq =>
 bif (decide (tq > 0)) then
 (optO (atL a2 kA) fun qp =>
 chkO (qp.length == 1) (
 optO (qp[0]?) fun ro =>
 optO (atL a2 yj) fun sM =>
 chkO (sM.length == 1) (
 optO (sM[0]?) fun ld =>
 optO (CV.asI .i64 ro) fun tn =>
 optO (CV.asI .i64 ld) fun tr =>
 bif (tn == tr) then
 (optO (atL a2 (IntKind.wrap .i64 (kA - 1))) fun qZ =>
 chkO (qZ.length == 1) (
 optO (qZ[0]?) fun tM =>
 optO (atL a2 yj) fun ql =>
 chkO (ql.length == 1) (
 optO (ql[0]?) fun l8 =>
 optO (CV.asI .i64 tM) fun rQ =>
 optO (CV.asI .i64 l8) fun rM =>
 bif (rQ != rM) then
 (some (.int .i64 18))
 else
 (Qdf lb n oW yQ jk a2 ww yj (IntKind.wrap .i64 (kA + 1))))))
 else
 (Qdf lb n oW yQ jk a2 ww yj (IntKind.wrap .i64 (kA + 1))))))
 else
 (Qdf lb n oW yQ jk a2 ww yj (IntKind.wrap .i64 (kA + 1)))))
 else
 (QlM lb n yQ jk a2 ww yj kA) := (Qac _).trans (by kernel_rfl)
noncomputable def Qmp (lb n : Nat) (jk : Bool) (a2 : LL) (ww pF : Int) : Option CV :=
 hold (E0 lb n 0 997 (sub (B Qaq) [1,1,1]) (retK Tryz.prog (R Qaq) 0 (outK (Qad Tryz.prog Qaq))) ⟨fr 70 [(0, .val (.list jk a2)),(2,vI 0),(3,vI ww),(4,vI pF)],[bx 70 []],KK⟩)
theorem Qpy (lb n : Nat) (jk : Bool) (a2 : LL) (ww pF : Int) :
 Qmp lb n jk a2 ww pF =
 some (.int .i64 0) := (Qac _).trans (by kernel_rfl)
theorem Qh7 (lb n yQ : Nat) (jk : Bool) (a2 : LL) (ww yj : Int) :
 Qeu lb n (yQ + 1) jk a2 ww yj =
 bif (decide (yj < (a2.length : Int))) then
 (optO (atL a2 yj) fun qu =>
 chkO (qu.length == 1) (
 optO (qu[0]?) fun tB =>
 optO (CV.asI .i64 tB) fun tC =>
 bif (decide (tC > 0)) then
 (optO (C lb n Qdv [.list jk a2, .int .i64 yj]) fun lK =>
 optO (CV.asB lK) fun zU =>
 bif (!zU) then
 (some (.int .i64 18))
 else
 (Qdf lb n n yQ jk a2 ww yj (IntKind.wrap .i64 (yj + 2))))
 else
 (Qdf lb n n yQ jk a2 ww yj (IntKind.wrap .i64 (yj + 2)))))
 else
 (Qmp lb n jk a2 ww yj) := (Qac _).trans (by kernel_rfl)
theorem QpB (lb n : Nat) (jk : Bool) (a2 : LL) (ww : Int) :
 Ql9 lb n jk a2 ww =
 Qeu lb n n jk a2 ww 0 := (Qac _).trans (by kernel_rfl)
theorem QhT (lb n kk : Nat) (jk : Bool) (a2 : LL) (i6 : Int) :
 Qf8 lb n (kk + 1) jk a2 i6 =
 bif (decide (i6 < (a2.length : Int))) then
 (optO (atL a2 i6) fun gS =>
 chkO (gS.length == 1) (
 optO (gS[0]?) fun ni =>
 optO (CV.asI .i64 ni) fun v8 =>
 bif (decide (v8 < 0)) then
 (some (.int .i64 2))
 else
 (Qf8 lb n kk jk a2 (IntKind.wrap .i64 (i6 + 1)))))
 else
 (Ql9 lb n jk a2 i6) := (Qac _).trans (by kernel_rfl)
theorem QrU (lb n : Nat) (jk : Bool) (a2 : LL) :
 top lb n Qaq [.list jk a2] =
 Qf8 lb n n jk a2 0 := by kernel_rfl
theorem Qoh (lb n : Nat) (jk : Bool) (a2 : LL) (b3 : Int) :
 top lb n Qdv [.list jk a2, .int .i64 b3] =
 bif (decide (b3 > 0)) then
 (optO (atL a2 (IntKind.wrap .i64 (b3 - 1))) fun c4 =>
 chkO (c4.length == 1) (
 optO (c4[0]?) fun x5 =>
 optO (atL a2 b3) fun c6 =>
 chkO (c6.length == 1) (
 optO (c6[0]?) fun x7 =>
 optO (CV.asI .i64 x5) fun i9 =>
 optO (CV.asI .i64 x7) fun tU =>
 bif (i9 == tU) then
 (some (.bool true))
 else
 (bif (decide ((IntKind.wrap .i64 (b3 + 1)) < (a2.length : Int))) then
 (optO (atL a2 (IntKind.wrap .i64 (b3 + 1))) fun ot =>
 chkO (ot.length == 1) (
 optO (ot[0]?) fun sn =>
 optO (atL a2 b3) fun jp =>
 chkO (jp.length == 1) (
 optO (jp[0]?) fun nC =>
 optO (CV.asI .i64 sn) fun ww =>
 optO (CV.asI .i64 nC) fun yq =>
 some (.bool (ww == yq)))))
 else
 (some (.bool false))))))
 else
 (bif (decide ((IntKind.wrap .i64 (b3 + 1)) < (a2.length : Int))) then
 (optO (atL a2 (IntKind.wrap .i64 (b3 + 1))) fun za =>
 chkO (za.length == 1) (
 optO (za[0]?) fun jr =>
 optO (atL a2 b3) fun c20 =>
 chkO (c20.length == 1) (
 optO (c20[0]?) fun jm =>
 optO (CV.asI .i64 jr) fun jP =>
 optO (CV.asI .i64 jm) fun qt =>
 some (.bool (jP == qt)))))
 else
 (some (.bool false))) := by kernel_rfl
theorem Qte (lb n : Nat) (a1 : Int) :
 top lb n QkQ [.int .i64 a1] =
 bif (decide (a1 ≤ 0)) then
 (some (.tup [.str [], .int .i64 8]))
 else
 (bif (decide (a1 > 7)) then
 (some (.tup [.str [], .int .i64 8]))
 else
 (optO (C lb n QjC []) fun r2 =>
 optO (CV.asL r2) fun p3 =>
 optO (atL p3.2 a1) fun c4 =>
 chkO (c4.length == 1) (
 optO (c4[0]?) fun x5 =>
 some (.tup [x5, .int .i64 0])))) := by kernel_rfl
theorem QrH (lb n : Nat)  :
 top lb n QjC [] =
 some (.list false [[CV.str []],[CV.str [72,75]],[CV.str [72,76]],[CV.str [75,76]],[CV.str [84,75]],[CV.str [85,78]],[CV.str [85,67]],[CV.str [88,88]]]) := by kernel_rfl
end Go.Proofs
