/- Equations of functions, printed by program. Conditions: none. -/
import Derived.Test.YtigmcfhmpcajlaaGreatDoorEv
namespace Go.Proofs
open Go.Am
set_option maxRecDepth 100000
set_option linter.unusedVariables false
noncomputable def r35_Check_J1 :=
 fun lb n aloc1 (ja : Bool) (aper3 : LL) je (jb : Bool) (aseg6 : LL) (jd : Bool) (aser9 : LL) jc (wX : Bool) (l14 : LL) =>
 hold (E0 lb n 0 997 (sub (B Qak) [1, 1, 1]) (retK Tryz.prog (R Qak) 0 (outK (Qae Tryz.prog Qak))) ⟨fr 140 [(0, .val (.agg [.str aloc1, .list ja aper3, .int .i64 je, .list jb aseg6, .list jd aser9, .int .i64 jc])), (1, .ptr 0 1 0), (2, .lst true true 61 []), (3, .lst true wX 61 l14)], [bx 140 [(1, some [vS aloc1, .val (.list ja aper3), vI je, .val (.list jb aseg6), .val (.list jd aser9), vI jc])]], KK⟩)
noncomputable def Qdq (lb n : Nat) (aloc1 : LB) (ja : Bool) (aper3 : LL) (je : Int) (jb : Bool) (aseg6 : LL) (jd : Bool) (aser9 : LL) (jc : Int) (jk : Bool) (l17 : LL) : Option CV :=
 hold (E0 lb n 0 996 (sub (B Qak) [1, 1, 1, 1]) (retK Tryz.prog (R Qak) 0 (outK (Qae Tryz.prog Qak))) ⟨fr 140 [(0, .val (.agg [.str aloc1, .list ja aper3, .int .i64 je, .list jb aseg6, .list jd aser9, .int .i64 jc])), (1, .ptr 0 1 0), (2, .lst true true 61 []), (3, .lst true jk 61 l17)], [bx 140 [(1, some [vS aloc1, .val (.list ja aper3), vI je, .val (.list jb aseg6), .val (.list jd aser9), vI jc])]], KK⟩)
noncomputable def Qdu (lb n : Nat) (aloc1 : LB) (ja : Bool) (aper3 : LL) (je : Int) (jb : Bool) (aseg6 : LL) (jd : Bool) (aser9 : LL) (jc : Int) (jk : Bool) (l17 : LL) (jg : CV) (jj : Bool × LL) (yX : Bool) (l21 : LL) : Option CV :=
 hold (E0 lb n 0 994 (sub (B Qak) [1, 1, 1, 1, 1, 1]) (retK Tryz.prog (R Qak) 0 (outK (Qae Tryz.prog Qak))) ⟨fr 140 [(0, .val (.agg [.str aloc1, .list ja aper3, .int .i64 je, .list jb aseg6, .list jd aser9, .int .i64 jc])), (1, .ptr 0 1 0), (2, .lst true true 61 []), (3, .lst true yX 61 l21), (31, .val (.list jk l17)), (32, .ptr 0 1 1), (33, .val (.list ja aper3)), (34, .ptr 0 1 2), (35, vI je), (36, vV jg), (37, .val (.list (jk && jj.2.isEmpty) (l17 ++ jj.2)))], [bx 140 [(1, some [vS aloc1, .val (.list ja aper3), vI je, .val (.list jb aseg6), .val (.list jd aser9), vI jc])]], KK⟩)
noncomputable def QeV (lb n : Nat) (aloc1 : LB) (ja : Bool) (aper3 : LL) (je : Int) (jb : Bool) (aseg6 : LL) (jd : Bool) (aser9 : LL) (jc : Int) (jl : CV) (jk : Bool) (l17 : LL) (jg : CV) (jj : Bool × LL) (jn : CV) (vj : Bool) (vQ : LL) : Option CV :=
 hold (E0 lb n 0 992 (sub (B Qak) [1, 1, 1, 1, 1, 1, 1, 1]) (retK Tryz.prog (R Qak) 0 (outK (Qae Tryz.prog Qak))) ⟨fr 140 [(0, .val (.agg [.str aloc1, .list ja aper3, .int .i64 je, .list jb aseg6, .list jd aser9, .int .i64 jc])), (1, .ptr 0 1 0), (2, .lst true true 61 []), (3, .lst true vj 61 vQ), (4, vV jl), (31, .val (.list jk l17)), (32, .ptr 0 1 1), (33, .val (.list ja aper3)), (34, .ptr 0 1 2), (35, vI je), (36, vV jg), (37, .val (.list (jk && jj.2.isEmpty) (l17 ++ jj.2))), (46, .val (.agg [.str aloc1, .list ja aper3, .int .i64 je, .list jb aseg6, .list jd aser9, .int .i64 jc])), (47, vV jn), (48, vV jl)], [bx 140 [(1, some [vS aloc1, .val (.list ja aper3), vI je, .val (.list jb aseg6), .val (.list jd aser9), vI jc])]], KK⟩)
noncomputable def QeO (lb n yv : Nat) (aloc1 : LB) (ja : Bool) (aper3 : LL) (je : Int) (jb : Bool) (aseg6 : LL) (jd : Bool) (aser9 : LL) (jc : Int) (jl : CV) (jk : Bool) (l17 : LL) (jg : CV) (jj : Bool × LL) (jn : CV) (yu : Bool) (ou : LL) (ye : Int) : Option CV :=
 hold (Qau (E0 lb n 0 988) 0 (Qaj (sub (B Qak) [1, 1, 1, 1, 1, 1, 1, 1, 0, 1, 0, 0]) ++ [6, 7, 7]) [] (sub (B Qak) [1, 1, 1, 1, 1, 1, 1, 1, 0, 1, 0, 0]) (Qal 0 (seqK (E0 lb n 0 991) (sub (B Qak) [1, 1, 1, 1, 1, 1, 1, 1, 0]) (sub (B Qak) [1, 1, 1, 1, 1, 1, 1, 1, 1]) (retK Tryz.prog (R Qak) 0 (outK (Qae Tryz.prog Qak))))) yv ⟨fr 140 [(0, .val (.agg [.str aloc1, .list ja aper3, .int .i64 je, .list jb aseg6, .list jd aser9, .int .i64 jc])), (1, .ptr 0 1 0), (2, .lst true true 61 []), (3, .lst true yu 61 ou), (4, vV jl), (5, vI ye), (31, .val (.list jk l17)), (32, .ptr 0 1 1), (33, .val (.list ja aper3)), (34, .ptr 0 1 2), (35, vI je), (36, vV jg), (37, .val (.list (jk && jj.2.isEmpty) (l17 ++ jj.2))), (46, .val (.agg [.str aloc1, .list ja aper3, .int .i64 je, .list jb aseg6, .list jd aser9, .int .i64 jc])), (47, vV jn), (48, vV jl)], [bx 140 [(1, some [vS aloc1, .val (.list ja aper3), vI je, .val (.list jb aseg6), .val (.list jd aser9), vI jc])]], KK⟩)
noncomputable def Qe0 (lb n kZ yv : Nat) (aloc1 : LB) (ja : Bool) (aper3 : LL) (je : Int) (jb : Bool) (aseg6 : LL) (jd : Bool) (aser9 : LL) (jc : Int) (jl : CV) (ye : Int) (yg : CV) (jk : Bool) (l17 : LL) (jg : CV) (jj : Bool × LL) (jn : CV) (c99 : List CV) (jv jt wF ju jr js jD jC jB yS : CV) (kO : Bool) (l118 : LL) (vM : Int) : Option CV :=
 hold (Qau (E0 lb n 0 981) 0 (Qaj (sub (B Qak) [1, 1, 1, 1, 1, 1, 1, 1, 0, 1, 0, 0, 1, 0, 0, 1, 1, 0, 0]) ++ []) [] (sub (B Qak) [1, 1, 1, 1, 1, 1, 1, 1, 0, 1, 0, 0, 1, 0, 0, 1, 1, 0, 0]) (Qal 2 (Qal 1 (seqK (E0 lb n 0 986) (sub (B Qak) [1, 1, 1, 1, 1, 1, 1, 1, 0, 1, 0, 0, 1, 0]) (sub (B Qak) [1, 1, 1, 1, 1, 1, 1, 1, 0, 1, 0, 0, 1, 1]) (QbK 0 (Qaj (sub (B Qak) [1, 1, 1, 1, 1, 1, 1, 1, 0, 1, 0, 0]) ++ [6, 7, 7]) [] (Qau (E0 lb n 0 988) 0 (Qaj (sub (B Qak) [1, 1, 1, 1, 1, 1, 1, 1, 0, 1, 0, 0]) ++ [6, 7, 7]) [] (sub (B Qak) [1, 1, 1, 1, 1, 1, 1, 1, 0, 1, 0, 0]) (Qal 0 (seqK (E0 lb n 0 991) (sub (B Qak) [1, 1, 1, 1, 1, 1, 1, 1, 0]) (sub (B Qak) [1, 1, 1, 1, 1, 1, 1, 1, 1]) (retK Tryz.prog (R Qak) 0 (outK (Qae Tryz.prog Qak))))) yv) (Qal 0 (seqK (E0 lb n 0 991) (sub (B Qak) [1, 1, 1, 1, 1, 1, 1, 1, 0]) (sub (B Qak) [1, 1, 1, 1, 1, 1, 1, 1, 1]) (retK Tryz.prog (R Qak) 0 (outK (Qae Tryz.prog Qak))))))))) kZ ⟨fr 140 [(0, .val (.agg [.str aloc1, .list ja aper3, .int .i64 je, .list jb aseg6, .list jd aser9, .int .i64 jc])), (1, .ptr 0 1 0), (2, .lst true true 61 []), (3, .lst true kO 61 l118), (4, vV jl), (5, vI ye), (6, vV yg), (7, vI vM), (31, .val (.list jk l17)), (32, .ptr 0 1 1), (33, .val (.list ja aper3)), (34, .ptr 0 1 2), (35, vI je), (36, vV jg), (37, .val (.list (jk && jj.2.isEmpty) (l17 ++ jj.2))), (46, .val (.agg [.str aloc1, .list ja aper3, .int .i64 je, .list jb aseg6, .list jd aser9, .int .i64 jc])), (47, vV jn), (48, vV jl), (63, .ptr 0 1 3), (64, .val (.list jb aseg6)), (65, vI ye), (66, .cptr c99 0), (67, .val (.agg [jv, jt, wF, ju, jr, js, jD, jC, jB, yS])), (68, vV yg)], [bx 140 [(1, some [vS aloc1, .val (.list ja aper3), vI je, .val (.list jb aseg6), .val (.list jd aser9), vI jc])]], KK⟩)
noncomputable def QlE (lb n yv : Nat) (aloc1 : LB) (ja : Bool) (aper3 : LL) (je : Int) (jb : Bool) (aseg6 : LL) (jd : Bool) (aser9 : LL) (jc : Int) (jl : CV) (ye : Int) (jk : Bool) (l17 : LL) (jg : CV) (jj : Bool × LL) (jn : CV) (k8 : Bool) (l134 : LL) (wu : CV) (kx : Int) : Option CV :=
 hold (E0 lb n 0 986 (sub (B Qak) [1, 1, 1, 1, 1, 1, 1, 1, 0, 1, 0, 0, 1, 1]) (QbK 0 (Qaj (sub (B Qak) [1, 1, 1, 1, 1, 1, 1, 1, 0, 1, 0, 0]) ++ [6, 7, 7]) [] (Qau (E0 lb n 0 988) 0 (Qaj (sub (B Qak) [1, 1, 1, 1, 1, 1, 1, 1, 0, 1, 0, 0]) ++ [6, 7, 7]) [] (sub (B Qak) [1, 1, 1, 1, 1, 1, 1, 1, 0, 1, 0, 0]) (Qal 0 (seqK (E0 lb n 0 991) (sub (B Qak) [1, 1, 1, 1, 1, 1, 1, 1, 0]) (sub (B Qak) [1, 1, 1, 1, 1, 1, 1, 1, 1]) (retK Tryz.prog (R Qak) 0 (outK (Qae Tryz.prog Qak))))) yv) (Qal 0 (seqK (E0 lb n 0 991) (sub (B Qak) [1, 1, 1, 1, 1, 1, 1, 1, 0]) (sub (B Qak) [1, 1, 1, 1, 1, 1, 1, 1, 1]) (retK Tryz.prog (R Qak) 0 (outK (Qae Tryz.prog Qak)))))) ⟨fr 140 [(0, .val (.agg [.str aloc1, .list ja aper3, .int .i64 je, .list jb aseg6, .list jd aser9, .int .i64 jc])), (1, .ptr 0 1 0), (2, .lst true true 61 []), (3, .lst true k8 61 l134), (4, vV jl), (5, vI ye), (6, vV wu), (7, vI kx), (31, .val (.list jk l17)), (32, .ptr 0 1 1), (33, .val (.list ja aper3)), (34, .ptr 0 1 2), (35, vI je), (36, vV jg), (37, .val (.list (jk && jj.2.isEmpty) (l17 ++ jj.2))), (46, .val (.agg [.str aloc1, .list ja aper3, .int .i64 je, .list jb aseg6, .list jd aser9, .int .i64 jc])), (47, vV jn), (48, vV jl)], [bx 140 [(1, some [vS aloc1, .val (.list ja aper3), vI je, .val (.list jb aseg6), .val (.list jd aser9), vI jc])]], KK⟩)
theorem QoY (lb n yv : Nat) (aloc1 : LB) (ja : Bool) (aper3 : LL) (je : Int) (jb : Bool) (aseg6 : LL) (jd : Bool) (aser9 : LL) (jc : Int) (jl : CV) (ye : Int) (jk : Bool) (l17 : LL) (jg : CV) (jj : Bool × LL) (jn : CV) (k8 : Bool) (l134 : LL) (wu : CV) (kx : Int) :
 QlE lb n yv aloc1 ja aper3 je jb aseg6 jd aser9 jc jl ye jk l17 jg jj jn k8 l134 wu kx =
 QeO lb n yv aloc1 ja aper3 je jb aseg6 jd aser9 jc jl jk l17 jg jj jn k8 l134 (IntKind.wrap .i64 (ye + 1)) := (Qaf _).trans (by kernel_rfl)
theorem Qh2 (lb n kZ yv : Nat) (aloc1 : LB) (ja : Bool) (aper3 : LL) (je : Int) (jb : Bool) (aseg6 : LL) (jd : Bool) (aser9 : LL) (jc : Int) (jl : CV) (ye : Int) (yg : CV) (jk : Bool) (l17 : LL) (jg : CV) (jj : Bool × LL) (jn : CV) (c99 : List CV) (jv jt wF ju jr js jD jC jB yS : CV) (kO : Bool) (l118 : LL) (vM : Int) :
 Qe0 lb n (kZ + 1) yv aloc1 ja aper3 je jb aseg6 jd aser9 jc jl ye yg jk l17 jg jj jn c99 jv jt wF ju jr js jD jC jB yS kO l118 vM =
 optO (CV.asL yg) fun qm =>
 bif (decide (vM < (qm.2.length : Int))) then
 (optO (CV.asL yg) fun pF =>
 optO (atL pF.2 vM) fun c129 =>
 chkO (c129.length == 1) (
 optO (c129[0]?) fun y6 =>
 optO (C lb n QdA [.int .i64 ye]) fun pw =>
 optO (CV.asS pw) fun s132 =>
 chkO (decide (([115, 101, 103, 32] : LB).length + s132.length ≤ 9223372036854775807)) (
 chkO (CV.isCell y6) (
 chkO (room (l118.length + 1) 24) (
 Qe0 lb n kZ yv aloc1 ja aper3 je jb aseg6 jd aser9 jc jl ye yg jk l17 jg jj jn c99 jv jt wF ju jr js jD jC jB yS (kO && false) (l118 ++ [[y6, CV.str (([115, 101, 103, 32] : LB) ++ s132)]]) (IntKind.wrap .i64 (vM + 1)))))))
 else
 (QlE lb n yv aloc1 ja aper3 je jb aseg6 jd aser9 jc jl ye jk l17 jg jj jn kO l118 yg vM) := (Qaf _).trans (by kernel_rfl)
noncomputable def QiX (lb n : Nat) (aloc1 : LB) (ja : Bool) (aper3 : LL) (je : Int) (jb : Bool) (aseg6 : LL) (jd : Bool) (aser9 : LL) (jc : Int) (jl : CV) (jk : Bool) (l17 : LL) (jg : CV) (jj : Bool × LL) (jn : CV) (oa : Bool) (oi : LL) (wp : Int) : Option CV :=
 hold (E0 lb n 0 991 (sub (B Qak) [1, 1, 1, 1, 1, 1, 1, 1, 1]) (retK Tryz.prog (R Qak) 0 (outK (Qae Tryz.prog Qak))) ⟨fr 140 [(0, .val (.agg [.str aloc1, .list ja aper3, .int .i64 je, .list jb aseg6, .list jd aser9, .int .i64 jc])), (1, .ptr 0 1 0), (2, .lst true true 61 []), (3, .lst true oa 61 oi), (4, vV jl), (5, vI wp), (31, .val (.list jk l17)), (32, .ptr 0 1 1), (33, .val (.list ja aper3)), (34, .ptr 0 1 2), (35, vI je), (36, vV jg), (37, .val (.list (jk && jj.2.isEmpty) (l17 ++ jj.2))), (46, .val (.agg [.str aloc1, .list ja aper3, .int .i64 je, .list jb aseg6, .list jd aser9, .int .i64 jc])), (47, vV jn), (48, vV jl)], [bx 140 [(1, some [vS aloc1, .val (.list ja aper3), vI je, .val (.list jb aseg6), .val (.list jd aser9), vI jc])]], KK⟩)
noncomputable def QbN (lb n yk : Nat) (aloc1 : LB) (ja : Bool) (aper3 : LL) (je : Int) (jb : Bool) (aseg6 : LL) (jd : Bool) (aser9 : LL) (jc : Int) (jl : CV) (wp : Int) (jk : Bool) (l17 : LL) (jg : CV) (jj : Bool × LL) (jn : CV) (vW : Bool) (l184 : LL) (jP : Int) : Option CV :=
 hold (Qau (E0 lb n 0 987) 0 (Qaj (sub (B Qak) [1, 1, 1, 1, 1, 1, 1, 1, 1, 0, 1, 0, 0]) ++ [10]) [9] (sub (B Qak) [1, 1, 1, 1, 1, 1, 1, 1, 1, 0, 1, 0, 0]) (Qal 4 (seqK (E0 lb n 0 990) (sub (B Qak) [1, 1, 1, 1, 1, 1, 1, 1, 1, 0]) (sub (B Qak) [1, 1, 1, 1, 1, 1, 1, 1, 1, 1]) (retK Tryz.prog (R Qak) 0 (outK (Qae Tryz.prog Qak))))) yk ⟨fr 140 [(0, .val (.agg [.str aloc1, .list ja aper3, .int .i64 je, .list jb aseg6, .list jd aser9, .int .i64 jc])), (1, .ptr 0 1 0), (2, .lst true true 61 []), (3, .lst true vW 61 l184), (4, vV jl), (5, vI wp), (8, vI jP), (31, .val (.list jk l17)), (32, .ptr 0 1 1), (33, .val (.list ja aper3)), (34, .ptr 0 1 2), (35, vI je), (36, vV jg), (37, .val (.list (jk && jj.2.isEmpty) (l17 ++ jj.2))), (46, .val (.agg [.str aloc1, .list ja aper3, .int .i64 je, .list jb aseg6, .list jd aser9, .int .i64 jc])), (47, vV jn), (48, vV jl)], [bx 140 [(1, some [vS aloc1, .val (.list ja aper3), vI je, .val (.list jb aseg6), .val (.list jd aser9), vI jc])]], KK⟩)
noncomputable def Qeo (lb n yk : Nat) (aloc1 : LB) (ja : Bool) (aper3 : LL) (je : Int) (jb : Bool) (aseg6 : LL) (jd : Bool) (aser9 : LL) (jc : Int) (jl : CV) (wp jP : Int) (s208 : LB) (jk : Bool) (l17 : LL) (jg : CV) (jj : Bool × LL) (jn : CV) (c203 : List CV) (yP yM wW vh : CV) (vl : Bool) (l212 : LL) : Option CV :=
 hold (E0 lb n 0 982 (sub (B Qak) [1, 1, 1, 1, 1, 1, 1, 1, 1, 0, 1, 0, 0, 1, 0, 0, 1, 1]) (Qal 5 (seqK (E0 lb n 0 985) (sub (B Qak) [1, 1, 1, 1, 1, 1, 1, 1, 1, 0, 1, 0, 0, 1, 0]) (sub (B Qak) [1, 1, 1, 1, 1, 1, 1, 1, 1, 0, 1, 0, 0, 1, 1]) (QbK 0 (Qaj (sub (B Qak) [1, 1, 1, 1, 1, 1, 1, 1, 1, 0, 1, 0, 0]) ++ [10]) [9] (Qau (E0 lb n 0 987) 0 (Qaj (sub (B Qak) [1, 1, 1, 1, 1, 1, 1, 1, 1, 0, 1, 0, 0]) ++ [10]) [9] (sub (B Qak) [1, 1, 1, 1, 1, 1, 1, 1, 1, 0, 1, 0, 0]) (Qal 4 (seqK (E0 lb n 0 990) (sub (B Qak) [1, 1, 1, 1, 1, 1, 1, 1, 1, 0]) (sub (B Qak) [1, 1, 1, 1, 1, 1, 1, 1, 1, 1]) (retK Tryz.prog (R Qak) 0 (outK (Qae Tryz.prog Qak))))) yk) (Qal 4 (seqK (E0 lb n 0 990) (sub (B Qak) [1, 1, 1, 1, 1, 1, 1, 1, 1, 0]) (sub (B Qak) [1, 1, 1, 1, 1, 1, 1, 1, 1, 1]) (retK Tryz.prog (R Qak) 0 (outK (Qae Tryz.prog Qak)))))))) ⟨fr 140 [(0, .val (.agg [.str aloc1, .list ja aper3, .int .i64 je, .list jb aseg6, .list jd aser9, .int .i64 jc])), (1, .ptr 0 1 0), (2, .lst true true 61 []), (3, .lst true vl 61 l212), (4, vV jl), (5, vI wp), (8, vI jP), (9, .ptr 0 9 0), (10, .val (.str (([115, 101, 114, 118, 105, 99, 101, 32] : LB) ++ s208))), (31, .val (.list jk l17)), (32, .ptr 0 1 1), (33, .val (.list ja aper3)), (34, .ptr 0 1 2), (35, vI je), (36, vV jg), (37, .val (.list (jk && jj.2.isEmpty) (l17 ++ jj.2))), (46, .val (.agg [.str aloc1, .list ja aper3, .int .i64 je, .list jb aseg6, .list jd aser9, .int .i64 jc])), (47, vV jn), (48, vV jl), (93, .ptr 0 1 4), (94, .val (.list jd aser9)), (95, vI jP), (96, .cptr c203 0), (97, .val (.agg [yP, yM, wW])), (98, vI jP), (99, vV vh), (100, .val (.str (([115, 101, 114, 118, 105, 99, 101, 32] : LB) ++ s208)))], [bx 140 [(1, some [vS aloc1, .val (.list ja aper3), vI je, .val (.list jb aseg6), .val (.list jd aser9), vI jc]), (9, some [.val yP, .val yM, .val wW])]], KK⟩)
theorem QnO (lb n yk : Nat) (aloc1 : LB) (ja : Bool) (aper3 : LL) (je : Int) (jb : Bool) (aseg6 : LL) (jd : Bool) (aser9 : LL) (jc : Int) (jl : CV) (wp jP : Int) (s208 : LB) (jk : Bool) (l17 : LL) (jg : CV) (jj : Bool × LL) (jn : CV) (c203 : List CV) (yP yM wW vh : CV) (vl : Bool) (l212 : LL) :
 Qeo lb n yk aloc1 ja aper3 je jb aseg6 jd aser9 jc jl wp jP s208 jk l17 jg jj jn c203 yP yM wW vh vl l212 =
 optO (CV.asI .i64 yM) fun qe =>
 bif (decide (qe < 0)) then
 (chkO (room (l212.length + 1) 24) (
 QbN lb n yk aloc1 ja aper3 je jb aseg6 jd aser9 jc jl wp jk l17 jg jj jn (vl && false) (l212 ++ [[CV.int .i64 7, CV.str (([115, 101, 114, 118, 105, 99, 101, 32] : LB) ++ s208)]]) (IntKind.wrap .i64 (jP + 1))))
 else
 (optO (CV.asI .i64 yM) fun qr =>
 bif (decide (qr ≥ (aper3.length : Int))) then
 (chkO (room (l212.length + 1) 24) (
 QbN lb n yk aloc1 ja aper3 je jb aseg6 jd aser9 jc jl wp jk l17 jg jj jn (vl && false) (l212 ++ [[CV.int .i64 7, CV.str (([115, 101, 114, 118, 105, 99, 101, 32] : LB) ++ s208)]]) (IntKind.wrap .i64 (jP + 1))))
 else
 (optO (CV.asI .i64 wW) fun oW =>
 bif (decide (oW < 0)) then
 (chkO (room (l212.length + 1) 24) (
 QbN lb n yk aloc1 ja aper3 je jb aseg6 jd aser9 jc jl wp jk l17 jg jj jn (vl && false) (l212 ++ [[CV.int .i64 7, CV.str (([115, 101, 114, 118, 105, 99, 101, 32] : LB) ++ s208)]]) (IntKind.wrap .i64 (jP + 1))))
 else
 (optO (CV.asI .i64 wW) fun oL =>
 bif (decide (oL ≥ (aseg6.length : Int))) then
 (chkO (room (l212.length + 1) 24) (
 QbN lb n yk aloc1 ja aper3 je jb aseg6 jd aser9 jc jl wp jk l17 jg jj jn (vl && false) (l212 ++ [[CV.int .i64 7, CV.str (([115, 101, 114, 118, 105, 99, 101, 32] : LB) ++ s208)]]) (IntKind.wrap .i64 (jP + 1))))
 else
 (QbN lb n yk aloc1 ja aper3 je jb aseg6 jd aser9 jc jl wp jk l17 jg jj jn vl l212 (IntKind.wrap .i64 (jP + 1)))))) := (Qaf _).trans (by kernel_rfl)
noncomputable def Qk2 (lb n : Nat) (aloc1 : LB) (ja : Bool) (aper3 : LL) (je : Int) (jb : Bool) (aseg6 : LL) (jd : Bool) (aser9 : LL) (jc : Int) (jl : CV) (wp : Int) (jk : Bool) (l17 : LL) (jg : CV) (jj : Bool × LL) (jn : CV) (ol : Bool) (kW : LL) (o5 : Int) : Option CV :=
 hold (E0 lb n 0 990 (sub (B Qak) [1, 1, 1, 1, 1, 1, 1, 1, 1, 1]) (retK Tryz.prog (R Qak) 0 (outK (Qae Tryz.prog Qak))) ⟨fr 140 [(0, .val (.agg [.str aloc1, .list ja aper3, .int .i64 je, .list jb aseg6, .list jd aser9, .int .i64 jc])), (1, .ptr 0 1 0), (2, .lst true true 61 []), (3, .lst true ol 61 kW), (4, vV jl), (5, vI wp), (8, vI o5), (31, .val (.list jk l17)), (32, .ptr 0 1 1), (33, .val (.list ja aper3)), (34, .ptr 0 1 2), (35, vI je), (36, vV jg), (37, .val (.list (jk && jj.2.isEmpty) (l17 ++ jj.2))), (46, .val (.agg [.str aloc1, .list ja aper3, .int .i64 je, .list jb aseg6, .list jd aser9, .int .i64 jc])), (47, vV jn), (48, vV jl)], [bx 140 [(1, some [vS aloc1, .val (.list ja aper3), vI je, .val (.list jb aseg6), .val (.list jd aser9), vI jc])]], KK⟩)
theorem QnI (lb n : Nat) (aloc1 : LB) (ja : Bool) (aper3 : LL) (je : Int) (jb : Bool) (aseg6 : LL) (jd : Bool) (aser9 : LL) (jc : Int) (jl : CV) (wp : Int) (jk : Bool) (l17 : LL) (jg : CV) (jj : Bool × LL) (jn : CV) (ol : Bool) (kW : LL) (o5 : Int) :
 Qk2 lb n aloc1 ja aper3 je jb aseg6 jd aser9 jc jl wp jk l17 jg jj jn ol kW o5 =
 some (.list ol kW) := (Qaf _).trans (by kernel_rfl)
theorem Qib (lb n yk : Nat) (aloc1 : LB) (ja : Bool) (aper3 : LL) (je : Int) (jb : Bool) (aseg6 : LL) (jd : Bool) (aser9 : LL) (jc : Int) (jl : CV) (wp : Int) (jk : Bool) (l17 : LL) (jg : CV) (jj : Bool × LL) (jn : CV) (vW : Bool) (l184 : LL) (jP : Int) :
 QbN lb n (yk + 1) aloc1 ja aper3 je jb aseg6 jd aser9 jc jl wp jk l17 jg jj jn vW l184 jP =
 bif (decide (jP < (aser9.length : Int))) then
 (optO (atL aser9 jP) fun c203 =>
 chkO (c203.length == 3) (
 optO (c203[0]?) fun yP =>
 optO (c203[1]?) fun yM =>
 optO (c203[2]?) fun wW =>
 optO (C lb n QdA [.int .i64 jP]) fun vh =>
 optO (CV.asS vh) fun s208 =>
 chkO (decide (([115, 101, 114, 118, 105, 99, 101, 32] : LB).length + s208.length ≤ 9223372036854775807)) (
 optO (C lb n QbC [yP, .int .i64 4, .int .i64 4]) fun yZ =>
 optO (CV.asB yZ) fun qd =>
 bif (!qd) then
 (chkO (room (l184.length + 1) 24) (
 Qeo lb n yk aloc1 ja aper3 je jb aseg6 jd aser9 jc jl wp jP s208 jk l17 jg jj jn c203 yP yM wW vh (vW && false) (l184 ++ [[CV.int .i64 5, CV.str (([115, 101, 114, 118, 105, 99, 101, 32] : LB) ++ s208)]])))
 else
 (Qeo lb n yk aloc1 ja aper3 je jb aseg6 jd aser9 jc jl wp jP s208 jk l17 jg jj jn c203 yP yM wW vh vW l184))))
 else
 (Qk2 lb n aloc1 ja aper3 je jb aseg6 jd aser9 jc jl wp jk l17 jg jj jn vW l184 jP) := (Qaf _).trans (by kernel_rfl)
theorem Qoe (lb n : Nat) (aloc1 : LB) (ja : Bool) (aper3 : LL) (je : Int) (jb : Bool) (aseg6 : LL) (jd : Bool) (aser9 : LL) (jc : Int) (jl : CV) (jk : Bool) (l17 : LL) (jg : CV) (jj : Bool × LL) (jn : CV) (oa : Bool) (oi : LL) (wp : Int) :
 QiX lb n aloc1 ja aper3 je jb aseg6 jd aser9 jc jl jk l17 jg jj jn oa oi wp =
 QbN lb n n aloc1 ja aper3 je jb aseg6 jd aser9 jc jl wp jk l17 jg jj jn oa oi 0 := (Qaf _).trans (by kernel_rfl)
theorem Qh9 (lb n yv : Nat) (aloc1 : LB) (ja : Bool) (aper3 : LL) (je : Int) (jb : Bool) (aseg6 : LL) (jd : Bool) (aser9 : LL) (jc : Int) (jl : CV) (jk : Bool) (l17 : LL) (jg : CV) (jj : Bool × LL) (jn : CV) (yu : Bool) (ou : LL) (ye : Int) :
 QeO lb n (yv + 1) aloc1 ja aper3 je jb aseg6 jd aser9 jc jl jk l17 jg jj jn yu ou ye =
 bif (decide (ye < (aseg6.length : Int))) then
 (optO (atL aseg6 ye) fun c99 =>
 chkO (c99.length == 10) (
 optO (c99[0]?) fun jv =>
 optO (c99[1]?) fun jt =>
 optO (c99[2]?) fun wF =>
 optO (c99[3]?) fun ju =>
 optO (c99[4]?) fun jr =>
 optO (c99[5]?) fun js =>
 optO (c99[6]?) fun jD =>
 optO (c99[7]?) fun jC =>
 optO (c99[8]?) fun jB =>
 optO (c99[9]?) fun yS =>
 optO (C lb n Qbd [.agg [jv, jt, wF, ju, jr, js, jD, jC, jB, yS]]) fun yg =>
 Qe0 lb n n yv aloc1 ja aper3 je jb aseg6 jd aser9 jc jl ye yg jk l17 jg jj jn c99 jv jt wF ju jr js jD jC jB yS yu ou 0))
 else
 (QiX lb n aloc1 ja aper3 je jb aseg6 jd aser9 jc jl jk l17 jg jj jn yu ou ye) := (Qaf _).trans (by kernel_rfl)
theorem QoS (lb n : Nat) (aloc1 : LB) (ja : Bool) (aper3 : LL) (je : Int) (jb : Bool) (aseg6 : LL) (jd : Bool) (aser9 : LL) (jc : Int) (jl : CV) (jk : Bool) (l17 : LL) (jg : CV) (jj : Bool × LL) (jn : CV) (vj : Bool) (vQ : LL) :
 QeV lb n aloc1 ja aper3 je jb aseg6 jd aser9 jc jl jk l17 jg jj jn vj vQ =
 QeO lb n n aloc1 ja aper3 je jb aseg6 jd aser9 jc jl jk l17 jg jj jn vj vQ 0 := (Qaf _).trans (by kernel_rfl)
theorem QoH (lb n : Nat) (aloc1 : LB) (ja : Bool) (aper3 : LL) (je : Int) (jb : Bool) (aseg6 : LL) (jd : Bool) (aser9 : LL) (jc : Int) (jk : Bool) (l17 : LL) (jg : CV) (jj : Bool × LL) (yX : Bool) (l21 : LL) :
 Qdu lb n aloc1 ja aper3 je jb aseg6 jd aser9 jc jk l17 jg jj yX l21 =
 optO (C lb n Qbj [.agg [.str aloc1, .list ja aper3, .int .i64 je, .list jb aseg6, .list jd aser9, .int .i64 jc]]) fun jn =>
 optO (C lb n Qar [jn]) fun jl =>
 optO (CV.asI .i64 jl) fun vm =>
 bif (vm != 0) then
 (chkO (CV.isCell jl) (
 chkO (room (l21.length + 1) 24) (
 QeV lb n aloc1 ja aper3 je jb aseg6 jd aser9 jc jl jk l17 jg jj jn (yX && false) (l21 ++ [[jl, CV.str [115, 101, 103, 115]]]))))
 else
 (QeV lb n aloc1 ja aper3 je jb aseg6 jd aser9 jc jl jk l17 jg jj jn yX l21) := (Qaf _).trans (by kernel_rfl)
theorem QoM (lb n : Nat) (aloc1 : LB) (ja : Bool) (aper3 : LL) (je : Int) (jb : Bool) (aseg6 : LL) (jd : Bool) (aser9 : LL) (jc : Int) (jk : Bool) (l17 : LL) :
 Qdq lb n aloc1 ja aper3 je jb aseg6 jd aser9 jc jk l17 =
 optO (C lb n QaA [.list ja aper3, .int .i64 je]) fun jg =>
 optO (CV.asL jg) fun jj =>
 chkO (jj.2.all (·.length == 2)) (
 chkO (room (l17.length + jj.2.length) 24) (
 bif (decide ((aseg6.length : Int) > 24)) then
 (chkO (room ((l17 ++ jj.2).length + 1) 24) (
 Qdu lb n aloc1 ja aper3 je jb aseg6 jd aser9 jc jk l17 jg jj ((jk && jj.2.isEmpty) && false) ((l17 ++ jj.2) ++ [[CV.int .i64 4, CV.str [115, 101, 103, 115]]])))
 else
 (Qdu lb n aloc1 ja aper3 je jb aseg6 jd aser9 jc jk l17 jg jj (jk && jj.2.isEmpty) (l17 ++ jj.2)))) := (Qaf _).trans (by kernel_rfl)
theorem Qot (lb n : Nat) (aloc1 : LB) (ja : Bool) (aper3 : LL) (je : Int) (jb : Bool) (aseg6 : LL) (jd : Bool) (aser9 : LL) (jc : Int) (wX : Bool) (l14 : LL) :
 r35_Check_J1 lb n aloc1 ja aper3 je jb aseg6 jd aser9 jc wX l14 =
 bif (decide (jc < 0)) then
 (chkO (room (l14.length + 1) 24) (
 Qdq lb n aloc1 ja aper3 je jb aseg6 jd aser9 jc (wX && false) (l14 ++ [[CV.int .i64 13, CV.str [108, 105, 109, 105, 116]]])))
 else
 (bif (decide (jc ≥ 52596000)) then
 (chkO (room (l14.length + 1) 24) (
 Qdq lb n aloc1 ja aper3 je jb aseg6 jd aser9 jc (wX && false) (l14 ++ [[CV.int .i64 13, CV.str [108, 105, 109, 105, 116]]])))
 else
 (Qdq lb n aloc1 ja aper3 je jb aseg6 jd aser9 jc wX l14)) := (Qaf _).trans (by kernel_rfl)
theorem Qr1 (lb n : Nat) (aloc1 : LB) (ja : Bool) (aper3 : LL) (je : Int) (jb : Bool) (aseg6 : LL) (jd : Bool) (aser9 : LL) (jc : Int) :
 top lb n Qak [.agg [.str aloc1, .list ja aper3, .int .i64 je, .list jb aseg6, .list jd aser9, .int .i64 jc]] =
 optO (C lb n Qh0 [.str aloc1]) fun kU =>
 optO (CV.asB kU) fun b12 =>
 bif (!b12) then
 (r35_Check_J1 lb n aloc1 ja aper3 je jb aseg6 jd aser9 jc false [[CV.int .i64 5, CV.str [108, 111, 99, 97, 116, 111, 114]]])
 else
 (r35_Check_J1 lb n aloc1 ja aper3 je jb aseg6 jd aser9 jc true []) := by kernel_rfl
theorem QpR (lb n : Nat) (a1 : LB) :
 top lb n Qh0 [.str a1] =
 optO (C lb n QbC [.str a1, .int .i64 6, .int .i64 6]) fun r2 =>
 some (r2) := by kernel_rfl
noncomputable def Qe5 (lb n vT : Nat) (aloc1 : LB) (ja : Bool) (aper3 : LL) (je : Int) (jb : Bool) (aseg6 : LL) (jd : Bool) (aser9 : LL) (jc : Int) (wX : Bool) (l14 : LL) (jW : Int) : Option CV :=
 hold (Qau (E0 lb n 0 994) 0 (Qaj (sub (B Qbj) [1, 1, 0, 1, 0, 0]) ++ []) [] (sub (B Qbj) [1, 1, 0, 1, 0, 0]) (Qal 0 (seqK (E0 lb n 0 997) (sub (B Qbj) [1, 1, 0]) (sub (B Qbj) [1, 1, 1]) (retK Tryz.prog (R Qbj) 0 (outK (Qae Tryz.prog Qbj))))) vT ⟨fr 22 [(0, .val (.agg [.str aloc1, .list ja aper3, .int .i64 je, .list jb aseg6, .list jd aser9, .int .i64 jc])), (1, .ptr 0 1 0), (2, .lst true true 3 []), (3, .lst true wX 3 l14), (4, vI jW)], [bx 22 [(1, some [vS aloc1, .val (.list ja aper3), vI je, .val (.list jb aseg6), .val (.list jd aser9), vI jc])]], KK⟩)
noncomputable def Qka (lb n : Nat) (aloc1 : LB) (ja : Bool) (aper3 : LL) (je : Int) (jb : Bool) (aseg6 : LL) (jd : Bool) (aser9 : LL) (jc : Int) (gC : Bool) (gn : LL) (vm : Int) : Option CV :=
 hold (E0 lb n 0 997 (sub (B Qbj) [1, 1, 1]) (retK Tryz.prog (R Qbj) 0 (outK (Qae Tryz.prog Qbj))) ⟨fr 22 [(0, .val (.agg [.str aloc1, .list ja aper3, .int .i64 je, .list jb aseg6, .list jd aser9, .int .i64 jc])), (1, .ptr 0 1 0), (2, .lst true true 3 []), (3, .lst true gC 3 gn), (4, vI vm)], [bx 22 [(1, some [vS aloc1, .val (.list ja aper3), vI je, .val (.list jb aseg6), .val (.list jd aser9), vI jc])]], KK⟩)
theorem Qm6 (lb n : Nat) (aloc1 : LB) (ja : Bool) (aper3 : LL) (je : Int) (jb : Bool) (aseg6 : LL) (jd : Bool) (aser9 : LL) (jc : Int) (gC : Bool) (gn : LL) (vm : Int) :
 Qka lb n aloc1 ja aper3 je jb aseg6 jd aser9 jc gC gn vm =
 some (.list gC gn) := (Qaf _).trans (by kernel_rfl)
theorem QgN (lb n vT : Nat) (aloc1 : LB) (ja : Bool) (aper3 : LL) (je : Int) (jb : Bool) (aseg6 : LL) (jd : Bool) (aser9 : LL) (jc : Int) (wX : Bool) (l14 : LL) (jW : Int) :
 Qe5 lb n (vT + 1) aloc1 ja aper3 je jb aseg6 jd aser9 jc wX l14 jW =
 bif (decide (jW < (aseg6.length : Int))) then
 (optO (atL aseg6 jW) fun c20 =>
 chkO (c20.length == 10) (
 optO (c20[9]?) fun jL =>
 chkO (CV.isCell jL) (
 chkO (room (l14.length + 1) 8) (
 Qe5 lb n vT aloc1 ja aper3 je jb aseg6 jd aser9 jc (wX && false) (l14 ++ [[jL]]) (IntKind.wrap .i64 (jW + 1))))))
 else
 (Qka lb n aloc1 ja aper3 je jb aseg6 jd aser9 jc wX l14 jW) := (Qaf _).trans (by kernel_rfl)
theorem QpU (lb n : Nat) (aloc1 : LB) (ja : Bool) (aper3 : LL) (je : Int) (jb : Bool) (aseg6 : LL) (jd : Bool) (aser9 : LL) (jc : Int) :
 top lb n Qbj [.agg [.str aloc1, .list ja aper3, .int .i64 je, .list jb aseg6, .list jd aser9, .int .i64 jc]] =
 Qe5 lb n n aloc1 ja aper3 je jb aseg6 jd aser9 jc true [] 0 := by kernel_rfl
noncomputable def Qdi (lb n : Nat) (awansegcar1 : LB) (awansegnum2 awansegday3 : Int) (awansegfro4 jh : LB) (awansegdep6 awansegarr7 : Int) (jm : LB) (jp jq : Int) (yB : Bool) (l15 : LL) : Option CV :=
 hold (E0 lb n 0 996 (sub (B Qbd) [1, 1, 1, 1]) (retK Tryz.prog (R Qbd) 0 (outK (Qae Tryz.prog Qbd))) ⟨fr 67 [(0, .val (.agg [.str awansegcar1, .int .i64 awansegnum2, .int .i64 awansegday3, .str awansegfro4, .str jh, .int .i64 awansegdep6, .int .i64 awansegarr7, .str jm, .int .i64 jp, .int .i64 jq])), (1, .ptr 0 1 0), (2, .lst true true 31 []), (3, .lst true yB 31 l15), (4, .ptr 0 4 0), (7, .ptr 0 1 0), (8, .ptr 0 1 0), (9, .val (.agg [.str awansegcar1, .int .i64 awansegnum2, .int .i64 awansegday3, .str awansegfro4, .str jh, .int .i64 awansegdep6, .int .i64 awansegarr7]))], [bx 67 [(1, some [vS awansegcar1, vI awansegnum2, vI awansegday3, vS awansegfro4, vS jh, vI awansegdep6, vI awansegarr7, vS jm, vI jp, vI jq]), (4, some [vS awansegcar1, vI awansegnum2, vI awansegday3, vS awansegfro4, vS jh, vI awansegdep6, vI awansegarr7])]], KK⟩)
noncomputable def Qdh (lb n : Nat) (awansegcar1 : LB) (awansegnum2 awansegday3 : Int) (awansegfro4 jh : LB) (awansegdep6 awansegarr7 : Int) (jm : LB) (jp jq : Int) (vn : Bool) (l18 : LL) : Option CV :=
 hold (E0 lb n 0 995 (sub (B Qbd) [1, 1, 1, 1, 1]) (retK Tryz.prog (R Qbd) 0 (outK (Qae Tryz.prog Qbd))) ⟨fr 67 [(0, .val (.agg [.str awansegcar1, .int .i64 awansegnum2, .int .i64 awansegday3, .str awansegfro4, .str jh, .int .i64 awansegdep6, .int .i64 awansegarr7, .str jm, .int .i64 jp, .int .i64 jq])), (1, .ptr 0 1 0), (2, .lst true true 31 []), (3, .lst true vn 31 l18), (4, .ptr 0 4 0), (7, .ptr 0 1 0), (8, .ptr 0 1 0), (9, .val (.agg [.str awansegcar1, .int .i64 awansegnum2, .int .i64 awansegday3, .str awansegfro4, .str jh, .int .i64 awansegdep6, .int .i64 awansegarr7]))], [bx 67 [(1, some [vS awansegcar1, vI awansegnum2, vI awansegday3, vS awansegfro4, vS jh, vI awansegdep6, vI awansegarr7, vS jm, vI jp, vI jq]), (4, some [vS awansegcar1, vI awansegnum2, vI awansegday3, vS awansegfro4, vS jh, vI awansegdep6, vI awansegarr7])]], KK⟩)
noncomputable def Qfc (lb n : Nat) (awansegcar1 : LB) (awansegnum2 awansegday3 : Int) (awansegfro4 jh : LB) (awansegdep6 awansegarr7 : Int) (jm : LB) (jp jq : Int) (vg : Bool) (l22 : LL) : Option CV :=
 hold (E0 lb n 0 994 (sub (B Qbd) [1, 1, 1, 1, 1, 1]) (retK Tryz.prog (R Qbd) 0 (outK (Qae Tryz.prog Qbd))) ⟨fr 67 [(0, .val (.agg [.str awansegcar1, .int .i64 awansegnum2, .int .i64 awansegday3, .str awansegfro4, .str jh, .int .i64 awansegdep6, .int .i64 awansegarr7, .str jm, .int .i64 jp, .int .i64 jq])), (1, .ptr 0 1 0), (2, .lst true true 31 []), (3, .lst true vg 31 l22), (4, .ptr 0 4 0), (7, .ptr 0 1 0), (8, .ptr 0 1 0), (9, .val (.agg [.str awansegcar1, .int .i64 awansegnum2, .int .i64 awansegday3, .str awansegfro4, .str jh, .int .i64 awansegdep6, .int .i64 awansegarr7]))], [bx 67 [(1, some [vS awansegcar1, vI awansegnum2, vI awansegday3, vS awansegfro4, vS jh, vI awansegdep6, vI awansegarr7, vS jm, vI jp, vI jq]), (4, some [vS awansegcar1, vI awansegnum2, vI awansegday3, vS awansegfro4, vS jh, vI awansegdep6, vI awansegarr7])]], KK⟩)
theorem Qm5 (lb n : Nat) (awansegcar1 : LB) (awansegnum2 awansegday3 : Int) (awansegfro4 jh : LB) (awansegdep6 awansegarr7 : Int) (jm : LB) (jp jq : Int) (vg : Bool) (l22 : LL) :
 Qfc lb n awansegcar1 awansegnum2 awansegday3 awansegfro4 jh awansegdep6 awansegarr7 jm jp jq vg l22 =
 optO (C lb n Qk1 [.int .i64 jp]) fun jl =>
 optO (CV.asT jl) fun kt =>
 optO (kt[0]?) fun jx =>
 optO (CV.asT jl) fun oC =>
 optO (oC[1]?) fun jG =>
 optO (CV.asI .i64 jG) fun vd =>
 bif (vd != 0) then
 (chkO (room (l22.length + 1) 8) (
 some (.list (vg && false) (l22 ++ [[CV.int .i64 10]]))))
 else
 (some (.list vg l22)) := (Qaf _).trans (by kernel_rfl)
theorem QmY (lb n : Nat) (awansegcar1 : LB) (awansegnum2 awansegday3 : Int) (awansegfro4 jh : LB) (awansegdep6 awansegarr7 : Int) (jm : LB) (jp jq : Int) (vn : Bool) (l18 : LL) :
 Qdh lb n awansegcar1 awansegnum2 awansegday3 awansegfro4 jh awansegdep6 awansegarr7 jm jp jq vn l18 =
 optO (C lb n QjF [.str jm]) fun jy =>
 optO (CV.asB jy) fun yX =>
 bif (!yX) then
 (chkO (room (l18.length + 1) 8) (
 Qfc lb n awansegcar1 awansegnum2 awansegday3 awansegfro4 jh awansegdep6 awansegarr7 jm jp jq (vn && false) (l18 ++ [[CV.int .i64 16]])))
 else
 (Qfc lb n awansegcar1 awansegnum2 awansegday3 awansegfro4 jh awansegdep6 awansegarr7 jm jp jq vn l18) := (Qaf _).trans (by kernel_rfl)
theorem QmP (lb n : Nat) (awansegcar1 : LB) (awansegnum2 awansegday3 : Int) (awansegfro4 jh : LB) (awansegdep6 awansegarr7 : Int) (jm : LB) (jp jq : Int) (yB : Bool) (l15 : LL) :
 Qdi lb n awansegcar1 awansegnum2 awansegday3 awansegfro4 jh awansegdep6 awansegarr7 jm jp jq yB l15 =
 bif (decide (awansegdep6 < 0)) then
 (chkO (room (l15.length + 1) 8) (
 Qdh lb n awansegcar1 awansegnum2 awansegday3 awansegfro4 jh awansegdep6 awansegarr7 jm jp jq (yB && false) (l15 ++ [[CV.int .i64 13]])))
 else
 (bif (decide (awansegarr7 ≤ awansegdep6)) then
 (chkO (room (l15.length + 1) 8) (
 Qdh lb n awansegcar1 awansegnum2 awansegday3 awansegfro4 jh awansegdep6 awansegarr7 jm jp jq (yB && false) (l15 ++ [[CV.int .i64 13]])))
 else
 (bif (decide (awansegarr7 ≥ 52596000)) then
 (chkO (room (l15.length + 1) 8) (
 Qdh lb n awansegcar1 awansegnum2 awansegday3 awansegfro4 jh awansegdep6 awansegarr7 jm jp jq (yB && false) (l15 ++ [[CV.int .i64 13]])))
 else
 (Qdh lb n awansegcar1 awansegnum2 awansegday3 awansegfro4 jh awansegdep6 awansegarr7 jm jp jq yB l15))) := (Qaf _).trans (by kernel_rfl)
theorem QpY (lb n : Nat) (awansegcar1 : LB) (awansegnum2 awansegday3 : Int) (awansegfro4 jh : LB) (awansegdep6 awansegarr7 : Int) (jm : LB) (jp jq : Int) :
 top lb n Qbd [.agg [.str awansegcar1, .int .i64 awansegnum2, .int .i64 awansegday3, .str awansegfro4, .str jh, .int .i64 awansegdep6, .int .i64 awansegarr7, .str jm, .int .i64 jp, .int .i64 jq]] =
 optO (C lb n QhY [.str awansegcar1]) fun vt =>
 optO (CV.asB vt) fun wX =>
 bif (!wX) then
 (Qdi lb n awansegcar1 awansegnum2 awansegday3 awansegfro4 jh awansegdep6 awansegarr7 jm jp jq false [[CV.int .i64 5]])
 else
 (optO (C lb n QfE [.str awansegfro4]) fun mb =>
 optO (CV.asB mb) fun mq =>
 bif (!mq) then
 (Qdi lb n awansegcar1 awansegnum2 awansegday3 awansegfro4 jh awansegdep6 awansegarr7 jm jp jq false [[CV.int .i64 5]])
 else
 (optO (C lb n QfE [.str jh]) fun mS =>
 optO (CV.asB mS) fun mT =>
 bif (!mT) then
 (Qdi lb n awansegcar1 awansegnum2 awansegday3 awansegfro4 jh awansegdep6 awansegarr7 jm jp jq false [[CV.int .i64 5]])
 else
 (Qdi lb n awansegcar1 awansegnum2 awansegday3 awansegfro4 jh awansegdep6 awansegarr7 jm jp jq true []))) := by kernel_rfl
noncomputable def Qd5 (lb n vw : Nat) (jf : Bool) (a2 : LL) (b3 : Int) (vE : Bool) (l37 : LL) (w5 : Int) : Option CV :=
 hold (Qau (E0 lb n 0 994) 0 (Qaj (sub (B QaA) [1, 1, 0, 1, 0, 0]) ++ [7]) [] (sub (B QaA) [1, 1, 0, 1, 0, 0]) (Qal 0 (seqK (E0 lb n 0 997) (sub (B QaA) [1, 1, 0]) (sub (B QaA) [1, 1, 1]) (retK Tryz.prog (R QaA) 0 (outK (Qae Tryz.prog QaA))))) vw ⟨fr 82 [(0, .val (.list jf a2)), (1, vI b3), (4, .lst true true 61 []), (5, .lst true vE 61 l37), (6, vI w5)], [bx 82 []], KK⟩)
noncomputable def Qgw (lb n vw : Nat) (jf : Bool) (a2 : LL) (b3 w5 : Int) (s61 : LB) (kh : CV) (vr : Bool) (l70 : LL) : Option CV :=
 hold (E0 lb n 0 989 (sub (B QaA) [1, 1, 0, 1, 0, 0, 1, 0, 0, 1, 1]) (Qal 1 (seqK (E0 lb n 0 992) (sub (B QaA) [1, 1, 0, 1, 0, 0, 1, 0]) (sub (B QaA) [1, 1, 0, 1, 0, 0, 1, 1]) (QbK 0 (Qaj (sub (B QaA) [1, 1, 0, 1, 0, 0]) ++ [7]) [] (Qau (E0 lb n 0 994) 0 (Qaj (sub (B QaA) [1, 1, 0, 1, 0, 0]) ++ [7]) [] (sub (B QaA) [1, 1, 0, 1, 0, 0]) (Qal 0 (seqK (E0 lb n 0 997) (sub (B QaA) [1, 1, 0]) (sub (B QaA) [1, 1, 1]) (retK Tryz.prog (R QaA) 0 (outK (Qae Tryz.prog QaA))))) vw) (Qal 0 (seqK (E0 lb n 0 997) (sub (B QaA) [1, 1, 0]) (sub (B QaA) [1, 1, 1]) (retK Tryz.prog (R QaA) 0 (outK (Qae Tryz.prog QaA)))))))) ⟨fr 82 [(0, .val (.list jf a2)), (1, vI b3), (4, .lst true true 61 []), (5, .lst true vr 61 l70), (6, vI w5), (7, .val (.str (([112, 101, 114, 115, 111, 110, 32] : LB) ++ s61))), (15, vI w5), (16, vV kh), (17, .val (.str (([112, 101, 114, 115, 111, 110, 32] : LB) ++ s61)))], [bx 82 []], KK⟩)
theorem Qn5 (lb n vw : Nat) (jf : Bool) (a2 : LL) (b3 w5 : Int) (s61 : LB) (kh : CV) (vr : Bool) (l70 : LL) :
 Qgw lb n vw jf a2 b3 w5 s61 kh vr l70 =
 optO (atL a2 w5) fun c71 =>
 chkO (c71.length == 3) (
 optO (c71[0]?) fun gF =>
 optO (c71[1]?) fun mZ =>
 optO (c71[2]?) fun md =>
 optO (C lb n Qhk [.agg [gF, mZ, md]]) fun gN =>
 optO (CV.asB gN) fun gK =>
 bif (!gK) then
 (chkO (room (l70.length + 1) 24) (
 Qd5 lb n vw jf a2 b3 (vr && false) (l70 ++ [[CV.int .i64 8, CV.str (([112, 101, 114, 115, 111, 110, 32] : LB) ++ s61)]]) (IntKind.wrap .i64 (w5 + 1))))
 else
 (Qd5 lb n vw jf a2 b3 vr l70 (IntKind.wrap .i64 (w5 + 1)))) := (Qaf _).trans (by kernel_rfl)
noncomputable def QiW (lb n : Nat) (jf : Bool) (a2 : LL) (b3 : Int) (kS : Bool) (l78 : LL) (yr : Int) : Option CV :=
 hold (E0 lb n 0 997 (sub (B QaA) [1, 1, 1]) (retK Tryz.prog (R QaA) 0 (outK (Qae Tryz.prog QaA))) ⟨fr 82 [(0, .val (.list jf a2)), (1, vI b3), (4, .lst true true 61 []), (5, .lst true kS 61 l78), (6, vI yr)], [bx 82 []], KK⟩)
noncomputable def Qe1 (lb n : Nat) (jf : Bool) (a2 : LL) (yr i80 : Int) (vU : Bool) (l82 : LL) : Option CV :=
 hold (E0 lb n 0 996 (sub (B QaA) [1, 1, 1, 1]) (retK Tryz.prog (R QaA) 0 (outK (Qae Tryz.prog QaA))) ⟨fr 82 [(0, .val (.list jf a2)), (1, vI i80), (4, .lst true true 61 []), (5, .lst true vU 61 l82), (6, vI yr)], [bx 82 []], KK⟩)
noncomputable def Qb1 (lb n : Nat) (jf : Bool) (a2 : LL) (i80 yr : Int) (ov : Bool) (l84 : LL) : Option CV :=
 hold (E0 lb n 0 994 (sub (B QaA) [1, 1, 1, 1, 1, 1]) (retK Tryz.prog (R QaA) 0 (outK (Qae Tryz.prog QaA))) ⟨fr 82 [(0, .val (.list jf a2)), (1, vI i80), (4, .lst true true 61 []), (5, .lst true ov 61 l84), (6, vI yr), (8, .val (.int .i64 (a2.length : Int))), (50, .val (.list jf a2)), (51, .val (.int .i64 (a2.length : Int)))], [bx 82 []], KK⟩)
theorem Qo3 (lb n : Nat) (jf : Bool) (a2 : LL) (i80 yr : Int) (ov : Bool) (l84 : LL) :
 Qb1 lb n jf a2 i80 yr ov l84 =
 optO (C lb n Qb6 [.list jf a2]) fun mR =>
 optO (CV.asB mR) fun mN =>
 bif (!mN) then
 (chkO (room (l84.length + 1) 24) (
 some (.list (ov && false) (l84 ++ [[CV.int .i64 25, CV.str [112, 97, 114, 116, 121]]]))))
 else
 (some (.list ov l84)) := (Qaf _).trans (by kernel_rfl)
theorem Qog (lb n : Nat) (jf : Bool) (a2 : LL) (yr i80 : Int) (vU : Bool) (l82 : LL) :
 Qe1 lb n jf a2 yr i80 vU l82 =
 bif ((IntKind.wrap .i64 ((a2.length : Int) + i80)) == 0) then
 (chkO (room (l82.length + 1) 24) (
 Qb1 lb n jf a2 i80 yr (vU && false) (l82 ++ [[CV.int .i64 4, CV.str [112, 97, 114, 116, 121]]])))
 else
 (bif (i80 == 0) then
 (bif (decide ((a2.length : Int) > 9)) then
 (chkO (room (l82.length + 1) 24) (
 Qb1 lb n jf a2 i80 yr (vU && false) (l82 ++ [[CV.int .i64 4, CV.str [112, 97, 114, 116, 121]]])))
 else
 (bif (decide ((IntKind.wrap .i64 ((a2.length : Int) + i80)) > 99)) then
 (chkO (room (l82.length + 1) 24) (
 Qb1 lb n jf a2 i80 yr (vU && false) (l82 ++ [[CV.int .i64 4, CV.str [112, 97, 114, 116, 121]]])))
 else
 (Qb1 lb n jf a2 i80 yr vU l82)))
 else
 (bif (decide ((IntKind.wrap .i64 ((a2.length : Int) + i80)) > 99)) then
 (chkO (room (l82.length + 1) 24) (
 Qb1 lb n jf a2 i80 yr (vU && false) (l82 ++ [[CV.int .i64 4, CV.str [112, 97, 114, 116, 121]]])))
 else
 (Qb1 lb n jf a2 i80 yr vU l82))) := (Qaf _).trans (by kernel_rfl)
theorem Qgp (lb n : Nat) (jf : Bool) (a2 : LL) (b3 : Int) (kS : Bool) (l78 : LL) (yr : Int) :
 QiW lb n jf a2 b3 kS l78 yr =
 bif (decide (b3 < 0)) then
 (chkO (room (l78.length + 1) 24) (
 Qe1 lb n jf a2 yr 0 (kS && false) (l78 ++ [[CV.int .i64 2, CV.str [112, 97, 114, 116, 121]]])))
 else
 (bif (decide (b3 > 99)) then
 (chkO (room (l78.length + 1) 24) (
 Qe1 lb n jf a2 yr 0 (kS && false) (l78 ++ [[CV.int .i64 2, CV.str [112, 97, 114, 116, 121]]])))
 else
 (Qe1 lb n jf a2 yr b3 kS l78)) := (Qaf _).trans (by kernel_rfl)
theorem Qh3 (lb n vw : Nat) (jf : Bool) (a2 : LL) (b3 : Int) (vE : Bool) (l37 : LL) (w5 : Int) :
 Qd5 lb n (vw + 1) jf a2 b3 vE l37 w5 =
 bif (decide (w5 < (a2.length : Int))) then
 (optO (C lb n QdA [.int .i64 w5]) fun kh =>
 optO (CV.asS kh) fun s61 =>
 chkO (decide (([112, 101, 114, 115, 111, 110, 32] : LB).length + s61.length ≤ 9223372036854775807)) (
 optO (atL a2 w5) fun c62 =>
 chkO (c62.length == 3) (
 optO (c62[0]?) fun j8 =>
 optO (c62[1]?) fun sZ =>
 optO (c62[2]?) fun zC =>
 optO (C lb n Qhp [.agg [j8, sZ, zC]]) fun sN =>
 optO (CV.asB sN) fun sR =>
 bif (!sR) then
 (chkO (room (l37.length + 1) 24) (
 Qgw lb n vw jf a2 b3 w5 s61 kh (vE && false) (l37 ++ [[CV.int .i64 5, CV.str (([112, 101, 114, 115, 111, 110, 32] : LB) ++ s61)]])))
 else
 (Qgw lb n vw jf a2 b3 w5 s61 kh vE l37))))
 else
 (QiW lb n jf a2 b3 vE l37 w5) := (Qaf _).trans (by kernel_rfl)
theorem Qrg (lb n : Nat) (jf : Bool) (a2 : LL) (b3 : Int) :
 top lb n QaA [.list jf a2, .int .i64 b3] =
 Qd5 lb n n jf a2 b3 true [] 0 := by kernel_rfl
theorem Qsw (lb n : Nat) (yo yq yf : LB) :
 top lb n Qhp [.agg [.str yo, .str yq, .str yf]] =
 optO (C lb n QbS [.str yo]) fun r4 =>
 optO (CV.asB r4) fun b5 =>
 bif b5 then
 (optO (C lb n QbS [.str yq]) fun r6 =>
 some (r6))
 else
 (some (.bool false)) := by kernel_rfl
theorem Qrf (lb n : Nat) (yo yq yf : LB) :
 top lb n Qhk [.agg [.str yo, .str yq, .str yf]] =
 optO (C lb n QbC [.str yf, .int .i64 3, .int .i64 3]) fun r4 =>
 some (r4) := by kernel_rfl
noncomputable def Qew (lb n kR : Nat) (jf : Bool) (a2 : LL) (jW yd yH : Int) : Option CV :=
 hold (Qau (E0 lb n 0 994) 0 (Qaj (sub (B Qb6) [1, 1, 0, 1, 0, 0]) ++ []) [] (sub (B Qb6) [1, 1, 0, 1, 0, 0]) (Qal 0 (seqK (E0 lb n 0 997) (sub (B Qb6) [1, 1, 0]) (sub (B Qb6) [1, 1, 1]) (retK Tryz.prog (R Qb6) 0 (outK (Qae Tryz.prog Qb6))))) kR ⟨fr 31 [(0, .val (.list jf a2)), (2, vB false), (3, vI jW), (4, vI yd), (5, vI yH)], [bx 31 []], KK⟩)
noncomputable def Qnt (lb n : Nat) (jf : Bool) (a2 : LL) (gz kT oI : Int) : Option CV :=
 hold (E0 lb n 0 997 (sub (B Qb6) [1, 1, 1]) (retK Tryz.prog (R Qb6) 0 (outK (Qae Tryz.prog Qb6))) ⟨fr 31 [(0, .val (.list jf a2)), (2, vB false), (3, vI gz), (4, vI kT), (5, vI oI)], [bx 31 []], KK⟩)
theorem QpX (lb n : Nat) (jf : Bool) (a2 : LL) (gz kT oI : Int) :
 Qnt lb n jf a2 gz kT oI =
 some (.bool (decide (gz ≤ kT))) := (Qaf _).trans (by kernel_rfl)
theorem Qiu (lb n kR : Nat) (jf : Bool) (a2 : LL) (jW yd yH : Int) :
 Qew lb n (kR + 1) jf a2 jW yd yH =
 bif (decide (yH < (a2.length : Int))) then
 (optO (atL a2 yH) fun c26 =>
 chkO (c26.length == 3) (
 optO (c26[2]?) fun jG =>
 optO (CV.asS jG) fun sM =>
 bif (sM == [73, 78, 70]) then
 (Qew lb n kR jf a2 (IntKind.wrap .i64 (jW + 1)) yd (IntKind.wrap .i64 (yH + 1)))
 else
 (optO (atL a2 yH) fun c29 =>
 chkO (c29.length == 3) (
 optO (c29[2]?) fun jM =>
 optO (CV.asS jM) fun sB =>
 bif (!(sB == [67, 72, 68])) then
 (Qew lb n kR jf a2 jW (IntKind.wrap .i64 (yd + 1)) (IntKind.wrap .i64 (yH + 1)))
 else
 (Qew lb n kR jf a2 jW yd (IntKind.wrap .i64 (yH + 1)))))))
 else
 (Qnt lb n jf a2 jW yd yH) := (Qaf _).trans (by kernel_rfl)
theorem QsT (lb n : Nat) (jf : Bool) (a2 : LL) :
 top lb n Qb6 [.list jf a2] =
 Qew lb n n jf a2 0 0 0 := by kernel_rfl
noncomputable def QgB (lb n y2 : Nat) (jf : Bool) (a2 : LL) (i6 : Int) : Option CV :=
 hold (Qau (E0 lb n 0 995) 0 (Qaj (sub (B Qar) [1, 0, 1, 0, 0]) ++ []) [] (sub (B Qar) [1, 0, 1, 0, 0]) (Qal 0 (seqK (E0 lb n 0 998) (sub (B Qar) [1, 0]) (sub (B Qar) [1, 1]) (retK Tryz.prog (R Qar) 0 (outK (Qae Tryz.prog Qar))))) y2 ⟨fr 70 [(0, .val (.list jf a2)), (2, vI 0), (3, vI i6)], [bx 70 []], KK⟩)
noncomputable def QlJ (lb n : Nat) (jf : Bool) (a2 : LL) (jW : Int) : Option CV :=
 hold (E0 lb n 0 998 (sub (B Qar) [1, 1]) (retK Tryz.prog (R Qar) 0 (outK (Qae Tryz.prog Qar))) ⟨fr 70 [(0, .val (.list jf a2)), (2, vI 0), (3, vI jW)], [bx 70 []], KK⟩)
noncomputable def Qe3 (lb n wU : Nat) (jf : Bool) (a2 : LL) (jW wL : Int) : Option CV :=
 hold (Qau (E0 lb n 0 994) 0 (Qaj (sub (B Qar) [1, 1, 0, 1, 0, 0]) ++ [5, 5]) [] (sub (B Qar) [1, 1, 0, 1, 0, 0]) (Qal 2 (seqK (E0 lb n 0 997) (sub (B Qar) [1, 1, 0]) (sub (B Qar) [1, 1, 1]) (retK Tryz.prog (R Qar) 0 (outK (Qae Tryz.prog Qar))))) wU ⟨fr 70 [(0, .val (.list jf a2)), (2, vI 0), (3, vI jW), (4, vI wL)], [bx 70 []], KK⟩)
noncomputable def Qdt (lb n v7 wU : Nat) (jf : Bool) (a2 : LL) (jW wL y8 : Int) : Option CV :=
 hold (Qau (E0 lb n 0 987) 0 (Qaj (sub (B Qar) [1, 1, 0, 1, 0, 0, 1, 0, 0, 1, 1, 0, 0]) ++ []) [] (sub (B Qar) [1, 1, 0, 1, 0, 0, 1, 0, 0, 1, 1, 0, 0]) (Qal 4 (Qal 3 (seqK (E0 lb n 0 992) (sub (B Qar) [1, 1, 0, 1, 0, 0, 1, 0]) (sub (B Qar) [1, 1, 0, 1, 0, 0, 1, 1]) (QbK 0 (Qaj (sub (B Qar) [1, 1, 0, 1, 0, 0]) ++ [5, 5]) [] (Qau (E0 lb n 0 994) 0 (Qaj (sub (B Qar) [1, 1, 0, 1, 0, 0]) ++ [5, 5]) [] (sub (B Qar) [1, 1, 0, 1, 0, 0]) (Qal 2 (seqK (E0 lb n 0 997) (sub (B Qar) [1, 1, 0]) (sub (B Qar) [1, 1, 1]) (retK Tryz.prog (R Qar) 0 (outK (Qae Tryz.prog Qar))))) wU) (Qal 2 (seqK (E0 lb n 0 997) (sub (B Qar) [1, 1, 0]) (sub (B Qar) [1, 1, 1]) (retK Tryz.prog (R Qar) 0 (outK (Qae Tryz.prog Qar))))))))) v7 ⟨fr 70 [(0, .val (.list jf a2)), (2, vI 0), (3, vI jW), (4, vI wL), (5, vI y8), (34, vI wL), (35, .val (.int .i64 (IntKind.wrap .i64 (wL + 2))))], [bx 70 []], KK⟩)
noncomputable def QlK (lb n wU : Nat) (jf : Bool) (a2 : LL) (jW wL gk : Int) : Option CV :=
 hold (E0 lb n 0 992 (sub (B Qar) [1, 1, 0, 1, 0, 0, 1, 1]) (QbK 0 (Qaj (sub (B Qar) [1, 1, 0, 1, 0, 0]) ++ [5, 5]) [] (Qau (E0 lb n 0 994) 0 (Qaj (sub (B Qar) [1, 1, 0, 1, 0, 0]) ++ [5, 5]) [] (sub (B Qar) [1, 1, 0, 1, 0, 0]) (Qal 2 (seqK (E0 lb n 0 997) (sub (B Qar) [1, 1, 0]) (sub (B Qar) [1, 1, 1]) (retK Tryz.prog (R Qar) 0 (outK (Qae Tryz.prog Qar))))) wU) (Qal 2 (seqK (E0 lb n 0 997) (sub (B Qar) [1, 1, 0]) (sub (B Qar) [1, 1, 1]) (retK Tryz.prog (R Qar) 0 (outK (Qae Tryz.prog Qar)))))) ⟨fr 70 [(0, .val (.list jf a2)), (2, vI 0), (3, vI jW), (4, vI wL), (5, vI gk)], [bx 70 []], KK⟩)
theorem QoB (lb n wU : Nat) (jf : Bool) (a2 : LL) (jW wL gk : Int) :
 QlK lb n wU jf a2 jW wL gk =
 Qe3 lb n wU jf a2 jW (IntKind.wrap .i64 (wL + 1)) := (Qaf _).trans (by kernel_rfl)
theorem Qh6 (lb n v7 wU : Nat) (jf : Bool) (a2 : LL) (jW wL y8 : Int) :
 Qdt lb n (v7 + 1) wU jf a2 jW wL y8 =
 bif (decide (y8 < (a2.length : Int))) then
 (optO (atL a2 wL) fun c263 =>
 chkO (c263.length == 1) (
 optO (c263[0]?) fun sw =>
 optO (CV.asI .i64 sw) fun pu =>
 bif (decide (pu > 0)) then
 (optO (atL a2 y8) fun c266 =>
 chkO (c266.length == 1) (
 optO (c266[0]?) fun pS =>
 optO (atL a2 wL) fun c268 =>
 chkO (c268.length == 1) (
 optO (c268[0]?) fun nW =>
 optO (CV.asI .i64 pS) fun pH =>
 optO (CV.asI .i64 nW) fun pK =>
 bif (pH == pK) then
 (optO (atL a2 (IntKind.wrap .i64 (y8 - 1))) fun c272 =>
 chkO (c272.length == 1) (
 optO (c272[0]?) fun qw =>
 optO (atL a2 wL) fun c274 =>
 chkO (c274.length == 1) (
 optO (c274[0]?) fun qA =>
 optO (CV.asI .i64 qw) fun pj =>
 optO (CV.asI .i64 qA) fun n9 =>
 bif (pj != n9) then
 (some (.int .i64 18))
 else
 (Qdt lb n v7 wU jf a2 jW wL (IntKind.wrap .i64 (y8 + 1))))))
 else
 (Qdt lb n v7 wU jf a2 jW wL (IntKind.wrap .i64 (y8 + 1))))))
 else
 (Qdt lb n v7 wU jf a2 jW wL (IntKind.wrap .i64 (y8 + 1)))))
 else
 (QlK lb n wU jf a2 jW wL y8) := (Qaf _).trans (by kernel_rfl)
noncomputable def Ql8 (lb n : Nat) (jf : Bool) (a2 : LL) (jW o0 : Int) : Option CV :=
 hold (E0 lb n 0 997 (sub (B Qar) [1, 1, 1]) (retK Tryz.prog (R Qar) 0 (outK (Qae Tryz.prog Qar))) ⟨fr 70 [(0, .val (.list jf a2)), (2, vI 0), (3, vI jW), (4, vI o0)], [bx 70 []], KK⟩)
theorem Qop (lb n : Nat) (jf : Bool) (a2 : LL) (jW o0 : Int) :
 Ql8 lb n jf a2 jW o0 =
 some (.int .i64 0) := (Qaf _).trans (by kernel_rfl)
theorem Qh4 (lb n wU : Nat) (jf : Bool) (a2 : LL) (jW wL : Int) :
 Qe3 lb n (wU + 1) jf a2 jW wL =
 bif (decide (wL < (a2.length : Int))) then
 (optO (atL a2 wL) fun c224 =>
 chkO (c224.length == 1) (
 optO (c224[0]?) fun qI =>
 optO (CV.asI .i64 qI) fun pQ =>
 bif (decide (pQ > 0)) then
 (optO (C lb n QdO [.list jf a2, .int .i64 wL]) fun ss =>
 optO (CV.asB ss) fun pD =>
 bif (!pD) then
 (some (.int .i64 18))
 else
 (Qdt lb n n wU jf a2 jW wL (IntKind.wrap .i64 (wL + 2))))
 else
 (Qdt lb n n wU jf a2 jW wL (IntKind.wrap .i64 (wL + 2)))))
 else
 (Ql8 lb n jf a2 jW wL) := (Qaf _).trans (by kernel_rfl)
theorem QoZ (lb n : Nat) (jf : Bool) (a2 : LL) (jW : Int) :
 QlJ lb n jf a2 jW =
 Qe3 lb n n jf a2 jW 0 := (Qaf _).trans (by kernel_rfl)
theorem Qid (lb n y2 : Nat) (jf : Bool) (a2 : LL) (i6 : Int) :
 QgB lb n (y2 + 1) jf a2 i6 =
 bif (decide (i6 < (a2.length : Int))) then
 (optO (atL a2 i6) fun c12 =>
 chkO (c12.length == 1) (
 optO (c12[0]?) fun kA =>
 optO (CV.asI .i64 kA) fun kc =>
 bif (decide (kc < 0)) then
 (some (.int .i64 2))
 else
 (QgB lb n y2 jf a2 (IntKind.wrap .i64 (i6 + 1)))))
 else
 (QlJ lb n jf a2 i6) := (Qaf _).trans (by kernel_rfl)
theorem Qrv (lb n : Nat) (jf : Bool) (a2 : LL) :
 top lb n Qar [.list jf a2] =
 QgB lb n n jf a2 0 := by kernel_rfl
theorem QnF (lb n : Nat) (jf : Bool) (a2 : LL) (b3 : Int) :
 top lb n QdO [.list jf a2, .int .i64 b3] =
 bif (decide (b3 > 0)) then
 (optO (atL a2 (IntKind.wrap .i64 (b3 - 1))) fun c4 =>
 chkO (c4.length == 1) (
 optO (c4[0]?) fun x5 =>
 optO (atL a2 b3) fun c6 =>
 chkO (c6.length == 1) (
 optO (c6[0]?) fun x7 =>
 optO (CV.asI .i64 x5) fun i9 =>
 optO (CV.asI .i64 x7) fun gQ =>
 bif (i9 == gQ) then
 (some (.bool true))
 else
 (bif (decide ((IntKind.wrap .i64 (b3 + 1)) < (a2.length : Int))) then
 (optO (atL a2 (IntKind.wrap .i64 (b3 + 1))) fun c11 =>
 chkO (c11.length == 1) (
 optO (c11[0]?) fun g8 =>
 optO (atL a2 b3) fun c13 =>
 chkO (c13.length == 1) (
 optO (c13[0]?) fun kE =>
 optO (CV.asI .i64 g8) fun jW =>
 optO (CV.asI .i64 kE) fun yd =>
 some (.bool (jW == yd)))))
 else
 (some (.bool false))))))
 else
 (bif (decide ((IntKind.wrap .i64 (b3 + 1)) < (a2.length : Int))) then
 (optO (atL a2 (IntKind.wrap .i64 (b3 + 1))) fun c18 =>
 chkO (c18.length == 1) (
 optO (c18[0]?) fun zb =>
 optO (atL a2 b3) fun c20 =>
 chkO (c20.length == 1) (
 optO (c20[0]?) fun jL =>
 optO (CV.asI .i64 zb) fun zM =>
 optO (CV.asI .i64 jL) fun sF =>
 some (.bool (zM == sF)))))
 else
 (some (.bool false))) := by kernel_rfl
theorem Qs6 (lb n : Nat) (a1 : Int) :
 top lb n Qk1 [.int .i64 a1] =
 bif (decide (a1 ≤ 0)) then
 (some (.tup [.str [], .int .i64 8]))
 else
 (bif (decide (a1 > 7)) then
 (some (.tup [.str [], .int .i64 8]))
 else
 (optO (C lb n QjH []) fun r2 =>
 optO (CV.asL r2) fun p3 =>
 optO (atL p3.2 a1) fun c4 =>
 chkO (c4.length == 1) (
 optO (c4[0]?) fun x5 =>
 some (.tup [x5, .int .i64 0])))) := by kernel_rfl
theorem Qrh (lb n : Nat)  :
 top lb n QjH [] =
 some (.list false [[CV.str []], [CV.str [72, 75]], [CV.str [72, 76]], [CV.str [75, 76]], [CV.str [84, 75]], [CV.str [85, 78]], [CV.str [85, 67]], [CV.str [88, 88]]]) := by kernel_rfl
end Go.Proofs
