/- Equations of functions, printed by program. Conditions: none. -/
import Derived.Test.YtigmcfhmpcajlaaGreatDoorEv
namespace Go.Proofs
open Go.Am
set_option maxRecDepth 100000
set_option linter.unusedVariables false
noncomputable def r35_Check_J1 :=
 fun lb n aloc1 (ja : Bool) (aper3 : LL) je (jb : Bool) (aseg6 : LL) (jd : Bool) (aser9 : LL) jc (wF : Bool) (l14 : LL) =>
 hold (E0 lb n 0 997 (sub (B Qad) [1, 1, 1]) (retK Tryz.prog (R Qad) 0 (outK (Qaf Tryz.prog Qad))) ⟨fr 140 [(0, .val (.agg [.str aloc1, .list ja aper3, .int .i64 je, .list jb aseg6, .list jd aser9, .int .i64 jc])), (1, .ptr 0 1 0), (2, .lst true true 61 []), (3, .lst true wF 61 l14)], [bx 140 [(1, some [vS aloc1, .val (.list ja aper3), vI je, .val (.list jb aseg6), .val (.list jd aser9), vI jc])]], KK⟩)
noncomputable def QcR (lb n : Nat) (aloc1 : LB) (ja : Bool) (aper3 : LL) (je : Int) (jb : Bool) (aseg6 : LL) (jd : Bool) (aser9 : LL) (jc : Int) (jk : Bool) (l17 : LL) : Option CV :=
 hold (E0 lb n 0 996 (sub (B Qad) [1, 1, 1, 1]) (retK Tryz.prog (R Qad) 0 (outK (Qaf Tryz.prog Qad))) ⟨fr 140 [(0, .val (.agg [.str aloc1, .list ja aper3, .int .i64 je, .list jb aseg6, .list jd aser9, .int .i64 jc])), (1, .ptr 0 1 0), (2, .lst true true 61 []), (3, .lst true jk 61 l17)], [bx 140 [(1, some [vS aloc1, .val (.list ja aper3), vI je, .val (.list jb aseg6), .val (.list jd aser9), vI jc])]], KK⟩)
noncomputable def QcQ (lb n : Nat) (aloc1 : LB) (ja : Bool) (aper3 : LL) (je : Int) (jb : Bool) (aseg6 : LL) (jd : Bool) (aser9 : LL) (jc : Int) (jk : Bool) (l17 : LL) (jg : CV) (jj : Bool × LL) (yv : Bool) (l21 : LL) : Option CV :=
 hold (E0 lb n 0 994 (sub (B Qad) [1, 1, 1, 1, 1, 1]) (retK Tryz.prog (R Qad) 0 (outK (Qaf Tryz.prog Qad))) ⟨fr 140 [(0, .val (.agg [.str aloc1, .list ja aper3, .int .i64 je, .list jb aseg6, .list jd aser9, .int .i64 jc])), (1, .ptr 0 1 0), (2, .lst true true 61 []), (3, .lst true yv 61 l21), (31, .val (.list jk l17)), (32, .ptr 0 1 1), (33, .val (.list ja aper3)), (34, .ptr 0 1 2), (35, vI je), (36, vV jg), (37, .val (.list (jk && jj.2.isEmpty) (l17 ++ jj.2)))], [bx 140 [(1, some [vS aloc1, .val (.list ja aper3), vI je, .val (.list jb aseg6), .val (.list jd aser9), vI jc])]], KK⟩)
noncomputable def Qd3 (lb n : Nat) (aloc1 : LB) (ja : Bool) (aper3 : LL) (je : Int) (jb : Bool) (aseg6 : LL) (jd : Bool) (aser9 : LL) (jc : Int) (jl : CV) (jk : Bool) (l17 : LL) (jg : CV) (jj : Bool × LL) (jn : CV) (yQ : Bool) (y5 : LL) : Option CV :=
 hold (E0 lb n 0 992 (sub (B Qad) [1, 1, 1, 1, 1, 1, 1, 1]) (retK Tryz.prog (R Qad) 0 (outK (Qaf Tryz.prog Qad))) ⟨fr 140 [(0, .val (.agg [.str aloc1, .list ja aper3, .int .i64 je, .list jb aseg6, .list jd aser9, .int .i64 jc])), (1, .ptr 0 1 0), (2, .lst true true 61 []), (3, .lst true yQ 61 y5), (4, vV jl), (31, .val (.list jk l17)), (32, .ptr 0 1 1), (33, .val (.list ja aper3)), (34, .ptr 0 1 2), (35, vI je), (36, vV jg), (37, .val (.list (jk && jj.2.isEmpty) (l17 ++ jj.2))), (46, .val (.agg [.str aloc1, .list ja aper3, .int .i64 je, .list jb aseg6, .list jd aser9, .int .i64 jc])), (47, vV jn), (48, vV jl)], [bx 140 [(1, some [vS aloc1, .val (.list ja aper3), vI je, .val (.list jb aseg6), .val (.list jd aser9), vI jc])]], KK⟩)
noncomputable def Qeb (lb n w6 : Nat) (aloc1 : LB) (ja : Bool) (aper3 : LL) (je : Int) (jb : Bool) (aseg6 : LL) (jd : Bool) (aser9 : LL) (jc : Int) (jl : CV) (jk : Bool) (l17 : LL) (jg : CV) (jj : Bool × LL) (jn : CV) (w4 : Bool) (ks : LL) (wS : Int) : Option CV :=
 hold (QaC (E0 lb n 0 988) 0 (Qak (sub (B Qad) [1, 1, 1, 1, 1, 1, 1, 1, 0, 1, 0, 0]) ++ [6, 7, 7]) [] (sub (B Qad) [1, 1, 1, 1, 1, 1, 1, 1, 0, 1, 0, 0]) (Qao 0 (seqK (E0 lb n 0 991) (sub (B Qad) [1, 1, 1, 1, 1, 1, 1, 1, 0]) (sub (B Qad) [1, 1, 1, 1, 1, 1, 1, 1, 1]) (retK Tryz.prog (R Qad) 0 (outK (Qaf Tryz.prog Qad))))) w6 ⟨fr 140 [(0, .val (.agg [.str aloc1, .list ja aper3, .int .i64 je, .list jb aseg6, .list jd aser9, .int .i64 jc])), (1, .ptr 0 1 0), (2, .lst true true 61 []), (3, .lst true w4 61 ks), (4, vV jl), (5, vI wS), (31, .val (.list jk l17)), (32, .ptr 0 1 1), (33, .val (.list ja aper3)), (34, .ptr 0 1 2), (35, vI je), (36, vV jg), (37, .val (.list (jk && jj.2.isEmpty) (l17 ++ jj.2))), (46, .val (.agg [.str aloc1, .list ja aper3, .int .i64 je, .list jb aseg6, .list jd aser9, .int .i64 jc])), (47, vV jn), (48, vV jl)], [bx 140 [(1, some [vS aloc1, .val (.list ja aper3), vI je, .val (.list jb aseg6), .val (.list jd aser9), vI jc])]], KK⟩)
noncomputable def Qd1 (lb n vT w6 : Nat) (aloc1 : LB) (ja : Bool) (aper3 : LL) (je : Int) (jb : Bool) (aseg6 : LL) (jd : Bool) (aser9 : LL) (jc : Int) (jl : CV) (wS : Int) (wU : CV) (jk : Bool) (l17 : LL) (jg : CV) (jj : Bool × LL) (jn : CV) (c99 : List CV) (jq jt wA jr js ju jB jC jA yk : CV) (vK : Bool) (l118 : LL) (y2 : Int) : Option CV :=
 hold (QaC (E0 lb n 0 981) 0 (Qak (sub (B Qad) [1, 1, 1, 1, 1, 1, 1, 1, 0, 1, 0, 0, 1, 0, 0, 1, 1, 0, 0]) ++ []) [] (sub (B Qad) [1, 1, 1, 1, 1, 1, 1, 1, 0, 1, 0, 0, 1, 0, 0, 1, 1, 0, 0]) (Qao 2 (Qao 1 (seqK (E0 lb n 0 986) (sub (B Qad) [1, 1, 1, 1, 1, 1, 1, 1, 0, 1, 0, 0, 1, 0]) (sub (B Qad) [1, 1, 1, 1, 1, 1, 1, 1, 0, 1, 0, 0, 1, 1]) (QcV 0 (Qak (sub (B Qad) [1, 1, 1, 1, 1, 1, 1, 1, 0, 1, 0, 0]) ++ [6, 7, 7]) [] (QaC (E0 lb n 0 988) 0 (Qak (sub (B Qad) [1, 1, 1, 1, 1, 1, 1, 1, 0, 1, 0, 0]) ++ [6, 7, 7]) [] (sub (B Qad) [1, 1, 1, 1, 1, 1, 1, 1, 0, 1, 0, 0]) (Qao 0 (seqK (E0 lb n 0 991) (sub (B Qad) [1, 1, 1, 1, 1, 1, 1, 1, 0]) (sub (B Qad) [1, 1, 1, 1, 1, 1, 1, 1, 1]) (retK Tryz.prog (R Qad) 0 (outK (Qaf Tryz.prog Qad))))) w6) (Qao 0 (seqK (E0 lb n 0 991) (sub (B Qad) [1, 1, 1, 1, 1, 1, 1, 1, 0]) (sub (B Qad) [1, 1, 1, 1, 1, 1, 1, 1, 1]) (retK Tryz.prog (R Qad) 0 (outK (Qaf Tryz.prog Qad))))))))) vT ⟨fr 140 [(0, .val (.agg [.str aloc1, .list ja aper3, .int .i64 je, .list jb aseg6, .list jd aser9, .int .i64 jc])), (1, .ptr 0 1 0), (2, .lst true true 61 []), (3, .lst true vK 61 l118), (4, vV jl), (5, vI wS), (6, vV wU), (7, vI y2), (31, .val (.list jk l17)), (32, .ptr 0 1 1), (33, .val (.list ja aper3)), (34, .ptr 0 1 2), (35, vI je), (36, vV jg), (37, .val (.list (jk && jj.2.isEmpty) (l17 ++ jj.2))), (46, .val (.agg [.str aloc1, .list ja aper3, .int .i64 je, .list jb aseg6, .list jd aser9, .int .i64 jc])), (47, vV jn), (48, vV jl), (63, .ptr 0 1 3), (64, .val (.list jb aseg6)), (65, vI wS), (66, .cptr c99 0), (67, .val (.agg [jq, jt, wA, jr, js, ju, jB, jC, jA, yk])), (68, vV wU)], [bx 140 [(1, some [vS aloc1, .val (.list ja aper3), vI je, .val (.list jb aseg6), .val (.list jd aser9), vI jc])]], KK⟩)
noncomputable def Qkk (lb n w6 : Nat) (aloc1 : LB) (ja : Bool) (aper3 : LL) (je : Int) (jb : Bool) (aseg6 : LL) (jd : Bool) (aser9 : LL) (jc : Int) (jl : CV) (wS : Int) (jk : Bool) (l17 : LL) (jg : CV) (jj : Bool × LL) (jn : CV) (vQ : Bool) (vX : LL) (y1 : CV) (kO : Int) : Option CV :=
 hold (E0 lb n 0 986 (sub (B Qad) [1, 1, 1, 1, 1, 1, 1, 1, 0, 1, 0, 0, 1, 1]) (QcV 0 (Qak (sub (B Qad) [1, 1, 1, 1, 1, 1, 1, 1, 0, 1, 0, 0]) ++ [6, 7, 7]) [] (QaC (E0 lb n 0 988) 0 (Qak (sub (B Qad) [1, 1, 1, 1, 1, 1, 1, 1, 0, 1, 0, 0]) ++ [6, 7, 7]) [] (sub (B Qad) [1, 1, 1, 1, 1, 1, 1, 1, 0, 1, 0, 0]) (Qao 0 (seqK (E0 lb n 0 991) (sub (B Qad) [1, 1, 1, 1, 1, 1, 1, 1, 0]) (sub (B Qad) [1, 1, 1, 1, 1, 1, 1, 1, 1]) (retK Tryz.prog (R Qad) 0 (outK (Qaf Tryz.prog Qad))))) w6) (Qao 0 (seqK (E0 lb n 0 991) (sub (B Qad) [1, 1, 1, 1, 1, 1, 1, 1, 0]) (sub (B Qad) [1, 1, 1, 1, 1, 1, 1, 1, 1]) (retK Tryz.prog (R Qad) 0 (outK (Qaf Tryz.prog Qad)))))) ⟨fr 140 [(0, .val (.agg [.str aloc1, .list ja aper3, .int .i64 je, .list jb aseg6, .list jd aser9, .int .i64 jc])), (1, .ptr 0 1 0), (2, .lst true true 61 []), (3, .lst true vQ 61 vX), (4, vV jl), (5, vI wS), (6, vV y1), (7, vI kO), (31, .val (.list jk l17)), (32, .ptr 0 1 1), (33, .val (.list ja aper3)), (34, .ptr 0 1 2), (35, vI je), (36, vV jg), (37, .val (.list (jk && jj.2.isEmpty) (l17 ++ jj.2))), (46, .val (.agg [.str aloc1, .list ja aper3, .int .i64 je, .list jb aseg6, .list jd aser9, .int .i64 jc])), (47, vV jn), (48, vV jl)], [bx 140 [(1, some [vS aloc1, .val (.list ja aper3), vI je, .val (.list jb aseg6), .val (.list jd aser9), vI jc])]], KK⟩)
theorem Qnp (lb n w6 : Nat) (aloc1 : LB) (ja : Bool) (aper3 : LL) (je : Int) (jb : Bool) (aseg6 : LL) (jd : Bool) (aser9 : LL) (jc : Int) (jl : CV) (wS : Int) (jk : Bool) (l17 : LL) (jg : CV) (jj : Bool × LL) (jn : CV) (vQ : Bool) (vX : LL) (y1 : CV) (kO : Int) :
 Qkk lb n w6 aloc1 ja aper3 je jb aseg6 jd aser9 jc jl wS jk l17 jg jj jn vQ vX y1 kO =
 Qeb lb n w6 aloc1 ja aper3 je jb aseg6 jd aser9 jc jl jk l17 jg jj jn vQ vX (IntKind.wrap .i64 (wS + 1)) := (Qae _).trans (by kernel_rfl)
theorem QgX (lb n vT w6 : Nat) (aloc1 : LB) (ja : Bool) (aper3 : LL) (je : Int) (jb : Bool) (aseg6 : LL) (jd : Bool) (aser9 : LL) (jc : Int) (jl : CV) (wS : Int) (wU : CV) (jk : Bool) (l17 : LL) (jg : CV) (jj : Bool × LL) (jn : CV) (c99 : List CV) (jq jt wA jr js ju jB jC jA yk : CV) (vK : Bool) (l118 : LL) (y2 : Int) :
 Qd1 lb n (vT + 1) w6 aloc1 ja aper3 je jb aseg6 jd aser9 jc jl wS wU jk l17 jg jj jn c99 jq jt wA jr js ju jB jC jA yk vK l118 y2 =
 optO (CV.asL wU) fun m8 =>
 bif (decide (y2 < (m8.2.length : Int))) then
 (optO (CV.asL wU) fun mr =>
 optO (atL mr.2 y2) fun c129 =>
 chkO (c129.length == 1) (
 optO (c129[0]?) fun v8 =>
 optO (C lb n Qc0 [.int .i64 wS]) fun mJ =>
 optO (CV.asS mJ) fun s132 =>
 chkO (decide (([115, 101, 103, 32] : LB).length + s132.length ≤ 9223372036854775807)) (
 chkO (CV.isCell v8) (
 chkO (room (l118.length + 1) 24) (
 Qd1 lb n vT w6 aloc1 ja aper3 je jb aseg6 jd aser9 jc jl wS wU jk l17 jg jj jn c99 jq jt wA jr js ju jB jC jA yk (vK && false) (l118 ++ [[v8, CV.str (([115, 101, 103, 32] : LB) ++ s132)]]) (IntKind.wrap .i64 (y2 + 1)))))))
 else
 (Qkk lb n w6 aloc1 ja aper3 je jb aseg6 jd aser9 jc jl wS jk l17 jg jj jn vK l118 wU y2) := (Qae _).trans (by kernel_rfl)
noncomputable def Qhw (lb n : Nat) (aloc1 : LB) (ja : Bool) (aper3 : LL) (je : Int) (jb : Bool) (aseg6 : LL) (jd : Bool) (aser9 : LL) (jc : Int) (jl : CV) (jk : Bool) (l17 : LL) (jg : CV) (jj : Bool × LL) (jn : CV) (vU : Bool) (ka : LL) (wk : Int) : Option CV :=
 hold (E0 lb n 0 991 (sub (B Qad) [1, 1, 1, 1, 1, 1, 1, 1, 1]) (retK Tryz.prog (R Qad) 0 (outK (Qaf Tryz.prog Qad))) ⟨fr 140 [(0, .val (.agg [.str aloc1, .list ja aper3, .int .i64 je, .list jb aseg6, .list jd aser9, .int .i64 jc])), (1, .ptr 0 1 0), (2, .lst true true 61 []), (3, .lst true vU 61 ka), (4, vV jl), (5, vI wk), (31, .val (.list jk l17)), (32, .ptr 0 1 1), (33, .val (.list ja aper3)), (34, .ptr 0 1 2), (35, vI je), (36, vV jg), (37, .val (.list (jk && jj.2.isEmpty) (l17 ++ jj.2))), (46, .val (.agg [.str aloc1, .list ja aper3, .int .i64 je, .list jb aseg6, .list jd aser9, .int .i64 jc])), (47, vV jn), (48, vV jl)], [bx 140 [(1, some [vS aloc1, .val (.list ja aper3), vI je, .val (.list jb aseg6), .val (.list jd aser9), vI jc])]], KK⟩)
noncomputable def Qbw (lb n wW : Nat) (aloc1 : LB) (ja : Bool) (aper3 : LL) (je : Int) (jb : Bool) (aseg6 : LL) (jd : Bool) (aser9 : LL) (jc : Int) (jl : CV) (wk : Int) (jk : Bool) (l17 : LL) (jg : CV) (jj : Bool × LL) (jn : CV) (va : Bool) (l184 : LL) (jL : Int) : Option CV :=
 hold (QaC (E0 lb n 0 987) 0 (Qak (sub (B Qad) [1, 1, 1, 1, 1, 1, 1, 1, 1, 0, 1, 0, 0]) ++ [10]) [9] (sub (B Qad) [1, 1, 1, 1, 1, 1, 1, 1, 1, 0, 1, 0, 0]) (Qao 4 (seqK (E0 lb n 0 990) (sub (B Qad) [1, 1, 1, 1, 1, 1, 1, 1, 1, 0]) (sub (B Qad) [1, 1, 1, 1, 1, 1, 1, 1, 1, 1]) (retK Tryz.prog (R Qad) 0 (outK (Qaf Tryz.prog Qad))))) wW ⟨fr 140 [(0, .val (.agg [.str aloc1, .list ja aper3, .int .i64 je, .list jb aseg6, .list jd aser9, .int .i64 jc])), (1, .ptr 0 1 0), (2, .lst true true 61 []), (3, .lst true va 61 l184), (4, vV jl), (5, vI wk), (8, vI jL), (31, .val (.list jk l17)), (32, .ptr 0 1 1), (33, .val (.list ja aper3)), (34, .ptr 0 1 2), (35, vI je), (36, vV jg), (37, .val (.list (jk && jj.2.isEmpty) (l17 ++ jj.2))), (46, .val (.agg [.str aloc1, .list ja aper3, .int .i64 je, .list jb aseg6, .list jd aser9, .int .i64 jc])), (47, vV jn), (48, vV jl)], [bx 140 [(1, some [vS aloc1, .val (.list ja aper3), vI je, .val (.list jb aseg6), .val (.list jd aser9), vI jc])]], KK⟩)
noncomputable def QdA (lb n wW : Nat) (aloc1 : LB) (ja : Bool) (aper3 : LL) (je : Int) (jb : Bool) (aseg6 : LL) (jd : Bool) (aser9 : LL) (jc : Int) (jl : CV) (wk jL : Int) (s208 : LB) (jk : Bool) (l17 : LL) (jg : CV) (jj : Bool × LL) (jn : CV) (c203 : List CV) (yD yr wH yK : CV) (yN : Bool) (l212 : LL) : Option CV :=
 hold (E0 lb n 0 982 (sub (B Qad) [1, 1, 1, 1, 1, 1, 1, 1, 1, 0, 1, 0, 0, 1, 0, 0, 1, 1]) (Qao 5 (seqK (E0 lb n 0 985) (sub (B Qad) [1, 1, 1, 1, 1, 1, 1, 1, 1, 0, 1, 0, 0, 1, 0]) (sub (B Qad) [1, 1, 1, 1, 1, 1, 1, 1, 1, 0, 1, 0, 0, 1, 1]) (QcV 0 (Qak (sub (B Qad) [1, 1, 1, 1, 1, 1, 1, 1, 1, 0, 1, 0, 0]) ++ [10]) [9] (QaC (E0 lb n 0 987) 0 (Qak (sub (B Qad) [1, 1, 1, 1, 1, 1, 1, 1, 1, 0, 1, 0, 0]) ++ [10]) [9] (sub (B Qad) [1, 1, 1, 1, 1, 1, 1, 1, 1, 0, 1, 0, 0]) (Qao 4 (seqK (E0 lb n 0 990) (sub (B Qad) [1, 1, 1, 1, 1, 1, 1, 1, 1, 0]) (sub (B Qad) [1, 1, 1, 1, 1, 1, 1, 1, 1, 1]) (retK Tryz.prog (R Qad) 0 (outK (Qaf Tryz.prog Qad))))) wW) (Qao 4 (seqK (E0 lb n 0 990) (sub (B Qad) [1, 1, 1, 1, 1, 1, 1, 1, 1, 0]) (sub (B Qad) [1, 1, 1, 1, 1, 1, 1, 1, 1, 1]) (retK Tryz.prog (R Qad) 0 (outK (Qaf Tryz.prog Qad)))))))) ⟨fr 140 [(0, .val (.agg [.str aloc1, .list ja aper3, .int .i64 je, .list jb aseg6, .list jd aser9, .int .i64 jc])), (1, .ptr 0 1 0), (2, .lst true true 61 []), (3, .lst true yN 61 l212), (4, vV jl), (5, vI wk), (8, vI jL), (9, .ptr 0 9 0), (10, .val (.str (([115, 101, 114, 118, 105, 99, 101, 32] : LB) ++ s208))), (31, .val (.list jk l17)), (32, .ptr 0 1 1), (33, .val (.list ja aper3)), (34, .ptr 0 1 2), (35, vI je), (36, vV jg), (37, .val (.list (jk && jj.2.isEmpty) (l17 ++ jj.2))), (46, .val (.agg [.str aloc1, .list ja aper3, .int .i64 je, .list jb aseg6, .list jd aser9, .int .i64 jc])), (47, vV jn), (48, vV jl), (93, .ptr 0 1 4), (94, .val (.list jd aser9)), (95, vI jL), (96, .cptr c203 0), (97, .val (.agg [yD, yr, wH])), (98, vI jL), (99, vV yK), (100, .val (.str (([115, 101, 114, 118, 105, 99, 101, 32] : LB) ++ s208)))], [bx 140 [(1, some [vS aloc1, .val (.list ja aper3), vI je, .val (.list jb aseg6), .val (.list jd aser9), vI jc]), (9, some [.val yD, .val yr, .val wH])]], KK⟩)
theorem Ql9 (lb n wW : Nat) (aloc1 : LB) (ja : Bool) (aper3 : LL) (je : Int) (jb : Bool) (aseg6 : LL) (jd : Bool) (aser9 : LL) (jc : Int) (jl : CV) (wk jL : Int) (s208 : LB) (jk : Bool) (l17 : LL) (jg : CV) (jj : Bool × LL) (jn : CV) (c203 : List CV) (yD yr wH yK : CV) (yN : Bool) (l212 : LL) :
 QdA lb n wW aloc1 ja aper3 je jb aseg6 jd aser9 jc jl wk jL s208 jk l17 jg jj jn c203 yD yr wH yK yN l212 =
 optO (CV.asI .i64 yr) fun nE =>
 bif (decide (nE < 0)) then
 (chkO (room (l212.length + 1) 24) (
 Qbw lb n wW aloc1 ja aper3 je jb aseg6 jd aser9 jc jl wk jk l17 jg jj jn (yN && false) (l212 ++ [[CV.int .i64 7, CV.str (([115, 101, 114, 118, 105, 99, 101, 32] : LB) ++ s208)]]) (IntKind.wrap .i64 (jL + 1))))
 else
 (optO (CV.asI .i64 yr) fun mE =>
 bif (decide (mE ≥ (aper3.length : Int))) then
 (chkO (room (l212.length + 1) 24) (
 Qbw lb n wW aloc1 ja aper3 je jb aseg6 jd aser9 jc jl wk jk l17 jg jj jn (yN && false) (l212 ++ [[CV.int .i64 7, CV.str (([115, 101, 114, 118, 105, 99, 101, 32] : LB) ++ s208)]]) (IntKind.wrap .i64 (jL + 1))))
 else
 (optO (CV.asI .i64 wH) fun kG =>
 bif (decide (kG < 0)) then
 (chkO (room (l212.length + 1) 24) (
 Qbw lb n wW aloc1 ja aper3 je jb aseg6 jd aser9 jc jl wk jk l17 jg jj jn (yN && false) (l212 ++ [[CV.int .i64 7, CV.str (([115, 101, 114, 118, 105, 99, 101, 32] : LB) ++ s208)]]) (IntKind.wrap .i64 (jL + 1))))
 else
 (optO (CV.asI .i64 wH) fun kL =>
 bif (decide (kL ≥ (aseg6.length : Int))) then
 (chkO (room (l212.length + 1) 24) (
 Qbw lb n wW aloc1 ja aper3 je jb aseg6 jd aser9 jc jl wk jk l17 jg jj jn (yN && false) (l212 ++ [[CV.int .i64 7, CV.str (([115, 101, 114, 118, 105, 99, 101, 32] : LB) ++ s208)]]) (IntKind.wrap .i64 (jL + 1))))
 else
 (Qbw lb n wW aloc1 ja aper3 je jb aseg6 jd aser9 jc jl wk jk l17 jg jj jn yN l212 (IntKind.wrap .i64 (jL + 1)))))) := (Qae _).trans (by kernel_rfl)
noncomputable def QjQ (lb n : Nat) (aloc1 : LB) (ja : Bool) (aper3 : LL) (je : Int) (jb : Bool) (aseg6 : LL) (jd : Bool) (aser9 : LL) (jc : Int) (jl : CV) (wk : Int) (jk : Bool) (l17 : LL) (jg : CV) (jj : Bool × LL) (jn : CV) (v7 : Bool) (vZ : LL) (kT : Int) : Option CV :=
 hold (E0 lb n 0 990 (sub (B Qad) [1, 1, 1, 1, 1, 1, 1, 1, 1, 1]) (retK Tryz.prog (R Qad) 0 (outK (Qaf Tryz.prog Qad))) ⟨fr 140 [(0, .val (.agg [.str aloc1, .list ja aper3, .int .i64 je, .list jb aseg6, .list jd aser9, .int .i64 jc])), (1, .ptr 0 1 0), (2, .lst true true 61 []), (3, .lst true v7 61 vZ), (4, vV jl), (5, vI wk), (8, vI kT), (31, .val (.list jk l17)), (32, .ptr 0 1 1), (33, .val (.list ja aper3)), (34, .ptr 0 1 2), (35, vI je), (36, vV jg), (37, .val (.list (jk && jj.2.isEmpty) (l17 ++ jj.2))), (46, .val (.agg [.str aloc1, .list ja aper3, .int .i64 je, .list jb aseg6, .list jd aser9, .int .i64 jc])), (47, vV jn), (48, vV jl)], [bx 140 [(1, some [vS aloc1, .val (.list ja aper3), vI je, .val (.list jb aseg6), .val (.list jd aser9), vI jc])]], KK⟩)
theorem Qma (lb n : Nat) (aloc1 : LB) (ja : Bool) (aper3 : LL) (je : Int) (jb : Bool) (aseg6 : LL) (jd : Bool) (aser9 : LL) (jc : Int) (jl : CV) (wk : Int) (jk : Bool) (l17 : LL) (jg : CV) (jj : Bool × LL) (jn : CV) (v7 : Bool) (vZ : LL) (kT : Int) :
 QjQ lb n aloc1 ja aper3 je jb aseg6 jd aser9 jc jl wk jk l17 jg jj jn v7 vZ kT =
 some (.list v7 vZ) := (Qae _).trans (by kernel_rfl)
theorem QgS (lb n wW : Nat) (aloc1 : LB) (ja : Bool) (aper3 : LL) (je : Int) (jb : Bool) (aseg6 : LL) (jd : Bool) (aser9 : LL) (jc : Int) (jl : CV) (wk : Int) (jk : Bool) (l17 : LL) (jg : CV) (jj : Bool × LL) (jn : CV) (va : Bool) (l184 : LL) (jL : Int) :
 Qbw lb n (wW + 1) aloc1 ja aper3 je jb aseg6 jd aser9 jc jl wk jk l17 jg jj jn va l184 jL =
 bif (decide (jL < (aser9.length : Int))) then
 (optO (atL aser9 jL) fun c203 =>
 chkO (c203.length == 3) (
 optO (c203[0]?) fun yD =>
 optO (c203[1]?) fun yr =>
 optO (c203[2]?) fun wH =>
 optO (C lb n Qc0 [.int .i64 jL]) fun yK =>
 optO (CV.asS yK) fun s208 =>
 chkO (decide (([115, 101, 114, 118, 105, 99, 101, 32] : LB).length + s208.length ≤ 9223372036854775807)) (
 optO (C lb n Qbl [yD, .int .i64 4, .int .i64 4]) fun yu =>
 optO (CV.asB yu) fun g9 =>
 bif (!g9) then
 (chkO (room (l184.length + 1) 24) (
 QdA lb n wW aloc1 ja aper3 je jb aseg6 jd aser9 jc jl wk jL s208 jk l17 jg jj jn c203 yD yr wH yK (va && false) (l184 ++ [[CV.int .i64 5, CV.str (([115, 101, 114, 118, 105, 99, 101, 32] : LB) ++ s208)]])))
 else
 (QdA lb n wW aloc1 ja aper3 je jb aseg6 jd aser9 jc jl wk jL s208 jk l17 jg jj jn c203 yD yr wH yK va l184))))
 else
 (QjQ lb n aloc1 ja aper3 je jb aseg6 jd aser9 jc jl wk jk l17 jg jj jn va l184 jL) := (Qae _).trans (by kernel_rfl)
theorem Qnq (lb n : Nat) (aloc1 : LB) (ja : Bool) (aper3 : LL) (je : Int) (jb : Bool) (aseg6 : LL) (jd : Bool) (aser9 : LL) (jc : Int) (jl : CV) (jk : Bool) (l17 : LL) (jg : CV) (jj : Bool × LL) (jn : CV) (vU : Bool) (ka : LL) (wk : Int) :
 Qhw lb n aloc1 ja aper3 je jb aseg6 jd aser9 jc jl jk l17 jg jj jn vU ka wk =
 Qbw lb n n aloc1 ja aper3 je jb aseg6 jd aser9 jc jl wk jk l17 jg jj jn vU ka 0 := (Qae _).trans (by kernel_rfl)
theorem Qg1 (lb n w6 : Nat) (aloc1 : LB) (ja : Bool) (aper3 : LL) (je : Int) (jb : Bool) (aseg6 : LL) (jd : Bool) (aser9 : LL) (jc : Int) (jl : CV) (jk : Bool) (l17 : LL) (jg : CV) (jj : Bool × LL) (jn : CV) (w4 : Bool) (ks : LL) (wS : Int) :
 Qeb lb n (w6 + 1) aloc1 ja aper3 je jb aseg6 jd aser9 jc jl jk l17 jg jj jn w4 ks wS =
 bif (decide (wS < (aseg6.length : Int))) then
 (optO (atL aseg6 wS) fun c99 =>
 chkO (c99.length == 10) (
 optO (c99[0]?) fun jq =>
 optO (c99[1]?) fun jt =>
 optO (c99[2]?) fun wA =>
 optO (c99[3]?) fun jr =>
 optO (c99[4]?) fun js =>
 optO (c99[5]?) fun ju =>
 optO (c99[6]?) fun jB =>
 optO (c99[7]?) fun jC =>
 optO (c99[8]?) fun jA =>
 optO (c99[9]?) fun yk =>
 optO (C lb n Qa6 [.agg [jq, jt, wA, jr, js, ju, jB, jC, jA, yk]]) fun wU =>
 Qd1 lb n n w6 aloc1 ja aper3 je jb aseg6 jd aser9 jc jl wS wU jk l17 jg jj jn c99 jq jt wA jr js ju jB jC jA yk w4 ks 0))
 else
 (Qhw lb n aloc1 ja aper3 je jb aseg6 jd aser9 jc jl jk l17 jg jj jn w4 ks wS) := (Qae _).trans (by kernel_rfl)
theorem QmV (lb n : Nat) (aloc1 : LB) (ja : Bool) (aper3 : LL) (je : Int) (jb : Bool) (aseg6 : LL) (jd : Bool) (aser9 : LL) (jc : Int) (jl : CV) (jk : Bool) (l17 : LL) (jg : CV) (jj : Bool × LL) (jn : CV) (yQ : Bool) (y5 : LL) :
 Qd3 lb n aloc1 ja aper3 je jb aseg6 jd aser9 jc jl jk l17 jg jj jn yQ y5 =
 Qeb lb n n aloc1 ja aper3 je jb aseg6 jd aser9 jc jl jk l17 jg jj jn yQ y5 0 := (Qae _).trans (by kernel_rfl)
theorem QmW (lb n : Nat) (aloc1 : LB) (ja : Bool) (aper3 : LL) (je : Int) (jb : Bool) (aseg6 : LL) (jd : Bool) (aser9 : LL) (jc : Int) (jk : Bool) (l17 : LL) (jg : CV) (jj : Bool × LL) (yv : Bool) (l21 : LL) :
 QcQ lb n aloc1 ja aper3 je jb aseg6 jd aser9 jc jk l17 jg jj yv l21 =
 optO (C lb n Qa5 [.agg [.str aloc1, .list ja aper3, .int .i64 je, .list jb aseg6, .list jd aser9, .int .i64 jc]]) fun jn =>
 optO (C lb n Qal [jn]) fun jl =>
 optO (CV.asI .i64 jl) fun yU =>
 bif (yU != 0) then
 (chkO (CV.isCell jl) (
 chkO (room (l21.length + 1) 24) (
 Qd3 lb n aloc1 ja aper3 je jb aseg6 jd aser9 jc jl jk l17 jg jj jn (yv && false) (l21 ++ [[jl, CV.str [115, 101, 103, 115]]]))))
 else
 (Qd3 lb n aloc1 ja aper3 je jb aseg6 jd aser9 jc jl jk l17 jg jj jn yv l21) := (Qae _).trans (by kernel_rfl)
theorem QmA (lb n : Nat) (aloc1 : LB) (ja : Bool) (aper3 : LL) (je : Int) (jb : Bool) (aseg6 : LL) (jd : Bool) (aser9 : LL) (jc : Int) (jk : Bool) (l17 : LL) :
 QcR lb n aloc1 ja aper3 je jb aseg6 jd aser9 jc jk l17 =
 optO (C lb n Qat [.list ja aper3, .int .i64 je]) fun jg =>
 optO (CV.asL jg) fun jj =>
 chkO (jj.2.all (·.length == 2)) (
 chkO (room (l17.length + jj.2.length) 24) (
 bif (decide ((aseg6.length : Int) > 24)) then
 (chkO (room ((l17 ++ jj.2).length + 1) 24) (
 QcQ lb n aloc1 ja aper3 je jb aseg6 jd aser9 jc jk l17 jg jj ((jk && jj.2.isEmpty) && false) ((l17 ++ jj.2) ++ [[CV.int .i64 4, CV.str [115, 101, 103, 115]]])))
 else
 (QcQ lb n aloc1 ja aper3 je jb aseg6 jd aser9 jc jk l17 jg jj (jk && jj.2.isEmpty) (l17 ++ jj.2)))) := (Qae _).trans (by kernel_rfl)
theorem Qnn (lb n : Nat) (aloc1 : LB) (ja : Bool) (aper3 : LL) (je : Int) (jb : Bool) (aseg6 : LL) (jd : Bool) (aser9 : LL) (jc : Int) (wF : Bool) (l14 : LL) :
 r35_Check_J1 lb n aloc1 ja aper3 je jb aseg6 jd aser9 jc wF l14 =
 bif (decide (jc < 0)) then
 (chkO (room (l14.length + 1) 24) (
 QcR lb n aloc1 ja aper3 je jb aseg6 jd aser9 jc (wF && false) (l14 ++ [[CV.int .i64 13, CV.str [108, 105, 109, 105, 116]]])))
 else
 (bif (decide (jc ≥ 52596000)) then
 (chkO (room (l14.length + 1) 24) (
 QcR lb n aloc1 ja aper3 je jb aseg6 jd aser9 jc (wF && false) (l14 ++ [[CV.int .i64 13, CV.str [108, 105, 109, 105, 116]]])))
 else
 (QcR lb n aloc1 ja aper3 je jb aseg6 jd aser9 jc wF l14)) := (Qae _).trans (by kernel_rfl)
theorem QpV (lb n : Nat) (aloc1 : LB) (ja : Bool) (aper3 : LL) (je : Int) (jb : Bool) (aseg6 : LL) (jd : Bool) (aser9 : LL) (jc : Int) :
 top lb n Qad [.agg [.str aloc1, .list ja aper3, .int .i64 je, .list jb aseg6, .list jd aser9, .int .i64 jc]] =
 optO (C lb n QgM [.str aloc1]) fun vj =>
 optO (CV.asB vj) fun kj =>
 bif (!kj) then
 (r35_Check_J1 lb n aloc1 ja aper3 je jb aseg6 jd aser9 jc false [[CV.int .i64 5, CV.str [108, 111, 99, 97, 116, 111, 114]]])
 else
 (r35_Check_J1 lb n aloc1 ja aper3 je jb aseg6 jd aser9 jc true []) := by kernel_rfl
theorem QnZ (lb n : Nat) (a1 : LB) :
 top lb n QgM [.str a1] =
 optO (C lb n Qbl [.str a1, .int .i64 6, .int .i64 6]) fun r2 =>
 some (r2) := by kernel_rfl
noncomputable def Qek (lb n y7 : Nat) (aloc1 : LB) (ja : Bool) (aper3 : LL) (je : Int) (jb : Bool) (aseg6 : LL) (jd : Bool) (aser9 : LL) (jc : Int) (wF : Bool) (l14 : LL) (jS : Int) : Option CV :=
 hold (QaC (E0 lb n 0 994) 0 (Qak (sub (B Qa5) [1, 1, 0, 1, 0, 0]) ++ []) [] (sub (B Qa5) [1, 1, 0, 1, 0, 0]) (Qao 0 (seqK (E0 lb n 0 997) (sub (B Qa5) [1, 1, 0]) (sub (B Qa5) [1, 1, 1]) (retK Tryz.prog (R Qa5) 0 (outK (Qaf Tryz.prog Qa5))))) y7 ⟨fr 22 [(0, .val (.agg [.str aloc1, .list ja aper3, .int .i64 je, .list jb aseg6, .list jd aser9, .int .i64 jc])), (1, .ptr 0 1 0), (2, .lst true true 3 []), (3, .lst true wF 3 l14), (4, vI jS)], [bx 22 [(1, some [vS aloc1, .val (.list ja aper3), vI je, .val (.list jb aseg6), .val (.list jd aser9), vI jc])]], KK⟩)
noncomputable def QiQ (lb n : Nat) (aloc1 : LB) (ja : Bool) (aper3 : LL) (je : Int) (jb : Bool) (aseg6 : LL) (jd : Bool) (aser9 : LL) (jc : Int) (oh : Bool) (og : LL) (yU : Int) : Option CV :=
 hold (E0 lb n 0 997 (sub (B Qa5) [1, 1, 1]) (retK Tryz.prog (R Qa5) 0 (outK (Qaf Tryz.prog Qa5))) ⟨fr 22 [(0, .val (.agg [.str aloc1, .list ja aper3, .int .i64 je, .list jb aseg6, .list jd aser9, .int .i64 jc])), (1, .ptr 0 1 0), (2, .lst true true 3 []), (3, .lst true oh 3 og), (4, vI yU)], [bx 22 [(1, some [vS aloc1, .val (.list ja aper3), vI je, .val (.list jb aseg6), .val (.list jd aser9), vI jc])]], KK⟩)
theorem Qlp (lb n : Nat) (aloc1 : LB) (ja : Bool) (aper3 : LL) (je : Int) (jb : Bool) (aseg6 : LL) (jd : Bool) (aser9 : LL) (jc : Int) (oh : Bool) (og : LL) (yU : Int) :
 QiQ lb n aloc1 ja aper3 je jb aseg6 jd aser9 jc oh og yU =
 some (.list oh og) := (Qae _).trans (by kernel_rfl)
theorem QfQ (lb n y7 : Nat) (aloc1 : LB) (ja : Bool) (aper3 : LL) (je : Int) (jb : Bool) (aseg6 : LL) (jd : Bool) (aser9 : LL) (jc : Int) (wF : Bool) (l14 : LL) (jS : Int) :
 Qek lb n (y7 + 1) aloc1 ja aper3 je jb aseg6 jd aser9 jc wF l14 jS =
 bif (decide (jS < (aseg6.length : Int))) then
 (optO (atL aseg6 jS) fun c20 =>
 chkO (c20.length == 10) (
 optO (c20[9]?) fun jI =>
 chkO (CV.isCell jI) (
 chkO (room (l14.length + 1) 8) (
 Qek lb n y7 aloc1 ja aper3 je jb aseg6 jd aser9 jc (wF && false) (l14 ++ [[jI]]) (IntKind.wrap .i64 (jS + 1))))))
 else
 (QiQ lb n aloc1 ja aper3 je jb aseg6 jd aser9 jc wF l14 jS) := (Qae _).trans (by kernel_rfl)
theorem QnF (lb n : Nat) (aloc1 : LB) (ja : Bool) (aper3 : LL) (je : Int) (jb : Bool) (aseg6 : LL) (jd : Bool) (aser9 : LL) (jc : Int) :
 top lb n Qa5 [.agg [.str aloc1, .list ja aper3, .int .i64 je, .list jb aseg6, .list jd aser9, .int .i64 jc]] =
 Qek lb n n aloc1 ja aper3 je jb aseg6 jd aser9 jc true [] 0 := by kernel_rfl
noncomputable def QcK (lb n : Nat) (awansegcar1 : LB) (awansegnum2 awansegday3 : Int) (awansegfro4 jh : LB) (awansegdep6 awansegarr7 : Int) (jm : LB) (jo jp : Int) (ye : Bool) (l15 : LL) : Option CV :=
 hold (E0 lb n 0 996 (sub (B Qa6) [1, 1, 1, 1]) (retK Tryz.prog (R Qa6) 0 (outK (Qaf Tryz.prog Qa6))) ⟨fr 67 [(0, .val (.agg [.str awansegcar1, .int .i64 awansegnum2, .int .i64 awansegday3, .str awansegfro4, .str jh, .int .i64 awansegdep6, .int .i64 awansegarr7, .str jm, .int .i64 jo, .int .i64 jp])), (1, .ptr 0 1 0), (2, .lst true true 31 []), (3, .lst true ye 31 l15), (4, .ptr 0 4 0), (7, .ptr 0 1 0), (8, .ptr 0 1 0), (9, .val (.agg [.str awansegcar1, .int .i64 awansegnum2, .int .i64 awansegday3, .str awansegfro4, .str jh, .int .i64 awansegdep6, .int .i64 awansegarr7]))], [bx 67 [(1, some [vS awansegcar1, vI awansegnum2, vI awansegday3, vS awansegfro4, vS jh, vI awansegdep6, vI awansegarr7, vS jm, vI jo, vI jp]), (4, some [vS awansegcar1, vI awansegnum2, vI awansegday3, vS awansegfro4, vS jh, vI awansegdep6, vI awansegarr7])]], KK⟩)
noncomputable def QcC (lb n : Nat) (awansegcar1 : LB) (awansegnum2 awansegday3 : Int) (awansegfro4 jh : LB) (awansegdep6 awansegarr7 : Int) (jm : LB) (jo jp : Int) (yF : Bool) (l18 : LL) : Option CV :=
 hold (E0 lb n 0 995 (sub (B Qa6) [1, 1, 1, 1, 1]) (retK Tryz.prog (R Qa6) 0 (outK (Qaf Tryz.prog Qa6))) ⟨fr 67 [(0, .val (.agg [.str awansegcar1, .int .i64 awansegnum2, .int .i64 awansegday3, .str awansegfro4, .str jh, .int .i64 awansegdep6, .int .i64 awansegarr7, .str jm, .int .i64 jo, .int .i64 jp])), (1, .ptr 0 1 0), (2, .lst true true 31 []), (3, .lst true yF 31 l18), (4, .ptr 0 4 0), (7, .ptr 0 1 0), (8, .ptr 0 1 0), (9, .val (.agg [.str awansegcar1, .int .i64 awansegnum2, .int .i64 awansegday3, .str awansegfro4, .str jh, .int .i64 awansegdep6, .int .i64 awansegarr7]))], [bx 67 [(1, some [vS awansegcar1, vI awansegnum2, vI awansegday3, vS awansegfro4, vS jh, vI awansegdep6, vI awansegarr7, vS jm, vI jo, vI jp]), (4, some [vS awansegcar1, vI awansegnum2, vI awansegday3, vS awansegfro4, vS jh, vI awansegdep6, vI awansegarr7])]], KK⟩)
noncomputable def Qer (lb n : Nat) (awansegcar1 : LB) (awansegnum2 awansegday3 : Int) (awansegfro4 jh : LB) (awansegdep6 awansegarr7 : Int) (jm : LB) (jo jp : Int) (yI : Bool) (l22 : LL) : Option CV :=
 hold (E0 lb n 0 994 (sub (B Qa6) [1, 1, 1, 1, 1, 1]) (retK Tryz.prog (R Qa6) 0 (outK (Qaf Tryz.prog Qa6))) ⟨fr 67 [(0, .val (.agg [.str awansegcar1, .int .i64 awansegnum2, .int .i64 awansegday3, .str awansegfro4, .str jh, .int .i64 awansegdep6, .int .i64 awansegarr7, .str jm, .int .i64 jo, .int .i64 jp])), (1, .ptr 0 1 0), (2, .lst true true 31 []), (3, .lst true yI 31 l22), (4, .ptr 0 4 0), (7, .ptr 0 1 0), (8, .ptr 0 1 0), (9, .val (.agg [.str awansegcar1, .int .i64 awansegnum2, .int .i64 awansegday3, .str awansegfro4, .str jh, .int .i64 awansegdep6, .int .i64 awansegarr7]))], [bx 67 [(1, some [vS awansegcar1, vI awansegnum2, vI awansegday3, vS awansegfro4, vS jh, vI awansegdep6, vI awansegarr7, vS jm, vI jo, vI jp]), (4, some [vS awansegcar1, vI awansegnum2, vI awansegday3, vS awansegfro4, vS jh, vI awansegdep6, vI awansegarr7])]], KK⟩)
theorem Qlf (lb n : Nat) (awansegcar1 : LB) (awansegnum2 awansegday3 : Int) (awansegfro4 jh : LB) (awansegdep6 awansegarr7 : Int) (jm : LB) (jo jp : Int) (yI : Bool) (l22 : LL) :
 Qer lb n awansegcar1 awansegnum2 awansegday3 awansegfro4 jh awansegdep6 awansegarr7 jm jo jp yI l22 =
 optO (C lb n Qi8 [.int .i64 jo]) fun jl =>
 optO (CV.asT jl) fun kk =>
 optO (kk[0]?) fun jx =>
 optO (CV.asT jl) fun o8 =>
 optO (o8[1]?) fun jJ =>
 optO (CV.asI .i64 jJ) fun yV =>
 bif (yV != 0) then
 (chkO (room (l22.length + 1) 8) (
 some (.list (yI && false) (l22 ++ [[CV.int .i64 10]]))))
 else
 (some (.list yI l22)) := (Qae _).trans (by kernel_rfl)
theorem Qld (lb n : Nat) (awansegcar1 : LB) (awansegnum2 awansegday3 : Int) (awansegfro4 jh : LB) (awansegdep6 awansegarr7 : Int) (jm : LB) (jo jp : Int) (yF : Bool) (l18 : LL) :
 QcC lb n awansegcar1 awansegnum2 awansegday3 awansegfro4 jh awansegdep6 awansegarr7 jm jo jp yF l18 =
 optO (C lb n Qib [.str jm]) fun jv =>
 optO (CV.asB jv) fun yv =>
 bif (!yv) then
 (chkO (room (l18.length + 1) 8) (
 Qer lb n awansegcar1 awansegnum2 awansegday3 awansegfro4 jh awansegdep6 awansegarr7 jm jo jp (yF && false) (l18 ++ [[CV.int .i64 16]])))
 else
 (Qer lb n awansegcar1 awansegnum2 awansegday3 awansegfro4 jh awansegdep6 awansegarr7 jm jo jp yF l18) := (Qae _).trans (by kernel_rfl)
theorem Qlm (lb n : Nat) (awansegcar1 : LB) (awansegnum2 awansegday3 : Int) (awansegfro4 jh : LB) (awansegdep6 awansegarr7 : Int) (jm : LB) (jo jp : Int) (ye : Bool) (l15 : LL) :
 QcK lb n awansegcar1 awansegnum2 awansegday3 awansegfro4 jh awansegdep6 awansegarr7 jm jo jp ye l15 =
 bif (decide (awansegdep6 < 0)) then
 (chkO (room (l15.length + 1) 8) (
 QcC lb n awansegcar1 awansegnum2 awansegday3 awansegfro4 jh awansegdep6 awansegarr7 jm jo jp (ye && false) (l15 ++ [[CV.int .i64 13]])))
 else
 (bif (decide (awansegarr7 ≤ awansegdep6)) then
 (chkO (room (l15.length + 1) 8) (
 QcC lb n awansegcar1 awansegnum2 awansegday3 awansegfro4 jh awansegdep6 awansegarr7 jm jo jp (ye && false) (l15 ++ [[CV.int .i64 13]])))
 else
 (bif (decide (awansegarr7 ≥ 52596000)) then
 (chkO (room (l15.length + 1) 8) (
 QcC lb n awansegcar1 awansegnum2 awansegday3 awansegfro4 jh awansegdep6 awansegarr7 jm jo jp (ye && false) (l15 ++ [[CV.int .i64 13]])))
 else
 (QcC lb n awansegcar1 awansegnum2 awansegday3 awansegfro4 jh awansegdep6 awansegarr7 jm jo jp ye l15))) := (Qae _).trans (by kernel_rfl)
theorem Qoh (lb n : Nat) (awansegcar1 : LB) (awansegnum2 awansegday3 : Int) (awansegfro4 jh : LB) (awansegdep6 awansegarr7 : Int) (jm : LB) (jo jp : Int) :
 top lb n Qa6 [.agg [.str awansegcar1, .int .i64 awansegnum2, .int .i64 awansegday3, .str awansegfro4, .str jh, .int .i64 awansegdep6, .int .i64 awansegarr7, .str jm, .int .i64 jo, .int .i64 jp]] =
 optO (C lb n QgN [.str awansegcar1]) fun yM =>
 optO (CV.asB yM) fun wF =>
 bif (!wF) then
 (QcK lb n awansegcar1 awansegnum2 awansegday3 awansegfro4 jh awansegdep6 awansegarr7 jm jo jp false [[CV.int .i64 5]])
 else
 (optO (C lb n QeQ [.str awansegfro4]) fun gg =>
 optO (CV.asB gg) fun gi =>
 bif (!gi) then
 (QcK lb n awansegcar1 awansegnum2 awansegday3 awansegfro4 jh awansegdep6 awansegarr7 jm jo jp false [[CV.int .i64 5]])
 else
 (optO (C lb n QeQ [.str jh]) fun oF =>
 optO (CV.asB oF) fun oI =>
 bif (!oI) then
 (QcK lb n awansegcar1 awansegnum2 awansegday3 awansegfro4 jh awansegdep6 awansegarr7 jm jo jp false [[CV.int .i64 5]])
 else
 (QcK lb n awansegcar1 awansegnum2 awansegday3 awansegfro4 jh awansegdep6 awansegarr7 jm jo jp true []))) := by kernel_rfl
noncomputable def Qdl (lb n yP : Nat) (jf : Bool) (a2 : LL) (b3 : Int) (yY : Bool) (l37 : LL) (wK : Int) : Option CV :=
 hold (QaC (E0 lb n 0 994) 0 (Qak (sub (B Qat) [1, 1, 0, 1, 0, 0]) ++ [7]) [] (sub (B Qat) [1, 1, 0, 1, 0, 0]) (Qao 0 (seqK (E0 lb n 0 997) (sub (B Qat) [1, 1, 0]) (sub (B Qat) [1, 1, 1]) (retK Tryz.prog (R Qat) 0 (outK (Qaf Tryz.prog Qat))))) yP ⟨fr 82 [(0, .val (.list jf a2)), (1, vI b3), (4, .lst true true 61 []), (5, .lst true yY 61 l37), (6, vI wK)], [bx 82 []], KK⟩)
noncomputable def QfE (lb n yP : Nat) (jf : Bool) (a2 : LL) (b3 wK : Int) (s61 : LB) (vu : CV) (yO : Bool) (l70 : LL) : Option CV :=
 hold (E0 lb n 0 989 (sub (B Qat) [1, 1, 0, 1, 0, 0, 1, 0, 0, 1, 1]) (Qao 1 (seqK (E0 lb n 0 992) (sub (B Qat) [1, 1, 0, 1, 0, 0, 1, 0]) (sub (B Qat) [1, 1, 0, 1, 0, 0, 1, 1]) (QcV 0 (Qak (sub (B Qat) [1, 1, 0, 1, 0, 0]) ++ [7]) [] (QaC (E0 lb n 0 994) 0 (Qak (sub (B Qat) [1, 1, 0, 1, 0, 0]) ++ [7]) [] (sub (B Qat) [1, 1, 0, 1, 0, 0]) (Qao 0 (seqK (E0 lb n 0 997) (sub (B Qat) [1, 1, 0]) (sub (B Qat) [1, 1, 1]) (retK Tryz.prog (R Qat) 0 (outK (Qaf Tryz.prog Qat))))) yP) (Qao 0 (seqK (E0 lb n 0 997) (sub (B Qat) [1, 1, 0]) (sub (B Qat) [1, 1, 1]) (retK Tryz.prog (R Qat) 0 (outK (Qaf Tryz.prog Qat)))))))) ⟨fr 82 [(0, .val (.list jf a2)), (1, vI b3), (4, .lst true true 61 []), (5, .lst true yO 61 l70), (6, vI wK), (7, .val (.str (([112, 101, 114, 115, 111, 110, 32] : LB) ++ s61))), (15, vI wK), (16, vV vu), (17, .val (.str (([112, 101, 114, 115, 111, 110, 32] : LB) ++ s61)))], [bx 82 []], KK⟩)
theorem Qmt (lb n yP : Nat) (jf : Bool) (a2 : LL) (b3 wK : Int) (s61 : LB) (vu : CV) (yO : Bool) (l70 : LL) :
 QfE lb n yP jf a2 b3 wK s61 vu yO l70 =
 optO (atL a2 wK) fun c71 =>
 chkO (c71.length == 3) (
 optO (c71[0]?) fun oo =>
 optO (c71[1]?) fun oX =>
 optO (c71[2]?) fun oG =>
 optO (C lb n Qgl [.agg [oo, oX, oG]]) fun gh =>
 optO (CV.asB gh) fun oS =>
 bif (!oS) then
 (chkO (room (l70.length + 1) 24) (
 Qdl lb n yP jf a2 b3 (yO && false) (l70 ++ [[CV.int .i64 8, CV.str (([112, 101, 114, 115, 111, 110, 32] : LB) ++ s61)]]) (IntKind.wrap .i64 (wK + 1))))
 else
 (Qdl lb n yP jf a2 b3 yO l70 (IntKind.wrap .i64 (wK + 1)))) := (Qae _).trans (by kernel_rfl)
noncomputable def Qhq (lb n : Nat) (jf : Bool) (a2 : LL) (b3 : Int) (vN : Bool) (l78 : LL) (w8 : Int) : Option CV :=
 hold (E0 lb n 0 997 (sub (B Qat) [1, 1, 1]) (retK Tryz.prog (R Qat) 0 (outK (Qaf Tryz.prog Qat))) ⟨fr 82 [(0, .val (.list jf a2)), (1, vI b3), (4, .lst true true 61 []), (5, .lst true vN 61 l78), (6, vI w8)], [bx 82 []], KK⟩)
noncomputable def Qea (lb n : Nat) (jf : Bool) (a2 : LL) (w8 i80 : Int) (y4 : Bool) (l82 : LL) : Option CV :=
 hold (E0 lb n 0 996 (sub (B Qat) [1, 1, 1, 1]) (retK Tryz.prog (R Qat) 0 (outK (Qaf Tryz.prog Qat))) ⟨fr 82 [(0, .val (.list jf a2)), (1, vI i80), (4, .lst true true 61 []), (5, .lst true y4 61 l82), (6, vI w8)], [bx 82 []], KK⟩)
noncomputable def QbE (lb n : Nat) (jf : Bool) (a2 : LL) (i80 w8 : Int) (kd : Bool) (l84 : LL) : Option CV :=
 hold (E0 lb n 0 994 (sub (B Qat) [1, 1, 1, 1, 1, 1]) (retK Tryz.prog (R Qat) 0 (outK (Qaf Tryz.prog Qat))) ⟨fr 82 [(0, .val (.list jf a2)), (1, vI i80), (4, .lst true true 61 []), (5, .lst true kd 61 l84), (6, vI w8), (8, .val (.int .i64 (a2.length : Int))), (50, .val (.list jf a2)), (51, .val (.int .i64 (a2.length : Int)))], [bx 82 []], KK⟩)
theorem Qnl (lb n : Nat) (jf : Bool) (a2 : LL) (i80 w8 : Int) (kd : Bool) (l84 : LL) :
 QbE lb n jf a2 i80 w8 kd l84 =
 optO (C lb n QbL [.list jf a2]) fun o4 =>
 optO (CV.asB o4) fun oE =>
 bif (!oE) then
 (chkO (room (l84.length + 1) 24) (
 some (.list (kd && false) (l84 ++ [[CV.int .i64 25, CV.str [112, 97, 114, 116, 121]]]))))
 else
 (some (.list kd l84)) := (Qae _).trans (by kernel_rfl)
theorem Qna (lb n : Nat) (jf : Bool) (a2 : LL) (w8 i80 : Int) (y4 : Bool) (l82 : LL) :
 Qea lb n jf a2 w8 i80 y4 l82 =
 bif ((IntKind.wrap .i64 ((a2.length : Int) + i80)) == 0) then
 (chkO (room (l82.length + 1) 24) (
 QbE lb n jf a2 i80 w8 (y4 && false) (l82 ++ [[CV.int .i64 4, CV.str [112, 97, 114, 116, 121]]])))
 else
 (bif (i80 == 0) then
 (bif (decide ((a2.length : Int) > 9)) then
 (chkO (room (l82.length + 1) 24) (
 QbE lb n jf a2 i80 w8 (y4 && false) (l82 ++ [[CV.int .i64 4, CV.str [112, 97, 114, 116, 121]]])))
 else
 (bif (decide ((IntKind.wrap .i64 ((a2.length : Int) + i80)) > 99)) then
 (chkO (room (l82.length + 1) 24) (
 QbE lb n jf a2 i80 w8 (y4 && false) (l82 ++ [[CV.int .i64 4, CV.str [112, 97, 114, 116, 121]]])))
 else
 (QbE lb n jf a2 i80 w8 y4 l82)))
 else
 (bif (decide ((IntKind.wrap .i64 ((a2.length : Int) + i80)) > 99)) then
 (chkO (room (l82.length + 1) 24) (
 QbE lb n jf a2 i80 w8 (y4 && false) (l82 ++ [[CV.int .i64 4, CV.str [112, 97, 114, 116, 121]]])))
 else
 (QbE lb n jf a2 i80 w8 y4 l82))) := (Qae _).trans (by kernel_rfl)
theorem QfC (lb n : Nat) (jf : Bool) (a2 : LL) (b3 : Int) (vN : Bool) (l78 : LL) (w8 : Int) :
 Qhq lb n jf a2 b3 vN l78 w8 =
 bif (decide (b3 < 0)) then
 (chkO (room (l78.length + 1) 24) (
 Qea lb n jf a2 w8 0 (vN && false) (l78 ++ [[CV.int .i64 2, CV.str [112, 97, 114, 116, 121]]])))
 else
 (bif (decide (b3 > 99)) then
 (chkO (room (l78.length + 1) 24) (
 Qea lb n jf a2 w8 0 (vN && false) (l78 ++ [[CV.int .i64 2, CV.str [112, 97, 114, 116, 121]]])))
 else
 (Qea lb n jf a2 w8 b3 vN l78)) := (Qae _).trans (by kernel_rfl)
theorem QgP (lb n yP : Nat) (jf : Bool) (a2 : LL) (b3 : Int) (yY : Bool) (l37 : LL) (wK : Int) :
 Qdl lb n (yP + 1) jf a2 b3 yY l37 wK =
 bif (decide (wK < (a2.length : Int))) then
 (optO (C lb n Qc0 [.int .i64 wK]) fun vu =>
 optO (CV.asS vu) fun s61 =>
 chkO (decide (([112, 101, 114, 115, 111, 110, 32] : LB).length + s61.length ≤ 9223372036854775807)) (
 optO (atL a2 wK) fun c62 =>
 chkO (c62.length == 3) (
 optO (c62[0]?) fun jZ =>
 optO (c62[1]?) fun qi =>
 optO (c62[2]?) fun qh =>
 optO (C lb n Qgj [.agg [jZ, qi, qh]]) fun qN =>
 optO (CV.asB qN) fun pp =>
 bif (!pp) then
 (chkO (room (l37.length + 1) 24) (
 QfE lb n yP jf a2 b3 wK s61 vu (yY && false) (l37 ++ [[CV.int .i64 5, CV.str (([112, 101, 114, 115, 111, 110, 32] : LB) ++ s61)]])))
 else
 (QfE lb n yP jf a2 b3 wK s61 vu yY l37))))
 else
 (Qhq lb n jf a2 b3 yY l37 wK) := (Qae _).trans (by kernel_rfl)
theorem Qpp (lb n : Nat) (jf : Bool) (a2 : LL) (b3 : Int) :
 top lb n Qat [.list jf a2, .int .i64 b3] =
 Qdl lb n n jf a2 b3 true [] 0 := by kernel_rfl
theorem QpK (lb n : Nat) (wZ wY wT : LB) :
 top lb n Qgj [.agg [.str wZ, .str wY, .str wT]] =
 optO (C lb n Qbz [.str wZ]) fun r4 =>
 optO (CV.asB r4) fun b5 =>
 bif b5 then
 (optO (C lb n Qbz [.str wY]) fun r6 =>
 some (r6))
 else
 (some (.bool false)) := by kernel_rfl
theorem QpP (lb n : Nat) (wZ wY wT : LB) :
 top lb n Qgl [.agg [.str wZ, .str wY, .str wT]] =
 optO (C lb n Qbl [.str wT, .int .i64 3, .int .i64 3]) fun r4 =>
 some (r4) := by kernel_rfl
noncomputable def QdL (lb n vM : Nat) (jf : Bool) (a2 : LL) (jS wB yZ : Int) : Option CV :=
 hold (QaC (E0 lb n 0 994) 0 (Qak (sub (B QbL) [1, 1, 0, 1, 0, 0]) ++ []) [] (sub (B QbL) [1, 1, 0, 1, 0, 0]) (Qao 0 (seqK (E0 lb n 0 997) (sub (B QbL) [1, 1, 0]) (sub (B QbL) [1, 1, 1]) (retK Tryz.prog (R QbL) 0 (outK (Qaf Tryz.prog QbL))))) vM ⟨fr 31 [(0, .val (.list jf a2)), (2, vB false), (3, vI jS), (4, vI wB), (5, vI yZ)], [bx 31 []], KK⟩)
noncomputable def QlP (lb n : Nat) (jf : Bool) (a2 : LL) (oc vL kh : Int) : Option CV :=
 hold (E0 lb n 0 997 (sub (B QbL) [1, 1, 1]) (retK Tryz.prog (R QbL) 0 (outK (Qaf Tryz.prog QbL))) ⟨fr 31 [(0, .val (.list jf a2)), (2, vB false), (3, vI oc), (4, vI vL), (5, vI kh)], [bx 31 []], KK⟩)
theorem QnT (lb n : Nat) (jf : Bool) (a2 : LL) (oc vL kh : Int) :
 QlP lb n jf a2 oc vL kh =
 some (.bool (decide (oc ≤ vL))) := (Qae _).trans (by kernel_rfl)
theorem Qhx (lb n vM : Nat) (jf : Bool) (a2 : LL) (jS wB yZ : Int) :
 QdL lb n (vM + 1) jf a2 jS wB yZ =
 bif (decide (yZ < (a2.length : Int))) then
 (optO (atL a2 yZ) fun c26 =>
 chkO (c26.length == 3) (
 optO (c26[2]?) fun jJ =>
 optO (CV.asS jJ) fun pI =>
 bif (pI == [73, 78, 70]) then
 (QdL lb n vM jf a2 (IntKind.wrap .i64 (jS + 1)) wB (IntKind.wrap .i64 (yZ + 1)))
 else
 (optO (atL a2 yZ) fun c29 =>
 chkO (c29.length == 3) (
 optO (c29[2]?) fun jG =>
 optO (CV.asS jG) fun qL =>
 bif (!(qL == [67, 72, 68])) then
 (QdL lb n vM jf a2 jS (IntKind.wrap .i64 (wB + 1)) (IntKind.wrap .i64 (yZ + 1)))
 else
 (QdL lb n vM jf a2 jS wB (IntKind.wrap .i64 (yZ + 1)))))))
 else
 (QlP lb n jf a2 jS wB yZ) := (Qae _).trans (by kernel_rfl)
theorem Qq0 (lb n : Nat) (jf : Bool) (a2 : LL) :
 top lb n QbL [.list jf a2] =
 QdL lb n n jf a2 0 0 0 := by kernel_rfl
noncomputable def Qfq (lb n yx : Nat) (jf : Bool) (a2 : LL) (i6 : Int) : Option CV :=
 hold (QaC (E0 lb n 0 995) 0 (Qak (sub (B Qal) [1, 0, 1, 0, 0]) ++ []) [] (sub (B Qal) [1, 0, 1, 0, 0]) (Qao 0 (seqK (E0 lb n 0 998) (sub (B Qal) [1, 0]) (sub (B Qal) [1, 1]) (retK Tryz.prog (R Qal) 0 (outK (Qaf Tryz.prog Qal))))) yx ⟨fr 70 [(0, .val (.list jf a2)), (2, vI 0), (3, vI i6)], [bx 70 []], KK⟩)
noncomputable def QkW (lb n : Nat) (jf : Bool) (a2 : LL) (jS : Int) : Option CV :=
 hold (E0 lb n 0 998 (sub (B Qal) [1, 1]) (retK Tryz.prog (R Qal) 0 (outK (Qaf Tryz.prog Qal))) ⟨fr 70 [(0, .val (.list jf a2)), (2, vI 0), (3, vI jS)], [bx 70 []], KK⟩)
noncomputable def QdX (lb n wJ : Nat) (jf : Bool) (a2 : LL) (jS wx : Int) : Option CV :=
 hold (QaC (E0 lb n 0 994) 0 (Qak (sub (B Qal) [1, 1, 0, 1, 0, 0]) ++ [5, 5]) [] (sub (B Qal) [1, 1, 0, 1, 0, 0]) (Qao 2 (seqK (E0 lb n 0 997) (sub (B Qal) [1, 1, 0]) (sub (B Qal) [1, 1, 1]) (retK Tryz.prog (R Qal) 0 (outK (Qaf Tryz.prog Qal))))) wJ ⟨fr 70 [(0, .val (.list jf a2)), (2, vI 0), (3, vI jS), (4, vI wx)], [bx 70 []], KK⟩)
noncomputable def QcT (lb n y8 wJ : Nat) (jf : Bool) (a2 : LL) (jS wx yE : Int) : Option CV :=
 hold (QaC (E0 lb n 0 987) 0 (Qak (sub (B Qal) [1, 1, 0, 1, 0, 0, 1, 0, 0, 1, 1, 0, 0]) ++ []) [] (sub (B Qal) [1, 1, 0, 1, 0, 0, 1, 0, 0, 1, 1, 0, 0]) (Qao 4 (Qao 3 (seqK (E0 lb n 0 992) (sub (B Qal) [1, 1, 0, 1, 0, 0, 1, 0]) (sub (B Qal) [1, 1, 0, 1, 0, 0, 1, 1]) (QcV 0 (Qak (sub (B Qal) [1, 1, 0, 1, 0, 0]) ++ [5, 5]) [] (QaC (E0 lb n 0 994) 0 (Qak (sub (B Qal) [1, 1, 0, 1, 0, 0]) ++ [5, 5]) [] (sub (B Qal) [1, 1, 0, 1, 0, 0]) (Qao 2 (seqK (E0 lb n 0 997) (sub (B Qal) [1, 1, 0]) (sub (B Qal) [1, 1, 1]) (retK Tryz.prog (R Qal) 0 (outK (Qaf Tryz.prog Qal))))) wJ) (Qao 2 (seqK (E0 lb n 0 997) (sub (B Qal) [1, 1, 0]) (sub (B Qal) [1, 1, 1]) (retK Tryz.prog (R Qal) 0 (outK (Qaf Tryz.prog Qal))))))))) y8 ⟨fr 70 [(0, .val (.list jf a2)), (2, vI 0), (3, vI jS), (4, vI wx), (5, vI yE), (34, vI wx), (35, .val (.int .i64 (IntKind.wrap .i64 (wx + 2))))], [bx 70 []], KK⟩)
noncomputable def Qkw (lb n wJ : Nat) (jf : Bool) (a2 : LL) (jS wx kY : Int) : Option CV :=
 hold (E0 lb n 0 992 (sub (B Qal) [1, 1, 0, 1, 0, 0, 1, 1]) (QcV 0 (Qak (sub (B Qal) [1, 1, 0, 1, 0, 0]) ++ [5, 5]) [] (QaC (E0 lb n 0 994) 0 (Qak (sub (B Qal) [1, 1, 0, 1, 0, 0]) ++ [5, 5]) [] (sub (B Qal) [1, 1, 0, 1, 0, 0]) (Qao 2 (seqK (E0 lb n 0 997) (sub (B Qal) [1, 1, 0]) (sub (B Qal) [1, 1, 1]) (retK Tryz.prog (R Qal) 0 (outK (Qaf Tryz.prog Qal))))) wJ) (Qao 2 (seqK (E0 lb n 0 997) (sub (B Qal) [1, 1, 0]) (sub (B Qal) [1, 1, 1]) (retK Tryz.prog (R Qal) 0 (outK (Qaf Tryz.prog Qal)))))) ⟨fr 70 [(0, .val (.list jf a2)), (2, vI 0), (3, vI jS), (4, vI wx), (5, vI kY)], [bx 70 []], KK⟩)
theorem Qms (lb n wJ : Nat) (jf : Bool) (a2 : LL) (jS wx kY : Int) :
 Qkw lb n wJ jf a2 jS wx kY =
 QdX lb n wJ jf a2 jS (IntKind.wrap .i64 (wx + 1)) := (Qae _).trans (by kernel_rfl)
theorem QgR (lb n y8 wJ : Nat) (jf : Bool) (a2 : LL) (jS wx yE : Int) :
 QcT lb n (y8 + 1) wJ jf a2 jS wx yE =
 bif (decide (yE < (a2.length : Int))) then
 (optO (atL a2 wx) fun c263 =>
 chkO (c263.length == 1) (
 optO (c263[0]?) fun mo =>
 optO (CV.asI .i64 mo) fun nj =>
 bif (decide (nj > 0)) then
 (optO (atL a2 yE) fun c266 =>
 chkO (c266.length == 1) (
 optO (c266[0]?) fun mj =>
 optO (atL a2 wx) fun c268 =>
 chkO (c268.length == 1) (
 optO (c268[0]?) fun ml =>
 optO (CV.asI .i64 mj) fun n3 =>
 optO (CV.asI .i64 ml) fun gR =>
 bif (n3 == gR) then
 (optO (atL a2 (IntKind.wrap .i64 (yE - 1))) fun c272 =>
 chkO (c272.length == 1) (
 optO (c272[0]?) fun mR =>
 optO (atL a2 wx) fun c274 =>
 chkO (c274.length == 1) (
 optO (c274[0]?) fun g8 =>
 optO (CV.asI .i64 mR) fun mT =>
 optO (CV.asI .i64 g8) fun mZ =>
 bif (mT != mZ) then
 (some (.int .i64 18))
 else
 (QcT lb n y8 wJ jf a2 jS wx (IntKind.wrap .i64 (yE + 1))))))
 else
 (QcT lb n y8 wJ jf a2 jS wx (IntKind.wrap .i64 (yE + 1))))))
 else
 (QcT lb n y8 wJ jf a2 jS wx (IntKind.wrap .i64 (yE + 1)))))
 else
 (Qkw lb n wJ jf a2 jS wx yE) := (Qae _).trans (by kernel_rfl)
noncomputable def QkR (lb n : Nat) (jf : Bool) (a2 : LL) (jS kH : Int) : Option CV :=
 hold (E0 lb n 0 997 (sub (B Qal) [1, 1, 1]) (retK Tryz.prog (R Qal) 0 (outK (Qaf Tryz.prog Qal))) ⟨fr 70 [(0, .val (.list jf a2)), (2, vI 0), (3, vI jS), (4, vI kH)], [bx 70 []], KK⟩)
theorem Qny (lb n : Nat) (jf : Bool) (a2 : LL) (jS kH : Int) :
 QkR lb n jf a2 jS kH =
 some (.int .i64 0) := (Qae _).trans (by kernel_rfl)
theorem QgQ (lb n wJ : Nat) (jf : Bool) (a2 : LL) (jS wx : Int) :
 QdX lb n (wJ + 1) jf a2 jS wx =
 bif (decide (wx < (a2.length : Int))) then
 (optO (atL a2 wx) fun c224 =>
 chkO (c224.length == 1) (
 optO (c224[0]?) fun mc =>
 optO (CV.asI .i64 mc) fun gT =>
 bif (decide (gT > 0)) then
 (optO (C lb n Qda [.list jf a2, .int .i64 wx]) fun gO =>
 optO (CV.asB gO) fun mS =>
 bif (!mS) then
 (some (.int .i64 18))
 else
 (QcT lb n n wJ jf a2 jS wx (IntKind.wrap .i64 (wx + 2))))
 else
 (QcT lb n n wJ jf a2 jS wx (IntKind.wrap .i64 (wx + 2)))))
 else
 (QkR lb n jf a2 jS wx) := (Qae _).trans (by kernel_rfl)
theorem Qnf (lb n : Nat) (jf : Bool) (a2 : LL) (jS : Int) :
 QkW lb n jf a2 jS =
 QdX lb n n jf a2 jS 0 := (Qae _).trans (by kernel_rfl)
theorem QgT (lb n yx : Nat) (jf : Bool) (a2 : LL) (i6 : Int) :
 Qfq lb n (yx + 1) jf a2 i6 =
 bif (decide (i6 < (a2.length : Int))) then
 (optO (atL a2 i6) fun c12 =>
 chkO (c12.length == 1) (
 optO (c12[0]?) fun ko =>
 optO (CV.asI .i64 ko) fun vk =>
 bif (decide (vk < 0)) then
 (some (.int .i64 2))
 else
 (Qfq lb n yx jf a2 (IntKind.wrap .i64 (i6 + 1)))))
 else
 (QkW lb n jf a2 i6) := (Qae _).trans (by kernel_rfl)
theorem QpY (lb n : Nat) (jf : Bool) (a2 : LL) :
 top lb n Qal [.list jf a2] =
 Qfq lb n n jf a2 0 := by kernel_rfl
theorem Qmo (lb n : Nat) (jf : Bool) (a2 : LL) (b3 : Int) :
 top lb n Qda [.list jf a2, .int .i64 b3] =
 bif (decide (b3 > 0)) then
 (optO (atL a2 (IntKind.wrap .i64 (b3 - 1))) fun c4 =>
 chkO (c4.length == 1) (
 optO (c4[0]?) fun x5 =>
 optO (atL a2 b3) fun c6 =>
 chkO (c6.length == 1) (
 optO (c6[0]?) fun x7 =>
 optO (CV.asI .i64 x5) fun i9 =>
 optO (CV.asI .i64 x7) fun pP =>
 bif (i9 == pP) then
 (some (.bool true))
 else
 (bif (decide ((IntKind.wrap .i64 (b3 + 1)) < (a2.length : Int))) then
 (optO (atL a2 (IntKind.wrap .i64 (b3 + 1))) fun c11 =>
 chkO (c11.length == 1) (
 optO (c11[0]?) fun oB =>
 optO (atL a2 b3) fun c13 =>
 chkO (c13.length == 1) (
 optO (c13[0]?) fun ku =>
 optO (CV.asI .i64 oB) fun jS =>
 optO (CV.asI .i64 ku) fun wB =>
 some (.bool (jS == wB)))))
 else
 (some (.bool false))))))
 else
 (bif (decide ((IntKind.wrap .i64 (b3 + 1)) < (a2.length : Int))) then
 (optO (atL a2 (IntKind.wrap .i64 (b3 + 1))) fun c18 =>
 chkO (c18.length == 1) (
 optO (c18[0]?) fun pj =>
 optO (atL a2 b3) fun c20 =>
 chkO (c20.length == 1) (
 optO (c20[0]?) fun jI =>
 optO (CV.asI .i64 pj) fun pt =>
 optO (CV.asI .i64 jI) fun pk =>
 some (.bool (pt == pk)))))
 else
 (some (.bool false))) := by kernel_rfl
theorem QqD (lb n : Nat) (a1 : Int) :
 top lb n Qi8 [.int .i64 a1] =
 bif (decide (a1 ≤ 0)) then
 (some (.tup [.str [], .int .i64 8]))
 else
 (bif (decide (a1 > 7)) then
 (some (.tup [.str [], .int .i64 8]))
 else
 (optO (C lb n Qie []) fun r2 =>
 optO (CV.asL r2) fun p3 =>
 optO (atL p3.2 a1) fun c4 =>
 chkO (c4.length == 1) (
 optO (c4[0]?) fun x5 =>
 some (.tup [x5, .int .i64 0])))) := by kernel_rfl
theorem Qqe (lb n : Nat)  :
 top lb n Qie [] =
 some (.list false [[CV.str []], [CV.str [72, 75]], [CV.str [72, 76]], [CV.str [75, 76]], [CV.str [84, 75]], [CV.str [85, 78]], [CV.str [85, 67]], [CV.str [88, 88]]]) := by kernel_rfl
noncomputable def Qdi (lb n od : Nat) (jf : Bool) (a2 : LL) (yL : Bool) (b4 : LL) (wB : Int) : Option CV :=
 hold (QaC (E0 lb n 0 994) 0 (Qak (sub (B QaE) [1, 1, 0, 1, 0, 0]) ++ []) [] (sub (B QaE) [1, 1, 0, 1, 0, 0]) (Qao 0 (seqK (E0 lb n 0 997) (sub (B QaE) [1, 1, 0]) (sub (B QaE) [1, 1, 1]) (retK Tryz.prog (R QaE) 0 (outK (Qaf Tryz.prog QaE))))) od ⟨fr 26 [(0, .val (.list jf a2)), (1, .val (.list yL b4)), (4, vB false), (5, vI wB)], [bx 26 []], KK⟩)
noncomputable def Qg0 (lb n : Nat) (jf : Bool) (a2 : LL) (yL : Bool) (b4 : LL) (oP : Int) : Option CV :=
 hold (E0 lb n 0 997 (sub (B QaE) [1, 1, 1]) (retK Tryz.prog (R QaE) 0 (outK (Qaf Tryz.prog QaE))) ⟨fr 26 [(0, .val (.list jf a2)), (1, .val (.list yL b4)), (4, vB false), (5, vI oP)], [bx 26 []], KK⟩)
theorem Qjl (lb n : Nat) (jf : Bool) (a2 : LL) (yL : Bool) (b4 : LL) (oP : Int) :
 Qg0 lb n jf a2 yL b4 oP =
 some (.bool true) := (Qae _).trans (by kernel_rfl)
theorem QeJ (lb n od : Nat) (jf : Bool) (a2 : LL) (yL : Bool) (b4 : LL) (wB : Int) :
 Qdi lb n (od + 1) jf a2 yL b4 wB =
 bif (decide (wB < (a2.length : Int))) then
 (optO (atL a2 wB) fun c29 =>
 chkO (c29.length == 2) (
 optO (c29[0]?) fun jG =>
 optO (c29[1]?) fun jN =>
 optO (atL b4 wB) fun c33 =>
 chkO (c33.length == 2) (
 optO (c33[0]?) fun ou =>
 optO (c33[1]?) fun vO =>
 optO (CV.asI .i64 jG) fun qH =>
 optO (CV.asI .i64 ou) fun i37 =>
 optO (CV.asS jN) fun s38 =>
 optO (CV.asS vO) fun gd =>
 bif (!((qH == i37) && ((s38 == gd) && true))) then
 (some (.bool false))
 else
 (Qdi lb n od jf a2 yL b4 (IntKind.wrap .i64 (wB + 1))))))
 else
 (Qg0 lb n jf a2 yL b4 wB) := (Qae _).trans (by kernel_rfl)
theorem Qlo (lb n : Nat) (jf : Bool) (a2 : LL) (yL : Bool) (b4 : LL) :
 top lb n QaE [.list jf a2, .list yL b4] =
 bif ((a2.length : Int) != (b4.length : Int)) then
 (some (.bool false))
 else
 (Qdi lb n n jf a2 yL b4 0) := by kernel_rfl
theorem Qjs (lb n : Nat) (aloc1 : LB) (ja : Bool) (aper3 : LL) (je : Int) (jb : Bool) (aseg6 : LL) (jd : Bool) (aser9 : LL) (jc : Int) :
 top lb n QdP [.agg [.str aloc1, .list ja aper3, .int .i64 je, .list jb aseg6, .list jd aser9, .int .i64 jc]] =
 optO (C lb n Qau [.agg [.str aloc1, .list ja aper3, .int .i64 je, .list jb aseg6, .list jd aser9, .int .i64 jc]]) fun vj =>
 optO (CV.asB vj) fun kj =>
 bif (!kj) then
 (some (.bool true))
 else
 (optO (C lb n Qaa [.agg [.str aloc1, .list ja aper3, .int .i64 je, .list jb aseg6, .list jd aser9, .int .i64 jc]]) fun oV =>
 optO (C lb n Qad [.agg [.str aloc1, .list ja aper3, .int .i64 je, .list jb aseg6, .list jd aser9, .int .i64 jc]]) fun pC =>
 optO (C lb n QaE [oV, pC]) fun yS =>
 optO (CV.asB yS) fun yF =>
 bif yF then
 (optO (C lb n Qah []) fun jg =>
 some (jg))
 else
 (some (.bool false))) := by kernel_rfl
end Go.Proofs
