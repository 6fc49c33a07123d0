/- Equations of functions, printed by program. Conditions: none. -/
import Derived.Test.YtigmcfhmpcajlaaGreatDoorEv
namespace Go.Proofs
open Go.Am
set_option maxRecDepth 100000
set_option linter.unusedVariables false
noncomputable def booking_Check_J1 :=
 fun lb n aloc1 (ja : Bool) (aper3 : LL) je (jb : Bool) (aseg6 : LL) (jd : Bool) (aser9 : LL) jc (wF : Bool) (l14 : LL) =>
 hold (E0 lb n 0 996 (sub (B Qaa) [1, 1, 1, 1]) (retK Tryz.prog (R Qaa) 0 (outK (Qaf Tryz.prog Qaa))) ⟨fr 122 [(0, .val (.agg [.str aloc1, .list ja aper3, .int .i64 je, .list jb aseg6, .list jd aser9, .int .i64 jc])), (1, .ptr 0 1 0), (2, .lst true true 61 []), (3, .ptr 0 3 0), (4, .clo Qaq [.ptr 0 3 0]), (13, .clo Qaq [.ptr 0 3 0])], [bx 122 [(1, some [vS aloc1, .val (.list ja aper3), vI je, .val (.list jb aseg6), .val (.list jd aser9), vI jc]), (3, some [.lst true wF 61 l14])]], KK⟩)
noncomputable def QbM (lb n : Nat) (aloc1 : LB) (ja : Bool) (aper3 : LL) (je : Int) (jb : Bool) (aseg6 : LL) (jd : Bool) (aser9 : LL) (jc : Int) (jk : Bool) (l17 : LL) : Option CV :=
 hold (E0 lb n 0 995 (sub (B Qaa) [1, 1, 1, 1, 1]) (retK Tryz.prog (R Qaa) 0 (outK (Qaf Tryz.prog Qaa))) ⟨fr 122 [(0, .val (.agg [.str aloc1, .list ja aper3, .int .i64 je, .list jb aseg6, .list jd aser9, .int .i64 jc])), (1, .ptr 0 1 0), (2, .lst true true 61 []), (3, .ptr 0 3 0), (4, .clo Qaq [.ptr 0 3 0]), (13, .clo Qaq [.ptr 0 3 0])], [bx 122 [(1, some [vS aloc1, .val (.list ja aper3), vI je, .val (.list jb aseg6), .val (.list jd aser9), vI jc]), (3, some [.lst true jk 61 l17])]], KK⟩)
noncomputable def QbO (lb n : Nat) (aloc1 : LB) (ja : Bool) (aper3 : LL) (je : Int) (jb : Bool) (aseg6 : LL) (jd : Bool) (aser9 : LL) (jc : Int) (jk : Bool) (l17 : LL) (jg : CV) (jj : Bool × LL) (yv : Bool) (l21 : LL) : Option CV :=
 hold (E0 lb n 0 993 (sub (B Qaa) [1, 1, 1, 1, 1, 1, 1]) (retK Tryz.prog (R Qaa) 0 (outK (Qaf Tryz.prog Qaa))) ⟨fr 122 [(0, .val (.agg [.str aloc1, .list ja aper3, .int .i64 je, .list jb aseg6, .list jd aser9, .int .i64 jc])), (1, .ptr 0 1 0), (2, .lst true true 61 []), (3, .ptr 0 3 0), (4, .clo Qaq [.ptr 0 3 0]), (13, .clo Qaq [.ptr 0 3 0]), (30, .val (.list jk l17)), (31, .ptr 0 1 1), (32, .val (.list ja aper3)), (33, .ptr 0 1 2), (34, vI je), (35, vV jg), (36, .val (.list (jk && jj.2.isEmpty) (l17 ++ jj.2)))], [bx 122 [(1, some [vS aloc1, .val (.list ja aper3), vI je, .val (.list jb aseg6), .val (.list jd aser9), vI jc]), (3, some [.lst true yv 61 l21])]], KK⟩)
noncomputable def QcP (lb n : Nat) (aloc1 : LB) (ja : Bool) (aper3 : LL) (je : Int) (jb : Bool) (aseg6 : LL) (jd : Bool) (aser9 : LL) (jc : Int) (jl : CV) (jk : Bool) (l17 : LL) (jg : CV) (jj : Bool × LL) (jn : CV) (yQ : Bool) (y5 : LL) : Option CV :=
 hold (E0 lb n 0 991 (sub (B Qaa) [1, 1, 1, 1, 1, 1, 1, 1, 1]) (retK Tryz.prog (R Qaa) 0 (outK (Qaf Tryz.prog Qaa))) ⟨fr 122 [(0, .val (.agg [.str aloc1, .list ja aper3, .int .i64 je, .list jb aseg6, .list jd aser9, .int .i64 jc])), (1, .ptr 0 1 0), (2, .lst true true 61 []), (3, .ptr 0 3 0), (4, .clo Qaq [.ptr 0 3 0]), (5, vV jl), (13, .clo Qaq [.ptr 0 3 0]), (30, .val (.list jk l17)), (31, .ptr 0 1 1), (32, .val (.list ja aper3)), (33, .ptr 0 1 2), (34, vI je), (35, vV jg), (36, .val (.list (jk && jj.2.isEmpty) (l17 ++ jj.2))), (43, .ptr 0 1 3), (44, .val (.list jb aseg6)), (45, vV jn), (46, vV jl)], [bx 122 [(1, some [vS aloc1, .val (.list ja aper3), vI je, .val (.list jb aseg6), .val (.list jd aser9), vI jc]), (3, some [.lst true yQ 61 y5])]], KK⟩)
noncomputable def QcM (lb n w7 : Nat) (aloc1 : LB) (ja : Bool) (aper3 : LL) (je : Int) (jb : Bool) (aseg6 : LL) (jd : Bool) (aser9 : LL) (jc : Int) (jl : CV) (jk : Bool) (l17 : LL) (jg : CV) (jj : Bool × LL) (jn : CV) (wG : Int) (kv : Bool) (kt : LL) : Option CV :=
 hold (QaC (E0 lb n 0 987) 0 (Qak (sub (B Qaa) [1, 1, 1, 1, 1, 1, 1, 1, 1, 0, 1, 0, 0]) ++ [6, 9]) [7] (sub (B Qaa) [1, 1, 1, 1, 1, 1, 1, 1, 1, 0, 1, 0, 0]) (Qao 0 (seqK (E0 lb n 0 990) (sub (B Qaa) [1, 1, 1, 1, 1, 1, 1, 1, 1, 0]) (sub (B Qaa) [1, 1, 1, 1, 1, 1, 1, 1, 1, 1]) (retK Tryz.prog (R Qaa) 0 (outK (Qaf Tryz.prog Qaa))))) w7 ⟨fr 122 [(0, .val (.agg [.str aloc1, .list ja aper3, .int .i64 je, .list jb aseg6, .list jd aser9, .int .i64 jc])), (1, .ptr 0 1 0), (2, .lst true true 61 []), (3, .ptr 0 3 0), (4, .clo Qaq [.ptr 0 3 0]), (5, vV jl), (13, .clo Qaq [.ptr 0 3 0]), (30, .val (.list jk l17)), (31, .ptr 0 1 1), (32, .val (.list ja aper3)), (33, .ptr 0 1 2), (34, vI je), (35, vV jg), (36, .val (.list (jk && jj.2.isEmpty) (l17 ++ jj.2))), (43, .ptr 0 1 3), (44, .val (.list jb aseg6)), (45, vV jn), (46, vV jl), (52, .ptr 0 1 3), (53, .val (.list jb aseg6)), (54, .val (.int .i64 (aseg6.length : Int))), (55, vI wG)], [bx 122 [(1, some [vS aloc1, .val (.list ja aper3), vI je, .val (.list jb aseg6), .val (.list jd aser9), vI jc]), (3, some [.lst true kv 61 kt])]], KK⟩)
noncomputable def QcN (lb n vR w7 : Nat) (aloc1 : LB) (ja : Bool) (aper3 : LL) (je : Int) (jb : Bool) (aseg6 : LL) (jd : Bool) (aser9 : LL) (jc : Int) (jl : CV) (wG : Int) (jk : Bool) (l17 : LL) (jg : CV) (jj : Bool × LL) (jn : CV) (c95 : List CV) (jV jT jP jW jq jt wA jr js ju yc : CV) (yn : Bool × LL) (vc : Int) (vl : Bool) (l115 : LL) : Option CV :=
 hold (QaC (E0 lb n 0 979) 0 (Qak (sub (B Qaa) [1, 1, 1, 1, 1, 1, 1, 1, 1, 0, 1, 0, 0, 1, 1, 0, 0, 1, 1, 0, 0]) ++ [9]) [] (sub (B Qaa) [1, 1, 1, 1, 1, 1, 1, 1, 1, 0, 1, 0, 0, 1, 1, 0, 0, 1, 1, 0, 0]) (Qao 2 (Qao 1 (seqK (E0 lb n 0 984) (sub (B Qaa) [1, 1, 1, 1, 1, 1, 1, 1, 1, 0, 1, 0, 0, 1, 1, 0]) (sub (B Qaa) [1, 1, 1, 1, 1, 1, 1, 1, 1, 0, 1, 0, 0, 1, 1, 1]) (QcV 0 (Qak (sub (B Qaa) [1, 1, 1, 1, 1, 1, 1, 1, 1, 0, 1, 0, 0]) ++ [6, 9]) [7] (QaC (E0 lb n 0 987) 0 (Qak (sub (B Qaa) [1, 1, 1, 1, 1, 1, 1, 1, 1, 0, 1, 0, 0]) ++ [6, 9]) [7] (sub (B Qaa) [1, 1, 1, 1, 1, 1, 1, 1, 1, 0, 1, 0, 0]) (Qao 0 (seqK (E0 lb n 0 990) (sub (B Qaa) [1, 1, 1, 1, 1, 1, 1, 1, 1, 0]) (sub (B Qaa) [1, 1, 1, 1, 1, 1, 1, 1, 1, 1]) (retK Tryz.prog (R Qaa) 0 (outK (Qaf Tryz.prog Qaa))))) w7) (Qao 0 (seqK (E0 lb n 0 990) (sub (B Qaa) [1, 1, 1, 1, 1, 1, 1, 1, 1, 0]) (sub (B Qaa) [1, 1, 1, 1, 1, 1, 1, 1, 1, 1]) (retK Tryz.prog (R Qaa) 0 (outK (Qaf Tryz.prog Qaa))))))))) vR ⟨fr 122 [(0, .val (.agg [.str aloc1, .list ja aper3, .int .i64 je, .list jb aseg6, .list jd aser9, .int .i64 jc])), (1, .ptr 0 1 0), (2, .lst true true 61 []), (3, .ptr 0 3 0), (4, .clo Qaq [.ptr 0 3 0]), (5, vV jl), (6, vI wG), (7, .ptr 0 7 0), (13, .clo Qaq [.ptr 0 3 0]), (30, .val (.list jk l17)), (31, .ptr 0 1 1), (32, .val (.list ja aper3)), (33, .ptr 0 1 2), (34, vI je), (35, vV jg), (36, .val (.list (jk && jj.2.isEmpty) (l17 ++ jj.2))), (43, .ptr 0 1 3), (44, .val (.list jb aseg6)), (45, vV jn), (46, vV jl), (52, .ptr 0 1 3), (53, .val (.list jb aseg6)), (54, .val (.int .i64 (aseg6.length : Int))), (55, vI wG), (56, .val (.bool (decide (wG < (aseg6.length : Int))))), (57, vI wG), (58, .cptr c95 0), (59, .val (.agg [jV, jT, jP, jW, jq, jt, wA, jr, js, ju])), (60, .val (.agg [jV, jT, jP, jW, jq, jt, wA, jr, js, ju])), (61, vV yc), (62, .val (.int .i64 (yn.2.length : Int))), (63, vI vc)], [bx 122 [(1, some [vS aloc1, .val (.list ja aper3), vI je, .val (.list jb aseg6), .val (.list jd aser9), vI jc]), (3, some [.lst true vl 61 l115]), (7, some [.val jV, .val jT, .val jP, .val jW, .val jq, .val jt, .val wA, .val jr, .val js, .val ju])]], KK⟩)
noncomputable def QhI (lb n w7 : Nat) (aloc1 : LB) (ja : Bool) (aper3 : LL) (je : Int) (jb : Bool) (aseg6 : LL) (jd : Bool) (aser9 : LL) (jc : Int) (jl : CV) (jk : Bool) (l17 : LL) (jg : CV) (jj : Bool × LL) (jn : CV) (wG i127 : Int) (vW : Bool) (kc : LL) (kB kX kR ky kD y1 kZ kJ v138 v139 : CV) : Option CV :=
 hold (E0 lb n 0 984 (sub (B Qaa) [1, 1, 1, 1, 1, 1, 1, 1, 1, 0, 1, 0, 0, 1, 1, 1]) (QcV 0 (Qak (sub (B Qaa) [1, 1, 1, 1, 1, 1, 1, 1, 1, 0, 1, 0, 0]) ++ [6, 9]) [7] (QaC (E0 lb n 0 987) 0 (Qak (sub (B Qaa) [1, 1, 1, 1, 1, 1, 1, 1, 1, 0, 1, 0, 0]) ++ [6, 9]) [7] (sub (B Qaa) [1, 1, 1, 1, 1, 1, 1, 1, 1, 0, 1, 0, 0]) (Qao 0 (seqK (E0 lb n 0 990) (sub (B Qaa) [1, 1, 1, 1, 1, 1, 1, 1, 1, 0]) (sub (B Qaa) [1, 1, 1, 1, 1, 1, 1, 1, 1, 1]) (retK Tryz.prog (R Qaa) 0 (outK (Qaf Tryz.prog Qaa))))) w7) (Qao 0 (seqK (E0 lb n 0 990) (sub (B Qaa) [1, 1, 1, 1, 1, 1, 1, 1, 1, 0]) (sub (B Qaa) [1, 1, 1, 1, 1, 1, 1, 1, 1, 1]) (retK Tryz.prog (R Qaa) 0 (outK (Qaf Tryz.prog Qaa)))))) ⟨fr 122 [(0, .val (.agg [.str aloc1, .list ja aper3, .int .i64 je, .list jb aseg6, .list jd aser9, .int .i64 jc])), (1, .ptr 0 1 0), (2, .lst true true 61 []), (3, .ptr 0 3 0), (4, .clo Qaq [.ptr 0 3 0]), (5, vV jl), (6, vI i127), (13, .clo Qaq [.ptr 0 3 0]), (30, .val (.list jk l17)), (31, .ptr 0 1 1), (32, .val (.list ja aper3)), (33, .ptr 0 1 2), (34, vI je), (35, vV jg), (36, .val (.list (jk && jj.2.isEmpty) (l17 ++ jj.2))), (43, .ptr 0 1 3), (44, .val (.list jb aseg6)), (45, vV jn), (46, vV jl), (52, .ptr 0 1 3), (53, .val (.list jb aseg6)), (54, .val (.int .i64 (aseg6.length : Int))), (55, vI wG), (56, .val (.bool (decide (wG < (aseg6.length : Int)))))], [bx 122 [(1, some [vS aloc1, .val (.list ja aper3), vI je, .val (.list jb aseg6), .val (.list jd aser9), vI jc]), (3, some [.lst true vW 61 kc]), (7, some [.val kB, .val kX, .val kR, .val ky, .val kD, .val y1, .val kZ, .val kJ, .val v138, .val v139])]], KK⟩)
theorem QjW (lb n w7 : Nat) (aloc1 : LB) (ja : Bool) (aper3 : LL) (je : Int) (jb : Bool) (aseg6 : LL) (jd : Bool) (aser9 : LL) (jc : Int) (jl : CV) (jk : Bool) (l17 : LL) (jg : CV) (jj : Bool × LL) (jn : CV) (wG i127 : Int) (vW : Bool) (kc : LL) (kB kX kR ky kD y1 kZ kJ v138 v139 : CV) :
 QhI lb n w7 aloc1 ja aper3 je jb aseg6 jd aser9 jc jl jk l17 jg jj jn wG i127 vW kc kB kX kR ky kD y1 kZ kJ v138 v139 =
 QcM lb n w7 aloc1 ja aper3 je jb aseg6 jd aser9 jc jl jk l17 jg jj jn (IntKind.wrap .i64 (wG + 1)) vW kc := (Qae _).trans (by kernel_rfl)
theorem Qfb (lb n vR w7 : Nat) (aloc1 : LB) (ja : Bool) (aper3 : LL) (je : Int) (jb : Bool) (aseg6 : LL) (jd : Bool) (aser9 : LL) (jc : Int) (jl : CV) (wG : Int) (jk : Bool) (l17 : LL) (jg : CV) (jj : Bool × LL) (jn : CV) (c95 : List CV) (jV jT jP jW jq jt wA jr js ju yc : CV) (yn : Bool × LL) (vc : Int) (vl : Bool) (l115 : LL) :
 QcN lb n (vR + 1) w7 aloc1 ja aper3 je jb aseg6 jd aser9 jc jl wG jk l17 jg jj jn c95 jV jT jP jW jq jt wA jr js ju yc yn vc vl l115 =
 bif (decide (vc < (yn.2.length : Int))) then
 (optO (CV.asL yc) fun nb =>
 optO (atL nb.2 vc) fun c123 =>
 chkO (c123.length == 1) (
 optO (c123[0]?) fun gy =>
 optO (C lb n QcD [.int .i64 wG]) fun nB =>
 optO (CV.asS nB) fun s126 =>
 chkO (decide (([115, 101, 103, 32] : LB).length + s126.length ≤ 9223372036854775807)) (
 chkO (CV.isCell gy) (
 chkO (room (l115.length + 1) 24) (
 QcN lb n vR w7 aloc1 ja aper3 je jb aseg6 jd aser9 jc jl wG jk l17 jg jj jn c95 jV jT jP jW jq jt wA jr js ju yc yn (IntKind.wrap .i64 (vc + 1)) (vl && false) (l115 ++ [[gy, CV.str (([115, 101, 103, 32] : LB) ++ s126)]]))))))
 else
 (QhI lb n w7 aloc1 ja aper3 je jb aseg6 jd aser9 jc jl jk l17 jg jj jn wG wG vl l115 jV jT jP jW jq jt wA jr js ju) := (Qae _).trans (by kernel_rfl)
noncomputable def Qe3 (lb n : Nat) (aloc1 : LB) (ja : Bool) (aper3 : LL) (je : Int) (jb : Bool) (aseg6 : LL) (jd : Bool) (aser9 : LL) (jc : Int) (jl : CV) (jk : Bool) (l17 : LL) (jg : CV) (jj : Bool × LL) (jn : CV) (vY : Bool) (vP : LL) : Option CV :=
 hold (E0 lb n 0 990 (sub (B Qaa) [1, 1, 1, 1, 1, 1, 1, 1, 1, 1]) (retK Tryz.prog (R Qaa) 0 (outK (Qaf Tryz.prog Qaa))) ⟨fr 122 [(0, .val (.agg [.str aloc1, .list ja aper3, .int .i64 je, .list jb aseg6, .list jd aser9, .int .i64 jc])), (1, .ptr 0 1 0), (2, .lst true true 61 []), (3, .ptr 0 3 0), (4, .clo Qaq [.ptr 0 3 0]), (5, vV jl), (13, .clo Qaq [.ptr 0 3 0]), (30, .val (.list jk l17)), (31, .ptr 0 1 1), (32, .val (.list ja aper3)), (33, .ptr 0 1 2), (34, vI je), (35, vV jg), (36, .val (.list (jk && jj.2.isEmpty) (l17 ++ jj.2))), (43, .ptr 0 1 3), (44, .val (.list jb aseg6)), (45, vV jn), (46, vV jl)], [bx 122 [(1, some [vS aloc1, .val (.list ja aper3), vI je, .val (.list jb aseg6), .val (.list jd aser9), vI jc]), (3, some [.lst true vY 61 vP])]], KK⟩)
noncomputable def QaX (lb n wV : Nat) (aloc1 : LB) (ja : Bool) (aper3 : LL) (je : Int) (jb : Bool) (aseg6 : LL) (jd : Bool) (aser9 : LL) (jc : Int) (jl : CV) (jk : Bool) (l17 : LL) (jg : CV) (jj : Bool × LL) (jn : CV) (jL : Int) (y9 : Bool) (l187 : LL) : Option CV :=
 hold (QaC (E0 lb n 0 986) 0 (Qak (sub (B Qaa) [1, 1, 1, 1, 1, 1, 1, 1, 1, 1, 0, 1, 0, 0]) ++ [10, 12]) [11] (sub (B Qaa) [1, 1, 1, 1, 1, 1, 1, 1, 1, 1, 0, 1, 0, 0]) (Qao 4 (seqK (E0 lb n 0 989) (sub (B Qaa) [1, 1, 1, 1, 1, 1, 1, 1, 1, 1, 0]) (sub (B Qaa) [1, 1, 1, 1, 1, 1, 1, 1, 1, 1, 1]) (retK Tryz.prog (R Qaa) 0 (outK (Qaf Tryz.prog Qaa))))) wV ⟨fr 122 [(0, .val (.agg [.str aloc1, .list ja aper3, .int .i64 je, .list jb aseg6, .list jd aser9, .int .i64 jc])), (1, .ptr 0 1 0), (2, .lst true true 61 []), (3, .ptr 0 3 0), (4, .clo Qaq [.ptr 0 3 0]), (5, vV jl), (13, .clo Qaq [.ptr 0 3 0]), (30, .val (.list jk l17)), (31, .ptr 0 1 1), (32, .val (.list ja aper3)), (33, .ptr 0 1 2), (34, vI je), (35, vV jg), (36, .val (.list (jk && jj.2.isEmpty) (l17 ++ jj.2))), (43, .ptr 0 1 3), (44, .val (.list jb aseg6)), (45, vV jn), (46, vV jl), (75, .ptr 0 1 4), (76, .val (.list jd aser9)), (77, .val (.int .i64 (aser9.length : Int))), (78, vI jL)], [bx 122 [(1, some [vS aloc1, .val (.list ja aper3), vI je, .val (.list jb aseg6), .val (.list jd aser9), vI jc]), (3, some [.lst true y9 61 l187])]], KK⟩)
noncomputable def Qcv (lb n wV : Nat) (aloc1 : LB) (ja : Bool) (aper3 : LL) (je : Int) (jb : Bool) (aseg6 : LL) (jd : Bool) (aser9 : LL) (jc : Int) (jl : CV) (jL : Int) (s210 : LB) (jk : Bool) (l17 : LL) (jg : CV) (jj : Bool × LL) (jn : CV) (c205 : List CV) (wH yl yj yu : CV) (yT : Bool) (l214 : LL) : Option CV :=
 hold (E0 lb n 0 979 (sub (B Qaa) [1, 1, 1, 1, 1, 1, 1, 1, 1, 1, 0, 1, 0, 0, 1, 1, 0, 0, 1, 1, 1]) (Qao 5 (seqK (E0 lb n 0 983) (sub (B Qaa) [1, 1, 1, 1, 1, 1, 1, 1, 1, 1, 0, 1, 0, 0, 1, 1, 0]) (sub (B Qaa) [1, 1, 1, 1, 1, 1, 1, 1, 1, 1, 0, 1, 0, 0, 1, 1, 1]) (QcV 0 (Qak (sub (B Qaa) [1, 1, 1, 1, 1, 1, 1, 1, 1, 1, 0, 1, 0, 0]) ++ [10, 12]) [11] (QaC (E0 lb n 0 986) 0 (Qak (sub (B Qaa) [1, 1, 1, 1, 1, 1, 1, 1, 1, 1, 0, 1, 0, 0]) ++ [10, 12]) [11] (sub (B Qaa) [1, 1, 1, 1, 1, 1, 1, 1, 1, 1, 0, 1, 0, 0]) (Qao 4 (seqK (E0 lb n 0 989) (sub (B Qaa) [1, 1, 1, 1, 1, 1, 1, 1, 1, 1, 0]) (sub (B Qaa) [1, 1, 1, 1, 1, 1, 1, 1, 1, 1, 1]) (retK Tryz.prog (R Qaa) 0 (outK (Qaf Tryz.prog Qaa))))) wV) (Qao 4 (seqK (E0 lb n 0 989) (sub (B Qaa) [1, 1, 1, 1, 1, 1, 1, 1, 1, 1, 0]) (sub (B Qaa) [1, 1, 1, 1, 1, 1, 1, 1, 1, 1, 1]) (retK Tryz.prog (R Qaa) 0 (outK (Qaf Tryz.prog Qaa)))))))) ⟨fr 122 [(0, .val (.agg [.str aloc1, .list ja aper3, .int .i64 je, .list jb aseg6, .list jd aser9, .int .i64 jc])), (1, .ptr 0 1 0), (2, .lst true true 61 []), (3, .ptr 0 3 0), (4, .clo Qaq [.ptr 0 3 0]), (5, vV jl), (10, vI jL), (11, .ptr 0 11 0), (12, .val (.str (([115, 101, 114, 118, 105, 99, 101, 32] : LB) ++ s210))), (13, .clo Qaq [.ptr 0 3 0]), (30, .val (.list jk l17)), (31, .ptr 0 1 1), (32, .val (.list ja aper3)), (33, .ptr 0 1 2), (34, vI je), (35, vV jg), (36, .val (.list (jk && jj.2.isEmpty) (l17 ++ jj.2))), (43, .ptr 0 1 3), (44, .val (.list jb aseg6)), (45, vV jn), (46, vV jl), (75, .ptr 0 1 4), (76, .val (.list jd aser9)), (77, .val (.int .i64 (aser9.length : Int))), (78, vI jL), (79, .val (.bool (decide (jL < (aser9.length : Int))))), (80, vI jL), (81, .cptr c205 0), (82, .val (.agg [wH, yl, yj])), (83, vI jL), (84, vV yu), (85, .val (.str (([115, 101, 114, 118, 105, 99, 101, 32] : LB) ++ s210)))], [bx 122 [(1, some [vS aloc1, .val (.list ja aper3), vI je, .val (.list jb aseg6), .val (.list jd aser9), vI jc]), (3, some [.lst true yT 61 l214]), (11, some [.val wH, .val yl, .val yj])]], KK⟩)
theorem Qjh (lb n wV : Nat) (aloc1 : LB) (ja : Bool) (aper3 : LL) (je : Int) (jb : Bool) (aseg6 : LL) (jd : Bool) (aser9 : LL) (jc : Int) (jl : CV) (jL : Int) (s210 : LB) (jk : Bool) (l17 : LL) (jg : CV) (jj : Bool × LL) (jn : CV) (c205 : List CV) (wH yl yj yu : CV) (yT : Bool) (l214 : LL) :
 Qcv lb n wV aloc1 ja aper3 je jb aseg6 jd aser9 jc jl jL s210 jk l17 jg jj jn c205 wH yl yj yu yT l214 =
 optO (CV.asI .i64 yl) fun kG =>
 bif (decide (kG < 0)) then
 (chkO (room (l214.length + 1) 24) (
 QaX lb n wV aloc1 ja aper3 je jb aseg6 jd aser9 jc jl jk l17 jg jj jn (IntKind.wrap .i64 (jL + 1)) (yT && false) (l214 ++ [[CV.int .i64 7, CV.str (([115, 101, 114, 118, 105, 99, 101, 32] : LB) ++ s210)]])))
 else
 (optO (CV.asI .i64 yl) fun kL =>
 bif (decide (kL ≥ (aper3.length : Int))) then
 (chkO (room (l214.length + 1) 24) (
 QaX lb n wV aloc1 ja aper3 je jb aseg6 jd aser9 jc jl jk l17 jg jj jn (IntKind.wrap .i64 (jL + 1)) (yT && false) (l214 ++ [[CV.int .i64 7, CV.str (([115, 101, 114, 118, 105, 99, 101, 32] : LB) ++ s210)]])))
 else
 (optO (CV.asI .i64 yj) fun gX =>
 bif (decide (gX < 0)) then
 (chkO (room (l214.length + 1) 24) (
 QaX lb n wV aloc1 ja aper3 je jb aseg6 jd aser9 jc jl jk l17 jg jj jn (IntKind.wrap .i64 (jL + 1)) (yT && false) (l214 ++ [[CV.int .i64 7, CV.str (([115, 101, 114, 118, 105, 99, 101, 32] : LB) ++ s210)]])))
 else
 (optO (CV.asI .i64 yj) fun nN =>
 bif (decide (nN ≥ (aseg6.length : Int))) then
 (chkO (room (l214.length + 1) 24) (
 QaX lb n wV aloc1 ja aper3 je jb aseg6 jd aser9 jc jl jk l17 jg jj jn (IntKind.wrap .i64 (jL + 1)) (yT && false) (l214 ++ [[CV.int .i64 7, CV.str (([115, 101, 114, 118, 105, 99, 101, 32] : LB) ++ s210)]])))
 else
 (QaX lb n wV aloc1 ja aper3 je jb aseg6 jd aser9 jc jl jk l17 jg jj jn (IntKind.wrap .i64 (jL + 1)) yT l214)))) := (Qae _).trans (by kernel_rfl)
noncomputable def QgV (lb n : Nat) (aloc1 : LB) (ja : Bool) (aper3 : LL) (je : Int) (jb : Bool) (aseg6 : LL) (jd : Bool) (aser9 : LL) (jc : Int) (jl : CV) (jk : Bool) (l17 : LL) (jg : CV) (jj : Bool × LL) (jn : CV) (v6 : Bool) (kb : LL) : Option CV :=
 hold (E0 lb n 0 989 (sub (B Qaa) [1, 1, 1, 1, 1, 1, 1, 1, 1, 1, 1]) (retK Tryz.prog (R Qaa) 0 (outK (Qaf Tryz.prog Qaa))) ⟨fr 122 [(0, .val (.agg [.str aloc1, .list ja aper3, .int .i64 je, .list jb aseg6, .list jd aser9, .int .i64 jc])), (1, .ptr 0 1 0), (2, .lst true true 61 []), (3, .ptr 0 3 0), (4, .clo Qaq [.ptr 0 3 0]), (5, vV jl), (13, .clo Qaq [.ptr 0 3 0]), (30, .val (.list jk l17)), (31, .ptr 0 1 1), (32, .val (.list ja aper3)), (33, .ptr 0 1 2), (34, vI je), (35, vV jg), (36, .val (.list (jk && jj.2.isEmpty) (l17 ++ jj.2))), (43, .ptr 0 1 3), (44, .val (.list jb aseg6)), (45, vV jn), (46, vV jl)], [bx 122 [(1, some [vS aloc1, .val (.list ja aper3), vI je, .val (.list jb aseg6), .val (.list jd aser9), vI jc]), (3, some [.lst true v6 61 kb])]], KK⟩)
theorem Qja (lb n : Nat) (aloc1 : LB) (ja : Bool) (aper3 : LL) (je : Int) (jb : Bool) (aseg6 : LL) (jd : Bool) (aser9 : LL) (jc : Int) (jl : CV) (jk : Bool) (l17 : LL) (jg : CV) (jj : Bool × LL) (jn : CV) (v6 : Bool) (kb : LL) :
 QgV lb n aloc1 ja aper3 je jb aseg6 jd aser9 jc jl jk l17 jg jj jn v6 kb =
 some (.list v6 kb) := (Qae _).trans (by kernel_rfl)
theorem Qfa (lb n wV : Nat) (aloc1 : LB) (ja : Bool) (aper3 : LL) (je : Int) (jb : Bool) (aseg6 : LL) (jd : Bool) (aser9 : LL) (jc : Int) (jl : CV) (jk : Bool) (l17 : LL) (jg : CV) (jj : Bool × LL) (jn : CV) (jL : Int) (y9 : Bool) (l187 : LL) :
 QaX lb n (wV + 1) aloc1 ja aper3 je jb aseg6 jd aser9 jc jl jk l17 jg jj jn jL y9 l187 =
 bif (decide (jL < (aser9.length : Int))) then
 (optO (atL aser9 jL) fun c205 =>
 chkO (c205.length == 3) (
 optO (c205[0]?) fun wH =>
 optO (c205[1]?) fun yl =>
 optO (c205[2]?) fun yj =>
 optO (C lb n QcD [.int .i64 jL]) fun yu =>
 optO (CV.asS yu) fun s210 =>
 chkO (decide (([115, 101, 114, 118, 105, 99, 101, 32] : LB).length + s210.length ≤ 9223372036854775807)) (
 optO (C lb n QdK [wH, .int .i64 4, .int .i64 4]) fun gZ =>
 optO (CV.asB gZ) fun n7 =>
 bif (!n7) then
 (chkO (room (l187.length + 1) 24) (
 Qcv lb n wV aloc1 ja aper3 je jb aseg6 jd aser9 jc jl jL s210 jk l17 jg jj jn c205 wH yl yj yu (y9 && false) (l187 ++ [[CV.int .i64 5, CV.str (([115, 101, 114, 118, 105, 99, 101, 32] : LB) ++ s210)]])))
 else
 (Qcv lb n wV aloc1 ja aper3 je jb aseg6 jd aser9 jc jl jL s210 jk l17 jg jj jn c205 wH yl yj yu y9 l187))))
 else
 (QgV lb n aloc1 ja aper3 je jb aseg6 jd aser9 jc jl jk l17 jg jj jn y9 l187) := (Qae _).trans (by kernel_rfl)
theorem Qj0 (lb n : Nat) (aloc1 : LB) (ja : Bool) (aper3 : LL) (je : Int) (jb : Bool) (aseg6 : LL) (jd : Bool) (aser9 : LL) (jc : Int) (jl : CV) (jk : Bool) (l17 : LL) (jg : CV) (jj : Bool × LL) (jn : CV) (vY : Bool) (vP : LL) :
 Qe3 lb n aloc1 ja aper3 je jb aseg6 jd aser9 jc jl jk l17 jg jj jn vY vP =
 QaX lb n n aloc1 ja aper3 je jb aseg6 jd aser9 jc jl jk l17 jg jj jn 0 vY vP := (Qae _).trans (by kernel_rfl)
theorem Qff (lb n w7 : Nat) (aloc1 : LB) (ja : Bool) (aper3 : LL) (je : Int) (jb : Bool) (aseg6 : LL) (jd : Bool) (aser9 : LL) (jc : Int) (jl : CV) (jk : Bool) (l17 : LL) (jg : CV) (jj : Bool × LL) (jn : CV) (wG : Int) (kv : Bool) (kt : LL) :
 QcM lb n (w7 + 1) aloc1 ja aper3 je jb aseg6 jd aser9 jc jl jk l17 jg jj jn wG kv kt =
 bif (decide (wG < (aseg6.length : Int))) then
 (optO (atL aseg6 wG) fun c95 =>
 chkO (c95.length == 10) (
 optO (c95[0]?) fun jV =>
 optO (c95[1]?) fun jT =>
 optO (c95[2]?) fun jP =>
 optO (c95[3]?) fun jW =>
 optO (c95[4]?) fun jq =>
 optO (c95[5]?) fun jt =>
 optO (c95[6]?) fun wA =>
 optO (c95[7]?) fun jr =>
 optO (c95[8]?) fun js =>
 optO (c95[9]?) fun ju =>
 optO (C lb n Qa7 [.agg [jV, jT, jP, jW, jq, jt, wA, jr, js, ju]]) fun yc =>
 optO (CV.asL yc) fun yn =>
 QcN lb n n w7 aloc1 ja aper3 je jb aseg6 jd aser9 jc jl wG jk l17 jg jj jn c95 jV jT jP jW jq jt wA jr js ju yc yn 0 kv kt))
 else
 (Qe3 lb n aloc1 ja aper3 je jb aseg6 jd aser9 jc jl jk l17 jg jj jn kv kt) := (Qae _).trans (by kernel_rfl)
theorem QjY (lb n : Nat) (aloc1 : LB) (ja : Bool) (aper3 : LL) (je : Int) (jb : Bool) (aseg6 : LL) (jd : Bool) (aser9 : LL) (jc : Int) (jl : CV) (jk : Bool) (l17 : LL) (jg : CV) (jj : Bool × LL) (jn : CV) (yQ : Bool) (y5 : LL) :
 QcP lb n aloc1 ja aper3 je jb aseg6 jd aser9 jc jl jk l17 jg jj jn yQ y5 =
 QcM lb n n aloc1 ja aper3 je jb aseg6 jd aser9 jc jl jk l17 jg jj jn 0 yQ y5 := (Qae _).trans (by kernel_rfl)
theorem QjV (lb n : Nat) (aloc1 : LB) (ja : Bool) (aper3 : LL) (je : Int) (jb : Bool) (aseg6 : LL) (jd : Bool) (aser9 : LL) (jc : Int) (jk : Bool) (l17 : LL) (jg : CV) (jj : Bool × LL) (yv : Bool) (l21 : LL) :
 QbO lb n aloc1 ja aper3 je jb aseg6 jd aser9 jc jk l17 jg jj yv l21 =
 optO (C lb n QaJ [.list jb aseg6]) fun jn =>
 optO (C lb n QaD [jn]) fun jl =>
 optO (CV.asI .i64 jl) fun yU =>
 bif (yU != 0) then
 (chkO (CV.isCell jl) (
 chkO (room (l21.length + 1) 24) (
 QcP lb n aloc1 ja aper3 je jb aseg6 jd aser9 jc jl jk l17 jg jj jn (yv && false) (l21 ++ [[jl, CV.str [115, 101, 103, 115]]]))))
 else
 (QcP lb n aloc1 ja aper3 je jb aseg6 jd aser9 jc jl jk l17 jg jj jn yv l21) := (Qae _).trans (by kernel_rfl)
theorem QjT (lb n : Nat) (aloc1 : LB) (ja : Bool) (aper3 : LL) (je : Int) (jb : Bool) (aseg6 : LL) (jd : Bool) (aser9 : LL) (jc : Int) (jk : Bool) (l17 : LL) :
 QbM lb n aloc1 ja aper3 je jb aseg6 jd aser9 jc jk l17 =
 optO (C lb n QaB [.list ja aper3, .int .i64 je]) fun jg =>
 optO (CV.asL jg) fun jj =>
 chkO (jj.2.all (·.length == 2)) (
 chkO (room (l17.length + jj.2.length) 24) (
 bif (decide ((aseg6.length : Int) > 24)) then
 (chkO (room ((l17 ++ jj.2).length + 1) 24) (
 QbO lb n aloc1 ja aper3 je jb aseg6 jd aser9 jc jk l17 jg jj ((jk && jj.2.isEmpty) && false) ((l17 ++ jj.2) ++ [[CV.int .i64 4, CV.str [115, 101, 103, 115]]])))
 else
 (QbO lb n aloc1 ja aper3 je jb aseg6 jd aser9 jc jk l17 jg jj (jk && jj.2.isEmpty) (l17 ++ jj.2)))) := (Qae _).trans (by kernel_rfl)
theorem Qj1 (lb n : Nat) (aloc1 : LB) (ja : Bool) (aper3 : LL) (je : Int) (jb : Bool) (aseg6 : LL) (jd : Bool) (aser9 : LL) (jc : Int) (wF : Bool) (l14 : LL) :
 booking_Check_J1 lb n aloc1 ja aper3 je jb aseg6 jd aser9 jc wF l14 =
 bif (decide (jc < 0)) then
 (chkO (room (l14.length + 1) 24) (
 QbM lb n aloc1 ja aper3 je jb aseg6 jd aser9 jc (wF && false) (l14 ++ [[CV.int .i64 13, CV.str [108, 105, 109, 105, 116]]])))
 else
 (bif (decide (jc ≥ 52596000)) then
 (chkO (room (l14.length + 1) 24) (
 QbM lb n aloc1 ja aper3 je jb aseg6 jd aser9 jc (wF && false) (l14 ++ [[CV.int .i64 13, CV.str [108, 105, 109, 105, 116]]])))
 else
 (QbM lb n aloc1 ja aper3 je jb aseg6 jd aser9 jc wF l14)) := (Qae _).trans (by kernel_rfl)
theorem Qme (lb n : Nat) (aloc1 : LB) (ja : Bool) (aper3 : LL) (je : Int) (jb : Bool) (aseg6 : LL) (jd : Bool) (aser9 : LL) (jc : Int) :
 top lb n Qaa [.agg [.str aloc1, .list ja aper3, .int .i64 je, .list jb aseg6, .list jd aser9, .int .i64 jc]] =
 optO (C lb n QeB [.str aloc1]) fun vj =>
 optO (CV.asB vj) fun kj =>
 bif (!kj) then
 (booking_Check_J1 lb n aloc1 ja aper3 je jb aseg6 jd aser9 jc false [[CV.int .i64 5, CV.str [108, 111, 99, 97, 116, 111, 114]]])
 else
 (booking_Check_J1 lb n aloc1 ja aper3 je jb aseg6 jd aser9 jc true []) := by kernel_rfl
end Go.Proofs
