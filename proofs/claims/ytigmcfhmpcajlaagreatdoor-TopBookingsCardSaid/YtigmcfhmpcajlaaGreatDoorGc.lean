/- Equations of functions, printed by program. Conditions: none. -/
import Derived.Test.YtigmcfhmpcajlaaGreatDoorEv
namespace Go.Proofs
open Go.Am
set_option maxRecDepth 100000
set_option linter.unusedVariables false
noncomputable def booking_Check_J1 :=
 fun lb n jf (jb : Bool) (aper3 : LL) je (ja : Bool) (aseg6 : LL) (jd : Bool) (aser9 : LL) jc (wT : Bool) (l14 : LL) =>
 hold (E0 lb n 0 996 (sub (B Qac) [1, 1, 1, 1]) (retK Tryz.prog (R Qac) 0 (outK (Qah Tryz.prog Qac))) ⟨fr 122 [(0, .val (.agg [.str jf, .list jb aper3, .int .i64 je, .list ja aseg6, .list jd aser9, .int .i64 jc])), (1, .ptr 0 1 0), (2, .lst true true 61 []), (3, .ptr 0 3 0), (4, .clo Qar [.ptr 0 3 0]), (13, .clo Qar [.ptr 0 3 0])], [bx 122 [(1, some [vS jf, .val (.list jb aper3), vI je, .val (.list ja aseg6), .val (.list jd aser9), vI jc]), (3, some [.lst true wT 61 l14])]], KK⟩)
noncomputable def Qbv (lb n : Nat) (jf : LB) (jb : Bool) (aper3 : LL) (je : Int) (ja : Bool) (aseg6 : LL) (jd : Bool) (aser9 : LL) (jc : Int) (jp : Bool) (l17 : LL) : Option CV :=
 hold (E0 lb n 0 995 (sub (B Qac) [1, 1, 1, 1, 1]) (retK Tryz.prog (R Qac) 0 (outK (Qah Tryz.prog Qac))) ⟨fr 122 [(0, .val (.agg [.str jf, .list jb aper3, .int .i64 je, .list ja aseg6, .list jd aser9, .int .i64 jc])), (1, .ptr 0 1 0), (2, .lst true true 61 []), (3, .ptr 0 3 0), (4, .clo Qar [.ptr 0 3 0]), (13, .clo Qar [.ptr 0 3 0])], [bx 122 [(1, some [vS jf, .val (.list jb aper3), vI je, .val (.list ja aseg6), .val (.list jd aser9), vI jc]), (3, some [.lst true jp 61 l17])]], KK⟩)
noncomputable def Qbw (lb n : Nat) (jf : LB) (jb : Bool) (aper3 : LL) (je : Int) (ja : Bool) (aseg6 : LL) (jd : Bool) (aser9 : LL) (jc : Int) (jp : Bool) (l17 : LL) (js : CV) (jo : Bool × LL) (yw : Bool) (l21 : LL) : Option CV :=
 hold (E0 lb n 0 993 (sub (B Qac) [1, 1, 1, 1, 1, 1, 1]) (retK Tryz.prog (R Qac) 0 (outK (Qah Tryz.prog Qac))) ⟨fr 122 [(0, .val (.agg [.str jf, .list jb aper3, .int .i64 je, .list ja aseg6, .list jd aser9, .int .i64 jc])), (1, .ptr 0 1 0), (2, .lst true true 61 []), (3, .ptr 0 3 0), (4, .clo Qar [.ptr 0 3 0]), (13, .clo Qar [.ptr 0 3 0]), (30, .val (.list jp l17)), (31, .ptr 0 1 1), (32, .val (.list jb aper3)), (33, .ptr 0 1 2), (34, vI je), (35, vV js), (36, .val (.list (jp && jo.2.isEmpty) (l17 ++ jo.2)))], [bx 122 [(1, some [vS jf, .val (.list jb aper3), vI je, .val (.list ja aseg6), .val (.list jd aser9), vI jc]), (3, some [.lst true yw 61 l21])]], KK⟩)
noncomputable def Qco (lb n : Nat) (jf : LB) (jb : Bool) (aper3 : LL) (je : Int) (ja : Bool) (aseg6 : LL) (jd : Bool) (aser9 : LL) (jc : Int) (jr : CV) (jp : Bool) (l17 : LL) (js : CV) (jo : Bool × LL) (jG : CV) (yH : Bool) (v8 : LL) : Option CV :=
 hold (E0 lb n 0 991 (sub (B Qac) [1, 1, 1, 1, 1, 1, 1, 1, 1]) (retK Tryz.prog (R Qac) 0 (outK (Qah Tryz.prog Qac))) ⟨fr 122 [(0, .val (.agg [.str jf, .list jb aper3, .int .i64 je, .list ja aseg6, .list jd aser9, .int .i64 jc])), (1, .ptr 0 1 0), (2, .lst true true 61 []), (3, .ptr 0 3 0), (4, .clo Qar [.ptr 0 3 0]), (5, vV jr), (13, .clo Qar [.ptr 0 3 0]), (30, .val (.list jp l17)), (31, .ptr 0 1 1), (32, .val (.list jb aper3)), (33, .ptr 0 1 2), (34, vI je), (35, vV js), (36, .val (.list (jp && jo.2.isEmpty) (l17 ++ jo.2))), (43, .ptr 0 1 3), (44, .val (.list ja aseg6)), (45, vV jG), (46, vV jr)], [bx 122 [(1, some [vS jf, .val (.list jb aper3), vI je, .val (.list ja aseg6), .val (.list jd aser9), vI jc]), (3, some [.lst true yH 61 v8])]], KK⟩)
noncomputable def Qct (lb n wu : Nat) (jf : LB) (jb : Bool) (aper3 : LL) (je : Int) (ja : Bool) (aseg6 : LL) (jd : Bool) (aser9 : LL) (jc : Int) (jr : CV) (jp : Bool) (l17 : LL) (js : CV) (jo : Bool × LL) (jG : CV) (wj : Int) (vM : Bool) (vL : LL) : Option CV :=
 hold (QaA (E0 lb n 0 987) 0 (Qag (sub (B Qac) [1, 1, 1, 1, 1, 1, 1, 1, 1, 0, 1, 0, 0]) ++ [6, 9]) [7] (sub (B Qac) [1, 1, 1, 1, 1, 1, 1, 1, 1, 0, 1, 0, 0]) (Qal 0 (seqK (E0 lb n 0 990) (sub (B Qac) [1, 1, 1, 1, 1, 1, 1, 1, 1, 0]) (sub (B Qac) [1, 1, 1, 1, 1, 1, 1, 1, 1, 1]) (retK Tryz.prog (R Qac) 0 (outK (Qah Tryz.prog Qac))))) wu ⟨fr 122 [(0, .val (.agg [.str jf, .list jb aper3, .int .i64 je, .list ja aseg6, .list jd aser9, .int .i64 jc])), (1, .ptr 0 1 0), (2, .lst true true 61 []), (3, .ptr 0 3 0), (4, .clo Qar [.ptr 0 3 0]), (5, vV jr), (13, .clo Qar [.ptr 0 3 0]), (30, .val (.list jp l17)), (31, .ptr 0 1 1), (32, .val (.list jb aper3)), (33, .ptr 0 1 2), (34, vI je), (35, vV js), (36, .val (.list (jp && jo.2.isEmpty) (l17 ++ jo.2))), (43, .ptr 0 1 3), (44, .val (.list ja aseg6)), (45, vV jG), (46, vV jr), (52, .ptr 0 1 3), (53, .val (.list ja aseg6)), (54, .val (.int .i64 (aseg6.length : Int))), (55, vI wj)], [bx 122 [(1, some [vS jf, .val (.list jb aper3), vI je, .val (.list ja aseg6), .val (.list jd aser9), vI jc]), (3, some [.lst true vM 61 vL])]], KK⟩)
noncomputable def Qcp (lb n va wu : Nat) (jf : LB) (jb : Bool) (aper3 : LL) (je : Int) (ja : Bool) (aseg6 : LL) (jd : Bool) (aser9 : LL) (jc : Int) (jr : CV) (wj : Int) (jp : Bool) (l17 : LL) (js : CV) (jo : Bool × LL) (jG : CV) (c95 : List CV) (wP wQ wO wR wD wB wC wy wz wA wI : CV) (wJ : Bool × LL) (yi : Int) (yA : Bool) (l115 : LL) : Option CV :=
 hold (QaA (E0 lb n 0 979) 0 (Qag (sub (B Qac) [1, 1, 1, 1, 1, 1, 1, 1, 1, 0, 1, 0, 0, 1, 1, 0, 0, 1, 1, 0, 0]) ++ [9]) [] (sub (B Qac) [1, 1, 1, 1, 1, 1, 1, 1, 1, 0, 1, 0, 0, 1, 1, 0, 0, 1, 1, 0, 0]) (Qal 2 (Qal 1 (seqK (E0 lb n 0 984) (sub (B Qac) [1, 1, 1, 1, 1, 1, 1, 1, 1, 0, 1, 0, 0, 1, 1, 0]) (sub (B Qac) [1, 1, 1, 1, 1, 1, 1, 1, 1, 0, 1, 0, 0, 1, 1, 1]) (Qbq 0 (Qag (sub (B Qac) [1, 1, 1, 1, 1, 1, 1, 1, 1, 0, 1, 0, 0]) ++ [6, 9]) [7] (QaA (E0 lb n 0 987) 0 (Qag (sub (B Qac) [1, 1, 1, 1, 1, 1, 1, 1, 1, 0, 1, 0, 0]) ++ [6, 9]) [7] (sub (B Qac) [1, 1, 1, 1, 1, 1, 1, 1, 1, 0, 1, 0, 0]) (Qal 0 (seqK (E0 lb n 0 990) (sub (B Qac) [1, 1, 1, 1, 1, 1, 1, 1, 1, 0]) (sub (B Qac) [1, 1, 1, 1, 1, 1, 1, 1, 1, 1]) (retK Tryz.prog (R Qac) 0 (outK (Qah Tryz.prog Qac))))) wu) (Qal 0 (seqK (E0 lb n 0 990) (sub (B Qac) [1, 1, 1, 1, 1, 1, 1, 1, 1, 0]) (sub (B Qac) [1, 1, 1, 1, 1, 1, 1, 1, 1, 1]) (retK Tryz.prog (R Qac) 0 (outK (Qah Tryz.prog Qac))))))))) va ⟨fr 122 [(0, .val (.agg [.str jf, .list jb aper3, .int .i64 je, .list ja aseg6, .list jd aser9, .int .i64 jc])), (1, .ptr 0 1 0), (2, .lst true true 61 []), (3, .ptr 0 3 0), (4, .clo Qar [.ptr 0 3 0]), (5, vV jr), (6, vI wj), (7, .ptr 0 7 0), (13, .clo Qar [.ptr 0 3 0]), (30, .val (.list jp l17)), (31, .ptr 0 1 1), (32, .val (.list jb aper3)), (33, .ptr 0 1 2), (34, vI je), (35, vV js), (36, .val (.list (jp && jo.2.isEmpty) (l17 ++ jo.2))), (43, .ptr 0 1 3), (44, .val (.list ja aseg6)), (45, vV jG), (46, vV jr), (52, .ptr 0 1 3), (53, .val (.list ja aseg6)), (54, .val (.int .i64 (aseg6.length : Int))), (55, vI wj), (56, .val (.bool (decide (wj < (aseg6.length : Int))))), (57, vI wj), (58, .cptr c95 0), (59, .val (.agg [wP, wQ, wO, wR, wD, wB, wC, wy, wz, wA])), (60, .val (.agg [wP, wQ, wO, wR, wD, wB, wC, wy, wz, wA])), (61, vV wI), (62, .val (.int .i64 (wJ.2.length : Int))), (63, vI yi)], [bx 122 [(1, some [vS jf, .val (.list jb aper3), vI je, .val (.list ja aseg6), .val (.list jd aser9), vI jc]), (3, some [.lst true yA 61 l115]), (7, some [.val wP, .val wQ, .val wO, .val wR, .val wD, .val wB, .val wC, .val wy, .val wz, .val wA])]], KK⟩)
noncomputable def Qgm (lb n wu : Nat) (jf : LB) (jb : Bool) (aper3 : LL) (je : Int) (ja : Bool) (aseg6 : LL) (jd : Bool) (aser9 : LL) (jc : Int) (jr : CV) (jp : Bool) (l17 : LL) (js : CV) (jo : Bool × LL) (jG : CV) (wj i127 : Int) (vu : Bool) (vD : LL) (vQ vT vR vW vX jV jW vU v138 v139 : CV) : Option CV :=
 hold (E0 lb n 0 984 (sub (B Qac) [1, 1, 1, 1, 1, 1, 1, 1, 1, 0, 1, 0, 0, 1, 1, 1]) (Qbq 0 (Qag (sub (B Qac) [1, 1, 1, 1, 1, 1, 1, 1, 1, 0, 1, 0, 0]) ++ [6, 9]) [7] (QaA (E0 lb n 0 987) 0 (Qag (sub (B Qac) [1, 1, 1, 1, 1, 1, 1, 1, 1, 0, 1, 0, 0]) ++ [6, 9]) [7] (sub (B Qac) [1, 1, 1, 1, 1, 1, 1, 1, 1, 0, 1, 0, 0]) (Qal 0 (seqK (E0 lb n 0 990) (sub (B Qac) [1, 1, 1, 1, 1, 1, 1, 1, 1, 0]) (sub (B Qac) [1, 1, 1, 1, 1, 1, 1, 1, 1, 1]) (retK Tryz.prog (R Qac) 0 (outK (Qah Tryz.prog Qac))))) wu) (Qal 0 (seqK (E0 lb n 0 990) (sub (B Qac) [1, 1, 1, 1, 1, 1, 1, 1, 1, 0]) (sub (B Qac) [1, 1, 1, 1, 1, 1, 1, 1, 1, 1]) (retK Tryz.prog (R Qac) 0 (outK (Qah Tryz.prog Qac)))))) ⟨fr 122 [(0, .val (.agg [.str jf, .list jb aper3, .int .i64 je, .list ja aseg6, .list jd aser9, .int .i64 jc])), (1, .ptr 0 1 0), (2, .lst true true 61 []), (3, .ptr 0 3 0), (4, .clo Qar [.ptr 0 3 0]), (5, vV jr), (6, vI i127), (13, .clo Qar [.ptr 0 3 0]), (30, .val (.list jp l17)), (31, .ptr 0 1 1), (32, .val (.list jb aper3)), (33, .ptr 0 1 2), (34, vI je), (35, vV js), (36, .val (.list (jp && jo.2.isEmpty) (l17 ++ jo.2))), (43, .ptr 0 1 3), (44, .val (.list ja aseg6)), (45, vV jG), (46, vV jr), (52, .ptr 0 1 3), (53, .val (.list ja aseg6)), (54, .val (.int .i64 (aseg6.length : Int))), (55, vI wj), (56, .val (.bool (decide (wj < (aseg6.length : Int)))))], [bx 122 [(1, some [vS jf, .val (.list jb aper3), vI je, .val (.list ja aseg6), .val (.list jd aser9), vI jc]), (3, some [.lst true vu 61 vD]), (7, some [.val vQ, .val vT, .val vR, .val vW, .val vX, .val jV, .val jW, .val vU, .val v138, .val v139])]], KK⟩)
theorem QiK (lb n wu : Nat) (jf : LB) (jb : Bool) (aper3 : LL) (je : Int) (ja : Bool) (aseg6 : LL) (jd : Bool) (aser9 : LL) (jc : Int) (jr : CV) (jp : Bool) (l17 : LL) (js : CV) (jo : Bool × LL) (jG : CV) (wj i127 : Int) (vu : Bool) (vD : LL) (vQ vT vR vW vX jV jW vU v138 v139 : CV) :
 Qgm lb n wu jf jb aper3 je ja aseg6 jd aser9 jc jr jp l17 js jo jG wj i127 vu vD vQ vT vR vW vX jV jW vU v138 v139 =
 Qct lb n wu jf jb aper3 je ja aseg6 jd aser9 jc jr jp l17 js jo jG (IntKind.wrap .i64 (wj + 1)) vu vD := (Qai _).trans (by kernel_rfl)
theorem Qeu (lb n va wu : Nat) (jf : LB) (jb : Bool) (aper3 : LL) (je : Int) (ja : Bool) (aseg6 : LL) (jd : Bool) (aser9 : LL) (jc : Int) (jr : CV) (wj : Int) (jp : Bool) (l17 : LL) (js : CV) (jo : Bool × LL) (jG : CV) (c95 : List CV) (wP wQ wO wR wD wB wC wy wz wA wI : CV) (wJ : Bool × LL) (yi : Int) (yA : Bool) (l115 : LL) :
 Qcp lb n (va + 1) wu jf jb aper3 je ja aseg6 jd aser9 jc jr wj jp l17 js jo jG c95 wP wQ wO wR wD wB wC wy wz wA wI wJ yi yA l115 =
 bif (decide (yi < (wJ.2.length : Int))) then
 (optO (CV.asL wI) fun mt =>
 optO (atL mt.2 yi) fun c123 =>
 chkO (c123.length == 1) (
 optO (c123[0]?) fun kt =>
 optO (C lb n Qck [.int .i64 wj]) fun mA =>
 optO (CV.asS mA) fun s126 =>
 chkO (decide (([115, 101, 103, 32] : LB).length + s126.length ≤ 9223372036854775807)) (
 chkO (CV.isCell kt) (
 chkO (room (l115.length + 1) 24) (
 Qcp lb n va wu jf jb aper3 je ja aseg6 jd aser9 jc jr wj jp l17 js jo jG c95 wP wQ wO wR wD wB wC wy wz wA wI wJ (IntKind.wrap .i64 (yi + 1)) (yA && false) (l115 ++ [[kt, CV.str (([115, 101, 103, 32] : LB) ++ s126)]]))))))
 else
 (Qgm lb n wu jf jb aper3 je ja aseg6 jd aser9 jc jr jp l17 js jo jG wj wj yA l115 wP wQ wO wR wD wB wC wy wz wA) := (Qai _).trans (by kernel_rfl)
noncomputable def Qen (lb n : Nat) (jf : LB) (jb : Bool) (aper3 : LL) (je : Int) (ja : Bool) (aseg6 : LL) (jd : Bool) (aser9 : LL) (jc : Int) (jr : CV) (jp : Bool) (l17 : LL) (js : CV) (jo : Bool × LL) (jG : CV) (vd : Bool) (y7 : LL) : Option CV :=
 hold (E0 lb n 0 990 (sub (B Qac) [1, 1, 1, 1, 1, 1, 1, 1, 1, 1]) (retK Tryz.prog (R Qac) 0 (outK (Qah Tryz.prog Qac))) ⟨fr 122 [(0, .val (.agg [.str jf, .list jb aper3, .int .i64 je, .list ja aseg6, .list jd aser9, .int .i64 jc])), (1, .ptr 0 1 0), (2, .lst true true 61 []), (3, .ptr 0 3 0), (4, .clo Qar [.ptr 0 3 0]), (5, vV jr), (13, .clo Qar [.ptr 0 3 0]), (30, .val (.list jp l17)), (31, .ptr 0 1 1), (32, .val (.list jb aper3)), (33, .ptr 0 1 2), (34, vI je), (35, vV js), (36, .val (.list (jp && jo.2.isEmpty) (l17 ++ jo.2))), (43, .ptr 0 1 3), (44, .val (.list ja aseg6)), (45, vV jG), (46, vV jr)], [bx 122 [(1, some [vS jf, .val (.list jb aper3), vI je, .val (.list ja aseg6), .val (.list jd aser9), vI jc]), (3, some [.lst true vd 61 y7])]], KK⟩)
noncomputable def QaN (lb n wn : Nat) (jf : LB) (jb : Bool) (aper3 : LL) (je : Int) (ja : Bool) (aseg6 : LL) (jd : Bool) (aser9 : LL) (jc : Int) (jr : CV) (jp : Bool) (l17 : LL) (js : CV) (jo : Bool × LL) (jG : CV) (wi : Int) (yj : Bool) (l187 : LL) : Option CV :=
 hold (QaA (E0 lb n 0 986) 0 (Qag (sub (B Qac) [1, 1, 1, 1, 1, 1, 1, 1, 1, 1, 0, 1, 0, 0]) ++ [10, 12]) [11] (sub (B Qac) [1, 1, 1, 1, 1, 1, 1, 1, 1, 1, 0, 1, 0, 0]) (Qal 4 (seqK (E0 lb n 0 989) (sub (B Qac) [1, 1, 1, 1, 1, 1, 1, 1, 1, 1, 0]) (sub (B Qac) [1, 1, 1, 1, 1, 1, 1, 1, 1, 1, 1]) (retK Tryz.prog (R Qac) 0 (outK (Qah Tryz.prog Qac))))) wn ⟨fr 122 [(0, .val (.agg [.str jf, .list jb aper3, .int .i64 je, .list ja aseg6, .list jd aser9, .int .i64 jc])), (1, .ptr 0 1 0), (2, .lst true true 61 []), (3, .ptr 0 3 0), (4, .clo Qar [.ptr 0 3 0]), (5, vV jr), (13, .clo Qar [.ptr 0 3 0]), (30, .val (.list jp l17)), (31, .ptr 0 1 1), (32, .val (.list jb aper3)), (33, .ptr 0 1 2), (34, vI je), (35, vV js), (36, .val (.list (jp && jo.2.isEmpty) (l17 ++ jo.2))), (43, .ptr 0 1 3), (44, .val (.list ja aseg6)), (45, vV jG), (46, vV jr), (75, .ptr 0 1 4), (76, .val (.list jd aser9)), (77, .val (.int .i64 (aser9.length : Int))), (78, vI wi)], [bx 122 [(1, some [vS jf, .val (.list jb aper3), vI je, .val (.list ja aseg6), .val (.list jd aser9), vI jc]), (3, some [.lst true yj 61 l187])]], KK⟩)
noncomputable def Qcc (lb n wn : Nat) (jf : LB) (jb : Bool) (aper3 : LL) (je : Int) (ja : Bool) (aseg6 : LL) (jd : Bool) (aser9 : LL) (jc : Int) (jr : CV) (wi : Int) (s210 : LB) (jp : Bool) (l17 : LL) (js : CV) (jo : Bool × LL) (jG : CV) (c205 : List CV) (wX wF wK wZ : CV) (w6 : Bool) (l214 : LL) : Option CV :=
 hold (E0 lb n 0 979 (sub (B Qac) [1, 1, 1, 1, 1, 1, 1, 1, 1, 1, 0, 1, 0, 0, 1, 1, 0, 0, 1, 1, 1]) (Qal 5 (seqK (E0 lb n 0 983) (sub (B Qac) [1, 1, 1, 1, 1, 1, 1, 1, 1, 1, 0, 1, 0, 0, 1, 1, 0]) (sub (B Qac) [1, 1, 1, 1, 1, 1, 1, 1, 1, 1, 0, 1, 0, 0, 1, 1, 1]) (Qbq 0 (Qag (sub (B Qac) [1, 1, 1, 1, 1, 1, 1, 1, 1, 1, 0, 1, 0, 0]) ++ [10, 12]) [11] (QaA (E0 lb n 0 986) 0 (Qag (sub (B Qac) [1, 1, 1, 1, 1, 1, 1, 1, 1, 1, 0, 1, 0, 0]) ++ [10, 12]) [11] (sub (B Qac) [1, 1, 1, 1, 1, 1, 1, 1, 1, 1, 0, 1, 0, 0]) (Qal 4 (seqK (E0 lb n 0 989) (sub (B Qac) [1, 1, 1, 1, 1, 1, 1, 1, 1, 1, 0]) (sub (B Qac) [1, 1, 1, 1, 1, 1, 1, 1, 1, 1, 1]) (retK Tryz.prog (R Qac) 0 (outK (Qah Tryz.prog Qac))))) wn) (Qal 4 (seqK (E0 lb n 0 989) (sub (B Qac) [1, 1, 1, 1, 1, 1, 1, 1, 1, 1, 0]) (sub (B Qac) [1, 1, 1, 1, 1, 1, 1, 1, 1, 1, 1]) (retK Tryz.prog (R Qac) 0 (outK (Qah Tryz.prog Qac)))))))) ⟨fr 122 [(0, .val (.agg [.str jf, .list jb aper3, .int .i64 je, .list ja aseg6, .list jd aser9, .int .i64 jc])), (1, .ptr 0 1 0), (2, .lst true true 61 []), (3, .ptr 0 3 0), (4, .clo Qar [.ptr 0 3 0]), (5, vV jr), (10, vI wi), (11, .ptr 0 11 0), (12, .val (.str (([115, 101, 114, 118, 105, 99, 101, 32] : LB) ++ s210))), (13, .clo Qar [.ptr 0 3 0]), (30, .val (.list jp l17)), (31, .ptr 0 1 1), (32, .val (.list jb aper3)), (33, .ptr 0 1 2), (34, vI je), (35, vV js), (36, .val (.list (jp && jo.2.isEmpty) (l17 ++ jo.2))), (43, .ptr 0 1 3), (44, .val (.list ja aseg6)), (45, vV jG), (46, vV jr), (75, .ptr 0 1 4), (76, .val (.list jd aser9)), (77, .val (.int .i64 (aser9.length : Int))), (78, vI wi), (79, .val (.bool (decide (wi < (aser9.length : Int))))), (80, vI wi), (81, .cptr c205 0), (82, .val (.agg [wX, wF, wK])), (83, vI wi), (84, vV wZ), (85, .val (.str (([115, 101, 114, 118, 105, 99, 101, 32] : LB) ++ s210)))], [bx 122 [(1, some [vS jf, .val (.list jb aper3), vI je, .val (.list ja aseg6), .val (.list jd aser9), vI jc]), (3, some [.lst true w6 61 l214]), (11, some [.val wX, .val wF, .val wK])]], KK⟩)
theorem Qh5 (lb n wn : Nat) (jf : LB) (jb : Bool) (aper3 : LL) (je : Int) (ja : Bool) (aseg6 : LL) (jd : Bool) (aser9 : LL) (jc : Int) (jr : CV) (wi : Int) (s210 : LB) (jp : Bool) (l17 : LL) (js : CV) (jo : Bool × LL) (jG : CV) (c205 : List CV) (wX wF wK wZ : CV) (w6 : Bool) (l214 : LL) :
 Qcc lb n wn jf jb aper3 je ja aseg6 jd aser9 jc jr wi s210 jp l17 js jo jG c205 wX wF wK wZ w6 l214 =
 optO (CV.asI .i64 wF) fun mf =>
 bif (decide (mf < 0)) then
 (chkO (room (l214.length + 1) 24) (
 QaN lb n wn jf jb aper3 je ja aseg6 jd aser9 jc jr jp l17 js jo jG (IntKind.wrap .i64 (wi + 1)) (w6 && false) (l214 ++ [[CV.int .i64 7, CV.str (([115, 101, 114, 118, 105, 99, 101, 32] : LB) ++ s210)]])))
 else
 (optO (CV.asI .i64 wF) fun ma =>
 bif (decide (ma ≥ (aper3.length : Int))) then
 (chkO (room (l214.length + 1) 24) (
 QaN lb n wn jf jb aper3 je ja aseg6 jd aser9 jc jr jp l17 js jo jG (IntKind.wrap .i64 (wi + 1)) (w6 && false) (l214 ++ [[CV.int .i64 7, CV.str (([115, 101, 114, 118, 105, 99, 101, 32] : LB) ++ s210)]])))
 else
 (optO (CV.asI .i64 wK) fun mo =>
 bif (decide (mo < 0)) then
 (chkO (room (l214.length + 1) 24) (
 QaN lb n wn jf jb aper3 je ja aseg6 jd aser9 jc jr jp l17 js jo jG (IntKind.wrap .i64 (wi + 1)) (w6 && false) (l214 ++ [[CV.int .i64 7, CV.str (([115, 101, 114, 118, 105, 99, 101, 32] : LB) ++ s210)]])))
 else
 (optO (CV.asI .i64 wK) fun g8 =>
 bif (decide (g8 ≥ (aseg6.length : Int))) then
 (chkO (room (l214.length + 1) 24) (
 QaN lb n wn jf jb aper3 je ja aseg6 jd aser9 jc jr jp l17 js jo jG (IntKind.wrap .i64 (wi + 1)) (w6 && false) (l214 ++ [[CV.int .i64 7, CV.str (([115, 101, 114, 118, 105, 99, 101, 32] : LB) ++ s210)]])))
 else
 (QaN lb n wn jf jb aper3 je ja aseg6 jd aser9 jc jr jp l17 js jo jG (IntKind.wrap .i64 (wi + 1)) w6 l214)))) := (Qai _).trans (by kernel_rfl)
noncomputable def QfU (lb n : Nat) (jf : LB) (jb : Bool) (aper3 : LL) (je : Int) (ja : Bool) (aseg6 : LL) (jd : Bool) (aser9 : LL) (jc : Int) (jr : CV) (jp : Bool) (l17 : LL) (js : CV) (jo : Bool × LL) (jG : CV) (yW : Bool) (vK : LL) : Option CV :=
 hold (E0 lb n 0 989 (sub (B Qac) [1, 1, 1, 1, 1, 1, 1, 1, 1, 1, 1]) (retK Tryz.prog (R Qac) 0 (outK (Qah Tryz.prog Qac))) ⟨fr 122 [(0, .val (.agg [.str jf, .list jb aper3, .int .i64 je, .list ja aseg6, .list jd aser9, .int .i64 jc])), (1, .ptr 0 1 0), (2, .lst true true 61 []), (3, .ptr 0 3 0), (4, .clo Qar [.ptr 0 3 0]), (5, vV jr), (13, .clo Qar [.ptr 0 3 0]), (30, .val (.list jp l17)), (31, .ptr 0 1 1), (32, .val (.list jb aper3)), (33, .ptr 0 1 2), (34, vI je), (35, vV js), (36, .val (.list (jp && jo.2.isEmpty) (l17 ++ jo.2))), (43, .ptr 0 1 3), (44, .val (.list ja aseg6)), (45, vV jG), (46, vV jr)], [bx 122 [(1, some [vS jf, .val (.list jb aper3), vI je, .val (.list ja aseg6), .val (.list jd aser9), vI jc]), (3, some [.lst true yW 61 vK])]], KK⟩)
theorem QhT (lb n : Nat) (jf : LB) (jb : Bool) (aper3 : LL) (je : Int) (ja : Bool) (aseg6 : LL) (jd : Bool) (aser9 : LL) (jc : Int) (jr : CV) (jp : Bool) (l17 : LL) (js : CV) (jo : Bool × LL) (jG : CV) (yW : Bool) (vK : LL) :
 QfU lb n jf jb aper3 je ja aseg6 jd aser9 jc jr jp l17 js jo jG yW vK =
 some (.list yW vK) := (Qai _).trans (by kernel_rfl)
theorem Qev (lb n wn : Nat) (jf : LB) (jb : Bool) (aper3 : LL) (je : Int) (ja : Bool) (aseg6 : LL) (jd : Bool) (aser9 : LL) (jc : Int) (jr : CV) (jp : Bool) (l17 : LL) (js : CV) (jo : Bool × LL) (jG : CV) (wi : Int) (yj : Bool) (l187 : LL) :
 QaN lb n (wn + 1) jf jb aper3 je ja aseg6 jd aser9 jc jr jp l17 js jo jG wi yj l187 =
 bif (decide (wi < (aser9.length : Int))) then
 (optO (atL aser9 wi) fun c205 =>
 chkO (c205.length == 3) (
 optO (c205[0]?) fun wX =>
 optO (c205[1]?) fun wF =>
 optO (c205[2]?) fun wK =>
 optO (C lb n Qck [.int .i64 wi]) fun wZ =>
 optO (CV.asS wZ) fun s210 =>
 chkO (decide (([115, 101, 114, 118, 105, 99, 101, 32] : LB).length + s210.length ≤ 9223372036854775807)) (
 optO (C lb n Qde [wX, .int .i64 4, .int .i64 4]) fun mq =>
 optO (CV.asB mq) fun mC =>
 bif (!mC) then
 (chkO (room (l187.length + 1) 24) (
 Qcc lb n wn jf jb aper3 je ja aseg6 jd aser9 jc jr wi s210 jp l17 js jo jG c205 wX wF wK wZ (yj && false) (l187 ++ [[CV.int .i64 5, CV.str (([115, 101, 114, 118, 105, 99, 101, 32] : LB) ++ s210)]])))
 else
 (Qcc lb n wn jf jb aper3 je ja aseg6 jd aser9 jc jr wi s210 jp l17 js jo jG c205 wX wF wK wZ yj l187))))
 else
 (QfU lb n jf jb aper3 je ja aseg6 jd aser9 jc jr jp l17 js jo jG yj l187) := (Qai _).trans (by kernel_rfl)
theorem QiM (lb n : Nat) (jf : LB) (jb : Bool) (aper3 : LL) (je : Int) (ja : Bool) (aseg6 : LL) (jd : Bool) (aser9 : LL) (jc : Int) (jr : CV) (jp : Bool) (l17 : LL) (js : CV) (jo : Bool × LL) (jG : CV) (vd : Bool) (y7 : LL) :
 Qen lb n jf jb aper3 je ja aseg6 jd aser9 jc jr jp l17 js jo jG vd y7 =
 QaN lb n n jf jb aper3 je ja aseg6 jd aser9 jc jr jp l17 js jo jG 0 vd y7 := (Qai _).trans (by kernel_rfl)
theorem Qep (lb n wu : Nat) (jf : LB) (jb : Bool) (aper3 : LL) (je : Int) (ja : Bool) (aseg6 : LL) (jd : Bool) (aser9 : LL) (jc : Int) (jr : CV) (jp : Bool) (l17 : LL) (js : CV) (jo : Bool × LL) (jG : CV) (wj : Int) (vM : Bool) (vL : LL) :
 Qct lb n (wu + 1) jf jb aper3 je ja aseg6 jd aser9 jc jr jp l17 js jo jG wj vM vL =
 bif (decide (wj < (aseg6.length : Int))) then
 (optO (atL aseg6 wj) fun c95 =>
 chkO (c95.length == 10) (
 optO (c95[0]?) fun wP =>
 optO (c95[1]?) fun wQ =>
 optO (c95[2]?) fun wO =>
 optO (c95[3]?) fun wR =>
 optO (c95[4]?) fun wD =>
 optO (c95[5]?) fun wB =>
 optO (c95[6]?) fun wC =>
 optO (c95[7]?) fun wy =>
 optO (c95[8]?) fun wz =>
 optO (c95[9]?) fun wA =>
 optO (C lb n QaQ [.agg [wP, wQ, wO, wR, wD, wB, wC, wy, wz, wA]]) fun wI =>
 optO (CV.asL wI) fun wJ =>
 Qcp lb n n wu jf jb aper3 je ja aseg6 jd aser9 jc jr wj jp l17 js jo jG c95 wP wQ wO wR wD wB wC wy wz wA wI wJ 0 vM vL))
 else
 (Qen lb n jf jb aper3 je ja aseg6 jd aser9 jc jr jp l17 js jo jG vM vL) := (Qai _).trans (by kernel_rfl)
theorem QiO (lb n : Nat) (jf : LB) (jb : Bool) (aper3 : LL) (je : Int) (ja : Bool) (aseg6 : LL) (jd : Bool) (aser9 : LL) (jc : Int) (jr : CV) (jp : Bool) (l17 : LL) (js : CV) (jo : Bool × LL) (jG : CV) (yH : Bool) (v8 : LL) :
 Qco lb n jf jb aper3 je ja aseg6 jd aser9 jc jr jp l17 js jo jG yH v8 =
 Qct lb n n jf jb aper3 je ja aseg6 jd aser9 jc jr jp l17 js jo jG 0 yH v8 := (Qai _).trans (by kernel_rfl)
theorem QiJ (lb n : Nat) (jf : LB) (jb : Bool) (aper3 : LL) (je : Int) (ja : Bool) (aseg6 : LL) (jd : Bool) (aser9 : LL) (jc : Int) (jp : Bool) (l17 : LL) (js : CV) (jo : Bool × LL) (yw : Bool) (l21 : LL) :
 Qbw lb n jf jb aper3 je ja aseg6 jd aser9 jc jp l17 js jo yw l21 =
 optO (C lb n QaD [.list ja aseg6]) fun jG =>
 optO (C lb n QaB [jG]) fun jr =>
 optO (CV.asI .i64 jr) fun nT =>
 bif (nT != 0) then
 (chkO (CV.isCell jr) (
 chkO (room (l21.length + 1) 24) (
 Qco lb n jf jb aper3 je ja aseg6 jd aser9 jc jr jp l17 js jo jG (yw && false) (l21 ++ [[jr, CV.str [115, 101, 103, 115]]]))))
 else
 (Qco lb n jf jb aper3 je ja aseg6 jd aser9 jc jr jp l17 js jo jG yw l21) := (Qai _).trans (by kernel_rfl)
theorem QiL (lb n : Nat) (jf : LB) (jb : Bool) (aper3 : LL) (je : Int) (ja : Bool) (aseg6 : LL) (jd : Bool) (aser9 : LL) (jc : Int) (jp : Bool) (l17 : LL) :
 Qbv lb n jf jb aper3 je ja aseg6 jd aser9 jc jp l17 =
 optO (C lb n Qaz [.list jb aper3, .int .i64 je]) fun js =>
 optO (CV.asL js) fun jo =>
 chkO (jo.2.all (·.length == 2)) (
 chkO (room (l17.length + jo.2.length) 24) (
 bif (decide ((aseg6.length : Int) > 24)) then
 (chkO (room ((l17 ++ jo.2).length + 1) 24) (
 Qbw lb n jf jb aper3 je ja aseg6 jd aser9 jc jp l17 js jo ((jp && jo.2.isEmpty) && false) ((l17 ++ jo.2) ++ [[CV.int .i64 4, CV.str [115, 101, 103, 115]]])))
 else
 (Qbw lb n jf jb aper3 je ja aseg6 jd aser9 jc jp l17 js jo (jp && jo.2.isEmpty) (l17 ++ jo.2)))) := (Qai _).trans (by kernel_rfl)
theorem QiP (lb n : Nat) (jf : LB) (jb : Bool) (aper3 : LL) (je : Int) (ja : Bool) (aseg6 : LL) (jd : Bool) (aser9 : LL) (jc : Int) (wT : Bool) (l14 : LL) :
 booking_Check_J1 lb n jf jb aper3 je ja aseg6 jd aser9 jc wT l14 =
 bif (decide (jc < 0)) then
 (chkO (room (l14.length + 1) 24) (
 Qbv lb n jf jb aper3 je ja aseg6 jd aser9 jc (wT && false) (l14 ++ [[CV.int .i64 13, CV.str [108, 105, 109, 105, 116]]])))
 else
 (bif (decide (jc ≥ 52596000)) then
 (chkO (room (l14.length + 1) 24) (
 Qbv lb n jf jb aper3 je ja aseg6 jd aser9 jc (wT && false) (l14 ++ [[CV.int .i64 13, CV.str [108, 105, 109, 105, 116]]])))
 else
 (Qbv lb n jf jb aper3 je ja aseg6 jd aser9 jc wT l14)) := (Qai _).trans (by kernel_rfl)
theorem QkE (lb n : Nat) (jf : LB) (jb : Bool) (aper3 : LL) (je : Int) (ja : Bool) (aseg6 : LL) (jd : Bool) (aser9 : LL) (jc : Int) :
 top lb n Qac [.agg [.str jf, .list jb aper3, .int .i64 je, .list ja aseg6, .list jd aser9, .int .i64 jc]] =
 optO (C lb n QdS [.str jf]) fun mW =>
 optO (CV.asB mW) fun b12 =>
 bif (!b12) then
 (booking_Check_J1 lb n jf jb aper3 je ja aseg6 jd aser9 jc false [[CV.int .i64 5, CV.str [108, 111, 99, 97, 116, 111, 114]]])
 else
 (booking_Check_J1 lb n jf jb aper3 je ja aseg6 jd aser9 jc true []) := by kernel_rfl
end Go.Proofs
