/- Equations of functions, printed by program. Conditions: none. -/
import Derived.Test.YtigmcfhmpcajlaaGreatDoorEv
namespace Go.Proofs
open Go.Am
set_option maxRecDepth 100000
set_option linter.unusedVariables false
noncomputable def booking_Change_J1 :=
 fun lb n aloc1 (ja : Bool) (aper3 : LL) je (jb : Bool) (aseg6 : LL) (jd : Bool) (aser9 : LL) jc jo c12 jH jE (yp : Bool) (l33 : LL) yt yi yj =>
 hold (E0 lb n 0 995 (sub (B Qab) [1, 1, 1, 1, 1]) (retK Tryz.prog (R Qab) 0 (outK (Qae Tryz.prog Qab))) ⟨fr 101 [(0, .val (.agg [.str aloc1, .list ja aper3, .int .i64 je, .list jb aseg6, .list jd aser9, .int .i64 jc])), (1, vI jo), (2, vI c12), (3, .ptr 0 3 0), (6, .ptr 0 6 0), (7, .lst true true 3 []), (8, vI 0), (9, vV jH), (10, vV jE), (11, .val (.list yp l33)), (12, vV yt), (13, vV yi), (43, vI jo), (44, .val (.list false [[CV.int .i64 jo]]))], [bx 102 [(3, some [vS aloc1, .val (.list ja aper3), vI je, .val (.list jb aseg6), .val (.list jd aser9), vI jc]), (6, some [.val (.str []), .lst true true 89 [], vI 0, .lst true true 39 [], .lst true true 70 [], vI 0]), (101, some [.val yj])]], KK⟩)
noncomputable def Qm0 (lb n zR : Nat) (aloc1 : LB) (ja : Bool) (aper3 : LL) (je : Int) (jb : Bool) (aseg6 : LL) (jd : Bool) (aser9 : LL) (jc jo c12 : Int) (jH jE : CV) (yp : Bool) (l33 : LL) (yt yi yj : CV) : Option CV :=
 hold (Qau (E0 lb n 0 990) 0 (Qaj (sub (B Qab) [1, 1, 1, 1, 1, 1, 0, 1, 0, 0]) ++ [15, 16, 17]) [] (sub (B Qab) [1, 1, 1, 1, 1, 1, 0, 1, 0, 0]) (Qal 0 (seqK (E0 lb n 0 993) (sub (B Qab) [1, 1, 1, 1, 1, 1, 0]) (sub (B Qab) [1, 1, 1, 1, 1, 1, 1]) (retK Tryz.prog (R Qab) 0 (outK (Qae Tryz.prog Qab))))) zR ⟨fr 101 [(0, .val (.agg [.str aloc1, .list ja aper3, .int .i64 je, .list jb aseg6, .list jd aser9, .int .i64 jc])), (1, vI jo), (2, vI c12), (3, .ptr 0 3 0), (6, .ptr 0 6 0), (7, .lst true true 3 []), (8, vI 0), (9, vV jH), (10, vV jE), (11, .val (.list yp l33)), (12, vV yt), (13, vV yi), (43, vI jo), (44, .val (.list false [[CV.int .i64 jo]])), (68, .ptr 0 3 3), (69, .val (.list jb aseg6)), (70, .val (.list true [])), (71, .ptr 0 3 3), (72, .val (.list yp l33)), (73, .val (.int .i64 (l33.length : Int))), (74, vI 0)], [bx 102 [(3, some [vS aloc1, .val (.list ja aper3), vI je, .val (.list true []), .val (.list jd aser9), vI jc]), (6, some [.val (.str []), .lst true true 89 [], vI 0, .lst true true 39 [], .lst true true 70 [], vI 0]), (101, some [.val yj])]], KK⟩)
noncomputable def QmX (lb n lq : Nat) (aloc1 : LB) (ja : Bool) (aper3 : LL) (je : Int) (jb : Bool) (aseg6 : LL) (jd : Bool) (aser9 : LL) (jc jo c12 : Int) (jH jE : CV) (yp : Bool) (l33 : LL) (yt yi yj : CV) : Option CV :=
 hold (Qau (E0 lb n 0 990) 0 (Qaj (sub (B Qab) [1, 1, 1, 1, 1, 1, 0, 1, 0, 0]) ++ [15, 16, 17]) [] (sub (B Qab) [1, 1, 1, 1, 1, 1, 0, 1, 0, 0]) (Qal 0 (seqK (E0 lb n 0 993) (sub (B Qab) [1, 1, 1, 1, 1, 1, 0]) (sub (B Qab) [1, 1, 1, 1, 1, 1, 1]) (retK Tryz.prog (R Qab) 0 (outK (Qae Tryz.prog Qab))))) lq ⟨fr 101 [(0, .val (.agg [.str aloc1, .list ja aper3, .int .i64 je, .list jb aseg6, .list jd aser9, .int .i64 jc])), (1, vI jo), (2, vI c12), (3, .ptr 0 3 0), (6, .ptr 0 6 0), (7, .lst true true 3 []), (8, vI 0), (9, vV jH), (10, vV jE), (11, .val (.list yp l33)), (12, vV yt), (13, vV yi), (43, vI jo), (44, .val (.list false [[CV.int .i64 jo]])), (68, .ptr 0 3 3), (69, .val (.list jb aseg6)), (70, .val (.list false [])), (71, .ptr 0 3 3), (72, .val (.list yp l33)), (73, .val (.int .i64 (l33.length : Int))), (74, vI 0)], [bx 102 [(3, some [vS aloc1, .val (.list ja aper3), vI je, .val (.list false []), .val (.list jd aser9), vI jc]), (6, some [.val (.str []), .lst true true 89 [], vI 0, .lst true true 39 [], .lst true true 70 [], vI 0]), (101, some [.val yj])]], KK⟩)
noncomputable def QdW (lb n oj : Nat) (aloc1 : LB) (ja : Bool) (aper3 : LL) (je : Int) (jb : Bool) (aseg6 : LL) (jd : Bool) (aser9 : LL) (jc jo c12 : Int) (jH jE : CV) (yp : Bool) (l33 : LL) (yt yi yj : CV) (vq : Int) (vK : LL) : Option CV :=
 hold (Qau (E0 lb n 0 990) 0 (Qaj (sub (B Qab) [1, 1, 1, 1, 1, 1, 0, 1, 0, 0]) ++ [15, 16, 17]) [] (sub (B Qab) [1, 1, 1, 1, 1, 1, 0, 1, 0, 0]) (Qal 0 (seqK (E0 lb n 0 993) (sub (B Qab) [1, 1, 1, 1, 1, 1, 0]) (sub (B Qab) [1, 1, 1, 1, 1, 1, 1]) (retK Tryz.prog (R Qab) 0 (outK (Qae Tryz.prog Qab))))) oj ⟨fr 101 [(0, .val (.agg [.str aloc1, .list ja aper3, .int .i64 je, .list jb aseg6, .list jd aser9, .int .i64 jc])), (1, vI jo), (2, vI c12), (3, .ptr 0 3 0), (6, .ptr 0 6 0), (7, .lst true true 3 []), (8, vI 0), (9, vV jH), (10, vV jE), (11, .val (.list yp l33)), (12, vV yt), (13, vV yi), (43, vI jo), (44, .val (.list false [[CV.int .i64 jo]])), (68, .ptr 0 3 3), (69, .val (.list jb aseg6)), (70, .rsl 39 0 102 0 aseg6.length aseg6.length), (71, .ptr 0 3 3), (72, .val (.list yp l33)), (73, .val (.int .i64 (l33.length : Int))), (74, vI vq)], [bx 103 [(3, some [vS aloc1, .val (.list ja aper3), vI je, .rsl 39 0 102 0 aseg6.length aseg6.length, .val (.list jd aser9), vI jc]), (6, some [.val (.str []), .lst true true 89 [], vI 0, .lst true true 39 [], .lst true true 70 [], vI 0]), (101, some [.val yj]), (102, some [.row 39 vK])]], KK⟩)
noncomputable def Qic (lb n : Nat) (aloc1 : LB) (ja : Bool) (aper3 : LL) (je : Int) (jb : Bool) (aseg6 : LL) (jd : Bool) (aser9 : LL) (jc jo c12 : Int) (jH jE : CV) (yp : Bool) (l33 : LL) (yt yi yj : CV) (l134 : LL) : Option CV :=
 hold (E0 lb n 0 993 (sub (B Qab) [1, 1, 1, 1, 1, 1, 1]) (retK Tryz.prog (R Qab) 0 (outK (Qae Tryz.prog Qab))) ⟨fr 101 [(0, .val (.agg [.str aloc1, .list ja aper3, .int .i64 je, .list jb aseg6, .list jd aser9, .int .i64 jc])), (1, vI jo), (2, vI c12), (3, .ptr 0 3 0), (6, .ptr 0 6 0), (7, .lst true true 3 []), (8, vI 0), (9, vV jH), (10, vV jE), (11, .val (.list yp l33)), (12, vV yt), (13, vV yi), (43, vI jo), (44, .val (.list false [[CV.int .i64 jo]])), (68, .ptr 0 3 3), (69, .val (.list jb aseg6)), (70, .rsl 39 0 102 0 aseg6.length aseg6.length), (71, .ptr 0 3 3)], [bx 103 [(3, some [vS aloc1, .val (.list ja aper3), vI je, .rsl 39 0 102 0 aseg6.length aseg6.length, .val (.list jd aser9), vI jc]), (6, some [.val (.str []), .lst true true 89 [], vI 0, .lst true true 39 [], .lst true true 70 [], vI 0]), (101, some [.val yj]), (102, some [.row 39 l134])]], KK⟩)
theorem QkI (lb n : Nat) (aloc1 : LB) (ja : Bool) (aper3 : LL) (je : Int) (jb : Bool) (aseg6 : LL) (jd : Bool) (aser9 : LL) (jc jo c12 : Int) (jH jE : CV) (yp : Bool) (l33 : LL) (yt yi yj : CV) (l134 : LL) :
 Qic lb n aloc1 ja aper3 je jb aseg6 jd aser9 jc jo c12 jH jE yp l33 yt yi yj l134 =
 chkO (decide ((0 + aseg6.length) ≤ l134.length)) (
 some (.tup [.agg [.str aloc1, .list ja aper3, .int .i64 je, .list false ((l134.drop 0).take aseg6.length), .list jd aser9, .int .i64 jc], .list yp l33, .int .i64 0])) := (Qaf _).trans (by kernel_rfl)
theorem Qfx (lb n oj : Nat) (aloc1 : LB) (ja : Bool) (aper3 : LL) (je : Int) (jb : Bool) (aseg6 : LL) (jd : Bool) (aser9 : LL) (jc jo c12 : Int) (jH jE : CV) (yp : Bool) (l33 : LL) (yt yi yj : CV) (vq : Int) (vK : LL) :
 QdW lb n (oj + 1) aloc1 ja aper3 je jb aseg6 jd aser9 jc jo c12 jH jE yp l33 yt yi yj vq vK =
 bif (decide (vq < (l33.length : Int))) then
 (optO (atL l33 vq) fun c121 =>
 chkO (c121.length == 1) (
 optO (c121[0]?) fun mF =>
 optO (CV.asN mF) fun i123 =>
 chkO ((decide (0 ≤ (i123 : Int))) && (decide ((i123 : Int) < ((aseg6.length : Nat) : Int)))) (
 optO (vK[0 + i123.toNat]?) fun sa =>
 optO (sa[8]?) fun og =>
 optO (C lb n Qdz [og, .int .i64 c12]) fun m6 =>
 optO (CV.asT m6) fun t127 =>
 optO (t127[0]?) fun vL =>
 optO (CV.asT m6) fun sx =>
 optO (sx[1]?) fun y6 =>
 optO (CV.asI .i64 y6) fun nQ =>
 bif (nQ != 0) then
 (some (.tup [.agg [.str [], .list true [], .int .i64 0, .list true [], .list true [], .int .i64 0], .list true [], .int .i64 18]))
 else
 (optO (CV.asN mF) fun i132 =>
 chkO ((decide (0 ≤ (i132 : Int))) && (decide ((i132 : Int) < ((aseg6.length : Nat) : Int)))) (
 chkO (CV.isCell vL) (
 optO (vK[0 + i132.toNat]?) fun c133 =>
 chkO (decide ((9 : Nat) ≤ c133.length)) (
 QdW lb n oj aloc1 ja aper3 je jb aseg6 jd aser9 jc jo c12 jH jE yp l33 yt yi yj (IntKind.wrap .i64 (vq + 1)) (setN vK (0 + i132.toNat) (QbO c133 8 [vL])))))))))
 else
 (Qic lb n aloc1 ja aper3 je jb aseg6 jd aser9 jc jo c12 jH jE yp l33 yt yi yj vK) := (Qaf _).trans (by kernel_rfl)
theorem QkH (lb n : Nat) (aloc1 : LB) (ja : Bool) (aper3 : LL) (je : Int) (jb : Bool) (aseg6 : LL) (jd : Bool) (aser9 : LL) (jc jo c12 : Int) (jH jE : CV) (yp : Bool) (l33 : LL) (yt yi yj : CV) :
 booking_Change_J1 lb n aloc1 ja aper3 je jb aseg6 jd aser9 jc jo c12 jH jE yp l33 yt yi yj =
 bif jb then
 (Qm0 lb n n aloc1 ja aper3 je jb aseg6 jd aser9 jc jo c12 jH jE yp l33 yt yi yj )
 else
 (chkO (aseg6.all (·.length == 10)) (
 chkO (room aseg6.length 112) (
 bif aseg6.isEmpty then
 (QmX lb n n aloc1 ja aper3 je jb aseg6 jd aser9 jc jo c12 jH jE yp l33 yt yi yj )
 else
 (QdW lb n n aloc1 ja aper3 je jb aseg6 jd aser9 jc jo c12 jH jE yp l33 yt yi yj 0 aseg6)))) := (Qaf _).trans (by kernel_rfl)
noncomputable def Qfl (lb n : Nat) (aloc1 : LB) (ja : Bool) (aper3 : LL) (je : Int) (jb : Bool) (aseg6 : LL) (jd : Bool) (aser9 : LL) (jc jo c12 : Int) (jH jE wu wP : CV) : Option CV :=
 hold (E0 lb n 0 995 (sub (B Qab) [1, 1, 1, 1, 1]) (retK Tryz.prog (R Qab) 0 (outK (Qae Tryz.prog Qab))) ⟨fr 101 [(0, .val (.agg [.str aloc1, .list ja aper3, .int .i64 je, .list jb aseg6, .list jd aser9, .int .i64 jc])), (1, vI jo), (2, vI c12), (3, .ptr 0 3 0), (6, .ptr 0 6 0), (7, .lst true true 3 []), (8, vI 0), (9, vV jH), (10, vV jE), (11, .lst true false 3 [[CV.int .i64 jo]]), (12, vV wu), (13, vV wP), (43, vI jo), (44, .val (.list false [[CV.int .i64 jo]]))], [bx 101 [(3, some [vS aloc1, .val (.list ja aper3), vI je, .val (.list jb aseg6), .val (.list jd aser9), vI jc]), (6, some [.val (.str []), .lst true true 89 [], vI 0, .lst true true 39 [], .lst true true 70 [], vI 0])]], KK⟩)
noncomputable def QmN (lb n sq : Nat) (aloc1 : LB) (ja : Bool) (aper3 : LL) (je : Int) (jb : Bool) (aseg6 : LL) (jd : Bool) (aser9 : LL) (jc jo c12 : Int) (jH jE wu wP : CV) : Option CV :=
 hold (Qau (E0 lb n 0 990) 0 (Qaj (sub (B Qab) [1, 1, 1, 1, 1, 1, 0, 1, 0, 0]) ++ [15, 16, 17]) [] (sub (B Qab) [1, 1, 1, 1, 1, 1, 0, 1, 0, 0]) (Qal 0 (seqK (E0 lb n 0 993) (sub (B Qab) [1, 1, 1, 1, 1, 1, 0]) (sub (B Qab) [1, 1, 1, 1, 1, 1, 1]) (retK Tryz.prog (R Qab) 0 (outK (Qae Tryz.prog Qab))))) sq ⟨fr 101 [(0, .val (.agg [.str aloc1, .list ja aper3, .int .i64 je, .list jb aseg6, .list jd aser9, .int .i64 jc])), (1, vI jo), (2, vI c12), (3, .ptr 0 3 0), (6, .ptr 0 6 0), (7, .lst true true 3 []), (8, vI 0), (9, vV jH), (10, vV jE), (11, .lst true false 3 [[CV.int .i64 jo]]), (12, vV wu), (13, vV wP), (43, vI jo), (44, .val (.list false [[CV.int .i64 jo]])), (68, .ptr 0 3 3), (69, .val (.list jb aseg6)), (70, .val (.list true [])), (71, .ptr 0 3 3), (72, .val (.list false [[CV.int .i64 jo]])), (73, vI 1), (74, vI 0)], [bx 101 [(3, some [vS aloc1, .val (.list ja aper3), vI je, .val (.list true []), .val (.list jd aser9), vI jc]), (6, some [.val (.str []), .lst true true 89 [], vI 0, .lst true true 39 [], .lst true true 70 [], vI 0])]], KK⟩)
noncomputable def Qmn (lb n n5 : Nat) (aloc1 : LB) (ja : Bool) (aper3 : LL) (je : Int) (jb : Bool) (aseg6 : LL) (jd : Bool) (aser9 : LL) (jc jo c12 : Int) (jH jE wu wP : CV) : Option CV :=
 hold (Qau (E0 lb n 0 990) 0 (Qaj (sub (B Qab) [1, 1, 1, 1, 1, 1, 0, 1, 0, 0]) ++ [15, 16, 17]) [] (sub (B Qab) [1, 1, 1, 1, 1, 1, 0, 1, 0, 0]) (Qal 0 (seqK (E0 lb n 0 993) (sub (B Qab) [1, 1, 1, 1, 1, 1, 0]) (sub (B Qab) [1, 1, 1, 1, 1, 1, 1]) (retK Tryz.prog (R Qab) 0 (outK (Qae Tryz.prog Qab))))) n5 ⟨fr 101 [(0, .val (.agg [.str aloc1, .list ja aper3, .int .i64 je, .list jb aseg6, .list jd aser9, .int .i64 jc])), (1, vI jo), (2, vI c12), (3, .ptr 0 3 0), (6, .ptr 0 6 0), (7, .lst true true 3 []), (8, vI 0), (9, vV jH), (10, vV jE), (11, .lst true false 3 [[CV.int .i64 jo]]), (12, vV wu), (13, vV wP), (43, vI jo), (44, .val (.list false [[CV.int .i64 jo]])), (68, .ptr 0 3 3), (69, .val (.list jb aseg6)), (70, .val (.list false [])), (71, .ptr 0 3 3), (72, .val (.list false [[CV.int .i64 jo]])), (73, vI 1), (74, vI 0)], [bx 101 [(3, some [vS aloc1, .val (.list ja aper3), vI je, .val (.list false []), .val (.list jd aser9), vI jc]), (6, some [.val (.str []), .lst true true 89 [], vI 0, .lst true true 39 [], .lst true true 70 [], vI 0])]], KK⟩)
noncomputable def QdE (lb n kX : Nat) (aloc1 : LB) (ja : Bool) (aper3 : LL) (je : Int) (jb : Bool) (aseg6 : LL) (jd : Bool) (aser9 : LL) (jc jo c12 : Int) (jH jE wu wP : CV) (ka : Int) (vP : LL) : Option CV :=
 hold (Qau (E0 lb n 0 990) 0 (Qaj (sub (B Qab) [1, 1, 1, 1, 1, 1, 0, 1, 0, 0]) ++ [15, 16, 17]) [] (sub (B Qab) [1, 1, 1, 1, 1, 1, 0, 1, 0, 0]) (Qal 0 (seqK (E0 lb n 0 993) (sub (B Qab) [1, 1, 1, 1, 1, 1, 0]) (sub (B Qab) [1, 1, 1, 1, 1, 1, 1]) (retK Tryz.prog (R Qab) 0 (outK (Qae Tryz.prog Qab))))) kX ⟨fr 101 [(0, .val (.agg [.str aloc1, .list ja aper3, .int .i64 je, .list jb aseg6, .list jd aser9, .int .i64 jc])), (1, vI jo), (2, vI c12), (3, .ptr 0 3 0), (6, .ptr 0 6 0), (7, .lst true true 3 []), (8, vI 0), (9, vV jH), (10, vV jE), (11, .lst true false 3 [[CV.int .i64 jo]]), (12, vV wu), (13, vV wP), (43, vI jo), (44, .val (.list false [[CV.int .i64 jo]])), (68, .ptr 0 3 3), (69, .val (.list jb aseg6)), (70, .rsl 39 0 101 0 aseg6.length aseg6.length), (71, .ptr 0 3 3), (72, .val (.list false [[CV.int .i64 jo]])), (73, vI 1), (74, vI ka)], [bx 102 [(3, some [vS aloc1, .val (.list ja aper3), vI je, .rsl 39 0 101 0 aseg6.length aseg6.length, .val (.list jd aser9), vI jc]), (6, some [.val (.str []), .lst true true 89 [], vI 0, .lst true true 39 [], .lst true true 70 [], vI 0]), (101, some [.row 39 vP])]], KK⟩)
noncomputable def QhF (lb n : Nat) (aloc1 : LB) (ja : Bool) (aper3 : LL) (je : Int) (jb : Bool) (aseg6 : LL) (jd : Bool) (aser9 : LL) (jc jo c12 : Int) (jH jE wu wP : CV) (l213 : LL) : Option CV :=
 hold (E0 lb n 0 993 (sub (B Qab) [1, 1, 1, 1, 1, 1, 1]) (retK Tryz.prog (R Qab) 0 (outK (Qae Tryz.prog Qab))) ⟨fr 101 [(0, .val (.agg [.str aloc1, .list ja aper3, .int .i64 je, .list jb aseg6, .list jd aser9, .int .i64 jc])), (1, vI jo), (2, vI c12), (3, .ptr 0 3 0), (6, .ptr 0 6 0), (7, .lst true true 3 []), (8, vI 0), (9, vV jH), (10, vV jE), (11, .lst true false 3 [[CV.int .i64 jo]]), (12, vV wu), (13, vV wP), (43, vI jo), (44, .val (.list false [[CV.int .i64 jo]])), (68, .ptr 0 3 3), (69, .val (.list jb aseg6)), (70, .rsl 39 0 101 0 aseg6.length aseg6.length), (71, .ptr 0 3 3)], [bx 102 [(3, some [vS aloc1, .val (.list ja aper3), vI je, .rsl 39 0 101 0 aseg6.length aseg6.length, .val (.list jd aser9), vI jc]), (6, some [.val (.str []), .lst true true 89 [], vI 0, .lst true true 39 [], .lst true true 70 [], vI 0]), (101, some [.row 39 l213])]], KK⟩)
theorem Qkb (lb n : Nat) (aloc1 : LB) (ja : Bool) (aper3 : LL) (je : Int) (jb : Bool) (aseg6 : LL) (jd : Bool) (aser9 : LL) (jc jo c12 : Int) (jH jE wu wP : CV) (l213 : LL) :
 QhF lb n aloc1 ja aper3 je jb aseg6 jd aser9 jc jo c12 jH jE wu wP l213 =
 chkO (decide ((0 + aseg6.length) ≤ l213.length)) (
 some (.tup [.agg [.str aloc1, .list ja aper3, .int .i64 je, .list false ((l213.drop 0).take aseg6.length), .list jd aser9, .int .i64 jc], .list false [[CV.int .i64 jo]], .int .i64 0])) := (Qaf _).trans (by kernel_rfl)
theorem Qfi (lb n kX : Nat) (aloc1 : LB) (ja : Bool) (aper3 : LL) (je : Int) (jb : Bool) (aseg6 : LL) (jd : Bool) (aser9 : LL) (jc jo c12 : Int) (jH jE wu wP : CV) (ka : Int) (vP : LL) :
 QdE lb n (kX + 1) aloc1 ja aper3 je jb aseg6 jd aser9 jc jo c12 jH jE wu wP ka vP =
 bif (decide (ka < 1)) then
 (optO (atL [[CV.int .i64 jo]] ka) fun c200 =>
 chkO (c200.length == 1) (
 optO (c200[0]?) fun mJ =>
 optO (CV.asN mJ) fun i202 =>
 chkO ((decide (0 ≤ (i202 : Int))) && (decide ((i202 : Int) < ((aseg6.length : Nat) : Int)))) (
 optO (vP[0 + i202.toNat]?) fun c203 =>
 optO (c203[8]?) fun yP =>
 optO (C lb n Qdz [yP, .int .i64 c12]) fun mC =>
 optO (CV.asT mC) fun pU =>
 optO (pU[0]?) fun yz =>
 optO (CV.asT mC) fun qM =>
 optO (qM[1]?) fun pZ =>
 optO (CV.asI .i64 pZ) fun i210 =>
 bif (i210 != 0) then
 (some (.tup [.agg [.str [], .list true [], .int .i64 0, .list true [], .list true [], .int .i64 0], .list true [], .int .i64 18]))
 else
 (optO (CV.asN mJ) fun i211 =>
 chkO ((decide (0 ≤ (i211 : Int))) && (decide ((i211 : Int) < ((aseg6.length : Nat) : Int)))) (
 chkO (CV.isCell yz) (
 optO (vP[0 + i211.toNat]?) fun c212 =>
 chkO (decide ((9 : Nat) ≤ c212.length)) (
 QdE lb n kX aloc1 ja aper3 je jb aseg6 jd aser9 jc jo c12 jH jE wu wP (IntKind.wrap .i64 (ka + 1)) (setN vP (0 + i211.toNat) (QbO c212 8 [yz])))))))))
 else
 (QhF lb n aloc1 ja aper3 je jb aseg6 jd aser9 jc jo c12 jH jE wu wP vP) := (Qaf _).trans (by kernel_rfl)
theorem Qky (lb n : Nat) (aloc1 : LB) (ja : Bool) (aper3 : LL) (je : Int) (jb : Bool) (aseg6 : LL) (jd : Bool) (aser9 : LL) (jc jo c12 : Int) (jH jE wu wP : CV) :
 Qfl lb n aloc1 ja aper3 je jb aseg6 jd aser9 jc jo c12 jH jE wu wP =
 bif jb then
 (QmN lb n n aloc1 ja aper3 je jb aseg6 jd aser9 jc jo c12 jH jE wu wP )
 else
 (chkO (aseg6.all (·.length == 10)) (
 chkO (room aseg6.length 112) (
 bif aseg6.isEmpty then
 (Qmn lb n n aloc1 ja aper3 je jb aseg6 jd aser9 jc jo c12 jH jE wu wP )
 else
 (QdE lb n n aloc1 ja aper3 je jb aseg6 jd aser9 jc jo c12 jH jE wu wP 0 aseg6)))) := (Qaf _).trans (by kernel_rfl)
noncomputable def QcT (lb n : Nat) (aloc1 : LB) (ja : Bool) (aper3 : LL) (je : Int) (jb : Bool) (aseg6 : LL) (jd : Bool) (aser9 : LL) (jc jo c12 : Int) (jH jE : CV) : Option CV :=
 hold (E0 lb n 0 995 (sub (B Qab) [1, 1, 1, 1, 1]) (retK Tryz.prog (R Qab) 0 (outK (Qae Tryz.prog Qab))) ⟨fr 101 [(0, .val (.agg [.str aloc1, .list ja aper3, .int .i64 je, .list jb aseg6, .list jd aser9, .int .i64 jc])), (1, vI jo), (2, vI c12), (3, .ptr 0 3 0), (6, .ptr 0 6 0), (7, .lst true true 3 []), (8, vI 0), (9, vV jH), (10, vV jE), (11, .lst true false 3 [[CV.int .i64 jo]]), (43, vI jo), (44, .val (.list false [[CV.int .i64 jo]]))], [bx 101 [(3, some [vS aloc1, .val (.list ja aper3), vI je, .val (.list jb aseg6), .val (.list jd aser9), vI jc]), (6, some [.val (.str []), .lst true true 89 [], vI 0, .lst true true 39 [], .lst true true 70 [], vI 0])]], KK⟩)
noncomputable def QlZ (lb n wU : Nat) (aloc1 : LB) (ja : Bool) (aper3 : LL) (je : Int) (jb : Bool) (aseg6 : LL) (jd : Bool) (aser9 : LL) (jc jo c12 : Int) (jH jE : CV) : Option CV :=
 hold (Qau (E0 lb n 0 990) 0 (Qaj (sub (B Qab) [1, 1, 1, 1, 1, 1, 0, 1, 0, 0]) ++ [15, 16, 17]) [] (sub (B Qab) [1, 1, 1, 1, 1, 1, 0, 1, 0, 0]) (Qal 0 (seqK (E0 lb n 0 993) (sub (B Qab) [1, 1, 1, 1, 1, 1, 0]) (sub (B Qab) [1, 1, 1, 1, 1, 1, 1]) (retK Tryz.prog (R Qab) 0 (outK (Qae Tryz.prog Qab))))) wU ⟨fr 101 [(0, .val (.agg [.str aloc1, .list ja aper3, .int .i64 je, .list jb aseg6, .list jd aser9, .int .i64 jc])), (1, vI jo), (2, vI c12), (3, .ptr 0 3 0), (6, .ptr 0 6 0), (7, .lst true true 3 []), (8, vI 0), (9, vV jH), (10, vV jE), (11, .lst true false 3 [[CV.int .i64 jo]]), (43, vI jo), (44, .val (.list false [[CV.int .i64 jo]])), (68, .ptr 0 3 3), (69, .val (.list jb aseg6)), (70, .val (.list true [])), (71, .ptr 0 3 3), (72, .val (.list false [[CV.int .i64 jo]])), (73, vI 1), (74, vI 0)], [bx 101 [(3, some [vS aloc1, .val (.list ja aper3), vI je, .val (.list true []), .val (.list jd aser9), vI jc]), (6, some [.val (.str []), .lst true true 89 [], vI 0, .lst true true 39 [], .lst true true 70 [], vI 0])]], KK⟩)
noncomputable def Qmm (lb n qa : Nat) (aloc1 : LB) (ja : Bool) (aper3 : LL) (je : Int) (jb : Bool) (aseg6 : LL) (jd : Bool) (aser9 : LL) (jc jo c12 : Int) (jH jE : CV) : Option CV :=
 hold (Qau (E0 lb n 0 990) 0 (Qaj (sub (B Qab) [1, 1, 1, 1, 1, 1, 0, 1, 0, 0]) ++ [15, 16, 17]) [] (sub (B Qab) [1, 1, 1, 1, 1, 1, 0, 1, 0, 0]) (Qal 0 (seqK (E0 lb n 0 993) (sub (B Qab) [1, 1, 1, 1, 1, 1, 0]) (sub (B Qab) [1, 1, 1, 1, 1, 1, 1]) (retK Tryz.prog (R Qab) 0 (outK (Qae Tryz.prog Qab))))) qa ⟨fr 101 [(0, .val (.agg [.str aloc1, .list ja aper3, .int .i64 je, .list jb aseg6, .list jd aser9, .int .i64 jc])), (1, vI jo), (2, vI c12), (3, .ptr 0 3 0), (6, .ptr 0 6 0), (7, .lst true true 3 []), (8, vI 0), (9, vV jH), (10, vV jE), (11, .lst true false 3 [[CV.int .i64 jo]]), (43, vI jo), (44, .val (.list false [[CV.int .i64 jo]])), (68, .ptr 0 3 3), (69, .val (.list jb aseg6)), (70, .val (.list false [])), (71, .ptr 0 3 3), (72, .val (.list false [[CV.int .i64 jo]])), (73, vI 1), (74, vI 0)], [bx 101 [(3, some [vS aloc1, .val (.list ja aper3), vI je, .val (.list false []), .val (.list jd aser9), vI jc]), (6, some [.val (.str []), .lst true true 89 [], vI 0, .lst true true 39 [], .lst true true 70 [], vI 0])]], KK⟩)
noncomputable def QdM (lb n oq : Nat) (aloc1 : LB) (ja : Bool) (aper3 : LL) (je : Int) (jb : Bool) (aseg6 : LL) (jd : Bool) (aser9 : LL) (jc jo c12 : Int) (jH jE : CV) (v6 : Int) (vO : LL) : Option CV :=
 hold (Qau (E0 lb n 0 990) 0 (Qaj (sub (B Qab) [1, 1, 1, 1, 1, 1, 0, 1, 0, 0]) ++ [15, 16, 17]) [] (sub (B Qab) [1, 1, 1, 1, 1, 1, 0, 1, 0, 0]) (Qal 0 (seqK (E0 lb n 0 993) (sub (B Qab) [1, 1, 1, 1, 1, 1, 0]) (sub (B Qab) [1, 1, 1, 1, 1, 1, 1]) (retK Tryz.prog (R Qab) 0 (outK (Qae Tryz.prog Qab))))) oq ⟨fr 101 [(0, .val (.agg [.str aloc1, .list ja aper3, .int .i64 je, .list jb aseg6, .list jd aser9, .int .i64 jc])), (1, vI jo), (2, vI c12), (3, .ptr 0 3 0), (6, .ptr 0 6 0), (7, .lst true true 3 []), (8, vI 0), (9, vV jH), (10, vV jE), (11, .lst true false 3 [[CV.int .i64 jo]]), (43, vI jo), (44, .val (.list false [[CV.int .i64 jo]])), (68, .ptr 0 3 3), (69, .val (.list jb aseg6)), (70, .rsl 39 0 101 0 aseg6.length aseg6.length), (71, .ptr 0 3 3), (72, .val (.list false [[CV.int .i64 jo]])), (73, vI 1), (74, vI v6)], [bx 102 [(3, some [vS aloc1, .val (.list ja aper3), vI je, .rsl 39 0 101 0 aseg6.length aseg6.length, .val (.list jd aser9), vI jc]), (6, some [.val (.str []), .lst true true 89 [], vI 0, .lst true true 39 [], .lst true true 70 [], vI 0]), (101, some [.row 39 vO])]], KK⟩)
noncomputable def QhL (lb n : Nat) (aloc1 : LB) (ja : Bool) (aper3 : LL) (je : Int) (jb : Bool) (aseg6 : LL) (jd : Bool) (aser9 : LL) (jc jo c12 : Int) (jH jE : CV) (l290 : LL) : Option CV :=
 hold (E0 lb n 0 993 (sub (B Qab) [1, 1, 1, 1, 1, 1, 1]) (retK Tryz.prog (R Qab) 0 (outK (Qae Tryz.prog Qab))) ⟨fr 101 [(0, .val (.agg [.str aloc1, .list ja aper3, .int .i64 je, .list jb aseg6, .list jd aser9, .int .i64 jc])), (1, vI jo), (2, vI c12), (3, .ptr 0 3 0), (6, .ptr 0 6 0), (7, .lst true true 3 []), (8, vI 0), (9, vV jH), (10, vV jE), (11, .lst true false 3 [[CV.int .i64 jo]]), (43, vI jo), (44, .val (.list false [[CV.int .i64 jo]])), (68, .ptr 0 3 3), (69, .val (.list jb aseg6)), (70, .rsl 39 0 101 0 aseg6.length aseg6.length), (71, .ptr 0 3 3)], [bx 102 [(3, some [vS aloc1, .val (.list ja aper3), vI je, .rsl 39 0 101 0 aseg6.length aseg6.length, .val (.list jd aser9), vI jc]), (6, some [.val (.str []), .lst true true 89 [], vI 0, .lst true true 39 [], .lst true true 70 [], vI 0]), (101, some [.row 39 l290])]], KK⟩)
theorem Qkf (lb n : Nat) (aloc1 : LB) (ja : Bool) (aper3 : LL) (je : Int) (jb : Bool) (aseg6 : LL) (jd : Bool) (aser9 : LL) (jc jo c12 : Int) (jH jE : CV) (l290 : LL) :
 QhL lb n aloc1 ja aper3 je jb aseg6 jd aser9 jc jo c12 jH jE l290 =
 chkO (decide ((0 + aseg6.length) ≤ l290.length)) (
 some (.tup [.agg [.str aloc1, .list ja aper3, .int .i64 je, .list false ((l290.drop 0).take aseg6.length), .list jd aser9, .int .i64 jc], .list false [[CV.int .i64 jo]], .int .i64 0])) := (Qaf _).trans (by kernel_rfl)
theorem Qfk (lb n oq : Nat) (aloc1 : LB) (ja : Bool) (aper3 : LL) (je : Int) (jb : Bool) (aseg6 : LL) (jd : Bool) (aser9 : LL) (jc jo c12 : Int) (jH jE : CV) (v6 : Int) (vO : LL) :
 QdM lb n (oq + 1) aloc1 ja aper3 je jb aseg6 jd aser9 jc jo c12 jH jE v6 vO =
 bif (decide (v6 < 1)) then
 (optO (atL [[CV.int .i64 jo]] v6) fun c277 =>
 chkO (c277.length == 1) (
 optO (c277[0]?) fun vk =>
 optO (CV.asN vk) fun i279 =>
 chkO ((decide (0 ≤ (i279 : Int))) && (decide ((i279 : Int) < ((aseg6.length : Nat) : Int)))) (
 optO (vO[0 + i279.toNat]?) fun nX =>
 optO (nX[8]?) fun pt =>
 optO (C lb n Qdz [pt, .int .i64 c12]) fun mH =>
 optO (CV.asT mH) fun qX =>
 optO (qX[0]?) fun mr =>
 optO (CV.asT mH) fun oN =>
 optO (oN[1]?) fun yY =>
 optO (CV.asI .i64 yY) fun pg =>
 bif (pg != 0) then
 (some (.tup [.agg [.str [], .list true [], .int .i64 0, .list true [], .list true [], .int .i64 0], .list true [], .int .i64 18]))
 else
 (optO (CV.asN vk) fun i288 =>
 chkO ((decide (0 ≤ (i288 : Int))) && (decide ((i288 : Int) < ((aseg6.length : Nat) : Int)))) (
 chkO (CV.isCell mr) (
 optO (vO[0 + i288.toNat]?) fun c289 =>
 chkO (decide ((9 : Nat) ≤ c289.length)) (
 QdM lb n oq aloc1 ja aper3 je jb aseg6 jd aser9 jc jo c12 jH jE (IntKind.wrap .i64 (v6 + 1)) (setN vO (0 + i288.toNat) (QbO c289 8 [mr])))))))))
 else
 (QhL lb n aloc1 ja aper3 je jb aseg6 jd aser9 jc jo c12 jH jE vO) := (Qaf _).trans (by kernel_rfl)
theorem QjP (lb n : Nat) (aloc1 : LB) (ja : Bool) (aper3 : LL) (je : Int) (jb : Bool) (aseg6 : LL) (jd : Bool) (aser9 : LL) (jc jo c12 : Int) (jH jE : CV) :
 QcT lb n aloc1 ja aper3 je jb aseg6 jd aser9 jc jo c12 jH jE =
 bif jb then
 (QlZ lb n n aloc1 ja aper3 je jb aseg6 jd aser9 jc jo c12 jH jE )
 else
 (chkO (aseg6.all (·.length == 10)) (
 chkO (room aseg6.length 112) (
 bif aseg6.isEmpty then
 (Qmm lb n n aloc1 ja aper3 je jb aseg6 jd aser9 jc jo c12 jH jE )
 else
 (QdM lb n n aloc1 ja aper3 je jb aseg6 jd aser9 jc jo c12 jH jE 0 aseg6)))) := (Qaf _).trans (by kernel_rfl)
theorem Qbp (lb n : Nat) (aloc1 : LB) (ja : Bool) (aper3 : LL) (je : Int) (jb : Bool) (aseg6 : LL) (jd : Bool) (aser9 : LL) (jc jo c12 : Int) :
 top lb n Qab [.agg [.str aloc1, .list ja aper3, .int .i64 je, .list jb aseg6, .list jd aser9, .int .i64 jc], .int .i64 jo, .int .i64 c12] =
 bif (decide (jo < 0)) then
 (some (.tup [.agg [.str [], .list true [], .int .i64 0, .list true [], .list true [], .int .i64 0], .list true [], .int .i64 7]))
 else
 (bif (decide (jo ≥ (aseg6.length : Int))) then
 (some (.tup [.agg [.str [], .list true [], .int .i64 0, .list true [], .list true [], .int .i64 0], .list true [], .int .i64 7]))
 else
 (optO (atL aseg6 jo) fun c13 =>
 chkO (c13.length == 10) (
 optO (c13[8]?) fun kE =>
 optO (C lb n Qdz [kE, .int .i64 c12]) fun y3 =>
 optO (CV.asT y3) fun ls =>
 optO (ls[0]?) fun jH =>
 optO (CV.asT y3) fun lf =>
 optO (lf[1]?) fun jE =>
 optO (CV.asI .i64 jE) fun i21 =>
 bif (i21 != 0) then
 (some (.tup [.agg [.str [], .list true [], .int .i64 0, .list true [], .list true [], .int .i64 0], .list true [], jE]))
 else
 (bif (c12 != 5) then
 (bif (c12 != 6) then
 (bif (c12 != 7) then
 (optO (C lb n QaQ [.list jb aseg6]) fun jn =>
 optO (C lb n QbE [jn, .int .i64 jo]) fun jl =>
 optO (CV.asT jl) fun kt =>
 optO (kt[0]?) fun jx =>
 optO (CV.asT jl) fun oC =>
 optO (oC[1]?) fun jG =>
 optO (CV.asI .i64 jG) fun vd =>
 bif (vd == 0) then
 (chkO (CV.isCell jx) (
 optO (bytesOf (bif QiN jx then [] else [[]])) fun lE =>
 optO (C lb n Qcu [.list ((Qku jx).isEmpty) (Qku jx)]) fun s4 =>
 booking_Change_J1 lb n aloc1 ja aper3 je jb aseg6 jd aser9 jc jo c12 jH jE ((Qku jx).isEmpty) (Qku jx) jx jG jx))
 else
 (Qfl lb n aloc1 ja aper3 je jb aseg6 jd aser9 jc jo c12 jH jE jx jG))
 else
 (QcT lb n aloc1 ja aper3 je jb aseg6 jd aser9 jc jo c12 jH jE ))
 else
 (QcT lb n aloc1 ja aper3 je jb aseg6 jd aser9 jc jo c12 jH jE ))
 else
 (QcT lb n aloc1 ja aper3 je jb aseg6 jd aser9 jc jo c12 jH jE ))))) := by kernel_rfl
end Go.Proofs
