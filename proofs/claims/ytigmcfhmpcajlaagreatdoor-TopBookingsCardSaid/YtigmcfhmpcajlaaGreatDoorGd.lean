/- Equations of functions, printed by program. Conditions: none. -/
import Derived.Test.YtigmcfhmpcajlaaGreatDoorEv
namespace Go.Proofs
open Go.Am
set_option maxRecDepth 100000
set_option linter.unusedVariables false
noncomputable def booking_Change_J1 :=
 fun lb n jf (jb : Bool) (aper3 : LL) je (ja : Bool) (aseg6 : LL) (jd : Bool) (aser9 : LL) jc jh c12 jA jv (wo : Bool) (l33 : LL) wp wk wl =>
 hold (E0 lb n 0 995 (sub (B Qab) [1, 1, 1, 1, 1]) (retK Tryz.prog (R Qab) 0 (outK (Qah Tryz.prog Qab))) ⟨fr 101 [(0, .val (.agg [.str jf, .list jb aper3, .int .i64 je, .list ja aseg6, .list jd aser9, .int .i64 jc])), (1, vI jh), (2, vI c12), (3, .ptr 0 3 0), (6, .ptr 0 6 0), (7, .lst true true 3 []), (8, vI 0), (9, vV jA), (10, vV jv), (11, .val (.list wo l33)), (12, vV wp), (13, vV wk), (43, vI jh), (44, .val (.list false [[CV.int .i64 jh]]))], [bx 102 [(3, some [vS jf, .val (.list jb aper3), vI je, .val (.list ja aseg6), .val (.list jd aser9), vI jc]), (6, some [.val (.str []), .lst true true 89 [], vI 0, .lst true true 39 [], .lst true true 70 [], vI 0]), (101, some [.val wl])]], KK⟩)
noncomputable def QjS (lb n mP : Nat) (jf : LB) (jb : Bool) (aper3 : LL) (je : Int) (ja : Bool) (aseg6 : LL) (jd : Bool) (aser9 : LL) (jc jh c12 : Int) (jA jv : CV) (wo : Bool) (l33 : LL) (wp wk wl : CV) : Option CV :=
 hold (QaA (E0 lb n 0 990) 0 (Qag (sub (B Qab) [1, 1, 1, 1, 1, 1, 0, 1, 0, 0]) ++ [15, 16, 17]) [] (sub (B Qab) [1, 1, 1, 1, 1, 1, 0, 1, 0, 0]) (Qal 0 (seqK (E0 lb n 0 993) (sub (B Qab) [1, 1, 1, 1, 1, 1, 0]) (sub (B Qab) [1, 1, 1, 1, 1, 1, 1]) (retK Tryz.prog (R Qab) 0 (outK (Qah Tryz.prog Qab))))) mP ⟨fr 101 [(0, .val (.agg [.str jf, .list jb aper3, .int .i64 je, .list ja aseg6, .list jd aser9, .int .i64 jc])), (1, vI jh), (2, vI c12), (3, .ptr 0 3 0), (6, .ptr 0 6 0), (7, .lst true true 3 []), (8, vI 0), (9, vV jA), (10, vV jv), (11, .val (.list wo l33)), (12, vV wp), (13, vV wk), (43, vI jh), (44, .val (.list false [[CV.int .i64 jh]])), (68, .ptr 0 3 3), (69, .val (.list ja aseg6)), (70, .val (.list true [])), (71, .ptr 0 3 3), (72, .val (.list wo l33)), (73, .val (.int .i64 (l33.length : Int))), (74, vI 0)], [bx 102 [(3, some [vS jf, .val (.list jb aper3), vI je, .val (.list true []), .val (.list jd aser9), vI jc]), (6, some [.val (.str []), .lst true true 89 [], vI 0, .lst true true 39 [], .lst true true 70 [], vI 0]), (101, some [.val wl])]], KK⟩)
noncomputable def Qj1 (lb n nL : Nat) (jf : LB) (jb : Bool) (aper3 : LL) (je : Int) (ja : Bool) (aseg6 : LL) (jd : Bool) (aser9 : LL) (jc jh c12 : Int) (jA jv : CV) (wo : Bool) (l33 : LL) (wp wk wl : CV) : Option CV :=
 hold (QaA (E0 lb n 0 990) 0 (Qag (sub (B Qab) [1, 1, 1, 1, 1, 1, 0, 1, 0, 0]) ++ [15, 16, 17]) [] (sub (B Qab) [1, 1, 1, 1, 1, 1, 0, 1, 0, 0]) (Qal 0 (seqK (E0 lb n 0 993) (sub (B Qab) [1, 1, 1, 1, 1, 1, 0]) (sub (B Qab) [1, 1, 1, 1, 1, 1, 1]) (retK Tryz.prog (R Qab) 0 (outK (Qah Tryz.prog Qab))))) nL ⟨fr 101 [(0, .val (.agg [.str jf, .list jb aper3, .int .i64 je, .list ja aseg6, .list jd aser9, .int .i64 jc])), (1, vI jh), (2, vI c12), (3, .ptr 0 3 0), (6, .ptr 0 6 0), (7, .lst true true 3 []), (8, vI 0), (9, vV jA), (10, vV jv), (11, .val (.list wo l33)), (12, vV wp), (13, vV wk), (43, vI jh), (44, .val (.list false [[CV.int .i64 jh]])), (68, .ptr 0 3 3), (69, .val (.list ja aseg6)), (70, .val (.list false [])), (71, .ptr 0 3 3), (72, .val (.list wo l33)), (73, .val (.int .i64 (l33.length : Int))), (74, vI 0)], [bx 102 [(3, some [vS jf, .val (.list jb aper3), vI je, .val (.list false []), .val (.list jd aser9), vI jc]), (6, some [.val (.str []), .lst true true 89 [], vI 0, .lst true true 39 [], .lst true true 70 [], vI 0]), (101, some [.val wl])]], KK⟩)
noncomputable def QcN (lb n yV : Nat) (jf : LB) (jb : Bool) (aper3 : LL) (je : Int) (ja : Bool) (aseg6 : LL) (jd : Bool) (aser9 : LL) (jc jh c12 : Int) (jA jv : CV) (wo : Bool) (l33 : LL) (wp wk wl : CV) (yf : Int) (yd : LL) : Option CV :=
 hold (QaA (E0 lb n 0 990) 0 (Qag (sub (B Qab) [1, 1, 1, 1, 1, 1, 0, 1, 0, 0]) ++ [15, 16, 17]) [] (sub (B Qab) [1, 1, 1, 1, 1, 1, 0, 1, 0, 0]) (Qal 0 (seqK (E0 lb n 0 993) (sub (B Qab) [1, 1, 1, 1, 1, 1, 0]) (sub (B Qab) [1, 1, 1, 1, 1, 1, 1]) (retK Tryz.prog (R Qab) 0 (outK (Qah Tryz.prog Qab))))) yV ⟨fr 101 [(0, .val (.agg [.str jf, .list jb aper3, .int .i64 je, .list ja aseg6, .list jd aser9, .int .i64 jc])), (1, vI jh), (2, vI c12), (3, .ptr 0 3 0), (6, .ptr 0 6 0), (7, .lst true true 3 []), (8, vI 0), (9, vV jA), (10, vV jv), (11, .val (.list wo l33)), (12, vV wp), (13, vV wk), (43, vI jh), (44, .val (.list false [[CV.int .i64 jh]])), (68, .ptr 0 3 3), (69, .val (.list ja aseg6)), (70, .rsl 39 0 102 0 aseg6.length aseg6.length), (71, .ptr 0 3 3), (72, .val (.list wo l33)), (73, .val (.int .i64 (l33.length : Int))), (74, vI yf)], [bx 103 [(3, some [vS jf, .val (.list jb aper3), vI je, .rsl 39 0 102 0 aseg6.length aseg6.length, .val (.list jd aser9), vI jc]), (6, some [.val (.str []), .lst true true 89 [], vI 0, .lst true true 39 [], .lst true true 70 [], vI 0]), (101, some [.val wl]), (102, some [.row 39 yd])]], KK⟩)
noncomputable def QfW (lb n : Nat) (jf : LB) (jb : Bool) (aper3 : LL) (je : Int) (ja : Bool) (aseg6 : LL) (jd : Bool) (aser9 : LL) (jc jh c12 : Int) (jA jv : CV) (wo : Bool) (l33 : LL) (wp wk wl : CV) (l134 : LL) : Option CV :=
 hold (E0 lb n 0 993 (sub (B Qab) [1, 1, 1, 1, 1, 1, 1]) (retK Tryz.prog (R Qab) 0 (outK (Qah Tryz.prog Qab))) ⟨fr 101 [(0, .val (.agg [.str jf, .list jb aper3, .int .i64 je, .list ja aseg6, .list jd aser9, .int .i64 jc])), (1, vI jh), (2, vI c12), (3, .ptr 0 3 0), (6, .ptr 0 6 0), (7, .lst true true 3 []), (8, vI 0), (9, vV jA), (10, vV jv), (11, .val (.list wo l33)), (12, vV wp), (13, vV wk), (43, vI jh), (44, .val (.list false [[CV.int .i64 jh]])), (68, .ptr 0 3 3), (69, .val (.list ja aseg6)), (70, .rsl 39 0 102 0 aseg6.length aseg6.length), (71, .ptr 0 3 3)], [bx 103 [(3, some [vS jf, .val (.list jb aper3), vI je, .rsl 39 0 102 0 aseg6.length aseg6.length, .val (.list jd aser9), vI jc]), (6, some [.val (.str []), .lst true true 89 [], vI 0, .lst true true 39 [], .lst true true 70 [], vI 0]), (101, some [.val wl]), (102, some [.row 39 l134])]], KK⟩)
theorem QhX (lb n : Nat) (jf : LB) (jb : Bool) (aper3 : LL) (je : Int) (ja : Bool) (aseg6 : LL) (jd : Bool) (aser9 : LL) (jc jh c12 : Int) (jA jv : CV) (wo : Bool) (l33 : LL) (wp wk wl : CV) (l134 : LL) :
 QfW lb n jf jb aper3 je ja aseg6 jd aser9 jc jh c12 jA jv wo l33 wp wk wl l134 =
 chkO (decide ((0 + aseg6.length) ≤ l134.length)) (
 some (.tup [.agg [.str jf, .list jb aper3, .int .i64 je, .list false ((l134.drop 0).take aseg6.length), .list jd aser9, .int .i64 jc], .list wo l33, .int .i64 0])) := (Qai _).trans (by kernel_rfl)
theorem Qd1 (lb n yV : Nat) (jf : LB) (jb : Bool) (aper3 : LL) (je : Int) (ja : Bool) (aseg6 : LL) (jd : Bool) (aser9 : LL) (jc jh c12 : Int) (jA jv : CV) (wo : Bool) (l33 : LL) (wp wk wl : CV) (yf : Int) (yd : LL) :
 QcN lb n (yV + 1) jf jb aper3 je ja aseg6 jd aser9 jc jh c12 jA jv wo l33 wp wk wl yf yd =
 bif (decide (yf < (l33.length : Int))) then
 (optO (atL l33 yf) fun c121 =>
 chkO (c121.length == 1) (
 optO (c121[0]?) fun kp =>
 optO (CV.asN kp) fun i123 =>
 chkO ((decide (0 ≤ (i123 : Int))) && (decide ((i123 : Int) < ((aseg6.length : Nat) : Int)))) (
 optO (yd[0 + i123.toNat]?) fun mj =>
 optO (mj[8]?) fun mz =>
 optO (C lb n Qcz [mz, .int .i64 c12]) fun kG =>
 optO (CV.asT kG) fun t127 =>
 optO (t127[0]?) fun kA =>
 optO (CV.asT kG) fun mD =>
 optO (mD[1]?) fun mh =>
 optO (CV.asI .i64 mh) fun ml =>
 bif (ml != 0) then
 (some (.tup [.agg [.str [], .list true [], .int .i64 0, .list true [], .list true [], .int .i64 0], .list true [], .int .i64 18]))
 else
 (optO (CV.asN kp) fun i132 =>
 chkO ((decide (0 ≤ (i132 : Int))) && (decide ((i132 : Int) < ((aseg6.length : Nat) : Int)))) (
 chkO (CV.isCell kA) (
 optO (yd[0 + i132.toNat]?) fun c133 =>
 chkO (decide ((9 : Nat) ≤ c133.length)) (
 QcN lb n yV jf jb aper3 je ja aseg6 jd aser9 jc jh c12 jA jv wo l33 wp wk wl (IntKind.wrap .i64 (yf + 1)) (setN yd (0 + i132.toNat) (Qbf c133 8 [kA])))))))))
 else
 (QfW lb n jf jb aper3 je ja aseg6 jd aser9 jc jh c12 jA jv wo l33 wp wk wl yd) := (Qai _).trans (by kernel_rfl)
theorem Qh8 (lb n : Nat) (jf : LB) (jb : Bool) (aper3 : LL) (je : Int) (ja : Bool) (aseg6 : LL) (jd : Bool) (aser9 : LL) (jc jh c12 : Int) (jA jv : CV) (wo : Bool) (l33 : LL) (wp wk wl : CV) :
 booking_Change_J1 lb n jf jb aper3 je ja aseg6 jd aser9 jc jh c12 jA jv wo l33 wp wk wl =
 bif ja then
 (QjS lb n n jf jb aper3 je ja aseg6 jd aser9 jc jh c12 jA jv wo l33 wp wk wl )
 else
 (chkO (aseg6.all (·.length == 10)) (
 chkO (room aseg6.length 112) (
 bif aseg6.isEmpty then
 (Qj1 lb n n jf jb aper3 je ja aseg6 jd aser9 jc jh c12 jA jv wo l33 wp wk wl )
 else
 (QcN lb n n jf jb aper3 je ja aseg6 jd aser9 jc jh c12 jA jv wo l33 wp wk wl 0 aseg6)))) := (Qai _).trans (by kernel_rfl)
noncomputable def QdR (lb n : Nat) (jf : LB) (jb : Bool) (aper3 : LL) (je : Int) (ja : Bool) (aseg6 : LL) (jd : Bool) (aser9 : LL) (jc jh c12 : Int) (jA jv jV jW : CV) : Option CV :=
 hold (E0 lb n 0 995 (sub (B Qab) [1, 1, 1, 1, 1]) (retK Tryz.prog (R Qab) 0 (outK (Qah Tryz.prog Qab))) ⟨fr 101 [(0, .val (.agg [.str jf, .list jb aper3, .int .i64 je, .list ja aseg6, .list jd aser9, .int .i64 jc])), (1, vI jh), (2, vI c12), (3, .ptr 0 3 0), (6, .ptr 0 6 0), (7, .lst true true 3 []), (8, vI 0), (9, vV jA), (10, vV jv), (11, .lst true false 3 [[CV.int .i64 jh]]), (12, vV jV), (13, vV jW), (43, vI jh), (44, .val (.list false [[CV.int .i64 jh]]))], [bx 101 [(3, some [vS jf, .val (.list jb aper3), vI je, .val (.list ja aseg6), .val (.list jd aser9), vI jc]), (6, some [.val (.str []), .lst true true 89 [], vI 0, .lst true true 39 [], .lst true true 70 [], vI 0])]], KK⟩)
noncomputable def QjT (lb n md : Nat) (jf : LB) (jb : Bool) (aper3 : LL) (je : Int) (ja : Bool) (aseg6 : LL) (jd : Bool) (aser9 : LL) (jc jh c12 : Int) (jA jv jV jW : CV) : Option CV :=
 hold (QaA (E0 lb n 0 990) 0 (Qag (sub (B Qab) [1, 1, 1, 1, 1, 1, 0, 1, 0, 0]) ++ [15, 16, 17]) [] (sub (B Qab) [1, 1, 1, 1, 1, 1, 0, 1, 0, 0]) (Qal 0 (seqK (E0 lb n 0 993) (sub (B Qab) [1, 1, 1, 1, 1, 1, 0]) (sub (B Qab) [1, 1, 1, 1, 1, 1, 1]) (retK Tryz.prog (R Qab) 0 (outK (Qah Tryz.prog Qab))))) md ⟨fr 101 [(0, .val (.agg [.str jf, .list jb aper3, .int .i64 je, .list ja aseg6, .list jd aser9, .int .i64 jc])), (1, vI jh), (2, vI c12), (3, .ptr 0 3 0), (6, .ptr 0 6 0), (7, .lst true true 3 []), (8, vI 0), (9, vV jA), (10, vV jv), (11, .lst true false 3 [[CV.int .i64 jh]]), (12, vV jV), (13, vV jW), (43, vI jh), (44, .val (.list false [[CV.int .i64 jh]])), (68, .ptr 0 3 3), (69, .val (.list ja aseg6)), (70, .val (.list true [])), (71, .ptr 0 3 3), (72, .val (.list false [[CV.int .i64 jh]])), (73, vI 1), (74, vI 0)], [bx 101 [(3, some [vS jf, .val (.list jb aper3), vI je, .val (.list true []), .val (.list jd aser9), vI jc]), (6, some [.val (.str []), .lst true true 89 [], vI 0, .lst true true 39 [], .lst true true 70 [], vI 0])]], KK⟩)
noncomputable def Qi2 (lb n mB : Nat) (jf : LB) (jb : Bool) (aper3 : LL) (je : Int) (ja : Bool) (aseg6 : LL) (jd : Bool) (aser9 : LL) (jc jh c12 : Int) (jA jv jV jW : CV) : Option CV :=
 hold (QaA (E0 lb n 0 990) 0 (Qag (sub (B Qab) [1, 1, 1, 1, 1, 1, 0, 1, 0, 0]) ++ [15, 16, 17]) [] (sub (B Qab) [1, 1, 1, 1, 1, 1, 0, 1, 0, 0]) (Qal 0 (seqK (E0 lb n 0 993) (sub (B Qab) [1, 1, 1, 1, 1, 1, 0]) (sub (B Qab) [1, 1, 1, 1, 1, 1, 1]) (retK Tryz.prog (R Qab) 0 (outK (Qah Tryz.prog Qab))))) mB ⟨fr 101 [(0, .val (.agg [.str jf, .list jb aper3, .int .i64 je, .list ja aseg6, .list jd aser9, .int .i64 jc])), (1, vI jh), (2, vI c12), (3, .ptr 0 3 0), (6, .ptr 0 6 0), (7, .lst true true 3 []), (8, vI 0), (9, vV jA), (10, vV jv), (11, .lst true false 3 [[CV.int .i64 jh]]), (12, vV jV), (13, vV jW), (43, vI jh), (44, .val (.list false [[CV.int .i64 jh]])), (68, .ptr 0 3 3), (69, .val (.list ja aseg6)), (70, .val (.list false [])), (71, .ptr 0 3 3), (72, .val (.list false [[CV.int .i64 jh]])), (73, vI 1), (74, vI 0)], [bx 101 [(3, some [vS jf, .val (.list jb aper3), vI je, .val (.list false []), .val (.list jd aser9), vI jc]), (6, some [.val (.str []), .lst true true 89 [], vI 0, .lst true true 39 [], .lst true true 70 [], vI 0])]], KK⟩)
noncomputable def QcE (lb n y8 : Nat) (jf : LB) (jb : Bool) (aper3 : LL) (je : Int) (ja : Bool) (aseg6 : LL) (jd : Bool) (aser9 : LL) (jc jh c12 : Int) (jA jv jV jW : CV) (yh : Int) (yc : LL) : Option CV :=
 hold (QaA (E0 lb n 0 990) 0 (Qag (sub (B Qab) [1, 1, 1, 1, 1, 1, 0, 1, 0, 0]) ++ [15, 16, 17]) [] (sub (B Qab) [1, 1, 1, 1, 1, 1, 0, 1, 0, 0]) (Qal 0 (seqK (E0 lb n 0 993) (sub (B Qab) [1, 1, 1, 1, 1, 1, 0]) (sub (B Qab) [1, 1, 1, 1, 1, 1, 1]) (retK Tryz.prog (R Qab) 0 (outK (Qah Tryz.prog Qab))))) y8 ⟨fr 101 [(0, .val (.agg [.str jf, .list jb aper3, .int .i64 je, .list ja aseg6, .list jd aser9, .int .i64 jc])), (1, vI jh), (2, vI c12), (3, .ptr 0 3 0), (6, .ptr 0 6 0), (7, .lst true true 3 []), (8, vI 0), (9, vV jA), (10, vV jv), (11, .lst true false 3 [[CV.int .i64 jh]]), (12, vV jV), (13, vV jW), (43, vI jh), (44, .val (.list false [[CV.int .i64 jh]])), (68, .ptr 0 3 3), (69, .val (.list ja aseg6)), (70, .rsl 39 0 101 0 aseg6.length aseg6.length), (71, .ptr 0 3 3), (72, .val (.list false [[CV.int .i64 jh]])), (73, vI 1), (74, vI yh)], [bx 102 [(3, some [vS jf, .val (.list jb aper3), vI je, .rsl 39 0 101 0 aseg6.length aseg6.length, .val (.list jd aser9), vI jc]), (6, some [.val (.str []), .lst true true 89 [], vI 0, .lst true true 39 [], .lst true true 70 [], vI 0]), (101, some [.row 39 yc])]], KK⟩)
noncomputable def QfD (lb n : Nat) (jf : LB) (jb : Bool) (aper3 : LL) (je : Int) (ja : Bool) (aseg6 : LL) (jd : Bool) (aser9 : LL) (jc jh c12 : Int) (jA jv jV jW : CV) (l213 : LL) : Option CV :=
 hold (E0 lb n 0 993 (sub (B Qab) [1, 1, 1, 1, 1, 1, 1]) (retK Tryz.prog (R Qab) 0 (outK (Qah Tryz.prog Qab))) ⟨fr 101 [(0, .val (.agg [.str jf, .list jb aper3, .int .i64 je, .list ja aseg6, .list jd aser9, .int .i64 jc])), (1, vI jh), (2, vI c12), (3, .ptr 0 3 0), (6, .ptr 0 6 0), (7, .lst true true 3 []), (8, vI 0), (9, vV jA), (10, vV jv), (11, .lst true false 3 [[CV.int .i64 jh]]), (12, vV jV), (13, vV jW), (43, vI jh), (44, .val (.list false [[CV.int .i64 jh]])), (68, .ptr 0 3 3), (69, .val (.list ja aseg6)), (70, .rsl 39 0 101 0 aseg6.length aseg6.length), (71, .ptr 0 3 3)], [bx 102 [(3, some [vS jf, .val (.list jb aper3), vI je, .rsl 39 0 101 0 aseg6.length aseg6.length, .val (.list jd aser9), vI jc]), (6, some [.val (.str []), .lst true true 89 [], vI 0, .lst true true 39 [], .lst true true 70 [], vI 0]), (101, some [.row 39 l213])]], KK⟩)
theorem Qhk (lb n : Nat) (jf : LB) (jb : Bool) (aper3 : LL) (je : Int) (ja : Bool) (aseg6 : LL) (jd : Bool) (aser9 : LL) (jc jh c12 : Int) (jA jv jV jW : CV) (l213 : LL) :
 QfD lb n jf jb aper3 je ja aseg6 jd aser9 jc jh c12 jA jv jV jW l213 =
 chkO (decide ((0 + aseg6.length) ≤ l213.length)) (
 some (.tup [.agg [.str jf, .list jb aper3, .int .i64 je, .list false ((l213.drop 0).take aseg6.length), .list jd aser9, .int .i64 jc], .list false [[CV.int .i64 jh]], .int .i64 0])) := (Qai _).trans (by kernel_rfl)
theorem QdQ (lb n y8 : Nat) (jf : LB) (jb : Bool) (aper3 : LL) (je : Int) (ja : Bool) (aseg6 : LL) (jd : Bool) (aser9 : LL) (jc jh c12 : Int) (jA jv jV jW : CV) (yh : Int) (yc : LL) :
 QcE lb n (y8 + 1) jf jb aper3 je ja aseg6 jd aser9 jc jh c12 jA jv jV jW yh yc =
 bif (decide (yh < 1)) then
 (optO (atL [[CV.int .i64 jh]] yh) fun c200 =>
 chkO (c200.length == 1) (
 optO (c200[0]?) fun kx =>
 optO (CV.asN kx) fun i202 =>
 chkO ((decide (0 ≤ (i202 : Int))) && (decide ((i202 : Int) < ((aseg6.length : Nat) : Int)))) (
 optO (yc[0 + i202.toNat]?) fun mn =>
 optO (mn[8]?) fun gY =>
 optO (C lb n Qcz [gY, .int .i64 c12]) fun kl =>
 optO (CV.asT kl) fun my =>
 optO (my[0]?) fun wF =>
 optO (CV.asT kl) fun mw =>
 optO (mw[1]?) fun mg =>
 optO (CV.asI .i64 mg) fun i210 =>
 bif (i210 != 0) then
 (some (.tup [.agg [.str [], .list true [], .int .i64 0, .list true [], .list true [], .int .i64 0], .list true [], .int .i64 18]))
 else
 (optO (CV.asN kx) fun i211 =>
 chkO ((decide (0 ≤ (i211 : Int))) && (decide ((i211 : Int) < ((aseg6.length : Nat) : Int)))) (
 chkO (CV.isCell wF) (
 optO (yc[0 + i211.toNat]?) fun c212 =>
 chkO (decide ((9 : Nat) ≤ c212.length)) (
 QcE lb n y8 jf jb aper3 je ja aseg6 jd aser9 jc jh c12 jA jv jV jW (IntKind.wrap .i64 (yh + 1)) (setN yc (0 + i211.toNat) (Qbf c212 8 [wF])))))))))
 else
 (QfD lb n jf jb aper3 je ja aseg6 jd aser9 jc jh c12 jA jv jV jW yc) := (Qai _).trans (by kernel_rfl)
theorem QhR (lb n : Nat) (jf : LB) (jb : Bool) (aper3 : LL) (je : Int) (ja : Bool) (aseg6 : LL) (jd : Bool) (aser9 : LL) (jc jh c12 : Int) (jA jv jV jW : CV) :
 QdR lb n jf jb aper3 je ja aseg6 jd aser9 jc jh c12 jA jv jV jW =
 bif ja then
 (QjT lb n n jf jb aper3 je ja aseg6 jd aser9 jc jh c12 jA jv jV jW )
 else
 (chkO (aseg6.all (·.length == 10)) (
 chkO (room aseg6.length 112) (
 bif aseg6.isEmpty then
 (Qi2 lb n n jf jb aper3 je ja aseg6 jd aser9 jc jh c12 jA jv jV jW )
 else
 (QcE lb n n jf jb aper3 je ja aseg6 jd aser9 jc jh c12 jA jv jV jW 0 aseg6)))) := (Qai _).trans (by kernel_rfl)
noncomputable def Qb1 (lb n : Nat) (jf : LB) (jb : Bool) (aper3 : LL) (je : Int) (ja : Bool) (aseg6 : LL) (jd : Bool) (aser9 : LL) (jc jh c12 : Int) (jA jv : CV) : Option CV :=
 hold (E0 lb n 0 995 (sub (B Qab) [1, 1, 1, 1, 1]) (retK Tryz.prog (R Qab) 0 (outK (Qah Tryz.prog Qab))) ⟨fr 101 [(0, .val (.agg [.str jf, .list jb aper3, .int .i64 je, .list ja aseg6, .list jd aser9, .int .i64 jc])), (1, vI jh), (2, vI c12), (3, .ptr 0 3 0), (6, .ptr 0 6 0), (7, .lst true true 3 []), (8, vI 0), (9, vV jA), (10, vV jv), (11, .lst true false 3 [[CV.int .i64 jh]]), (43, vI jh), (44, .val (.list false [[CV.int .i64 jh]]))], [bx 101 [(3, some [vS jf, .val (.list jb aper3), vI je, .val (.list ja aseg6), .val (.list jd aser9), vI jc]), (6, some [.val (.str []), .lst true true 89 [], vI 0, .lst true true 39 [], .lst true true 70 [], vI 0])]], KK⟩)
noncomputable def Qi3 (lb n me : Nat) (jf : LB) (jb : Bool) (aper3 : LL) (je : Int) (ja : Bool) (aseg6 : LL) (jd : Bool) (aser9 : LL) (jc jh c12 : Int) (jA jv : CV) : Option CV :=
 hold (QaA (E0 lb n 0 990) 0 (Qag (sub (B Qab) [1, 1, 1, 1, 1, 1, 0, 1, 0, 0]) ++ [15, 16, 17]) [] (sub (B Qab) [1, 1, 1, 1, 1, 1, 0, 1, 0, 0]) (Qal 0 (seqK (E0 lb n 0 993) (sub (B Qab) [1, 1, 1, 1, 1, 1, 0]) (sub (B Qab) [1, 1, 1, 1, 1, 1, 1]) (retK Tryz.prog (R Qab) 0 (outK (Qah Tryz.prog Qab))))) me ⟨fr 101 [(0, .val (.agg [.str jf, .list jb aper3, .int .i64 je, .list ja aseg6, .list jd aser9, .int .i64 jc])), (1, vI jh), (2, vI c12), (3, .ptr 0 3 0), (6, .ptr 0 6 0), (7, .lst true true 3 []), (8, vI 0), (9, vV jA), (10, vV jv), (11, .lst true false 3 [[CV.int .i64 jh]]), (43, vI jh), (44, .val (.list false [[CV.int .i64 jh]])), (68, .ptr 0 3 3), (69, .val (.list ja aseg6)), (70, .val (.list true [])), (71, .ptr 0 3 3), (72, .val (.list false [[CV.int .i64 jh]])), (73, vI 1), (74, vI 0)], [bx 101 [(3, some [vS jf, .val (.list jb aper3), vI je, .val (.list true []), .val (.list jd aser9), vI jc]), (6, some [.val (.str []), .lst true true 89 [], vI 0, .lst true true 39 [], .lst true true 70 [], vI 0])]], KK⟩)
noncomputable def Qjw (lb n mb : Nat) (jf : LB) (jb : Bool) (aper3 : LL) (je : Int) (ja : Bool) (aseg6 : LL) (jd : Bool) (aser9 : LL) (jc jh c12 : Int) (jA jv : CV) : Option CV :=
 hold (QaA (E0 lb n 0 990) 0 (Qag (sub (B Qab) [1, 1, 1, 1, 1, 1, 0, 1, 0, 0]) ++ [15, 16, 17]) [] (sub (B Qab) [1, 1, 1, 1, 1, 1, 0, 1, 0, 0]) (Qal 0 (seqK (E0 lb n 0 993) (sub (B Qab) [1, 1, 1, 1, 1, 1, 0]) (sub (B Qab) [1, 1, 1, 1, 1, 1, 1]) (retK Tryz.prog (R Qab) 0 (outK (Qah Tryz.prog Qab))))) mb ⟨fr 101 [(0, .val (.agg [.str jf, .list jb aper3, .int .i64 je, .list ja aseg6, .list jd aser9, .int .i64 jc])), (1, vI jh), (2, vI c12), (3, .ptr 0 3 0), (6, .ptr 0 6 0), (7, .lst true true 3 []), (8, vI 0), (9, vV jA), (10, vV jv), (11, .lst true false 3 [[CV.int .i64 jh]]), (43, vI jh), (44, .val (.list false [[CV.int .i64 jh]])), (68, .ptr 0 3 3), (69, .val (.list ja aseg6)), (70, .val (.list false [])), (71, .ptr 0 3 3), (72, .val (.list false [[CV.int .i64 jh]])), (73, vI 1), (74, vI 0)], [bx 101 [(3, some [vS jf, .val (.list jb aper3), vI je, .val (.list false []), .val (.list jd aser9), vI jc]), (6, some [.val (.str []), .lst true true 89 [], vI 0, .lst true true 39 [], .lst true true 70 [], vI 0])]], KK⟩)
noncomputable def QcB (lb n y5 : Nat) (jf : LB) (jb : Bool) (aper3 : LL) (je : Int) (ja : Bool) (aseg6 : LL) (jd : Bool) (aser9 : LL) (jc jh c12 : Int) (jA jv : CV) (yg : Int) (ye : LL) : Option CV :=
 hold (QaA (E0 lb n 0 990) 0 (Qag (sub (B Qab) [1, 1, 1, 1, 1, 1, 0, 1, 0, 0]) ++ [15, 16, 17]) [] (sub (B Qab) [1, 1, 1, 1, 1, 1, 0, 1, 0, 0]) (Qal 0 (seqK (E0 lb n 0 993) (sub (B Qab) [1, 1, 1, 1, 1, 1, 0]) (sub (B Qab) [1, 1, 1, 1, 1, 1, 1]) (retK Tryz.prog (R Qab) 0 (outK (Qah Tryz.prog Qab))))) y5 ⟨fr 101 [(0, .val (.agg [.str jf, .list jb aper3, .int .i64 je, .list ja aseg6, .list jd aser9, .int .i64 jc])), (1, vI jh), (2, vI c12), (3, .ptr 0 3 0), (6, .ptr 0 6 0), (7, .lst true true 3 []), (8, vI 0), (9, vV jA), (10, vV jv), (11, .lst true false 3 [[CV.int .i64 jh]]), (43, vI jh), (44, .val (.list false [[CV.int .i64 jh]])), (68, .ptr 0 3 3), (69, .val (.list ja aseg6)), (70, .rsl 39 0 101 0 aseg6.length aseg6.length), (71, .ptr 0 3 3), (72, .val (.list false [[CV.int .i64 jh]])), (73, vI 1), (74, vI yg)], [bx 102 [(3, some [vS jf, .val (.list jb aper3), vI je, .rsl 39 0 101 0 aseg6.length aseg6.length, .val (.list jd aser9), vI jc]), (6, some [.val (.str []), .lst true true 89 [], vI 0, .lst true true 39 [], .lst true true 70 [], vI 0]), (101, some [.row 39 ye])]], KK⟩)
noncomputable def QfK (lb n : Nat) (jf : LB) (jb : Bool) (aper3 : LL) (je : Int) (ja : Bool) (aseg6 : LL) (jd : Bool) (aser9 : LL) (jc jh c12 : Int) (jA jv : CV) (l290 : LL) : Option CV :=
 hold (E0 lb n 0 993 (sub (B Qab) [1, 1, 1, 1, 1, 1, 1]) (retK Tryz.prog (R Qab) 0 (outK (Qah Tryz.prog Qab))) ⟨fr 101 [(0, .val (.agg [.str jf, .list jb aper3, .int .i64 je, .list ja aseg6, .list jd aser9, .int .i64 jc])), (1, vI jh), (2, vI c12), (3, .ptr 0 3 0), (6, .ptr 0 6 0), (7, .lst true true 3 []), (8, vI 0), (9, vV jA), (10, vV jv), (11, .lst true false 3 [[CV.int .i64 jh]]), (43, vI jh), (44, .val (.list false [[CV.int .i64 jh]])), (68, .ptr 0 3 3), (69, .val (.list ja aseg6)), (70, .rsl 39 0 101 0 aseg6.length aseg6.length), (71, .ptr 0 3 3)], [bx 102 [(3, some [vS jf, .val (.list jb aper3), vI je, .rsl 39 0 101 0 aseg6.length aseg6.length, .val (.list jd aser9), vI jc]), (6, some [.val (.str []), .lst true true 89 [], vI 0, .lst true true 39 [], .lst true true 70 [], vI 0]), (101, some [.row 39 l290])]], KK⟩)
theorem QhD (lb n : Nat) (jf : LB) (jb : Bool) (aper3 : LL) (je : Int) (ja : Bool) (aseg6 : LL) (jd : Bool) (aser9 : LL) (jc jh c12 : Int) (jA jv : CV) (l290 : LL) :
 QfK lb n jf jb aper3 je ja aseg6 jd aser9 jc jh c12 jA jv l290 =
 chkO (decide ((0 + aseg6.length) ≤ l290.length)) (
 some (.tup [.agg [.str jf, .list jb aper3, .int .i64 je, .list false ((l290.drop 0).take aseg6.length), .list jd aser9, .int .i64 jc], .list false [[CV.int .i64 jh]], .int .i64 0])) := (Qai _).trans (by kernel_rfl)
theorem QdO (lb n y5 : Nat) (jf : LB) (jb : Bool) (aper3 : LL) (je : Int) (ja : Bool) (aseg6 : LL) (jd : Bool) (aser9 : LL) (jc jh c12 : Int) (jA jv : CV) (yg : Int) (ye : LL) :
 QcB lb n (y5 + 1) jf jb aper3 je ja aseg6 jd aser9 jc jh c12 jA jv yg ye =
 bif (decide (yg < 1)) then
 (optO (atL [[CV.int .i64 jh]] yg) fun c277 =>
 chkO (c277.length == 1) (
 optO (c277[0]?) fun kB =>
 optO (CV.asN kB) fun i279 =>
 chkO ((decide (0 ≤ (i279 : Int))) && (decide ((i279 : Int) < ((aseg6.length : Nat) : Int)))) (
 optO (ye[0 + i279.toNat]?) fun mu =>
 optO (mu[8]?) fun mr =>
 optO (C lb n Qcz [mr, .int .i64 c12]) fun kD =>
 optO (CV.asT kD) fun g9 =>
 optO (g9[0]?) fun kI =>
 optO (CV.asT kD) fun mc =>
 optO (mc[1]?) fun mi =>
 optO (CV.asI .i64 mi) fun gZ =>
 bif (gZ != 0) then
 (some (.tup [.agg [.str [], .list true [], .int .i64 0, .list true [], .list true [], .int .i64 0], .list true [], .int .i64 18]))
 else
 (optO (CV.asN kB) fun i288 =>
 chkO ((decide (0 ≤ (i288 : Int))) && (decide ((i288 : Int) < ((aseg6.length : Nat) : Int)))) (
 chkO (CV.isCell kI) (
 optO (ye[0 + i288.toNat]?) fun c289 =>
 chkO (decide ((9 : Nat) ≤ c289.length)) (
 QcB lb n y5 jf jb aper3 je ja aseg6 jd aser9 jc jh c12 jA jv (IntKind.wrap .i64 (yg + 1)) (setN ye (0 + i288.toNat) (Qbf c289 8 [kI])))))))))
 else
 (QfK lb n jf jb aper3 je ja aseg6 jd aser9 jc jh c12 jA jv ye) := (Qai _).trans (by kernel_rfl)
theorem Qhe (lb n : Nat) (jf : LB) (jb : Bool) (aper3 : LL) (je : Int) (ja : Bool) (aseg6 : LL) (jd : Bool) (aser9 : LL) (jc jh c12 : Int) (jA jv : CV) :
 Qb1 lb n jf jb aper3 je ja aseg6 jd aser9 jc jh c12 jA jv =
 bif ja then
 (Qi3 lb n n jf jb aper3 je ja aseg6 jd aser9 jc jh c12 jA jv )
 else
 (chkO (aseg6.all (·.length == 10)) (
 chkO (room aseg6.length 112) (
 bif aseg6.isEmpty then
 (Qjw lb n n jf jb aper3 je ja aseg6 jd aser9 jc jh c12 jA jv )
 else
 (QcB lb n n jf jb aper3 je ja aseg6 jd aser9 jc jh c12 jA jv 0 aseg6)))) := (Qai _).trans (by kernel_rfl)
theorem QaV (lb n : Nat) (jf : LB) (jb : Bool) (aper3 : LL) (je : Int) (ja : Bool) (aseg6 : LL) (jd : Bool) (aser9 : LL) (jc jh c12 : Int) :
 top lb n Qab [.agg [.str jf, .list jb aper3, .int .i64 je, .list ja aseg6, .list jd aser9, .int .i64 jc], .int .i64 jh, .int .i64 c12] =
 bif (decide (jh < 0)) then
 (some (.tup [.agg [.str [], .list true [], .int .i64 0, .list true [], .list true [], .int .i64 0], .list true [], .int .i64 7]))
 else
 (bif (decide (jh ≥ (aseg6.length : Int))) then
 (some (.tup [.agg [.str [], .list true [], .int .i64 0, .list true [], .list true [], .int .i64 0], .list true [], .int .i64 7]))
 else
 (optO (atL aseg6 jh) fun c13 =>
 chkO (c13.length == 10) (
 optO (c13[8]?) fun kE =>
 optO (C lb n Qcz [kE, .int .i64 c12]) fun wV =>
 optO (CV.asT wV) fun ng =>
 optO (ng[0]?) fun jA =>
 optO (CV.asT wV) fun mX =>
 optO (mX[1]?) fun jv =>
 optO (CV.asI .i64 jv) fun i21 =>
 bif (i21 != 0) then
 (some (.tup [.agg [.str [], .list true [], .int .i64 0, .list true [], .list true [], .int .i64 0], .list true [], jv]))
 else
 (bif (c12 != 5) then
 (bif (c12 != 6) then
 (bif (c12 != 7) then
 (optO (C lb n QaD [.list ja aseg6]) fun jG =>
 optO (C lb n Qa8 [jG, .int .i64 jh]) fun jr =>
 optO (CV.asT jr) fun kw =>
 optO (kw[0]?) fun yb =>
 optO (CV.asT jr) fun ks =>
 optO (ks[1]?) fun yk =>
 optO (CV.asI .i64 yk) fun kk =>
 bif (kk == 0) then
 (chkO (CV.isCell yb) (
 optO (bytesOf (bif Qgy yb then [] else [[]])) fun pg =>
 optO (C lb n QcP [.list ((Qh7 yb).isEmpty) (Qh7 yb)]) fun mF =>
 booking_Change_J1 lb n jf jb aper3 je ja aseg6 jd aser9 jc jh c12 jA jv ((Qh7 yb).isEmpty) (Qh7 yb) yb yk yb))
 else
 (QdR lb n jf jb aper3 je ja aseg6 jd aser9 jc jh c12 jA jv yb yk))
 else
 (Qb1 lb n jf jb aper3 je ja aseg6 jd aser9 jc jh c12 jA jv ))
 else
 (Qb1 lb n jf jb aper3 je ja aseg6 jd aser9 jc jh c12 jA jv ))
 else
 (Qb1 lb n jf jb aper3 je ja aseg6 jd aser9 jc jh c12 jA jv ))))) := by kernel_rfl
end Go.Proofs
