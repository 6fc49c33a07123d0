/- Equations of functions, printed by program. Conditions: none. -/
import Derived.Test.YtigmcfhmpcajlaaGreatDoorEv
namespace Go.Proofs
open Go.Am
set_option maxRecDepth 100000
set_option linter.unusedVariables false
noncomputable def booking_Check_J1 :=
 fun lb n aloc1 (ja : Bool) (aper3 : LL) je (jb : Bool) (aseg6 : LL) (jd : Bool) (aser9 : LL) jc (wX : Bool) (l14 : LL) =>
 hold (E0 lb n 0 996 (sub (B Qac) [1, 1, 1, 1]) (retK Tryz.prog (R Qac) 0 (outK (Qae Tryz.prog Qac))) ⟨fr 122 [(0, .val (.agg [.str aloc1, .list ja aper3, .int .i64 je, .list jb aseg6, .list jd aser9, .int .i64 jc])), (1, .ptr 0 1 0), (2, .lst true true 61 []), (3, .ptr 0 3 0), (4, .clo Qax [.ptr 0 3 0]), (13, .clo Qax [.ptr 0 3 0])], [bx 122 [(1, some [vS aloc1, .val (.list ja aper3), vI je, .val (.list jb aseg6), .val (.list jd aser9), vI jc]), (3, some [.lst true wX 61 l14])]], KK⟩)
noncomputable def Qcb (lb n : Nat) (aloc1 : LB) (ja : Bool) (aper3 : LL) (je : Int) (jb : Bool) (aseg6 : LL) (jd : Bool) (aser9 : LL) (jc : Int) (jk : Bool) (l17 : LL) : Option CV :=
 hold (E0 lb n 0 995 (sub (B Qac) [1, 1, 1, 1, 1]) (retK Tryz.prog (R Qac) 0 (outK (Qae Tryz.prog Qac))) ⟨fr 122 [(0, .val (.agg [.str aloc1, .list ja aper3, .int .i64 je, .list jb aseg6, .list jd aser9, .int .i64 jc])), (1, .ptr 0 1 0), (2, .lst true true 61 []), (3, .ptr 0 3 0), (4, .clo Qax [.ptr 0 3 0]), (13, .clo Qax [.ptr 0 3 0])], [bx 122 [(1, some [vS aloc1, .val (.list ja aper3), vI je, .val (.list jb aseg6), .val (.list jd aser9), vI jc]), (3, some [.lst true jk 61 l17])]], KK⟩)
noncomputable def Qb9 (lb n : Nat) (aloc1 : LB) (ja : Bool) (aper3 : LL) (je : Int) (jb : Bool) (aseg6 : LL) (jd : Bool) (aser9 : LL) (jc : Int) (jk : Bool) (l17 : LL) (jg : CV) (jj : Bool × LL) (yX : Bool) (l21 : LL) : Option CV :=
 hold (E0 lb n 0 993 (sub (B Qac) [1, 1, 1, 1, 1, 1, 1]) (retK Tryz.prog (R Qac) 0 (outK (Qae Tryz.prog Qac))) ⟨fr 122 [(0, .val (.agg [.str aloc1, .list ja aper3, .int .i64 je, .list jb aseg6, .list jd aser9, .int .i64 jc])), (1, .ptr 0 1 0), (2, .lst true true 61 []), (3, .ptr 0 3 0), (4, .clo Qax [.ptr 0 3 0]), (13, .clo Qax [.ptr 0 3 0]), (30, .val (.list jk l17)), (31, .ptr 0 1 1), (32, .val (.list ja aper3)), (33, .ptr 0 1 2), (34, vI je), (35, vV jg), (36, .val (.list (jk && jj.2.isEmpty) (l17 ++ jj.2)))], [bx 122 [(1, some [vS aloc1, .val (.list ja aper3), vI je, .val (.list jb aseg6), .val (.list jd aser9), vI jc]), (3, some [.lst true yX 61 l21])]], KK⟩)
noncomputable def Qdn (lb n : Nat) (aloc1 : LB) (ja : Bool) (aper3 : LL) (je : Int) (jb : Bool) (aseg6 : LL) (jd : Bool) (aser9 : LL) (jc : Int) (jl : CV) (jk : Bool) (l17 : LL) (jg : CV) (jj : Bool × LL) (jn : CV) (vj : Bool) (vQ : LL) : Option CV :=
 hold (E0 lb n 0 991 (sub (B Qac) [1, 1, 1, 1, 1, 1, 1, 1, 1]) (retK Tryz.prog (R Qac) 0 (outK (Qae Tryz.prog Qac))) ⟨fr 122 [(0, .val (.agg [.str aloc1, .list ja aper3, .int .i64 je, .list jb aseg6, .list jd aser9, .int .i64 jc])), (1, .ptr 0 1 0), (2, .lst true true 61 []), (3, .ptr 0 3 0), (4, .clo Qax [.ptr 0 3 0]), (5, vV jl), (13, .clo Qax [.ptr 0 3 0]), (30, .val (.list jk l17)), (31, .ptr 0 1 1), (32, .val (.list ja aper3)), (33, .ptr 0 1 2), (34, vI je), (35, vV jg), (36, .val (.list (jk && jj.2.isEmpty) (l17 ++ jj.2))), (43, .ptr 0 1 3), (44, .val (.list jb aseg6)), (45, vV jn), (46, vV jl)], [bx 122 [(1, some [vS aloc1, .val (.list ja aper3), vI je, .val (.list jb aseg6), .val (.list jd aser9), vI jc]), (3, some [.lst true vj 61 vQ])]], KK⟩)
noncomputable def Qds (lb n yx : Nat) (aloc1 : LB) (ja : Bool) (aper3 : LL) (je : Int) (jb : Bool) (aseg6 : LL) (jd : Bool) (aser9 : LL) (jc : Int) (jl : CV) (jk : Bool) (l17 : LL) (jg : CV) (jj : Bool × LL) (jn : CV) (wV : Int) (oz : Bool) (ot : LL) : Option CV :=
 hold (Qau (E0 lb n 0 987) 0 (Qaj (sub (B Qac) [1, 1, 1, 1, 1, 1, 1, 1, 1, 0, 1, 0, 0]) ++ [6, 9]) [7] (sub (B Qac) [1, 1, 1, 1, 1, 1, 1, 1, 1, 0, 1, 0, 0]) (Qal 0 (seqK (E0 lb n 0 990) (sub (B Qac) [1, 1, 1, 1, 1, 1, 1, 1, 1, 0]) (sub (B Qac) [1, 1, 1, 1, 1, 1, 1, 1, 1, 1]) (retK Tryz.prog (R Qac) 0 (outK (Qae Tryz.prog Qac))))) yx ⟨fr 122 [(0, .val (.agg [.str aloc1, .list ja aper3, .int .i64 je, .list jb aseg6, .list jd aser9, .int .i64 jc])), (1, .ptr 0 1 0), (2, .lst true true 61 []), (3, .ptr 0 3 0), (4, .clo Qax [.ptr 0 3 0]), (5, vV jl), (13, .clo Qax [.ptr 0 3 0]), (30, .val (.list jk l17)), (31, .ptr 0 1 1), (32, .val (.list ja aper3)), (33, .ptr 0 1 2), (34, vI je), (35, vV jg), (36, .val (.list (jk && jj.2.isEmpty) (l17 ++ jj.2))), (43, .ptr 0 1 3), (44, .val (.list jb aseg6)), (45, vV jn), (46, vV jl), (52, .ptr 0 1 3), (53, .val (.list jb aseg6)), (54, .val (.int .i64 (aseg6.length : Int))), (55, vI wV)], [bx 122 [(1, some [vS aloc1, .val (.list ja aper3), vI je, .val (.list jb aseg6), .val (.list jd aser9), vI jc]), (3, some [.lst true oz 61 ot])]], KK⟩)
noncomputable def Qdo (lb n k0 yx : Nat) (aloc1 : LB) (ja : Bool) (aper3 : LL) (je : Int) (jb : Bool) (aseg6 : LL) (jd : Bool) (aser9 : LL) (jc : Int) (jl : CV) (wV : Int) (jk : Bool) (l17 : LL) (jg : CV) (jj : Bool × LL) (jn : CV) (c95 : List CV) (jX j5 jT jU jv jt wF ju jr js yG : CV) (yL : Bool × LL) (vb : Int) (kk : Bool) (l115 : LL) : Option CV :=
 hold (Qau (E0 lb n 0 979) 0 (Qaj (sub (B Qac) [1, 1, 1, 1, 1, 1, 1, 1, 1, 0, 1, 0, 0, 1, 1, 0, 0, 1, 1, 0, 0]) ++ [9]) [] (sub (B Qac) [1, 1, 1, 1, 1, 1, 1, 1, 1, 0, 1, 0, 0, 1, 1, 0, 0, 1, 1, 0, 0]) (Qal 2 (Qal 1 (seqK (E0 lb n 0 984) (sub (B Qac) [1, 1, 1, 1, 1, 1, 1, 1, 1, 0, 1, 0, 0, 1, 1, 0]) (sub (B Qac) [1, 1, 1, 1, 1, 1, 1, 1, 1, 0, 1, 0, 0, 1, 1, 1]) (QbK 0 (Qaj (sub (B Qac) [1, 1, 1, 1, 1, 1, 1, 1, 1, 0, 1, 0, 0]) ++ [6, 9]) [7] (Qau (E0 lb n 0 987) 0 (Qaj (sub (B Qac) [1, 1, 1, 1, 1, 1, 1, 1, 1, 0, 1, 0, 0]) ++ [6, 9]) [7] (sub (B Qac) [1, 1, 1, 1, 1, 1, 1, 1, 1, 0, 1, 0, 0]) (Qal 0 (seqK (E0 lb n 0 990) (sub (B Qac) [1, 1, 1, 1, 1, 1, 1, 1, 1, 0]) (sub (B Qac) [1, 1, 1, 1, 1, 1, 1, 1, 1, 1]) (retK Tryz.prog (R Qac) 0 (outK (Qae Tryz.prog Qac))))) yx) (Qal 0 (seqK (E0 lb n 0 990) (sub (B Qac) [1, 1, 1, 1, 1, 1, 1, 1, 1, 0]) (sub (B Qac) [1, 1, 1, 1, 1, 1, 1, 1, 1, 1]) (retK Tryz.prog (R Qac) 0 (outK (Qae Tryz.prog Qac))))))))) k0 ⟨fr 122 [(0, .val (.agg [.str aloc1, .list ja aper3, .int .i64 je, .list jb aseg6, .list jd aser9, .int .i64 jc])), (1, .ptr 0 1 0), (2, .lst true true 61 []), (3, .ptr 0 3 0), (4, .clo Qax [.ptr 0 3 0]), (5, vV jl), (6, vI wV), (7, .ptr 0 7 0), (13, .clo Qax [.ptr 0 3 0]), (30, .val (.list jk l17)), (31, .ptr 0 1 1), (32, .val (.list ja aper3)), (33, .ptr 0 1 2), (34, vI je), (35, vV jg), (36, .val (.list (jk && jj.2.isEmpty) (l17 ++ jj.2))), (43, .ptr 0 1 3), (44, .val (.list jb aseg6)), (45, vV jn), (46, vV jl), (52, .ptr 0 1 3), (53, .val (.list jb aseg6)), (54, .val (.int .i64 (aseg6.length : Int))), (55, vI wV), (56, .val (.bool (decide (wV < (aseg6.length : Int))))), (57, vI wV), (58, .cptr c95 0), (59, .val (.agg [jX, j5, jT, jU, jv, jt, wF, ju, jr, js])), (60, .val (.agg [jX, j5, jT, jU, jv, jt, wF, ju, jr, js])), (61, vV yG), (62, .val (.int .i64 (yL.2.length : Int))), (63, vI vb)], [bx 122 [(1, some [vS aloc1, .val (.list ja aper3), vI je, .val (.list jb aseg6), .val (.list jd aser9), vI jc]), (3, some [.lst true kk 61 l115]), (7, some [.val jX, .val j5, .val jT, .val jU, .val jv, .val jt, .val wF, .val ju, .val jr, .val js])]], KK⟩)
noncomputable def Qiv (lb n yx : Nat) (aloc1 : LB) (ja : Bool) (aper3 : LL) (je : Int) (jb : Bool) (aseg6 : LL) (jd : Bool) (aser9 : LL) (jc : Int) (jl : CV) (jk : Bool) (l17 : LL) (jg : CV) (jj : Bool × LL) (jn : CV) (wV i127 : Int) (oo : Bool) (k9 : LL) (gj gd ga oV oZ wu wP oU v138 v139 : CV) : Option CV :=
 hold (E0 lb n 0 984 (sub (B Qac) [1, 1, 1, 1, 1, 1, 1, 1, 1, 0, 1, 0, 0, 1, 1, 1]) (QbK 0 (Qaj (sub (B Qac) [1, 1, 1, 1, 1, 1, 1, 1, 1, 0, 1, 0, 0]) ++ [6, 9]) [7] (Qau (E0 lb n 0 987) 0 (Qaj (sub (B Qac) [1, 1, 1, 1, 1, 1, 1, 1, 1, 0, 1, 0, 0]) ++ [6, 9]) [7] (sub (B Qac) [1, 1, 1, 1, 1, 1, 1, 1, 1, 0, 1, 0, 0]) (Qal 0 (seqK (E0 lb n 0 990) (sub (B Qac) [1, 1, 1, 1, 1, 1, 1, 1, 1, 0]) (sub (B Qac) [1, 1, 1, 1, 1, 1, 1, 1, 1, 1]) (retK Tryz.prog (R Qac) 0 (outK (Qae Tryz.prog Qac))))) yx) (Qal 0 (seqK (E0 lb n 0 990) (sub (B Qac) [1, 1, 1, 1, 1, 1, 1, 1, 1, 0]) (sub (B Qac) [1, 1, 1, 1, 1, 1, 1, 1, 1, 1]) (retK Tryz.prog (R Qac) 0 (outK (Qae Tryz.prog Qac)))))) ⟨fr 122 [(0, .val (.agg [.str aloc1, .list ja aper3, .int .i64 je, .list jb aseg6, .list jd aser9, .int .i64 jc])), (1, .ptr 0 1 0), (2, .lst true true 61 []), (3, .ptr 0 3 0), (4, .clo Qax [.ptr 0 3 0]), (5, vV jl), (6, vI i127), (13, .clo Qax [.ptr 0 3 0]), (30, .val (.list jk l17)), (31, .ptr 0 1 1), (32, .val (.list ja aper3)), (33, .ptr 0 1 2), (34, vI je), (35, vV jg), (36, .val (.list (jk && jj.2.isEmpty) (l17 ++ jj.2))), (43, .ptr 0 1 3), (44, .val (.list jb aseg6)), (45, vV jn), (46, vV jl), (52, .ptr 0 1 3), (53, .val (.list jb aseg6)), (54, .val (.int .i64 (aseg6.length : Int))), (55, vI wV), (56, .val (.bool (decide (wV < (aseg6.length : Int)))))], [bx 122 [(1, some [vS aloc1, .val (.list ja aper3), vI je, .val (.list jb aseg6), .val (.list jd aser9), vI jc]), (3, some [.lst true oo 61 k9]), (7, some [.val gj, .val gd, .val ga, .val oV, .val oZ, .val wu, .val wP, .val oU, .val v138, .val v139])]], KK⟩)
theorem Qlr (lb n yx : Nat) (aloc1 : LB) (ja : Bool) (aper3 : LL) (je : Int) (jb : Bool) (aseg6 : LL) (jd : Bool) (aser9 : LL) (jc : Int) (jl : CV) (jk : Bool) (l17 : LL) (jg : CV) (jj : Bool × LL) (jn : CV) (wV i127 : Int) (oo : Bool) (k9 : LL) (gj gd ga oV oZ wu wP oU v138 v139 : CV) :
 Qiv lb n yx aloc1 ja aper3 je jb aseg6 jd aser9 jc jl jk l17 jg jj jn wV i127 oo k9 gj gd ga oV oZ wu wP oU v138 v139 =
 Qds lb n yx aloc1 ja aper3 je jb aseg6 jd aser9 jc jl jk l17 jg jj jn (IntKind.wrap .i64 (wV + 1)) oo k9 := (Qaf _).trans (by kernel_rfl)
theorem Qf8 (lb n k0 yx : Nat) (aloc1 : LB) (ja : Bool) (aper3 : LL) (je : Int) (jb : Bool) (aseg6 : LL) (jd : Bool) (aser9 : LL) (jc : Int) (jl : CV) (wV : Int) (jk : Bool) (l17 : LL) (jg : CV) (jj : Bool × LL) (jn : CV) (c95 : List CV) (jX j5 jT jU jv jt wF ju jr js yG : CV) (yL : Bool × LL) (vb : Int) (kk : Bool) (l115 : LL) :
 Qdo lb n (k0 + 1) yx aloc1 ja aper3 je jb aseg6 jd aser9 jc jl wV jk l17 jg jj jn c95 jX j5 jT jU jv jt wF ju jr js yG yL vb kk l115 =
 bif (decide (vb < (yL.2.length : Int))) then
 (optO (CV.asL yG) fun se =>
 optO (atL se.2 vb) fun c123 =>
 chkO (c123.length == 1) (
 optO (c123[0]?) fun oh =>
 optO (C lb n Qdf [.int .i64 wV]) fun qn =>
 optO (CV.asS qn) fun s126 =>
 chkO (decide (([115, 101, 103, 32] : LB).length + s126.length ≤ 9223372036854775807)) (
 chkO (CV.isCell oh) (
 chkO (room (l115.length + 1) 24) (
 Qdo lb n k0 yx aloc1 ja aper3 je jb aseg6 jd aser9 jc jl wV jk l17 jg jj jn c95 jX j5 jT jU jv jt wF ju jr js yG yL (IntKind.wrap .i64 (vb + 1)) (kk && false) (l115 ++ [[oh, CV.str (([115, 101, 103, 32] : LB) ++ s126)]]))))))
 else
 (Qiv lb n yx aloc1 ja aper3 je jb aseg6 jd aser9 jc jl jk l17 jg jj jn wV wV kk l115 jX j5 jT jU jv jt wF ju jr js) := (Qaf _).trans (by kernel_rfl)
noncomputable def Qf0 (lb n : Nat) (aloc1 : LB) (ja : Bool) (aper3 : LL) (je : Int) (jb : Bool) (aseg6 : LL) (jd : Bool) (aser9 : LL) (jc : Int) (jl : CV) (jk : Bool) (l17 : LL) (jg : CV) (jj : Bool × LL) (jn : CV) (oc : Bool) (od : LL) : Option CV :=
 hold (E0 lb n 0 990 (sub (B Qac) [1, 1, 1, 1, 1, 1, 1, 1, 1, 1]) (retK Tryz.prog (R Qac) 0 (outK (Qae Tryz.prog Qac))) ⟨fr 122 [(0, .val (.agg [.str aloc1, .list ja aper3, .int .i64 je, .list jb aseg6, .list jd aser9, .int .i64 jc])), (1, .ptr 0 1 0), (2, .lst true true 61 []), (3, .ptr 0 3 0), (4, .clo Qax [.ptr 0 3 0]), (5, vV jl), (13, .clo Qax [.ptr 0 3 0]), (30, .val (.list jk l17)), (31, .ptr 0 1 1), (32, .val (.list ja aper3)), (33, .ptr 0 1 2), (34, vI je), (35, vV jg), (36, .val (.list (jk && jj.2.isEmpty) (l17 ++ jj.2))), (43, .ptr 0 1 3), (44, .val (.list jb aseg6)), (45, vV jn), (46, vV jl)], [bx 122 [(1, some [vS aloc1, .val (.list ja aper3), vI je, .val (.list jb aseg6), .val (.list jd aser9), vI jc]), (3, some [.lst true oc 61 od])]], KK⟩)
noncomputable def Qa6 (lb n yl : Nat) (aloc1 : LB) (ja : Bool) (aper3 : LL) (je : Int) (jb : Bool) (aseg6 : LL) (jd : Bool) (aser9 : LL) (jc : Int) (jl : CV) (jk : Bool) (l17 : LL) (jg : CV) (jj : Bool × LL) (jn : CV) (jP : Int) (vX : Bool) (l187 : LL) : Option CV :=
 hold (Qau (E0 lb n 0 986) 0 (Qaj (sub (B Qac) [1, 1, 1, 1, 1, 1, 1, 1, 1, 1, 0, 1, 0, 0]) ++ [10, 12]) [11] (sub (B Qac) [1, 1, 1, 1, 1, 1, 1, 1, 1, 1, 0, 1, 0, 0]) (Qal 4 (seqK (E0 lb n 0 989) (sub (B Qac) [1, 1, 1, 1, 1, 1, 1, 1, 1, 1, 0]) (sub (B Qac) [1, 1, 1, 1, 1, 1, 1, 1, 1, 1, 1]) (retK Tryz.prog (R Qac) 0 (outK (Qae Tryz.prog Qac))))) yl ⟨fr 122 [(0, .val (.agg [.str aloc1, .list ja aper3, .int .i64 je, .list jb aseg6, .list jd aser9, .int .i64 jc])), (1, .ptr 0 1 0), (2, .lst true true 61 []), (3, .ptr 0 3 0), (4, .clo Qax [.ptr 0 3 0]), (5, vV jl), (13, .clo Qax [.ptr 0 3 0]), (30, .val (.list jk l17)), (31, .ptr 0 1 1), (32, .val (.list ja aper3)), (33, .ptr 0 1 2), (34, vI je), (35, vV jg), (36, .val (.list (jk && jj.2.isEmpty) (l17 ++ jj.2))), (43, .ptr 0 1 3), (44, .val (.list jb aseg6)), (45, vV jn), (46, vV jl), (75, .ptr 0 1 4), (76, .val (.list jd aser9)), (77, .val (.int .i64 (aser9.length : Int))), (78, vI jP)], [bx 122 [(1, some [vS aloc1, .val (.list ja aper3), vI je, .val (.list jb aseg6), .val (.list jd aser9), vI jc]), (3, some [.lst true vX 61 l187])]], KK⟩)
noncomputable def Qc7 (lb n yl : Nat) (aloc1 : LB) (ja : Bool) (aper3 : LL) (je : Int) (jb : Bool) (aseg6 : LL) (jd : Bool) (aser9 : LL) (jc : Int) (jl : CV) (jP : Int) (s210 : LB) (jk : Bool) (l17 : LL) (jg : CV) (jj : Bool × LL) (jn : CV) (c205 : List CV) (wW yz yN yZ : CV) (vz : Bool) (l214 : LL) : Option CV :=
 hold (E0 lb n 0 979 (sub (B Qac) [1, 1, 1, 1, 1, 1, 1, 1, 1, 1, 0, 1, 0, 0, 1, 1, 0, 0, 1, 1, 1]) (Qal 5 (seqK (E0 lb n 0 983) (sub (B Qac) [1, 1, 1, 1, 1, 1, 1, 1, 1, 1, 0, 1, 0, 0, 1, 1, 0]) (sub (B Qac) [1, 1, 1, 1, 1, 1, 1, 1, 1, 1, 0, 1, 0, 0, 1, 1, 1]) (QbK 0 (Qaj (sub (B Qac) [1, 1, 1, 1, 1, 1, 1, 1, 1, 1, 0, 1, 0, 0]) ++ [10, 12]) [11] (Qau (E0 lb n 0 986) 0 (Qaj (sub (B Qac) [1, 1, 1, 1, 1, 1, 1, 1, 1, 1, 0, 1, 0, 0]) ++ [10, 12]) [11] (sub (B Qac) [1, 1, 1, 1, 1, 1, 1, 1, 1, 1, 0, 1, 0, 0]) (Qal 4 (seqK (E0 lb n 0 989) (sub (B Qac) [1, 1, 1, 1, 1, 1, 1, 1, 1, 1, 0]) (sub (B Qac) [1, 1, 1, 1, 1, 1, 1, 1, 1, 1, 1]) (retK Tryz.prog (R Qac) 0 (outK (Qae Tryz.prog Qac))))) yl) (Qal 4 (seqK (E0 lb n 0 989) (sub (B Qac) [1, 1, 1, 1, 1, 1, 1, 1, 1, 1, 0]) (sub (B Qac) [1, 1, 1, 1, 1, 1, 1, 1, 1, 1, 1]) (retK Tryz.prog (R Qac) 0 (outK (Qae Tryz.prog Qac)))))))) ⟨fr 122 [(0, .val (.agg [.str aloc1, .list ja aper3, .int .i64 je, .list jb aseg6, .list jd aser9, .int .i64 jc])), (1, .ptr 0 1 0), (2, .lst true true 61 []), (3, .ptr 0 3 0), (4, .clo Qax [.ptr 0 3 0]), (5, vV jl), (10, vI jP), (11, .ptr 0 11 0), (12, .val (.str (([115, 101, 114, 118, 105, 99, 101, 32] : LB) ++ s210))), (13, .clo Qax [.ptr 0 3 0]), (30, .val (.list jk l17)), (31, .ptr 0 1 1), (32, .val (.list ja aper3)), (33, .ptr 0 1 2), (34, vI je), (35, vV jg), (36, .val (.list (jk && jj.2.isEmpty) (l17 ++ jj.2))), (43, .ptr 0 1 3), (44, .val (.list jb aseg6)), (45, vV jn), (46, vV jl), (75, .ptr 0 1 4), (76, .val (.list jd aser9)), (77, .val (.int .i64 (aser9.length : Int))), (78, vI jP), (79, .val (.bool (decide (jP < (aser9.length : Int))))), (80, vI jP), (81, .cptr c205 0), (82, .val (.agg [wW, yz, yN])), (83, vI jP), (84, vV yZ), (85, .val (.str (([115, 101, 114, 118, 105, 99, 101, 32] : LB) ++ s210)))], [bx 122 [(1, some [vS aloc1, .val (.list ja aper3), vI je, .val (.list jb aseg6), .val (.list jd aser9), vI jc]), (3, some [.lst true vz 61 l214]), (11, some [.val wW, .val yz, .val yN])]], KK⟩)
theorem Qkx (lb n yl : Nat) (aloc1 : LB) (ja : Bool) (aper3 : LL) (je : Int) (jb : Bool) (aseg6 : LL) (jd : Bool) (aser9 : LL) (jc : Int) (jl : CV) (jP : Int) (s210 : LB) (jk : Bool) (l17 : LL) (jg : CV) (jj : Bool × LL) (jn : CV) (c205 : List CV) (wW yz yN yZ : CV) (vz : Bool) (l214 : LL) :
 Qc7 lb n yl aloc1 ja aper3 je jb aseg6 jd aser9 jc jl jP s210 jk l17 jg jj jn c205 wW yz yN yZ vz l214 =
 optO (CV.asI .i64 yz) fun oW =>
 bif (decide (oW < 0)) then
 (chkO (room (l214.length + 1) 24) (
 Qa6 lb n yl aloc1 ja aper3 je jb aseg6 jd aser9 jc jl jk l17 jg jj jn (IntKind.wrap .i64 (jP + 1)) (vz && false) (l214 ++ [[CV.int .i64 7, CV.str (([115, 101, 114, 118, 105, 99, 101, 32] : LB) ++ s210)]])))
 else
 (optO (CV.asI .i64 yz) fun oL =>
 bif (decide (oL ≥ (aper3.length : Int))) then
 (chkO (room (l214.length + 1) 24) (
 Qa6 lb n yl aloc1 ja aper3 je jb aseg6 jd aser9 jc jl jk l17 jg jj jn (IntKind.wrap .i64 (jP + 1)) (vz && false) (l214 ++ [[CV.int .i64 7, CV.str (([115, 101, 114, 118, 105, 99, 101, 32] : LB) ++ s210)]])))
 else
 (optO (CV.asI .i64 yN) fun pR =>
 bif (decide (pR < 0)) then
 (chkO (room (l214.length + 1) 24) (
 Qa6 lb n yl aloc1 ja aper3 je jb aseg6 jd aser9 jc jl jk l17 jg jj jn (IntKind.wrap .i64 (jP + 1)) (vz && false) (l214 ++ [[CV.int .i64 7, CV.str (([115, 101, 114, 118, 105, 99, 101, 32] : LB) ++ s210)]])))
 else
 (optO (CV.asI .i64 yN) fun pM =>
 bif (decide (pM ≥ (aseg6.length : Int))) then
 (chkO (room (l214.length + 1) 24) (
 Qa6 lb n yl aloc1 ja aper3 je jb aseg6 jd aser9 jc jl jk l17 jg jj jn (IntKind.wrap .i64 (jP + 1)) (vz && false) (l214 ++ [[CV.int .i64 7, CV.str (([115, 101, 114, 118, 105, 99, 101, 32] : LB) ++ s210)]])))
 else
 (Qa6 lb n yl aloc1 ja aper3 je jb aseg6 jd aser9 jc jl jk l17 jg jj jn (IntKind.wrap .i64 (jP + 1)) vz l214)))) := (Qaf _).trans (by kernel_rfl)
noncomputable def Qh7 (lb n : Nat) (aloc1 : LB) (ja : Bool) (aper3 : LL) (je : Int) (jb : Bool) (aseg6 : LL) (jd : Bool) (aser9 : LL) (jc : Int) (jl : CV) (jk : Bool) (l17 : LL) (jg : CV) (jj : Bool × LL) (jn : CV) (om : Bool) (kY : LL) : Option CV :=
 hold (E0 lb n 0 989 (sub (B Qac) [1, 1, 1, 1, 1, 1, 1, 1, 1, 1, 1]) (retK Tryz.prog (R Qac) 0 (outK (Qae Tryz.prog Qac))) ⟨fr 122 [(0, .val (.agg [.str aloc1, .list ja aper3, .int .i64 je, .list jb aseg6, .list jd aser9, .int .i64 jc])), (1, .ptr 0 1 0), (2, .lst true true 61 []), (3, .ptr 0 3 0), (4, .clo Qax [.ptr 0 3 0]), (5, vV jl), (13, .clo Qax [.ptr 0 3 0]), (30, .val (.list jk l17)), (31, .ptr 0 1 1), (32, .val (.list ja aper3)), (33, .ptr 0 1 2), (34, vI je), (35, vV jg), (36, .val (.list (jk && jj.2.isEmpty) (l17 ++ jj.2))), (43, .ptr 0 1 3), (44, .val (.list jb aseg6)), (45, vV jn), (46, vV jl)], [bx 122 [(1, some [vS aloc1, .val (.list ja aper3), vI je, .val (.list jb aseg6), .val (.list jd aser9), vI jc]), (3, some [.lst true om 61 kY])]], KK⟩)
theorem QkT (lb n : Nat) (aloc1 : LB) (ja : Bool) (aper3 : LL) (je : Int) (jb : Bool) (aseg6 : LL) (jd : Bool) (aser9 : LL) (jc : Int) (jl : CV) (jk : Bool) (l17 : LL) (jg : CV) (jj : Bool × LL) (jn : CV) (om : Bool) (kY : LL) :
 Qh7 lb n aloc1 ja aper3 je jb aseg6 jd aser9 jc jl jk l17 jg jj jn om kY =
 some (.list om kY) := (Qaf _).trans (by kernel_rfl)
theorem Qf1 (lb n yl : Nat) (aloc1 : LB) (ja : Bool) (aper3 : LL) (je : Int) (jb : Bool) (aseg6 : LL) (jd : Bool) (aser9 : LL) (jc : Int) (jl : CV) (jk : Bool) (l17 : LL) (jg : CV) (jj : Bool × LL) (jn : CV) (jP : Int) (vX : Bool) (l187 : LL) :
 Qa6 lb n (yl + 1) aloc1 ja aper3 je jb aseg6 jd aser9 jc jl jk l17 jg jj jn jP vX l187 =
 bif (decide (jP < (aser9.length : Int))) then
 (optO (atL aser9 jP) fun c205 =>
 chkO (c205.length == 3) (
 optO (c205[0]?) fun wW =>
 optO (c205[1]?) fun yz =>
 optO (c205[2]?) fun yN =>
 optO (C lb n Qdf [.int .i64 jP]) fun yZ =>
 optO (CV.asS yZ) fun s210 =>
 chkO (decide (([115, 101, 114, 118, 105, 99, 101, 32] : LB).length + s210.length ≤ 9223372036854775807)) (
 optO (C lb n Qev [wW, .int .i64 4, .int .i64 4]) fun nM =>
 optO (CV.asB nM) fun nP =>
 bif (!nP) then
 (chkO (room (l187.length + 1) 24) (
 Qc7 lb n yl aloc1 ja aper3 je jb aseg6 jd aser9 jc jl jP s210 jk l17 jg jj jn c205 wW yz yN yZ (vX && false) (l187 ++ [[CV.int .i64 5, CV.str (([115, 101, 114, 118, 105, 99, 101, 32] : LB) ++ s210)]])))
 else
 (Qc7 lb n yl aloc1 ja aper3 je jb aseg6 jd aser9 jc jl jP s210 jk l17 jg jj jn c205 wW yz yN yZ vX l187))))
 else
 (Qh7 lb n aloc1 ja aper3 je jb aseg6 jd aser9 jc jl jk l17 jg jj jn vX l187) := (Qaf _).trans (by kernel_rfl)
theorem Qlw (lb n : Nat) (aloc1 : LB) (ja : Bool) (aper3 : LL) (je : Int) (jb : Bool) (aseg6 : LL) (jd : Bool) (aser9 : LL) (jc : Int) (jl : CV) (jk : Bool) (l17 : LL) (jg : CV) (jj : Bool × LL) (jn : CV) (oc : Bool) (od : LL) :
 Qf0 lb n aloc1 ja aper3 je jb aseg6 jd aser9 jc jl jk l17 jg jj jn oc od =
 Qa6 lb n n aloc1 ja aper3 je jb aseg6 jd aser9 jc jl jk l17 jg jj jn 0 oc od := (Qaf _).trans (by kernel_rfl)
theorem Qf2 (lb n yx : Nat) (aloc1 : LB) (ja : Bool) (aper3 : LL) (je : Int) (jb : Bool) (aseg6 : LL) (jd : Bool) (aser9 : LL) (jc : Int) (jl : CV) (jk : Bool) (l17 : LL) (jg : CV) (jj : Bool × LL) (jn : CV) (wV : Int) (oz : Bool) (ot : LL) :
 Qds lb n (yx + 1) aloc1 ja aper3 je jb aseg6 jd aser9 jc jl jk l17 jg jj jn wV oz ot =
 bif (decide (wV < (aseg6.length : Int))) then
 (optO (atL aseg6 wV) fun c95 =>
 chkO (c95.length == 10) (
 optO (c95[0]?) fun jX =>
 optO (c95[1]?) fun j5 =>
 optO (c95[2]?) fun jT =>
 optO (c95[3]?) fun jU =>
 optO (c95[4]?) fun jv =>
 optO (c95[5]?) fun jt =>
 optO (c95[6]?) fun wF =>
 optO (c95[7]?) fun ju =>
 optO (c95[8]?) fun jr =>
 optO (c95[9]?) fun js =>
 optO (C lb n Qbi [.agg [jX, j5, jT, jU, jv, jt, wF, ju, jr, js]]) fun yG =>
 optO (CV.asL yG) fun yL =>
 Qdo lb n n yx aloc1 ja aper3 je jb aseg6 jd aser9 jc jl wV jk l17 jg jj jn c95 jX j5 jT jU jv jt wF ju jr js yG yL 0 oz ot))
 else
 (Qf0 lb n aloc1 ja aper3 je jb aseg6 jd aser9 jc jl jk l17 jg jj jn oz ot) := (Qaf _).trans (by kernel_rfl)
theorem Qlq (lb n : Nat) (aloc1 : LB) (ja : Bool) (aper3 : LL) (je : Int) (jb : Bool) (aseg6 : LL) (jd : Bool) (aser9 : LL) (jc : Int) (jl : CV) (jk : Bool) (l17 : LL) (jg : CV) (jj : Bool × LL) (jn : CV) (vj : Bool) (vQ : LL) :
 Qdn lb n aloc1 ja aper3 je jb aseg6 jd aser9 jc jl jk l17 jg jj jn vj vQ =
 Qds lb n n aloc1 ja aper3 je jb aseg6 jd aser9 jc jl jk l17 jg jj jn 0 vj vQ := (Qaf _).trans (by kernel_rfl)
theorem Qls (lb n : Nat) (aloc1 : LB) (ja : Bool) (aper3 : LL) (je : Int) (jb : Bool) (aseg6 : LL) (jd : Bool) (aser9 : LL) (jc : Int) (jk : Bool) (l17 : LL) (jg : CV) (jj : Bool × LL) (yX : Bool) (l21 : LL) :
 Qb9 lb n aloc1 ja aper3 je jb aseg6 jd aser9 jc jk l17 jg jj yX l21 =
 optO (C lb n QaQ [.list jb aseg6]) fun jn =>
 optO (C lb n QaN [jn]) fun jl =>
 optO (CV.asI .i64 jl) fun vm =>
 bif (vm != 0) then
 (chkO (CV.isCell jl) (
 chkO (room (l21.length + 1) 24) (
 Qdn lb n aloc1 ja aper3 je jb aseg6 jd aser9 jc jl jk l17 jg jj jn (yX && false) (l21 ++ [[jl, CV.str [115, 101, 103, 115]]]))))
 else
 (Qdn lb n aloc1 ja aper3 je jb aseg6 jd aser9 jc jl jk l17 jg jj jn yX l21) := (Qaf _).trans (by kernel_rfl)
theorem Qlz (lb n : Nat) (aloc1 : LB) (ja : Bool) (aper3 : LL) (je : Int) (jb : Bool) (aseg6 : LL) (jd : Bool) (aser9 : LL) (jc : Int) (jk : Bool) (l17 : LL) :
 Qcb lb n aloc1 ja aper3 je jb aseg6 jd aser9 jc jk l17 =
 optO (C lb n QaJ [.list ja aper3, .int .i64 je]) fun jg =>
 optO (CV.asL jg) fun jj =>
 chkO (jj.2.all (·.length == 2)) (
 chkO (room (l17.length + jj.2.length) 24) (
 bif (decide ((aseg6.length : Int) > 24)) then
 (chkO (room ((l17 ++ jj.2).length + 1) 24) (
 Qb9 lb n aloc1 ja aper3 je jb aseg6 jd aser9 jc jk l17 jg jj ((jk && jj.2.isEmpty) && false) ((l17 ++ jj.2) ++ [[CV.int .i64 4, CV.str [115, 101, 103, 115]]])))
 else
 (Qb9 lb n aloc1 ja aper3 je jb aseg6 jd aser9 jc jk l17 jg jj (jk && jj.2.isEmpty) (l17 ++ jj.2)))) := (Qaf _).trans (by kernel_rfl)
theorem Qlu (lb n : Nat) (aloc1 : LB) (ja : Bool) (aper3 : LL) (je : Int) (jb : Bool) (aseg6 : LL) (jd : Bool) (aser9 : LL) (jc : Int) (wX : Bool) (l14 : LL) :
 booking_Check_J1 lb n aloc1 ja aper3 je jb aseg6 jd aser9 jc wX l14 =
 bif (decide (jc < 0)) then
 (chkO (room (l14.length + 1) 24) (
 Qcb lb n aloc1 ja aper3 je jb aseg6 jd aser9 jc (wX && false) (l14 ++ [[CV.int .i64 13, CV.str [108, 105, 109, 105, 116]]])))
 else
 (bif (decide (jc ≥ 52596000)) then
 (chkO (room (l14.length + 1) 24) (
 Qcb lb n aloc1 ja aper3 je jb aseg6 jd aser9 jc (wX && false) (l14 ++ [[CV.int .i64 13, CV.str [108, 105, 109, 105, 116]]])))
 else
 (Qcb lb n aloc1 ja aper3 je jb aseg6 jd aser9 jc wX l14)) := (Qaf _).trans (by kernel_rfl)
theorem QnX (lb n : Nat) (aloc1 : LB) (ja : Bool) (aper3 : LL) (je : Int) (jb : Bool) (aseg6 : LL) (jd : Bool) (aser9 : LL) (jc : Int) :
 top lb n Qac [.agg [.str aloc1, .list ja aper3, .int .i64 je, .list jb aseg6, .list jd aser9, .int .i64 jc]] =
 optO (C lb n Qfp [.str aloc1]) fun kU =>
 optO (CV.asB kU) fun b12 =>
 bif (!b12) then
 (booking_Check_J1 lb n aloc1 ja aper3 je jb aseg6 jd aser9 jc false [[CV.int .i64 5, CV.str [108, 111, 99, 97, 116, 111, 114]]])
 else
 (booking_Check_J1 lb n aloc1 ja aper3 je jb aseg6 jd aser9 jc true []) := by kernel_rfl
end Go.Proofs
