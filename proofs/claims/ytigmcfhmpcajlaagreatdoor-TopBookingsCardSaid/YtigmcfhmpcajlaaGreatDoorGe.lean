/- Equations of functions, printed by program. Conditions: none. -/
import Derived.Test.YtigmcfhmpcajlaaGreatDoorEv
namespace Go.Proofs
open Go.Am
set_option maxRecDepth 100000
set_option linter.unusedVariables false
noncomputable def top_TopBookings_L1 :=
 fun lb n (jk : Nat) jf (jb : Bool) (aper3 : LL) je (ja : Bool) (aseg6 : LL) (jd : Bool) (aser9 : LL) jc (jm : Bool) (b12 : LL) (jn : Bool) (c14 : LL) jl jy jx ju jq jt jz =>
 hold (QaA (E0 lb n 0 994) 0 (Qag (sub (B Qaa) [1, 1, 0, 1, 0, 0]) ++ [9, 10, 11, 14, 15, 14, 11]) [8, 12, 13] (sub (B Qaa) [1, 1, 0, 1, 0, 0]) (Qal 0 (seqK (E0 lb n 0 997) (sub (B Qaa) [1, 1, 0]) (sub (B Qaa) [1, 1, 1]) (retK Tryz.prog (R Qaa) 0 (outK (Qah Tryz.prog Qaa))))) jk ⟨fr 198 [(0, .val (.agg [.str jf, .list jb aper3, .int .i64 je, .list ja aseg6, .list jd aser9, .int .i64 jc])), (1, .val (.list jm b12)), (2, .val (.list jn c14)), (3, .ptr 0 3 0), (6, vB false), (7, vI jl)], [bx 198 [(3, some [.val jy, .val jx, .val ju, .val jq, .val jt, .val jz])]], KK⟩)
noncomputable def QcK (lb n jk : Nat) (jf : LB) (jb : Bool) (aper3 : LL) (je : Int) (ja : Bool) (aseg6 : LL) (jd : Bool) (aser9 : LL) (jc : Int) (jm : Bool) (b12 : LL) (jn : Bool) (c14 : LL) (jl : Int) (jy jx ju jq jt jz : CV) : Option CV :=
 hold (E0 lb n 0 992 (sub (B Qaa) [1, 1, 0, 1, 0, 0, 1, 1]) (Qbq 0 (Qag (sub (B Qaa) [1, 1, 0, 1, 0, 0]) ++ [9, 10, 11, 14, 15, 14, 11]) [8, 12, 13] (QaA (E0 lb n 0 994) 0 (Qag (sub (B Qaa) [1, 1, 0, 1, 0, 0]) ++ [9, 10, 11, 14, 15, 14, 11]) [8, 12, 13] (sub (B Qaa) [1, 1, 0, 1, 0, 0]) (Qal 0 (seqK (E0 lb n 0 997) (sub (B Qaa) [1, 1, 0]) (sub (B Qaa) [1, 1, 1]) (retK Tryz.prog (R Qaa) 0 (outK (Qah Tryz.prog Qaa))))) jk) (Qal 0 (seqK (E0 lb n 0 997) (sub (B Qaa) [1, 1, 0]) (sub (B Qaa) [1, 1, 1]) (retK Tryz.prog (R Qaa) 0 (outK (Qah Tryz.prog Qaa)))))) ⟨fr 198 [(0, .val (.agg [.str jf, .list jb aper3, .int .i64 je, .list ja aseg6, .list jd aser9, .int .i64 jc])), (1, .val (.list jm b12)), (2, .val (.list jn c14)), (3, .ptr 0 3 0), (6, vB false), (7, vI jl)], [bx 198 [(3, some [.val jy, .val jx, .val ju, .val jq, .val jt, .val jz])]], KK⟩)
theorem QcY (lb n jk : Nat) (jf : LB) (jb : Bool) (aper3 : LL) (je : Int) (ja : Bool) (aseg6 : LL) (jd : Bool) (aser9 : LL) (jc : Int) (jm : Bool) (b12 : LL) (jn : Bool) (c14 : LL) (jl : Int) (jy jx ju jq jt jz : CV) :
 QcK lb n jk jf jb aper3 je ja aseg6 jd aser9 jc jm b12 jn c14 jl jy jx ju jq jt jz =
 top_TopBookings_L1 lb n jk jf jb aper3 je ja aseg6 jd aser9 jc jm b12 jn c14 (IntKind.wrap .i64 (jl + 1)) jy jx ju jq jt jz := (Qai _).trans (by kernel_rfl)
noncomputable def QfG (lb n jk : Nat) (jf : LB) (jb : Bool) (aper3 : LL) (je : Int) (ja : Bool) (aseg6 : LL) (jd : Bool) (aser9 : LL) (jc : Int) (jm : Bool) (b12 : LL) (jn : Bool) (c14 : LL) (jl : Int) (jy jx ju jq jt jz vt y6 vr vG vn yK yQ yY : CV) : Option CV :=
 hold (E0 lb n 0 992 (sub (B Qaa) [1, 1, 0, 1, 0, 0, 1, 1]) (Qbq 0 (Qag (sub (B Qaa) [1, 1, 0, 1, 0, 0]) ++ [9, 10, 11, 14, 15, 14, 11]) [8, 12, 13] (QaA (E0 lb n 0 994) 0 (Qag (sub (B Qaa) [1, 1, 0, 1, 0, 0]) ++ [9, 10, 11, 14, 15, 14, 11]) [8, 12, 13] (sub (B Qaa) [1, 1, 0, 1, 0, 0]) (Qal 0 (seqK (E0 lb n 0 997) (sub (B Qaa) [1, 1, 0]) (sub (B Qaa) [1, 1, 1]) (retK Tryz.prog (R Qaa) 0 (outK (Qah Tryz.prog Qaa))))) jk) (Qal 0 (seqK (E0 lb n 0 997) (sub (B Qaa) [1, 1, 0]) (sub (B Qaa) [1, 1, 1]) (retK Tryz.prog (R Qaa) 0 (outK (Qah Tryz.prog Qaa)))))) ⟨fr 198 [(0, .val (.agg [.str jf, .list jb aper3, .int .i64 je, .list ja aseg6, .list jd aser9, .int .i64 jc])), (1, .val (.list jm b12)), (2, .val (.list jn c14)), (3, .ptr 0 3 0), (6, vB false), (7, vI jl), (9, vV vt), (10, vV y6)], [bx 198 [(3, some [.val jy, .val jx, .val ju, .val jq, .val jt, .val jz]), (8, some [.val vr, .val vG, .val vn, .val yK, .val yQ, .val yY])]], KK⟩)
theorem Qhy (lb n jk : Nat) (jf : LB) (jb : Bool) (aper3 : LL) (je : Int) (ja : Bool) (aseg6 : LL) (jd : Bool) (aser9 : LL) (jc : Int) (jm : Bool) (b12 : LL) (jn : Bool) (c14 : LL) (jl : Int) (jy jx ju jq jt jz vt y6 vr vG vn yK yQ yY : CV) :
 QfG lb n jk jf jb aper3 je ja aseg6 jd aser9 jc jm b12 jn c14 jl jy jx ju jq jt jz vt y6 vr vG vn yK yQ yY =
 top_TopBookings_L1 lb n jk jf jb aper3 je ja aseg6 jd aser9 jc jm b12 jn c14 (IntKind.wrap .i64 (jl + 1)) jy jx ju jq jt jz := (Qai _).trans (by kernel_rfl)
noncomputable def QbZ (lb n jS jk : Nat) (jf : LB) (jb : Bool) (aper3 : LL) (je : Int) (ja : Bool) (aseg6 : LL) (jd : Bool) (aser9 : LL) (jc : Int) (jm : Bool) (b12 : LL) (jn : Bool) (c14 : LL) (jl : Int) (jE jF jD jy jx ju jq jt jz : CV) (c1524 : List CV) (jM : CV) (c1526 : List CV) (jN jO jJ jK jI jB jH jL : CV) (jP : Int) : Option CV :=
 hold (QaA (E0 lb n 0 983) 0 (Qag (sub (B Qaa) [1, 1, 0, 1, 0, 0, 1, 0, 0, 1, 1, 1, 1, 0, 1, 0, 0]) ++ [14, 15, 14]) [12, 13] (sub (B Qaa) [1, 1, 0, 1, 0, 0, 1, 0, 0, 1, 1, 1, 1, 0, 1, 0, 0]) (Qal 2 (seqK (E0 lb n 0 986) (sub (B Qaa) [1, 1, 0, 1, 0, 0, 1, 0, 0, 1, 1, 1, 1, 0]) (sub (B Qaa) [1, 1, 0, 1, 0, 0, 1, 0, 0, 1, 1, 1, 1, 1]) (Qal 1 (seqK (E0 lb n 0 992) (sub (B Qaa) [1, 1, 0, 1, 0, 0, 1, 0]) (sub (B Qaa) [1, 1, 0, 1, 0, 0, 1, 1]) (Qbq 0 (Qag (sub (B Qaa) [1, 1, 0, 1, 0, 0]) ++ [9, 10, 11, 14, 15, 14, 11]) [8, 12, 13] (QaA (E0 lb n 0 994) 0 (Qag (sub (B Qaa) [1, 1, 0, 1, 0, 0]) ++ [9, 10, 11, 14, 15, 14, 11]) [8, 12, 13] (sub (B Qaa) [1, 1, 0, 1, 0, 0]) (Qal 0 (seqK (E0 lb n 0 997) (sub (B Qaa) [1, 1, 0]) (sub (B Qaa) [1, 1, 1]) (retK Tryz.prog (R Qaa) 0 (outK (Qah Tryz.prog Qaa))))) jk) (Qal 0 (seqK (E0 lb n 0 997) (sub (B Qaa) [1, 1, 0]) (sub (B Qaa) [1, 1, 1]) (retK Tryz.prog (R Qaa) 0 (outK (Qah Tryz.prog Qaa)))))))))) jS ⟨fr 198 [(0, .val (.agg [.str jf, .list jb aper3, .int .i64 je, .list ja aseg6, .list jd aser9, .int .i64 jc])), (1, .val (.list jm b12)), (2, .val (.list jn c14)), (3, .ptr 0 3 0), (6, vB false), (7, vI jl), (8, .ptr 0 8 0), (9, vV jE), (10, vV jF), (11, vI jP), (76, vV jD), (77, .val (.agg [jy, jx, ju, jq, jt, jz])), (78, .val (.list jm b12)), (79, vI jl), (80, .cptr c1524 0), (81, vV jM), (82, .val (.list jn c14)), (83, vI jl), (84, .cptr c1526 0), (85, vV jN), (86, vV jD), (87, vV jO), (88, vV jE), (89, vV jF)], [bx 198 [(3, some [.val jy, .val jx, .val ju, .val jq, .val jt, .val jz]), (8, some [.val jJ, .val jK, .val jI, .val jB, .val jH, .val jL])]], KK⟩)
noncomputable def QaJ (lb n wY jk jS : Nat) (jf : LB) (jb : Bool) (aper3 : LL) (je : Int) (ja : Bool) (aseg6 : LL) (jd : Bool) (aser9 : LL) (jc : Int) (jm : Bool) (b12 : LL) (jn : Bool) (c14 : LL) (jl : Int) (jE jF : CV) (jP : Int) (jD jy jx ju jq jt jz : CV) (c1524 : List CV) (jM : CV) (c1526 : List CV) (jN jO : CV) (c1979 : List CV) (j2 we wa j6 j4 jX wh j9 j8 jT jB : CV) (c1991 : List CV) (j5 wb jY wg j7 wc j3 jZ jU wd jJ jK jI jH jL : CV) (ww : Int) : Option CV :=
 hold (QaA (E0 lb n 0 975) 0 (Qag (sub (B Qaa) [1, 1, 0, 1, 0, 0, 1, 0, 0, 1, 1, 1, 1, 0, 1, 0, 0, 1, 0, 0, 1, 1, 1, 0, 0]) ++ [15]) [] (sub (B Qaa) [1, 1, 0, 1, 0, 0, 1, 0, 0, 1, 1, 1, 1, 0, 1, 0, 0, 1, 0, 0, 1, 1, 1, 0, 0]) (Qal 4 (Qal 3 (seqK (E0 lb n 0 981) (sub (B Qaa) [1, 1, 0, 1, 0, 0, 1, 0, 0, 1, 1, 1, 1, 0, 1, 0, 0, 1, 0]) (sub (B Qaa) [1, 1, 0, 1, 0, 0, 1, 0, 0, 1, 1, 1, 1, 0, 1, 0, 0, 1, 1]) (Qbq 0 (Qag (sub (B Qaa) [1, 1, 0, 1, 0, 0, 1, 0, 0, 1, 1, 1, 1, 0, 1, 0, 0]) ++ [14, 15, 14]) [12, 13] (QaA (E0 lb n 0 983) 0 (Qag (sub (B Qaa) [1, 1, 0, 1, 0, 0, 1, 0, 0, 1, 1, 1, 1, 0, 1, 0, 0]) ++ [14, 15, 14]) [12, 13] (sub (B Qaa) [1, 1, 0, 1, 0, 0, 1, 0, 0, 1, 1, 1, 1, 0, 1, 0, 0]) (Qal 2 (seqK (E0 lb n 0 986) (sub (B Qaa) [1, 1, 0, 1, 0, 0, 1, 0, 0, 1, 1, 1, 1, 0]) (sub (B Qaa) [1, 1, 0, 1, 0, 0, 1, 0, 0, 1, 1, 1, 1, 1]) (Qal 1 (seqK (E0 lb n 0 992) (sub (B Qaa) [1, 1, 0, 1, 0, 0, 1, 0]) (sub (B Qaa) [1, 1, 0, 1, 0, 0, 1, 1]) (Qbq 0 (Qag (sub (B Qaa) [1, 1, 0, 1, 0, 0]) ++ [9, 10, 11, 14, 15, 14, 11]) [8, 12, 13] (QaA (E0 lb n 0 994) 0 (Qag (sub (B Qaa) [1, 1, 0, 1, 0, 0]) ++ [9, 10, 11, 14, 15, 14, 11]) [8, 12, 13] (sub (B Qaa) [1, 1, 0, 1, 0, 0]) (Qal 0 (seqK (E0 lb n 0 997) (sub (B Qaa) [1, 1, 0]) (sub (B Qaa) [1, 1, 1]) (retK Tryz.prog (R Qaa) 0 (outK (Qah Tryz.prog Qaa))))) jk) (Qal 0 (seqK (E0 lb n 0 997) (sub (B Qaa) [1, 1, 0]) (sub (B Qaa) [1, 1, 1]) (retK Tryz.prog (R Qaa) 0 (outK (Qah Tryz.prog Qaa)))))))))) jS) (Qal 2 (seqK (E0 lb n 0 986) (sub (B Qaa) [1, 1, 0, 1, 0, 0, 1, 0, 0, 1, 1, 1, 1, 0]) (sub (B Qaa) [1, 1, 0, 1, 0, 0, 1, 0, 0, 1, 1, 1, 1, 1]) (Qal 1 (seqK (E0 lb n 0 992) (sub (B Qaa) [1, 1, 0, 1, 0, 0, 1, 0]) (sub (B Qaa) [1, 1, 0, 1, 0, 0, 1, 1]) (Qbq 0 (Qag (sub (B Qaa) [1, 1, 0, 1, 0, 0]) ++ [9, 10, 11, 14, 15, 14, 11]) [8, 12, 13] (QaA (E0 lb n 0 994) 0 (Qag (sub (B Qaa) [1, 1, 0, 1, 0, 0]) ++ [9, 10, 11, 14, 15, 14, 11]) [8, 12, 13] (sub (B Qaa) [1, 1, 0, 1, 0, 0]) (Qal 0 (seqK (E0 lb n 0 997) (sub (B Qaa) [1, 1, 0]) (sub (B Qaa) [1, 1, 1]) (retK Tryz.prog (R Qaa) 0 (outK (Qah Tryz.prog Qaa))))) jk) (Qal 0 (seqK (E0 lb n 0 997) (sub (B Qaa) [1, 1, 0]) (sub (B Qaa) [1, 1, 1]) (retK Tryz.prog (R Qaa) 0 (outK (Qah Tryz.prog Qaa)))))))))))))) wY ⟨fr 198 [(0, .val (.agg [.str jf, .list jb aper3, .int .i64 je, .list ja aseg6, .list jd aser9, .int .i64 jc])), (1, .val (.list jm b12)), (2, .val (.list jn c14)), (3, .ptr 0 3 0), (6, vB false), (7, vI jl), (8, .ptr 0 8 0), (9, vV jE), (10, vV jF), (11, vI jP), (12, .ptr 0 12 0), (13, .ptr 0 13 0), (14, vI ww), (76, vV jD), (77, .val (.agg [jy, jx, ju, jq, jt, jz])), (78, .val (.list jm b12)), (79, vI jl), (80, .cptr c1524 0), (81, vV jM), (82, .val (.list jn c14)), (83, vI jl), (84, .cptr c1526 0), (85, vV jN), (86, vV jD), (87, vV jO), (88, vV jE), (89, vV jF), (111, .ptr 0 3 3), (112, vV jq), (113, vI jP), (114, .cptr c1979 0), (115, .val (.agg [j2, we, wa, j6, j4, jX, wh, j9, j8, jT])), (116, .ptr 0 8 3), (117, vV jB), (118, vI jP), (119, .cptr c1991 0), (120, .val (.agg [j5, wb, jY, wg, j7, wc, j3, jZ, jU, wd]))], [bx 198 [(3, some [.val jy, .val jx, .val ju, .val jq, .val jt, .val jz]), (8, some [.val jJ, .val jK, .val jI, .val jB, .val jH, .val jL]), (12, some [.val j2, .val we, .val wa, .val j6, .val j4, .val jX, .val wh, .val j9, .val j8, .val jT]), (13, some [.val j5, .val wb, .val jY, .val wg, .val j7, .val wc, .val j3, .val jZ, .val jU, .val wd])]], KK⟩)
noncomputable def Qfw (lb n jk jS : Nat) (jf : LB) (jb : Bool) (aper3 : LL) (je : Int) (ja : Bool) (aseg6 : LL) (jd : Bool) (aser9 : LL) (jc : Int) (jm : Bool) (b12 : LL) (jn : Bool) (c14 : LL) (jl : Int) (jE jF : CV) (jP : Int) (jD jy jx ju jq jt jz : CV) (c1524 : List CV) (jM : CV) (c1526 : List CV) (jN jO jJ jK jI jB jH jL : CV) (vj : Int) (vA yR vC yL vo yT yX y0 vf yO vH yZ yP vk vc vm vg vz vJ ve : CV) : Option CV :=
 hold (E0 lb n 0 981 (sub (B Qaa) [1, 1, 0, 1, 0, 0, 1, 0, 0, 1, 1, 1, 1, 0, 1, 0, 0, 1, 1]) (Qbq 0 (Qag (sub (B Qaa) [1, 1, 0, 1, 0, 0, 1, 0, 0, 1, 1, 1, 1, 0, 1, 0, 0]) ++ [14, 15, 14]) [12, 13] (QaA (E0 lb n 0 983) 0 (Qag (sub (B Qaa) [1, 1, 0, 1, 0, 0, 1, 0, 0, 1, 1, 1, 1, 0, 1, 0, 0]) ++ [14, 15, 14]) [12, 13] (sub (B Qaa) [1, 1, 0, 1, 0, 0, 1, 0, 0, 1, 1, 1, 1, 0, 1, 0, 0]) (Qal 2 (seqK (E0 lb n 0 986) (sub (B Qaa) [1, 1, 0, 1, 0, 0, 1, 0, 0, 1, 1, 1, 1, 0]) (sub (B Qaa) [1, 1, 0, 1, 0, 0, 1, 0, 0, 1, 1, 1, 1, 1]) (Qal 1 (seqK (E0 lb n 0 992) (sub (B Qaa) [1, 1, 0, 1, 0, 0, 1, 0]) (sub (B Qaa) [1, 1, 0, 1, 0, 0, 1, 1]) (Qbq 0 (Qag (sub (B Qaa) [1, 1, 0, 1, 0, 0]) ++ [9, 10, 11, 14, 15, 14, 11]) [8, 12, 13] (QaA (E0 lb n 0 994) 0 (Qag (sub (B Qaa) [1, 1, 0, 1, 0, 0]) ++ [9, 10, 11, 14, 15, 14, 11]) [8, 12, 13] (sub (B Qaa) [1, 1, 0, 1, 0, 0]) (Qal 0 (seqK (E0 lb n 0 997) (sub (B Qaa) [1, 1, 0]) (sub (B Qaa) [1, 1, 1]) (retK Tryz.prog (R Qaa) 0 (outK (Qah Tryz.prog Qaa))))) jk) (Qal 0 (seqK (E0 lb n 0 997) (sub (B Qaa) [1, 1, 0]) (sub (B Qaa) [1, 1, 1]) (retK Tryz.prog (R Qaa) 0 (outK (Qah Tryz.prog Qaa)))))))))) jS) (Qal 2 (seqK (E0 lb n 0 986) (sub (B Qaa) [1, 1, 0, 1, 0, 0, 1, 0, 0, 1, 1, 1, 1, 0]) (sub (B Qaa) [1, 1, 0, 1, 0, 0, 1, 0, 0, 1, 1, 1, 1, 1]) (Qal 1 (seqK (E0 lb n 0 992) (sub (B Qaa) [1, 1, 0, 1, 0, 0, 1, 0]) (sub (B Qaa) [1, 1, 0, 1, 0, 0, 1, 1]) (Qbq 0 (Qag (sub (B Qaa) [1, 1, 0, 1, 0, 0]) ++ [9, 10, 11, 14, 15, 14, 11]) [8, 12, 13] (QaA (E0 lb n 0 994) 0 (Qag (sub (B Qaa) [1, 1, 0, 1, 0, 0]) ++ [9, 10, 11, 14, 15, 14, 11]) [8, 12, 13] (sub (B Qaa) [1, 1, 0, 1, 0, 0]) (Qal 0 (seqK (E0 lb n 0 997) (sub (B Qaa) [1, 1, 0]) (sub (B Qaa) [1, 1, 1]) (retK Tryz.prog (R Qaa) 0 (outK (Qah Tryz.prog Qaa))))) jk) (Qal 0 (seqK (E0 lb n 0 997) (sub (B Qaa) [1, 1, 0]) (sub (B Qaa) [1, 1, 1]) (retK Tryz.prog (R Qaa) 0 (outK (Qah Tryz.prog Qaa))))))))))) ⟨fr 198 [(0, .val (.agg [.str jf, .list jb aper3, .int .i64 je, .list ja aseg6, .list jd aser9, .int .i64 jc])), (1, .val (.list jm b12)), (2, .val (.list jn c14)), (3, .ptr 0 3 0), (6, vB false), (7, vI jl), (8, .ptr 0 8 0), (9, vV jE), (10, vV jF), (11, vI jP), (14, vI vj), (76, vV jD), (77, .val (.agg [jy, jx, ju, jq, jt, jz])), (78, .val (.list jm b12)), (79, vI jl), (80, .cptr c1524 0), (81, vV jM), (82, .val (.list jn c14)), (83, vI jl), (84, .cptr c1526 0), (85, vV jN), (86, vV jD), (87, vV jO), (88, vV jE), (89, vV jF)], [bx 198 [(3, some [.val jy, .val jx, .val ju, .val jq, .val jt, .val jz]), (8, some [.val jJ, .val jK, .val jI, .val jB, .val jH, .val jL]), (12, some [.val vA, .val yR, .val vC, .val yL, .val vo, .val yT, .val yX, .val y0, .val vf, .val yO]), (13, some [.val vH, .val yZ, .val yP, .val vk, .val vc, .val vm, .val vg, .val vz, .val vJ, .val ve])]], KK⟩)
theorem Qhf (lb n jk jS : Nat) (jf : LB) (jb : Bool) (aper3 : LL) (je : Int) (ja : Bool) (aseg6 : LL) (jd : Bool) (aser9 : LL) (jc : Int) (jm : Bool) (b12 : LL) (jn : Bool) (c14 : LL) (jl : Int) (jE jF : CV) (jP : Int) (jD jy jx ju jq jt jz : CV) (c1524 : List CV) (jM : CV) (c1526 : List CV) (jN jO jJ jK jI jB jH jL : CV) (vj : Int) (vA yR vC yL vo yT yX y0 vf yO vH yZ yP vk vc vm vg vz vJ ve : CV) :
 Qfw lb n jk jS jf jb aper3 je ja aseg6 jd aser9 jc jm b12 jn c14 jl jE jF jP jD jy jx ju jq jt jz c1524 jM c1526 jN jO jJ jK jI jB jH jL vj vA yR vC yL vo yT yX y0 vf yO vH yZ yP vk vc vm vg vz vJ ve =
 QbZ lb n jS jk jf jb aper3 je ja aseg6 jd aser9 jc jm b12 jn c14 jl jE jF jD jy jx ju jq jt jz c1524 jM c1526 jN jO jJ jK jI jB jH jL (IntKind.wrap .i64 (jP + 1)) := (Qai _).trans (by kernel_rfl)
theorem QdN (lb n wY jk jS : Nat) (jf : LB) (jb : Bool) (aper3 : LL) (je : Int) (ja : Bool) (aseg6 : LL) (jd : Bool) (aser9 : LL) (jc : Int) (jm : Bool) (b12 : LL) (jn : Bool) (c14 : LL) (jl : Int) (jE jF : CV) (jP : Int) (jD jy jx ju jq jt jz : CV) (c1524 : List CV) (jM : CV) (c1526 : List CV) (jN jO : CV) (c1979 : List CV) (j2 we wa j6 j4 jX wh j9 j8 jT jB : CV) (c1991 : List CV) (j5 wb jY wg j7 wc j3 jZ jU wd jJ jK jI jH jL : CV) (ww : Int) :
 QaJ lb n (wY + 1) jk jS jf jb aper3 je ja aseg6 jd aser9 jc jm b12 jn c14 jl jE jF jP jD jy jx ju jq jt jz c1524 jM c1526 jN jO c1979 j2 we wa j6 j4 jX wh j9 j8 jT jB c1991 j5 wb jY wg j7 wc j3 jZ jU wd jJ jK jI jH jL ww =
 bif (decide (ww < jP)) then
 (optO (CV.asI .i64 jT) fun gu =>
 bif (decide (gu > 0)) then
 (optO (CV.asL jq) fun kW =>
 optO (atL kW.2 ww) fun c2065 =>
 chkO (c2065.length == 10) (
 optO (c2065[9]?) fun oX =>
 optO (CV.asI .i64 jT) fun gh =>
 optO (CV.asI .i64 oX) fun gk =>
 bif (gh == gk) then
 (optO (CV.asL jq) fun oS =>
 optO (atL oS.2 ww) fun c2070 =>
 chkO (c2070.length == 10) (
 optO (c2070[8]?) fun gx =>
 optO (CV.asI .i64 j8) fun oj =>
 optO (CV.asI .i64 gx) fun kX =>
 bif (oj == kX) then
 (optO (CV.asL jB) fun oh =>
 optO (atL oh.2 ww) fun c2075 =>
 chkO (c2075.length == 10) (
 optO (c2075[8]?) fun oo =>
 optO (CV.asI .i64 jU) fun oz =>
 optO (CV.asI .i64 oo) fun kK =>
 bif (oz != kK) then
 (some (.bool false))
 else
 (QaJ lb n wY jk jS jf jb aper3 je ja aseg6 jd aser9 jc jm b12 jn c14 jl jE jF jP jD jy jx ju jq jt jz c1524 jM c1526 jN jO c1979 j2 we wa j6 j4 jX wh j9 j8 jT jB c1991 j5 wb jY wg j7 wc j3 jZ jU wd jJ jK jI jH jL (IntKind.wrap .i64 (ww + 1)))))
 else
 (QaJ lb n wY jk jS jf jb aper3 je ja aseg6 jd aser9 jc jm b12 jn c14 jl jE jF jP jD jy jx ju jq jt jz c1524 jM c1526 jN jO c1979 j2 we wa j6 j4 jX wh j9 j8 jT jB c1991 j5 wb jY wg j7 wc j3 jZ jU wd jJ jK jI jH jL (IntKind.wrap .i64 (ww + 1)))))
 else
 (QaJ lb n wY jk jS jf jb aper3 je ja aseg6 jd aser9 jc jm b12 jn c14 jl jE jF jP jD jy jx ju jq jt jz c1524 jM c1526 jN jO c1979 j2 we wa j6 j4 jX wh j9 j8 jT jB c1991 j5 wb jY wg j7 wc j3 jZ jU wd jJ jK jI jH jL (IntKind.wrap .i64 (ww + 1)))))
 else
 (QaJ lb n wY jk jS jf jb aper3 je ja aseg6 jd aser9 jc jm b12 jn c14 jl jE jF jP jD jy jx ju jq jt jz c1524 jM c1526 jN jO c1979 j2 we wa j6 j4 jX wh j9 j8 jT jB c1991 j5 wb jY wg j7 wc j3 jZ jU wd jJ jK jI jH jL (IntKind.wrap .i64 (ww + 1))))
 else
 (Qfw lb n jk jS jf jb aper3 je ja aseg6 jd aser9 jc jm b12 jn c14 jl jE jF jP jD jy jx ju jq jt jz c1524 jM c1526 jN jO jJ jK jI jB jH jL ww j2 we wa j6 j4 jX wh j9 j8 jT j5 wb jY wg j7 wc j3 jZ jU wd) := (Qai _).trans (by kernel_rfl)
noncomputable def QfH (lb n jk : Nat) (jf : LB) (jb : Bool) (aper3 : LL) (je : Int) (ja : Bool) (aseg6 : LL) (jd : Bool) (aser9 : LL) (jc : Int) (jm : Bool) (b12 : LL) (jn : Bool) (c14 : LL) (jl : Int) (jE jF jD jy jx ju jq jt jz : CV) (c1524 : List CV) (jM : CV) (c1526 : List CV) (jN jO jJ jK jI jB jH jL : CV) (yp : Int) : Option CV :=
 hold (E0 lb n 0 986 (sub (B Qaa) [1, 1, 0, 1, 0, 0, 1, 0, 0, 1, 1, 1, 1, 1]) (Qal 1 (seqK (E0 lb n 0 992) (sub (B Qaa) [1, 1, 0, 1, 0, 0, 1, 0]) (sub (B Qaa) [1, 1, 0, 1, 0, 0, 1, 1]) (Qbq 0 (Qag (sub (B Qaa) [1, 1, 0, 1, 0, 0]) ++ [9, 10, 11, 14, 15, 14, 11]) [8, 12, 13] (QaA (E0 lb n 0 994) 0 (Qag (sub (B Qaa) [1, 1, 0, 1, 0, 0]) ++ [9, 10, 11, 14, 15, 14, 11]) [8, 12, 13] (sub (B Qaa) [1, 1, 0, 1, 0, 0]) (Qal 0 (seqK (E0 lb n 0 997) (sub (B Qaa) [1, 1, 0]) (sub (B Qaa) [1, 1, 1]) (retK Tryz.prog (R Qaa) 0 (outK (Qah Tryz.prog Qaa))))) jk) (Qal 0 (seqK (E0 lb n 0 997) (sub (B Qaa) [1, 1, 0]) (sub (B Qaa) [1, 1, 1]) (retK Tryz.prog (R Qaa) 0 (outK (Qah Tryz.prog Qaa)))))))) ⟨fr 198 [(0, .val (.agg [.str jf, .list jb aper3, .int .i64 je, .list ja aseg6, .list jd aser9, .int .i64 jc])), (1, .val (.list jm b12)), (2, .val (.list jn c14)), (3, .ptr 0 3 0), (6, vB false), (7, vI jl), (8, .ptr 0 8 0), (9, vV jE), (10, vV jF), (11, vI yp), (76, vV jD), (77, .val (.agg [jy, jx, ju, jq, jt, jz])), (78, .val (.list jm b12)), (79, vI jl), (80, .cptr c1524 0), (81, vV jM), (82, .val (.list jn c14)), (83, vI jl), (84, .cptr c1526 0), (85, vV jN), (86, vV jD), (87, vV jO), (88, vV jE), (89, vV jF)], [bx 198 [(3, some [.val jy, .val jx, .val ju, .val jq, .val jt, .val jz]), (8, some [.val jJ, .val jK, .val jI, .val jB, .val jH, .val jL])]], KK⟩)
noncomputable def QfA (lb n jk : Nat) (jf : LB) (jb : Bool) (aper3 : LL) (je : Int) (ja : Bool) (aseg6 : LL) (jd : Bool) (aser9 : LL) (jc : Int) (jm : Bool) (b12 : LL) (jn : Bool) (c14 : LL) (jl : Int) (y9 vi : CV) (vh : Int) (yo yn yu yr yt yq vE yM vq vb yJ vw : CV) : Option CV :=
 hold (E0 lb n 0 992 (sub (B Qaa) [1, 1, 0, 1, 0, 0, 1, 1]) (Qbq 0 (Qag (sub (B Qaa) [1, 1, 0, 1, 0, 0]) ++ [9, 10, 11, 14, 15, 14, 11]) [8, 12, 13] (QaA (E0 lb n 0 994) 0 (Qag (sub (B Qaa) [1, 1, 0, 1, 0, 0]) ++ [9, 10, 11, 14, 15, 14, 11]) [8, 12, 13] (sub (B Qaa) [1, 1, 0, 1, 0, 0]) (Qal 0 (seqK (E0 lb n 0 997) (sub (B Qaa) [1, 1, 0]) (sub (B Qaa) [1, 1, 1]) (retK Tryz.prog (R Qaa) 0 (outK (Qah Tryz.prog Qaa))))) jk) (Qal 0 (seqK (E0 lb n 0 997) (sub (B Qaa) [1, 1, 0]) (sub (B Qaa) [1, 1, 1]) (retK Tryz.prog (R Qaa) 0 (outK (Qah Tryz.prog Qaa)))))) ⟨fr 198 [(0, .val (.agg [.str jf, .list jb aper3, .int .i64 je, .list ja aseg6, .list jd aser9, .int .i64 jc])), (1, .val (.list jm b12)), (2, .val (.list jn c14)), (3, .ptr 0 3 0), (6, vB false), (7, vI jl), (9, vV y9), (10, vV vi), (11, vI vh)], [bx 198 [(3, some [.val yo, .val yn, .val yu, .val yr, .val yt, .val yq]), (8, some [.val vE, .val yM, .val vq, .val vb, .val yJ, .val vw])]], KK⟩)
theorem Qhm (lb n jk : Nat) (jf : LB) (jb : Bool) (aper3 : LL) (je : Int) (ja : Bool) (aseg6 : LL) (jd : Bool) (aser9 : LL) (jc : Int) (jm : Bool) (b12 : LL) (jn : Bool) (c14 : LL) (jl : Int) (y9 vi : CV) (vh : Int) (yo yn yu yr yt yq vE yM vq vb yJ vw : CV) :
 QfA lb n jk jf jb aper3 je ja aseg6 jd aser9 jc jm b12 jn c14 jl y9 vi vh yo yn yu yr yt yq vE yM vq vb yJ vw =
 top_TopBookings_L1 lb n jk jf jb aper3 je ja aseg6 jd aser9 jc jm b12 jn c14 (IntKind.wrap .i64 (jl + 1)) yo yn yu yr yt yq := (Qai _).trans (by kernel_rfl)
theorem Qg7 (lb n jk : Nat) (jf : LB) (jb : Bool) (aper3 : LL) (je : Int) (ja : Bool) (aseg6 : LL) (jd : Bool) (aser9 : LL) (jc : Int) (jm : Bool) (b12 : LL) (jn : Bool) (c14 : LL) (jl : Int) (jE jF jD jy jx ju jq jt jz : CV) (c1524 : List CV) (jM : CV) (c1526 : List CV) (jN jO jJ jK jI jB jH jL : CV) (yp : Int) :
 QfH lb n jk jf jb aper3 je ja aseg6 jd aser9 jc jm b12 jn c14 jl jE jF jD jy jx ju jq jt jz c1524 jM c1526 jN jO jJ jK jI jB jH jL yp =
 QfA lb n jk jf jb aper3 je ja aseg6 jd aser9 jc jm b12 jn c14 jl jE jF yp jJ jK jI jB jH jL jJ jK jI jB jH jL := (Qai _).trans (by kernel_rfl)
theorem QdP (lb n jS jk : Nat) (jf : LB) (jb : Bool) (aper3 : LL) (je : Int) (ja : Bool) (aseg6 : LL) (jd : Bool) (aser9 : LL) (jc : Int) (jm : Bool) (b12 : LL) (jn : Bool) (c14 : LL) (jl : Int) (jE jF jD jy jx ju jq jt jz : CV) (c1524 : List CV) (jM : CV) (c1526 : List CV) (jN jO jJ jK jI jB jH jL : CV) (jP : Int) :
 QbZ lb n (jS + 1) jk jf jb aper3 je ja aseg6 jd aser9 jc jm b12 jn c14 jl jE jF jD jy jx ju jq jt jz c1524 jM c1526 jN jO jJ jK jI jB jH jL jP =
 optO (CV.asL jq) fun oE =>
 bif (decide (jP < (oE.2.length : Int))) then
 (optO (CV.asL jq) fun gS =>
 optO (atL gS.2 jP) fun c1979 =>
 chkO (c1979.length == 10) (
 optO (c1979[0]?) fun j2 =>
 optO (c1979[1]?) fun we =>
 optO (c1979[2]?) fun wa =>
 optO (c1979[3]?) fun j6 =>
 optO (c1979[4]?) fun j4 =>
 optO (c1979[5]?) fun jX =>
 optO (c1979[6]?) fun wh =>
 optO (c1979[7]?) fun j9 =>
 optO (c1979[8]?) fun j8 =>
 optO (c1979[9]?) fun jT =>
 optO (CV.asL jB) fun oY =>
 optO (atL oY.2 jP) fun c1991 =>
 chkO (c1991.length == 10) (
 optO (c1991[0]?) fun j5 =>
 optO (c1991[1]?) fun wb =>
 optO (c1991[2]?) fun jY =>
 optO (c1991[3]?) fun wg =>
 optO (c1991[4]?) fun j7 =>
 optO (c1991[5]?) fun wc =>
 optO (c1991[6]?) fun j3 =>
 optO (c1991[7]?) fun jZ =>
 optO (c1991[8]?) fun jU =>
 optO (c1991[9]?) fun wd =>
 optO (C lb n Qcw [jU]) fun gM =>
 optO (CV.asB gM) fun gQ =>
 bif gQ then
 (optO (C lb n Qda [jU]) fun kV =>
 optO (CV.asB kV) fun gB =>
 bif (!gB) then
 (some (.bool false))
 else
 (optO (CV.asI .i64 j8) fun kR =>
 bif (kR == 7) then
 (optO (CV.asI .i64 jU) fun oL =>
 bif (oL != 7) then
 (some (.bool false))
 else
 (optO (CV.asS j2) fun oA =>
 optO (CV.asS j5) fun gw =>
 optO (CV.asI .i64 we) fun gi =>
 optO (CV.asI .i64 wb) fun gt =>
 optO (CV.asI .i64 wa) fun oP =>
 optO (CV.asI .i64 jY) fun kJ =>
 optO (CV.asS j6) fun oG =>
 optO (CV.asS wg) fun oe =>
 optO (CV.asS j4) fun oU =>
 optO (CV.asS j7) fun gn =>
 optO (CV.asI .i64 jX) fun k8 =>
 optO (CV.asI .i64 wc) fun gU =>
 optO (CV.asI .i64 wh) fun oq =>
 optO (CV.asI .i64 j3) fun oD =>
 optO (CV.asS j9) fun gP =>
 optO (CV.asS jZ) fun og =>
 bif (!((oA == gw) && ((gi == gt) && ((oP == kJ) && ((oG == oe) && ((oU == gn) && ((k8 == gU) && ((oq == oD) && ((gP == og) && true))))))))) then
 (some (.bool false))
 else
 (optO (CV.asI .i64 jT) fun gR =>
 optO (CV.asI .i64 wd) fun o4 =>
 bif (gR != o4) then
 (some (.bool false))
 else
 (QaJ lb n n jk jS jf jb aper3 je ja aseg6 jd aser9 jc jm b12 jn c14 jl jE jF jP jD jy jx ju jq jt jz c1524 jM c1526 jN jO c1979 j2 we wa j6 j4 jX wh j9 j8 jT jB c1991 j5 wb jY wg j7 wc j3 jZ jU wd jJ jK jI jH jL 0))))
 else
 (optO (CV.asS j2) fun gd =>
 optO (CV.asS j5) fun gv =>
 optO (CV.asI .i64 we) fun o9 =>
 optO (CV.asI .i64 wb) fun kQ =>
 optO (CV.asI .i64 wa) fun gJ =>
 optO (CV.asI .i64 jY) fun gc =>
 optO (CV.asS j6) fun kN =>
 optO (CV.asS wg) fun gN =>
 optO (CV.asS j4) fun oI =>
 optO (CV.asS j7) fun k0 =>
 optO (CV.asI .i64 jX) fun o0 =>
 optO (CV.asI .i64 wc) fun oF =>
 optO (CV.asI .i64 wh) fun gO =>
 optO (CV.asI .i64 j3) fun oM =>
 optO (CV.asS j9) fun kU =>
 optO (CV.asS jZ) fun oV =>
 bif (!((gd == gv) && ((o9 == kQ) && ((gJ == gc) && ((kN == gN) && ((oI == k0) && ((o0 == oF) && ((gO == oM) && ((kU == oV) && true))))))))) then
 (some (.bool false))
 else
 (optO (CV.asI .i64 jT) fun oN =>
 optO (CV.asI .i64 wd) fun ol =>
 bif (oN != ol) then
 (some (.bool false))
 else
 (QaJ lb n n jk jS jf jb aper3 je ja aseg6 jd aser9 jc jm b12 jn c14 jl jE jF jP jD jy jx ju jq jt jz c1524 jM c1526 jN jO c1979 j2 we wa j6 j4 jX wh j9 j8 jT jB c1991 j5 wb jY wg j7 wc j3 jZ jU wd jJ jK jI jH jL 0)))))
 else
 (optO (CV.asI .i64 j8) fun gH =>
 bif (gH == 7) then
 (optO (CV.asI .i64 jU) fun go =>
 bif (go != 7) then
 (some (.bool false))
 else
 (optO (CV.asS j2) fun kY =>
 optO (CV.asS j5) fun gI =>
 optO (CV.asI .i64 we) fun gz =>
 optO (CV.asI .i64 wb) fun kT =>
 optO (CV.asI .i64 wa) fun gL =>
 optO (CV.asI .i64 jY) fun ov =>
 optO (CV.asS j6) fun ow =>
 optO (CV.asS wg) fun oT =>
 optO (CV.asS j4) fun gp =>
 optO (CV.asS j7) fun kO =>
 optO (CV.asI .i64 jX) fun od =>
 optO (CV.asI .i64 wc) fun oH =>
 optO (CV.asI .i64 wh) fun o6 =>
 optO (CV.asI .i64 j3) fun ga =>
 optO (CV.asS j9) fun ot =>
 optO (CV.asS jZ) fun oC =>
 bif (!((kY == gI) && ((gz == kT) && ((gL == ov) && ((ow == oT) && ((gp == kO) && ((od == oH) && ((o6 == ga) && ((ot == oC) && true))))))))) then
 (some (.bool false))
 else
 (optO (CV.asI .i64 jT) fun oO =>
 optO (CV.asI .i64 wd) fun oR =>
 bif (oO != oR) then
 (some (.bool false))
 else
 (QaJ lb n n jk jS jf jb aper3 je ja aseg6 jd aser9 jc jm b12 jn c14 jl jE jF jP jD jy jx ju jq jt jz c1524 jM c1526 jN jO c1979 j2 we wa j6 j4 jX wh j9 j8 jT jB c1991 j5 wb jY wg j7 wc j3 jZ jU wd jJ jK jI jH jL 0))))
 else
 (optO (CV.asS j2) fun oi =>
 optO (CV.asS j5) fun oJ =>
 optO (CV.asI .i64 we) fun kP =>
 optO (CV.asI .i64 wb) fun gm =>
 optO (CV.asI .i64 wa) fun k9 =>
 optO (CV.asI .i64 jY) fun gK =>
 optO (CV.asS j6) fun om =>
 optO (CV.asS wg) fun o5 =>
 optO (CV.asS j4) fun oB =>
 optO (CV.asS j7) fun gT =>
 optO (CV.asI .i64 jX) fun ou =>
 optO (CV.asI .i64 wc) fun gj =>
 optO (CV.asI .i64 wh) fun oa =>
 optO (CV.asI .i64 j3) fun oZ =>
 optO (CV.asS j9) fun oW =>
 optO (CV.asS jZ) fun kS =>
 bif (!((oi == oJ) && ((kP == gm) && ((k9 == gK) && ((om == o5) && ((oB == gT) && ((ou == gj) && ((oa == oZ) && ((oW == kS) && true))))))))) then
 (some (.bool false))
 else
 (optO (CV.asI .i64 jT) fun gg =>
 optO (CV.asI .i64 wd) fun gA =>
 bif (gg != gA) then
 (some (.bool false))
 else
 (QaJ lb n n jk jS jf jb aper3 je ja aseg6 jd aser9 jc jm b12 jn c14 jl jE jF jP jD jy jx ju jq jt jz c1524 jM c1526 jN jO c1979 j2 we wa j6 j4 jX wh j9 j8 jT jB c1991 j5 wb jY wg j7 wc j3 jZ jU wd jJ jK jI jH jL 0)))))))
 else
 (QfH lb n jk jf jb aper3 je ja aseg6 jd aser9 jc jm b12 jn c14 jl jE jF jD jy jx ju jq jt jz c1524 jM c1526 jN jO jJ jK jI jB jH jL jP) := (Qai _).trans (by kernel_rfl)
noncomputable def Qfy (lb n : Nat) (jf : LB) (jb : Bool) (aper3 : LL) (je : Int) (ja : Bool) (aseg6 : LL) (jd : Bool) (aser9 : LL) (jc : Int) (jm : Bool) (b12 : LL) (jn : Bool) (c14 : LL) (y4 : Int) (vl vp yS vF yU yN : CV) : Option CV :=
 hold (E0 lb n 0 997 (sub (B Qaa) [1, 1, 1]) (retK Tryz.prog (R Qaa) 0 (outK (Qah Tryz.prog Qaa))) ⟨fr 198 [(0, .val (.agg [.str jf, .list jb aper3, .int .i64 je, .list ja aseg6, .list jd aser9, .int .i64 jc])), (1, .val (.list jm b12)), (2, .val (.list jn c14)), (3, .ptr 0 3 0), (6, vB false), (7, vI y4)], [bx 198 [(3, some [.val vl, .val vp, .val yS, .val vF, .val yU, .val yN])]], KK⟩)
theorem Qhb (lb n : Nat) (jf : LB) (jb : Bool) (aper3 : LL) (je : Int) (ja : Bool) (aseg6 : LL) (jd : Bool) (aser9 : LL) (jc : Int) (jm : Bool) (b12 : LL) (jn : Bool) (c14 : LL) (y4 : Int) (vl vp yS vF yU yN : CV) :
 Qfy lb n jf jb aper3 je ja aseg6 jd aser9 jc jm b12 jn c14 y4 vl vp yS vF yU yN =
 optO (C lb n QbB []) fun kM =>
 some (kM) := (Qai _).trans (by kernel_rfl)
theorem Qa4 (lb n jk : Nat) (jf : LB) (jb : Bool) (aper3 : LL) (je : Int) (ja : Bool) (aseg6 : LL) (jd : Bool) (aser9 : LL) (jc : Int) (jm : Bool) (b12 : LL) (jn : Bool) (c14 : LL) (jl : Int) (jy jx ju jq jt jz : CV) :
 top_TopBookings_L1 lb n (jk + 1) jf jb aper3 je ja aseg6 jd aser9 jc jm b12 jn c14 jl jy jx ju jq jt jz =
 bif (decide (jl < (b12.length : Int))) then
 (optO (atL c14 jl) fun c1515 =>
 chkO (c1515.length == 1) (
 optO (c1515[0]?) fun oQ =>
 optO (CV.asI .i64 oQ) fun gC =>
 bif (gC == 5) then
 (QcK lb n jk jf jb aper3 je ja aseg6 jd aser9 jc jm b12 jn c14 jl jy jx ju jq jt jz )
 else
 (optO (atL c14 jl) fun c1518 =>
 chkO (c1518.length == 1) (
 optO (c1518[0]?) fun kZ =>
 optO (CV.asI .i64 kZ) fun gy =>
 bif (gy == 6) then
 (QcK lb n jk jf jb aper3 je ja aseg6 jd aser9 jc jm b12 jn c14 jl jy jx ju jq jt jz )
 else
 (optO (atL c14 jl) fun c1521 =>
 chkO (c1521.length == 1) (
 optO (c1521[0]?) fun o8 =>
 optO (CV.asI .i64 o8) fun oc =>
 bif (oc == 7) then
 (QcK lb n jk jf jb aper3 je ja aseg6 jd aser9 jc jm b12 jn c14 jl jy jx ju jq jt jz )
 else
 (optO (atL b12 jl) fun c1524 =>
 chkO (c1524.length == 1) (
 optO (c1524[0]?) fun jM =>
 optO (atL c14 jl) fun c1526 =>
 chkO (c1526.length == 1) (
 optO (c1526[0]?) fun jN =>
 optO (C lb n Qab [.agg [jy, jx, ju, jq, jt, jz], jM, jN]) fun jD =>
 optO (CV.asT jD) fun gb =>
 optO (gb[0]?) fun jO =>
 optO (CV.asT jD) fun gE =>
 optO (gE[1]?) fun jE =>
 optO (CV.asT jD) fun gD =>
 optO (gD[2]?) fun jF =>
 optO (CV.asA jO) fun c1535 =>
 chkO (c1535.length == 6) (
 optO (c1535[0]?) fun jJ =>
 optO (c1535[1]?) fun jK =>
 optO (c1535[2]?) fun jI =>
 optO (c1535[3]?) fun jB =>
 optO (c1535[4]?) fun jH =>
 optO (c1535[5]?) fun jL =>
 optO (CV.asI .i64 jF) fun oK =>
 bif (oK != 0) then
 (QfG lb n jk jf jb aper3 je ja aseg6 jd aser9 jc jm b12 jn c14 jl jy jx ju jq jt jz jE jF jJ jK jI jB jH jL)
 else
 (optO (CV.asL jB) fun gF =>
 optO (CV.asL jq) fun gG =>
 bif ((gF.2.length : Int) != (gG.2.length : Int)) then
 (some (.bool false))
 else
 (optO (CV.asL jE) fun o7 =>
 bif ((o7.2.length : Int) == 0) then
 (some (.bool false))
 else
 (QbZ lb n n jk jf jb aper3 je ja aseg6 jd aser9 jc jm b12 jn c14 jl jE jF jD jy jx ju jq jt jz c1524 jM c1526 jN jO jJ jK jI jB jH jL 0)))))))))))))
 else
 (Qfy lb n jf jb aper3 je ja aseg6 jd aser9 jc jm b12 jn c14 jl jy jx ju jq jt jz) := (Qai _).trans (by kernel_rfl)
theorem Qbh (lb n : Nat) (jf : LB) (jb : Bool) (aper3 : LL) (je : Int) (ja : Bool) (aseg6 : LL) (jd : Bool) (aser9 : LL) (jc : Int) (jm : Bool) (b12 : LL) (jn : Bool) (c14 : LL) :
 top lb n Qaa [.agg [.str jf, .list jb aper3, .int .i64 je, .list ja aseg6, .list jd aser9, .int .i64 jc], .list jm b12, .list jn c14] =
 bif (decide ((aseg6.length : Int) > 8)) then
 (optO (C lb n QbB []) fun wV =>
 some (wV))
 else
 (bif (decide ((aper3.length : Int) > 9)) then
 (optO (C lb n QbB []) fun mZ =>
 some (mZ))
 else
 (bif (decide ((aser9.length : Int) > 8)) then
 (optO (C lb n QbB []) fun js =>
 some (js))
 else
 (bif (decide ((b12.length : Int) > 12)) then
 (optO (C lb n QbB []) fun kF =>
 some (kF))
 else
 (bif (decide ((c14.length : Int) < (b12.length : Int))) then
 (optO (C lb n QbB []) fun mR =>
 some (mR))
 else
 (optO (C lb n Qac [.agg [.str jf, .list jb aper3, .int .i64 je, .list ja aseg6, .list jd aser9, .int .i64 jc]]) fun ne =>
 optO (CV.asL ne) fun ny =>
 bif (decide ((ny.2.length : Int) > 0)) then
 (optO (C lb n QbB []) fun jr =>
 some (jr))
 else
 (top_TopBookings_L1 lb n n jf jb aper3 je ja aseg6 jd aser9 jc jm b12 jn c14 0 (.str jf) (.list jb aper3) (.int .i64 je) (.list ja aseg6) (.list jd aser9) (.int .i64 jc))))))) := by kernel_rfl
end Go.Proofs
