/- Equations of functions, printed by program. Conditions: none. -/
import Derived.Test.YtdcpdknginpohaaGreatDoorEv
namespace Go.Proofs
open Go.Am
set_option maxRecDepth 100000
set_option linter.unusedVariables false
noncomputable def r08_On_L1 :=
 fun lb n (vJ : Nat) (jv : Bool) (a2 : LL) b3 c4 d5 wF =>
 hold (Qat (E0 lb n 0 995) 0 (Qag (sub (B Qcn) [1, 0, 1, 0, 0]) ++ []) [] (sub (B Qcn) [1, 0, 1, 0, 0]) (Qai 0 (seqK (E0 lb n 0 998) (sub (B Qcn) [1, 0]) (sub (B Qcn) [1, 1]) (retK Tryz.prog (R Qcn) 0 (outK (Qaf Tryz.prog Qcn))))) vJ ⟨fr 47 [(0, .val (.list jv a2)), (1, vS b3), (2, vI c4), (3, vI d5), (8, .ptr 0 8 0), (9, vB false), (10, vI wF)], [bx 47 [(8, some [.val (.str []), vI 0, vI 0, vI 0, vI 0, .lst true true 94 []])]], KK⟩)
noncomputable def QnB (lb n : Nat) (jv : Bool) (a2 : LL) (b3 : LB) (c4 d5 go : Int) : Option CV :=
 hold (E0 lb n 0 998 (sub (B Qcn) [1, 1]) (retK Tryz.prog (R Qcn) 0 (outK (Qaf Tryz.prog Qcn))) ⟨fr 47 [(0, .val (.list jv a2)), (1, vS b3), (2, vI c4), (3, vI d5), (8, .ptr 0 8 0), (9, vB false), (10, vI go)], [bx 47 [(8, some [.val (.str []), vI 0, vI 0, vI 0, vI 0, .lst true true 94 []])]], KK⟩)
theorem QoP (lb n : Nat) (jv : Bool) (a2 : LL) (b3 : LB) (c4 d5 go : Int) :
 QnB lb n jv a2 b3 c4 d5 go =
 some (.tup [.agg [.str [], .int .i64 0, .int .i64 0, .int .i64 0, .int .i64 0, .list true []], .bool false]) := (Qae _).trans (by kernel_rfl)
theorem Qid (lb n vJ : Nat) (jv : Bool) (a2 : LL) (b3 : LB) (c4 d5 wF : Int) :
 r08_On_L1 lb n (vJ + 1) jv a2 b3 c4 d5 wF =
 bif (decide (wF < (a2.length : Int))) then
 (optO (atL a2 wF) fun c51 =>
 chkO (c51.length == 6) (
 optO (c51[0]?) fun gq =>
 optO (CV.asS gq) fun nD =>
 bif (nD == b3) then
 (optO (atL a2 wF) fun c54 =>
 chkO (c54.length == 6) (
 optO (c54[1]?) fun gm =>
 optO (CV.asI .i64 gm) fun qe =>
 bif (qe == c4) then
 (optO (atL a2 wF) fun c57 =>
 chkO (c57.length == 6) (
 optO (c57[2]?) fun nE =>
 optO (c57[3]?) fun gn =>
 optO (c57[4]?) fun qa =>
 optO (C lb n Qes [.agg [nE, gn, qa], .int .i64 d5]) fun nN =>
 optO (CV.asB nN) fun vk =>
 bif vk then
 (optO (atL a2 wF) fun c63 =>
 chkO (c63.length == 6) (
 optO (c63[0]?) fun oT =>
 optO (c63[1]?) fun ga =>
 optO (c63[2]?) fun gu =>
 optO (c63[3]?) fun kH =>
 optO (c63[4]?) fun pt =>
 optO (c63[5]?) fun pp =>
 some (.tup [.agg [oT, ga, gu, kH, pt, pp], .bool true])))
 else
 (r08_On_L1 lb n vJ jv a2 b3 c4 d5 (IntKind.wrap .i64 (wF + 1)))))
 else
 (r08_On_L1 lb n vJ jv a2 b3 c4 d5 (IntKind.wrap .i64 (wF + 1)))))
 else
 (r08_On_L1 lb n vJ jv a2 b3 c4 d5 (IntKind.wrap .i64 (wF + 1)))))
 else
 (QnB lb n jv a2 b3 c4 d5 wF) := (Qae _).trans (by kernel_rfl)
theorem Qsz (lb n : Nat) (jv : Bool) (a2 : LL) (b3 : LB) (c4 d5 : Int) :
 top lb n Qcn [.list jv a2, .str b3, .int .i64 c4, .int .i64 d5] =
 r08_On_L1 lb n n jv a2 b3 c4 d5 0 := by kernel_rfl
noncomputable def QeK (lb n kD : Nat) (ja : Bool) (aair2 : LL) (jb : Bool) (adis4 : LL) (jh : Bool) (b6 : LL) (c7 : LB) (d9 j8 : Int) (wi wj : LB) (jA jr jt jS jz j7 ju jy jk j5 jF jx : CV) (yQ : Int) : Option CV :=
 hold (Qat (E0 lb n 0 992) 0 (Qag (sub (B Qb4) [1, 1, 1, 1, 0, 1, 0, 0]) ++ []) [] (sub (B Qb4) [1, 1, 1, 1, 0, 1, 0, 0]) (Qai 0 (seqK (E0 lb n 0 995) (sub (B Qb4) [1, 1, 1, 1, 0]) (sub (B Qb4) [1, 1, 1, 1, 1]) (retK Tryz.prog (R Qb4) 0 (outK (Qaf Tryz.prog Qb4))))) kD ⟨fr 66 [(0, .val (.agg [.list ja aair2, .list jb adis4])), (1, .val (.list jh b6)), (2, vS c7), (3, vI d9), (4, vI j8), (5, vS wi), (6, vS wj), (7, .ptr 0 7 0), (14, .ptr 0 14 0), (15, vI 0), (16, .ptr 0 16 0), (17, vV jA), (18, vV jr), (19, vV jt), (20, vI yQ), (21, vV jS), (22, .val (.list jh b6)), (23, vS c7), (24, vI d9), (25, vI j8), (26, vV jS), (27, vV jz), (28, vV jA), (32, vV j7), (33, .val (.agg [.list ja aair2, .list jb adis4])), (34, .val (.agg [ju, jy, jk, j5, jF, jx])), (35, vI j8), (36, vV j7), (37, vV jr), (38, vV jt)], [bx 66 [(7, some [.val (.list ja aair2), .val (.list jb adis4)]), (14, some [.val (.str []), vI 0, vI 0, .val (.str []), .val (.str []), vI 0, vI 0]), (16, some [.val ju, .val jy, .val jk, .val j5, .val jF, .val jx])]], KK⟩)
noncomputable def Qmy (lb n : Nat) (ja : Bool) (aair2 : LL) (jb : Bool) (adis4 : LL) (jh : Bool) (b6 : LL) (c7 : LB) (d9 j8 : Int) (wi wj : LB) (jA jr jt jS jz j7 ju jy jk j5 jF jx : CV) (gP : Int) : Option CV :=
 hold (E0 lb n 0 995 (sub (B Qb4) [1, 1, 1, 1, 1]) (retK Tryz.prog (R Qb4) 0 (outK (Qaf Tryz.prog Qb4))) ⟨fr 66 [(0, .val (.agg [.list ja aair2, .list jb adis4])), (1, .val (.list jh b6)), (2, vS c7), (3, vI d9), (4, vI j8), (5, vS wi), (6, vS wj), (7, .ptr 0 7 0), (14, .ptr 0 14 0), (15, vI 0), (16, .ptr 0 16 0), (17, vV jA), (18, vV jr), (19, vV jt), (20, vI gP), (21, vV jS), (22, .val (.list jh b6)), (23, vS c7), (24, vI d9), (25, vI j8), (26, vV jS), (27, vV jz), (28, vV jA), (32, vV j7), (33, .val (.agg [.list ja aair2, .list jb adis4])), (34, .val (.agg [ju, jy, jk, j5, jF, jx])), (35, vI j8), (36, vV j7), (37, vV jr), (38, vV jt)], [bx 66 [(7, some [.val (.list ja aair2), .val (.list jb adis4)]), (14, some [.val (.str []), vI 0, vI 0, .val (.str []), .val (.str []), vI 0, vI 0]), (16, some [.val ju, .val jy, .val jk, .val j5, .val jF, .val jx])]], KK⟩)
theorem Qol (lb n : Nat) (ja : Bool) (aair2 : LL) (jb : Bool) (adis4 : LL) (jh : Bool) (b6 : LL) (c7 : LB) (d9 j8 : Int) (wi wj : LB) (jA jr jt jS jz j7 ju jy jk j5 jF jx : CV) (gP : Int) :
 Qmy lb n ja aair2 jb adis4 jh b6 c7 d9 j8 wi wj jA jr jt jS jz j7 ju jy jk j5 jF jx gP =
 some (.tup [.agg [.str [], .int .i64 0, .int .i64 0, .str [], .str [], .int .i64 0, .int .i64 0], .int .i64 14]) := (Qae _).trans (by kernel_rfl)
theorem Qhn (lb n kD : Nat) (ja : Bool) (aair2 : LL) (jb : Bool) (adis4 : LL) (jh : Bool) (b6 : LL) (c7 : LB) (d9 j8 : Int) (wi wj : LB) (jA jr jt jS jz j7 ju jy jk j5 jF jx : CV) (yQ : Int) :
 QeK lb n (kD + 1) ja aair2 jb adis4 jh b6 c7 d9 j8 wi wj jA jr jt jS jz j7 ju jy jk j5 jF jx yQ =
 optO (CV.asL jr) fun qf =>
 bif (decide (yQ < (qf.2.length : Int))) then
 (optO (CV.asL jr) fun gS =>
 optO (atL gS.2 yQ) fun c75 =>
 chkO (c75.length == 7) (
 optO (c75[3]?) fun gT =>
 optO (CV.asS gT) fun gB =>
 bif (gB == wi) then
 (optO (CV.asL jr) fun pC =>
 optO (atL pC.2 yQ) fun c79 =>
 chkO (c79.length == 7) (
 optO (c79[4]?) fun nW =>
 optO (CV.asS nW) fun nX =>
 bif (nX == wj) then
 (optO (CV.asL jr) fun gH =>
 optO (atL gH.2 yQ) fun c83 =>
 chkO (c83.length == 7) (
 optO (c83[0]?) fun vf =>
 optO (c83[1]?) fun vT =>
 optO (c83[2]?) fun kJ =>
 optO (c83[3]?) fun vr =>
 optO (c83[4]?) fun kK =>
 optO (c83[5]?) fun kQ =>
 optO (c83[6]?) fun kw =>
 some (.tup [.agg [vf, vT, kJ, vr, kK, kQ, kw], .int .i64 0])))
 else
 (QeK lb n kD ja aair2 jb adis4 jh b6 c7 d9 j8 wi wj jA jr jt jS jz j7 ju jy jk j5 jF jx (IntKind.wrap .i64 (yQ + 1)))))
 else
 (QeK lb n kD ja aair2 jb adis4 jh b6 c7 d9 j8 wi wj jA jr jt jS jz j7 ju jy jk j5 jF jx (IntKind.wrap .i64 (yQ + 1)))))
 else
 (Qmy lb n ja aair2 jb adis4 jh b6 c7 d9 j8 wi wj jA jr jt jS jz j7 ju jy jk j5 jF jx yQ) := (Qae _).trans (by kernel_rfl)
theorem Qms (lb n : Nat) (ja : Bool) (aair2 : LL) (jb : Bool) (adis4 : LL) (jh : Bool) (b6 : LL) (c7 : LB) (d9 j8 : Int) (wi wj : LB) :
 top lb n Qb4 [.agg [.list ja aair2, .list jb adis4], .list jh b6, .str c7, .int .i64 d9, .int .i64 j8, .str wi, .str wj] =
 optO (C lb n Qcn [.list jh b6, .str c7, .int .i64 d9, .int .i64 j8]) fun jS =>
 optO (CV.asT jS) fun kG =>
 optO (kG[0]?) fun jz =>
 optO (CV.asT jS) fun gL =>
 optO (gL[1]?) fun jA =>
 optO (CV.asA jz) fun c19 =>
 chkO (c19.length == 6) (
 optO (c19[0]?) fun ju =>
 optO (c19[1]?) fun jy =>
 optO (c19[2]?) fun jk =>
 optO (c19[3]?) fun j5 =>
 optO (c19[4]?) fun jF =>
 optO (c19[5]?) fun jx =>
 optO (CV.asB jA) fun kv =>
 bif (!kv) then
 (some (.tup [.agg [.str [], .int .i64 0, .int .i64 0, .str [], .str [], .int .i64 0, .int .i64 0], .int .i64 7]))
 else
 (optO (C lb n Qap [.agg [.list ja aair2, .list jb adis4], .agg [ju, jy, jk, j5, jF, jx], .int .i64 j8]) fun j7 =>
 optO (CV.asT j7) fun gX =>
 optO (gX[0]?) fun jr =>
 optO (CV.asT j7) fun gV =>
 optO (gV[1]?) fun jt =>
 QeK lb n n ja aair2 jb adis4 jh b6 c7 d9 j8 wi wj jA jr jt jS jz j7 ju jy jk j5 jF jx 0)) := by kernel_rfl
noncomputable def QcH (lb n kL : Nat) (ja : Bool) (aair2 : LL) (jb : Bool) (adis4 : LL) (jh : Bool) (b6 : LL) (c7 : LB) (d9 j8 : Int) (wi wj : LB) (jA jr jt jS jz j7 ju jy jk j5 jF jx : CV) (y8 : Bool × LL) (i46 : Int) : Option CV :=
 hold (Qat (E1 lb n 1 995) 1 (Qag (sub (B QaU) [1, 0, 1, 0, 0]) ++ []) [7] (sub (B QaU) [1, 0, 1, 0, 0]) (Qai 0 (seqK (E1 lb n 1 998) (sub (B QaU) [1, 0]) (sub (B QaU) [1, 1]) (retK Tryz.prog (R QaU) 1 (inlK (opAt (Qea (sub (B QaH) [1, 1, 1, 1, 0])) 2) ⟨fr 49 [(0, .val (.agg [.list ja aair2, .list jb adis4])), (1, .val (.list jh b6)), (2, vS c7), (3, vI d9), (4, vI j8), (5, vS wi), (6, vS wj), (7, .ptr 0 7 0), (12, .ptr 0 12 0), (13, .ptr 0 13 0), (14, .ptr 0 14 0), (15, vI 0), (16, .ptr 0 16 0), (17, vV jA), (18, vV jr), (19, vV jt), (21, vV jS), (22, .val (.list jh b6)), (23, vS c7), (24, vI d9), (25, vI j8), (26, vV jS), (27, vV jz), (28, vV jA), (32, vV j7), (33, .val (.agg [.list ja aair2, .list jb adis4])), (34, .val (.agg [ju, jy, jk, j5, jF, jx])), (35, vI j8), (36, vV j7), (37, vV jr), (38, vV jt), (40, vV jr), (41, .clo Qc9 [.ptr 0 12 0, .ptr 0 13 0])], [bx 49 [(7, some [.val (.list ja aair2), .val (.list jb adis4)]), (12, some [vS wi]), (13, some [vS wj]), (14, some [.val (.str []), vI 0, vI 0, .val (.str []), .val (.str []), vI 0, vI 0]), (16, some [.val ju, .val jy, .val jk, .val j5, .val jF, .val jx])]], KK⟩ (opsK Tryz.prog (C lb n) (I9 lb n) 0 (Qea (sub (B QaH) [1, 1, 1, 1, 0])) ((Qea (sub (B QaH) [1, 1, 1, 1, 0])).drop 3) ((seqK (E0 lb n 0 995) (sub (B QaH) [1, 1, 1, 1, 0]) (sub (B QaH) [1, 1, 1, 1, 1]) (retK Tryz.prog (R QaH) 0 (outK (Qaf Tryz.prog QaH)))) .normal)))))) kL ⟨fr 21 [(0, vV jr), (1, .clo Qc9 [.ptr 0 12 0, .ptr 0 13 0]), (4, .ptr 1 4 0), (5, vB false), (9, vV jr), (10, .val (.int .i64 (y8.2.length : Int))), (11, vI i46)], [bx 49 [(7, some [.val (.list ja aair2), .val (.list jb adis4)]), (12, some [vS wi]), (13, some [vS wj]), (14, some [.val (.str []), vI 0, vI 0, .val (.str []), .val (.str []), vI 0, vI 0]), (16, some [.val ju, .val jy, .val jk, .val j5, .val jF, .val jx])], bx 21 [(4, some [.val (.str []), vI 0, vI 0, .val (.str []), .val (.str []), vI 0, vI 0])]], KK⟩)
noncomputable def Qhb (lb n : Nat) (ja : Bool) (aair2 : LL) (jb : Bool) (adis4 : LL) (jh : Bool) (b6 : LL) (c7 : LB) (d9 j8 : Int) (wi wj : LB) (jA jr jt jS jz j7 ju jy jk j5 jF jx : CV) : Option CV :=
 hold (E1 lb n 1 998 (sub (B QaU) [1, 1]) (retK Tryz.prog (R QaU) 1 (inlK (opAt (Qea (sub (B QaH) [1, 1, 1, 1, 0])) 2) ⟨fr 49 [(0, .val (.agg [.list ja aair2, .list jb adis4])), (1, .val (.list jh b6)), (2, vS c7), (3, vI d9), (4, vI j8), (5, vS wi), (6, vS wj), (7, .ptr 0 7 0), (12, .ptr 0 12 0), (13, .ptr 0 13 0), (14, .ptr 0 14 0), (15, vI 0), (16, .ptr 0 16 0), (17, vV jA), (18, vV jr), (19, vV jt), (21, vV jS), (22, .val (.list jh b6)), (23, vS c7), (24, vI d9), (25, vI j8), (26, vV jS), (27, vV jz), (28, vV jA), (32, vV j7), (33, .val (.agg [.list ja aair2, .list jb adis4])), (34, .val (.agg [ju, jy, jk, j5, jF, jx])), (35, vI j8), (36, vV j7), (37, vV jr), (38, vV jt), (40, vV jr), (41, .clo Qc9 [.ptr 0 12 0, .ptr 0 13 0])], [bx 49 [(7, some [.val (.list ja aair2), .val (.list jb adis4)]), (12, some [vS wi]), (13, some [vS wj]), (14, some [.val (.str []), vI 0, vI 0, .val (.str []), .val (.str []), vI 0, vI 0]), (16, some [.val ju, .val jy, .val jk, .val j5, .val jF, .val jx])]], KK⟩ (opsK Tryz.prog (C lb n) (I9 lb n) 0 (Qea (sub (B QaH) [1, 1, 1, 1, 0])) ((Qea (sub (B QaH) [1, 1, 1, 1, 0])).drop 3) ((seqK (E0 lb n 0 995) (sub (B QaH) [1, 1, 1, 1, 0]) (sub (B QaH) [1, 1, 1, 1, 1]) (retK Tryz.prog (R QaH) 0 (outK (Qaf Tryz.prog QaH)))) .normal)))) ⟨fr 21 [(0, vV jr), (1, .clo Qc9 [.ptr 0 12 0, .ptr 0 13 0]), (4, .ptr 1 4 0), (5, vB false)], [bx 49 [(7, some [.val (.list ja aair2), .val (.list jb adis4)]), (12, some [vS wi]), (13, some [vS wj]), (14, some [.val (.str []), vI 0, vI 0, .val (.str []), .val (.str []), vI 0, vI 0]), (16, some [.val ju, .val jy, .val jk, .val j5, .val jF, .val jx])], bx 21 [(4, some [.val (.str []), vI 0, vI 0, .val (.str []), .val (.str []), vI 0, vI 0])]], KK⟩)
theorem Qj8 (lb n : Nat) (ja : Bool) (aair2 : LL) (jb : Bool) (adis4 : LL) (jh : Bool) (b6 : LL) (c7 : LB) (d9 j8 : Int) (wi wj : LB) (jA jr jt jS jz j7 ju jy jk j5 jF jx : CV) :
 Qhb lb n ja aair2 jb adis4 jh b6 c7 d9 j8 wi wj jA jr jt jS jz j7 ju jy jk j5 jF jx =
 some (.tup [.agg [.str [], .int .i64 0, .int .i64 0, .str [], .str [], .int .i64 0, .int .i64 0], .int .i64 14]) := (Qae _).trans (by kernel_rfl)
theorem QeI (lb n kL : Nat) (ja : Bool) (aair2 : LL) (jb : Bool) (adis4 : LL) (jh : Bool) (b6 : LL) (c7 : LB) (d9 j8 : Int) (wi wj : LB) (jA jr jt jS jz j7 ju jy jk j5 jF jx : CV) (y8 : Bool × LL) (i46 : Int) :
 QcH lb n (kL + 1) ja aair2 jb adis4 jh b6 c7 d9 j8 wi wj jA jr jt jS jz j7 ju jy jk j5 jF jx y8 i46 =
 bif (decide (i46 < (y8.2.length : Int))) then
 (optO (CV.asL jr) fun n5 =>
 optO (atL n5.2 i46) fun c60 =>
 chkO (c60.length == 7) (
 optO (c60[0]?) fun pZ =>
 optO (c60[1]?) fun nL =>
 optO (c60[2]?) fun gp =>
 optO (c60[3]?) fun oT =>
 optO (c60[4]?) fun ga =>
 optO (c60[5]?) fun gu =>
 optO (c60[6]?) fun kH =>
 optO (CV.asS oT) fun kM =>
 bif (kM == wi) then
 (optO (CV.asS ga) fun kF =>
 bif (kF == wj) then
 (some (.tup [.agg [pZ, nL, gp, oT, ga, gu, kH], .int .i64 0]))
 else
 (QcH lb n kL ja aair2 jb adis4 jh b6 c7 d9 j8 wi wj jA jr jt jS jz j7 ju jy jk j5 jF jx y8 (IntKind.wrap .i64 (i46 + 1))))
 else
 (QcH lb n kL ja aair2 jb adis4 jh b6 c7 d9 j8 wi wj jA jr jt jS jz j7 ju jy jk j5 jF jx y8 (IntKind.wrap .i64 (i46 + 1)))))
 else
 (Qhb lb n ja aair2 jb adis4 jh b6 c7 d9 j8 wi wj jA jr jt jS jz j7 ju jy jk j5 jF jx ) := (Qae _).trans (by kernel_rfl)
theorem Qhf (lb n : Nat) (ja : Bool) (aair2 : LL) (jb : Bool) (adis4 : LL) (jh : Bool) (b6 : LL) (c7 : LB) (d9 j8 : Int) (wi wj : LB) :
 top lb n QaH [.agg [.list ja aair2, .list jb adis4], .list jh b6, .str c7, .int .i64 d9, .int .i64 j8, .str wi, .str wj] =
 optO (C lb n QaJ [.list jh b6, .str c7, .int .i64 d9, .int .i64 j8]) fun jS =>
 optO (CV.asT jS) fun kG =>
 optO (kG[0]?) fun jz =>
 optO (CV.asT jS) fun gL =>
 optO (gL[1]?) fun jA =>
 optO (CV.asA jz) fun c19 =>
 chkO (c19.length == 6) (
 optO (c19[0]?) fun ju =>
 optO (c19[1]?) fun jy =>
 optO (c19[2]?) fun jk =>
 optO (c19[3]?) fun j5 =>
 optO (c19[4]?) fun jF =>
 optO (c19[5]?) fun jx =>
 optO (CV.asB jA) fun kv =>
 bif (!kv) then
 (some (.tup [.agg [.str [], .int .i64 0, .int .i64 0, .str [], .str [], .int .i64 0, .int .i64 0], .int .i64 7]))
 else
 (optO (C lb n Qak [.agg [.list ja aair2, .list jb adis4], .agg [ju, jy, jk, j5, jF, jx], .int .i64 j8]) fun j7 =>
 optO (CV.asT j7) fun gX =>
 optO (gX[0]?) fun jr =>
 optO (CV.asT j7) fun gV =>
 optO (gV[1]?) fun jt =>
 optO (CV.asL jr) fun y8 =>
 QcH lb n n ja aair2 jb adis4 jh b6 c7 d9 j8 wi wj jA jr jt jS jz j7 ju jy jk j5 jF jx y8 0)) := by kernel_rfl
noncomputable def Qbh (lb n yk : Nat) (ja : Bool) (aair2 : LL) (jb : Bool) (adis4 : LL) (jh : Bool) (b6 : LL) (jH : Bool) (c9 : LL) (yf : Bool) (l52 : LL) (ye : Bool) (l54 : LL) (wD : Int) : Option CV :=
 hold (Qat (E0 lb n 0 994) 0 (Qag (sub (B QaK) [1, 1, 0, 1, 0, 0]) ++ [10, 13, 37, 44]) [11, 12] (sub (B QaK) [1, 1, 0, 1, 0, 0]) (Qai 0 (seqK (E0 lb n 0 997) (sub (B QaK) [1, 1, 0]) (sub (B QaK) [1, 1, 1]) (retK Tryz.prog (R QaK) 0 (outK (Qaf Tryz.prog QaK))))) yk ⟨fr 64 [(0, .val (.agg [.list ja aair2, .list jb adis4])), (1, .val (.list jh b6)), (2, .val (.list jH c9)), (3, .ptr 0 3 0), (6, .lst true true 3 []), (7, .lst true true 3 []), (8, .lst true yf 3 l52), (9, .lst true ye 3 l54), (14, .val (.list jH c9)), (15, .val (.int .i64 (c9.length : Int))), (16, vI wD)], [bx 64 [(3, some [.val (.list ja aair2), .val (.list jb adis4)])]], KK⟩)
noncomputable def QeZ (lb n : Nat) (ja : Bool) (aair2 : LL) (jb : Bool) (adis4 : LL) (jh : Bool) (b6 : LL) (jH : Bool) (c9 : LL) (yx : Bool) (yy : LL) (yv : Bool) (yw : LL) : Option CV :=
 hold (E0 lb n 0 997 (sub (B QaK) [1, 1, 1]) (retK Tryz.prog (R QaK) 0 (outK (Qaf Tryz.prog QaK))) ⟨fr 64 [(0, .val (.agg [.list ja aair2, .list jb adis4])), (1, .val (.list jh b6)), (2, .val (.list jH c9)), (3, .ptr 0 3 0), (6, .lst true true 3 []), (7, .lst true true 3 []), (8, .lst true yx 3 yy), (9, .lst true yv 3 yw)], [bx 64 [(3, some [.val (.list ja aair2), .val (.list jb adis4)])]], KK⟩)
theorem QhA (lb n : Nat) (ja : Bool) (aair2 : LL) (jb : Bool) (adis4 : LL) (jh : Bool) (b6 : LL) (jH : Bool) (c9 : LL) (yx : Bool) (yy : LL) (yv : Bool) (yw : LL) :
 QeZ lb n ja aair2 jb adis4 jh b6 jH c9 yx yy yv yw =
 some (.tup [.list yx yy, .list yv yw]) := (Qae _).trans (by kernel_rfl)
theorem QdC (lb n yk : Nat) (ja : Bool) (aair2 : LL) (jb : Bool) (adis4 : LL) (jh : Bool) (b6 : LL) (jH : Bool) (c9 : LL) (yf : Bool) (l52 : LL) (ye : Bool) (l54 : LL) (wD : Int) :
 Qbh lb n (yk + 1) ja aair2 jb adis4 jh b6 jH c9 yf l52 ye l54 wD =
 bif (decide (wD < (c9.length : Int))) then
 (optO (atL c9 wD) fun c84 =>
 chkO (c84.length == 7) (
 optO (c84[0]?) fun vT =>
 optO (c84[1]?) fun kJ =>
 optO (c84[2]?) fun vr =>
 optO (c84[3]?) fun kK =>
 optO (c84[4]?) fun kQ =>
 optO (c84[5]?) fun kw =>
 optO (c84[6]?) fun gM =>
 optO (C lb n QaH [.agg [.list ja aair2, .list jb adis4], .list jh b6, vT, kJ, vr, kK, kQ]) fun kN =>
 optO (CV.asT kN) fun gE =>
 optO (gE[0]?) fun gy =>
 optO (CV.asT kN) fun gh =>
 optO (gh[1]?) fun gk =>
 optO (CV.asA gy) fun c97 =>
 chkO (c97.length == 7) (
 optO (c97[0]?) fun nY =>
 optO (c97[1]?) fun nF =>
 optO (c97[2]?) fun mo =>
 optO (c97[3]?) fun mt =>
 optO (c97[4]?) fun mw =>
 optO (c97[5]?) fun oq =>
 optO (c97[6]?) fun kZ =>
 optO (CV.asI .i64 gk) fun oA =>
 bif (oA != 0) then
 (chkO (room (l52.length + 1) 8) (
 Qbh lb n yk ja aair2 jb adis4 jh b6 jH c9 (yf && false) (l52 ++ [[CV.int .i64 wD]]) ye l54 (IntKind.wrap .i64 (wD + 1))))
 else
 (optO (CV.asI .i64 oq) fun oC =>
 optO (CV.asI .i64 kw) fun yh =>
 bif (oC != yh) then
 (chkO (room (l54.length + 1) 8) (
 Qbh lb n yk ja aair2 jb adis4 jh b6 jH c9 yf l52 (ye && false) (l54 ++ [[CV.int .i64 wD]]) (IntKind.wrap .i64 (wD + 1))))
 else
 (optO (CV.asI .i64 kZ) fun oh =>
 optO (CV.asI .i64 gM) fun k7 =>
 bif (oh != k7) then
 (chkO (room (l54.length + 1) 8) (
 Qbh lb n yk ja aair2 jb adis4 jh b6 jH c9 yf l52 (ye && false) (l54 ++ [[CV.int .i64 wD]]) (IntKind.wrap .i64 (wD + 1))))
 else
 (Qbh lb n yk ja aair2 jb adis4 jh b6 jH c9 yf l52 ye l54 (IntKind.wrap .i64 (wD + 1))))))))
 else
 (QeZ lb n ja aair2 jb adis4 jh b6 jH c9 yf l52 ye l54) := (Qae _).trans (by kernel_rfl)
theorem Qja (lb n : Nat) (ja : Bool) (aair2 : LL) (jb : Bool) (adis4 : LL) (jh : Bool) (b6 : LL) (jH : Bool) (c9 : LL) :
 top lb n QaK [.agg [.list ja aair2, .list jb adis4], .list jh b6, .list jH c9] =
 Qbh lb n n ja aair2 jb adis4 jh b6 jH c9 true [] true [] 0 := by kernel_rfl
noncomputable def Qb7 (lb n yk : Nat) (ja : Bool) (aair2 : LL) (jb : Bool) (adis4 : LL) (jh : Bool) (b6 : LL) (jH : Bool) (c9 : LL) (yf : Bool) (l52 : LL) (ye : Bool) (l54 : LL) (wD : Int) : Option CV :=
 hold (Qat (E0 lb n 0 994) 0 (Qag (sub (B Qbc) [1, 1, 0, 1, 0, 0]) ++ [13]) [11, 12] (sub (B Qbc) [1, 1, 0, 1, 0, 0]) (Qai 0 (seqK (E0 lb n 0 997) (sub (B Qbc) [1, 1, 0]) (sub (B Qbc) [1, 1, 1]) (retK Tryz.prog (R Qbc) 0 (outK (Qaf Tryz.prog Qbc))))) yk ⟨fr 64 [(0, .val (.agg [.list ja aair2, .list jb adis4])), (1, .val (.list jh b6)), (2, .val (.list jH c9)), (3, .ptr 0 3 0), (6, .lst true true 3 []), (7, .lst true true 3 []), (8, .lst true yf 3 l52), (9, .lst true ye 3 l54), (10, vI wD)], [bx 64 [(3, some [.val (.list ja aair2), .val (.list jb adis4)])]], KK⟩)
noncomputable def Qie (lb n : Nat) (ja : Bool) (aair2 : LL) (jb : Bool) (adis4 : LL) (jh : Bool) (b6 : LL) (jH : Bool) (c9 : LL) (yx : Bool) (yy : LL) (yv : Bool) (yw : LL) (ou : Int) : Option CV :=
 hold (E0 lb n 0 997 (sub (B Qbc) [1, 1, 1]) (retK Tryz.prog (R Qbc) 0 (outK (Qaf Tryz.prog Qbc))) ⟨fr 64 [(0, .val (.agg [.list ja aair2, .list jb adis4])), (1, .val (.list jh b6)), (2, .val (.list jH c9)), (3, .ptr 0 3 0), (6, .lst true true 3 []), (7, .lst true true 3 []), (8, .lst true yx 3 yy), (9, .lst true yv 3 yw), (10, vI ou)], [bx 64 [(3, some [.val (.list ja aair2), .val (.list jb adis4)])]], KK⟩)
theorem Qku (lb n : Nat) (ja : Bool) (aair2 : LL) (jb : Bool) (adis4 : LL) (jh : Bool) (b6 : LL) (jH : Bool) (c9 : LL) (yx : Bool) (yy : LL) (yv : Bool) (yw : LL) (ou : Int) :
 Qie lb n ja aair2 jb adis4 jh b6 jH c9 yx yy yv yw ou =
 some (.tup [.list yx yy, .list yv yw]) := (Qae _).trans (by kernel_rfl)
theorem Qe3 (lb n yk : Nat) (ja : Bool) (aair2 : LL) (jb : Bool) (adis4 : LL) (jh : Bool) (b6 : LL) (jH : Bool) (c9 : LL) (yf : Bool) (l52 : LL) (ye : Bool) (l54 : LL) (wD : Int) :
 Qb7 lb n (yk + 1) ja aair2 jb adis4 jh b6 jH c9 yf l52 ye l54 wD =
 bif (decide (wD < (c9.length : Int))) then
 (optO (atL c9 wD) fun c84 =>
 chkO (c84.length == 7) (
 optO (c84[0]?) fun vT =>
 optO (c84[1]?) fun kJ =>
 optO (c84[2]?) fun vr =>
 optO (c84[3]?) fun kK =>
 optO (c84[4]?) fun kQ =>
 optO (c84[5]?) fun kw =>
 optO (c84[6]?) fun gM =>
 optO (C lb n Qb4 [.agg [.list ja aair2, .list jb adis4], .list jh b6, vT, kJ, vr, kK, kQ]) fun kN =>
 optO (CV.asT kN) fun gE =>
 optO (gE[0]?) fun gy =>
 optO (CV.asT kN) fun gh =>
 optO (gh[1]?) fun gk =>
 optO (CV.asA gy) fun c97 =>
 chkO (c97.length == 7) (
 optO (c97[0]?) fun nY =>
 optO (c97[1]?) fun nF =>
 optO (c97[2]?) fun mo =>
 optO (c97[3]?) fun mt =>
 optO (c97[4]?) fun mw =>
 optO (c97[5]?) fun oq =>
 optO (c97[6]?) fun kZ =>
 optO (CV.asI .i64 gk) fun oA =>
 bif (oA != 0) then
 (chkO (room (l52.length + 1) 8) (
 Qb7 lb n yk ja aair2 jb adis4 jh b6 jH c9 (yf && false) (l52 ++ [[CV.int .i64 wD]]) ye l54 (IntKind.wrap .i64 (wD + 1))))
 else
 (optO (CV.asI .i64 oq) fun oC =>
 optO (CV.asI .i64 kw) fun yh =>
 bif (oC != yh) then
 (chkO (room (l54.length + 1) 8) (
 Qb7 lb n yk ja aair2 jb adis4 jh b6 jH c9 yf l52 (ye && false) (l54 ++ [[CV.int .i64 wD]]) (IntKind.wrap .i64 (wD + 1))))
 else
 (optO (CV.asI .i64 kZ) fun oh =>
 optO (CV.asI .i64 gM) fun k7 =>
 bif (oh != k7) then
 (chkO (room (l54.length + 1) 8) (
 Qb7 lb n yk ja aair2 jb adis4 jh b6 jH c9 yf l52 (ye && false) (l54 ++ [[CV.int .i64 wD]]) (IntKind.wrap .i64 (wD + 1))))
 else
 (Qb7 lb n yk ja aair2 jb adis4 jh b6 jH c9 yf l52 ye l54 (IntKind.wrap .i64 (wD + 1))))))))
 else
 (Qie lb n ja aair2 jb adis4 jh b6 jH c9 yf l52 ye l54 wD) := (Qae _).trans (by kernel_rfl)
theorem QmU (lb n : Nat) (ja : Bool) (aair2 : LL) (jb : Bool) (adis4 : LL) (jh : Bool) (b6 : LL) (jH : Bool) (c9 : LL) :
 top lb n Qbc [.agg [.list ja aair2, .list jb adis4], .list jh b6, .list jH c9] =
 Qb7 lb n n ja aair2 jb adis4 jh b6 jH c9 true [] true [] 0 := by kernel_rfl
noncomputable def Qcb (lb n oW : Nat) (ja : Bool) (aair2 : LL) (jb : Bool) (adis4 : LL) (jh : Bool) (b6 : LL) (jH : Bool) (c9 : LL) (jo ji jk jF jj wa : CV) (w4 : Int) : Option CV :=
 hold (Qat (E0 lb n 0 991) 0 (Qag (sub (B Qao) [1, 1, 1, 1, 1, 0, 1, 0, 0]) ++ []) [] (sub (B Qao) [1, 1, 1, 1, 1, 0, 1, 0, 0]) (Qai 0 (seqK (E0 lb n 0 994) (sub (B Qao) [1, 1, 1, 1, 1, 0]) (sub (B Qao) [1, 1, 1, 1, 1, 1]) (retK Tryz.prog (R Qao) 0 (outK (Qaf Tryz.prog Qao))))) oW ⟨fr 80 [(0, .val (.agg [.list ja aair2, .list jb adis4])), (1, .val (.list jh b6)), (2, .val (.list jH c9)), (3, .ptr 0 3 0), (6, vB false), (7, vV jo), (8, vV ji), (9, vV jk), (10, vV jF), (11, vI w4), (23, vV jj), (24, .val (.agg [.list ja aair2, .list jb adis4])), (25, .val (.list jh b6)), (26, .val (.list jH c9)), (27, vV jj), (28, vV jo), (29, vV ji), (30, vV wa), (31, .val (.agg [.list ja aair2, .list jb adis4])), (32, .val (.list jh b6)), (33, .val (.list jH c9)), (34, vV wa), (35, vV jk), (36, vV jF)], [bx 80 [(3, some [.val (.list ja aair2), .val (.list jb adis4)])]], KK⟩)
noncomputable def Qd0 (lb n : Nat) (ja : Bool) (aair2 : LL) (jb : Bool) (adis4 : LL) (jh : Bool) (b6 : LL) (jH : Bool) (c9 : LL) (jo ji jk jF jj wa : CV) (yg : Int) : Option CV :=
 hold (E0 lb n 0 994 (sub (B Qao) [1, 1, 1, 1, 1, 1]) (retK Tryz.prog (R Qao) 0 (outK (Qaf Tryz.prog Qao))) ⟨fr 80 [(0, .val (.agg [.list ja aair2, .list jb adis4])), (1, .val (.list jh b6)), (2, .val (.list jH c9)), (3, .ptr 0 3 0), (6, vB false), (7, vV jo), (8, vV ji), (9, vV jk), (10, vV jF), (11, vI yg), (23, vV jj), (24, .val (.agg [.list ja aair2, .list jb adis4])), (25, .val (.list jh b6)), (26, .val (.list jH c9)), (27, vV jj), (28, vV jo), (29, vV ji), (30, vV wa), (31, .val (.agg [.list ja aair2, .list jb adis4])), (32, .val (.list jh b6)), (33, .val (.list jH c9)), (34, vV wa), (35, vV jk), (36, vV jF)], [bx 80 [(3, some [.val (.list ja aair2), .val (.list jb adis4)])]], KK⟩)
noncomputable def Qca (lb n oV : Nat) (ja : Bool) (aair2 : LL) (jb : Bool) (adis4 : LL) (jh : Bool) (b6 : LL) (jH : Bool) (c9 : LL) (jo ji jk jF : CV) (yg : Int) (jj wa : CV) (y9 : Int) : Option CV :=
 hold (Qat (E0 lb n 0 990) 0 (Qag (sub (B Qao) [1, 1, 1, 1, 1, 1, 0, 1, 0, 0]) ++ []) [] (sub (B Qao) [1, 1, 1, 1, 1, 1, 0, 1, 0, 0]) (Qai 2 (seqK (E0 lb n 0 993) (sub (B Qao) [1, 1, 1, 1, 1, 1, 0]) (sub (B Qao) [1, 1, 1, 1, 1, 1, 1]) (retK Tryz.prog (R Qao) 0 (outK (Qaf Tryz.prog Qao))))) oV ⟨fr 80 [(0, .val (.agg [.list ja aair2, .list jb adis4])), (1, .val (.list jh b6)), (2, .val (.list jH c9)), (3, .ptr 0 3 0), (6, vB false), (7, vV jo), (8, vV ji), (9, vV jk), (10, vV jF), (11, vI yg), (12, vI y9), (23, vV jj), (24, .val (.agg [.list ja aair2, .list jb adis4])), (25, .val (.list jh b6)), (26, .val (.list jH c9)), (27, vV jj), (28, vV jo), (29, vV ji), (30, vV wa), (31, .val (.agg [.list ja aair2, .list jb adis4])), (32, .val (.list jh b6)), (33, .val (.list jH c9)), (34, vV wa), (35, vV jk), (36, vV jF)], [bx 80 [(3, some [.val (.list ja aair2), .val (.list jb adis4)])]], KK⟩)
noncomputable def Qd6 (lb n : Nat) (ja : Bool) (aair2 : LL) (jb : Bool) (adis4 : LL) (jh : Bool) (b6 : LL) (jH : Bool) (c9 : LL) (jo ji jk jF : CV) (yg : Int) (jj wa : CV) (gJ : Int) : Option CV :=
 hold (E0 lb n 0 993 (sub (B Qao) [1, 1, 1, 1, 1, 1, 1]) (retK Tryz.prog (R Qao) 0 (outK (Qaf Tryz.prog Qao))) ⟨fr 80 [(0, .val (.agg [.list ja aair2, .list jb adis4])), (1, .val (.list jh b6)), (2, .val (.list jH c9)), (3, .ptr 0 3 0), (6, vB false), (7, vV jo), (8, vV ji), (9, vV jk), (10, vV jF), (11, vI yg), (12, vI gJ), (23, vV jj), (24, .val (.agg [.list ja aair2, .list jb adis4])), (25, .val (.list jh b6)), (26, .val (.list jH c9)), (27, vV jj), (28, vV jo), (29, vV ji), (30, vV wa), (31, .val (.agg [.list ja aair2, .list jb adis4])), (32, .val (.list jh b6)), (33, .val (.list jH c9)), (34, vV wa), (35, vV jk), (36, vV jF)], [bx 80 [(3, some [.val (.list ja aair2), .val (.list jb adis4)])]], KK⟩)
theorem Qgg (lb n : Nat) (ja : Bool) (aair2 : LL) (jb : Bool) (adis4 : LL) (jh : Bool) (b6 : LL) (jH : Bool) (c9 : LL) (jo ji jk jF : CV) (yg : Int) (jj wa : CV) (gJ : Int) :
 Qd6 lb n ja aair2 jb adis4 jh b6 jH c9 jo ji jk jF yg jj wa gJ =
 optO (C lb n Qdm []) fun pJ =>
 some (pJ) := (Qae _).trans (by kernel_rfl)
theorem Qc3 (lb n oV : Nat) (ja : Bool) (aair2 : LL) (jb : Bool) (adis4 : LL) (jh : Bool) (b6 : LL) (jH : Bool) (c9 : LL) (jo ji jk jF : CV) (yg : Int) (jj wa : CV) (y9 : Int) :
 Qca lb n (oV + 1) ja aair2 jb adis4 jh b6 jH c9 jo ji jk jF yg jj wa y9 =
 optO (CV.asL ji) fun pX =>
 bif (decide (y9 < (pX.2.length : Int))) then
 (optO (CV.asL ji) fun gH =>
 optO (atL gH.2 y9) fun c83 =>
 chkO (c83.length == 1) (
 optO (c83[0]?) fun vf =>
 optO (CV.asL jF) fun pf =>
 optO (atL pf.2 y9) fun c86 =>
 chkO (c86.length == 1) (
 optO (c86[0]?) fun vr =>
 optO (CV.asI .i64 vf) fun pO =>
 optO (CV.asI .i64 vr) fun pr =>
 bif (pO != pr) then
 (some (.bool false))
 else
 (Qca lb n oV ja aair2 jb adis4 jh b6 jH c9 jo ji jk jF yg jj wa (IntKind.wrap .i64 (y9 + 1))))))
 else
 (Qd6 lb n ja aair2 jb adis4 jh b6 jH c9 jo ji jk jF yg jj wa y9) := (Qae _).trans (by kernel_rfl)
theorem Qgj (lb n : Nat) (ja : Bool) (aair2 : LL) (jb : Bool) (adis4 : LL) (jh : Bool) (b6 : LL) (jH : Bool) (c9 : LL) (jo ji jk jF jj wa : CV) (yg : Int) :
 Qd0 lb n ja aair2 jb adis4 jh b6 jH c9 jo ji jk jF jj wa yg =
 Qca lb n n ja aair2 jb adis4 jh b6 jH c9 jo ji jk jF yg jj wa 0 := (Qae _).trans (by kernel_rfl)
theorem Qc2 (lb n oW : Nat) (ja : Bool) (aair2 : LL) (jb : Bool) (adis4 : LL) (jh : Bool) (b6 : LL) (jH : Bool) (c9 : LL) (jo ji jk jF jj wa : CV) (w4 : Int) :
 Qcb lb n (oW + 1) ja aair2 jb adis4 jh b6 jH c9 jo ji jk jF jj wa w4 =
 optO (CV.asL jo) fun pD =>
 bif (decide (w4 < (pD.2.length : Int))) then
 (optO (CV.asL jo) fun pI =>
 optO (atL pI.2 w4) fun c52 =>
 chkO (c52.length == 1) (
 optO (c52[0]?) fun oP =>
 optO (CV.asL jk) fun n3 =>
 optO (atL n3.2 w4) fun c55 =>
 chkO (c55.length == 1) (
 optO (c55[0]?) fun g0 =>
 optO (CV.asI .i64 oP) fun w3 =>
 optO (CV.asI .i64 g0) fun pV =>
 bif (w3 != pV) then
 (some (.bool false))
 else
 (Qcb lb n oW ja aair2 jb adis4 jh b6 jH c9 jo ji jk jF jj wa (IntKind.wrap .i64 (w4 + 1))))))
 else
 (Qd0 lb n ja aair2 jb adis4 jh b6 jH c9 jo ji jk jF jj wa w4) := (Qae _).trans (by kernel_rfl)
theorem QcO (lb n : Nat) (ja : Bool) (aair2 : LL) (jb : Bool) (adis4 : LL) (jh : Bool) (b6 : LL) (jH : Bool) (c9 : LL) :
 top lb n Qao [.agg [.list ja aair2, .list jb adis4], .list jh b6, .list jH c9] =
 optO (C lb n Qhu [.agg [.list ja aair2, .list jb adis4], .list jh b6]) fun kX =>
 optO (CV.asB kX) fun vb =>
 bif (!vb) then
 (optO (C lb n Qdm []) fun vc =>
 some (vc))
 else
 (bif (decide ((c9.length : Int) > 20)) then
 (optO (C lb n Qdm []) fun jS =>
 some (jS))
 else
 (optO (C lb n QaK [.agg [.list ja aair2, .list jb adis4], .list jh b6, .list jH c9]) fun jj =>
 optO (CV.asT jj) fun vg =>
 optO (vg[0]?) fun jo =>
 optO (CV.asT jj) fun vD =>
 optO (vD[1]?) fun ji =>
 optO (C lb n Qbc [.agg [.list ja aair2, .list jb adis4], .list jh b6, .list jH c9]) fun wa =>
 optO (CV.asT wa) fun t21 =>
 optO (t21[0]?) fun jk =>
 optO (CV.asT wa) fun nZ =>
 optO (nZ[1]?) fun jF =>
 optO (CV.asL jo) fun pN =>
 optO (CV.asL jk) fun p8 =>
 bif ((pN.2.length : Int) != (p8.2.length : Int)) then
 (some (.bool false))
 else
 (optO (CV.asL ji) fun pg =>
 optO (CV.asL jF) fun gG =>
 bif ((pg.2.length : Int) != (gG.2.length : Int)) then
 (some (.bool false))
 else
 (Qcb lb n n ja aair2 jb adis4 jh b6 jH c9 jo ji jk jF jj wa 0)))) := by kernel_rfl
end Go.Proofs
