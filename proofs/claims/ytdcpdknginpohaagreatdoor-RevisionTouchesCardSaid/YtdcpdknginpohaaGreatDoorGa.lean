/- Equations of functions, printed by program. Conditions: none. -/
import Derived.Test.YtdcpdknginpohaaGreatDoorEv
namespace Go.Proofs
open Go.Am
set_option maxRecDepth 100000
set_option linter.unusedVariables false
noncomputable def r06_Find_L1 :=
 fun lb n (yb : Nat) (ja : Bool) (aair2 : LL) (jb : Bool) (adis4 : LL) b5 j6 =>
 hold (Qat (E0 lb n 0 995) 0 (Qag (sub (B Qa9) [1, 0, 1, 0, 0]) ++ []) [] (sub (B Qa9) [1, 0, 1, 0, 0]) (Qai 0 (seqK (E0 lb n 0 998) (sub (B Qa9) [1, 0]) (sub (B Qa9) [1, 1]) (retK Tryz.prog (R Qa9) 0 (outK (Qaf Tryz.prog Qa9))))) yb ⟨fr 28 [(0, .val (.agg [.list ja aair2, .list jb adis4])), (1, vS b5), (2, .ptr 0 2 0), (4, .ptr 0 4 0), (5, vB false), (6, vI j6)], [bx 28 [(2, some [.val (.list ja aair2), .val (.list jb adis4)]), (4, some [.val (.str []), .val (.str []), .val (.str []), vI 0, .lst true true 195 []])]], KK⟩)
noncomputable def Qlh (lb n : Nat) (ja : Bool) (aair2 : LL) (jb : Bool) (adis4 : LL) (b5 : LB) (w9 : Int) : Option CV :=
 hold (E0 lb n 0 998 (sub (B Qa9) [1, 1]) (retK Tryz.prog (R Qa9) 0 (outK (Qaf Tryz.prog Qa9))) ⟨fr 28 [(0, .val (.agg [.list ja aair2, .list jb adis4])), (1, vS b5), (2, .ptr 0 2 0), (4, .ptr 0 4 0), (5, vB false), (6, vI w9)], [bx 28 [(2, some [.val (.list ja aair2), .val (.list jb adis4)]), (4, some [.val (.str []), .val (.str []), .val (.str []), vI 0, .lst true true 195 []])]], KK⟩)
theorem Qm2 (lb n : Nat) (ja : Bool) (aair2 : LL) (jb : Bool) (adis4 : LL) (b5 : LB) (w9 : Int) :
 Qlh lb n ja aair2 jb adis4 b5 w9 =
 some (.tup [.agg [.str [], .str [], .str [], .int .i64 0, .list true []], .bool false]) := (Qae _).trans (by kernel_rfl)
theorem QgQ (lb n yb : Nat) (ja : Bool) (aair2 : LL) (jb : Bool) (adis4 : LL) (b5 : LB) (j6 : Int) :
 r06_Find_L1 lb n (yb + 1) ja aair2 jb adis4 b5 j6 =
 bif (decide (j6 < (aair2.length : Int))) then
 (optO (atL aair2 j6) fun c28 =>
 chkO (c28.length == 5) (
 optO (c28[0]?) fun jr =>
 optO (CV.asS jr) fun vi =>
 bif (vi == b5) then
 (optO (atL aair2 j6) fun c31 =>
 chkO (c31.length == 5) (
 optO (c31[0]?) fun jK =>
 optO (c31[1]?) fun jQ =>
 optO (c31[2]?) fun yK =>
 optO (c31[3]?) fun yO =>
 optO (c31[4]?) fun ym =>
 some (.tup [.agg [jK, jQ, yK, yO, ym], .bool true])))
 else
 (r06_Find_L1 lb n yb ja aair2 jb adis4 b5 (IntKind.wrap .i64 (j6 + 1)))))
 else
 (Qlh lb n ja aair2 jb adis4 b5 j6) := (Qae _).trans (by kernel_rfl)
theorem Qp8 (lb n : Nat) (ja : Bool) (aair2 : LL) (jb : Bool) (adis4 : LL) (b5 : LB) :
 top lb n Qa9 [.agg [.list ja aair2, .list jb adis4], .str b5] =
 r06_Find_L1 lb n n ja aair2 jb adis4 b5 0 := by kernel_rfl
noncomputable def QdY (lb n oL : Nat) (ja : Bool) (aair2 : LL) (jb : Bool) (adis4 : LL) (b5 : LB) (ww : Int) : Option CV :=
 hold (Qat (E0 lb n 0 995) 0 (Qag (sub (B Qa4) [1, 0, 1, 0, 0]) ++ []) [7] (sub (B Qa4) [1, 0, 1, 0, 0]) (Qai 0 (seqK (E0 lb n 0 998) (sub (B Qa4) [1, 0]) (sub (B Qa4) [1, 1]) (retK Tryz.prog (R Qa4) 0 (outK (Qaf Tryz.prog Qa4))))) oL ⟨fr 22 [(0, .val (.agg [.list ja aair2, .list jb adis4])), (1, vS b5), (2, .ptr 0 2 0), (4, .ptr 0 4 0), (5, vB false), (8, .ptr 0 2 0), (9, .val (.list ja aair2)), (10, .val (.int .i64 (aair2.length : Int))), (11, vI ww)], [bx 22 [(2, some [.val (.list ja aair2), .val (.list jb adis4)]), (4, some [.val (.str []), .val (.str []), .val (.str []), vI 0, .lst true true 195 []])]], KK⟩)
noncomputable def Qh4 (lb n : Nat) (ja : Bool) (aair2 : LL) (jb : Bool) (adis4 : LL) (b5 : LB) : Option CV :=
 hold (E0 lb n 0 998 (sub (B Qa4) [1, 1]) (retK Tryz.prog (R Qa4) 0 (outK (Qaf Tryz.prog Qa4))) ⟨fr 22 [(0, .val (.agg [.list ja aair2, .list jb adis4])), (1, vS b5), (2, .ptr 0 2 0), (4, .ptr 0 4 0), (5, vB false)], [bx 22 [(2, some [.val (.list ja aair2), .val (.list jb adis4)]), (4, some [.val (.str []), .val (.str []), .val (.str []), vI 0, .lst true true 195 []])]], KK⟩)
theorem QkE (lb n : Nat) (ja : Bool) (aair2 : LL) (jb : Bool) (adis4 : LL) (b5 : LB) :
 Qh4 lb n ja aair2 jb adis4 b5 =
 some (.tup [.agg [.str [], .str [], .str [], .int .i64 0, .list true []], .bool false]) := (Qae _).trans (by kernel_rfl)
theorem Qe2 (lb n oL : Nat) (ja : Bool) (aair2 : LL) (jb : Bool) (adis4 : LL) (b5 : LB) (ww : Int) :
 QdY lb n (oL + 1) ja aair2 jb adis4 b5 ww =
 bif (decide (ww < (aair2.length : Int))) then
 (optO (atL aair2 ww) fun c24 =>
 chkO (c24.length == 5) (
 optO (c24[0]?) fun jx =>
 optO (c24[1]?) fun ky =>
 optO (c24[2]?) fun jO =>
 optO (c24[3]?) fun oY =>
 optO (c24[4]?) fun jr =>
 optO (CV.asS jx) fun vi =>
 bif (vi == b5) then
 (some (.tup [.agg [jx, ky, jO, oY, jr], .bool true]))
 else
 (QdY lb n oL ja aair2 jb adis4 b5 (IntKind.wrap .i64 (ww + 1)))))
 else
 (Qh4 lb n ja aair2 jb adis4 b5 ) := (Qae _).trans (by kernel_rfl)
theorem QmP (lb n : Nat) (ja : Bool) (aair2 : LL) (jb : Bool) (adis4 : LL) (b5 : LB) :
 top lb n Qa4 [.agg [.list ja aair2, .list jb adis4], .str b5] =
 QdY lb n n ja aair2 jb adis4 b5 0 := by kernel_rfl
noncomputable def Qfw (lb n yb : Nat) (jn : Int) (jl : Bool) (ashi3 : LL) (b4 : Int) (r5 : CV) (p6 : Bool × LL) (j6 wn : Int) : Option CV :=
 hold (Qat (E0 lb n 0 994) 0 (Qag (sub (B Qba) [1, 1, 0, 1, 0, 0]) ++ []) [7] (sub (B Qba) [1, 1, 0, 1, 0, 0]) (Qai 0 (seqK (E0 lb n 0 997) (sub (B Qba) [1, 1, 0]) (sub (B Qba) [1, 1, 1]) (retK Tryz.prog (R Qba) 0 (outK (Qaf Tryz.prog Qba))))) yb ⟨fr 28 [(0, .val (.agg [.int .i64 jn, .list jl ashi3])), (1, vI b4), (2, .ptr 0 2 0), (4, vI 0), (5, vI j6), (8, .val (.agg [.int .i64 jn, .list jl ashi3])), (9, vV r5), (10, .val (.int .i64 (p6.2.length : Int))), (11, vI wn)], [bx 28 [(2, some [vI jn, .val (.list jl ashi3)])]], KK⟩)
noncomputable def QkN (lb n : Nat) (jn : Int) (jl : Bool) (ashi3 : LL) (b4 i37 : Int) (gx gC gK : CV) : Option CV :=
 hold (E0 lb n 0 997 (sub (B Qba) [1, 1, 1]) (retK Tryz.prog (R Qba) 0 (outK (Qaf Tryz.prog Qba))) ⟨fr 28 [(0, .val (.agg [.int .i64 jn, .list jl ashi3])), (1, vI b4), (2, .ptr 0 2 0), (4, vI 0), (5, vI i37)], [bx 28 [(2, some [vI jn, .val (.list jl ashi3)]), (7, some [.val gx, .val gC, .val gK])]], KK⟩)
theorem Qne (lb n : Nat) (jn : Int) (jl : Bool) (ashi3 : LL) (b4 i37 : Int) (gx gC gK : CV) :
 QkN lb n jn jl ashi3 b4 i37 gx gC gK =
 some (.int .i64 i37) := (Qae _).trans (by kernel_rfl)
noncomputable def Qlm (lb n : Nat) (jn : Int) (jl : Bool) (ashi3 : LL) (b4 o7 : Int) : Option CV :=
 hold (E0 lb n 0 997 (sub (B Qba) [1, 1, 1]) (retK Tryz.prog (R Qba) 0 (outK (Qaf Tryz.prog Qba))) ⟨fr 28 [(0, .val (.agg [.int .i64 jn, .list jl ashi3])), (1, vI b4), (2, .ptr 0 2 0), (4, vI 0), (5, vI o7)], [bx 28 [(2, some [vI jn, .val (.list jl ashi3)])]], KK⟩)
theorem Qm8 (lb n : Nat) (jn : Int) (jl : Bool) (ashi3 : LL) (b4 o7 : Int) :
 Qlm lb n jn jl ashi3 b4 o7 =
 some (.int .i64 o7) := (Qae _).trans (by kernel_rfl)
theorem QgL (lb n yb : Nat) (jn : Int) (jl : Bool) (ashi3 : LL) (b4 : Int) (r5 : CV) (p6 : Bool × LL) (j6 wn : Int) :
 Qfw lb n (yb + 1) jn jl ashi3 b4 r5 p6 j6 wn =
 bif (decide (wn < (p6.2.length : Int))) then
 (optO (CV.asL r5) fun gG =>
 optO (atL gG.2 wn) fun c29 =>
 chkO (c29.length == 3) (
 optO (c29[0]?) fun jX =>
 optO (c29[1]?) fun jt =>
 optO (c29[2]?) fun jK =>
 optO (CV.asI .i64 jK) fun yA =>
 optO (CV.asI .i64 jX) fun va =>
 optO (CV.asI .i64 jt) fun wQ =>
 bif (decide ((if (IntKind.wrap .i64 (b4 - yA)) > va then (IntKind.wrap .i64 (b4 - yA)) else va) < wQ)) then
 (QkN lb n jn jl ashi3 b4 (if (IntKind.wrap .i64 (b4 - yA)) > va then (IntKind.wrap .i64 (b4 - yA)) else va) jX jt jK)
 else
 (Qfw lb n yb jn jl ashi3 b4 r5 p6 (if (IntKind.wrap .i64 (b4 - yA)) > va then (IntKind.wrap .i64 (b4 - yA)) else va) (IntKind.wrap .i64 (wn + 1)))))
 else
 (Qlm lb n jn jl ashi3 b4 j6) := (Qae _).trans (by kernel_rfl)
theorem Qp6 (lb n : Nat) (jn : Int) (jl : Bool) (ashi3 : LL) (b4 : Int) :
 top lb n Qba [.agg [.int .i64 jn, .list jl ashi3], .int .i64 b4] =
 optO (C lb n QeU [.agg [.int .i64 jn, .list jl ashi3]]) fun r5 =>
 optO (CV.asL r5) fun p6 =>
 Qfw lb n n jn jl ashi3 b4 r5 p6 0 0 := by kernel_rfl
noncomputable def Qgf (lb n yb : Nat) (jn : Int) (jl : Bool) (ashi3 : LL) (b4 yR j6 : Int) : Option CV :=
 hold (Qat (E0 lb n 0 994) 0 (Qag (sub (B Qb5) [1, 1, 0, 1, 0, 0]) ++ []) [] (sub (B Qb5) [1, 1, 0, 1, 0, 0]) (Qai 0 (seqK (E0 lb n 0 997) (sub (B Qb5) [1, 1, 0]) (sub (B Qb5) [1, 1, 1]) (retK Tryz.prog (R Qb5) 0 (outK (Qaf Tryz.prog Qb5))))) yb ⟨fr 43 [(0, .val (.agg [.int .i64 jn, .list jl ashi3])), (1, vI b4), (2, .ptr 0 2 0), (4, vI 0), (5, vI yR), (6, vI j6), (7, vI b4), (8, .ptr 0 2 0), (9, vI jn), (10, .val (.int .i64 (IntKind.wrap .i64 (b4 - jn))))], [bx 43 [(2, some [vI jn, .val (.list jl ashi3)])]], KK⟩)
noncomputable def QlI (lb n : Nat) (jn : Int) (jl : Bool) (ashi3 : LL) (b4 w9 w4 : Int) : Option CV :=
 hold (E0 lb n 0 997 (sub (B Qb5) [1, 1, 1]) (retK Tryz.prog (R Qb5) 0 (outK (Qaf Tryz.prog Qb5))) ⟨fr 43 [(0, .val (.agg [.int .i64 jn, .list jl ashi3])), (1, vI b4), (2, .ptr 0 2 0), (4, vI 0), (5, vI w9), (6, vI w4), (7, vI b4), (8, .ptr 0 2 0), (9, vI jn), (10, .val (.int .i64 (IntKind.wrap .i64 (b4 - jn))))], [bx 43 [(2, some [vI jn, .val (.list jl ashi3)])]], KK⟩)
theorem Qog (lb n : Nat) (jn : Int) (jl : Bool) (ashi3 : LL) (b4 w9 w4 : Int) :
 QlI lb n jn jl ashi3 b4 w9 w4 =
 some (.int .i64 w9) := (Qae _).trans (by kernel_rfl)
theorem Qg3 (lb n yb : Nat) (jn : Int) (jl : Bool) (ashi3 : LL) (b4 yR j6 : Int) :
 Qgf lb n (yb + 1) jn jl ashi3 b4 yR j6 =
 bif (decide (j6 < (ashi3.length : Int))) then
 (optO (atL ashi3 j6) fun c28 =>
 chkO (c28.length == 2) (
 optO (c28[0]?) fun jr =>
 optO (CV.asI .i64 jr) fun y6 =>
 bif (decide (yR < y6)) then
 (some (.int .i64 yR))
 else
 (optO (atL ashi3 j6) fun c31 =>
 chkO (c31.length == 2) (
 optO (c31[0]?) fun jK =>
 optO (atL ashi3 j6) fun c34 =>
 chkO (c34.length == 2) (
 optO (c34[1]?) fun yK =>
 optO (CV.asI .i64 yK) fun wQ =>
 optO (CV.asI .i64 jK) fun i37 =>
 Qgf lb n yb jn jl ashi3 b4 (if (IntKind.wrap .i64 (b4 - wQ)) > i37 then (IntKind.wrap .i64 (b4 - wQ)) else i37) (IntKind.wrap .i64 (j6 + 1)))))))
 else
 (QlI lb n jn jl ashi3 b4 yR j6) := (Qae _).trans (by kernel_rfl)
theorem Qru (lb n : Nat) (jn : Int) (jl : Bool) (ashi3 : LL) (b4 : Int) :
 top lb n Qb5 [.agg [.int .i64 jn, .list jl ashi3], .int .i64 b4] =
 Qgf lb n n jn jl ashi3 b4 (IntKind.wrap .i64 (b4 - jn)) 0 := by kernel_rfl
theorem Ql4 (lb n : Nat) (ja : Bool) (aair2 : LL) (jb : Bool) (adis4 : LL) (o5 gA : LB) (oI gd : Int) (gw : LB) (oZ : Int) :
 top lb n Qe7 [.agg [.list ja aair2, .list jb adis4], .agg [.str o5, .str gA, .int .i64 oI, .int .i64 gd, .str gw], .int .i64 oZ] =
 optO (C lb n Qa4 [.agg [.list ja aair2, .list jb adis4], .str o5]) fun vc =>
 optO (CV.asT vc) fun p9 =>
 optO (p9[0]?) fun qj =>
 optO (CV.asT vc) fun vg =>
 optO (vg[1]?) fun jo =>
 optO (CV.asA qj) fun c18 =>
 chkO (c18.length == 5) (
 optO (c18[0]?) fun ji =>
 optO (c18[1]?) fun ju =>
 optO (c18[2]?) fun jy =>
 optO (c18[3]?) fun jk =>
 optO (c18[4]?) fun j5 =>
 optO (C lb n Qa4 [.agg [.list ja aair2, .list jb adis4], .str gA]) fun md =>
 optO (CV.asT md) fun nR =>
 optO (nR[0]?) fun ky =>
 optO (CV.asT md) fun nS =>
 optO (nS[1]?) fun oY =>
 optO (CV.asA ky) fun c29 =>
 chkO (c29.length == 5) (
 optO (c29[0]?) fun jX =>
 optO (c29[1]?) fun jt =>
 optO (c29[2]?) fun jK =>
 optO (c29[3]?) fun jQ =>
 optO (c29[4]?) fun yK =>
 optO (C lb n Qba [.agg [jk, j5], .int .i64 (IntKind.wrap .i64 ((IntKind.wrap .i64 (oZ * 1440)) + oI))]) fun nV =>
 optO (C lb n Qba [.agg [jQ, yK], .int .i64 (IntKind.wrap .i64 ((IntKind.wrap .i64 (oZ * 1440)) + gd))]) fun kT =>
 some (.tup [nV, kT]))) := by kernel_rfl
theorem Qq8 (lb n : Nat) (ja : Bool) (aair2 : LL) (jb : Bool) (adis4 : LL) (b5 : LB) (c6 d7 : Int) :
 top lb n Qg9 [.agg [.list ja aair2, .list jb adis4], .str b5, .int .i64 c6, .int .i64 d7] =
 optO (C lb n Qa9 [.agg [.list ja aair2, .list jb adis4], .str b5]) fun r9 =>
 optO (CV.asT r9) fun pB =>
 optO (pB[0]?) fun jJ =>
 optO (CV.asT r9) fun g8 =>
 optO (g8[1]?) fun jZ =>
 optO (CV.asA jJ) fun c14 =>
 chkO (c14.length == 5) (
 optO (c14[0]?) fun jz =>
 optO (c14[1]?) fun jo =>
 optO (c14[2]?) fun jA =>
 optO (c14[3]?) fun ji =>
 optO (c14[4]?) fun ju =>
 optO (C lb n Qb5 [.agg [ji, ju], .int .i64 (IntKind.wrap .i64 ((IntKind.wrap .i64 (c6 * 1440)) + d7))]) fun gI =>
 some (gI)) := by kernel_rfl
theorem QmI (lb n : Nat) (jm jB js : Int) :
 top lb n Qfa [.agg [.int .i64 jm, .int .i64 jB, .int .i64 js]] =
 bif (decide (jm < 0)) then
 (some (.int .i64 12))
 else
 (bif (decide (jB < jm)) then
 (some (.int .i64 12))
 else
 (bif (decide (jB ≥ 36525)) then
 (some (.int .i64 12))
 else
 (bif (decide ((IntKind.wrap .i64 (jB - jm)) ≥ 800)) then
 (some (.int .i64 4))
 else
 (bif (decide (js < 1)) then
 (some (.int .i64 2))
 else
 (bif (decide (js > 127)) then
 (some (.int .i64 2))
 else
 (some (.int .i64 0))))))) := by kernel_rfl
theorem QpR (lb n : Nat) (jm jB js : Int) :
 top lb n Qdk [.agg [.int .i64 jm, .int .i64 jB, .int .i64 js]] =
 bif (decide (jm < 0)) then
 (some (.int .i64 12))
 else
 (bif (decide (jm > jB)) then
 (some (.int .i64 12))
 else
 (bif (decide (jB ≥ 36525)) then
 (some (.int .i64 12))
 else
 (bif (decide ((IntKind.wrap .i64 (jB - jm)) ≥ 800)) then
 (some (.int .i64 4))
 else
 (bif (decide (js < 1)) then
 (some (.int .i64 2))
 else
 (bif (decide (js > 127)) then
 (some (.int .i64 2))
 else
 (some (.int .i64 0))))))) := by kernel_rfl
theorem Qi8 (lb n : Nat) (a1 : Int) :
 top lb n Qdz [.int .i64 a1] =
 some (.int .i64 (Int.tmod (IntKind.wrap .i64 ((Int.tmod a1 7) + 12)) 7)) := by kernel_rfl
theorem Qnf (lb n : Nat) (a1 : Int) :
 top lb n QfW [.int .i64 a1] =
 some (.int .i64 (Int.tmod (IntKind.wrap .i64 ((Int.tmod a1 7) + 12)) 7)) := by kernel_rfl
theorem Qo6 (lb n : Nat) (a1 b2 : Int) :
 top lb n QhJ [.int .i64 a1, .int .i64 b2] =
 optO (C lb n Qdz [.int .i64 b2]) fun r3 =>
 optO (CV.asI .i64 r3) fun i4 =>
 chkO (decide (0 ≤ i4)) (
 some (.bool ((IntKind.wrap .i64 ((BitVec.ofInt 64 (Int.fdiv a1 (2 ^ (min (i4).toNat 64))) &&& BitVec.ofInt 64 1).toNat)) == 1))) := by kernel_rfl
noncomputable def Qgh (lb n k9 : Nat) (a1 i4 i5 : Int) : Option CV :=
 hold (Qat (E0 lb n 0 994) 0 (Qag (sub (B QbE) [1, 1, 0, 1, 0, 0]) ++ []) [] (sub (B QbE) [1, 1, 0, 1, 0, 0]) (Qai 0 (seqK (E0 lb n 0 997) (sub (B QbE) [1, 1, 0]) (sub (B QbE) [1, 1, 1]) (retK Tryz.prog (R QbE) 0 (outK (Qaf Tryz.prog QbE))))) k9 ⟨fr 14 [(0, vI a1), (2, vI 0), (3, vI i4), (4, vI i5)], [bx 14 []], KK⟩)
noncomputable def QlJ (lb n : Nat) (a1 yo kB : Int) : Option CV :=
 hold (E0 lb n 0 997 (sub (B QbE) [1, 1, 1]) (retK Tryz.prog (R QbE) 0 (outK (Qaf Tryz.prog QbE))) ⟨fr 14 [(0, vI a1), (2, vI 0), (3, vI yo), (4, vI kB)], [bx 14 []], KK⟩)
theorem Qov (lb n : Nat) (a1 yo kB : Int) :
 QlJ lb n a1 yo kB =
 some (.int .i64 yo) := (Qae _).trans (by kernel_rfl)
theorem Qhh (lb n k9 : Nat) (a1 i4 i5 : Int) :
 Qgh lb n (k9 + 1) a1 i4 i5 =
 optO (C lb n QfW [.int .i64 a1]) fun kX =>
 optO (CV.asI .i64 kX) fun gF =>
 bif (decide (i5 < gF)) then
 (Qgh lb n k9 a1 (IntKind.wrap .i64 (2 * i4)) (IntKind.wrap .i64 (i5 + 1)))
 else
 (QlJ lb n a1 i4 i5) := (Qae _).trans (by kernel_rfl)
theorem QqS (lb n : Nat) (a1 : Int) :
 top lb n QbE [.int .i64 a1] =
 Qgh lb n n a1 1 0 := by kernel_rfl
theorem Qoz (lb n : Nat) (jm jB js b4 : Int) :
 top lb n QeR [.agg [.int .i64 jm, .int .i64 jB, .int .i64 js], .int .i64 b4] =
 optO (C lb n Qfa [.agg [.int .i64 jm, .int .i64 jB, .int .i64 js]]) fun r5 =>
 optO (CV.asI .i64 r5) fun i6 =>
 bif (i6 == 0) then
 (bif (decide (b4 ≥ jm)) then
 (bif (decide (b4 ≤ jB)) then
 (optO (C lb n QhJ [.int .i64 js, .int .i64 b4]) fun r7 =>
 some (r7))
 else
 (some (.bool false)))
 else
 (some (.bool false)))
 else
 (some (.bool false)) := by kernel_rfl
theorem Qrg (lb n : Nat) (jm jB js b4 : Int) :
 top lb n Qes [.agg [.int .i64 jm, .int .i64 jB, .int .i64 js], .int .i64 b4] =
 optO (C lb n Qdk [.agg [.int .i64 jm, .int .i64 jB, .int .i64 js]]) fun r5 =>
 optO (CV.asI .i64 r5) fun i6 =>
 bif (i6 == 0) then
 (bif (decide (b4 ≥ jm)) then
 (bif (decide (b4 ≤ jB)) then
 (optO (C lb n QbE [.int .i64 b4]) fun r7 =>
 optO (CV.asI .i64 r7) fun i9 =>
 chkO (i9 != 0) (
 some (.bool ((Int.tmod (IntKind.wrap .i64 (Int.tdiv js i9)) 2) == 1))))
 else
 (some (.bool false)))
 else
 (some (.bool false)))
 else
 (some (.bool false)) := by kernel_rfl
noncomputable def Qdi (lb n yB : Nat) (jm jB js : Int) (vt : Bool) (l13 : LL) (ww : Int) : Option CV :=
 hold (Qat (E0 lb n 0 994) 0 (Qag (sub (B QbA) [1, 1, 0, 1, 0, 0]) ++ []) [] (sub (B QbA) [1, 1, 0, 1, 0, 0]) (Qai 0 (seqK (E0 lb n 0 997) (sub (B QbA) [1, 1, 0]) (sub (B QbA) [1, 1, 1]) (retK Tryz.prog (R QbA) 0 (outK (Qaf Tryz.prog QbA))))) yB ⟨fr 26 [(0, .val (.agg [.int .i64 jm, .int .i64 jB, .int .i64 js])), (1, .ptr 0 1 0), (2, .lst true true 3 []), (3, .lst true vt 3 l13), (4, vI ww), (5, .ptr 0 1 0), (6, vI jm)], [bx 26 [(1, some [vI jm, vI jB, vI js])]], KK⟩)
noncomputable def QhD (lb n : Nat) (jm jB js : Int) (oF : Bool) (oK : LL) (vu : Int) : Option CV :=
 hold (E0 lb n 0 997 (sub (B QbA) [1, 1, 1]) (retK Tryz.prog (R QbA) 0 (outK (Qaf Tryz.prog QbA))) ⟨fr 26 [(0, .val (.agg [.int .i64 jm, .int .i64 jB, .int .i64 js])), (1, .ptr 0 1 0), (2, .lst true true 3 []), (3, .lst true oF 3 oK), (4, vI vu)], [bx 26 [(1, some [vI jm, vI jB, vI js])]], KK⟩)
theorem Qim (lb n : Nat) (jm jB js : Int) (oF : Bool) (oK : LL) (vu : Int) :
 QhD lb n jm jB js oF oK vu =
 some (.list oF oK) := (Qae _).trans (by kernel_rfl)
theorem Qei (lb n yB : Nat) (jm jB js : Int) (vt : Bool) (l13 : LL) (ww : Int) :
 Qdi lb n (yB + 1) jm jB js vt l13 ww =
 optO (C lb n Qdk [.agg [.int .i64 jm, .int .i64 jB, .int .i64 js]]) fun gI =>
 optO (CV.asI .i64 gI) fun qm =>
 bif (qm == 0) then
 (bif (decide (ww ≤ jB)) then
 (optO (C lb n Qes [.agg [.int .i64 jm, .int .i64 jB, .int .i64 js], .int .i64 ww]) fun jU =>
 optO (CV.asB jU) fun nU =>
 bif nU then
 (chkO (room (l13.length + 1) 8) (
 Qdi lb n yB jm jB js (vt && false) (l13 ++ [[CV.int .i64 ww]]) (IntKind.wrap .i64 (ww + 1))))
 else
 (Qdi lb n yB jm jB js vt l13 (IntKind.wrap .i64 (ww + 1))))
 else
 (QhD lb n jm jB js vt l13 ww))
 else
 (QhD lb n jm jB js vt l13 ww) := (Qae _).trans (by kernel_rfl)
theorem Qp3 (lb n : Nat) (jm jB js : Int) :
 top lb n QbA [.agg [.int .i64 jm, .int .i64 jB, .int .i64 js]] =
 Qdi lb n n jm jB js true [] jm := by kernel_rfl
noncomputable def QdX (lb n oO : Nat) (ja : Bool) (aair2 : LL) (jb : Bool) (adis4 : LL) (bcar5 : LB) (jg jd jf jc : Int) (je : Bool) (bleg12 : LL) (jp : Int) (l28 : LL) (wF : Int) : Option CV :=
 hold (Qat (E0 lb n 0 993) 0 (Qag (sub (B Qbb) [1, 1, 1, 0, 1, 0, 0]) ++ [11, 12]) [10] (sub (B Qbb) [1, 1, 1, 0, 1, 0, 0]) (Qai 0 (seqK (E0 lb n 0 996) (sub (B Qbb) [1, 1, 1, 0]) (sub (B Qbb) [1, 1, 1, 1]) (retK Tryz.prog (R Qbb) 0 (outK (Qaf Tryz.prog Qbb))))) oO ⟨fr 55 [(0, .val (.agg [.list ja aair2, .list jb adis4])), (1, .val (.agg [.str bcar5, .int .i64 jg, .int .i64 jd, .int .i64 jf, .int .i64 jc, .list je bleg12])), (2, vI jp), (3, .ptr 0 3 0), (4, .ptr 0 4 0), (6, .lst true true 113 []), (7, vI 0), (8, .lst true false 113 l28), (18, .ptr 0 4 5), (19, .val (.list je bleg12)), (20, .val (.int .i64 (bleg12.length : Int))), (21, .val (.list false [])), (22, .ptr 0 4 5), (23, .val (.list je bleg12)), (24, .val (.int .i64 (bleg12.length : Int))), (25, vI wF)], [bx 55 [(3, some [.val (.list ja aair2), .val (.list jb adis4)]), (4, some [vS bcar5, vI jg, vI jd, vI jf, vI jc, .val (.list je bleg12)])]], KK⟩)
noncomputable def QhX (lb n : Nat) (ja : Bool) (aair2 : LL) (jb : Bool) (adis4 : LL) (bcar5 : LB) (jg jd jf jc : Int) (je : Bool) (bleg12 : LL) (jp : Int) (oE : Bool) (gc : LL) : Option CV :=
 hold (E0 lb n 0 996 (sub (B Qbb) [1, 1, 1, 1]) (retK Tryz.prog (R Qbb) 0 (outK (Qaf Tryz.prog Qbb))) ⟨fr 55 [(0, .val (.agg [.list ja aair2, .list jb adis4])), (1, .val (.agg [.str bcar5, .int .i64 jg, .int .i64 jd, .int .i64 jf, .int .i64 jc, .list je bleg12])), (2, vI jp), (3, .ptr 0 3 0), (4, .ptr 0 4 0), (6, .lst true true 113 []), (7, vI 0), (8, .lst true oE 113 gc), (18, .ptr 0 4 5), (19, .val (.list je bleg12)), (20, .val (.int .i64 (bleg12.length : Int))), (21, .val (.list false []))], [bx 55 [(3, some [.val (.list ja aair2), .val (.list jb adis4)]), (4, some [vS bcar5, vI jg, vI jd, vI jf, vI jc, .val (.list je bleg12)])]], KK⟩)
theorem Qkt (lb n : Nat) (ja : Bool) (aair2 : LL) (jb : Bool) (adis4 : LL) (bcar5 : LB) (jg jd jf jc : Int) (je : Bool) (bleg12 : LL) (jp : Int) (oE : Bool) (gc : LL) :
 QhX lb n ja aair2 jb adis4 bcar5 jg jd jf jc je bleg12 jp oE gc =
 some (.tup [.list oE gc, .int .i64 0]) := (Qae _).trans (by kernel_rfl)
theorem QeY (lb n oO : Nat) (ja : Bool) (aair2 : LL) (jb : Bool) (adis4 : LL) (bcar5 : LB) (jg jd jf jc : Int) (je : Bool) (bleg12 : LL) (jp : Int) (l28 : LL) (wF : Int) :
 QdX lb n (oO + 1) ja aair2 jb adis4 bcar5 jg jd jf jc je bleg12 jp l28 wF =
 bif (decide (wF < (bleg12.length : Int))) then
 (optO (atL bleg12 wF) fun c43 =>
 chkO (c43.length == 5) (
 optO (c43[0]?) fun vP =>
 optO (c43[1]?) fun gt =>
 optO (c43[2]?) fun nH =>
 optO (c43[3]?) fun n7 =>
 optO (c43[4]?) fun gD =>
 optO (C lb n Qe7 [.agg [.list ja aair2, .list jb adis4], .agg [vP, gt, nH, n7, gD], .int .i64 jp]) fun mj =>
 optO (CV.asT mj) fun ph =>
 optO (ph[0]?) fun mh =>
 optO (CV.asT mj) fun pT =>
 optO (pT[1]?) fun oP =>
 chkO (CV.isCell vP) (
 chkO (CV.isCell gt) (
 chkO (CV.isCell mh) (
 chkO (CV.isCell oP) (
 chkO (CV.isCell gD) (
 chkO (room (l28.length + 1) 96) (
 QdX lb n oO ja aair2 jb adis4 bcar5 jg jd jf jc je bleg12 jp (l28 ++ [[CV.str bcar5, CV.int .i64 jg, CV.int .i64 jp, vP, gt, mh, oP, gD]]) (IntKind.wrap .i64 (wF + 1))))))))))
 else
 (QhX lb n ja aair2 jb adis4 bcar5 jg jd jf jc je bleg12 jp false l28) := (Qae _).trans (by kernel_rfl)
theorem QmY (lb n : Nat) (ja : Bool) (aair2 : LL) (jb : Bool) (adis4 : LL) (bcar5 : LB) (jg jd jf jc : Int) (je : Bool) (bleg12 : LL) (jp : Int) :
 top lb n Qbb [.agg [.list ja aair2, .list jb adis4], .agg [.str bcar5, .int .i64 jg, .int .i64 jd, .int .i64 jf, .int .i64 jc, .list je bleg12], .int .i64 jp] =
 optO (C lb n QeR [.agg [.int .i64 jd, .int .i64 jf, .int .i64 jc], .int .i64 jp]) fun jj =>
 optO (CV.asB jj) fun wm =>
 bif (!wm) then
 (some (.tup [.list true [], .int .i64 12]))
 else
 (chkO (decide (0 ≤ (0 : Int)) && decide ((0 : Int) ≤ ((bleg12.length : Int) : Int)) && decide (((bleg12.length : Int) : Int) * 96 ≤ 140737488355328) && decide (((bleg12.length : Int) : Int) ≤ 140737488355328)) (
 QdX lb n n ja aair2 jb adis4 bcar5 jg jd jf jc je bleg12 jp [] 0)) := by kernel_rfl
noncomputable def QfH (lb n yj : Nat) (ja : Bool) (aair2 : LL) (jb : Bool) (adis4 : LL) (bcar5 : LB) (jg jd jf jc : Int) (je : Bool) (bleg12 : LL) (jp : Int) (vA : Bool) (l24 : LL) (vE : Int) : Option CV :=
 hold (Qat (E0 lb n 0 994) 0 (Qag (sub (B Qbi) [1, 1, 0, 1, 0, 0]) ++ []) [9] (sub (B Qbi) [1, 1, 0, 1, 0, 0]) (Qai 0 (seqK (E0 lb n 0 997) (sub (B Qbi) [1, 1, 0]) (sub (B Qbi) [1, 1, 1]) (retK Tryz.prog (R Qbi) 0 (outK (Qaf Tryz.prog Qbi))))) yj ⟨fr 52 [(0, .val (.agg [.list ja aair2, .list jb adis4])), (1, .val (.agg [.str bcar5, .int .i64 jg, .int .i64 jd, .int .i64 jf, .int .i64 jc, .list je bleg12])), (2, vI jp), (3, .ptr 0 3 0), (4, .ptr 0 4 0), (6, .lst true true 113 []), (7, .lst true vA 113 l24), (8, vI vE)], [bx 52 [(3, some [.val (.list ja aair2), .val (.list jb adis4)]), (4, some [vS bcar5, vI jg, vI jd, vI jf, vI jc, .val (.list je bleg12)])]], KK⟩)
noncomputable def QkS (lb n : Nat) (ja : Bool) (aair2 : LL) (jb : Bool) (adis4 : LL) (bcar5 : LB) (jg jd jf jc : Int) (je : Bool) (bleg12 : LL) (jp : Int) (oM : Bool) (oS : LL) (i46 : Int) : Option CV :=
 hold (E0 lb n 0 997 (sub (B Qbi) [1, 1, 1]) (retK Tryz.prog (R Qbi) 0 (outK (Qaf Tryz.prog Qbi))) ⟨fr 52 [(0, .val (.agg [.list ja aair2, .list jb adis4])), (1, .val (.agg [.str bcar5, .int .i64 jg, .int .i64 jd, .int .i64 jf, .int .i64 jc, .list je bleg12])), (2, vI jp), (3, .ptr 0 3 0), (4, .ptr 0 4 0), (6, .lst true true 113 []), (7, .lst true oM 113 oS), (8, vI i46)], [bx 52 [(3, some [.val (.list ja aair2), .val (.list jb adis4)]), (4, some [vS bcar5, vI jg, vI jd, vI jf, vI jc, .val (.list je bleg12)])]], KK⟩)
theorem QmN (lb n : Nat) (ja : Bool) (aair2 : LL) (jb : Bool) (adis4 : LL) (bcar5 : LB) (jg jd jf jc : Int) (je : Bool) (bleg12 : LL) (jp : Int) (oM : Bool) (oS : LL) (i46 : Int) :
 QkS lb n ja aair2 jb adis4 bcar5 jg jd jf jc je bleg12 jp oM oS i46 =
 some (.list oM oS) := (Qae _).trans (by kernel_rfl)
theorem QgV (lb n yj : Nat) (ja : Bool) (aair2 : LL) (jb : Bool) (adis4 : LL) (bcar5 : LB) (jg jd jf jc : Int) (je : Bool) (bleg12 : LL) (jp : Int) (vA : Bool) (l24 : LL) (vE : Int) :
 QfH lb n (yj + 1) ja aair2 jb adis4 bcar5 jg jd jf jc je bleg12 jp vA l24 vE =
 bif (decide (vE < (bleg12.length : Int))) then
 (optO (atL bleg12 vE) fun c36 =>
 chkO (c36.length == 5) (
 optO (c36[0]?) fun ym =>
 optO (c36[1]?) fun vH =>
 optO (c36[2]?) fun vK =>
 optO (c36[3]?) fun vQ =>
 optO (c36[4]?) fun o6 =>
 optO (C lb n Qg9 [.agg [.list ja aair2, .list jb adis4], ym, .int .i64 jp, vK]) fun o9 =>
 optO (C lb n Qg9 [.agg [.list ja aair2, .list jb adis4], vH, .int .i64 jp, vQ]) fun mg =>
 chkO (CV.isCell ym) (
 chkO (CV.isCell vH) (
 chkO (CV.isCell o9) (
 chkO (CV.isCell mg) (
 chkO (CV.isCell o6) (
 chkO (room (l24.length + 1) 96) (
 QfH lb n yj ja aair2 jb adis4 bcar5 jg jd jf jc je bleg12 jp (vA && false) (l24 ++ [[CV.str bcar5, CV.int .i64 jg, CV.int .i64 jp, ym, vH, o9, mg, o6]]) (IntKind.wrap .i64 (vE + 1))))))))))
 else
 (QkS lb n ja aair2 jb adis4 bcar5 jg jd jf jc je bleg12 jp vA l24 vE) := (Qae _).trans (by kernel_rfl)
theorem Qql (lb n : Nat) (ja : Bool) (aair2 : LL) (jb : Bool) (adis4 : LL) (bcar5 : LB) (jg jd jf jc : Int) (je : Bool) (bleg12 : LL) (jp : Int) :
 top lb n Qbi [.agg [.list ja aair2, .list jb adis4], .agg [.str bcar5, .int .i64 jg, .int .i64 jd, .int .i64 jf, .int .i64 jc, .list je bleg12], .int .i64 jp] =
 QfH lb n n ja aair2 jb adis4 bcar5 jg jd jf jc je bleg12 jp true [] 0 := by kernel_rfl
noncomputable def QcT (lb n yH : Nat) (jv : Bool) (a2 : LL) (yn : Int) : Option CV :=
 hold (Qat (E0 lb n 0 995) 0 (Qag (sub (B Qa2) [1, 0, 1, 0, 0]) ++ []) [] (sub (B Qa2) [1, 0, 1, 0, 0]) (Qai 0 (seqK (E0 lb n 0 998) (sub (B Qa2) [1, 0]) (sub (B Qa2) [1, 1]) (retK Tryz.prog (R Qa2) 0 (outK (Qaf Tryz.prog Qa2))))) yH ⟨fr 39 [(0, .val (.list jv a2)), (2, vB false), (3, vI yn)], [bx 39 []], KK⟩)
noncomputable def Qh9 (lb n : Nat) (jv : Bool) (a2 : LL) (w9 : Int) : Option CV :=
 hold (E0 lb n 0 998 (sub (B Qa2) [1, 1]) (retK Tryz.prog (R Qa2) 0 (outK (Qaf Tryz.prog Qa2))) ⟨fr 39 [(0, .val (.list jv a2)), (2, vB false), (3, vI w9)], [bx 39 []], KK⟩)
theorem Qky (lb n : Nat) (jv : Bool) (a2 : LL) (w9 : Int) :
 Qh9 lb n jv a2 w9 =
 some (.bool true) := (Qae _).trans (by kernel_rfl)
theorem QeW (lb n yH : Nat) (jv : Bool) (a2 : LL) (yn : Int) :
 QcT lb n (yH + 1) jv a2 yn =
 bif (decide (yn < (a2.length : Int))) then
 (optO (atL a2 yn) fun c25 =>
 chkO (c25.length == 8) (
 optO (c25[5]?) fun ky =>
 optO (atL a2 yn) fun c27 =>
 chkO (c27.length == 8) (
 optO (c27[6]?) fun oY =>
 optO (CV.asI .i64 ky) fun wF =>
 optO (CV.asI .i64 oY) fun y6 =>
 bif (decide (wF ≥ y6)) then
 (some (.bool false))
 else
 (bif (decide (yn > 0)) then
 (optO (atL a2 yn) fun c31 =>
 chkO (c31.length == 8) (
 optO (c31[5]?) fun jK =>
 optO (atL a2 (IntKind.wrap .i64 (yn - 1))) fun c34 =>
 chkO (c34.length == 8) (
 optO (c34[6]?) fun yK =>
 optO (CV.asI .i64 jK) fun wQ =>
 optO (CV.asI .i64 yK) fun i37 =>
 bif (decide (wQ < i37)) then
 (some (.bool false))
 else
 (QcT lb n yH jv a2 (IntKind.wrap .i64 (yn + 1))))))
 else
 (QcT lb n yH jv a2 (IntKind.wrap .i64 (yn + 1)))))))
 else
 (Qh9 lb n jv a2 yn) := (Qae _).trans (by kernel_rfl)
theorem Qm1 (lb n : Nat) (jv : Bool) (a2 : LL) :
 top lb n Qa2 [.list jv a2] =
 QcT lb n n jv a2 0 := by kernel_rfl
theorem Qq9 (lb n : Nat) (a1 : Int) :
 top lb n Qct [.int .i64 a1] =
 bif (decide (a1 < (-1440))) then
 (some (.bool true))
 else
 (some (.bool (decide (a1 > 5759)))) := by kernel_rfl
end Go.Proofs
