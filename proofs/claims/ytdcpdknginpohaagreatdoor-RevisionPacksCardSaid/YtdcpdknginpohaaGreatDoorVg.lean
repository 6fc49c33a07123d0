/- Equations of functions, printed by program. Conditions: none. -/
import Derived.Test.YtdcpdknginpohaaGreatDoorEv
namespace Go.Proofs
open Go.Am
set_option maxRecDepth 100000
set_option linter.unusedVariables false
noncomputable def revision_join_L1 :=
 fun lb n (yd : Nat) je ji jj jl jm jn yo (yM : Bool × LL) i21 =>
 hold (Qas (E0 lb n 0 993) 0 (Qag (sub (B QaW) [1, 1, 1, 0, 1, 0, 0]) ++ [8]) [] (sub (B QaW) [1, 1, 1, 0, 1, 0, 0]) (Qaj 0 (seqK (E0 lb n 0 996) (sub (B QaW) [1, 1, 1, 0]) (sub (B QaW) [1, 1, 1, 1]) (retK Tryz.prog (R QaW) 0 (outK (Qaf Tryz.prog QaW))))) yd ⟨fr 52 [(0, .val (.agg [.int .i64 je, .int .i64 ji, .int .i64 jj])), (1, .val (.agg [.int .i64 jl, .int .i64 jm, .int .i64 jn])), (2, .ptr 0 2 0), (3, .ptr 0 3 0), (4, .ptr 0 4 0), (5, vB false), (6, .ptr 0 6 0), (9, .ptr 0 2 0), (10, vI je), (11, .ptr 0 3 0), (12, vI jl), (13, .val (.int .i64 (if jl < je then jl else je))), (14, .ptr 0 2 1), (15, vI ji), (16, .ptr 0 3 1), (17, vI jm), (18, .val (.int .i64 (if jm > ji then jm else ji))), (19, .ptr 0 2 2), (20, vI jj), (21, .ptr 0 3 2), (22, vI jn), (23, .val (.int .i64 (IntKind.wrap .i64 ((BitVec.ofInt 64 jj ||| BitVec.ofInt 64 jn).toNat)))), (24, .val (.agg [.int .i64 (if jl < je then jl else je), .int .i64 (if jm > ji then jm else ji), .int .i64 (IntKind.wrap .i64 ((BitVec.ofInt 64 jj ||| BitVec.ofInt 64 jn).toNat))])), (29, .val (.agg [.int .i64 (if jl < je then jl else je), .int .i64 (if jm > ji then jm else ji), .int .i64 (IntKind.wrap .i64 ((BitVec.ofInt 64 jj ||| BitVec.ofInt 64 jn).toNat))])), (30, vV yo), (31, .val (.int .i64 (yM.2.length : Int))), (32, vI i21)], [bx 52 [(2, some [vI je, vI ji, vI jj]), (3, some [vI jl, vI jm, vI jn]), (4, some [vI 0, vI 0, vI 0]), (6, some [.val (.int .i64 (if jl < je then jl else je)), .val (.int .i64 (if jm > ji then jm else ji)), .val (.int .i64 (IntKind.wrap .i64 ((BitVec.ofInt 64 jj ||| BitVec.ofInt 64 jn).toNat)))])]], KK⟩)
noncomputable def QeL (lb n : Nat) (je ji jj jl jm jn : Int) : Option CV :=
 hold (E0 lb n 0 996 (sub (B QaW) [1, 1, 1, 1]) (retK Tryz.prog (R QaW) 0 (outK (Qaf Tryz.prog QaW))) ⟨fr 52 [(0, .val (.agg [.int .i64 je, .int .i64 ji, .int .i64 jj])), (1, .val (.agg [.int .i64 jl, .int .i64 jm, .int .i64 jn])), (2, .ptr 0 2 0), (3, .ptr 0 3 0), (4, .ptr 0 4 0), (5, vB false), (6, .ptr 0 6 0), (9, .ptr 0 2 0), (10, vI je), (11, .ptr 0 3 0), (12, vI jl), (13, .val (.int .i64 (if jl < je then jl else je))), (14, .ptr 0 2 1), (15, vI ji), (16, .ptr 0 3 1), (17, vI jm), (18, .val (.int .i64 (if jm > ji then jm else ji))), (19, .ptr 0 2 2), (20, vI jj), (21, .ptr 0 3 2), (22, vI jn), (23, .val (.int .i64 (IntKind.wrap .i64 ((BitVec.ofInt 64 jj ||| BitVec.ofInt 64 jn).toNat)))), (24, .val (.agg [.int .i64 (if jl < je then jl else je), .int .i64 (if jm > ji then jm else ji), .int .i64 (IntKind.wrap .i64 ((BitVec.ofInt 64 jj ||| BitVec.ofInt 64 jn).toNat))]))], [bx 52 [(2, some [vI je, vI ji, vI jj]), (3, some [vI jl, vI jm, vI jn]), (4, some [vI 0, vI 0, vI 0]), (6, some [.val (.int .i64 (if jl < je then jl else je)), .val (.int .i64 (if jm > ji then jm else ji)), .val (.int .i64 (IntKind.wrap .i64 ((BitVec.ofInt 64 jj ||| BitVec.ofInt 64 jn).toNat)))])]], KK⟩)
theorem QjY (lb n : Nat) (je ji jj jl jm jn : Int) :
 QeL lb n je ji jj jl jm jn =
 optO (C lb n QaR [.agg [.int .i64 (if jl < je then jl else je), .int .i64 (if jm > ji then jm else ji), .int .i64 (IntKind.wrap .i64 ((BitVec.ofInt 64 jj ||| BitVec.ofInt 64 jn).toNat))]]) fun gP =>
 optO (CV.asT gP) fun qi =>
 optO (qi[0]?) fun kL =>
 optO (CV.asT gP) fun qb =>
 optO (qb[1]?) fun nU =>
 optO (CV.asA kL) fun c43 =>
 chkO (c43.length == 3) (
 optO (c43[0]?) fun vP =>
 optO (c43[1]?) fun o4 =>
 optO (c43[2]?) fun oW =>
 some (.tup [.agg [vP, o4, oW], nU])) := (Qad _).trans (by kernel_rfl)
theorem QeZ (lb n yd : Nat) (je ji jj jl jm jn : Int) (yo : CV) (yM : Bool × LL) (i21 : Int) :
 revision_join_L1 lb n (yd + 1) je ji jj jl jm jn yo yM i21 =
 bif (decide (i21 < (yM.2.length : Int))) then
 (optO (CV.asL yo) fun nY =>
 optO (atL nY.2 i21) fun c31 =>
 chkO (c31.length == 1) (
 optO (c31[0]?) fun jB =>
 optO (C lb n Qdd [.agg [.int .i64 je, .int .i64 ji, .int .i64 jj], jB]) fun pK =>
 optO (CV.asB pK) fun yB =>
 bif (!yB) then
 (optO (C lb n Qdd [.agg [.int .i64 jl, .int .i64 jm, .int .i64 jn], jB]) fun pn =>
 optO (CV.asB pn) fun nV =>
 bif (!nV) then
 (some (.tup [.agg [.int .i64 0, .int .i64 0, .int .i64 0], .bool false]))
 else
 (revision_join_L1 lb n yd je ji jj jl jm jn yo yM (IntKind.wrap .i64 (i21 + 1))))
 else
 (revision_join_L1 lb n yd je ji jj jl jm jn yo yM (IntKind.wrap .i64 (i21 + 1)))))
 else
 (QeL lb n je ji jj jl jm jn ) := (Qad _).trans (by kernel_rfl)
theorem Qhm (lb n : Nat) (je ji jj jl jm jn : Int) :
 top lb n QaW [.agg [.int .i64 je, .int .i64 ji, .int .i64 jj], .agg [.int .i64 jl, .int .i64 jm, .int .i64 jn]] =
 optO (C lb n Qee [.agg [.int .i64 (if jl < je then jl else je), .int .i64 (if jm > ji then jm else ji), .int .i64 (IntKind.wrap .i64 ((BitVec.ofInt 64 jj ||| BitVec.ofInt 64 jn).toNat))]]) fun r7 =>
 optO (CV.asI .i64 r7) fun i9 =>
 bif (i9 != 0) then
 (some (.tup [.agg [.int .i64 0, .int .i64 0, .int .i64 0], .bool false]))
 else
 (optO (C lb n QeC [.agg [.int .i64 (if jl < je then jl else je), .int .i64 (if jm > ji then jm else ji), .int .i64 (IntKind.wrap .i64 ((BitVec.ofInt 64 jj ||| BitVec.ofInt 64 jn).toNat))]]) fun yo =>
 optO (CV.asL yo) fun yM =>
 revision_join_L1 lb n n je ji jj jl jm jn yo yM 0) := by kernel_rfl
theorem Qf8 (lb n : Nat) (jy : LB) (jv jo jr jp : Int) (ju : Bool) (aleg7 : LL) (ya : LB) (wO j9 wj j7 : Int) (wy : Bool) (wZ : LL) :
 top lb n Qem [.agg [.str jy, .int .i64 jv, .int .i64 jo, .int .i64 jr, .int .i64 jp, .list ju aleg7], .agg [.str ya, .int .i64 wO, .int .i64 j9, .int .i64 wj, .int .i64 j7, .list wy wZ]] =
 optO (C lb n QaW [.agg [.int .i64 jo, .int .i64 jr, .int .i64 jp], .agg [.int .i64 j9, .int .i64 wj, .int .i64 j7]]) fun yK =>
 optO (CV.asT yK) fun gg =>
 optO (gg[0]?) fun jP =>
 optO (CV.asT yK) fun t20 =>
 optO (t20[1]?) fun jR =>
 optO (CV.asA jP) fun c22 =>
 chkO (c22.length == 3) (
 optO (c22[0]?) fun x23 =>
 optO (c22[1]?) fun yY =>
 optO (c22[2]?) fun jH =>
 optO (CV.asB jR) fun gw =>
 bif gw then
 (optO (C lb n Qgq [.agg [.str jy, .int .i64 jv, x23, yY, jH, .list ju aleg7], .agg [.str ya, .int .i64 wO, x23, yY, jH, .list wy wZ]]) fun vC =>
 some (.tup [.agg [.str jy, .int .i64 jv, x23, yY, jH, .list ju aleg7], vC]))
 else
 (some (.tup [.agg [.str jy, .int .i64 jv, x23, yY, jH, .list ju aleg7], .bool false]))) := by kernel_rfl
noncomputable def QcL (lb n yE : Nat) (jh : Bool) (a2 : LL) (yc : Bool) (l26 : LL) (wD : Int) : Option CV :=
 hold (Qas (E0 lb n 0 994) 0 (Qag (sub (B Qar) [1, 1, 0, 1, 0, 0]) ++ [7]) [5, 6] (sub (B Qar) [1, 1, 0, 1, 0, 0]) (Qaj 0 (seqK (E0 lb n 0 997) (sub (B Qar) [1, 1, 0]) (sub (B Qar) [1, 1, 1]) (retK Tryz.prog (R Qar) 0 (outK (Qaf Tryz.prog Qar))))) yE ⟨fr 36 [(0, .val (.list jh a2)), (2, .lst true true 42 []), (3, .lst true yc 42 l26), (9, .val (.list jh a2)), (10, .val (.int .i64 (a2.length : Int))), (11, vI wD)], [bx 36 []], KK⟩)
noncomputable def QeU (lb n : Nat) (jh : Bool) (a2 : LL) (w7 : Bool) (w8 : LL) : Option CV :=
 hold (E0 lb n 0 997 (sub (B Qar) [1, 1, 1]) (retK Tryz.prog (R Qar) 0 (outK (Qaf Tryz.prog Qar))) ⟨fr 36 [(0, .val (.list jh a2)), (2, .lst true true 42 []), (3, .lst true w7 42 w8)], [bx 36 []], KK⟩)
noncomputable def QeM (lb n oD : Nat) (jh : Bool) (a2 : LL) (w7 : Bool) (w8 : LL) : Option CV :=
 hold (Qas (E0 lb n 0 993) 0 (Qag (sub (B Qar) [1, 1, 1, 0, 1, 0, 0]) ++ []) [] (sub (B Qar) [1, 1, 1, 0, 1, 0, 0]) (Qaj 2 (seqK (E0 lb n 0 996) (sub (B Qar) [1, 1, 1, 0]) (sub (B Qar) [1, 1, 1, 1]) (retK Tryz.prog (R Qar) 0 (outK (Qaf Tryz.prog Qar))))) oD ⟨fr 36 [(0, .val (.list jh a2)), (2, .lst true true 42 []), (3, .lst true w7 42 w8), (8, vB true)], [bx 36 []], KK⟩)
noncomputable def QcJ (lb n oC : Nat) (jh : Bool) (a2 : LL) (kv v85 : CV) : Option CV :=
 hold (Qas (E0 lb n 0 993) 0 (Qag (sub (B Qar) [1, 1, 1, 0, 1, 0, 0]) ++ []) [] (sub (B Qar) [1, 1, 1, 0, 1, 0, 0]) (Qaj 2 (seqK (E0 lb n 0 996) (sub (B Qar) [1, 1, 1, 0]) (sub (B Qar) [1, 1, 1, 1]) (retK Tryz.prog (R Qar) 0 (outK (Qaf Tryz.prog Qar))))) oC ⟨fr 36 [(0, .val (.list jh a2)), (2, .lst true true 42 []), (3, vV kv), (8, vV v85)], [bx 36 []], KK⟩)
noncomputable def Qg6 (lb n : Nat) (jh : Bool) (a2 : LL) (oU yD : CV) : Option CV :=
 hold (E0 lb n 0 996 (sub (B Qar) [1, 1, 1, 1]) (retK Tryz.prog (R Qar) 0 (outK (Qaf Tryz.prog Qar))) ⟨fr 36 [(0, .val (.list jh a2)), (2, .lst true true 42 []), (3, vV oU), (8, vV yD)], [bx 36 []], KK⟩)
theorem Qfx (lb n : Nat) (jh : Bool) (a2 : LL) (oU yD : CV) :
 Qg6 lb n jh a2 oU yD =
 some (oU) := (Qad _).trans (by kernel_rfl)
theorem Qcq (lb n oC : Nat) (jh : Bool) (a2 : LL) (kv v85 : CV) :
 QcJ lb n (oC + 1) jh a2 kv v85 =
 optO (CV.asB v85) fun nW =>
 bif nW then
 (optO (C lb n Qai [kv]) fun gQ =>
 optO (CV.asT gQ) fun pm =>
 optO (pm[0]?) fun pO =>
 optO (CV.asT gQ) fun p8 =>
 optO (p8[1]?) fun pi =>
 QcJ lb n oC jh a2 pO pi)
 else
 (Qg6 lb n jh a2 kv v85) := (Qad _).trans (by kernel_rfl)
theorem Qiv (lb n oD : Nat) (jh : Bool) (a2 : LL) (w7 : Bool) (w8 : LL) :
 QeM lb n (oD + 1) jh a2 w7 w8 =
 optO (C lb n Qai [.list w7 w8]) fun ky =>
 optO (CV.asT ky) fun o7 =>
 optO (o7[0]?) fun go =>
 optO (CV.asT ky) fun t76 =>
 optO (t76[1]?) fun vM =>
 QcJ lb n oD jh a2 go vM := (Qad _).trans (by kernel_rfl)
theorem QjW (lb n : Nat) (jh : Bool) (a2 : LL) (w7 : Bool) (w8 : LL) :
 QeU lb n jh a2 w7 w8 =
 QeM lb n n jh a2 w7 w8  := (Qad _).trans (by kernel_rfl)
theorem Qe1 (lb n yE : Nat) (jh : Bool) (a2 : LL) (yc : Bool) (l26 : LL) (wD : Int) :
 QcL lb n (yE + 1) jh a2 yc l26 wD =
 bif (decide (wD < (a2.length : Int))) then
 (optO (atL a2 wD) fun c47 =>
 chkO (c47.length == 6) (
 optO (c47[0]?) fun ks =>
 optO (c47[1]?) fun oY =>
 optO (c47[2]?) fun vp =>
 optO (c47[3]?) fun kO =>
 optO (c47[4]?) fun yV =>
 optO (c47[5]?) fun kw =>
 optO (C lb n QaR [.agg [vp, kO, yV]]) fun kI =>
 optO (CV.asT kI) fun gd =>
 optO (gd[0]?) fun yU =>
 optO (CV.asT kI) fun gG =>
 optO (gG[1]?) fun yR =>
 optO (CV.asA yU) fun c59 =>
 chkO (c59.length == 3) (
 optO (c59[0]?) fun kQ =>
 optO (c59[1]?) fun vl =>
 optO (c59[2]?) fun vk =>
 optO (CV.asB yR) fun yS =>
 bif yS then
 (chkO (room (l26.length + 1) 72) (
 QcL lb n yE jh a2 (yc && false) (l26 ++ [[ks, oY, kQ, vl, vk, kw]]) (IntKind.wrap .i64 (wD + 1))))
 else
 (QcL lb n yE jh a2 yc l26 (IntKind.wrap .i64 (wD + 1))))))
 else
 (QeU lb n jh a2 yc l26) := (Qad _).trans (by kernel_rfl)
theorem Qme (lb n : Nat) (jh : Bool) (a2 : LL) :
 top lb n Qar [.list jh a2] =
 QcL lb n n jh a2 true [] 0 := by kernel_rfl
noncomputable def Qc7 (lb n vJ : Nat) (je ji jj jl jm jn j6 yn : Int) : Option CV :=
 hold (Qas (E0 lb n 0 994) 0 (Qag (sub (B QbC) [1, 1, 0, 1, 0, 0]) ++ []) [] (sub (B QbC) [1, 1, 0, 1, 0, 0]) (Qaj 0 (seqK (E0 lb n 0 997) (sub (B QbC) [1, 1, 0]) (sub (B QbC) [1, 1, 1]) (retK Tryz.prog (R QbC) 0 (outK (Qaf Tryz.prog QbC))))) vJ ⟨fr 67 [(0, .val (.agg [.int .i64 je, .int .i64 ji, .int .i64 jj])), (1, .val (.agg [.int .i64 jl, .int .i64 jm, .int .i64 jn])), (2, .ptr 0 2 0), (3, .ptr 0 3 0), (4, .ptr 0 4 0), (5, vB false), (6, .ptr 0 6 0), (7, vI j6), (10, .ptr 0 2 0), (11, vI je), (12, .ptr 0 3 0), (13, vI jl), (14, .val (.int .i64 (if jl < je then jl else je))), (15, .ptr 0 2 1), (16, vI ji), (17, .ptr 0 3 1), (18, vI jm), (19, .val (.int .i64 (if jm > ji then jm else ji))), (20, .val (.agg [.int .i64 (if jl < je then jl else je), .int .i64 (if jm > ji then jm else ji), .int .i64 0]))], [bx 67 [(2, some [vI je, vI ji, vI jj]), (3, some [vI jl, vI jm, vI jn]), (4, some [vI 0, vI 0, vI 0]), (6, some [.val (.int .i64 (if jl < je then jl else je)), .val (.int .i64 (if jm > ji then jm else ji)), vI yn])]], KK⟩)
noncomputable def Qg2 (lb n : Nat) (je ji jj jl jm jn yi jQ : Int) : Option CV :=
 hold (E0 lb n 0 997 (sub (B QbC) [1, 1, 1]) (retK Tryz.prog (R QbC) 0 (outK (Qaf Tryz.prog QbC))) ⟨fr 67 [(0, .val (.agg [.int .i64 je, .int .i64 ji, .int .i64 jj])), (1, .val (.agg [.int .i64 jl, .int .i64 jm, .int .i64 jn])), (2, .ptr 0 2 0), (3, .ptr 0 3 0), (4, .ptr 0 4 0), (5, vB false), (6, .ptr 0 6 0), (7, vI yi), (10, .ptr 0 2 0), (11, vI je), (12, .ptr 0 3 0), (13, vI jl), (14, .val (.int .i64 (if jl < je then jl else je))), (15, .ptr 0 2 1), (16, vI ji), (17, .ptr 0 3 1), (18, vI jm), (19, .val (.int .i64 (if jm > ji then jm else ji))), (20, .val (.agg [.int .i64 (if jl < je then jl else je), .int .i64 (if jm > ji then jm else ji), .int .i64 0]))], [bx 67 [(2, some [vI je, vI ji, vI jj]), (3, some [vI jl, vI jm, vI jn]), (4, some [vI 0, vI 0, vI 0]), (6, some [.val (.int .i64 (if jl < je then jl else je)), .val (.int .i64 (if jm > ji then jm else ji)), vI jQ])]], KK⟩)
theorem Qnw (lb n : Nat) (je ji jj jl jm jn yi jQ : Int) :
 Qg2 lb n je ji jj jl jm jn yi jQ =
 optO (C lb n Qbt [.agg [.int .i64 je, .int .i64 ji, .int .i64 jj], .agg [.int .i64 jl, .int .i64 jm, .int .i64 jn]]) fun vd =>
 optO (CV.asT vd) fun nR =>
 optO (nR[0]?) fun jU =>
 optO (CV.asT vd) fun t21 =>
 optO (t21[1]?) fun j3 =>
 optO (CV.asA jU) fun c23 =>
 chkO (c23.length == 3) (
 optO (c23[0]?) fun yY =>
 optO (c23[1]?) fun jH =>
 optO (c23[2]?) fun kF =>
 optO (C lb n Qc0 [.agg [.int .i64 (if jl < je then jl else je), .int .i64 (if jm > ji then jm else ji), .int .i64 jQ]]) fun vC =>
 optO (CV.asI .i64 vC) fun vG =>
 bif (vG == 0) then
 (optO (C lb n QdB [.agg [.int .i64 (if jl < je then jl else je), .int .i64 (if jm > ji then jm else ji), .int .i64 jQ]]) fun pS =>
 optO (C lb n QdB [.agg [.int .i64 je, .int .i64 ji, .int .i64 jj]]) fun pV =>
 optO (C lb n QdB [.agg [.int .i64 jl, .int .i64 jm, .int .i64 jn]]) fun nG =>
 optO (CV.asI .i64 pV) fun kM =>
 optO (CV.asI .i64 nG) fun vH =>
 optO (C lb n QdB [.agg [yY, jH, kF]]) fun qk =>
 optO (CV.asI .i64 qk) fun wN =>
 optO (CV.asI .i64 pS) fun i37 =>
 some (.tup [.agg [.int .i64 (if jl < je then jl else je), .int .i64 (if jm > ji then jm else ji), .int .i64 jQ], .bool (i37 == (IntKind.wrap .i64 ((IntKind.wrap .i64 (kM + vH)) - wN)))]))
 else
 (some (.tup [.agg [.int .i64 (if jl < je then jl else je), .int .i64 (if jm > ji then jm else ji), .int .i64 jQ], .bool false]))) := (Qad _).trans (by kernel_rfl)
theorem Qgt (lb n vJ : Nat) (je ji jj jl jm jn j6 yn : Int) :
 Qc7 lb n (vJ + 1) je ji jj jl jm jn j6 yn =
 bif (decide (j6 < 128)) then
 (chkO (j6 != 0) (
 bif ((Int.tmod (IntKind.wrap .i64 (Int.tdiv jj j6)) 2) == 1) then
 (Qc7 lb n vJ je ji jj jl jm jn (IntKind.wrap .i64 (2 * j6)) (IntKind.wrap .i64 (yn + j6)))
 else
 (chkO (j6 != 0) (
 bif ((Int.tmod (IntKind.wrap .i64 (Int.tdiv jn j6)) 2) == 1) then
 (Qc7 lb n vJ je ji jj jl jm jn (IntKind.wrap .i64 (2 * j6)) (IntKind.wrap .i64 (yn + j6)))
 else
 (Qc7 lb n vJ je ji jj jl jm jn (IntKind.wrap .i64 (2 * j6)) yn)))))
 else
 (Qg2 lb n je ji jj jl jm jn j6 yn) := (Qad _).trans (by kernel_rfl)
theorem Qqd (lb n : Nat) (je ji jj jl jm jn : Int) :
 top lb n QbC [.agg [.int .i64 je, .int .i64 ji, .int .i64 jj], .agg [.int .i64 jl, .int .i64 jm, .int .i64 jn]] =
 Qc7 lb n n je ji jj jl jm jn 1 0 := by kernel_rfl
noncomputable def Qep (lb n wC : Nat) (jh : Bool) (a2 : LL) (i122 : Int) : Option CV :=
 hold (Qas (E0 lb n 0 995) 0 (Qag (sub (B Qaq) [1, 0, 1, 0, 0]) ++ [5, 8, 9, 9, 5]) [6, 7] (sub (B Qaq) [1, 0, 1, 0, 0]) (Qaj 0 (seqK (E0 lb n 0 998) (sub (B Qaq) [1, 0]) (sub (B Qaq) [1, 1]) (retK Tryz.prog (R Qaq) 0 (outK (Qaf Tryz.prog Qaq))))) wC ⟨fr 98 [(0, .val (.list jh a2)), (2, .lst true true 42 []), (3, vB false), (4, vI i122)], [bx 98 []], KK⟩)
noncomputable def Qc2 (lb n yN wC : Nat) (jh : Bool) (a2 : LL) (i122 i279 : Int) : Option CV :=
 hold (Qas (E0 lb n 0 989) 0 (Qag (sub (B Qaq) [1, 0, 1, 0, 0, 1, 0, 0, 1, 0, 0]) ++ [8, 9, 9]) [6, 7] (sub (B Qaq) [1, 0, 1, 0, 0, 1, 0, 0, 1, 0, 0]) (Qaj 2 (Qaj 1 (seqK (E0 lb n 0 993) (sub (B Qaq) [1, 0, 1, 0, 0, 1, 0]) (sub (B Qaq) [1, 0, 1, 0, 0, 1, 1]) (QbO 0 (Qag (sub (B Qaq) [1, 0, 1, 0, 0]) ++ [5, 8, 9, 9, 5]) [6, 7] (Qas (E0 lb n 0 995) 0 (Qag (sub (B Qaq) [1, 0, 1, 0, 0]) ++ [5, 8, 9, 9, 5]) [6, 7] (sub (B Qaq) [1, 0, 1, 0, 0]) (Qaj 0 (seqK (E0 lb n 0 998) (sub (B Qaq) [1, 0]) (sub (B Qaq) [1, 1]) (retK Tryz.prog (R Qaq) 0 (outK (Qaf Tryz.prog Qaq))))) wC) (Qaj 0 (seqK (E0 lb n 0 998) (sub (B Qaq) [1, 0]) (sub (B Qaq) [1, 1]) (retK Tryz.prog (R Qaq) 0 (outK (Qaf Tryz.prog Qaq))))))))) yN ⟨fr 98 [(0, .val (.list jh a2)), (2, .lst true true 42 []), (3, vB false), (4, vI i122), (5, vI i279), (16, vI i122), (17, .val (.int .i64 (IntKind.wrap .i64 (i122 + 1))))], [bx 98 []], KK⟩)
noncomputable def QlE (lb n wC : Nat) (jh : Bool) (a2 : LL) (i122 og : Int) : Option CV :=
 hold (E0 lb n 0 993 (sub (B Qaq) [1, 0, 1, 0, 0, 1, 1]) (QbO 0 (Qag (sub (B Qaq) [1, 0, 1, 0, 0]) ++ [5, 8, 9, 9, 5]) [6, 7] (Qas (E0 lb n 0 995) 0 (Qag (sub (B Qaq) [1, 0, 1, 0, 0]) ++ [5, 8, 9, 9, 5]) [6, 7] (sub (B Qaq) [1, 0, 1, 0, 0]) (Qaj 0 (seqK (E0 lb n 0 998) (sub (B Qaq) [1, 0]) (sub (B Qaq) [1, 1]) (retK Tryz.prog (R Qaq) 0 (outK (Qaf Tryz.prog Qaq))))) wC) (Qaj 0 (seqK (E0 lb n 0 998) (sub (B Qaq) [1, 0]) (sub (B Qaq) [1, 1]) (retK Tryz.prog (R Qaq) 0 (outK (Qaf Tryz.prog Qaq)))))) ⟨fr 98 [(0, .val (.list jh a2)), (2, .lst true true 42 []), (3, vB false), (4, vI i122), (5, vI og)], [bx 98 []], KK⟩)
theorem QnW (lb n wC : Nat) (jh : Bool) (a2 : LL) (i122 og : Int) :
 QlE lb n wC jh a2 i122 og =
 Qep lb n wC jh a2 (IntKind.wrap .i64 (i122 + 1)) := (Qad _).trans (by kernel_rfl)
theorem QgX (lb n yN wC : Nat) (jh : Bool) (a2 : LL) (i122 i279 : Int) :
 Qc2 lb n (yN + 1) wC jh a2 i122 i279 =
 bif (decide (i279 < (a2.length : Int))) then
 (optO (atL a2 i122) fun c318 =>
 chkO (c318.length == 6) (
 optO (c318[0]?) fun vT =>
 optO (c318[1]?) fun kp =>
 optO (c318[2]?) fun qq =>
 optO (c318[3]?) fun qo =>
 optO (c318[4]?) fun qp =>
 optO (c318[5]?) fun vZ =>
 optO (atL a2 i122) fun c325 =>
 chkO (c325.length == 6) (
 optO (c325[2]?) fun gW =>
 optO (c325[3]?) fun gU =>
 optO (c325[4]?) fun mt =>
 optO (atL a2 i279) fun c329 =>
 chkO (c329.length == 6) (
 optO (c329[2]?) fun m9 =>
 optO (c329[3]?) fun mN =>
 optO (c329[4]?) fun mg =>
 optO (C lb n QbC [.agg [gW, gU, mt], .agg [m9, mN, mg]]) fun o6 =>
 optO (CV.asT o6) fun mV =>
 optO (mV[0]?) fun mW =>
 optO (CV.asT o6) fun mj =>
 optO (mj[1]?) fun mK =>
 optO (CV.asA mW) fun c338 =>
 chkO (c338.length == 3) (
 optO (c338[0]?) fun ov =>
 optO (c338[1]?) fun k7 =>
 optO (c338[2]?) fun k8 =>
 optO (CV.asB mK) fun mS =>
 bif (!mS) then
 (Qc2 lb n yN wC jh a2 i122 (IntKind.wrap .i64 (i279 + 1)))
 else
 (optO (atL a2 i279) fun c343 =>
 chkO (c343.length == 6) (
 optO (c343[0]?) fun ma =>
 optO (CV.asS vT) fun mU =>
 optO (CV.asS ma) fun mF =>
 bif (!(mU == mF)) then
 (Qc2 lb n yN wC jh a2 i122 (IntKind.wrap .i64 (i279 + 1)))
 else
 (optO (atL a2 i279) fun c347 =>
 chkO (c347.length == 6) (
 optO (c347[1]?) fun mQ =>
 optO (CV.asI .i64 kp) fun ny =>
 optO (CV.asI .i64 mQ) fun mR =>
 bif (ny != mR) then
 (Qc2 lb n yN wC jh a2 i122 (IntKind.wrap .i64 (i279 + 1)))
 else
 (optO (atL a2 i279) fun c351 =>
 chkO (c351.length == 6) (
 optO (c351[5]?) fun g0 =>
 optO (C lb n QaS [vZ, g0]) fun mT =>
 optO (CV.asB mT) fun nB =>
 bif (!nB) then
 (Qc2 lb n yN wC jh a2 i122 (IntKind.wrap .i64 (i279 + 1)))
 else
 (chkO (a2.all (·.length == 6)) (
 chkO (decide ((0 : Int) ≤ i122 ∧ i122 ≤ (a2.length : Int))) (
 chkO (((a2.take i122.toNat).drop 0).all (·.length == 6)) (
 chkO (room (0 + ((a2.take i122.toNat).drop 0).length) 72) (
 chkO (room (((a2.take i122.toNat).drop 0).length + 1) 72) (
 chkO (a2.all (·.length == 6)) (
 chkO (decide ((0 : Int) ≤ i279 ∧ i279 ≤ (a2.length : Int))) (
 chkO (decide ((0 : Int) ≤ (IntKind.wrap .i64 (i122 + 1)) ∧ (IntKind.wrap .i64 (i122 + 1)) ≤ i279)) (
 chkO (((a2.take i279.toNat).drop ((IntKind.wrap .i64 (i122 + 1)).toNat)).all (·.length == 6)) (
 chkO (room ((((a2.take i122.toNat).drop 0) ++ [[vT, kp, ov, k7, k8, vZ]]).length + ((a2.take i279.toNat).drop ((IntKind.wrap .i64 (i122 + 1)).toNat)).length) 72) (
 chkO (a2.all (·.length == 6)) (
 chkO (decide ((0 : Int) ≤ (IntKind.wrap .i64 (i279 + 1)) ∧ (IntKind.wrap .i64 (i279 + 1)) ≤ (a2.length : Int))) (
 chkO (((a2.take ((a2.length : Int).toNat)).drop ((IntKind.wrap .i64 (i279 + 1)).toNat)).all (·.length == 6)) (
 chkO (room (((((a2.take i122.toNat).drop 0) ++ [[vT, kp, ov, k7, k8, vZ]]) ++ ((a2.take i279.toNat).drop ((IntKind.wrap .i64 (i122 + 1)).toNat))).length + ((a2.take ((a2.length : Int).toNat)).drop ((IntKind.wrap .i64 (i279 + 1)).toNat)).length) 72) (
 some (.tup [.list ((((((a2.take i122.toNat).drop 0).isEmpty) && false) && (((a2.take i279.toNat).drop ((IntKind.wrap .i64 (i122 + 1)).toNat)).isEmpty)) && (((a2.take ((a2.length : Int).toNat)).drop ((IntKind.wrap .i64 (i279 + 1)).toNat)).isEmpty)) (((((a2.take i122.toNat).drop 0) ++ [[vT, kp, ov, k7, k8, vZ]]) ++ ((a2.take i279.toNat).drop ((IntKind.wrap .i64 (i122 + 1)).toNat))) ++ ((a2.take ((a2.length : Int).toNat)).drop ((IntKind.wrap .i64 (i279 + 1)).toNat))), .bool true])))))))))))))))))))))))))))
 else
 (QlE lb n wC jh a2 i122 i279) := (Qad _).trans (by kernel_rfl)
noncomputable def QlC (lb n : Nat) (jh : Bool) (a2 : LL) (om : Int) : Option CV :=
 hold (E0 lb n 0 998 (sub (B Qaq) [1, 1]) (retK Tryz.prog (R Qaq) 0 (outK (Qaf Tryz.prog Qaq))) ⟨fr 98 [(0, .val (.list jh a2)), (2, .lst true true 42 []), (3, vB false), (4, vI om)], [bx 98 []], KK⟩)
theorem QnX (lb n : Nat) (jh : Bool) (a2 : LL) (om : Int) :
 QlC lb n jh a2 om =
 some (.tup [.list jh a2, .bool false]) := (Qad _).trans (by kernel_rfl)
theorem Qg0 (lb n wC : Nat) (jh : Bool) (a2 : LL) (i122 : Int) :
 Qep lb n (wC + 1) jh a2 i122 =
 bif (decide (i122 < (a2.length : Int))) then
 (Qc2 lb n n wC jh a2 i122 (IntKind.wrap .i64 (i122 + 1)))
 else
 (QlC lb n jh a2 i122) := (Qad _).trans (by kernel_rfl)
theorem QrB (lb n : Nat) (jh : Bool) (a2 : LL) :
 top lb n Qaq [.list jh a2] =
 Qep lb n n jh a2 0 := by kernel_rfl
noncomputable def Qet (lb n yE : Nat) (jh : Bool) (a2 : LL) (yc : Bool) (l26 : LL) (wD : Int) : Option CV :=
 hold (Qas (E0 lb n 0 994) 0 (Qag (sub (B QaG) [1, 1, 0, 1, 0, 0]) ++ [7]) [5, 6] (sub (B QaG) [1, 1, 0, 1, 0, 0]) (Qaj 0 (seqK (E0 lb n 0 997) (sub (B QaG) [1, 1, 0]) (sub (B QaG) [1, 1, 1]) (retK Tryz.prog (R QaG) 0 (outK (Qaf Tryz.prog QaG))))) yE ⟨fr 39 [(0, .val (.list jh a2)), (2, .lst true true 42 []), (3, .lst true yc 42 l26), (4, vI wD)], [bx 39 []], KK⟩)
noncomputable def Qin (lb n : Nat) (jh : Bool) (a2 : LL) (w7 : Bool) (w8 : LL) (wV : Int) : Option CV :=
 hold (E0 lb n 0 997 (sub (B QaG) [1, 1, 1]) (retK Tryz.prog (R QaG) 0 (outK (Qaf Tryz.prog QaG))) ⟨fr 39 [(0, .val (.list jh a2)), (2, .lst true true 42 []), (3, .lst true w7 42 w8), (4, vI wV)], [bx 39 []], KK⟩)
noncomputable def Qil (lb n y6 : Nat) (jh : Bool) (a2 : LL) (w7 : Bool) (w8 : LL) (wV : Int) : Option CV :=
 hold (Qas (E0 lb n 0 993) 0 (Qag (sub (B QaG) [1, 1, 1, 1, 0, 0, 0]) ++ []) [] (sub (B QaG) [1, 1, 1, 1, 0, 0, 0]) (Qaj 2 (seqK (E0 lb n 0 995) (sub (B QaG) [1, 1, 1, 1, 0]) (sub (B QaG) [1, 1, 1, 1, 1]) (retK Tryz.prog (R QaG) 0 (outK (Qaf Tryz.prog QaG))))) y6 ⟨fr 39 [(0, .val (.list jh a2)), (2, .lst true true 42 []), (3, .lst true w7 42 w8), (4, vI wV), (8, vB true)], [bx 39 []], KK⟩)
noncomputable def Qex (lb n oE : Nat) (jh : Bool) (a2 : LL) (wV : Int) (v85 kP : CV) : Option CV :=
 hold (Qas (E0 lb n 0 993) 0 (Qag (sub (B QaG) [1, 1, 1, 1, 0, 0, 0]) ++ []) [] (sub (B QaG) [1, 1, 1, 1, 0, 0, 0]) (Qaj 2 (seqK (E0 lb n 0 995) (sub (B QaG) [1, 1, 1, 1, 0]) (sub (B QaG) [1, 1, 1, 1, 1]) (retK Tryz.prog (R QaG) 0 (outK (Qaf Tryz.prog QaG))))) oE ⟨fr 39 [(0, .val (.list jh a2)), (2, .lst true true 42 []), (3, vV v85), (4, vI wV), (8, vV kP)], [bx 39 []], KK⟩)
noncomputable def QlA (lb n : Nat) (jh : Bool) (a2 : LL) (wV : Int) (yD od : CV) : Option CV :=
 hold (E0 lb n 0 995 (sub (B QaG) [1, 1, 1, 1, 1]) (retK Tryz.prog (R QaG) 0 (outK (Qaf Tryz.prog QaG))) ⟨fr 39 [(0, .val (.list jh a2)), (2, .lst true true 42 []), (3, vV yD), (4, vI wV), (8, vV od)], [bx 39 []], KK⟩)
theorem QiI (lb n : Nat) (jh : Bool) (a2 : LL) (wV : Int) (yD od : CV) :
 QlA lb n jh a2 wV yD od =
 some (yD) := (Qad _).trans (by kernel_rfl)
theorem Qdt (lb n oE : Nat) (jh : Bool) (a2 : LL) (wV : Int) (v85 kP : CV) :
 Qex lb n (oE + 1) jh a2 wV v85 kP =
 optO (CV.asB kP) fun pj =>
 bif pj then
 (optO (C lb n Qaq [v85]) fun gR =>
 optO (CV.asT gR) fun pZ =>
 optO (pZ[0]?) fun n3 =>
 optO (CV.asT gR) fun qm =>
 optO (qm[1]?) fun n9 =>
 Qex lb n oE jh a2 wV n3 n9)
 else
 (QlA lb n jh a2 wV v85 kP) := (Qad _).trans (by kernel_rfl)
theorem Qmp (lb n y6 : Nat) (jh : Bool) (a2 : LL) (w7 : Bool) (w8 : LL) (wV : Int) :
 Qil lb n (y6 + 1) jh a2 w7 w8 wV =
 optO (C lb n Qaq [.list w7 w8]) fun gT =>
 optO (CV.asT gT) fun t75 =>
 optO (t75[0]?) fun o9 =>
 optO (CV.asT gT) fun pY =>
 optO (pY[1]?) fun nT =>
 Qex lb n y6 jh a2 wV o9 nT := (Qad _).trans (by kernel_rfl)
theorem Qoe (lb n : Nat) (jh : Bool) (a2 : LL) (w7 : Bool) (w8 : LL) (wV : Int) :
 Qin lb n jh a2 w7 w8 wV =
 Qil lb n n jh a2 w7 w8 wV  := (Qad _).trans (by kernel_rfl)
theorem Qhc (lb n yE : Nat) (jh : Bool) (a2 : LL) (yc : Bool) (l26 : LL) (wD : Int) :
 Qet lb n (yE + 1) jh a2 yc l26 wD =
 bif (decide (wD < (a2.length : Int))) then
 (optO (atL a2 wD) fun c47 =>
 chkO (c47.length == 6) (
 optO (c47[0]?) fun ks =>
 optO (c47[1]?) fun oY =>
 optO (c47[2]?) fun vp =>
 optO (c47[3]?) fun kO =>
 optO (c47[4]?) fun yV =>
 optO (c47[5]?) fun kw =>
 optO (C lb n Qhz [.agg [vp, kO, yV]]) fun kI =>
 optO (CV.asT kI) fun gd =>
 optO (gd[0]?) fun yU =>
 optO (CV.asT kI) fun gG =>
 optO (gG[1]?) fun yR =>
 optO (CV.asA yU) fun c59 =>
 chkO (c59.length == 3) (
 optO (c59[0]?) fun kQ =>
 optO (c59[1]?) fun vl =>
 optO (c59[2]?) fun vk =>
 optO (CV.asB yR) fun yS =>
 bif yS then
 (chkO (room (l26.length + 1) 72) (
 Qet lb n yE jh a2 (yc && false) (l26 ++ [[ks, oY, kQ, vl, vk, kw]]) (IntKind.wrap .i64 (wD + 1))))
 else
 (Qet lb n yE jh a2 yc l26 (IntKind.wrap .i64 (wD + 1))))))
 else
 (Qin lb n jh a2 yc l26 wD) := (Qad _).trans (by kernel_rfl)
theorem Qrg (lb n : Nat) (jh : Bool) (a2 : LL) :
 top lb n QaG [.list jh a2] =
 Qet lb n n jh a2 true [] 0 := by kernel_rfl
noncomputable def Qcu (lb n oQ : Nat) (ja : Bool) (aair2 : LL) (jb : Bool) (adis4 : LL) (js : Bool) (b6 : LL) (c7 : Int) (wY : CV) (yr : Int) : Option CV :=
 hold (Qas (E0 lb n 0 991) 0 (Qag (sub (B QaP) [1, 1, 1, 1, 1, 0, 1, 0, 0]) ++ []) [] (sub (B QaP) [1, 1, 1, 1, 1, 0, 1, 0, 0]) (Qaj 0 (seqK (E0 lb n 0 994) (sub (B QaP) [1, 1, 1, 1, 1, 0]) (sub (B QaP) [1, 1, 1, 1, 1, 1]) (retK Tryz.prog (R QaP) 0 (outK (Qaf Tryz.prog QaP))))) oQ ⟨fr 61 [(0, .val (.agg [.list ja aair2, .list jb adis4])), (1, .val (.list js b6)), (2, vI c7), (3, .ptr 0 3 0), (6, vB false), (7, vV wY), (8, vI yr), (13, .val (.list js b6)), (14, vV wY)], [bx 61 [(3, some [.val (.list ja aair2), .val (.list jb adis4)])]], KK⟩)
noncomputable def Qdq (lb n : Nat) (ja : Bool) (aair2 : LL) (jb : Bool) (adis4 : LL) (js : Bool) (b6 : LL) (c7 : Int) (wY : CV) (o0 : Int) : Option CV :=
 hold (E0 lb n 0 994 (sub (B QaP) [1, 1, 1, 1, 1, 1]) (retK Tryz.prog (R QaP) 0 (outK (Qaf Tryz.prog QaP))) ⟨fr 61 [(0, .val (.agg [.list ja aair2, .list jb adis4])), (1, .val (.list js b6)), (2, vI c7), (3, .ptr 0 3 0), (6, vB false), (7, vV wY), (8, vI o0), (13, .val (.list js b6)), (14, vV wY)], [bx 61 [(3, some [.val (.list ja aair2), .val (.list jb adis4)])]], KK⟩)
theorem QhE (lb n : Nat) (ja : Bool) (aair2 : LL) (jb : Bool) (adis4 : LL) (js : Bool) (b6 : LL) (c7 : Int) (wY : CV) (o0 : Int) :
 Qdq lb n ja aair2 jb adis4 js b6 c7 wY o0 =
 optO (CV.asL wY) fun gE =>
 bif (decide ((gE.2.length : Int) ≤ (b6.length : Int))) then
 (optO (C lb n Qaa [.agg [.list ja aair2, .list jb adis4], wY]) fun oK =>
 optO (CV.asL oK) fun pD =>
 bif ((pD.2.length : Int) == 0) then
 (optO (C lb n QdE []) fun pk =>
 some (pk))
 else
 (some (.bool false)))
 else
 (some (.bool false)) := (Qad _).trans (by kernel_rfl)
theorem QdK (lb n oQ : Nat) (ja : Bool) (aair2 : LL) (jb : Bool) (adis4 : LL) (js : Bool) (b6 : LL) (c7 : Int) (wY : CV) (yr : Int) :
 Qcu lb n (oQ + 1) ja aair2 jb adis4 js b6 c7 wY yr =
 bif (decide (yr < (b6.length : Int))) then
 (optO (atL b6 yr) fun c35 =>
 chkO (c35.length == 6) (
 optO (c35[0]?) fun yW =>
 optO (atL b6 yr) fun c37 =>
 chkO (c37.length == 6) (
 optO (c37[1]?) fun kH =>
 optO (C lb n Qis [.list js b6, wY, yW, kH, .int .i64 c7]) fun pd =>
 optO (CV.asB pd) fun qd =>
 bif (!qd) then
 (some (.bool false))
 else
 (Qcu lb n oQ ja aair2 jb adis4 js b6 c7 wY (IntKind.wrap .i64 (yr + 1))))))
 else
 (Qdq lb n ja aair2 jb adis4 js b6 c7 wY yr) := (Qad _).trans (by kernel_rfl)
theorem Qdp (lb n : Nat) (ja : Bool) (aair2 : LL) (jb : Bool) (adis4 : LL) (js : Bool) (b6 : LL) (c7 : Int) :
 top lb n QaP [.agg [.list ja aair2, .list jb adis4], .list js b6, .int .i64 c7] =
 optO (C lb n QbU [.agg [.list ja aair2, .list jb adis4], .list js b6]) fun r9 =>
 optO (CV.asB r9) fun gj =>
 bif gj then
 (optO (C lb n QdE []) fun jM =>
 some (jM))
 else
 (optO (C lb n Qar [.list js b6]) fun wY =>
 optO (C lb n QaG [.list js b6]) fun vo =>
 optO (C lb n Qba [wY, vo]) fun oZ =>
 optO (CV.asB oZ) fun wk =>
 bif (!wk) then
 (some (.bool false))
 else
 (optO (C lb n Qig [.agg [.list ja aair2, .list jb adis4], .list js b6]) fun yK =>
 optO (CV.asB yK) fun po =>
 bif (!po) then
 (optO (C lb n QdE []) fun qf =>
 some (qf))
 else
 (Qcu lb n n ja aair2 jb adis4 js b6 c7 wY 0))) := by kernel_rfl
end Go.Proofs
