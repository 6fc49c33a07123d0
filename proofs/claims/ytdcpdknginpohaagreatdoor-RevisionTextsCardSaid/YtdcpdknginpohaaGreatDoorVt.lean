/- Equations of functions, printed by program. Conditions: none. -/
import Derived.Test.YtdcpdknginpohaaGreatDoorEv
namespace Go.Proofs
open Go.Am
set_option maxRecDepth 100000
set_option linter.unusedVariables false
theorem QoK (lb n) (a1 : Int) :
 top lb n QaM [.int .i64 a1] =
 bif (a1 == 1) then
 (some (.str [110, 101, 119]))
 else
 (bif (a1 == 2) then
 (some (.str [99, 97, 110, 99, 101, 108]))
 else
 (bif (a1 == 3) then
 (some (.str [116, 105, 109, 101]))
 else
 (bif (a1 == 4) then
 (some (.str [101, 113, 117, 105, 112]))
 else
 (bif (a1 == 5) then
 (some (.str [114, 101, 112, 108, 97, 99, 101]))
 else
 (some (.str [])))))) := by kernel_rfl
theorem Qot (lb n) (a1 : Int) :
 top lb n QaO [.int .i64 a1] =
 bif (a1 == 1) then
 (some (.bool true))
 else
 (some (.bool (a1 == 5))) := by kernel_rfl
theorem Ql3 (lb n) (jc : Int) (jh : LB) (jj jb jd ja jk : Int) (aequ9 : LB) (jg) (aleg11 : LL) :
 top lb n QbF [.agg [.int .i64 jc, .str jh, .int .i64 jj, .int .i64 jb, .int .i64 jd, .int .i64 ja, .int .i64 jk, .str aequ9, .list jg aleg11]] =
 bif (jc != 3) then
 (bif (jk != 0) then
 (some (.bool true))
 else
 (bif (jc != 4) then
 (bif (!(aequ9 == [])) then
 (some (.bool true))
 else
 (optO (C lb n QaO [.int .i64 jc]) fun jC =>
 optO (CV.asB jC) fun j9 =>
 bif (!j9) then
 (some (.bool (decide ((aleg11.length : Int) > 0))))
 else
 (some (.bool false))))
 else
 (optO (C lb n QaO [.int .i64 jc]) fun jG =>
 optO (CV.asB jG) fun wN =>
 bif (!wN) then
 (some (.bool (decide ((aleg11.length : Int) > 0))))
 else
 (some (.bool false)))))
 else
 (bif (jc != 4) then
 (bif (!(aequ9 == [])) then
 (some (.bool true))
 else
 (optO (C lb n QaO [.int .i64 jc]) fun wg =>
 optO (CV.asB wg) fun nr =>
 bif (!nr) then
 (some (.bool (decide ((aleg11.length : Int) > 0))))
 else
 (some (.bool false))))
 else
 (optO (C lb n QaO [.int .i64 jc]) fun jq =>
 optO (CV.asB jq) fun gq =>
 bif (!gq) then
 (some (.bool (decide ((aleg11.length : Int) > 0))))
 else
 (some (.bool false)))) := by kernel_rfl
theorem QtM (lb n) (a1 : Int) :
 top lb n Qdg [.int .i64 a1] =
 optO (atL [[CV.str []], [CV.str [110, 101, 119]], [CV.str [99, 97, 110, 99, 101, 108]], [CV.str [116, 105, 109, 101]], [CV.str [101, 113, 117, 105, 112]], [CV.str [114, 101, 112, 108, 97, 99, 101]]] a1) fun c2 =>
 chkO (c2.length == 1) (
 optO (c2[0]?) fun x3 =>
 some (x3)) := by kernel_rfl
theorem QtN (lb n) (a1 : Int) :
 top lb n QaG [.int .i64 a1] =
 bif (a1 == 1) then
 (some (.bool true))
 else
 (some (.bool (a1 == 5))) := by kernel_rfl
noncomputable def revision_Print_J1 :=
 fun lb n jc jh jj jb jd ja jk aequ9 (jg : Bool) (aleg11 : LL) wg (ya : LB) (wN : Bool) kU kR kS =>
 hold (E0 lb n 0 995 (sub (B Qa7) [1, 1, 1, 1, 1]) (retK Tryz.prog (R Qa7) 0 (outK (Qad Tryz.prog Qa7))) ⟨fr 108 [(0, .val (.agg [.int .i64 jc, .str jh, .int .i64 jj, .int .i64 jb, .int .i64 jd, .int .i64 ja, .int .i64 jk, .str aequ9, .list jg aleg11])), (1, .ptr 0 1 0), (2, .val (.str [])), (3, vI 0), (4, vV wg), (5, vV kU), (6, vV kR), (7, vV kS), (9, .val (.bool (ya == []))), (14, .val (.bool (!wN))), (19, .val (.bool (decide (jj > 9999))))], [bx 108 [(1, some [vI jc, vS jh, vI jj, vI jb, vI jd, vI ja, vI jk, vS aequ9, .val (.list jg aleg11)])]], KK⟩)
theorem Qk0 (lb n : Nat) (jc : Int) (jh : LB) (jj jb jd ja jk : Int) (aequ9 : LB) (jg : Bool) (aleg11 : LL) (wg : CV) (ya : LB) (wN : Bool) (kU kR kS : CV) :
 revision_Print_J1 lb n jc jh jj jb jd ja jk aequ9 jg aleg11 wg ya wN kU kR kS =
 bif (jc == 4) then
 (optO (C lb n QcT [.str aequ9, .int .i64 3, .int .i64 3]) fun nb =>
 optO (CV.asB nb) fun n7 =>
 bif (!n7) then
 (some (.tup [.str [], .int .i64 5]))
 else
 (optO (C lb n QbF [.agg [.int .i64 jc, .str jh, .int .i64 jj, .int .i64 jb, .int .i64 jd, .int .i64 ja, .int .i64 jk, .str aequ9, .list jg aleg11]]) fun pT =>
 optO (CV.asB pT) fun vr =>
 bif vr then
 (some (.tup [.str [], .int .i64 2]))
 else
 (optO (C lb n QaO [.int .i64 jc]) fun k6 =>
 optO (CV.asB k6) fun vg =>
 bif vg then
 (optO (C lb n QaM [.int .i64 jc]) fun ns =>
 optO (CV.asS ns) fun s38 =>
 chkO (decide (s38.length + [32].length ≤ 9223372036854775807)) (
 optO (CV.asS kU) fun s39 =>
 chkO (decide ((s38 ++ [32]).length + s39.length ≤ 9223372036854775807)) (
 some (.tup [.str ((s38 ++ [32]) ++ s39), .int .i64 0]))))
 else
 (optO (C lb n QaM [.int .i64 jc]) fun yo =>
 optO (C lb n QaP [.int .i64 jj]) fun vq =>
 optO (C lb n QaV [.agg [.int .i64 jb, .int .i64 jd, .int .i64 ja]]) fun ym =>
 chkO (CV.isCell yo) (
 chkO (CV.isCell vq) (
 chkO (CV.isCell ym) (
 bif (jc == 3) then
 (optO (C lb n QaP [.int .i64 jk]) fun gP =>
 chkO (CV.isCell gP) (
 optO (C lb n QaH [.list false [[yo], [CV.str jh], [vq], [ym], [gP]]]) fun wA =>
 some (.tup [wA, .int .i64 0])))
 else
 (bif (jc == 4) then
 (optO (C lb n QaH [.list false [[yo], [CV.str jh], [vq], [ym], [CV.str aequ9]]]) fun gH =>
 some (.tup [gH, .int .i64 0]))
 else
 (optO (C lb n QaH [.list false [[yo], [CV.str jh], [vq], [ym]]]) fun vQ =>
 some (.tup [vQ, .int .i64 0]))))))))))
 else
 (optO (C lb n QbF [.agg [.int .i64 jc, .str jh, .int .i64 jj, .int .i64 jb, .int .i64 jd, .int .i64 ja, .int .i64 jk, .str aequ9, .list jg aleg11]]) fun kN =>
 optO (CV.asB kN) fun ky =>
 bif ky then
 (some (.tup [.str [], .int .i64 2]))
 else
 (optO (C lb n QaO [.int .i64 jc]) fun vP =>
 optO (CV.asB vP) fun pt =>
 bif pt then
 (optO (C lb n QaM [.int .i64 jc]) fun nh =>
 optO (CV.asS nh) fun s52 =>
 chkO (decide (s52.length + [32].length ≤ 9223372036854775807)) (
 optO (CV.asS kU) fun s53 =>
 chkO (decide ((s52 ++ [32]).length + s53.length ≤ 9223372036854775807)) (
 some (.tup [.str ((s52 ++ [32]) ++ s53), .int .i64 0]))))
 else
 (optO (C lb n QaM [.int .i64 jc]) fun y9 =>
 optO (C lb n QaP [.int .i64 jj]) fun yp =>
 optO (C lb n QaV [.agg [.int .i64 jb, .int .i64 jd, .int .i64 ja]]) fun ov =>
 chkO (CV.isCell y9) (
 chkO (CV.isCell yp) (
 chkO (CV.isCell ov) (
 bif (jc == 3) then
 (optO (C lb n QaP [.int .i64 jk]) fun vK =>
 chkO (CV.isCell vK) (
 optO (C lb n QaH [.list false [[y9], [CV.str jh], [yp], [ov], [vK]]]) fun kr =>
 some (.tup [kr, .int .i64 0])))
 else
 (bif (jc == 4) then
 (optO (C lb n QaH [.list false [[y9], [CV.str jh], [yp], [ov], [CV.str aequ9]]]) fun vY =>
 some (.tup [vY, .int .i64 0]))
 else
 (optO (C lb n QaH [.list false [[y9], [CV.str jh], [yp], [ov]]]) fun gI =>
 some (.tup [gI, .int .i64 0]))))))))) := (Qab _).trans (by kernel_rfl)
noncomputable def Qft (lb n : Nat) (jc : Int) (jh : LB) (jj jb jd ja jk : Int) (aequ9 : LB) (jg : Bool) (aleg11 : LL) (wg : CV) (ya : LB) (wN : Bool) : Option CV :=
 hold (E0 lb n 0 995 (sub (B Qa7) [1, 1, 1, 1, 1]) (retK Tryz.prog (R Qa7) 0 (outK (Qad Tryz.prog Qa7))) ⟨fr 108 [(0, .val (.agg [.int .i64 jc, .str jh, .int .i64 jj, .int .i64 jb, .int .i64 jd, .int .i64 ja, .int .i64 jk, .str aequ9, .list jg aleg11])), (1, .ptr 0 1 0), (2, .val (.str [])), (3, vI 0), (4, vV wg), (5, .val (.str [])), (9, .val (.bool (ya == []))), (14, .val (.bool (!wN))), (19, .val (.bool (decide (jj > 9999))))], [bx 108 [(1, some [vI jc, vS jh, vI jj, vI jb, vI jd, vI ja, vI jk, vS aequ9, .val (.list jg aleg11)])]], KK⟩)
theorem QkU (lb n : Nat) (jc : Int) (jh : LB) (jj jb jd ja jk : Int) (aequ9 : LB) (jg : Bool) (aleg11 : LL) (wg : CV) (ya : LB) (wN : Bool) :
 Qft lb n jc jh jj jb jd ja jk aequ9 jg aleg11 wg ya wN =
 bif (jc == 4) then
 (optO (C lb n QcT [.str aequ9, .int .i64 3, .int .i64 3]) fun kG =>
 optO (CV.asB kG) fun wQ =>
 bif (!wQ) then
 (some (.tup [.str [], .int .i64 5]))
 else
 (optO (C lb n QbF [.agg [.int .i64 jc, .str jh, .int .i64 jj, .int .i64 jb, .int .i64 jd, .int .i64 ja, .int .i64 jk, .str aequ9, .list jg aleg11]]) fun vu =>
 optO (CV.asB vu) fun vw =>
 bif vw then
 (some (.tup [.str [], .int .i64 2]))
 else
 (optO (C lb n QaO [.int .i64 jc]) fun gp =>
 optO (CV.asB gp) fun pA =>
 bif pA then
 (optO (C lb n QaM [.int .i64 jc]) fun oZ =>
 optO (CV.asS oZ) fun s69 =>
 chkO (decide (s69.length + [32].length ≤ 9223372036854775807)) (
 chkO (decide ((s69 ++ [32]).length + ([] : LB).length ≤ 9223372036854775807)) (
 some (.tup [.str ((s69 ++ [32]) ++ []), .int .i64 0]))))
 else
 (optO (C lb n QaM [.int .i64 jc]) fun oK =>
 optO (C lb n QaP [.int .i64 jj]) fun y5 =>
 optO (C lb n QaV [.agg [.int .i64 jb, .int .i64 jd, .int .i64 ja]]) fun vT =>
 chkO (CV.isCell oK) (
 chkO (CV.isCell y5) (
 chkO (CV.isCell vT) (
 bif (jc == 3) then
 (optO (C lb n QaP [.int .i64 jk]) fun kj =>
 chkO (CV.isCell kj) (
 optO (C lb n QaH [.list false [[oK], [CV.str jh], [y5], [vT], [kj]]]) fun vR =>
 some (.tup [vR, .int .i64 0])))
 else
 (bif (jc == 4) then
 (optO (C lb n QaH [.list false [[oK], [CV.str jh], [y5], [vT], [CV.str aequ9]]]) fun gd =>
 some (.tup [gd, .int .i64 0]))
 else
 (optO (C lb n QaH [.list false [[oK], [CV.str jh], [y5], [vT]]]) fun o0 =>
 some (.tup [o0, .int .i64 0]))))))))))
 else
 (optO (C lb n QbF [.agg [.int .i64 jc, .str jh, .int .i64 jj, .int .i64 jb, .int .i64 jd, .int .i64 ja, .int .i64 jk, .str aequ9, .list jg aleg11]]) fun pg =>
 optO (CV.asB pg) fun pI =>
 bif pI then
 (some (.tup [.str [], .int .i64 2]))
 else
 (optO (C lb n QaO [.int .i64 jc]) fun ot =>
 optO (CV.asB ot) fun yi =>
 bif yi then
 (optO (C lb n QaM [.int .i64 jc]) fun oi =>
 optO (CV.asS oi) fun s82 =>
 chkO (decide (s82.length + [32].length ≤ 9223372036854775807)) (
 chkO (decide ((s82 ++ [32]).length + ([] : LB).length ≤ 9223372036854775807)) (
 some (.tup [.str ((s82 ++ [32]) ++ []), .int .i64 0]))))
 else
 (optO (C lb n QaM [.int .i64 jc]) fun ol =>
 optO (C lb n QaP [.int .i64 jj]) fun vJ =>
 optO (C lb n QaV [.agg [.int .i64 jb, .int .i64 jd, .int .i64 ja]]) fun oF =>
 chkO (CV.isCell ol) (
 chkO (CV.isCell vJ) (
 chkO (CV.isCell oF) (
 bif (jc == 3) then
 (optO (C lb n QaP [.int .i64 jk]) fun ve =>
 chkO (CV.isCell ve) (
 optO (C lb n QaH [.list false [[ol], [CV.str jh], [vJ], [oF], [ve]]]) fun ga =>
 some (.tup [ga, .int .i64 0])))
 else
 (bif (jc == 4) then
 (optO (C lb n QaH [.list false [[ol], [CV.str jh], [vJ], [oF], [CV.str aequ9]]]) fun nB =>
 some (.tup [nB, .int .i64 0]))
 else
 (optO (C lb n QaH [.list false [[ol], [CV.str jh], [vJ], [oF]]]) fun gx =>
 some (.tup [gx, .int .i64 0]))))))))) := (Qab _).trans (by kernel_rfl)
theorem Qcb (lb n : Nat) (jc : Int) (jh : LB) (jj jb jd ja jk : Int) (aequ9 : LB) (jg : Bool) (aleg11 : LL) :
 top lb n Qa7 [.agg [.int .i64 jc, .str jh, .int .i64 jj, .int .i64 jb, .int .i64 jd, .int .i64 ja, .int .i64 jk, .str aequ9, .list jg aleg11]] =
 optO (C lb n QaM [.int .i64 jc]) fun jC =>
 optO (CV.asS jC) fun ya =>
 bif (ya == []) then
 (some (.tup [.str [], .int .i64 8]))
 else
 (optO (C lb n Qfh [.str jh]) fun jG =>
 optO (CV.asB jG) fun wN =>
 bif (!wN) then
 (some (.tup [.str [], .int .i64 5]))
 else
 (bif (decide (jj < 1)) then
 (some (.tup [.str [], .int .i64 2]))
 else
 (bif (decide (jj > 9999)) then
 (some (.tup [.str [], .int .i64 2]))
 else
 (optO (C lb n Qdn [.agg [.int .i64 jb, .int .i64 jd, .int .i64 ja]]) fun wg =>
 optO (CV.asI .i64 wg) fun jv =>
 bif (jv != 0) then
 (some (.tup [.str [], wg]))
 else
 (optO (C lb n QaO [.int .i64 jc]) fun jq =>
 optO (CV.asB jq) fun gq =>
 bif gq then
 (optO (C lb n Qbn [.agg [.str jh, .int .i64 jj, .int .i64 jb, .int .i64 jd, .int .i64 ja, .list jg aleg11]]) fun oV =>
 optO (CV.asT oV) fun gi =>
 optO (gi[0]?) fun j5 =>
 optO (CV.asT oV) fun ku =>
 optO (ku[1]?) fun wc =>
 optO (CV.asI .i64 wc) fun wT =>
 bif (wT != 0) then
 (some (.tup [.str [], wc]))
 else
 (revision_Print_J1 lb n jc jh jj jb jd ja jk aequ9 jg aleg11 wg ya wN j5 j5 wc))
 else
 (Qft lb n jc jh jj jb jd ja jk aequ9 jg aleg11 wg ya wN )))))) := by kernel_rfl
noncomputable def QdT (lb n : Nat) (a1 : Int) (yn : Bool) (b3 : LL) (i4 : Int) : Option CV :=
 hold (E0 lb n 0 996 (sub (B Qco) [1, 1, 1, 1]) (retK Tryz.prog (R Qco) 0 (outK (Qad Tryz.prog Qco))) ⟨fr 65 [(0, vI a1), (1, .val (.list yn b3)), (4, .ptr 0 4 0), (5, vI 0), (6, .ptr 0 6 0), (7, vI i4), (9, vI a1), (10, .val (.agg [.int .i64 a1, .str [], .int .i64 0, .int .i64 0, .int .i64 0, .int .i64 0, .int .i64 0, .str [], .list true []]))], [bx 65 [(4, some [vI 0, .val (.str []), vI 0, vI 0, vI 0, vI 0, vI 0, .val (.str []), .lst true true 94 []]), (6, some [vI a1, .val (.str []), vI 0, vI 0, vI 0, vI 0, vI 0, .val (.str []), .lst true true 94 []])]], KK⟩)
theorem QgA (lb n : Nat) (a1 : Int) (yn : Bool) (b3 : LL) (i4 : Int) :
 QdT lb n a1 yn b3 i4 =
 bif ((b3.length : Int) != i4) then
 (some (.tup [.agg [.int .i64 a1, .str [], .int .i64 0, .int .i64 0, .int .i64 0, .int .i64 0, .int .i64 0, .str [], .list true []], .int .i64 3]))
 else
 (optO (atL b3 0) fun c5 =>
 chkO (c5.length == 1) (
 optO (c5[0]?) fun x6 =>
 chkO (CV.isCell x6) (
 optO (atL b3 1) fun c7 =>
 chkO (c7.length == 1) (
 optO (c7[0]?) fun x9 =>
 optO (C lb n Qb2 [x9]) fun kO =>
 optO (CV.asT kO) fun vD =>
 optO (vD[0]?) fun jD =>
 optO (CV.asT kO) fun gM =>
 optO (gM[1]?) fun oq =>
 chkO (CV.isCell jD) (
 optO (CV.asI .i64 oq) fun i15 =>
 bif (i15 != 0) then
 (some (.tup [.agg [.int .i64 a1, x6, jD, .int .i64 0, .int .i64 0, .int .i64 0, .int .i64 0, .str [], .list true []], oq]))
 else
 (optO (atL b3 2) fun c17 =>
 chkO (c17.length == 1) (
 optO (c17[0]?) fun jO =>
 optO (C lb n Qfc [jO]) fun jq =>
 optO (CV.asT jq) fun t20 =>
 optO (t20[0]?) fun yb =>
 optO (CV.asT jq) fun gi =>
 optO (gi[1]?) fun j5 =>
 optO (CV.asA yb) fun c24 =>
 chkO (c24.length == 3) (
 optO (c24[0]?) fun wc =>
 optO (c24[1]?) fun jQ =>
 optO (c24[2]?) fun jZ =>
 optO (CV.asI .i64 j5) fun j3 =>
 bif (j3 != 0) then
 (some (.tup [.agg [.int .i64 a1, x6, jD, wc, jQ, jZ, .int .i64 0, .str [], .list true []], j5]))
 else
 (bif (a1 == 3) then
 (optO (atL b3 3) fun c29 =>
 chkO (c29.length == 1) (
 optO (c29[0]?) fun jI =>
 optO (C lb n Qb2 [jI]) fun gO =>
 optO (CV.asT gO) fun gA =>
 optO (gA[0]?) fun wx =>
 optO (CV.asT gO) fun m8 =>
 optO (m8[1]?) fun jS =>
 chkO (CV.isCell wx) (
 some (.tup [.agg [.int .i64 a1, x6, jD, wc, jQ, jZ, wx, .str [], .list true []], jS]))))
 else
 (bif (a1 == 4) then
 (optO (atL b3 3) fun c37 =>
 chkO (c37.length == 1) (
 optO (c37[0]?) fun wD =>
 chkO (CV.isCell wD) (
 some (.tup [.agg [.int .i64 a1, x6, jD, wc, jQ, jZ, .int .i64 0, wD, .list true []], j5]))))
 else
 (some (.tup [.agg [.int .i64 a1, x6, jD, wc, jQ, jZ, .int .i64 0, .str [], .list true []], j5])))))))))))) := (Qab _).trans (by kernel_rfl)
theorem Qnv (lb n : Nat) (a1 : Int) (yn : Bool) (b3 : LL) :
 top lb n Qco [.int .i64 a1, .list yn b3] =
 bif (a1 != 2) then
 (QdT lb n a1 yn b3 4)
 else
 (QdT lb n a1 yn b3 3) := by kernel_rfl
noncomputable def Qcp (lb n wo : Nat) (jr : Bool) (a2 : LL) (jK jP : Int) : Option CV :=
 hold (QaB (E0 lb n 0 993) 0 (Qaj (sub (B Qa3) [1, 1, 1, 0, 1, 0, 0]) ++ []) [] (sub (B Qa3) [1, 1, 1, 0, 1, 0, 0]) (Qat 0 (seqK (E0 lb n 0 996) (sub (B Qa3) [1, 1, 1, 0]) (sub (B Qa3) [1, 1, 1, 1]) (retK Tryz.prog (R Qa3) 0 (outK (Qad Tryz.prog Qa3))))) wo ⟨fr 55 [(0, .val (.list jr a2)), (2, .ptr 0 2 0), (3, vI 0), (4, vI jK), (5, vI jP)], [bx 55 [(2, some [vI 0, .val (.str []), vI 0, vI 0, vI 0, vI 0, vI 0, .val (.str []), .lst true true 94 []])]], KK⟩)
noncomputable def Qdr (lb n : Nat) (jr : Bool) (a2 : LL) (ww wT : Int) : Option CV :=
 hold (E0 lb n 0 996 (sub (B Qa3) [1, 1, 1, 1]) (retK Tryz.prog (R Qa3) 0 (outK (Qad Tryz.prog Qa3))) ⟨fr 55 [(0, .val (.list jr a2)), (2, .ptr 0 2 0), (3, vI 0), (4, vI ww), (5, vI wT)], [bx 55 [(2, some [vI 0, .val (.str []), vI 0, vI 0, vI 0, vI 0, vI 0, .val (.str []), .lst true true 94 []])]], KK⟩)
theorem QeH (lb n : Nat) (jr : Bool) (a2 : LL) (ww wT : Int) :
 Qdr lb n jr a2 ww wT =
 bif (ww == 0) then
 (some (.tup [.agg [.int .i64 0, .str [], .int .i64 0, .int .i64 0, .int .i64 0, .int .i64 0, .int .i64 0, .str [], .list true []], .int .i64 3]))
 else
 (optO (C lb n QaO [.int .i64 ww]) fun yC =>
 optO (CV.asB yC) fun nN =>
 bif (!nN) then
 (chkO (a2.all (·.length == 1)) (
 chkO (decide ((0 : Int) ≤ 1 ∧ 1 ≤ (a2.length : Int))) (
 optO (C lb n Qco [.int .i64 ww, .list jr ((a2.take ((a2.length : Int).toNat)).drop 1)]) fun gS =>
 optO (CV.asT gS) fun ks =>
 optO (ks[0]?) fun jH =>
 optO (CV.asT gS) fun gA =>
 optO (gA[1]?) fun wx =>
 optO (CV.asA jH) fun c35 =>
 chkO (c35.length == 9) (
 optO (c35[0]?) fun jS =>
 optO (c35[1]?) fun jM =>
 optO (c35[2]?) fun wD =>
 optO (c35[3]?) fun wI =>
 optO (c35[4]?) fun wX =>
 optO (c35[5]?) fun yg =>
 optO (c35[6]?) fun wS =>
 optO (c35[7]?) fun w6 =>
 optO (c35[8]?) fun yO =>
 some (.tup [.agg [jS, jM, wD, wI, wX, yg, wS, w6, yO], wx])))))
 else
 (chkO (a2.all (·.length == 1)) (
 chkO (decide ((0 : Int) ≤ 1 ∧ 1 ≤ (a2.length : Int))) (
 optO (C lb n QaH [.list jr ((a2.take ((a2.length : Int).toNat)).drop 1)]) fun gH =>
 optO (C lb n Qbd [gH]) fun vQ =>
 optO (CV.asT vQ) fun gw =>
 optO (gw[0]?) fun yd =>
 optO (CV.asT vQ) fun mS =>
 optO (mS[1]?) fun yc =>
 optO (CV.asA yd) fun c51 =>
 chkO (c51.length == 6) (
 optO (c51[0]?) fun wZ =>
 optO (c51[1]?) fun wz =>
 optO (c51[2]?) fun w4 =>
 optO (c51[3]?) fun yf =>
 optO (c51[4]?) fun wW =>
 optO (c51[5]?) fun jV =>
 chkO (CV.isCell wZ) (
 chkO (CV.isCell wz) (
 chkO (CV.isCell jV) (
 some (.tup [.agg [.int .i64 ww, wZ, wz, w4, yf, wW, .int .i64 0, .str [], jV], yc]))))))))) := (Qab _).trans (by kernel_rfl)
theorem Qge (lb n wo : Nat) (jr : Bool) (a2 : LL) (jK jP : Int) :
 Qcp lb n (wo + 1) jr a2 jK jP =
 bif (decide (jP ≤ 5)) then
 (optO (C lb n QaM [.int .i64 jP]) fun jy =>
 optO (atL a2 0) fun c21 =>
 chkO (c21.length == 1) (
 optO (c21[0]?) fun js =>
 optO (CV.asS jy) fun nP =>
 optO (CV.asS js) fun s24 =>
 bif (nP == s24) then
 (Qcp lb n wo jr a2 jP (IntKind.wrap .i64 (jP + 1)))
 else
 (Qcp lb n wo jr a2 jK (IntKind.wrap .i64 (jP + 1)))))
 else
 (Qdr lb n jr a2 jK jP) := (Qab _).trans (by kernel_rfl)
theorem Qi8 (lb n : Nat) (jr : Bool) (a2 : LL) :
 top lb n Qa3 [.list jr a2] =
 bif ((a2.length : Int) == 0) then
 (some (.tup [.agg [.int .i64 0, .str [], .int .i64 0, .int .i64 0, .int .i64 0, .int .i64 0, .int .i64 0, .str [], .list true []], .int .i64 3]))
 else
 (Qcp lb n n jr a2 0 1) := by kernel_rfl
noncomputable def Qfu (lb n : Nat) (a1 : LB) (x4 r2 x6 r9 yP jB wF jx jO j0 jp yb js j5 wH v31 : CV) : Option CV :=
 hold (E0 lb n 0 995 (sub (B Qa6) [1, 1, 1, 1, 1]) (retK Tryz.prog (R Qa6) 0 (outK (Qad Tryz.prog Qa6))) ⟨fr 33 [(0, vS a1), (2, .ptr 0 2 0), (3, vI 0), (4, vV x4), (5, vV v31), (6, .ptr 0 6 0), (7, vV r2), (8, vS a1), (9, vV r2), (10, vV x4), (11, vV x6), (16, vV r9), (17, vV x4), (18, vV r9), (19, vV yP), (20, vV jB)], [bx 33 [(2, some [vI 0, .val (.str []), vI 0, vI 0, vI 0, vI 0, vI 0, .val (.str []), .lst true true 94 []]), (6, some [.val wF, .val jx, .val jO, .val j0, .val jp, .val yb, .val js, .val j5, .val wH])]], KK⟩)
theorem Qek (lb n : Nat) (a1 : LB) (x4 r2 x6 r9 yP jB wF jx jO j0 jp yb js j5 wH v31 : CV) :
 Qfu lb n a1 x4 r2 x6 r9 yP jB wF jx jO j0 jp yb js j5 wH v31 =
 optO (CV.asI .i64 v31) fun vC =>
 bif (vC != 0) then
 (some (.tup [.agg [.int .i64 0, .str [], .int .i64 0, .int .i64 0, .int .i64 0, .int .i64 0, .int .i64 0, .str [], .list true []], v31]))
 else
 (some (.tup [.agg [wF, jx, jO, j0, jp, yb, js, j5, wH], .int .i64 0])) := (Qab _).trans (by kernel_rfl)
theorem Qfv (lb n : Nat) (a1 : LB) :
 top lb n Qa6 [.str a1] =
 optO (C lb n QbC [.str a1]) fun r2 =>
 optO (CV.asT r2) fun t3 =>
 optO (t3[0]?) fun x4 =>
 optO (CV.asT r2) fun t5 =>
 optO (t5[1]?) fun x6 =>
 optO (CV.asI .i64 x6) fun i7 =>
 bif (i7 != 0) then
 (some (.tup [.agg [.int .i64 0, .str [], .int .i64 0, .int .i64 0, .int .i64 0, .int .i64 0, .int .i64 0, .str [], .list true []], x6]))
 else
 (optO (C lb n Qa3 [x4]) fun r9 =>
 optO (CV.asT r9) fun gz =>
 optO (gz[0]?) fun yP =>
 optO (CV.asT r9) fun vn =>
 optO (vn[1]?) fun jB =>
 optO (CV.asA yP) fun c14 =>
 chkO (c14.length == 9) (
 optO (c14[0]?) fun wF =>
 optO (c14[1]?) fun jx =>
 optO (c14[2]?) fun jO =>
 optO (c14[3]?) fun j0 =>
 optO (c14[4]?) fun jp =>
 optO (c14[5]?) fun yb =>
 optO (c14[6]?) fun js =>
 optO (c14[7]?) fun j5 =>
 optO (c14[8]?) fun wH =>
 optO (CV.asI .i64 jB) fun ww =>
 bif (ww == 0) then
 (optO (C lb n Qa7 [.agg [wF, jx, jO, j0, jp, yb, js, j5, wH]]) fun gT =>
 optO (CV.asT gT) fun vf =>
 optO (vf[0]?) fun jX =>
 optO (CV.asT gT) fun kD =>
 optO (kD[1]?) fun jI =>
 Qfu lb n a1 x4 r2 x6 r9 yP jB wF jx jO j0 jp yb js j5 wH jI)
 else
 (Qfu lb n a1 x4 r2 x6 r9 yP jB wF jx jO j0 jp yb js j5 wH jB))) := by kernel_rfl
noncomputable def QdP (lb n k7 : Nat) (a1 : LB) (i4 : Int) : Option CV :=
 hold (QaB (E0 lb n 0 995) 0 (Qaj (sub (B Qby) [1, 0, 1, 0, 0]) ++ []) [] (sub (B Qby) [1, 0, 1, 0, 0]) (Qat 0 (seqK (E0 lb n 0 998) (sub (B Qby) [1, 0]) (sub (B Qby) [1, 1]) (retK Tryz.prog (R Qby) 0 (outK (Qad Tryz.prog Qby))))) k7 ⟨fr 13 [(0, vS a1), (2, vI 0), (3, vI i4)], [bx 13 []], KK⟩)
noncomputable def Qkb (lb n : Nat) (a1 : LB) (jK : Int) : Option CV :=
 hold (E0 lb n 0 998 (sub (B Qby) [1, 1]) (retK Tryz.prog (R Qby) 0 (outK (Qad Tryz.prog Qby))) ⟨fr 13 [(0, vS a1), (2, vI 0), (3, vI jK)], [bx 13 []], KK⟩)
theorem Qqh (lb n : Nat) (a1 : LB) (jK : Int) :
 Qkb lb n a1 jK =
 some (.int .i64 0) := (Qab _).trans (by kernel_rfl)
theorem QiZ (lb n k7 : Nat) (a1 : LB) (i4 : Int) :
 QdP lb n (k7 + 1) a1 i4 =
 bif (decide (i4 ≤ 5)) then
 (optO (C lb n Qdg [.int .i64 i4]) fun r9 =>
 optO (CV.asS r9) fun s10 =>
 bif (s10 == a1) then
 (some (.int .i64 i4))
 else
 (QdP lb n k7 a1 (IntKind.wrap .i64 (i4 + 1))))
 else
 (Qkb lb n a1 i4) := (Qab _).trans (by kernel_rfl)
theorem QtC (lb n : Nat) (a1 : LB) :
 top lb n Qby [.str a1] =
 QdP lb n n a1 1 := by kernel_rfl
noncomputable def QfH (lb n : Nat) (jr : Bool) (a2 : LL) (c3 : List CV) (x4 r5 : CV) (i7 : Int) : Option CV :=
 hold (E0 lb n 0 996 (sub (B QcH) [1, 1, 1, 1]) (retK Tryz.prog (R QcH) 0 (outK (Qad Tryz.prog QcH))) ⟨fr 72 [(0, .val (.list jr a2)), (2, .ptr 0 2 0), (3, vI 0), (4, .ptr 0 4 0), (5, vI i7), (9, .val (.list jr a2)), (10, .cptr c3 0), (11, vV x4), (12, vV r5), (13, .val (.agg [r5, .str [], .int .i64 0, .int .i64 0, .int .i64 0, .int .i64 0, .int .i64 0, .str [], .list true []]))], [bx 72 [(2, some [vI 0, .val (.str []), vI 0, vI 0, vI 0, vI 0, vI 0, .val (.str []), .lst true true 94 []]), (4, some [.val r5, .val (.str []), vI 0, vI 0, vI 0, vI 0, vI 0, .val (.str []), .lst true true 94 []])]], KK⟩)
noncomputable def Qfz (lb n : Nat) (jr : Bool) (a2 : LL) (i7 : Int) (jB wH : CV) (c3 : List CV) (x4 r5 jE : CV) (c9 : List CV) (jz wF jy : CV) (c18 : List CV) (j0 js : CV) (c30 : List CV) (jH jQ jZ jX kJ : CV) : Option CV :=
 hold (E0 lb n 0 989 (sub (B QcH) [1, 1, 1, 1, 1, 1, 1, 1, 1, 1, 1]) (retK Tryz.prog (R QcH) 0 (outK (Qad Tryz.prog QcH))) ⟨fr 72 [(0, .val (.list jr a2)), (2, .ptr 0 2 0), (3, vI 0), (4, .ptr 0 4 0), (5, vI i7), (6, vV jB), (7, vV wH), (8, .ptr 0 8 0), (9, .val (.list jr a2)), (10, .cptr c3 0), (11, vV x4), (12, vV r5), (13, .val (.agg [r5, .str [], .int .i64 0, .int .i64 0, .int .i64 0, .int .i64 0, .int .i64 0, .str [], .list true []])), (22, vV jE), (23, .val (.list jr a2)), (24, .cptr c9 0), (25, vV jz), (26, vV jE), (27, vV jB), (28, vV wF), (33, vV jy), (34, .val (.list jr a2)), (35, .cptr c18 0), (36, vV j0), (37, vV jy), (38, vV js), (39, vV wH), (44, .val (.list jr a2)), (45, .cptr c30 0), (46, vV jH), (47, vV jB), (48, .val (.agg [jQ, jZ, jX])), (49, .ptr 0 4 1), (50, .ptr 0 4 2), (51, .ptr 0 4 3)], [bx 72 [(2, some [vI 0, .val (.str []), vI 0, vI 0, vI 0, vI 0, vI 0, .val (.str []), .lst true true 94 []]), (4, some [.val r5, .val jH, .val jB, .val jQ, .val jZ, .val jX, vI 0, .val kJ, .lst true true 94 []]), (8, some [.val jQ, .val jZ, .val jX])]], KK⟩)
theorem QgY (lb n : Nat) (jr : Bool) (a2 : LL) (i7 : Int) (jB wH : CV) (c3 : List CV) (x4 r5 jE : CV) (c9 : List CV) (jz wF jy : CV) (c18 : List CV) (j0 js : CV) (c30 : List CV) (jH jQ jZ jX kJ : CV) :
 Qfz lb n jr a2 i7 jB wH c3 x4 r5 jE c9 jz wF jy c18 j0 js c30 jH jQ jZ jX kJ =
 optO (CV.asI .i64 r5) fun i37 =>
 bif (i37 == 3) then
 (optO (atL a2 4) fun c38 =>
 chkO (c38.length == 1) (
 optO (c38[0]?) fun wI =>
 optO (C lb n Qan [wI]) fun yo =>
 optO (CV.asT yo) fun pQ =>
 optO (pQ[0]?) fun wS =>
 optO (CV.asT yo) fun ko =>
 optO (ko[1]?) fun yO =>
 chkO (CV.isCell wS) (
 some (.tup [.agg [r5, jH, jB, jQ, jZ, jX, wS, kJ, .list true []], yO]))))
 else
 (some (.tup [.agg [r5, jH, jB, jQ, jZ, jX, .int .i64 0, kJ, .list true []], wH])) := (Qab _).trans (by kernel_rfl)
theorem Qfd (lb n : Nat) (jr : Bool) (a2 : LL) (c3 : List CV) (x4 r5 : CV) (i7 : Int) :
 QfH lb n jr a2 c3 x4 r5 i7 =
 bif ((a2.length : Int) != i7) then
 (some (.tup [.agg [r5, .str [], .int .i64 0, .int .i64 0, .int .i64 0, .int .i64 0, .int .i64 0, .str [], .list true []], .int .i64 3]))
 else
 (optO (atL a2 2) fun c9 =>
 chkO (c9.length == 1) (
 optO (c9[0]?) fun jz =>
 optO (C lb n Qan [jz]) fun jE =>
 optO (CV.asT jE) fun vn =>
 optO (vn[0]?) fun jB =>
 optO (CV.asT jE) fun gJ =>
 optO (gJ[1]?) fun wF =>
 optO (CV.asI .i64 wF) fun i17 =>
 bif (i17 != 0) then
 (some (.tup [.agg [r5, .str [], .int .i64 0, .int .i64 0, .int .i64 0, .int .i64 0, .int .i64 0, .str [], .list true []], wF]))
 else
 (optO (atL a2 3) fun c18 =>
 chkO (c18.length == 1) (
 optO (c18[0]?) fun j0 =>
 optO (C lb n Qah [j0]) fun jy =>
 optO (CV.asT jy) fun t21 =>
 optO (t21[0]?) fun js =>
 optO (CV.asT jy) fun pf =>
 optO (pf[1]?) fun wH =>
 optO (CV.asA js) fun c25 =>
 chkO (c25.length == 3) (
 optO (c25[0]?) fun jQ =>
 optO (c25[1]?) fun jZ =>
 optO (c25[2]?) fun jX =>
 optO (CV.asI .i64 wH) fun wy =>
 bif (wy != 0) then
 (some (.tup [.agg [r5, .str [], .int .i64 0, .int .i64 0, .int .i64 0, .int .i64 0, .int .i64 0, .str [], .list true []], wH]))
 else
 (optO (atL a2 1) fun c30 =>
 chkO (c30.length == 1) (
 optO (c30[0]?) fun jH =>
 chkO (CV.isCell jH) (
 chkO (CV.isCell jB) (
 optO (CV.asI .i64 r5) fun vC =>
 bif (vC == 4) then
 (optO (atL a2 4) fun c34 =>
 chkO (c34.length == 1) (
 optO (c34[0]?) fun jR =>
 chkO (CV.isCell jR) (
 Qfz lb n jr a2 i7 jB wH c3 x4 r5 jE c9 jz wF jy c18 j0 js c30 jH jQ jZ jX jR)))
 else
 (Qfz lb n jr a2 i7 jB wH c3 x4 r5 jE c9 jz wF jy c18 j0 js c30 jH jQ jZ jX (.str []))))))))))) := (Qab _).trans (by kernel_rfl)
theorem Qt4 (lb n : Nat) (jr : Bool) (a2 : LL) :
 top lb n QcH [.list jr a2] =
 optO (atL a2 0) fun c3 =>
 chkO (c3.length == 1) (
 optO (c3[0]?) fun x4 =>
 optO (C lb n Qby [x4]) fun r5 =>
 chkO (CV.isCell r5) (
 optO (CV.asI .i64 r5) fun i6 =>
 bif (i6 == 2) then
 (QfH lb n jr a2 c3 x4 r5 4)
 else
 (QfH lb n jr a2 c3 x4 r5 5))) := by kernel_rfl
noncomputable def QiJ (lb n : Nat) (jc : Int) (jh : LB) (jj jb jd ja jk : Int) (aequ9 : LB) (jg : Bool) (aleg11 : LL) (jo jq jy : CV) (wj : LB) (wV wP : CV) : Option CV :=
 hold (E0 lb n 0 992 (sub (B QaQ) [1, 1, 1, 1, 1, 1, 1, 1]) (retK Tryz.prog (R QaQ) 0 (outK (Qad Tryz.prog QaQ))) ⟨fr 129 [(0, .val (.agg [.int .i64 jc, .str jh, .int .i64 jj, .int .i64 jb, .int .i64 jd, .int .i64 ja, .int .i64 jk, .str aequ9, .list jg aleg11])), (1, .ptr 0 1 0), (2, .val (.str [])), (3, vI 0), (4, .lst true false 9 [[jo], [CV.str jh], [jq], [jy]]), (5, vS wj), (6, vV wV), (7, vV wP), (35, .ptr 0 1 0), (36, vI jc), (37, vV jo), (38, .ptr 0 1 1), (39, vS jh), (40, .ptr 0 1 2), (41, vI jj), (42, vV jq), (43, .ptr 0 1 3), (44, .val (.agg [.int .i64 jb, .int .i64 jd, .int .i64 ja])), (45, vV jy), (46, .val (.list false [[jo], [CV.str jh], [jq], [jy]]))], [bx 129 [(1, some [vI jc, vS jh, vI jj, vI jb, vI jd, vI ja, vI jk, vS aequ9, .val (.list jg aleg11)])]], KK⟩)
noncomputable def Qjg (lb n : Nat) (jc : Int) (jh : LB) (jj jb jd ja jk : Int) (aequ9 : LB) (jg : Bool) (aleg11 : LL) (wj : LB) (wV wP jo jq jy : CV) (kv : Bool) (l38 : LL) : Option CV :=
 hold (E0 lb n 0 991 (sub (B QaQ) [1, 1, 1, 1, 1, 1, 1, 1, 1]) (retK Tryz.prog (R QaQ) 0 (outK (Qad Tryz.prog QaQ))) ⟨fr 129 [(0, .val (.agg [.int .i64 jc, .str jh, .int .i64 jj, .int .i64 jb, .int .i64 jd, .int .i64 ja, .int .i64 jk, .str aequ9, .list jg aleg11])), (1, .ptr 0 1 0), (2, .val (.str [])), (3, vI 0), (4, .lst true kv 9 l38), (5, vS wj), (6, vV wV), (7, vV wP), (35, .ptr 0 1 0), (36, vI jc), (37, vV jo), (38, .ptr 0 1 1), (39, vS jh), (40, .ptr 0 1 2), (41, vI jj), (42, vV jq), (43, .ptr 0 1 3), (44, .val (.agg [.int .i64 jb, .int .i64 jd, .int .i64 ja])), (45, vV jy), (46, .val (.list false [[jo], [CV.str jh], [jq], [jy]]))], [bx 129 [(1, some [vI jc, vS jh, vI jj, vI jb, vI jd, vI ja, vI jk, vS aequ9, .val (.list jg aleg11)])]], KK⟩)
noncomputable def QiF (lb n : Nat) (jc : Int) (jh : LB) (jj jb jd ja jk : Int) (aequ9 : LB) (jg : Bool) (aleg11 : LL) (wj : LB) (wV wP jo jq jy : CV) (yu : Bool) (yv : LL) : Option CV :=
 hold (E0 lb n 0 990 (sub (B QaQ) [1, 1, 1, 1, 1, 1, 1, 1, 1, 1]) (retK Tryz.prog (R QaQ) 0 (outK (Qad Tryz.prog QaQ))) ⟨fr 129 [(0, .val (.agg [.int .i64 jc, .str jh, .int .i64 jj, .int .i64 jb, .int .i64 jd, .int .i64 ja, .int .i64 jk, .str aequ9, .list jg aleg11])), (1, .ptr 0 1 0), (2, .val (.str [])), (3, vI 0), (4, .lst true yu 9 yv), (5, vS wj), (6, vV wV), (7, vV wP), (35, .ptr 0 1 0), (36, vI jc), (37, vV jo), (38, .ptr 0 1 1), (39, vS jh), (40, .ptr 0 1 2), (41, vI jj), (42, vV jq), (43, .ptr 0 1 3), (44, .val (.agg [.int .i64 jb, .int .i64 jd, .int .i64 ja])), (45, vV jy), (46, .val (.list false [[jo], [CV.str jh], [jq], [jy]]))], [bx 129 [(1, some [vI jc, vS jh, vI jj, vI jb, vI jd, vI ja, vI jk, vS aequ9, .val (.list jg aleg11)])]], KK⟩)
theorem Qpo (lb n : Nat) (jc : Int) (jh : LB) (jj jb jd ja jk : Int) (aequ9 : LB) (jg : Bool) (aleg11 : LL) (wj : LB) (wV wP jo jq jy : CV) (yu : Bool) (yv : LL) :
 QiF lb n jc jh jj jb jd ja jk aequ9 jg aleg11 wj wV wP jo jq jy yu yv =
 bif (jc != 3) then
 (bif (jk != 0) then
 (some (.tup [.str [], .int .i64 2]))
 else
 (bif (jc != 4) then
 (bif (!(aequ9 == [])) then
 (some (.tup [.str [], .int .i64 2]))
 else
 (optO (C lb n QaG [.int .i64 jc]) fun ym =>
 optO (CV.asB ym) fun kC =>
 bif (!kC) then
 (bif (decide ((aleg11.length : Int) > 0)) then
 (some (.tup [.str [], .int .i64 2]))
 else
 (optO (C lb n QaG [.int .i64 jc]) fun wA =>
 optO (CV.asB wA) fun nS =>
 bif nS then
 (some (.tup [.str wj, .int .i64 0]))
 else
 (optO (C lb n Qap [.list yu yv]) fun vQ =>
 some (.tup [vQ, .int .i64 0]))))
 else
 (optO (C lb n QaG [.int .i64 jc]) fun kN =>
 optO (CV.asB kN) fun ky =>
 bif ky then
 (some (.tup [.str wj, .int .i64 0]))
 else
 (optO (C lb n Qap [.list yu yv]) fun vP =>
 some (.tup [vP, .int .i64 0])))))
 else
 (optO (C lb n QaG [.int .i64 jc]) fun nf =>
 optO (CV.asB nf) fun vo =>
 bif (!vo) then
 (bif (decide ((aleg11.length : Int) > 0)) then
 (some (.tup [.str [], .int .i64 2]))
 else
 (optO (C lb n QaG [.int .i64 jc]) fun vG =>
 optO (CV.asB vG) fun nK =>
 bif nK then
 (some (.tup [.str wj, .int .i64 0]))
 else
 (optO (C lb n Qap [.list yu yv]) fun y9 =>
 some (.tup [y9, .int .i64 0]))))
 else
 (optO (C lb n QaG [.int .i64 jc]) fun yp =>
 optO (CV.asB yp) fun kl =>
 bif kl then
 (some (.tup [.str wj, .int .i64 0]))
 else
 (optO (C lb n Qap [.list yu yv]) fun vK =>
 some (.tup [vK, .int .i64 0]))))))
 else
 (bif (jc != 4) then
 (bif (!(aequ9 == [])) then
 (some (.tup [.str [], .int .i64 2]))
 else
 (optO (C lb n QaG [.int .i64 jc]) fun kr =>
 optO (CV.asB kr) fun pC =>
 bif (!pC) then
 (bif (decide ((aleg11.length : Int) > 0)) then
 (some (.tup [.str [], .int .i64 2]))
 else
 (optO (C lb n QaG [.int .i64 jc]) fun gI =>
 optO (CV.asB gI) fun wJ =>
 bif wJ then
 (some (.tup [.str wj, .int .i64 0]))
 else
 (optO (C lb n Qap [.list yu yv]) fun gL =>
 some (.tup [gL, .int .i64 0]))))
 else
 (optO (C lb n QaG [.int .i64 jc]) fun vu =>
 optO (CV.asB vu) fun vw =>
 bif vw then
 (some (.tup [.str wj, .int .i64 0]))
 else
 (optO (C lb n Qap [.list yu yv]) fun gp =>
 some (.tup [gp, .int .i64 0])))))
 else
 (optO (C lb n QaG [.int .i64 jc]) fun oY =>
 optO (CV.asB oY) fun yZ =>
 bif (!yZ) then
 (bif (decide ((aleg11.length : Int) > 0)) then
 (some (.tup [.str [], .int .i64 2]))
 else
 (optO (C lb n QaG [.int .i64 jc]) fun vU =>
 optO (CV.asB vU) fun vk =>
 bif vk then
 (some (.tup [.str wj, .int .i64 0]))
 else
 (optO (C lb n Qap [.list yu yv]) fun y5 =>
 some (.tup [y5, .int .i64 0]))))
 else
 (optO (C lb n QaG [.int .i64 jc]) fun vT =>
 optO (CV.asB vT) fun pJ =>
 bif pJ then
 (some (.tup [.str wj, .int .i64 0]))
 else
 (optO (C lb n Qap [.list yu yv]) fun vR =>
 some (.tup [vR, .int .i64 0]))))) := (Qab _).trans (by kernel_rfl)
theorem QoZ (lb n : Nat) (jc : Int) (jh : LB) (jj jb jd ja jk : Int) (aequ9 : LB) (jg : Bool) (aleg11 : LL) (wj : LB) (wV wP jo jq jy : CV) (kv : Bool) (l38 : LL) :
 Qjg lb n jc jh jj jb jd ja jk aequ9 jg aleg11 wj wV wP jo jq jy kv l38 =
 bif (jc == 3) then
 (optO (C lb n QaR [.int .i64 jk]) fun vE =>
 chkO (CV.isCell vE) (
 chkO (room (l38.length + 1) 16) (
 QiF lb n jc jh jj jb jd ja jk aequ9 jg aleg11 wj wV wP jo jq jy (kv && false) (l38 ++ [[vE]]))))
 else
 (QiF lb n jc jh jj jb jd ja jk aequ9 jg aleg11 wj wV wP jo jq jy kv l38) := (Qab _).trans (by kernel_rfl)
theorem Qph (lb n : Nat) (jc : Int) (jh : LB) (jj jb jd ja jk : Int) (aequ9 : LB) (jg : Bool) (aleg11 : LL) (jo jq jy : CV) (wj : LB) (wV wP : CV) :
 QiJ lb n jc jh jj jb jd ja jk aequ9 jg aleg11 jo jq jy wj wV wP =
 bif (jc == 4) then
 (optO (C lb n Qbb [.str aequ9, .int .i64 3, .int .i64 3]) fun k6 =>
 optO (CV.asB k6) fun vg =>
 bif (!vg) then
 (some (.tup [.str [], .int .i64 5]))
 else
 (Qjg lb n jc jh jj jb jd ja jk aequ9 jg aleg11 wj wV wP jo jq jy false [[jo], [CV.str jh], [jq], [jy], [CV.str aequ9]]))
 else
 (Qjg lb n jc jh jj jb jd ja jk aequ9 jg aleg11 wj wV wP jo jq jy false [[jo], [CV.str jh], [jq], [jy]]) := (Qab _).trans (by kernel_rfl)
noncomputable def QiI (lb n : Nat) (jc : Int) (jh : LB) (jj jb jd ja jk : Int) (aequ9 : LB) (jg : Bool) (aleg11 : LL) (jo jq jy : CV) : Option CV :=
 hold (E0 lb n 0 992 (sub (B QaQ) [1, 1, 1, 1, 1, 1, 1, 1]) (retK Tryz.prog (R QaQ) 0 (outK (Qad Tryz.prog QaQ))) ⟨fr 129 [(0, .val (.agg [.int .i64 jc, .str jh, .int .i64 jj, .int .i64 jb, .int .i64 jd, .int .i64 ja, .int .i64 jk, .str aequ9, .list jg aleg11])), (1, .ptr 0 1 0), (2, .val (.str [])), (3, vI 0), (4, .lst true false 9 [[jo], [CV.str jh], [jq], [jy]]), (5, .val (.str [])), (35, .ptr 0 1 0), (36, vI jc), (37, vV jo), (38, .ptr 0 1 1), (39, vS jh), (40, .ptr 0 1 2), (41, vI jj), (42, vV jq), (43, .ptr 0 1 3), (44, .val (.agg [.int .i64 jb, .int .i64 jd, .int .i64 ja])), (45, vV jy), (46, .val (.list false [[jo], [CV.str jh], [jq], [jy]]))], [bx 129 [(1, some [vI jc, vS jh, vI jj, vI jb, vI jd, vI ja, vI jk, vS aequ9, .val (.list jg aleg11)])]], KK⟩)
noncomputable def Qi3 (lb n : Nat) (jc : Int) (jh : LB) (jj jb jd ja jk : Int) (aequ9 : LB) (jg : Bool) (aleg11 : LL) (jo jq jy : CV) (kQ : Bool) (l78 : LL) : Option CV :=
 hold (E0 lb n 0 991 (sub (B QaQ) [1, 1, 1, 1, 1, 1, 1, 1, 1]) (retK Tryz.prog (R QaQ) 0 (outK (Qad Tryz.prog QaQ))) ⟨fr 129 [(0, .val (.agg [.int .i64 jc, .str jh, .int .i64 jj, .int .i64 jb, .int .i64 jd, .int .i64 ja, .int .i64 jk, .str aequ9, .list jg aleg11])), (1, .ptr 0 1 0), (2, .val (.str [])), (3, vI 0), (4, .lst true kQ 9 l78), (5, .val (.str [])), (35, .ptr 0 1 0), (36, vI jc), (37, vV jo), (38, .ptr 0 1 1), (39, vS jh), (40, .ptr 0 1 2), (41, vI jj), (42, vV jq), (43, .ptr 0 1 3), (44, .val (.agg [.int .i64 jb, .int .i64 jd, .int .i64 ja])), (45, vV jy), (46, .val (.list false [[jo], [CV.str jh], [jq], [jy]]))], [bx 129 [(1, some [vI jc, vS jh, vI jj, vI jb, vI jd, vI ja, vI jk, vS aequ9, .val (.list jg aleg11)])]], KK⟩)
noncomputable def Qji (lb n : Nat) (jc : Int) (jh : LB) (jj jb jd ja jk : Int) (aequ9 : LB) (jg : Bool) (aleg11 : LL) (jo jq jy : CV) (yi : Bool) (yB : LL) : Option CV :=
 hold (E0 lb n 0 990 (sub (B QaQ) [1, 1, 1, 1, 1, 1, 1, 1, 1, 1]) (retK Tryz.prog (R QaQ) 0 (outK (Qad Tryz.prog QaQ))) ⟨fr 129 [(0, .val (.agg [.int .i64 jc, .str jh, .int .i64 jj, .int .i64 jb, .int .i64 jd, .int .i64 ja, .int .i64 jk, .str aequ9, .list jg aleg11])), (1, .ptr 0 1 0), (2, .val (.str [])), (3, vI 0), (4, .lst true yi 9 yB), (5, .val (.str [])), (35, .ptr 0 1 0), (36, vI jc), (37, vV jo), (38, .ptr 0 1 1), (39, vS jh), (40, .ptr 0 1 2), (41, vI jj), (42, vV jq), (43, .ptr 0 1 3), (44, .val (.agg [.int .i64 jb, .int .i64 jd, .int .i64 ja])), (45, vV jy), (46, .val (.list false [[jo], [CV.str jh], [jq], [jy]]))], [bx 129 [(1, some [vI jc, vS jh, vI jj, vI jb, vI jd, vI ja, vI jk, vS aequ9, .val (.list jg aleg11)])]], KK⟩)
theorem Qgh (lb n : Nat) (jc : Int) (jh : LB) (jj jb jd ja jk : Int) (aequ9 : LB) (jg : Bool) (aleg11 : LL) (jo jq jy : CV) (yi : Bool) (yB : LL) :
 Qji lb n jc jh jj jb jd ja jk aequ9 jg aleg11 jo jq jy yi yB =
 bif (jc != 3) then
 (bif (jk != 0) then
 (some (.tup [.str [], .int .i64 2]))
 else
 (bif (jc != 4) then
 (bif (!(aequ9 == [])) then
 (some (.tup [.str [], .int .i64 2]))
 else
 (optO (C lb n QaG [.int .i64 jc]) fun pV =>
 optO (CV.asB pV) fun mW =>
 bif (!mW) then
 (bif (decide ((aleg11.length : Int) > 0)) then
 (some (.tup [.str [], .int .i64 2]))
 else
 (optO (C lb n QaG [.int .i64 jc]) fun vJ =>
 optO (CV.asB vJ) fun nQ =>
 bif nQ then
 (some (.tup [.str [], .int .i64 0]))
 else
 (optO (C lb n Qap [.list yi yB]) fun ve =>
 some (.tup [ve, .int .i64 0]))))
 else
 (optO (C lb n QaG [.int .i64 jc]) fun ga =>
 optO (CV.asB ga) fun nY =>
 bif nY then
 (some (.tup [.str [], .int .i64 0]))
 else
 (optO (C lb n Qap [.list yi yB]) fun gx =>
 some (.tup [gx, .int .i64 0])))))
 else
 (optO (C lb n QaG [.int .i64 jc]) fun nJ =>
 optO (CV.asB nJ) fun ne =>
 bif (!ne) then
 (bif (decide ((aleg11.length : Int) > 0)) then
 (some (.tup [.str [], .int .i64 2]))
 else
 (optO (C lb n QaG [.int .i64 jc]) fun ph =>
 optO (CV.asB ph) fun nE =>
 bif nE then
 (some (.tup [.str [], .int .i64 0]))
 else
 (optO (C lb n Qap [.list yi yB]) fun pE =>
 some (.tup [pE, .int .i64 0]))))
 else
 (optO (C lb n QaG [.int .i64 jc]) fun ni =>
 optO (CV.asB ni) fun mT =>
 bif mT then
 (some (.tup [.str [], .int .i64 0]))
 else
 (optO (C lb n Qap [.list yi yB]) fun pp =>
 some (.tup [pp, .int .i64 0]))))))
 else
 (bif (jc != 4) then
 (bif (!(aequ9 == [])) then
 (some (.tup [.str [], .int .i64 2]))
 else
 (optO (C lb n QaG [.int .i64 jc]) fun mY =>
 optO (CV.asB mY) fun np =>
 bif (!np) then
 (bif (decide ((aleg11.length : Int) > 0)) then
 (some (.tup [.str [], .int .i64 2]))
 else
 (optO (C lb n QaG [.int .i64 jc]) fun me =>
 optO (CV.asB me) fun mL =>
 bif mL then
 (some (.tup [.str [], .int .i64 0]))
 else
 (optO (C lb n Qap [.list yi yB]) fun oc =>
 some (.tup [oc, .int .i64 0]))))
 else
 (optO (C lb n QaG [.int .i64 jc]) fun yK =>
 optO (CV.asB yK) fun mA =>
 bif mA then
 (some (.tup [.str [], .int .i64 0]))
 else
 (optO (C lb n Qap [.list yi yB]) fun mO =>
 some (.tup [mO, .int .i64 0])))))
 else
 (optO (C lb n QaG [.int .i64 jc]) fun gV =>
 optO (CV.asB gV) fun my =>
 bif (!my) then
 (bif (decide ((aleg11.length : Int) > 0)) then
 (some (.tup [.str [], .int .i64 2]))
 else
 (optO (C lb n QaG [.int .i64 jc]) fun mI =>
 optO (CV.asB mI) fun mj =>
 bif mj then
 (some (.tup [.str [], .int .i64 0]))
 else
 (optO (C lb n Qap [.list yi yB]) fun mK =>
 some (.tup [mK, .int .i64 0]))))
 else
 (optO (C lb n QaG [.int .i64 jc]) fun mH =>
 optO (CV.asB mH) fun mG =>
 bif mG then
 (some (.tup [.str [], .int .i64 0]))
 else
 (optO (C lb n Qap [.list yi yB]) fun mC =>
 some (.tup [mC, .int .i64 0]))))) := (Qab _).trans (by kernel_rfl)
theorem Qgz (lb n : Nat) (jc : Int) (jh : LB) (jj jb jd ja jk : Int) (aequ9 : LB) (jg : Bool) (aleg11 : LL) (jo jq jy : CV) (kQ : Bool) (l78 : LL) :
 Qi3 lb n jc jh jj jb jd ja jk aequ9 jg aleg11 jo jq jy kQ l78 =
 bif (jc == 3) then
 (optO (C lb n QaR [.int .i64 jk]) fun ot =>
 chkO (CV.isCell ot) (
 chkO (room (l78.length + 1) 16) (
 Qji lb n jc jh jj jb jd ja jk aequ9 jg aleg11 jo jq jy (kQ && false) (l78 ++ [[ot]]))))
 else
 (Qji lb n jc jh jj jb jd ja jk aequ9 jg aleg11 jo jq jy kQ l78) := (Qab _).trans (by kernel_rfl)
theorem Qp5 (lb n : Nat) (jc : Int) (jh : LB) (jj jb jd ja jk : Int) (aequ9 : LB) (jg : Bool) (aleg11 : LL) (jo jq jy : CV) :
 QiI lb n jc jh jj jb jd ja jk aequ9 jg aleg11 jo jq jy =
 bif (jc == 4) then
 (optO (C lb n Qbb [.str aequ9, .int .i64 3, .int .i64 3]) fun gd =>
 optO (CV.asB gd) fun nj =>
 bif (!nj) then
 (some (.tup [.str [], .int .i64 5]))
 else
 (Qi3 lb n jc jh jj jb jd ja jk aequ9 jg aleg11 jo jq jy false [[jo], [CV.str jh], [jq], [jy], [CV.str aequ9]]))
 else
 (Qi3 lb n jc jh jj jb jd ja jk aequ9 jg aleg11 jo jq jy false [[jo], [CV.str jh], [jq], [jy]]) := (Qab _).trans (by kernel_rfl)
theorem Qdq (lb n : Nat) (jc : Int) (jh : LB) (jj jb jd ja jk : Int) (aequ9 : LB) (jg : Bool) (aleg11 : LL) :
 top lb n QaQ [.agg [.int .i64 jc, .str jh, .int .i64 jj, .int .i64 jb, .int .i64 jd, .int .i64 ja, .int .i64 jk, .str aequ9, .list jg aleg11]] =
 bif (decide (jc < 1)) then
 (some (.tup [.str [], .int .i64 8]))
 else
 (bif (decide (jc > 5)) then
 (some (.tup [.str [], .int .i64 8]))
 else
 (optO (C lb n QfQ [.str jh]) fun jC =>
 optO (CV.asB jC) fun j9 =>
 bif (!j9) then
 (some (.tup [.str [], .int .i64 5]))
 else
 (bif (decide (jj < 1)) then
 (some (.tup [.str [], .int .i64 2]))
 else
 (bif (decide (jj > 9999)) then
 (some (.tup [.str [], .int .i64 2]))
 else
 (optO (C lb n Qcf [.agg [.int .i64 jb, .int .i64 jd, .int .i64 ja]]) fun jG =>
 optO (CV.asI .i64 jG) fun i15 =>
 bif (i15 != 0) then
 (optO (C lb n Qcf [.agg [.int .i64 jb, .int .i64 jd, .int .i64 ja]]) fun wg =>
 some (.tup [.str [], wg]))
 else
 (optO (C lb n Qdg [.int .i64 jc]) fun jo =>
 optO (C lb n QaR [.int .i64 jj]) fun jq =>
 optO (C lb n QbD [.agg [.int .i64 jb, .int .i64 jd, .int .i64 ja]]) fun jy =>
 chkO (CV.isCell jo) (
 chkO (CV.isCell jq) (
 chkO (CV.isCell jy) (
 optO (C lb n QaG [.int .i64 jc]) fun oV =>
 optO (CV.asB oV) fun yF =>
 bif yF then
 (optO (C lb n Qbh [.agg [.str jh, .int .i64 jj, .int .i64 jb, .int .i64 jd, .int .i64 ja, .list jg aleg11]]) fun wp =>
 optO (CV.asT wp) fun ku =>
 optO (ku[0]?) fun wc =>
 optO (CV.asT wp) fun go =>
 optO (go[1]?) fun jZ =>
 optO (CV.asI .i64 jZ) fun j3 =>
 bif (j3 != 0) then
 (some (.tup [.str [], jZ]))
 else
 (optO (CV.asS jo) fun s29 =>
 chkO (decide (s29.length + [32].length ≤ 9223372036854775807)) (
 optO (CV.asS wc) fun s30 =>
 chkO (decide ((s29 ++ [32]).length + s30.length ≤ 9223372036854775807)) (
 QiJ lb n jc jh jj jb jd ja jk aequ9 jg aleg11 jo jq jy ((s29 ++ [32]) ++ s30) wc jZ))))
 else
 (QiI lb n jc jh jj jb jd ja jk aequ9 jg aleg11 jo jq jy )))))))))) := by kernel_rfl
noncomputable def Qmi (lb n : Nat) (a1 : LB) (x4 r2 x6 : CV) (c17 : List CV) (jO jq v37 yM yH yq yy yz yA yt yX v46 yQ yT yW yV : CV) : Option CV :=
 hold (E0 lb n 0 994 (sub (B Qa0) [1, 1, 1, 1, 1, 1]) (retK Tryz.prog (R Qa0) 0 (outK (Qad Tryz.prog Qa0))) ⟨fr 74 [(0, vS a1), (2, .ptr 0 2 0), (3, vI 0), (4, vV x4), (5, vV v37), (6, .ptr 0 6 0), (8, vV yM), (9, vV r2), (10, vS a1), (11, vV r2), (12, vV x4), (13, vV x6), (29, vV x4), (30, .cptr c17 0), (31, vV jO), (32, vV jq), (33, .val (.agg [jq, .str [], .int .i64 0, .int .i64 0, .int .i64 0, .int .i64 0, .int .i64 0, .str [], .list true []]))], [bx 74 [(2, some [vI 0, .val (.str []), vI 0, vI 0, vI 0, vI 0, vI 0, .val (.str []), .lst true true 94 []]), (6, some [.val jq, .val yH, .val yq, .val yy, .val yz, .val yA, vI 0, .val (.str []), .val yt]), (7, some [.val yX, .val v46, .val yQ, .val yT, .val yW, .val yV])]], KK⟩)
noncomputable def QiP (lb n : Nat) (a1 : LB) (x4 yM r2 x6 : CV) (c17 : List CV) (jO jq yH yq yy yz yA yt yX v46 yQ yT yW yV kA : CV) : Option CV :=
 hold (E0 lb n 0 993 (sub (B Qa0) [1, 1, 1, 1, 1, 1, 1]) (retK Tryz.prog (R Qa0) 0 (outK (Qad Tryz.prog Qa0))) ⟨fr 74 [(0, vS a1), (2, .ptr 0 2 0), (3, vI 0), (4, vV x4), (5, vV kA), (6, .ptr 0 6 0), (8, vV yM), (9, vV r2), (10, vS a1), (11, vV r2), (12, vV x4), (13, vV x6), (29, vV x4), (30, .cptr c17 0), (31, vV jO), (32, vV jq), (33, .val (.agg [jq, .str [], .int .i64 0, .int .i64 0, .int .i64 0, .int .i64 0, .int .i64 0, .str [], .list true []]))], [bx 74 [(2, some [vI 0, .val (.str []), vI 0, vI 0, vI 0, vI 0, vI 0, .val (.str []), .lst true true 94 []]), (6, some [.val jq, .val yH, .val yq, .val yy, .val yz, .val yA, vI 0, .val (.str []), .val yt]), (7, some [.val yX, .val v46, .val yQ, .val yT, .val yW, .val yV])]], KK⟩)
theorem QgE (lb n : Nat) (a1 : LB) (x4 yM r2 x6 : CV) (c17 : List CV) (jO jq yH yq yy yz yA yt yX v46 yQ yT yW yV kA : CV) :
 QiP lb n a1 x4 yM r2 x6 c17 jO jq yH yq yy yz yA yt yX v46 yQ yT yW yV kA =
 optO (CV.asI .i64 kA) fun nG =>
 bif (nG != 0) then
 (some (.tup [.agg [.int .i64 0, .str [], .int .i64 0, .int .i64 0, .int .i64 0, .int .i64 0, .int .i64 0, .str [], .list true []], kA]))
 else
 (some (.tup [.agg [jq, yH, yq, yy, yz, yA, .int .i64 0, .str [], yt], .int .i64 0])) := (Qab _).trans (by kernel_rfl)
theorem Qj3 (lb n : Nat) (a1 : LB) (x4 r2 x6 : CV) (c17 : List CV) (jO jq v37 yM yH yq yy yz yA yt yX v46 yQ yT yW yV : CV) :
 Qmi lb n a1 x4 r2 x6 c17 jO jq v37 yM yH yq yy yz yA yt yX v46 yQ yT yW yV =
 optO (CV.asI .i64 v37) fun i51 =>
 bif (i51 == 0) then
 (optO (C lb n QaQ [.agg [jq, yH, yq, yy, yz, yA, .int .i64 0, .str [], yt]]) fun vG =>
 optO (CV.asT vG) fun t53 =>
 optO (t53[0]?) fun w4 =>
 optO (CV.asT vG) fun pU =>
 optO (pU[1]?) fun wW =>
 QiP lb n a1 x4 yM r2 x6 c17 jO jq yH yq yy yz yA yt yX v46 yQ yT yW yV wW)
 else
 (QiP lb n a1 x4 yM r2 x6 c17 jO jq yH yq yy yz yA yt yX v46 yQ yT yW yV v37) := (Qab _).trans (by kernel_rfl)
noncomputable def QiY (lb n : Nat) (a1 : LB) (x4 r2 x6 : CV) (c17 : List CV) (jO jq v75 v76 ye yx yw v80 yr yE yG yD : CV) : Option CV :=
 hold (E0 lb n 0 994 (sub (B Qa0) [1, 1, 1, 1, 1, 1]) (retK Tryz.prog (R Qa0) 0 (outK (Qad Tryz.prog Qa0))) ⟨fr 74 [(0, vS a1), (2, .ptr 0 2 0), (3, vI 0), (4, vV x4), (5, vV v75), (6, .ptr 0 6 0), (9, vV r2), (10, vS a1), (11, vV r2), (12, vV x4), (13, vV x6), (29, vV x4), (30, .cptr c17 0), (31, vV jO), (32, vV jq), (33, .val (.agg [jq, .str [], .int .i64 0, .int .i64 0, .int .i64 0, .int .i64 0, .int .i64 0, .str [], .list true []]))], [bx 74 [(2, some [vI 0, .val (.str []), vI 0, vI 0, vI 0, vI 0, vI 0, .val (.str []), .lst true true 94 []]), (6, some [.val v76, .val ye, .val yx, .val yw, .val v80, .val yr, .val yE, .val yG, .val yD])]], KK⟩)
noncomputable def Qi4 (lb n : Nat) (a1 : LB) (x4 r2 x6 : CV) (c17 : List CV) (jO jq v76 ye yx yw v80 yr yE yG yD ki : CV) : Option CV :=
 hold (E0 lb n 0 993 (sub (B Qa0) [1, 1, 1, 1, 1, 1, 1]) (retK Tryz.prog (R Qa0) 0 (outK (Qad Tryz.prog Qa0))) ⟨fr 74 [(0, vS a1), (2, .ptr 0 2 0), (3, vI 0), (4, vV x4), (5, vV ki), (6, .ptr 0 6 0), (9, vV r2), (10, vS a1), (11, vV r2), (12, vV x4), (13, vV x6), (29, vV x4), (30, .cptr c17 0), (31, vV jO), (32, vV jq), (33, .val (.agg [jq, .str [], .int .i64 0, .int .i64 0, .int .i64 0, .int .i64 0, .int .i64 0, .str [], .list true []]))], [bx 74 [(2, some [vI 0, .val (.str []), vI 0, vI 0, vI 0, vI 0, vI 0, .val (.str []), .lst true true 94 []]), (6, some [.val v76, .val ye, .val yx, .val yw, .val v80, .val yr, .val yE, .val yG, .val yD])]], KK⟩)
theorem QgH (lb n : Nat) (a1 : LB) (x4 r2 x6 : CV) (c17 : List CV) (jO jq v76 ye yx yw v80 yr yE yG yD ki : CV) :
 Qi4 lb n a1 x4 r2 x6 c17 jO jq v76 ye yx yw v80 yr yE yG yD ki =
 optO (CV.asI .i64 ki) fun na =>
 bif (na != 0) then
 (some (.tup [.agg [.int .i64 0, .str [], .int .i64 0, .int .i64 0, .int .i64 0, .int .i64 0, .int .i64 0, .str [], .list true []], ki]))
 else
 (some (.tup [.agg [v76, ye, yx, yw, v80, yr, yE, yG, yD], .int .i64 0])) := (Qab _).trans (by kernel_rfl)
theorem QjX (lb n : Nat) (a1 : LB) (x4 r2 x6 : CV) (c17 : List CV) (jO jq v75 v76 ye yx yw v80 yr yE yG yD : CV) :
 QiY lb n a1 x4 r2 x6 c17 jO jq v75 v76 ye yx yw v80 yr yE yG yD =
 optO (CV.asI .i64 v75) fun i85 =>
 bif (i85 == 0) then
 (optO (C lb n QaQ [.agg [v76, ye, yx, yw, v80, yr, yE, yG, yD]]) fun ve =>
 optO (CV.asT ve) fun pn =>
 optO (pn[0]?) fun gN =>
 optO (CV.asT ve) fun mV =>
 optO (mV[1]?) fun gk =>
 Qi4 lb n a1 x4 r2 x6 c17 jO jq v76 ye yx yw v80 yr yE yG yD gk)
 else
 (Qi4 lb n a1 x4 r2 x6 c17 jO jq v76 ye yx yw v80 yr yE yG yD v75) := (Qab _).trans (by kernel_rfl)
theorem QdX (lb n : Nat) (a1 : LB) :
 top lb n Qa0 [.str a1] =
 optO (C lb n QbE [.str a1]) fun r2 =>
 optO (CV.asT r2) fun t3 =>
 optO (t3[0]?) fun x4 =>
 optO (CV.asT r2) fun t5 =>
 optO (t5[1]?) fun x6 =>
 optO (CV.asI .i64 x6) fun i7 =>
 bif (i7 != 0) then
 (some (.tup [.agg [.int .i64 0, .str [], .int .i64 0, .int .i64 0, .int .i64 0, .int .i64 0, .int .i64 0, .str [], .list true []], x6]))
 else
 (optO (CV.asL x4) fun p9 =>
 bif ((p9.2.length : Int) == 0) then
 (some (.tup [.agg [.int .i64 0, .str [], .int .i64 0, .int .i64 0, .int .i64 0, .int .i64 0, .int .i64 0, .str [], .list true []], .int .i64 3]))
 else
 (optO (CV.asL x4) fun jW =>
 optO (atL jW.2 0) fun c11 =>
 chkO (c11.length == 1) (
 optO (c11[0]?) fun jD =>
 optO (C lb n Qby [jD]) fun wi =>
 optO (CV.asI .i64 wi) fun wY =>
 bif (wY == 0) then
 (some (.tup [.agg [.int .i64 0, .str [], .int .i64 0, .int .i64 0, .int .i64 0, .int .i64 0, .int .i64 0, .str [], .list true []], .int .i64 3]))
 else
 (optO (CV.asL x4) fun po =>
 optO (atL po.2 0) fun c17 =>
 chkO (c17.length == 1) (
 optO (c17[0]?) fun jO =>
 optO (C lb n Qby [jO]) fun jq =>
 chkO (CV.isCell jq) (
 optO (C lb n QaG [jq]) fun jy =>
 optO (CV.asB jy) fun y8 =>
 bif y8 then
 (optO (CV.asL x4) fun kW =>
 chkO (kW.2.all (·.length == 1)) (
 chkO (decide ((0 : Int) ≤ 1 ∧ 1 ≤ (kW.2.length : Int))) (
 optO (C lb n Qap [.list kW.1 ((kW.2.take ((kW.2.length : Int).toNat)).drop 1)]) fun wp =>
 optO (C lb n Qb3 [wp]) fun j8 =>
 optO (CV.asT j8) fun kh =>
 optO (kh[0]?) fun jQ =>
 optO (CV.asT j8) fun vf =>
 optO (vf[1]?) fun jX =>
 optO (CV.asA jQ) fun c29 =>
 chkO (c29.length == 6) (
 optO (c29[0]?) fun jI =>
 optO (c29[1]?) fun jH =>
 optO (c29[2]?) fun jN =>
 optO (c29[3]?) fun wx =>
 optO (c29[4]?) fun jR =>
 optO (c29[5]?) fun jS =>
 chkO (CV.isCell jI) (
 chkO (CV.isCell jH) (
 chkO (CV.isCell jS) (
 Qmi lb n a1 x4 r2 x6 c17 jO jq jX jX jI jH jN wx jR jS jI jH jN wx jR jS)))))))
 else
 (optO (C lb n QcH [x4]) fun vY =>
 optO (CV.asT vY) fun nT =>
 optO (nT[0]?) fun vj =>
 optO (CV.asT vY) fun pS =>
 optO (pS[1]?) fun gB =>
 optO (CV.asA vj) fun c65 =>
 chkO (c65.length == 9) (
 optO (c65[0]?) fun o6 =>
 optO (c65[1]?) fun pq =>
 optO (c65[2]?) fun m5 =>
 optO (c65[3]?) fun pB =>
 optO (c65[4]?) fun pN =>
 optO (c65[5]?) fun oD =>
 optO (c65[6]?) fun nA =>
 optO (c65[7]?) fun ow =>
 optO (c65[8]?) fun pY =>
 QiY lb n a1 x4 r2 x6 c17 jO jq gB o6 pq m5 pB pN oD nA ow pY)))))))) := by kernel_rfl
theorem QtF (lb n : Nat) (jc : Int) (jh : LB) (jj jb jd ja jk : Int) (aequ9 : LB) (jg : Bool) (aleg11 : LL) (kT : Int) (kY : LB) (k8 y7 vt vb kE : Int) (kF : LB) (vO : Bool) (kZ : LL) :
 top lb n Qfj [.agg [.int .i64 jc, .str jh, .int .i64 jj, .int .i64 jb, .int .i64 jd, .int .i64 ja, .int .i64 jk, .str aequ9, .list jg aleg11], .agg [.int .i64 kT, .str kY, .int .i64 k8, .int .i64 y7, .int .i64 vt, .int .i64 vb, .int .i64 kE, .str kF, .list vO kZ]] =
 bif (jc == kT) then
 (bif (jh == kY) then
 (bif (jj == k8) then
 (bif ((jb == y7) && ((jd == vt) && ((ja == vb) && true))) then
 (bif (jk == kE) then
 (bif (aequ9 == kF) then
 (optO (C lb n Qbo [.list jg aleg11, .list vO kZ]) fun wp =>
 some (wp))
 else
 (some (.bool false)))
 else
 (some (.bool false)))
 else
 (some (.bool false)))
 else
 (some (.bool false)))
 else
 (some (.bool false)))
 else
 (some (.bool false)) := by kernel_rfl
noncomputable def Qgx (lb n : Nat) (jc : Int) (jh : LB) (jj jb jd ja jk : Int) (aequ9 : LB) (jg : Bool) (aleg11 : LL) (b12 : LB) (jp js wc jZ jN yd jo wp wU jI wA wu jR jS jM wD wI wX yg wS w6 yc wO wZ wz w4 yf wW jV wR v76 ye : CV) : Option CV :=
 hold (E0 lb n 0 992 (sub (B Qbx) [1, 1, 1, 1, 1, 1, 1, 1]) (retK Tryz.prog (R Qbx) 0 (outK (Qad Tryz.prog Qbx))) ⟨fr 101 [(0, .val (.agg [.int .i64 jc, .str jh, .int .i64 jj, .int .i64 jb, .int .i64 jd, .int .i64 ja, .int .i64 jk, .str aequ9, .list jg aleg11])), (1, vS b12), (2, .ptr 0 2 0), (4, vB false), (5, vV jp), (6, vV js), (7, vV wc), (8, vV jZ), (9, .ptr 0 9 0), (10, vV jN), (11, .ptr 0 11 0), (12, vV yd), (13, vV v76), (14, vV ye), (26, vV jo), (27, .val (.agg [.int .i64 jc, .str jh, .int .i64 jj, .int .i64 jb, .int .i64 jd, .int .i64 ja, .int .i64 jk, .str aequ9, .list jg aleg11])), (28, vV jo), (29, vV jp), (30, vV js), (31, vV wp), (32, .val (.agg [.int .i64 jc, .str jh, .int .i64 jj, .int .i64 jb, .int .i64 jd, .int .i64 ja, .int .i64 jk, .str aequ9, .list jg aleg11])), (33, vV wp), (34, vV wc), (35, vV jZ), (36, vV wU), (37, vS b12), (38, vV wU), (39, vV jI), (40, vV jN), (41, vV wA), (42, vS b12), (43, vV wA), (44, vV wu), (45, vV yd)], [bx 101 [(2, some [vI jc, vS jh, vI jj, vI jb, vI jd, vI ja, vI jk, vS aequ9, .val (.list jg aleg11)]), (9, some [.val jR, .val jS, .val jM, .val wD, .val wI, .val wX, .val yg, .val wS, .val w6]), (11, some [.val yc, .val wO, .val wZ, .val wz, .val w4, .val yf, .val wW, .val jV, .val wR])]], KK⟩)
theorem Qjm (lb n : Nat) (jc : Int) (jh : LB) (jj jb jd ja jk : Int) (aequ9 : LB) (jg : Bool) (aleg11 : LL) (b12 : LB) (jp js wc jZ jN yd jo wp wU jI wA wu jR jS jM wD wI wX yg wS w6 yc wO wZ wz w4 yf wW jV wR v76 ye : CV) :
 Qgx lb n jc jh jj jb jd ja jk aequ9 jg aleg11 b12 jp js wc jZ jN yd jo wp wU jI wA wu jR jS jM wD wI wX yg wS w6 yc wO wZ wz w4 yf wW jV wR v76 ye =
 optO (CV.asI .i64 js) fun mZ =>
 bif (mZ != 0) then
 (optO (CV.asS jp) fun nv =>
 bif (nv == []) then
 (optO (C lb n QcW []) fun nq =>
 some (nq))
 else
 (some (.bool false)))
 else
 (optO (C lb n Qa6 [jp]) fun oi =>
 optO (CV.asT oi) fun pO =>
 optO (pO[0]?) fun ng =>
 optO (CV.asT oi) fun n0 =>
 optO (n0[1]?) fun nX =>
 optO (CV.asA ng) fun c86 =>
 chkO (c86.length == 9) (
 optO (c86[0]?) fun nO =>
 optO (c86[1]?) fun gN =>
 optO (c86[2]?) fun pu =>
 optO (c86[3]?) fun gk =>
 optO (c86[4]?) fun nZ =>
 optO (c86[5]?) fun nx =>
 optO (c86[6]?) fun nW =>
 optO (c86[7]?) fun pd =>
 optO (c86[8]?) fun pw =>
 optO (C lb n Qfj [.agg [nO, gN, pu, gk, nZ, nx, nW, pd, pw], .agg [.int .i64 jc, .str jh, .int .i64 jj, .int .i64 jb, .int .i64 jd, .int .i64 ja, .int .i64 jk, .str aequ9, .list jg aleg11]]) fun n8 =>
 optO (CV.asB n8) fun pM =>
 bif pM then
 (optO (CV.asI .i64 nX) fun nI =>
 bif (nI == 0) then
 (optO (C lb n QcW []) fun nC =>
 some (nC))
 else
 (some (.bool false)))
 else
 (some (.bool false)))) := (Qab _).trans (by kernel_rfl)
noncomputable def Qgy (lb n : Nat) (jc : Int) (jh : LB) (jj jb jd ja jk : Int) (aequ9 : LB) (jg : Bool) (aleg11 : LL) (b12 : LB) (jp js wc jZ jN yd jo wp wU jI wA wu jR jS jM wD wI wX yg wS w6 yc wO wZ wz w4 yf wW jV wR : CV) : Option CV :=
 hold (E0 lb n 0 992 (sub (B Qbx) [1, 1, 1, 1, 1, 1, 1, 1]) (retK Tryz.prog (R Qbx) 0 (outK (Qad Tryz.prog Qbx))) ⟨fr 101 [(0, .val (.agg [.int .i64 jc, .str jh, .int .i64 jj, .int .i64 jb, .int .i64 jd, .int .i64 ja, .int .i64 jk, .str aequ9, .list jg aleg11])), (1, vS b12), (2, .ptr 0 2 0), (4, vB false), (5, vV jp), (6, vV js), (7, vV wc), (8, vV jZ), (9, .ptr 0 9 0), (10, vV jN), (11, .ptr 0 11 0), (12, vV yd), (26, vV jo), (27, .val (.agg [.int .i64 jc, .str jh, .int .i64 jj, .int .i64 jb, .int .i64 jd, .int .i64 ja, .int .i64 jk, .str aequ9, .list jg aleg11])), (28, vV jo), (29, vV jp), (30, vV js), (31, vV wp), (32, .val (.agg [.int .i64 jc, .str jh, .int .i64 jj, .int .i64 jb, .int .i64 jd, .int .i64 ja, .int .i64 jk, .str aequ9, .list jg aleg11])), (33, vV wp), (34, vV wc), (35, vV jZ), (36, vV wU), (37, vS b12), (38, vV wU), (39, vV jI), (40, vV jN), (41, vV wA), (42, vS b12), (43, vV wA), (44, vV wu), (45, vV yd)], [bx 101 [(2, some [vI jc, vS jh, vI jj, vI jb, vI jd, vI ja, vI jk, vS aequ9, .val (.list jg aleg11)]), (9, some [.val jR, .val jS, .val jM, .val wD, .val wI, .val wX, .val yg, .val wS, .val w6]), (11, some [.val yc, .val wO, .val wZ, .val wz, .val w4, .val yf, .val wW, .val jV, .val wR])]], KK⟩)
theorem Qjl (lb n : Nat) (jc : Int) (jh : LB) (jj jb jd ja jk : Int) (aequ9 : LB) (jg : Bool) (aleg11 : LL) (b12 : LB) (jp js wc jZ jN yd jo wp wU jI wA wu jR jS jM wD wI wX yg wS w6 yc wO wZ wz w4 yf wW jV wR : CV) :
 Qgy lb n jc jh jj jb jd ja jk aequ9 jg aleg11 b12 jp js wc jZ jN yd jo wp wU jI wA wu jR jS jM wD wI wX yg wS w6 yc wO wZ wz w4 yf wW jV wR =
 optO (CV.asI .i64 js) fun mh =>
 bif (mh != 0) then
 (optO (CV.asS jp) fun gX =>
 bif (gX == []) then
 (optO (C lb n QcW []) fun oc =>
 some (oc))
 else
 (some (.bool false)))
 else
 (optO (C lb n Qa6 [jp]) fun yK =>
 optO (CV.asT yK) fun oe =>
 optO (oe[0]?) fun v8 =>
 optO (CV.asT yK) fun oa =>
 optO (oa[1]?) fun ka =>
 optO (CV.asA v8) fun c108 =>
 chkO (c108.length == 9) (
 optO (c108[0]?) fun ma =>
 optO (c108[1]?) fun mb =>
 optO (c108[2]?) fun y0 =>
 optO (c108[3]?) fun mf =>
 optO (c108[4]?) fun g8 =>
 optO (c108[5]?) fun yL =>
 optO (c108[6]?) fun ml =>
 optO (c108[7]?) fun kd =>
 optO (c108[8]?) fun od =>
 optO (C lb n Qfj [.agg [ma, mb, y0, mf, g8, yL, ml, kd, od], .agg [.int .i64 jc, .str jh, .int .i64 jj, .int .i64 jb, .int .i64 jd, .int .i64 ja, .int .i64 jk, .str aequ9, .list jg aleg11]]) fun v7 =>
 optO (CV.asB v7) fun mE =>
 bif mE then
 (optO (CV.asI .i64 ka) fun mJ =>
 bif (mJ == 0) then
 (optO (C lb n QcW []) fun mc =>
 some (mc))
 else
 (some (.bool false)))
 else
 (some (.bool false)))) := (Qab _).trans (by kernel_rfl)
theorem Qei (lb n : Nat) (jc : Int) (jh : LB) (jj jb jd ja jk : Int) (aequ9 : LB) (jg : Bool) (aleg11 : LL) (b12 : LB) :
 top lb n Qbx [.agg [.int .i64 jc, .str jh, .int .i64 jj, .int .i64 jb, .int .i64 jd, .int .i64 ja, .int .i64 jk, .str aequ9, .list jg aleg11], .str b12] =
 optO (C lb n Qj9 [.agg [.int .i64 jc, .str jh, .int .i64 jj, .int .i64 jb, .int .i64 jd, .int .i64 ja, .int .i64 jk, .str aequ9, .list jg aleg11]]) fun wi =>
 optO (CV.asB wi) fun yJ =>
 bif (!yJ) then
 (optO (C lb n QcW []) fun w5 =>
 some (w5))
 else
 (bif (decide ((b12.length : Int) > 400)) then
 (optO (C lb n QcW []) fun wg =>
 some (wg))
 else
 (optO (C lb n Qa7 [.agg [.int .i64 jc, .str jh, .int .i64 jj, .int .i64 jb, .int .i64 jd, .int .i64 ja, .int .i64 jk, .str aequ9, .list jg aleg11]]) fun jo =>
 optO (CV.asT jo) fun yj =>
 optO (yj[0]?) fun jp =>
 optO (CV.asT jo) fun t21 =>
 optO (t21[1]?) fun js =>
 optO (C lb n QaQ [.agg [.int .i64 jc, .str jh, .int .i64 jj, .int .i64 jb, .int .i64 jd, .int .i64 ja, .int .i64 jk, .str aequ9, .list jg aleg11]]) fun wp =>
 optO (CV.asT wp) fun ku =>
 optO (ku[0]?) fun wc =>
 optO (CV.asT wp) fun go =>
 optO (go[1]?) fun jZ =>
 optO (C lb n Qa6 [.str b12]) fun wU =>
 optO (CV.asT wU) fun kD =>
 optO (kD[0]?) fun jI =>
 optO (CV.asT wU) fun t31 =>
 optO (t31[1]?) fun jN =>
 optO (CV.asA jI) fun c34 =>
 chkO (c34.length == 9) (
 optO (c34[0]?) fun jR =>
 optO (c34[1]?) fun jS =>
 optO (c34[2]?) fun jM =>
 optO (c34[3]?) fun wD =>
 optO (c34[4]?) fun wI =>
 optO (c34[5]?) fun wX =>
 optO (c34[6]?) fun yg =>
 optO (c34[7]?) fun wS =>
 optO (c34[8]?) fun w6 =>
 optO (C lb n Qa0 [.str b12]) fun wA =>
 optO (CV.asT wA) fun kH =>
 optO (kH[0]?) fun wu =>
 optO (CV.asT wA) fun gw =>
 optO (gw[1]?) fun yd =>
 optO (CV.asA wu) fun c49 =>
 chkO (c49.length == 9) (
 optO (c49[0]?) fun yc =>
 optO (c49[1]?) fun wO =>
 optO (c49[2]?) fun wZ =>
 optO (c49[3]?) fun wz =>
 optO (c49[4]?) fun w4 =>
 optO (c49[5]?) fun yf =>
 optO (c49[6]?) fun wW =>
 optO (c49[7]?) fun jV =>
 optO (c49[8]?) fun wR =>
 optO (CV.asS jp) fun m6 =>
 optO (CV.asS wc) fun m9 =>
 bif (!(m6 == m9)) then
 (some (.bool false))
 else
 (optO (CV.asI .i64 js) fun va =>
 optO (CV.asI .i64 jZ) fun gm =>
 bif (va != gm) then
 (some (.bool false))
 else
 (optO (C lb n Qfj [.agg [jR, jS, jM, wD, wI, wX, yg, wS, w6], .agg [yc, wO, wZ, wz, w4, yf, wW, jV, wR]]) fun vu =>
 optO (CV.asB vu) fun vw =>
 bif (!vw) then
 (some (.bool false))
 else
 (optO (CV.asI .i64 jN) fun yI =>
 optO (CV.asI .i64 yd) fun wK =>
 bif (yI != wK) then
 (some (.bool false))
 else
 (optO (CV.asI .i64 jN) fun i68 =>
 bif (i68 == 0) then
 (optO (C lb n Qa7 [.agg [jR, jS, jM, wD, wI, wX, yg, wS, w6]]) fun vU =>
 optO (CV.asT vU) fun t70 =>
 optO (t70[0]?) fun oD =>
 optO (CV.asT vU) fun t72 =>
 optO (t72[1]?) fun ow =>
 optO (CV.asS oD) fun nm =>
 bif (!(nm == b12)) then
 (some (.bool false))
 else
 (optO (CV.asI .i64 ow) fun i75 =>
 bif (i75 != 0) then
 (some (.bool false))
 else
 (Qgx lb n jc jh jj jb jd ja jk aequ9 jg aleg11 b12 jp js wc jZ jN yd jo wp wU jI wA wu jR jS jM wD wI wX yg wS w6 yc wO wZ wz w4 yf wW jV wR oD ow)))
 else
 (Qgy lb n jc jh jj jb jd ja jk aequ9 jg aleg11 b12 jp js wc jZ jN yd jo wp wU jI wA wu jR jS jM wD wI wX yg wS w6 yc wO wZ wz w4 yf wW jV wR ))))))))) := by kernel_rfl
end Go.Proofs
