/- Equations of functions, printed by program. Conditions: none. -/
import Derived.Test.YtigmcfhmpcajlaaGreatDoorEv
namespace Go.Proofs
open Go.Am
set_option maxRecDepth 100000
set_option linter.unusedVariables false
noncomputable def booking_Parse_L1 :=
 fun lb n (vA : Nat) og w7 vz (yZ : Bool) (yU : LL) vw (vb : Bool) (yT : LL) (y2 : Bool) (yV : LL) vD v164 =>
 hold (Qaw (E0 lb n 0 992) 0 (Qah (sub (B QaM) [1,1,1,1,0,1,0,0]) ++ [7,8,9,10]) [] (sub (B QaM) [1,1,1,1,0,1,0,0]) (Qap 0 (seqK (E0 lb n 0 995) (sub (B QaM) [1,1,1,1,0]) (sub (B QaM) [1,1,1,1,1]) (retK Tryz.prog (R QaM) 0 (outK (Qad Tryz.prog QaM))))) vA ⟨fr 56 [(0,vV og),(2, .ptr 0 2 0),(3,vI 0),(4,vI 0),(5, .ptr 0 5 0),(6,vI w7)],[bx 56 [(2,some [.val (.str []), .lst true true 89 [],vI 0, .lst true true 39 [], .lst true true 70 [],vI 0]),(5,some [.val vz, .lst true yZ 89 yU, .val vw, .lst true vb 39 yT, .lst true y2 70 yV, .val vD, .val v164])]],KK⟩)
noncomputable def Qgn (lb n : Nat) (ne : CV) (ng : Int) (oK : CV) (o9 : Bool) (oM : LL) (oC : CV) (oE : Bool) (oX : LL) (oS : Bool) (oT : LL) (oG mQ : CV) : Option CV :=
 hold (E0 lb n 0 995 (sub (B QaM) [1,1,1,1,1]) (retK Tryz.prog (R QaM) 0 (outK (Qad Tryz.prog QaM))) ⟨fr 56 [(0,vV ne),(2, .ptr 0 2 0),(3,vI 0),(4,vI 0),(5, .ptr 0 5 0),(6,vI ng)],[bx 56 [(2,some [.val (.str []), .lst true true 89 [],vI 0, .lst true true 39 [], .lst true true 70 [],vI 0]),(5,some [.val oK, .lst true o9 89 oM, .val oC, .lst true oE 39 oX, .lst true oS 70 oT, .val oG, .val mQ])]],KK⟩)
theorem Qhu (lb n : Nat) (ne : CV) (ng : Int) (oK : CV) (o9 : Bool) (oM : LL) (oC : CV) (oE : Bool) (oX : LL) (oS : Bool) (oT : LL) (oG mQ : CV) :
 Qgn lb n ne ng oK o9 oM oC oE oX oS oT oG mQ =
 optO (C lb n Qaa [.agg [oK, .list o9 oM,oC, .list oE oX, .list oS oT,oG]]) fun ph =>
 optO (CV.asL ph) fun zp =>
 bif (decide ((zp.2.length : Int) > 0)) then
 (optO (CV.asL ph) fun lT =>
 optO (atL lT.2 0) fun qr =>
 chkO (qr.length == 2) (
 optO (qr[0]?) fun zn =>
 some (.tup [.agg [.str [], .list true [], .int .i64 0, .list true [], .list true [], .int .i64 0], .int .i64 0,zn])))
 else
 (some (.tup [.agg [oK, .list o9 oM,oC, .list oE oX, .list oS oT,oG], .int .i64 0, .int .i64 0])) := (Qab _).trans (by kernel_rfl)
theorem Qal (lb n vA : Nat) (og : CV) (w7 : Int) (vz : CV) (yZ : Bool) (yU : LL) (vw : CV) (vb : Bool) (yT : LL) (y2 : Bool) (yV : LL) (vD v164 : CV) :
 booking_Parse_L1 lb n (vA + 1) og w7 vz yZ yU vw vb yT y2 yV vD v164 =
 optO (CV.asS og) fun zw =>
 bif (!(zw == [])) then
 (optO (C lb n QbM [og, .str [10]]) fun nx =>
 optO (CV.asT nx) fun zk =>
 optO (zk[0]?) fun oA =>
 optO (CV.asT nx) fun lE =>
 optO (lE[1]?) fun kH =>
 optO (CV.asT nx) fun lV =>
 optO (lV[2]?) fun sE =>
 optO (CV.asB sE) fun s7 =>
 bif (!s7) then
 (some (.tup [.agg [.str [], .list true [], .int .i64 0, .list true [], .list true [], .int .i64 0], .int .i64 w7, .int .i64 3]))
 else
 (optO (C lb n Qa4 [oA]) fun qt =>
 optO (CV.asT qt) fun lI =>
 optO (lI[0]?) fun vR =>
 optO (CV.asT qt) fun lY =>
 optO (lY[1]?) fun mY =>
 optO (CV.asI .i64 mY) fun zG =>
 bif (zG != 0) then
 (optO (CV.asI .i64 mY) fun lM =>
 bif (lM != 0) then
 (some (.tup [.agg [.str [], .list true [], .int .i64 0, .list true [], .list true [], .int .i64 0], .int .i64 w7,mY]))
 else
 (booking_Parse_L1 lb n vA  kH (IntKind.wrap .i64 (w7 + 1)) vz yZ yU vw vb yT y2 yV vD v164))
 else
 (optO (CV.asL vR) fun ls =>
 bif ((ls.2.length : Int) == 0) then
 (some (.tup [.agg [.str [], .list true [], .int .i64 0, .list true [], .list true [], .int .i64 0], .int .i64 w7, .int .i64 3]))
 else
 (optO (CV.asL vR) fun sR =>
 optO (atL sR.2 0) fun qB =>
 chkO (qB.length == 1) (
 optO (qB[0]?) fun zx =>
 optO (C lb n Qax [.list false [[CV.str [98,111,111,107,105,110,103]],[CV.str [112,101,114,115,111,110]],[CV.str [115,101,103]],[CV.str [115,101,114,118,105,99,101]]],zx]) fun yP =>
 optO (CV.asI .i64 yP) fun s5 =>
 bif (decide (s5 < 0)) then
 (some (.tup [.agg [.str [], .list true [], .int .i64 0, .list true [], .list true [], .int .i64 0], .int .i64 w7, .int .i64 3]))
 else
 (optO (CV.asI .i64 yP) fun zA =>
 bif (!((zA == 0) == (w7 == 1))) then
 (some (.tup [.agg [.str [], .list true [], .int .i64 0, .list true [], .list true [], .int .i64 0], .int .i64 w7, .int .i64 3]))
 else
 (optO (CV.asI .i64 yP) fun sV =>
 optO (CV.asI .i64 v164) fun lX =>
 bif (decide (sV < lX)) then
 (some (.tup [.agg [.str [], .list true [], .int .i64 0, .list true [], .list true [], .int .i64 0], .int .i64 w7, .int .i64 3]))
 else
 (chkO (CV.isCell yP) (
 optO (CV.asL vR) fun lO =>
 optO (CV.asN yP) fun zl =>
 optO (atL [[CV.int .i64 4],[CV.int .i64 2],[CV.int .i64 11],[CV.int .i64 4]] zl) fun qL =>
 chkO (qL.length == 1) (
 optO (qL[0]?) fun sY =>
 optO (CV.asI .i64 sY) fun zK =>
 bif ((lO.2.length : Int) != zK) then
 (some (.tup [.agg [.str [], .list true [], .int .i64 0, .list true [], .list true [], .int .i64 0], .int .i64 w7, .int .i64 3]))
 else
 (optO (CV.asI .i64 yP) fun lj =>
 bif (lj == 0) then
 (optO (CV.asL vR) fun oz =>
 chkO (oz.2.all (·.length == 1)) (
 chkO (decide ((0 : Int) ≤ 2 ∧ 2 ≤ (oz.2.length : Int))) (
 optO (C lb n QaR [.list oz.1 ((oz.2.take ((oz.2.length : Int).toNat)).drop 2)]) fun qu =>
 optO (CV.asT qu) fun sU =>
 optO (sU[0]?) fun qv =>
 optO (CV.asT qu) fun lR =>
 optO (lR[1]?) fun zM =>
 optO (CV.asB zM) fun zU =>
 bif (!zU) then
 (some (.tup [.agg [.str [], .list true [], .int .i64 0, .list true [], .list true [], .int .i64 0], .int .i64 w7, .int .i64 3]))
 else
 (optO (CV.asL vR) fun zV =>
 optO (atL zV.2 1) fun pW =>
 chkO (pW.length == 1) (
 optO (pW[0]?) fun nm =>
 optO (CV.asL qv) fun sk =>
 optO (atL sk.2 0) fun pN =>
 chkO (pN.length == 1) (
 optO (pN[0]?) fun mK =>
 optO (CV.asL qv) fun lG =>
 optO (atL lG.2 1) fun qh =>
 chkO (qh.length == 1) (
 optO (qh[0]?) fun nb =>
 chkO (CV.isCell nm) (
 chkO (CV.isCell mK) (
 chkO (CV.isCell nb) (
 optO (C lb n Qcw [.agg [nm, .list yZ yU,nb, .list vb yT, .list y2 yV,mK]]) fun z8 =>
 optO (CV.asS z8) fun ld =>
 optO (CV.asS oA) fun zO =>
 bif (!(ld == zO)) then
 (some (.tup [.agg [.str [], .list true [], .int .i64 0, .list true [], .list true [], .int .i64 0], .int .i64 w7, .int .i64 3]))
 else
 (booking_Parse_L1 lb n vA  kH (IntKind.wrap .i64 (w7 + 1)) nm yZ yU nb vb yT y2 yV mK yP)))))))))))
 else
 (optO (CV.asI .i64 yP) fun zI =>
 bif (zI == 1) then
 (optO (CV.asL vR) fun sB =>
 optO (atL sB.2 1) fun pp =>
 chkO (pp.length == 1) (
 optO (pp[0]?) fun sK =>
 optO (C lb n QeM [sK]) fun qx =>
 optO (CV.asT qx) fun zy =>
 optO (zy[0]?) fun zr =>
 optO (CV.asT qx) fun rk =>
 optO (rk[1]?) fun nw =>
 optO (CV.asA zr) fun gG =>
 chkO (gG.length == 3) (
 optO (gG[0]?) fun pQ =>
 optO (gG[1]?) fun qk =>
 optO (gG[2]?) fun qf =>
 optO (CV.asI .i64 nw) fun sw =>
 bif (sw != 0) then
 (optO (CV.asI .i64 nw) fun l6 =>
 bif (l6 != 0) then
 (some (.tup [.agg [.str [], .list true [], .int .i64 0, .list true [], .list true [], .int .i64 0], .int .i64 w7,nw]))
 else
 (booking_Parse_L1 lb n vA  kH (IntKind.wrap .i64 (w7 + 1)) vz yZ yU vw vb yT y2 yV vD yP))
 else
 (chkO (room (yU.length + 1) 48) (
 optO (C lb n QbJ [.agg [pQ,qk,qf]]) fun ss =>
 optO (CV.asS ss) fun sD =>
 optO (CV.asS oA) fun zq =>
 bif (!(sD == zq)) then
 (some (.tup [.agg [.str [], .list true [], .int .i64 0, .list true [], .list true [], .int .i64 0], .int .i64 w7, .int .i64 3]))
 else
 (booking_Parse_L1 lb n vA  kH (IntKind.wrap .i64 (w7 + 1)) vz (yZ && false) (yU ++ [[pQ,qk,qf]]) vw vb yT y2 yV vD yP))))))
 else
 (optO (CV.asI .i64 yP) fun ll =>
 bif (ll == 2) then
 (optO (C lb n Qdr [vR]) fun pF =>
 optO (CV.asT pF) fun zP =>
 optO (zP[0]?) fun zW =>
 optO (CV.asT pF) fun rh =>
 optO (rh[1]?) fun m7 =>
 optO (CV.asA zW) fun vg =>
 chkO (vg.length == 10) (
 optO (vg[0]?) fun qO =>
 optO (vg[1]?) fun qw =>
 optO (vg[2]?) fun pm =>
 optO (vg[3]?) fun qd =>
 optO (vg[4]?) fun pJ =>
 optO (vg[5]?) fun pB =>
 optO (vg[6]?) fun pD =>
 optO (vg[7]?) fun pK =>
 optO (vg[8]?) fun qq =>
 optO (vg[9]?) fun qD =>
 optO (CV.asI .i64 m7) fun sX =>
 bif (sX != 0) then
 (optO (CV.asI .i64 m7) fun lh =>
 bif (lh != 0) then
 (some (.tup [.agg [.str [], .list true [], .int .i64 0, .list true [], .list true [], .int .i64 0], .int .i64 w7,m7]))
 else
 (booking_Parse_L1 lb n vA  kH (IntKind.wrap .i64 (w7 + 1)) vz yZ yU vw vb yT y2 yV vD yP))
 else
 (chkO (room (yT.length + 1) 112) (
 optO (C lb n Qca [.agg [qO,qw,pm,qd,pJ,pB,pD,pK,qq,qD]]) fun lW =>
 optO (CV.asS lW) fun sM =>
 optO (CV.asS oA) fun sO =>
 bif (!(sM == sO)) then
 (some (.tup [.agg [.str [], .list true [], .int .i64 0, .list true [], .list true [], .int .i64 0], .int .i64 w7, .int .i64 3]))
 else
 (booking_Parse_L1 lb n vA  kH (IntKind.wrap .i64 (w7 + 1)) vz yZ yU vw (vb && false) (yT ++ [[qO,qw,pm,qd,pJ,pB,pD,pK,qq,qD]]) y2 yV vD yP)))))
 else
 (optO (CV.asL vR) fun oY =>
 chkO (oY.2.all (·.length == 1)) (
 chkO (decide ((0 : Int) ≤ 2 ∧ 2 ≤ (oY.2.length : Int))) (
 optO (C lb n QaR [.list oY.1 ((oY.2.take ((oY.2.length : Int).toNat)).drop 2)]) fun pt =>
 optO (CV.asT pt) fun lS =>
 optO (lS[0]?) fun qe =>
 optO (CV.asT pt) fun sx =>
 optO (sx[1]?) fun sy =>
 optO (CV.asB sy) fun lz =>
 bif (!lz) then
 (some (.tup [.agg [.str [], .list true [], .int .i64 0, .list true [], .list true [], .int .i64 0], .int .i64 w7, .int .i64 3]))
 else
 (optO (CV.asL vR) fun lA =>
 optO (atL lA.2 1) fun pj =>
 chkO (pj.length == 1) (
 optO (pj[0]?) fun m8 =>
 optO (CV.asL qe) fun l9 =>
 optO (atL l9.2 0) fun qI =>
 chkO (qI.length == 1) (
 optO (qI[0]?) fun nf =>
 optO (CV.asL qe) fun lJ =>
 optO (atL lJ.2 1) fun pA =>
 chkO (pA.length == 1) (
 optO (pA[0]?) fun mS =>
 chkO (CV.isCell m8) (
 chkO (CV.isCell nf) (
 chkO (CV.isCell mS) (
 chkO (room (yV.length + 1) 32) (
 optO (C lb n QbV [.agg [m8,nf,mS]]) fun lw =>
 optO (CV.asS lw) fun lZ =>
 optO (CV.asS oA) fun re =>
 bif (!(lZ == re)) then
 (some (.tup [.agg [.str [], .list true [], .int .i64 0, .list true [], .list true [], .int .i64 0], .int .i64 w7, .int .i64 3]))
 else
 (booking_Parse_L1 lb n vA  kH (IntKind.wrap .i64 (w7 + 1)) vz yZ yU vw vb yT (y2 && false) (yV ++ [[m8,nf,mS]]) vD yP)))))))))))))))))))))))))
 else
 (Qgn lb n  og w7 vz yZ yU vw vb yT y2 yV vD v164) := (Qab _).trans (by kernel_rfl)
theorem QeA (lb n : Nat) (a1 : LB) :
 top lb n QaM [.str a1] =
 bif (decide ((a1.length : Int) > 65536)) then
 (some (.tup [.agg [.str [], .list true [], .int .i64 0, .list true [], .list true [], .int .i64 0], .int .i64 0, .int .i64 4]))
 else
 (bif (a1 == []) then
 (some (.tup [.agg [.str [], .list true [], .int .i64 0, .list true [], .list true [], .int .i64 0], .int .i64 1, .int .i64 3]))
 else
 (booking_Parse_L1 lb n n  (.str a1) 1 (.str []) true [] (.int .i64 0) true [] true [] (.int .i64 0) (.int .i64 0))) := by kernel_rfl
end Go.Proofs
