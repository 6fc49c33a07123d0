/- Equations of functions, printed by program. Conditions: none. -/
import Derived.Test.YtbdclhadjcfadaaGreatDoorEv
namespace Go.Proofs
open Go.Am
set_option maxRecDepth 100000
set_option linter.unusedVariables false
noncomputable def cond_write_J1 :=
 fun lb n jf (jg:Bool) (jh:LL) ji jj ja jc jb (jd:Bool) (je:LL) j9 yC gL oC yN yY =>
 hold (E0 lb n 0 997 (sub (B Qaj) [1,1,1]) (retK Tryz.prog (R Qaj) 0 (outK (Qag Tryz.prog Qaj))) ⟨fr 100 [(0, .val (.agg [.int .i64 jf, .list jg jh, .int .i64 ji, .int .i64 jj, .int .i64 ja, .int .i64 jc, .int .i64 jb, .list jd je])),(1, .ptr 0 1 0),(2, .val (.str [])),(3, .ptr 0 3 0),(7, .ptr 0 1 0),(8,vI jf),(9, .val (.agg [.str [97,108,108], .int .i64 0, .int .i64 0, .int .i64 (-1), .int .i64 (-1), .bool false, .nilfn, .bool false, .bool true])),(10,vB j9),(34,vB yC),(44,vB gL),(55,vB oC),(71,vB yN),(87,vB yY)],[bx 100 [(1,some [vI jf, .val (.list jg jh),vI ji,vI jj,vI ja,vI jc,vI jb, .val (.list jd je)]),(3,some [.val (.str [97,108,108]),vI 0,vI 0, .val (.int .i64 (-1)), .val (.int .i64 (-1)),vB false, .val .nilfn,vB false,vB true])]],KK⟩)
theorem Qqd (lb n:Nat) (jf:Int) (jg:Bool) (jh:LL) (ji jj ja jc jb:Int) (jd:Bool) (je:LL) (j9 yC gL oC yN yY:Bool) :
 cond_write_J1 lb n jf jg jh ji jj ja jc jb jd je j9 yC gL oC yN yY =
 some (.str [97,108,108]) := (Qac _).trans (by kernel_rfl)
noncomputable def Qgm (lb n vu:Nat) (jf:Int) (jg:Bool) (jh:LL) (ji jj ja jc jb:Int) (jd:Bool) (je:LL) (oH:Bool) (kt:LL) (wq:Int):Option CV :=
 hold (Qau (E0 lb n 0 989) 0 (Qah (sub (B Qaj) [1,1,0,0,1,0,1,0,1,0,0]) ++ []) [6] (sub (B Qaj) [1,1,0,0,1,0,1,0,1,0,0]) (Qak 1 (seqK (E0 lb n 0 992) (sub (B Qaj) [1,1,0,0,1,0,1,0]) (sub (B Qaj) [1,1,0,0,1,0,1,1]) (QaS (sub (B Qaj) [1,1,0,0,1,0]) (sub (B Qaj) [1,1,0,0,1,1]) (Qak 0 (seqK (E0 lb n 0 997) (sub (B Qaj) [1,1,0]) (sub (B Qaj) [1,1,1]) (retK Tryz.prog (R Qaj) 0 (outK (Qag Tryz.prog Qaj)))))))) vu ⟨fr 100 [(0, .val (.agg [.int .i64 jf, .list jg jh, .int .i64 ji, .int .i64 jj, .int .i64 ja, .int .i64 jc, .int .i64 jb, .list jd je])),(1, .ptr 0 1 0),(2, .val (.str [])),(3, .ptr 0 3 0),(4, .lst true oH 9 kt),(7, .ptr 0 1 0),(8,vI jf),(9, .val (.agg [.str [97,110,100], .int .i64 1, .int .i64 128, .int .i64 (-1), .int .i64 (-1), .bool false, .nilfn, .bool false, .bool true])),(10,vB true),(11, .ptr 0 3 2),(12,vI 128),(13,vB true),(14, .ptr 0 1 1),(15, .val (.list jg jh)),(16, .val (.int .i64 (jh.length:Int))),(17,vI wq)],[bx 100 [(1,some [vI jf, .val (.list jg jh),vI ji,vI jj,vI ja,vI jc,vI jb, .val (.list jd je)]),(3,some [.val (.str [97,110,100]),vI 1,vI 128, .val (.int .i64 (-1)), .val (.int .i64 (-1)),vB false, .val .nilfn,vB false,vB true])]],KK⟩)
noncomputable def Qm0 (lb n:Nat) (jf:Int) (jg:Bool) (jh:LL) (ji jj ja jc jb:Int) (jd:Bool) (je:LL) (gJ:Bool) (gy:LL):Option CV :=
 hold (E0 lb n 0 992 (sub (B Qaj) [1,1,0,0,1,0,1,1]) (QaS (sub (B Qaj) [1,1,0,0,1,0]) (sub (B Qaj) [1,1,0,0,1,1]) (Qak 0 (seqK (E0 lb n 0 997) (sub (B Qaj) [1,1,0]) (sub (B Qaj) [1,1,1]) (retK Tryz.prog (R Qaj) 0 (outK (Qag Tryz.prog Qaj)))))) ⟨fr 100 [(0, .val (.agg [.int .i64 jf, .list jg jh, .int .i64 ji, .int .i64 jj, .int .i64 ja, .int .i64 jc, .int .i64 jb, .list jd je])),(1, .ptr 0 1 0),(2, .val (.str [])),(3, .ptr 0 3 0),(4, .lst true gJ 9 gy),(7, .ptr 0 1 0),(8,vI jf),(9, .val (.agg [.str [97,110,100], .int .i64 1, .int .i64 128, .int .i64 (-1), .int .i64 (-1), .bool false, .nilfn, .bool false, .bool true])),(10,vB true),(11, .ptr 0 3 2),(12,vI 128),(13,vB true)],[bx 100 [(1,some [vI jf, .val (.list jg jh),vI ji,vI jj,vI ja,vI jc,vI jb, .val (.list jd je)]),(3,some [.val (.str [97,110,100]),vI 1,vI 128, .val (.int .i64 (-1)), .val (.int .i64 (-1)),vB false, .val .nilfn,vB false,vB true])]],KK⟩)
theorem QpR (lb n:Nat) (jf:Int) (jg:Bool) (jh:LL) (ji jj ja jc jb:Int) (jd:Bool) (je:LL) (gJ:Bool) (gy:LL) :
 Qm0 lb n jf jg jh ji jj ja jc jb jd je gJ gy =
 optO (C lb n Qbm [.list gJ gy, .str [44,32]]) fun vM =>
 optO (CV.asS vM) fun mW =>
 chkO (decide (([97,110,100,40]:LB).length + mW.length ≤ 9223372036854775807)) (
 chkO (decide ((([97,110,100,40]:LB) ++ mW).length + [41].length ≤ 9223372036854775807)) (
 some (.str ((([97,110,100,40]:LB) ++ mW) ++ [41])))) := (Qac _).trans (by kernel_rfl)
theorem Qis (lb n vu:Nat) (jf:Int) (jg:Bool) (jh:LL) (ji jj ja jc jb:Int) (jd:Bool) (je:LL) (oH:Bool) (kt:LL) (wq:Int) :
 Qgm lb n (vu + 1) jf jg jh ji jj ja jc jb jd je oH kt wq =
 bif (decide (wq < (jh.length:Int))) then
 (optO (atL jh wq) fun wT =>
 chkO (wT.length == 8) (
 optO (wT[0]?) fun ks =>
 optO (wT[1]?) fun g0 =>
 optO (wT[2]?) fun yi =>
 optO (wT[3]?) fun ny =>
 optO (wT[4]?) fun yA =>
 optO (wT[5]?) fun yZ =>
 optO (wT[6]?) fun yq =>
 optO (wT[7]?) fun yB =>
 optO (C lb n Qaj [.agg [ks,g0,yi,ny,yA,yZ,yq,yB]]) fun n0 =>
 chkO (CV.isCell n0) (
 chkO (room (kt.length + 1) 16) (
 Qgm lb n vu jf jg jh ji jj ja jc jb jd je (oH && false) (kt ++ [[n0]]) (IntKind.wrap .i64 (wq + 1))))))
 else
 (Qm0 lb n jf jg jh ji jj ja jc jb jd je oH kt) := (Qac _).trans (by kernel_rfl)
noncomputable def Qgk (lb n gp:Nat) (jf:Int) (jg:Bool) (jh:LL) (ji jj ja jc jb:Int) (jd:Bool) (je:LL) (og:Bool) (kv:LL) (i75:Int):Option CV :=
 hold (Qau (E0 lb n 0 989) 0 (Qah (sub (B Qaj) [1,1,0,0,1,0,1,0,1,0,0]) ++ []) [6] (sub (B Qaj) [1,1,0,0,1,0,1,0,1,0,0]) (Qak 1 (seqK (E0 lb n 0 992) (sub (B Qaj) [1,1,0,0,1,0,1,0]) (sub (B Qaj) [1,1,0,0,1,0,1,1]) (QaS (sub (B Qaj) [1,1,0,0,1,0]) (sub (B Qaj) [1,1,0,0,1,1]) (Qak 0 (seqK (E0 lb n 0 997) (sub (B Qaj) [1,1,0]) (sub (B Qaj) [1,1,1]) (retK Tryz.prog (R Qaj) 0 (outK (Qag Tryz.prog Qaj)))))))) gp ⟨fr 100 [(0, .val (.agg [.int .i64 jf, .list jg jh, .int .i64 ji, .int .i64 jj, .int .i64 ja, .int .i64 jc, .int .i64 jb, .list jd je])),(1, .ptr 0 1 0),(2, .val (.str [])),(3, .ptr 0 3 0),(4, .lst true og 9 kv),(7, .ptr 0 1 0),(8,vI jf),(9, .val (.agg [.str [111,114], .int .i64 1, .int .i64 128, .int .i64 (-1), .int .i64 (-1), .bool false, .nilfn, .bool false, .bool true])),(10,vB true),(11, .ptr 0 3 2),(12,vI 128),(13,vB true),(14, .ptr 0 1 1),(15, .val (.list jg jh)),(16, .val (.int .i64 (jh.length:Int))),(17,vI i75)],[bx 100 [(1,some [vI jf, .val (.list jg jh),vI ji,vI jj,vI ja,vI jc,vI jb, .val (.list jd je)]),(3,some [.val (.str [111,114]),vI 1,vI 128, .val (.int .i64 (-1)), .val (.int .i64 (-1)),vB false, .val .nilfn,vB false,vB true])]],KK⟩)
noncomputable def QmU (lb n:Nat) (jf:Int) (jg:Bool) (jh:LL) (ji jj ja jc jb:Int) (jd:Bool) (je:LL) (gF:Bool) (gh:LL):Option CV :=
 hold (E0 lb n 0 992 (sub (B Qaj) [1,1,0,0,1,0,1,1]) (QaS (sub (B Qaj) [1,1,0,0,1,0]) (sub (B Qaj) [1,1,0,0,1,1]) (Qak 0 (seqK (E0 lb n 0 997) (sub (B Qaj) [1,1,0]) (sub (B Qaj) [1,1,1]) (retK Tryz.prog (R Qaj) 0 (outK (Qag Tryz.prog Qaj)))))) ⟨fr 100 [(0, .val (.agg [.int .i64 jf, .list jg jh, .int .i64 ji, .int .i64 jj, .int .i64 ja, .int .i64 jc, .int .i64 jb, .list jd je])),(1, .ptr 0 1 0),(2, .val (.str [])),(3, .ptr 0 3 0),(4, .lst true gF 9 gh),(7, .ptr 0 1 0),(8,vI jf),(9, .val (.agg [.str [111,114], .int .i64 1, .int .i64 128, .int .i64 (-1), .int .i64 (-1), .bool false, .nilfn, .bool false, .bool true])),(10,vB true),(11, .ptr 0 3 2),(12,vI 128),(13,vB true)],[bx 100 [(1,some [vI jf, .val (.list jg jh),vI ji,vI jj,vI ja,vI jc,vI jb, .val (.list jd je)]),(3,some [.val (.str [111,114]),vI 1,vI 128, .val (.int .i64 (-1)), .val (.int .i64 (-1)),vB false, .val .nilfn,vB false,vB true])]],KK⟩)
theorem Qqg (lb n:Nat) (jf:Int) (jg:Bool) (jh:LL) (ji jj ja jc jb:Int) (jd:Bool) (je:LL) (gF:Bool) (gh:LL) :
 QmU lb n jf jg jh ji jj ja jc jb jd je gF gh =
 optO (C lb n Qbm [.list gF gh, .str [44,32]]) fun lM =>
 optO (CV.asS lM) fun oY =>
 chkO (decide (([111,114,40]:LB).length + oY.length ≤ 9223372036854775807)) (
 chkO (decide ((([111,114,40]:LB) ++ oY).length + [41].length ≤ 9223372036854775807)) (
 some (.str ((([111,114,40]:LB) ++ oY) ++ [41])))) := (Qac _).trans (by kernel_rfl)
theorem Qix (lb n gp:Nat) (jf:Int) (jg:Bool) (jh:LL) (ji jj ja jc jb:Int) (jd:Bool) (je:LL) (og:Bool) (kv:LL) (i75:Int) :
 Qgk lb n (gp + 1) jf jg jh ji jj ja jc jb jd je og kv i75 =
 bif (decide (i75 < (jh.length:Int))) then
 (optO (atL jh i75) fun wQ =>
 chkO (wQ.length == 8) (
 optO (wQ[0]?) fun mP =>
 optO (wQ[1]?) fun m6 =>
 optO (wQ[2]?) fun gM =>
 optO (wQ[3]?) fun nd =>
 optO (wQ[4]?) fun mZ =>
 optO (wQ[5]?) fun mV =>
 optO (wQ[6]?) fun nF =>
 optO (wQ[7]?) fun mj =>
 optO (C lb n Qaj [.agg [mP,m6,gM,nd,mZ,mV,nF,mj]]) fun nP =>
 chkO (CV.isCell nP) (
 chkO (room (kv.length + 1) 16) (
 Qgk lb n gp jf jg jh ji jj ja jc jb jd je (og && false) (kv ++ [[nP]]) (IntKind.wrap .i64 (i75 + 1))))))
 else
 (QmU lb n jf jg jh ji jj ja jc jb jd je og kv) := (Qac _).trans (by kernel_rfl)
noncomputable def Qgb (lb n kQ:Nat) (jf:Int) (jg:Bool) (jh:LL) (ji jj ja jc jb:Int) (jd:Bool) (je:LL) (vU:Bool) (vE:LL) (vC:Int):Option CV :=
 hold (Qau (E0 lb n 0 989) 0 (Qah (sub (B Qaj) [1,1,0,0,1,0,1,0,1,0,0]) ++ []) [6] (sub (B Qaj) [1,1,0,0,1,0,1,0,1,0,0]) (Qak 1 (seqK (E0 lb n 0 992) (sub (B Qaj) [1,1,0,0,1,0,1,0]) (sub (B Qaj) [1,1,0,0,1,0,1,1]) (QaS (sub (B Qaj) [1,1,0,0,1,0]) (sub (B Qaj) [1,1,0,0,1,1]) (Qak 0 (seqK (E0 lb n 0 997) (sub (B Qaj) [1,1,0]) (sub (B Qaj) [1,1,1]) (retK Tryz.prog (R Qaj) 0 (outK (Qag Tryz.prog Qaj)))))))) kQ ⟨fr 100 [(0, .val (.agg [.int .i64 jf, .list jg jh, .int .i64 ji, .int .i64 jj, .int .i64 ja, .int .i64 jc, .int .i64 jb, .list jd je])),(1, .ptr 0 1 0),(2, .val (.str [])),(3, .ptr 0 3 0),(4, .lst true vU 9 vE),(7, .ptr 0 1 0),(8,vI jf),(9, .val (.agg [.str [110,111,116], .int .i64 1, .int .i64 1, .int .i64 (-1), .int .i64 (-1), .bool false, .nilfn, .bool false, .bool true])),(10,vB true),(11, .ptr 0 3 2),(12,vI 1),(13,vB true),(14, .ptr 0 1 1),(15, .val (.list jg jh)),(16, .val (.int .i64 (jh.length:Int))),(17,vI vC)],[bx 100 [(1,some [vI jf, .val (.list jg jh),vI ji,vI jj,vI ja,vI jc,vI jb, .val (.list jd je)]),(3,some [.val (.str [110,111,116]),vI 1,vI 1, .val (.int .i64 (-1)), .val (.int .i64 (-1)),vB false, .val .nilfn,vB false,vB true])]],KK⟩)
noncomputable def Qm7 (lb n:Nat) (jf:Int) (jg:Bool) (jh:LL) (ji jj ja jc jb:Int) (jd:Bool) (je:LL) (kP:Bool) (kA:LL):Option CV :=
 hold (E0 lb n 0 992 (sub (B Qaj) [1,1,0,0,1,0,1,1]) (QaS (sub (B Qaj) [1,1,0,0,1,0]) (sub (B Qaj) [1,1,0,0,1,1]) (Qak 0 (seqK (E0 lb n 0 997) (sub (B Qaj) [1,1,0]) (sub (B Qaj) [1,1,1]) (retK Tryz.prog (R Qaj) 0 (outK (Qag Tryz.prog Qaj)))))) ⟨fr 100 [(0, .val (.agg [.int .i64 jf, .list jg jh, .int .i64 ji, .int .i64 jj, .int .i64 ja, .int .i64 jc, .int .i64 jb, .list jd je])),(1, .ptr 0 1 0),(2, .val (.str [])),(3, .ptr 0 3 0),(4, .lst true kP 9 kA),(7, .ptr 0 1 0),(8,vI jf),(9, .val (.agg [.str [110,111,116], .int .i64 1, .int .i64 1, .int .i64 (-1), .int .i64 (-1), .bool false, .nilfn, .bool false, .bool true])),(10,vB true),(11, .ptr 0 3 2),(12,vI 1),(13,vB true)],[bx 100 [(1,some [vI jf, .val (.list jg jh),vI ji,vI jj,vI ja,vI jc,vI jb, .val (.list jd je)]),(3,some [.val (.str [110,111,116]),vI 1,vI 1, .val (.int .i64 (-1)), .val (.int .i64 (-1)),vB false, .val .nilfn,vB false,vB true])]],KK⟩)
theorem Qp8 (lb n:Nat) (jf:Int) (jg:Bool) (jh:LL) (ji jj ja jc jb:Int) (jd:Bool) (je:LL) (kP:Bool) (kA:LL) :
 Qm7 lb n jf jg jh ji jj ja jc jb jd je kP kA =
 optO (C lb n Qbm [.list kP kA, .str [44,32]]) fun qP =>
 optO (CV.asS qP) fun oQ =>
 chkO (decide (([110,111,116,40]:LB).length + oQ.length ≤ 9223372036854775807)) (
 chkO (decide ((([110,111,116,40]:LB) ++ oQ).length + [41].length ≤ 9223372036854775807)) (
 some (.str ((([110,111,116,40]:LB) ++ oQ) ++ [41])))) := (Qac _).trans (by kernel_rfl)
theorem Qir (lb n kQ:Nat) (jf:Int) (jg:Bool) (jh:LL) (ji jj ja jc jb:Int) (jd:Bool) (je:LL) (vU:Bool) (vE:LL) (vC:Int) :
 Qgb lb n (kQ + 1) jf jg jh ji jj ja jc jb jd je vU vE vC =
 bif (decide (vC < (jh.length:Int))) then
 (optO (atL jh vC) fun yG =>
 chkO (yG.length == 8) (
 optO (yG[0]?) fun qi =>
 optO (yG[1]?) fun zr =>
 optO (yG[2]?) fun pH =>
 optO (yG[3]?) fun qX =>
 optO (yG[4]?) fun ss =>
 optO (yG[5]?) fun qH =>
 optO (yG[6]?) fun oP =>
 optO (yG[7]?) fun pQ =>
 optO (C lb n Qaj [.agg [qi,zr,pH,qX,ss,qH,oP,pQ]]) fun nu =>
 chkO (CV.isCell nu) (
 chkO (room (vE.length + 1) 16) (
 Qgb lb n kQ jf jg jh ji jj ja jc jb jd je (vU && false) (vE ++ [[nu]]) (IntKind.wrap .i64 (vC + 1))))))
 else
 (Qm7 lb n jf jg jh ji jj ja jc jb jd je vU vE) := (Qac _).trans (by kernel_rfl)
noncomputable def Qup (lb n:Nat) (jf:Int) (jg:Bool) (jh:LL) (ji jj ja jc jb:Int) (jd:Bool) (je:LL) (qL sM pf qQ q8 zq:Bool):Option CV :=
 hold (E0 lb n 0 997 (sub (B Qaj) [1,1,1]) (retK Tryz.prog (R Qaj) 0 (outK (Qag Tryz.prog Qaj))) ⟨fr 100 [(0, .val (.agg [.int .i64 jf, .list jg jh, .int .i64 ji, .int .i64 jj, .int .i64 ja, .int .i64 jc, .int .i64 jb, .list jd je])),(1, .ptr 0 1 0),(2, .val (.str [])),(3, .ptr 0 3 0),(7, .ptr 0 1 0),(8,vI jf),(9, .val (.agg [.str [], .int .i64 0, .int .i64 0, .int .i64 (-1), .int .i64 (-1), .bool false, .nilfn, .bool false, .bool false])),(10,vB qL),(34,vB sM),(44,vB pf),(55,vB qQ),(71,vB q8),(87,vB zq)],[bx 100 [(1,some [vI jf, .val (.list jg jh),vI ji,vI jj,vI ja,vI jc,vI jb, .val (.list jd je)]),(3,some [.val (.str []),vI 0,vI 0, .val (.int .i64 (-1)), .val (.int .i64 (-1)),vB false, .val .nilfn,vB false,vB false])]],KK⟩)
theorem Qui (lb n:Nat) (jf:Int) (jg:Bool) (jh:LL) (ji jj ja jc jb:Int) (jd:Bool) (je:LL) :
 top lb n Qaj [.agg [.int .i64 jf, .list jg jh, .int .i64 ji, .int .i64 jj, .int .i64 ja, .int .i64 jc, .int .i64 jb, .list jd je]] =
 bif (jf == 1) then
 (bif (jf == 8) then
 (optO (C lb n QaO [.int .i64 ji]) fun jk =>
 optO (CV.asS jk) fun gn =>
 chkO (decide (([97,108,108,32]:LB).length + gn.length ≤ 9223372036854775807)) (
 chkO (decide ((([97,108,108,32]:LB) ++ gn).length + [32].length ≤ 9223372036854775807)) (
 optO (C lb n QaO [.int .i64 jj]) fun jr =>
 optO (CV.asS jr) fun wH =>
 chkO (decide (((([97,108,108,32]:LB) ++ gn) ++ [32]).length + wH.length ≤ 9223372036854775807)) (
 some (.str (((([97,108,108,32]:LB) ++ gn) ++ [32]) ++ wH))))))
 else
 (cond_write_J1 lb n jf jg jh ji jj ja jc jb jd je false false false (jf == 8) false false))
 else
 (bif (jf == 2) then
 (Qgm lb n n jf jg jh ji jj ja jc jb jd je true [] 0)
 else
 (bif (jf == 3) then
 (Qgk lb n n jf jg jh ji jj ja jc jb jd je true [] 0)
 else
 (bif (jf == 4) then
 (Qgb lb n n jf jg jh ji jj ja jc jb jd je true [] 0)
 else
 (bif (jf == 5) then
 (optO (C lb n Qbf [.agg [.int .i64 ja, .int .i64 jc, .int .i64 jb]]) fun qu =>
 optO (CV.asS qu) fun my =>
 chkO (decide (([116,114,97,118,101,108,32]:LB).length + my.length ≤ 9223372036854775807)) (
 some (.str (([116,114,97,118,101,108,32]:LB) ++ my))))
 else
 (bif (jf == 6) then
 (optO (C lb n Qbf [.agg [.int .i64 ja, .int .i64 jc, .int .i64 jb]]) fun sz =>
 optO (CV.asS sz) fun nb =>
 chkO (decide (([115,97,108,101,32]:LB).length + nb.length ≤ 9223372036854775807)) (
 some (.str (([115,97,108,101,32]:LB) ++ nb))))
 else
 (bif (jf == 7) then
 (bif (jf == 8) then
 (optO (C lb n QaO [.int .i64 ji]) fun qe =>
 optO (CV.asS qe) fun kS =>
 chkO (decide (([97,100,118,97,110,99,101,32]:LB).length + kS.length ≤ 9223372036854775807)) (
 chkO (decide ((([97,100,118,97,110,99,101,32]:LB) ++ kS).length + [32].length ≤ 9223372036854775807)) (
 optO (C lb n QaO [.int .i64 jj]) fun zx =>
 optO (CV.asS zx) fun gR =>
 chkO (decide (((([97,100,118,97,110,99,101,32]:LB) ++ kS) ++ [32]).length + gR.length ≤ 9223372036854775807)) (
 some (.str (((([97,100,118,97,110,99,101,32]:LB) ++ kS) ++ [32]) ++ gR))))))
 else
 (optO (C lb n Qb2 [.int .i64 ji]) fun zd =>
 optO (CV.asS zd) fun nq =>
 chkO (decide (([97,100,118,97,110,99,101,32]:LB).length + nq.length ≤ 9223372036854775807)) (
 some (.str (([97,100,118,97,110,99,101,32]:LB) ++ nq)))))
 else
 (bif (jf == 8) then
 (bif (jf == 8) then
 (optO (C lb n QaO [.int .i64 ji]) fun qV =>
 optO (CV.asS qV) fun kG =>
 chkO (decide (([104,111,117,114,32]:LB).length + kG.length ≤ 9223372036854775807)) (
 chkO (decide ((([104,111,117,114,32]:LB) ++ kG).length + [32].length ≤ 9223372036854775807)) (
 optO (C lb n QaO [.int .i64 jj]) fun pW =>
 optO (CV.asS pW) fun mD =>
 chkO (decide (((([104,111,117,114,32]:LB) ++ kG) ++ [32]).length + mD.length ≤ 9223372036854775807)) (
 some (.str (((([104,111,117,114,32]:LB) ++ kG) ++ [32]) ++ mD))))))
 else
 (optO (C lb n Qb2 [.int .i64 ji]) fun n5 =>
 optO (CV.asS n5) fun kN =>
 chkO (decide (([104,111,117,114,32]:LB).length + kN.length ≤ 9223372036854775807)) (
 chkO (decide ((([104,111,117,114,32]:LB) ++ kN).length + [32].length ≤ 9223372036854775807)) (
 optO (C lb n Qb2 [.int .i64 jj]) fun sE =>
 optO (CV.asS sE) fun mC =>
 chkO (decide (((([104,111,117,114,32]:LB) ++ kN) ++ [32]).length + mC.length ≤ 9223372036854775807)) (
 some (.str (((([104,111,117,114,32]:LB) ++ kN) ++ [32]) ++ mC)))))))
 else
 (bif (jf == 9) then
 (bif (jf == 8) then
 (optO (C lb n QaO [.int .i64 ji]) fun sX =>
 optO (CV.asS sX) fun vD =>
 chkO (decide (([115,116,111,112,115,32]:LB).length + vD.length ≤ 9223372036854775807)) (
 chkO (decide ((([115,116,111,112,115,32]:LB) ++ vD).length + [32].length ≤ 9223372036854775807)) (
 optO (C lb n QaO [.int .i64 jj]) fun sT =>
 optO (CV.asS sT) fun md =>
 chkO (decide (((([115,116,111,112,115,32]:LB) ++ vD) ++ [32]).length + md.length ≤ 9223372036854775807)) (
 some (.str (((([115,116,111,112,115,32]:LB) ++ vD) ++ [32]) ++ md))))))
 else
 (optO (C lb n Qb2 [.int .i64 ji]) fun sn =>
 optO (CV.asS sn) fun mJ =>
 chkO (decide (([115,116,111,112,115,32]:LB).length + mJ.length ≤ 9223372036854775807)) (
 some (.str (([115,116,111,112,115,32]:LB) ++ mJ)))))
 else
 (bif (jf == 10) then
 (bif (jf == 8) then
 (optO (C lb n QaO [.int .i64 ji]) fun sI =>
 optO (CV.asS sI) fun kJ =>
 chkO (decide (([116,114,97,110,115,102,101,114,115,32]:LB).length + kJ.length ≤ 9223372036854775807)) (
 chkO (decide ((([116,114,97,110,115,102,101,114,115,32]:LB) ++ kJ).length + [32].length ≤ 9223372036854775807)) (
 optO (C lb n QaO [.int .i64 jj]) fun zl =>
 optO (CV.asS zl) fun m5 =>
 chkO (decide (((([116,114,97,110,115,102,101,114,115,32]:LB) ++ kJ) ++ [32]).length + m5.length ≤ 9223372036854775807)) (
 some (.str (((([116,114,97,110,115,102,101,114,115,32]:LB) ++ kJ) ++ [32]) ++ m5))))))
 else
 (optO (C lb n Qb2 [.int .i64 ji]) fun qC =>
 optO (CV.asS qC) fun mF =>
 chkO (decide (([116,114,97,110,115,102,101,114,115,32]:LB).length + mF.length ≤ 9223372036854775807)) (
 some (.str (([116,114,97,110,115,102,101,114,115,32]:LB) ++ mF)))))
 else
 (bif (jf == 11) then
 (optO (C lb n Qbm [.list jd je, .str [32]]) fun zj =>
 optO (CV.asS zj) fun mz =>
 chkO (decide (([99,97,114,114,105,101,114,32]:LB).length + mz.length ≤ 9223372036854775807)) (
 some (.str (([99,97,114,114,105,101,114,32]:LB) ++ mz))))
 else
 (bif (jf == 12) then
 (bif (jf == 8) then
 (optO (C lb n QaO [.int .i64 ji]) fun pB =>
 optO (CV.asS pB) fun kO =>
 chkO (decide (([110,117,109,98,101,114,32]:LB).length + kO.length ≤ 9223372036854775807)) (
 chkO (decide ((([110,117,109,98,101,114,32]:LB) ++ kO).length + [32].length ≤ 9223372036854775807)) (
 optO (C lb n QaO [.int .i64 jj]) fun pI =>
 optO (CV.asS pI) fun mn =>
 chkO (decide (((([110,117,109,98,101,114,32]:LB) ++ kO) ++ [32]).length + mn.length ≤ 9223372036854775807)) (
 some (.str (((([110,117,109,98,101,114,32]:LB) ++ kO) ++ [32]) ++ mn))))))
 else
 (optO (C lb n Qb2 [.int .i64 ji]) fun pj =>
 optO (CV.asS pj) fun kU =>
 chkO (decide (([110,117,109,98,101,114,32]:LB).length + kU.length ≤ 9223372036854775807)) (
 chkO (decide ((([110,117,109,98,101,114,32]:LB) ++ kU).length + [32].length ≤ 9223372036854775807)) (
 optO (C lb n Qb2 [.int .i64 jj]) fun sk =>
 optO (CV.asS sk) fun gP =>
 chkO (decide (((([110,117,109,98,101,114,32]:LB) ++ kU) ++ [32]).length + gP.length ≤ 9223372036854775807)) (
 some (.str (((([110,117,109,98,101,114,32]:LB) ++ kU) ++ [32]) ++ gP)))))))
 else
 (bif (jf == 13) then
 (optO (C lb n Qbm [.list jd je, .str [32]]) fun zk =>
 optO (CV.asS zk) fun gT =>
 chkO (decide (([118,105,97,32]:LB).length + gT.length ≤ 9223372036854775807)) (
 some (.str (([118,105,97,32]:LB) ++ gT))))
 else
 (bif (jf == 14) then
 (optO (C lb n Qbm [.list jd je, .str [32]]) fun zf =>
 optO (CV.asS zf) fun gZ =>
 chkO (decide (([116,121,112,101,32]:LB).length + gZ.length ≤ 9223372036854775807)) (
 some (.str (([116,121,112,101,32]:LB) ++ gZ))))
 else
 (bif (jf == 8) then
 (optO (C lb n QaO [.int .i64 ji]) fun se =>
 optO (CV.asS se) fun kM =>
 chkO (decide (([32]:LB).length + kM.length ≤ 9223372036854775807)) (
 chkO (decide ((([32]:LB) ++ kM).length + [32].length ≤ 9223372036854775807)) (
 optO (C lb n QaO [.int .i64 jj]) fun qn =>
 optO (CV.asS qn) fun gX =>
 chkO (decide (((([32]:LB) ++ kM) ++ [32]).length + gX.length ≤ 9223372036854775807)) (
 some (.str (((([32]:LB) ++ kM) ++ [32]) ++ gX))))))
 else
 (Qup lb n jf jg jh ji jj ja jc jb jd je false false false (jf == 8) false false))))))))))))))) := by kernel_rfl
theorem Qua (lb n:Nat) (jf:Int) (jg:Bool) (jh:LL) (ji jj ja jc jb:Int) (jd:Bool) (je:LL) :
 top lb n Qg8 [.agg [.int .i64 jf, .list jg jh, .int .i64 ji, .int .i64 jj, .int .i64 ja, .int .i64 jc, .int .i64 jb, .list jd je]] =
 optO (C lb n Qj5 [.agg [.int .i64 jf, .list jg jh, .int .i64 ji, .int .i64 jj, .int .i64 ja, .int .i64 jc, .int .i64 jb, .list jd je]]) fun jk =>
 optO (CV.asI .i64 jk) fun jm =>
 bif (jm != 0) then
 (some (.tup [.str [],jk]))
 else
 (optO (C lb n Qaj [.agg [.int .i64 jf, .list jg jh, .int .i64 ji, .int .i64 jj, .int .i64 ja, .int .i64 jc, .int .i64 jb, .list jd je]]) fun jr =>
 optO (CV.asS jr) fun wH =>
 bif (decide ((wH.length:Int) > 65536)) then
 (some (.tup [.str [], .int .i64 4]))
 else
 (some (.tup [jr, .int .i64 0]))) := by kernel_rfl
theorem Quj (lb n:Nat) (a1:LB) :
 top lb n QjE [.str a1] =
 bif (decide ((a1.length:Int) > 65536)) then
 (some (.tup [.agg [.int .i64 0, .list true [], .int .i64 0, .int .i64 0, .int .i64 0, .int .i64 0, .int .i64 0, .list true []], .int .i64 3]))
 else
 (optO (C lb n Qf4 [.str a1]) fun r2 =>
 optO (CV.asT r2) fun t3 =>
 optO (t3[0]?) fun x4 =>
 optO (CV.asT r2) fun t5 =>
 optO (t5[1]?) fun x6 =>
 optO (CV.asA x4) fun c7 =>
 chkO (c7.length == 8) (
 optO (c7[0]?) fun x9 =>
 optO (c7[1]?) fun jt =>
 optO (c7[2]?) fun y4 =>
 optO (c7[3]?) fun jE =>
 optO (c7[4]?) fun yR =>
 optO (c7[5]?) fun y6 =>
 optO (c7[6]?) fun jn =>
 optO (c7[7]?) fun jJ =>
 optO (CV.asB x6) fun yC =>
 bif (!yC) then
 (some (.tup [.agg [.int .i64 0, .list true [], .int .i64 0, .int .i64 0, .int .i64 0, .int .i64 0, .int .i64 0, .list true []], .int .i64 3]))
 else
 (optO (C lb n Qg8 [.agg [x9,jt,y4,jE,yR,y6,jn,jJ]]) fun yv =>
 optO (CV.asT yv) fun t20 =>
 optO (t20[0]?) fun om =>
 optO (CV.asT yv) fun oi =>
 optO (oi[1]?) fun oq =>
 optO (CV.asI .i64 oq) fun jZ =>
 bif (jZ != 0) then
 (some (.tup [.agg [.int .i64 0, .list true [], .int .i64 0, .int .i64 0, .int .i64 0, .int .i64 0, .int .i64 0, .list true []], .int .i64 3]))
 else
 (optO (CV.asS om) fun y8 =>
 bif (!(y8 == a1)) then
 (some (.tup [.agg [.int .i64 0, .list true [], .int .i64 0, .int .i64 0, .int .i64 0, .int .i64 0, .int .i64 0, .list true []], .int .i64 3]))
 else
 (some (.tup [.agg [x9,jt,y4,jE,yR,y6,jn,jJ], .int .i64 0])))))) := by kernel_rfl
end Go.Proofs
namespace Go.Proofs
open Go.Am
set_option maxRecDepth 100000
set_option linter.unusedVariables false
theorem QvG (lb n:Nat)  :
 top lb n QeT [] =
 some (.list false [[CV.str []],[CV.str [97,108,108]],[CV.str [97,110,100]],[CV.str [111,114]],[CV.str [110,111,116]],[CV.str [116,114,97,118,101,108]],[CV.str [115,97,108,101]],[CV.str [97,100,118,97,110,99,101]],[CV.str [104,111,117,114]],[CV.str [115,116,111,112,115]],[CV.str [116,114,97,110,115,102,101,114,115]],[CV.str [99,97,114,114,105,101,114]],[CV.str [110,117,109,98,101,114]],[CV.str [118,105,97]],[CV.str [116,121,112,101]]]) := by kernel_rfl
theorem QtM (lb n:Nat) (a1:Bool) (b2 c3:LB) :
 top lb n QgR [.bool a1, .str b2, .str c3] =
 bif a1 then
 (some (.str b2))
 else
 (some (.str c3)) := by kernel_rfl
noncomputable def QgY (lb n wy:Nat) (jf:Int) (jg:Bool) (jh:LL) (ji jj ja jc jb:Int) (jd:Bool) (je:LL) (jk:CV) (js:List CV) (jn wi ww:CV) (yQ:Int):Option CV :=
 hold (Qau (E0 lb n 0 991) 0 (Qah (sub (B Qam) [1,1,0,1,0,0,1,0,0]) ++ []) [] (sub (B Qam) [1,1,0,1,0,0,1,0,0]) (Qak 0 (seqK (E0 lb n 0 994) (sub (B Qam) [1,1,0,1,0,0]) (sub (B Qam) [1,1,0,1,0,1]) (QaS (sub (B Qam) [1,1,0,1,0]) (sub (B Qam) [1,1,0,1,1]) (seqK (E0 lb n 0 997) (sub (B Qam) [1,1,0]) (sub (B Qam) [1,1,1]) (retK Tryz.prog (R Qam) 0 (outK (Qag Tryz.prog Qam))))))) wy ⟨fr 94 [(0, .val (.agg [.int .i64 jf, .list jg jh, .int .i64 ji, .int .i64 jj, .int .i64 ja, .int .i64 jc, .int .i64 jb, .list jd je])),(1, .ptr 0 1 0),(2, .val (.str [])),(3,vV ww),(4,vI yQ),(6,vV jk),(7, .ptr 0 1 0),(8,vI jf),(9, .cptr js 0),(10,vV jn),(11, .ptr 0 1 0),(12,vI jf),(13,vV wi)],[bx 94 [(1,some [vI jf, .val (.list jg jh),vI ji,vI jj,vI ja,vI jc,vI jb, .val (.list jd je)])]],KK⟩)
noncomputable def QnH (lb n:Nat) (jf:Int) (jg:Bool) (jh:LL) (ji jj ja jc jb:Int) (jd:Bool) (je:LL) (jk:CV) (js:List CV) (jn wi gK:CV) (va:Int):Option CV :=
 hold (E0 lb n 0 994 (sub (B Qam) [1,1,0,1,0,1]) (QaS (sub (B Qam) [1,1,0,1,0]) (sub (B Qam) [1,1,0,1,1]) (seqK (E0 lb n 0 997) (sub (B Qam) [1,1,0]) (sub (B Qam) [1,1,1]) (retK Tryz.prog (R Qam) 0 (outK (Qag Tryz.prog Qam))))) ⟨fr 94 [(0, .val (.agg [.int .i64 jf, .list jg jh, .int .i64 ji, .int .i64 jj, .int .i64 ja, .int .i64 jc, .int .i64 jb, .list jd je])),(1, .ptr 0 1 0),(2, .val (.str [])),(3,vV gK),(4,vI va),(6,vV jk),(7, .ptr 0 1 0),(8,vI jf),(9, .cptr js 0),(10,vV jn),(11, .ptr 0 1 0),(12,vI jf),(13,vV wi)],[bx 94 [(1,some [vI jf, .val (.list jg jh),vI ji,vI jj,vI ja,vI jc,vI jb, .val (.list jd je)])]],KK⟩)
theorem QqM (lb n:Nat) (jf:Int) (jg:Bool) (jh:LL) (ji jj ja jc jb:Int) (jd:Bool) (je:LL) (jk:CV) (js:List CV) (jn wi gK:CV) (va:Int) :
 QnH lb n jf jg jh ji jj ja jc jb jd je jk js jn wi gK va =
 optO (CV.asS gK) fun nL =>
 chkO (decide (nL.length + [41].length ≤ 9223372036854775807)) (
 some (.str (nL ++ [41]))) := (Qac _).trans (by kernel_rfl)
theorem Qi3 (lb n wy:Nat) (jf:Int) (jg:Bool) (jh:LL) (ji jj ja jc jb:Int) (jd:Bool) (je:LL) (jk:CV) (js:List CV) (jn wi ww:CV) (yQ:Int) :
 QgY lb n (wy + 1) jf jg jh ji jj ja jc jb jd je jk js jn wi ww yQ =
 bif (decide (yQ < (jh.length:Int))) then
 (optO (C lb n QgR [.bool (yQ == 0), .str [40], .str [44,32]]) fun lz =>
 optO (CV.asS ww) fun mS =>
 optO (CV.asS lz) fun nk =>
 chkO (decide (mS.length + nk.length ≤ 9223372036854775807)) (
 optO (atL jh yQ) fun yM =>
 chkO (yM.length == 8) (
 optO (yM[0]?) fun yq =>
 optO (yM[1]?) fun yB =>
 optO (yM[2]?) fun wF =>
 optO (yM[3]?) fun yO =>
 optO (yM[4]?) fun vm =>
 optO (yM[5]?) fun vc =>
 optO (yM[6]?) fun zM =>
 optO (yM[7]?) fun gO =>
 optO (C lb n Qam [.agg [yq,yB,wF,yO,vm,vc,zM,gO]]) fun zF =>
 optO (CV.asS zF) fun nJ =>
 chkO (decide ((mS ++ nk).length + nJ.length ≤ 9223372036854775807)) (
 QgY lb n wy jf jg jh ji jj ja jc jb jd je jk js jn wi (.str ((mS ++ nk) ++ nJ)) (IntKind.wrap .i64 (yQ + 1))))))
 else
 (QnH lb n jf jg jh ji jj ja jc jb jd je jk js jn wi ww yQ) := (Qac _).trans (by kernel_rfl)
noncomputable def QnX (lb n:Nat) (jf:Int) (jg:Bool) (jh:LL) (ji jj ja jc jb:Int) (jd:Bool) (je:LL) (jn jk:CV) (js:List CV):Option CV :=
 hold (E0 lb n 0 997 (sub (B Qam) [1,1,1]) (retK Tryz.prog (R Qam) 0 (outK (Qag Tryz.prog Qam))) ⟨fr 94 [(0, .val (.agg [.int .i64 jf, .list jg jh, .int .i64 ji, .int .i64 jj, .int .i64 ja, .int .i64 jc, .int .i64 jb, .list jd je])),(1, .ptr 0 1 0),(2, .val (.str [])),(3,vV jn),(6,vV jk),(7, .ptr 0 1 0),(8,vI jf),(9, .cptr js 0),(10,vV jn)],[bx 94 [(1,some [vI jf, .val (.list jg jh),vI ji,vI jj,vI ja,vI jc,vI jb, .val (.list jd je)])]],KK⟩)
noncomputable def Qom (lb n:Nat) (jf:Int) (jg:Bool) (jh:LL) (ji jj ja jc jb:Int) (jd:Bool) (je:LL) (jk:CV) (js:List CV) (jn:CV) (vY:LB):Option CV :=
 hold (E0 lb n 0 994 (sub (B Qam) [1,1,1,1,1,1]) (retK Tryz.prog (R Qam) 0 (outK (Qag Tryz.prog Qam))) ⟨fr 94 [(0, .val (.agg [.int .i64 jf, .list jg jh, .int .i64 ji, .int .i64 jj, .int .i64 ja, .int .i64 jc, .int .i64 jb, .list jd je])),(1, .ptr 0 1 0),(2, .val (.str [])),(3,vS vY),(6,vV jk),(7, .ptr 0 1 0),(8,vI jf),(9, .cptr js 0),(10,vV jn)],[bx 94 [(1,some [vI jf, .val (.list jg jh),vI ji,vI jj,vI ja,vI jc,vI jb, .val (.list jd je)])]],KK⟩)
noncomputable def QgM (lb n:Nat) (jf:Int) (jg:Bool) (jh:LL) (ji jj ja jc jb:Int) (jd:Bool) (je:LL) (jk:CV) (js:List CV) (jn:CV) (ga:LB):Option CV :=
 hold (E0 lb n 0 993 (sub (B Qam) [1,1,1,1,1,1,1]) (retK Tryz.prog (R Qam) 0 (outK (Qag Tryz.prog Qam))) ⟨fr 94 [(0, .val (.agg [.int .i64 jf, .list jg jh, .int .i64 ji, .int .i64 jj, .int .i64 ja, .int .i64 jc, .int .i64 jb, .list jd je])),(1, .ptr 0 1 0),(2, .val (.str [])),(3,vS ga),(6,vV jk),(7, .ptr 0 1 0),(8,vI jf),(9, .cptr js 0),(10,vV jn)],[bx 94 [(1,some [vI jf, .val (.list jg jh),vI ji,vI jj,vI ja,vI jc,vI jb, .val (.list jd je)])]],KK⟩)
noncomputable def QjB (lb n gd:Nat) (jf:Int) (jg:Bool) (jh:LL) (ji jj ja jc jb:Int) (jd:Bool) (je:LL) (jk:CV) (js:List CV) (jn:CV) (vQ:LB) (kc:Int):Option CV :=
 hold (Qau (E0 lb n 0 989) 0 (Qah (sub (B Qam) [1,1,1,1,1,1,1,0,1,0,0]) ++ []) [] (sub (B Qam) [1,1,1,1,1,1,1,0,1,0,0]) (Qak 2 (seqK (E0 lb n 0 992) (sub (B Qam) [1,1,1,1,1,1,1,0]) (sub (B Qam) [1,1,1,1,1,1,1,1]) (retK Tryz.prog (R Qam) 0 (outK (Qag Tryz.prog Qam))))) gd ⟨fr 94 [(0, .val (.agg [.int .i64 jf, .list jg jh, .int .i64 ji, .int .i64 jj, .int .i64 ja, .int .i64 jc, .int .i64 jb, .list jd je])),(1, .ptr 0 1 0),(2, .val (.str [])),(3,vS vQ),(5,vI kc),(6,vV jk),(7, .ptr 0 1 0),(8,vI jf),(9, .cptr js 0),(10,vV jn)],[bx 94 [(1,some [vI jf, .val (.list jg jh),vI ji,vI jj,vI ja,vI jc,vI jb, .val (.list jd je)])]],KK⟩)
noncomputable def QnW (lb n:Nat) (jf:Int) (jg:Bool) (jh:LL) (ji jj ja jc jb:Int) (jd:Bool) (je:LL) (jk:CV) (js:List CV) (jn:CV) (kF:LB) (oS:Int):Option CV :=
 hold (E0 lb n 0 992 (sub (B Qam) [1,1,1,1,1,1,1,1]) (retK Tryz.prog (R Qam) 0 (outK (Qag Tryz.prog Qam))) ⟨fr 94 [(0, .val (.agg [.int .i64 jf, .list jg jh, .int .i64 ji, .int .i64 jj, .int .i64 ja, .int .i64 jc, .int .i64 jb, .list jd je])),(1, .ptr 0 1 0),(2, .val (.str [])),(3,vS kF),(5,vI oS),(6,vV jk),(7, .ptr 0 1 0),(8,vI jf),(9, .cptr js 0),(10,vV jn)],[bx 94 [(1,some [vI jf, .val (.list jg jh),vI ji,vI jj,vI ja,vI jc,vI jb, .val (.list jd je)])]],KK⟩)
theorem QkV (lb n:Nat) (jf:Int) (jg:Bool) (jh:LL) (ji jj ja jc jb:Int) (jd:Bool) (je:LL) (jk:CV) (js:List CV) (jn:CV) (kF:LB) (oS:Int) :
 QnW lb n jf jg jh ji jj ja jc jb jd je jk js jn kF oS =
 some (.str kF) := (Qac _).trans (by kernel_rfl)
theorem Qi8 (lb n gd:Nat) (jf:Int) (jg:Bool) (jh:LL) (ji jj ja jc jb:Int) (jd:Bool) (je:LL) (jk:CV) (js:List CV) (jn:CV) (vQ:LB) (kc:Int) :
 QjB lb n (gd + 1) jf jg jh ji jj ja jc jb jd je jk js jn vQ kc =
 bif (decide (kc < (je.length:Int))) then
 (chkO (decide (vQ.length + [32].length ≤ 9223372036854775807)) (
 optO (atL je kc) fun nK =>
 chkO (nK.length == 1) (
 optO (nK[0]?) fun sy =>
 optO (CV.asS sy) fun mw =>
 chkO (decide ((vQ ++ [32]).length + mw.length ≤ 9223372036854775807)) (
 QjB lb n gd jf jg jh ji jj ja jc jb jd je jk js jn ((vQ ++ [32]) ++ mw) (IntKind.wrap .i64 (kc + 1))))))
 else
 (QnW lb n jf jg jh ji jj ja jc jb jd je jk js jn vQ kc) := (Qac _).trans (by kernel_rfl)
theorem QkW (lb n:Nat) (jf:Int) (jg:Bool) (jh:LL) (ji jj ja jc jb:Int) (jd:Bool) (je:LL) (jk:CV) (js:List CV) (jn:CV) (ga:LB) :
 QgM lb n jf jg jh ji jj ja jc jb jd je jk js jn ga =
 QjB lb n n jf jg jh ji jj ja jc jb jd je jk js jn ga 0 := (Qac _).trans (by kernel_rfl)
theorem QkY (lb n:Nat) (jf:Int) (jg:Bool) (jh:LL) (ji jj ja jc jb:Int) (jd:Bool) (je:LL) (jk:CV) (js:List CV) (jn:CV) (vY:LB) :
 Qom lb n jf jg jh ji jj ja jc jb jd je jk js jn vY =
 optO (C lb n QaB [.int .i64 jf]) fun lI =>
 optO (CV.asI .i64 lI) fun zN =>
 bif (decide (zN > 1)) then
 (chkO (decide (vY.length + [32].length ≤ 9223372036854775807)) (
 optO (C lb n QcP [.int .i64 jj]) fun mc =>
 optO (CV.asS mc) fun nY =>
 chkO (decide ((vY ++ [32]).length + nY.length ≤ 9223372036854775807)) (
 QgM lb n jf jg jh ji jj ja jc jb jd je jk js jn ((vY ++ [32]) ++ nY))))
 else
 (QgM lb n jf jg jh ji jj ja jc jb jd je jk js jn vY) := (Qac _).trans (by kernel_rfl)
noncomputable def Qog (lb n:Nat) (jf:Int) (jg:Bool) (jh:LL) (ji jj ja jc jb:Int) (jd:Bool) (je:LL) (jn jk:CV) (js:List CV):Option CV :=
 hold (E0 lb n 0 994 (sub (B Qam) [1,1,1,1,1,1]) (retK Tryz.prog (R Qam) 0 (outK (Qag Tryz.prog Qam))) ⟨fr 94 [(0, .val (.agg [.int .i64 jf, .list jg jh, .int .i64 ji, .int .i64 jj, .int .i64 ja, .int .i64 jc, .int .i64 jb, .list jd je])),(1, .ptr 0 1 0),(2, .val (.str [])),(3,vV jn),(6,vV jk),(7, .ptr 0 1 0),(8,vI jf),(9, .cptr js 0),(10,vV jn)],[bx 94 [(1,some [vI jf, .val (.list jg jh),vI ji,vI jj,vI ja,vI jc,vI jb, .val (.list jd je)])]],KK⟩)
noncomputable def QnO (lb n:Nat) (jf:Int) (jg:Bool) (jh:LL) (ji jj ja jc jb:Int) (jd:Bool) (je:LL) (jn jk:CV) (js:List CV):Option CV :=
 hold (E0 lb n 0 993 (sub (B Qam) [1,1,1,1,1,1,1]) (retK Tryz.prog (R Qam) 0 (outK (Qag Tryz.prog Qam))) ⟨fr 94 [(0, .val (.agg [.int .i64 jf, .list jg jh, .int .i64 ji, .int .i64 jj, .int .i64 ja, .int .i64 jc, .int .i64 jb, .list jd je])),(1, .ptr 0 1 0),(2, .val (.str [])),(3,vV jn),(6,vV jk),(7, .ptr 0 1 0),(8,vI jf),(9, .cptr js 0),(10,vV jn)],[bx 94 [(1,some [vI jf, .val (.list jg jh),vI ji,vI jj,vI ja,vI jc,vI jb, .val (.list jd je)])]],KK⟩)
noncomputable def Qgc (lb n kW:Nat) (jf:Int) (jg:Bool) (jh:LL) (ji jj ja jc jb:Int) (jd:Bool) (je:LL) (jk:CV) (js:List CV) (jn vP:CV) (vi:Int):Option CV :=
 hold (Qau (E0 lb n 0 989) 0 (Qah (sub (B Qam) [1,1,1,1,1,1,1,0,1,0,0]) ++ []) [] (sub (B Qam) [1,1,1,1,1,1,1,0,1,0,0]) (Qak 2 (seqK (E0 lb n 0 992) (sub (B Qam) [1,1,1,1,1,1,1,0]) (sub (B Qam) [1,1,1,1,1,1,1,1]) (retK Tryz.prog (R Qam) 0 (outK (Qag Tryz.prog Qam))))) kW ⟨fr 94 [(0, .val (.agg [.int .i64 jf, .list jg jh, .int .i64 ji, .int .i64 jj, .int .i64 ja, .int .i64 jc, .int .i64 jb, .list jd je])),(1, .ptr 0 1 0),(2, .val (.str [])),(3,vV vP),(5,vI vi),(6,vV jk),(7, .ptr 0 1 0),(8,vI jf),(9, .cptr js 0),(10,vV jn)],[bx 94 [(1,some [vI jf, .val (.list jg jh),vI ji,vI jj,vI ja,vI jc,vI jb, .val (.list jd je)])]],KK⟩)
noncomputable def QmW (lb n:Nat) (jf:Int) (jg:Bool) (jh:LL) (ji jj ja jc jb:Int) (jd:Bool) (je:LL) (jk:CV) (js:List CV) (jn kR:CV) (oX:Int):Option CV :=
 hold (E0 lb n 0 992 (sub (B Qam) [1,1,1,1,1,1,1,1]) (retK Tryz.prog (R Qam) 0 (outK (Qag Tryz.prog Qam))) ⟨fr 94 [(0, .val (.agg [.int .i64 jf, .list jg jh, .int .i64 ji, .int .i64 jj, .int .i64 ja, .int .i64 jc, .int .i64 jb, .list jd je])),(1, .ptr 0 1 0),(2, .val (.str [])),(3,vV kR),(5,vI oX),(6,vV jk),(7, .ptr 0 1 0),(8,vI jf),(9, .cptr js 0),(10,vV jn)],[bx 94 [(1,some [vI jf, .val (.list jg jh),vI ji,vI jj,vI ja,vI jc,vI jb, .val (.list jd je)])]],KK⟩)
theorem QpM (lb n:Nat) (jf:Int) (jg:Bool) (jh:LL) (ji jj ja jc jb:Int) (jd:Bool) (je:LL) (jk:CV) (js:List CV) (jn kR:CV) (oX:Int) :
 QmW lb n jf jg jh ji jj ja jc jb jd je jk js jn kR oX =
 some (kR) := (Qac _).trans (by kernel_rfl)
theorem QiK (lb n kW:Nat) (jf:Int) (jg:Bool) (jh:LL) (ji jj ja jc jb:Int) (jd:Bool) (je:LL) (jk:CV) (js:List CV) (jn vP:CV) (vi:Int) :
 Qgc lb n (kW + 1) jf jg jh ji jj ja jc jb jd je jk js jn vP vi =
 bif (decide (vi < (je.length:Int))) then
 (optO (CV.asS vP) fun oU =>
 chkO (decide (oU.length + [32].length ≤ 9223372036854775807)) (
 optO (atL je vi) fun nh =>
 chkO (nh.length == 1) (
 optO (nh[0]?) fun pN =>
 optO (CV.asS pN) fun mU =>
 chkO (decide ((oU ++ [32]).length + mU.length ≤ 9223372036854775807)) (
 Qgc lb n kW jf jg jh ji jj ja jc jb jd je jk js jn (.str ((oU ++ [32]) ++ mU)) (IntKind.wrap .i64 (vi + 1))))))
 else
 (QmW lb n jf jg jh ji jj ja jc jb jd je jk js jn vP vi) := (Qac _).trans (by kernel_rfl)
theorem Qqt (lb n:Nat) (jf:Int) (jg:Bool) (jh:LL) (ji jj ja jc jb:Int) (jd:Bool) (je:LL) (jn jk:CV) (js:List CV) :
 QnO lb n jf jg jh ji jj ja jc jb jd je jn jk js =
 Qgc lb n n jf jg jh ji jj ja jc jb jd je jk js jn jn 0 := (Qac _).trans (by kernel_rfl)
theorem Qrc (lb n:Nat) (jf:Int) (jg:Bool) (jh:LL) (ji jj ja jc jb:Int) (jd:Bool) (je:LL) (jn jk:CV) (js:List CV) :
 Qog lb n jf jg jh ji jj ja jc jb jd je jn jk js =
 optO (C lb n QaB [.int .i64 jf]) fun n6 =>
 optO (CV.asI .i64 n6) fun sU =>
 bif (decide (sU > 1)) then
 (optO (CV.asS jn) fun oW =>
 chkO (decide (oW.length + [32].length ≤ 9223372036854775807)) (
 optO (C lb n QcP [.int .i64 jj]) fun sY =>
 optO (CV.asS sY) fun m8 =>
 chkO (decide ((oW ++ [32]).length + m8.length ≤ 9223372036854775807)) (
 QgM lb n jf jg jh ji jj ja jc jb jd je jk js jn ((oW ++ [32]) ++ m8))))
 else
 (QnO lb n jf jg jh ji jj ja jc jb jd je jn jk js ) := (Qac _).trans (by kernel_rfl)
theorem QdZ (lb n:Nat) (jf:Int) (jg:Bool) (jh:LL) (ji jj ja jc jb:Int) (jd:Bool) (je:LL) (jn jk:CV) (js:List CV) :
 QnX lb n jf jg jh ji jj ja jc jb jd je jn jk js =
 optO (C lb n QcD [.int .i64 jf]) fun mg =>
 optO (CV.asB mg) fun rq =>
 bif rq then
 (optO (CV.asS jn) fun mQ =>
 chkO (decide (mQ.length + [32].length ≤ 9223372036854775807)) (
 optO (C lb n QbY [.agg [.int .i64 ja, .int .i64 jc, .int .i64 jb]]) fun zO =>
 optO (CV.asS zO) fun nU =>
 chkO (decide ((mQ ++ [32]).length + nU.length ≤ 9223372036854775807)) (
 some (.str ((mQ ++ [32]) ++ nU)))))
 else
 (bif (jf == 8) then
 (optO (CV.asS jn) fun oB =>
 chkO (decide (oB.length + [32].length ≤ 9223372036854775807)) (
 optO (C lb n QhU [.int .i64 ji]) fun m7 =>
 optO (CV.asS m7) fun gH =>
 chkO (decide ((oB ++ [32]).length + gH.length ≤ 9223372036854775807)) (
 chkO (decide (((oB ++ [32]) ++ gH).length + [32].length ≤ 9223372036854775807)) (
 optO (C lb n QhU [.int .i64 jj]) fun z8 =>
 optO (CV.asS z8) fun nG =>
 chkO (decide ((((oB ++ [32]) ++ gH) ++ [32]).length + nG.length ≤ 9223372036854775807)) (
 some (.str ((((oB ++ [32]) ++ gH) ++ [32]) ++ nG)))))))
 else
 (optO (C lb n QaB [.int .i64 jf]) fun lG =>
 optO (CV.asI .i64 lG) fun i80 =>
 bif (decide (i80 > 0)) then
 (optO (CV.asS jn) fun mE =>
 chkO (decide (mE.length + [32].length ≤ 9223372036854775807)) (
 optO (C lb n QcP [.int .i64 ji]) fun ry =>
 optO (CV.asS ry) fun nS =>
 chkO (decide ((mE ++ [32]).length + nS.length ≤ 9223372036854775807)) (
 Qom lb n jf jg jh ji jj ja jc jb jd je jk js jn ((mE ++ [32]) ++ nS))))
 else
 (Qog lb n jf jg jh ji jj ja jc jb jd je jn jk js ))) := (Qac _).trans (by kernel_rfl)
theorem QvS (lb n:Nat) (jf:Int) (jg:Bool) (jh:LL) (ji jj ja jc jb:Int) (jd:Bool) (je:LL) :
 top lb n Qam [.agg [.int .i64 jf, .list jg jh, .int .i64 ji, .int .i64 jj, .int .i64 ja, .int .i64 jc, .int .i64 jb, .list jd je]] =
 optO (C lb n QeT []) fun jk =>
 optO (CV.asL jk) fun lN =>
 optO (atL lN.2 jf) fun js =>
 chkO (js.length == 1) (
 optO (js[0]?) fun jn =>
 optO (C lb n QgP [.int .i64 jf]) fun wi =>
 optO (CV.asB wi) fun yC =>
 bif yC then
 (QgY lb n n jf jg jh ji jj ja jc jb jd je jk js jn wi jn 0)
 else
 (QnX lb n jf jg jh ji jj ja jc jb jd je jn jk js )) := by kernel_rfl
theorem QuT (lb n:Nat) (jf:Int) (jg:Bool) (jh:LL) (ji jj ja jc jb:Int) (jd:Bool) (je:LL) :
 top lb n Qie [.agg [.int .i64 jf, .list jg jh, .int .i64 ji, .int .i64 jj, .int .i64 ja, .int .i64 jc, .int .i64 jb, .list jd je]] =
 optO (C lb n Qlc [.agg [.int .i64 jf, .list jg jh, .int .i64 ji, .int .i64 jj, .int .i64 ja, .int .i64 jc, .int .i64 jb, .list jd je]]) fun jk =>
 optO (CV.asI .i64 jk) fun jm =>
 bif (jm != 0) then
 (some (.tup [.str [],jk]))
 else
 (optO (C lb n Qam [.agg [.int .i64 jf, .list jg jh, .int .i64 ji, .int .i64 jj, .int .i64 ja, .int .i64 jc, .int .i64 jb, .list jd je]]) fun jr =>
 optO (CV.asS jr) fun wH =>
 bif (decide ((wH.length:Int) > 65536)) then
 (some (.tup [.str [], .int .i64 4]))
 else
 (some (.tup [jr, .int .i64 0]))) := by kernel_rfl
noncomputable def QhT (lb n yX:Nat) (a1:LB) (jv:Int):Option CV :=
 hold (Qau (E0 lb n 0 995) 0 (Qah (sub (B Qcb) [1,0,1,0,0]) ++ []) [] (sub (B Qcb) [1,0,1,0,0]) (Qak 0 (seqK (E0 lb n 0 998) (sub (B Qcb) [1,0]) (sub (B Qcb) [1,1]) (retK Tryz.prog (R Qcb) 0 (outK (Qag Tryz.prog Qcb))))) yX ⟨fr 17 [(0,vS a1),(2,vI 0),(3,vI jv)],[bx 17 []],KK⟩)
noncomputable def Qpw (lb n:Nat) (a1:LB) (yc:Int):Option CV :=
 hold (E0 lb n 0 998 (sub (B Qcb) [1,1]) (retK Tryz.prog (R Qcb) 0 (outK (Qag Tryz.prog Qcb))) ⟨fr 17 [(0,vS a1),(2,vI 0),(3,vI yc)],[bx 17 []],KK⟩)
theorem Qsy (lb n:Nat) (a1:LB) (yc:Int) :
 Qpw lb n a1 yc =
 some (.int .i64 0) := (Qac _).trans (by kernel_rfl)
theorem Qj2 (lb n yX:Nat) (a1:LB) (jv:Int) :
 QhT lb n (yX + 1) a1 jv =
 optO (C lb n QeT []) fun kl =>
 optO (CV.asL kl) fun zW =>
 bif (decide (jv < (zW.2.length:Int))) then
 (optO (C lb n QeT []) fun mb =>
 optO (CV.asL mb) fun zZ =>
 optO (atL zZ.2 jv) fun yh =>
 chkO (yh.length == 1) (
 optO (yh[0]?) fun ko =>
 optO (CV.asS ko) fun ns =>
 bif (ns == a1) then
 (some (.int .i64 jv))
 else
 (QhT lb n yX a1 (IntKind.wrap .i64 (jv + 1)))))
 else
 (Qpw lb n a1 jv) := (Qac _).trans (by kernel_rfl)
theorem QwP (lb n:Nat) (a1:LB) :
 top lb n Qcb [.str a1] =
 QhT lb n n a1 1 := by kernel_rfl
noncomputable def Qh2 (lb n:Nat) (jf:Int) (jg:Bool) (jh:LL) (ji jj ja jc jb:Int) (jd:Bool) (je:LL) (jM:Bool) (jz:LL) (j9:Bool) (wn:LL):Option CV :=
 hold (E0 lb n 0 998 (sub (B QbJ) [1,1]) (retK Tryz.prog (R QbJ) 0 (outK (Qag Tryz.prog QbJ))) ⟨fr 89 [(0, .val (.agg [.int .i64 jf, .list jg jh, .int .i64 ji, .int .i64 jj, .int .i64 ja, .int .i64 jc, .int .i64 jb, .list jd je])),(1, .val (.list jM jz)),(2, .ptr 0 2 0),(4, .ptr 0 4 0)],[bx 89 [(2,some [vI jf, .val (.list jg jh),vI ji,vI jj,vI ja,vI jc,vI jb, .val (.list j9 wn)]),(4,some [vI 0, .lst true true 27 [],vI 0,vI 0,vI 0,vI 0,vI 0, .lst true true 9 []])]],KK⟩)
noncomputable def QfO (lb n:Nat) (jf:Int) (jg:Bool) (jh:LL) (ji jj ja jc jb:Int) (jd:Bool) (je:LL) (jM:Bool) (jz:LL) (j9:Bool) (wn:LL) (wL ww wN:CV):Option CV :=
 hold (E0 lb n 0 997 (sub (B QbJ) [1,1,1]) (retK Tryz.prog (R QbJ) 0 (outK (Qag Tryz.prog QbJ))) ⟨fr 89 [(0, .val (.agg [.int .i64 jf, .list jg jh, .int .i64 ji, .int .i64 jj, .int .i64 ja, .int .i64 jc, .int .i64 jb, .list jd je])),(1, .val (.list jM jz)),(2, .ptr 0 2 0),(4, .ptr 0 4 0)],[bx 89 [(2,some [vI jf, .val (.list jg jh),vI ji,vI jj, .val wL, .val ww, .val wN, .val (.list j9 wn)]),(4,some [vI 0, .lst true true 27 [],vI 0,vI 0,vI 0,vI 0,vI 0, .lst true true 9 []])]],KK⟩)
noncomputable def Qf3 (lb n:Nat) (jf:Int) (jg:Bool) (jh:LL) (ji jj ja jc jb:Int) (jd:Bool) (je:LL) (jM:Bool) (jz:LL) (wL ww wN:CV) (j9:Bool) (wn:LL) (kp v51:CV):Option CV :=
 hold (E0 lb n 0 996 (sub (B QbJ) [1,1,1,1]) (retK Tryz.prog (R QbJ) 0 (outK (Qag Tryz.prog QbJ))) ⟨fr 89 [(0, .val (.agg [.int .i64 jf, .list jg jh, .int .i64 ji, .int .i64 jj, .int .i64 ja, .int .i64 jc, .int .i64 jb, .list jd je])),(1, .val (.list jM jz)),(2, .ptr 0 2 0),(4, .ptr 0 4 0)],[bx 89 [(2,some [vI jf, .val (.list jg jh), .val kp, .val v51, .val wL, .val ww, .val wN, .val (.list j9 wn)]),(4,some [vI 0, .lst true true 27 [],vI 0,vI 0,vI 0,vI 0,vI 0, .lst true true 9 []])]],KK⟩)
noncomputable def Qe0 (lb n:Nat) (jf:Int) (jg:Bool) (jh:LL) (ji jj ja jc jb:Int) (jd:Bool) (je:LL) (jM:Bool) (jz:LL) (v51 wL ww wN:CV) (j9:Bool) (wn:LL) (kr:CV):Option CV :=
 hold (E0 lb n 0 995 (sub (B QbJ) [1,1,1,1,1]) (retK Tryz.prog (R QbJ) 0 (outK (Qag Tryz.prog QbJ))) ⟨fr 89 [(0, .val (.agg [.int .i64 jf, .list jg jh, .int .i64 ji, .int .i64 jj, .int .i64 ja, .int .i64 jc, .int .i64 jb, .list jd je])),(1, .val (.list jM jz)),(2, .ptr 0 2 0),(4, .ptr 0 4 0)],[bx 89 [(2,some [vI jf, .val (.list jg jh), .val kr, .val v51, .val wL, .val ww, .val wN, .val (.list j9 wn)]),(4,some [vI 0, .lst true true 27 [],vI 0,vI 0,vI 0,vI 0,vI 0, .lst true true 9 []])]],KK⟩)
theorem Qsq (lb n:Nat) (jf:Int) (jg:Bool) (jh:LL) (ji jj ja jc jb:Int) (jd:Bool) (je:LL) (jM:Bool) (jz:LL) (v51 wL ww wN:CV) (j9:Bool) (wn:LL) (kr:CV) :
 Qe0 lb n jf jg jh ji jj ja jc jb jd je jM jz v51 wL ww wN j9 wn kr =
 bif (jf == 12) then
 (bif ((jz.length:Int) == 2) then
 (optO (atL jz 1) fun nV =>
 chkO (nV.length == 1) (
 optO (nV[0]?) fun rt =>
 optO (C lb n Qaz [rt]) fun gv =>
 optO (CV.asT gv) fun rf =>
 optO (rf[0]?) fun n3 =>
 optO (CV.asT gv) fun rj =>
 optO (rj[1]?) fun rP =>
 chkO (CV.isCell n3) (
 some (.agg [.int .i64 jf, .list jg jh,kr,n3,wL,ww,wN, .list j9 wn]))))
 else
 (some (.agg [.int .i64 jf, .list jg jh,kr,v51,wL,ww,wN, .list j9 wn])))
 else
 (some (.agg [.int .i64 jf, .list jg jh,kr,v51,wL,ww,wN, .list j9 wn])) := (Qac _).trans (by kernel_rfl)
theorem Qss (lb n:Nat) (jf:Int) (jg:Bool) (jh:LL) (ji jj ja jc jb:Int) (jd:Bool) (je:LL) (jM:Bool) (jz:LL) (wL ww wN:CV) (j9:Bool) (wn:LL) (kp v51:CV) :
 Qf3 lb n jf jg jh ji jj ja jc jb jd je jM jz wL ww wN j9 wn kp v51 =
 bif (jf != 8) then
 (optO (C lb n QaB [.int .i64 jf]) fun ma =>
 optO (CV.asI .i64 ma) fun i53 =>
 bif (decide (i53 > 0)) then
 (bif (decide ((jz.length:Int) > 0)) then
 (optO (atL jz 0) fun yM =>
 chkO (yM.length == 1) (
 optO (yM[0]?) fun yq =>
 optO (C lb n Qaz [yq]) fun gk =>
 optO (CV.asT gk) fun z7 =>
 optO (z7[0]?) fun yO =>
 optO (CV.asT gk) fun lV =>
 optO (lV[1]?) fun vc =>
 chkO (CV.isCell yO) (
 Qe0 lb n jf jg jh ji jj ja jc jb jd je jM jz v51 wL ww wN j9 wn yO)))
 else
 (Qe0 lb n jf jg jh ji jj ja jc jb jd je jM jz v51 wL ww wN j9 wn kp))
 else
 (Qe0 lb n jf jg jh ji jj ja jc jb jd je jM jz v51 wL ww wN j9 wn kp))
 else
 (Qe0 lb n jf jg jh ji jj ja jc jb jd je jM jz v51 wL ww wN j9 wn kp) := (Qac _).trans (by kernel_rfl)
theorem Qr6 (lb n:Nat) (jf:Int) (jg:Bool) (jh:LL) (ji jj ja jc jb:Int) (jd:Bool) (je:LL) (jM:Bool) (jz:LL) (j9:Bool) (wn:LL) (wL ww wN:CV) :
 QfO lb n jf jg jh ji jj ja jc jb jd je jM jz j9 wn wL ww wN =
 bif (jf == 8) then
 (bif ((jz.length:Int) == 2) then
 (optO (atL jz 0) fun gz =>
 chkO (gz.length == 1) (
 optO (gz[0]?) fun mO =>
 optO (C lb n Qfp [mO]) fun gi =>
 optO (CV.asT gi) fun rB =>
 optO (rB[0]?) fun yS =>
 optO (CV.asT gi) fun zD =>
 optO (zD[1]?) fun w3 =>
 chkO (CV.isCell yS) (
 optO (atL jz 1) fun nW =>
 chkO (nW.length == 1) (
 optO (nW[0]?) fun yt =>
 optO (C lb n Qfp [yt]) fun nO =>
 optO (CV.asT nO) fun t46 =>
 optO (t46[0]?) fun wZ =>
 optO (CV.asT nO) fun nD =>
 optO (nD[1]?) fun ks =>
 chkO (CV.isCell wZ) (
 Qf3 lb n jf jg jh ji jj ja jc jb jd je jM jz wL ww wN j9 wn yS wZ)))))
 else
 (Qf3 lb n jf jg jh ji jj ja jc jb jd je jM jz wL ww wN j9 wn (.int .i64 ji) (.int .i64 jj)))
 else
 (Qf3 lb n jf jg jh ji jj ja jc jb jd je jM jz wL ww wN j9 wn (.int .i64 ji) (.int .i64 jj)) := (Qac _).trans (by kernel_rfl)
theorem Qsi (lb n:Nat) (jf:Int) (jg:Bool) (jh:LL) (ji jj ja jc jb:Int) (jd:Bool) (je:LL) (jM:Bool) (jz:LL) (j9:Bool) (wn:LL) :
 Qh2 lb n jf jg jh ji jj ja jc jb jd je jM jz j9 wn =
 optO (C lb n QcD [.int .i64 jf]) fun yv =>
 optO (CV.asB yv) fun oC =>
 bif oC then
 (bif ((jz.length:Int) == 1) then
 (optO (atL jz 0) fun c21 =>
 chkO (c21.length == 1) (
 optO (c21[0]?) fun jH =>
 optO (C lb n Qal [jH]) fun yd =>
 optO (CV.asT yd) fun nE =>
 optO (nE[0]?) fun ko =>
 optO (CV.asT yd) fun nf =>
 optO (nf[1]?) fun gG =>
 optO (CV.asA ko) fun gw =>
 chkO (gw.length == 3) (
 optO (gw[0]?) fun kb =>
 optO (gw[1]?) fun ot =>
 optO (gw[2]?) fun oa =>
 QfO lb n jf jg jh ji jj ja jc jb jd je jM jz j9 wn kb ot oa)))
 else
 (QfO lb n jf jg jh ji jj ja jc jb jd je jM jz j9 wn (.int .i64 ja) (.int .i64 jc) (.int .i64 jb)))
 else
 (QfO lb n jf jg jh ji jj ja jc jb jd je jM jz j9 wn (.int .i64 ja) (.int .i64 jc) (.int .i64 jb)) := (Qac _).trans (by kernel_rfl)
theorem QwH (lb n:Nat) (jf:Int) (jg:Bool) (jh:LL) (ji jj ja jc jb:Int) (jd:Bool) (je:LL) (jM:Bool) (jz:LL) :
 top lb n QbJ [.agg [.int .i64 jf, .list jg jh, .int .i64 ji, .int .i64 jj, .int .i64 ja, .int .i64 jc, .int .i64 jb, .list jd je], .list jM jz] =
 optO (C lb n QeR [.int .i64 jf]) fun jr =>
 optO (CV.asB jr) fun vW =>
 bif vW then
 (Qh2 lb n jf jg jh ji jj ja jc jb jd je jM jz jM jz)
 else
 (Qh2 lb n jf jg jh ji jj ja jc jb jd je jM jz jd je) := by kernel_rfl
noncomputable def Qh4 (lb n wv:Nat) (a1:LB) (b2 c3 i6:Int):Option CV :=
 hold (Qau (E0 lb n 0 995) 0 (Qah (sub (B Qan) [1,1,0,0,0]) ++ []) [] (sub (B Qan) [1,1,0,0,0]) (Qak 0 (seqK (E0 lb n 0 997) (sub (B Qan) [1,1,0]) (sub (B Qan) [1,1,1]) (retK Tryz.prog (R Qan) 0 (outK (Qag Tryz.prog Qan))))) wv ⟨fr 104 [(0,vS a1),(1,vI b2),(2,vI c3),(6, .ptr 0 6 0),(7,vI 0),(8,vI i6),(12,vI b2)],[bx 104 [(6,some [vI 0, .lst true true 27 [],vI 0,vI 0,vI 0,vI 0,vI 0, .lst true true 9 []])]],KK⟩)
noncomputable def QfZ (lb n:Nat) (a1:LB) (b2 c3 jm:Int):Option CV :=
 hold (E0 lb n 0 997 (sub (B Qan) [1,1,1]) (retK Tryz.prog (R Qan) 0 (outK (Qag Tryz.prog Qan))) ⟨fr 104 [(0,vS a1),(1,vI b2),(2,vI c3),(6, .ptr 0 6 0),(7,vI 0),(8,vI jm),(12,vI b2)],[bx 104 [(6,some [vI 0, .lst true true 27 [],vI 0,vI 0,vI 0,vI 0,vI 0, .lst true true 9 []])]],KK⟩)
noncomputable def Qif (lb n wI:Nat) (a1:LB) (b2 c3 jm:Int) (jr:CV) (wb:Int) (wD:Bool) (wA:LL):Option CV :=
 hold (Qau (E0 lb n 0 990) 0 (Qah (sub (B Qan) [1,1,1,1,1,1,1,0,0,0]) ++ [11,11]) [] (sub (B Qan) [1,1,1,1,1,1,1,0,0,0]) (Qak 2 (seqK (E0 lb n 0 992) (sub (B Qan) [1,1,1,1,1,1,1,0]) (sub (B Qan) [1,1,1,1,1,1,1,1]) (retK Tryz.prog (R Qan) 0 (outK (Qag Tryz.prog Qan))))) wI ⟨fr 104 [(0,vS a1),(1,vI b2),(2,vI c3),(6, .ptr 0 6 0),(7,vI 0),(8,vI wb),(9, .ptr 0 9 0),(10, .lst true wD 9 wA),(12,vI b2),(31,vS a1),(32,vI b2),(33,vI jm),(34, .val (.str ((a1.take jm.toNat).drop b2.toNat))),(35,vV jr),(36, .val (.agg [jr, .list true [], .int .i64 0, .int .i64 0, .int .i64 0, .int .i64 0, .int .i64 0, .list true []]))],[bx 104 [(6,some [vI 0, .lst true true 27 [],vI 0,vI 0,vI 0,vI 0,vI 0, .lst true true 9 []]),(9,some [.val jr, .lst true true 27 [],vI 0,vI 0,vI 0,vI 0,vI 0, .lst true true 9 []])]],KK⟩)
noncomputable def Qh8 (lb n gb wI:Nat) (a1:LB) (b2 c3 wb:Int) (wD:Bool) (wA:LL) (jm:Int) (jr:CV) (wV:Int):Option CV :=
 hold (Qau (E0 lb n 0 984) 0 (Qah (sub (B Qan) [1,1,1,1,1,1,1,0,0,0,1,0,1,0,0,0]) ++ []) [] (sub (B Qan) [1,1,1,1,1,1,1,0,0,0,1,0,1,0,0,0]) (Qak 4 (seqK (E0 lb n 0 986) (sub (B Qan) [1,1,1,1,1,1,1,0,0,0,1,0,1,0]) (sub (B Qan) [1,1,1,1,1,1,1,0,0,0,1,0,1,1]) (Qak 3 (Qde 0 (Qah (sub (B Qan) [1,1,1,1,1,1,1,0,0,0]) ++ [11,11]) [] (Qau (E0 lb n 0 990) 0 (Qah (sub (B Qan) [1,1,1,1,1,1,1,0,0,0]) ++ [11,11]) [] (sub (B Qan) [1,1,1,1,1,1,1,0,0,0]) (Qak 2 (seqK (E0 lb n 0 992) (sub (B Qan) [1,1,1,1,1,1,1,0]) (sub (B Qan) [1,1,1,1,1,1,1,1]) (retK Tryz.prog (R Qan) 0 (outK (Qag Tryz.prog Qan))))) wI) (Qak 2 (seqK (E0 lb n 0 992) (sub (B Qan) [1,1,1,1,1,1,1,0]) (sub (B Qan) [1,1,1,1,1,1,1,1]) (retK Tryz.prog (R Qan) 0 (outK (Qag Tryz.prog Qan))))))))) gb ⟨fr 104 [(0,vS a1),(1,vI b2),(2,vI c3),(6, .ptr 0 6 0),(7,vI 0),(8,vI wb),(9, .ptr 0 9 0),(10, .lst true wD 9 wA),(11,vI wV),(12,vI b2),(31,vS a1),(32,vI b2),(33,vI jm),(34, .val (.str ((a1.take jm.toNat).drop b2.toNat))),(35,vV jr),(36, .val (.agg [jr, .list true [], .int .i64 0, .int .i64 0, .int .i64 0, .int .i64 0, .int .i64 0, .list true []])),(65,vI wb),(66, .val (.int .i64 (IntKind.wrap .i64 (wb + 1))))],[bx 104 [(6,some [vI 0, .lst true true 27 [],vI 0,vI 0,vI 0,vI 0,vI 0, .lst true true 9 []]),(9,some [.val jr, .lst true true 27 [],vI 0,vI 0,vI 0,vI 0,vI 0, .lst true true 9 []])]],KK⟩)
noncomputable def Qe3 (lb n wI:Nat) (a1:LB) (b2 c3 wb:Int) (wD:Bool) (wA:LL) (jm:Int) (jr:CV) (vK:Int):Option CV :=
 hold (E0 lb n 0 986 (sub (B Qan) [1,1,1,1,1,1,1,0,0,0,1,0,1,1]) (Qak 3 (Qde 0 (Qah (sub (B Qan) [1,1,1,1,1,1,1,0,0,0]) ++ [11,11]) [] (Qau (E0 lb n 0 990) 0 (Qah (sub (B Qan) [1,1,1,1,1,1,1,0,0,0]) ++ [11,11]) [] (sub (B Qan) [1,1,1,1,1,1,1,0,0,0]) (Qak 2 (seqK (E0 lb n 0 992) (sub (B Qan) [1,1,1,1,1,1,1,0]) (sub (B Qan) [1,1,1,1,1,1,1,1]) (retK Tryz.prog (R Qan) 0 (outK (Qag Tryz.prog Qan))))) wI) (Qak 2 (seqK (E0 lb n 0 992) (sub (B Qan) [1,1,1,1,1,1,1,0]) (sub (B Qan) [1,1,1,1,1,1,1,1]) (retK Tryz.prog (R Qan) 0 (outK (Qag Tryz.prog Qan))))))) ⟨fr 104 [(0,vS a1),(1,vI b2),(2,vI c3),(6, .ptr 0 6 0),(7,vI 0),(8,vI wb),(9, .ptr 0 9 0),(10, .lst true wD 9 wA),(11,vI vK),(12,vI b2),(31,vS a1),(32,vI b2),(33,vI jm),(34, .val (.str ((a1.take jm.toNat).drop b2.toNat))),(35,vV jr),(36, .val (.agg [jr, .list true [], .int .i64 0, .int .i64 0, .int .i64 0, .int .i64 0, .int .i64 0, .list true []])),(65,vI wb),(66, .val (.int .i64 (IntKind.wrap .i64 (wb + 1))))],[bx 104 [(6,some [vI 0, .lst true true 27 [],vI 0,vI 0,vI 0,vI 0,vI 0, .lst true true 9 []]),(9,some [.val jr, .lst true true 27 [],vI 0,vI 0,vI 0,vI 0,vI 0, .lst true true 9 []])]],KK⟩)
theorem QrY (lb n wI:Nat) (a1:LB) (b2 c3 wb:Int) (wD:Bool) (wA:LL) (jm:Int) (jr:CV) (vK:Int) :
 Qe3 lb n wI a1 b2 c3 wb wD wA jm jr vK =
 chkO (decide ((0:Int) ≤ vK ∧ vK ≤ (a1.length:Int))) (
 chkO (decide ((0:Int) ≤ (IntKind.wrap .i64 (wb + 1)) ∧ (IntKind.wrap .i64 (wb + 1)) ≤ vK)) (
 chkO (room (wA.length + 1) 16) (
 Qif lb n wI a1 b2 c3 jm jr vK (wD && false) (wA ++ [[CV.str ((a1.take vK.toNat).drop ((IntKind.wrap .i64 (wb + 1)).toNat))]])))) := (Qac _).trans (by kernel_rfl)
theorem Qkh (lb n gb wI:Nat) (a1:LB) (b2 c3 wb:Int) (wD:Bool) (wA:LL) (jm:Int) (jr:CV) (wV:Int) :
 Qh8 lb n (gb + 1) wI a1 b2 c3 wb wD wA jm jr wV =
 bif (decide (wV < (a1.length:Int))) then
 (optO (atS a1 wV) fun rp =>
 bif ((rp.toNat:Int) != 32) then
 (optO (atS a1 wV) fun c80 =>
 bif ((c80.toNat:Int) != 44) then
 (optO (atS a1 wV) fun lu =>
 bif ((lu.toNat:Int) != 41) then
 (Qh8 lb n gb wI a1 b2 c3 wb wD wA jm jr (IntKind.wrap .i64 (wV + 1)))
 else
 (Qe3 lb n wI a1 b2 c3 wb wD wA jm jr wV))
 else
 (Qe3 lb n wI a1 b2 c3 wb wD wA jm jr wV))
 else
 (Qe3 lb n wI a1 b2 c3 wb wD wA jm jr wV))
 else
 (Qe3 lb n wI a1 b2 c3 wb wD wA jm jr wV) := (Qac _).trans (by kernel_rfl)
noncomputable def Qih (lb n:Nat) (a1:LB) (b2 c3 jm:Int) (jr:CV) (o0:Int) (gt:Bool) (gg:LL):Option CV :=
 hold (E0 lb n 0 992 (sub (B Qan) [1,1,1,1,1,1,1,1]) (retK Tryz.prog (R Qan) 0 (outK (Qag Tryz.prog Qan))) ⟨fr 104 [(0,vS a1),(1,vI b2),(2,vI c3),(6, .ptr 0 6 0),(7,vI 0),(8,vI o0),(9, .ptr 0 9 0),(10, .lst true gt 9 gg),(12,vI b2),(31,vS a1),(32,vI b2),(33,vI jm),(34, .val (.str ((a1.take jm.toNat).drop b2.toNat))),(35,vV jr),(36, .val (.agg [jr, .list true [], .int .i64 0, .int .i64 0, .int .i64 0, .int .i64 0, .int .i64 0, .list true []]))],[bx 104 [(6,some [vI 0, .lst true true 27 [],vI 0,vI 0,vI 0,vI 0,vI 0, .lst true true 9 []]),(9,some [.val jr, .lst true true 27 [],vI 0,vI 0,vI 0,vI 0,vI 0, .lst true true 9 []])]],KK⟩)
theorem QrR (lb n:Nat) (a1:LB) (b2 c3 jm:Int) (jr:CV) (o0:Int) (gt:Bool) (gg:LL) :
 Qih lb n a1 b2 c3 jm jr o0 gt gg =
 optO (C lb n QbJ [.agg [jr, .list true [], .int .i64 0, .int .i64 0, .int .i64 0, .int .i64 0, .int .i64 0, .list true []], .list gt gg]) fun zB =>
 optO (CV.asA zB) fun wQ =>
 chkO (wQ.length == 8) (
 optO (wQ[0]?) fun mP =>
 optO (wQ[1]?) fun m6 =>
 optO (wQ[2]?) fun gM =>
 optO (wQ[3]?) fun nd =>
 optO (wQ[4]?) fun mZ =>
 optO (wQ[5]?) fun mV =>
 optO (wQ[6]?) fun nF =>
 optO (wQ[7]?) fun mj =>
 some (.tup [.agg [mP,m6,gM,nd,mZ,mV,nF,mj], .int .i64 o0])) := (Qac _).trans (by kernel_rfl)
theorem QjD (lb n wI:Nat) (a1:LB) (b2 c3 jm:Int) (jr:CV) (wb:Int) (wD:Bool) (wA:LL) :
 Qif lb n (wI + 1) a1 b2 c3 jm jr wb wD wA =
 bif (decide (wb < (a1.length:Int))) then
 (optO (atS a1 wb) fun zP =>
 bif ((zP.toNat:Int) == 32) then
 (Qh8 lb n n wI a1 b2 c3 wb wD wA jm jr (IntKind.wrap .i64 (wb + 1)))
 else
 (Qih lb n a1 b2 c3 jm jr wb wD wA))
 else
 (Qih lb n a1 b2 c3 jm jr wb wD wA) := (Qac _).trans (by kernel_rfl)
theorem QlR (lb n:Nat) (a1:LB) (b2 c3 jm:Int) :
 QfZ lb n a1 b2 c3 jm =
 chkO (decide ((0:Int) ≤ jm ∧ jm ≤ (a1.length:Int))) (
 chkO (decide ((0:Int) ≤ b2 ∧ b2 ≤ jm)) (
 optO (C lb n Qcb [.str ((a1.take jm.toNat).drop b2.toNat)]) fun jr =>
 chkO (CV.isCell jr) (
 bif (decide (c3 > 8)) then
 (some (.tup [.agg [jr, .list true [], .int .i64 0, .int .i64 0, .int .i64 0, .int .i64 0, .int .i64 0, .list true []], .int .i64 (-1)]))
 else
 (optO (CV.asI .i64 jr) fun we =>
 bif (we == 0) then
 (some (.tup [.agg [jr, .list true [], .int .i64 0, .int .i64 0, .int .i64 0, .int .i64 0, .int .i64 0, .list true []], .int .i64 (-1)]))
 else
 (optO (C lb n QgP [jr]) fun wi =>
 optO (CV.asB wi) fun yC =>
 bif yC then
 (optO (C lb n Qb7 [.agg [jr, .list true [], .int .i64 0, .int .i64 0, .int .i64 0, .int .i64 0, .int .i64 0, .list true []], .str a1, .int .i64 jm, .int .i64 c3]) fun yv =>
 optO (CV.asT yv) fun t20 =>
 optO (t20[0]?) fun om =>
 optO (CV.asT yv) fun oi =>
 optO (oi[1]?) fun oq =>
 optO (CV.asA om) fun yh =>
 chkO (yh.length == 8) (
 optO (yh[0]?) fun ko =>
 optO (yh[1]?) fun oG =>
 optO (yh[2]?) fun gG =>
 optO (yh[3]?) fun np =>
 optO (yh[4]?) fun kb =>
 optO (yh[5]?) fun ot =>
 optO (yh[6]?) fun oa =>
 optO (yh[7]?) fun mh =>
 some (.tup [.agg [ko,oG,gG,np,kb,ot,oa,mh],oq])))
 else
 (Qif lb n n a1 b2 c3 jm jr jm true [])))))) := (Qac _).trans (by kernel_rfl)
theorem QjL (lb n wv:Nat) (a1:LB) (b2 c3 i6:Int) :
 Qh4 lb n (wv + 1) a1 b2 c3 i6 =
 bif (decide (i6 < (a1.length:Int))) then
 (optO (atS a1 i6) fun vL =>
 bif (decide ((vL.toNat:Int) ≥ 97)) then
 (optO (atS a1 i6) fun oD =>
 bif (decide ((oD.toNat:Int) ≤ 122)) then
 (Qh4 lb n wv a1 b2 c3 (IntKind.wrap .i64 (i6 + 1)))
 else
 (QfZ lb n a1 b2 c3 i6))
 else
 (QfZ lb n a1 b2 c3 i6))
 else
 (QfZ lb n a1 b2 c3 i6) := (Qac _).trans (by kernel_rfl)
theorem QpE (lb n:Nat) (a1:LB) (b2 c3:Int) :
 top lb n Qan [.str a1, .int .i64 b2, .int .i64 c3] =
 Qh4 lb n n a1 b2 c3 b2 := by kernel_rfl
noncomputable def Qke (lb n oE:Nat) (jf:Int) (jg:Bool) (jh:LL) (ji jj ja jc jb:Int) (jd:Bool) (je:LL) (jD:LB) (j8 yj:Int):Option CV :=
 hold (Qau (E0 lb n 0 995) 0 (Qah (sub (B Qb7) [1,1,1,0,0]) ++ [11]) [10] (sub (B Qb7) [1,1,1,0,0]) (Qak 0 (retK Tryz.prog (R Qb7) 0 (outK (Qag Tryz.prog Qb7)))) oE ⟨fr 71 [(0, .val (.agg [.int .i64 jf, .list jg jh, .int .i64 ji, .int .i64 jj, .int .i64 ja, .int .i64 jc, .int .i64 jb, .list jd je])),(1,vS jD),(2, .val (.int .i64 (IntKind.wrap .i64 (j8 + 1)))),(3,vI yj),(4, .ptr 0 4 0),(8, .ptr 0 8 0),(9,vI 0),(23,vI j8),(24, .val (.int .i64 (IntKind.wrap .i64 (j8 + 1))))],[bx 71 [(4,some [vI jf, .val (.list jg jh),vI ji,vI jj,vI ja,vI jc,vI jb, .val (.list jd je)]),(8,some [vI 0, .lst true true 27 [],vI 0,vI 0,vI 0,vI 0,vI 0, .lst true true 9 []])]],KK⟩)
noncomputable def Qem (lb n vZ:Nat) (jf:Int) (jg:Bool) (jh:LL) (ji jj ja jc jb:Int) (jd:Bool) (je:LL) (jD:LB) (yj j8 kD:Int) (yg:LL):Option CV :=
 hold (Qau (E0 lb n 0 995) 0 (Qah (sub (B Qb7) [1,1,1,0,0]) ++ [11]) [10] (sub (B Qb7) [1,1,1,0,0]) (Qak 0 (retK Tryz.prog (R Qb7) 0 (outK (Qag Tryz.prog Qb7)))) vZ ⟨fr 71 [(0, .val (.agg [.int .i64 jf, .list jg jh, .int .i64 ji, .int .i64 jj, .int .i64 ja, .int .i64 jc, .int .i64 jb, .list jd je])),(1,vS jD),(2,vI kD),(3,vI yj),(4, .ptr 0 4 0),(8, .ptr 0 8 0),(9,vI 0),(23,vI j8),(24, .val (.int .i64 (IntKind.wrap .i64 (j8 + 1))))],[bx 71 [(4,some [vI jf, .lst true false 27 yg,vI ji,vI jj,vI ja,vI jc,vI jb, .val (.list jd je)]),(8,some [vI 0, .lst true true 27 [],vI 0,vI 0,vI 0,vI 0,vI 0, .lst true true 9 []])]],KK⟩)
theorem QcG (lb n vZ:Nat) (jf:Int) (jg:Bool) (jh:LL) (ji jj ja jc jb:Int) (jd:Bool) (je:LL) (jD:LB) (yj j8 kD:Int) (yg:LL) :
 Qem lb n (vZ + 1) jf jg jh ji jj ja jc jb jd je jD yj j8 kD yg =
 optO (C lb n Qan [.str jD, .int .i64 kD, .int .i64 (IntKind.wrap .i64 (yj + 1))]) fun mG =>
 optO (CV.asT mG) fun qs =>
 optO (qs[0]?) fun oP =>
 optO (CV.asT mG) fun po =>
 optO (po[1]?) fun yf =>
 optO (CV.asA oP) fun yK =>
 chkO (yK.length == 8) (
 optO (yK[0]?) fun vf =>
 optO (yK[1]?) fun ve =>
 optO (yK[2]?) fun vl =>
 optO (yK[3]?) fun vj =>
 optO (yK[4]?) fun vh =>
 optO (yK[5]?) fun vg =>
 optO (yK[6]?) fun vd =>
 optO (yK[7]?) fun vk =>
 optO (CV.asI .i64 yf) fun qW =>
 bif (decide (qW < 0)) then
 (some (.tup [.agg [.int .i64 jf, .list false yg, .int .i64 ji, .int .i64 jj, .int .i64 ja, .int .i64 jc, .int .i64 jb, .list jd je], .int .i64 (-1)]))
 else
 (chkO (room (yg.length + 1) 96) (
 optO (CV.asI .i64 yf) fun i145 =>
 bif (decide (i145 < (jD.length:Int))) then
 (optO (CV.asN yf) fun ph =>
 optO (atS jD ph) fun sS =>
 bif ((sS.toNat:Int) == 41) then
 (optO (CV.asI .i64 yf) fun sJ =>
 some (.tup [.agg [.int .i64 jf, .list false (yg ++ [[vf,ve,vl,vj,vh,vg,vd,vk]]), .int .i64 ji, .int .i64 jj, .int .i64 ja, .int .i64 jc, .int .i64 jb, .list jd je], .int .i64 (IntKind.wrap .i64 (sJ + 1))]))
 else
 (optO (CV.asI .i64 yf) fun zm =>
 bif (decide ((IntKind.wrap .i64 (zm + 1)) ≥ (jD.length:Int))) then
 (some (.tup [.agg [.int .i64 jf, .list false (yg ++ [[vf,ve,vl,vj,vh,vg,vd,vk]]), .int .i64 ji, .int .i64 jj, .int .i64 ja, .int .i64 jc, .int .i64 jb, .list jd je], .int .i64 (-1)]))
 else
 (optO (CV.asI .i64 yf) fun ky =>
 chkO (decide ((0:Int) ≤ (IntKind.wrap .i64 (ky + 2)) ∧ (IntKind.wrap .i64 (ky + 2)) ≤ (jD.length:Int))) (
 optO (CV.asN yf) fun oN =>
 chkO (decide ((0:Int) ≤ oN ∧ oN ≤ (IntKind.wrap .i64 (ky + 2)))) (
 bif (!(((jD.take ((IntKind.wrap .i64 (ky + 2)).toNat)).drop oN.toNat) == [44,32])) then
 (some (.tup [.agg [.int .i64 jf, .list false (yg ++ [[vf,ve,vl,vj,vh,vg,vd,vk]]), .int .i64 ji, .int .i64 jj, .int .i64 ja, .int .i64 jc, .int .i64 jb, .list jd je], .int .i64 (-1)]))
 else
 (optO (CV.asI .i64 yf) fun qD =>
 Qem lb n vZ jf jg jh ji jj ja jc jb jd je jD yj j8 (IntKind.wrap .i64 (qD + 2)) (yg ++ [[vf,ve,vl,vj,vh,vg,vd,vk]])))))))
 else
 (optO (CV.asI .i64 yf) fun pq =>
 bif (decide ((IntKind.wrap .i64 (pq + 1)) ≥ (jD.length:Int))) then
 (some (.tup [.agg [.int .i64 jf, .list false (yg ++ [[vf,ve,vl,vj,vh,vg,vd,vk]]), .int .i64 ji, .int .i64 jj, .int .i64 ja, .int .i64 jc, .int .i64 jb, .list jd je], .int .i64 (-1)]))
 else
 (optO (CV.asI .i64 yf) fun kV =>
 chkO (decide ((0:Int) ≤ (IntKind.wrap .i64 (kV + 2)) ∧ (IntKind.wrap .i64 (kV + 2)) ≤ (jD.length:Int))) (
 optO (CV.asN yf) fun oM =>
 chkO (decide ((0:Int) ≤ oM ∧ oM ≤ (IntKind.wrap .i64 (kV + 2)))) (
 bif (!(((jD.take ((IntKind.wrap .i64 (kV + 2)).toNat)).drop oM.toNat) == [44,32])) then
 (some (.tup [.agg [.int .i64 jf, .list false (yg ++ [[vf,ve,vl,vj,vh,vg,vd,vk]]), .int .i64 ji, .int .i64 jj, .int .i64 ja, .int .i64 jc, .int .i64 jb, .list jd je], .int .i64 (-1)]))
 else
 (optO (CV.asI .i64 yf) fun zt =>
 Qem lb n vZ jf jg jh ji jj ja jc jb jd je jD yj j8 (IntKind.wrap .i64 (zt + 2)) (yg ++ [[vf,ve,vl,vj,vh,vg,vd,vk]]))))))))) := (Qac _).trans (by kernel_rfl)
theorem QcI (lb n oE:Nat) (jf:Int) (jg:Bool) (jh:LL) (ji jj ja jc jb:Int) (jd:Bool) (je:LL) (jD:LB) (j8 yj:Int) :
 Qke lb n (oE + 1) jf jg jh ji jj ja jc jb jd je jD j8 yj =
 optO (C lb n Qan [.str jD, .int .i64 (IntKind.wrap .i64 (j8 + 1)), .int .i64 (IntKind.wrap .i64 (yj + 1))]) fun gu =>
 optO (CV.asT gu) fun nD =>
 optO (nD[0]?) fun ks =>
 optO (CV.asT gu) fun lQ =>
 optO (lQ[1]?) fun yi =>
 optO (CV.asA ks) fun yT =>
 chkO (yT.length == 8) (
 optO (yT[0]?) fun yA =>
 optO (yT[1]?) fun yZ =>
 optO (yT[2]?) fun yq =>
 optO (yT[3]?) fun yB =>
 optO (yT[4]?) fun wF =>
 optO (yT[5]?) fun yO =>
 optO (yT[6]?) fun vm =>
 optO (yT[7]?) fun vc =>
 optO (CV.asI .i64 yi) fun vb =>
 bif (decide (vb < 0)) then
 (some (.tup [.agg [.int .i64 jf, .list jg jh, .int .i64 ji, .int .i64 jj, .int .i64 ja, .int .i64 jc, .int .i64 jb, .list jd je], .int .i64 (-1)]))
 else
 (bif jg then
 (chkO (jh.isEmpty) (
 optO (CV.asI .i64 yi) fun zA =>
 bif (decide (zA < (jD.length:Int))) then
 (optO (CV.asN yi) fun vz =>
 optO (atS jD vz) fun lP =>
 bif ((lP.toNat:Int) == 41) then
 (optO (CV.asI .i64 yi) fun wo =>
 some (.tup [.agg [.int .i64 jf, .list false [[yA,yZ,yq,yB,wF,yO,vm,vc]], .int .i64 ji, .int .i64 jj, .int .i64 ja, .int .i64 jc, .int .i64 jb, .list jd je], .int .i64 (IntKind.wrap .i64 (wo + 1))]))
 else
 (optO (CV.asI .i64 yi) fun va =>
 bif (decide ((IntKind.wrap .i64 (va + 1)) ≥ (jD.length:Int))) then
 (some (.tup [.agg [.int .i64 jf, .list false [[yA,yZ,yq,yB,wF,yO,vm,vc]], .int .i64 ji, .int .i64 jj, .int .i64 ja, .int .i64 jc, .int .i64 jb, .list jd je], .int .i64 (-1)]))
 else
 (optO (CV.asI .i64 yi) fun yV =>
 chkO (decide ((0:Int) ≤ (IntKind.wrap .i64 (yV + 2)) ∧ (IntKind.wrap .i64 (yV + 2)) ≤ (jD.length:Int))) (
 optO (CV.asN yi) fun kh =>
 chkO (decide ((0:Int) ≤ kh ∧ kh ≤ (IntKind.wrap .i64 (yV + 2)))) (
 bif (!(((jD.take ((IntKind.wrap .i64 (yV + 2)).toNat)).drop kh.toNat) == [44,32])) then
 (some (.tup [.agg [.int .i64 jf, .list false [[yA,yZ,yq,yB,wF,yO,vm,vc]], .int .i64 ji, .int .i64 jj, .int .i64 ja, .int .i64 jc, .int .i64 jb, .list jd je], .int .i64 (-1)]))
 else
 (optO (CV.asI .i64 yi) fun vO =>
 Qem lb n oE jf jg jh ji jj ja jc jb jd je jD yj j8 (IntKind.wrap .i64 (vO + 2)) [[yA,yZ,yq,yB,wF,yO,vm,vc]]))))))
 else
 (optO (CV.asI .i64 yi) fun qM =>
 bif (decide ((IntKind.wrap .i64 (qM + 1)) ≥ (jD.length:Int))) then
 (some (.tup [.agg [.int .i64 jf, .list false [[yA,yZ,yq,yB,wF,yO,vm,vc]], .int .i64 ji, .int .i64 jj, .int .i64 ja, .int .i64 jc, .int .i64 jb, .list jd je], .int .i64 (-1)]))
 else
 (optO (CV.asI .i64 yi) fun kI =>
 chkO (decide ((0:Int) ≤ (IntKind.wrap .i64 (kI + 2)) ∧ (IntKind.wrap .i64 (kI + 2)) ≤ (jD.length:Int))) (
 optO (CV.asN yi) fun vX =>
 chkO (decide ((0:Int) ≤ vX ∧ vX ≤ (IntKind.wrap .i64 (kI + 2)))) (
 bif (!(((jD.take ((IntKind.wrap .i64 (kI + 2)).toNat)).drop vX.toNat) == [44,32])) then
 (some (.tup [.agg [.int .i64 jf, .list false [[yA,yZ,yq,yB,wF,yO,vm,vc]], .int .i64 ji, .int .i64 jj, .int .i64 ja, .int .i64 jc, .int .i64 jb, .list jd je], .int .i64 (-1)]))
 else
 (optO (CV.asI .i64 yi) fun zp =>
 Qem lb n oE jf jg jh ji jj ja jc jb jd je jD yj j8 (IntKind.wrap .i64 (zp + 2)) [[yA,yZ,yq,yB,wF,yO,vm,vc]])))))))
 else
 (none))) := (Qac _).trans (by kernel_rfl)
theorem QjG (lb n:Nat) (jf:Int) (jg:Bool) (jh:LL) (ji jj ja jc jb:Int) (jd:Bool) (je:LL) (jD:LB) (j8 yj:Int) :
 top lb n Qb7 [.agg [.int .i64 jf, .list jg jh, .int .i64 ji, .int .i64 jj, .int .i64 ja, .int .i64 jc, .int .i64 jb, .list jd je], .str jD, .int .i64 j8, .int .i64 yj] =
 bif (decide (j8 ≥ (jD.length:Int))) then
 (some (.tup [.agg [.int .i64 jf, .list jg jh, .int .i64 ji, .int .i64 jj, .int .i64 ja, .int .i64 jc, .int .i64 jb, .list jd je], .int .i64 (-1)]))
 else
 (optO (atS jD j8) fun jI =>
 bif ((jI.toNat:Int) != 40) then
 (some (.tup [.agg [.int .i64 jf, .list jg jh, .int .i64 ji, .int .i64 jj, .int .i64 ja, .int .i64 jc, .int .i64 jb, .list jd je], .int .i64 (-1)]))
 else
 (Qke lb n n jf jg jh ji jj ja jc jb jd je jD j8 yj )) := by kernel_rfl
theorem Qwm (lb n:Nat) (a1:LB) :
 top lb n Qlr [.str a1] =
 bif (decide ((a1.length:Int) > 65536)) then
 (some (.tup [.agg [.int .i64 0, .list true [], .int .i64 0, .int .i64 0, .int .i64 0, .int .i64 0, .int .i64 0, .list true []], .int .i64 3]))
 else
 (optO (C lb n Qan [.str a1, .int .i64 0, .int .i64 1]) fun r2 =>
 optO (CV.asT r2) fun t3 =>
 optO (t3[0]?) fun x4 =>
 optO (CV.asT r2) fun t5 =>
 optO (t5[1]?) fun x6 =>
 optO (CV.asA x4) fun c7 =>
 chkO (c7.length == 8) (
 optO (c7[0]?) fun x9 =>
 optO (c7[1]?) fun jt =>
 optO (c7[2]?) fun y4 =>
 optO (c7[3]?) fun jE =>
 optO (c7[4]?) fun yR =>
 optO (c7[5]?) fun y6 =>
 optO (c7[6]?) fun jn =>
 optO (c7[7]?) fun jJ =>
 optO (CV.asI .i64 x6) fun jC =>
 bif (jC != (a1.length:Int)) then
 (some (.tup [.agg [.int .i64 0, .list true [], .int .i64 0, .int .i64 0, .int .i64 0, .int .i64 0, .int .i64 0, .list true []], .int .i64 3]))
 else
 (optO (C lb n Qie [.agg [x9,jt,y4,jE,yR,y6,jn,jJ]]) fun yv =>
 optO (CV.asT yv) fun t20 =>
 optO (t20[0]?) fun om =>
 optO (CV.asT yv) fun oi =>
 optO (oi[1]?) fun oq =>
 optO (CV.asI .i64 oq) fun jZ =>
 bif (jZ != 0) then
 (some (.tup [.agg [.int .i64 0, .list true [], .int .i64 0, .int .i64 0, .int .i64 0, .int .i64 0, .int .i64 0, .list true []], .int .i64 3]))
 else
 (optO (CV.asS om) fun y8 =>
 bif (!(y8 == a1)) then
 (some (.tup [.agg [.int .i64 0, .list true [], .int .i64 0, .int .i64 0, .int .i64 0, .int .i64 0, .int .i64 0, .list true []], .int .i64 3]))
 else
 (some (.tup [.agg [x9,jt,y4,jE,yR,y6,jn,jJ], .int .i64 0])))))) := by kernel_rfl
end Go.Proofs
namespace Go.Proofs
open Go.Am
set_option maxRecDepth 100000
set_option linter.unusedVariables false
theorem Qo1 (lb n:Nat) (a1:Int) :
 top lb n QaO [.int .i64 a1] =
 bif (decide (a1 < 0)) then
 (some (.str []))
 else
 (bif (decide (a1 ≥ 1440)) then
 (some (.str []))
 else
 (optO (C lb n Qcm [.int .i64 (IntKind.wrap .i64 (Int.tdiv a1 60))]) fun r2 =>
 optO (CV.asS r2) fun s3 =>
 chkO (decide (s3.length + [58].length ≤ 9223372036854775807)) (
 optO (C lb n Qcm [.int .i64 (Int.tmod a1 60)]) fun r4 =>
 optO (CV.asS r4) fun s5 =>
 chkO (decide ((s3 ++ [58]).length + s5.length ≤ 9223372036854775807)) (
 some (.str ((s3 ++ [58]) ++ s5)))))) := by kernel_rfl
theorem Qnr (lb n:Nat) (a1:LB) :
 top lb n QcH [.str a1] =
 bif ((a1.length:Int) != 5) then
 (some (.tup [.int .i64 0, .int .i64 3]))
 else
 (optO (atS a1 2) fun c2 =>
 bif ((c2.toNat:Int) != 58) then
 (some (.tup [.int .i64 0, .int .i64 3]))
 else
 (chkO (decide ((0:Int) ≤ 2 ∧ 2 ≤ (a1.length:Int))) (
 optO (C lb n QaK [.str ((a1.take 2).drop 0)]) fun r3 =>
 optO (CV.asT r3) fun t4 =>
 optO (t4[0]?) fun x5 =>
 optO (CV.asT r3) fun t6 =>
 optO (t6[1]?) fun x7 =>
 chkO (decide ((0:Int) ≤ 3 ∧ 3 ≤ (a1.length:Int))) (
 optO (C lb n QaK [.str ((a1.take ((a1.length:Int).toNat)).drop 3)]) fun r9 =>
 optO (CV.asT r9) fun kY =>
 optO (kY[0]?) fun y4 =>
 optO (CV.asT r9) fun kf =>
 optO (kf[1]?) fun yR =>
 optO (CV.asB x7) fun ov =>
 bif (!ov) then
 (some (.tup [.int .i64 0, .int .i64 3]))
 else
 (optO (CV.asB yR) fun vW =>
 bif (!vW) then
 (some (.tup [.int .i64 0, .int .i64 3]))
 else
 (optO (CV.asI .i64 x5) fun jB =>
 bif (decide (jB > 23)) then
 (some (.tup [.int .i64 0, .int .i64 13]))
 else
 (optO (CV.asI .i64 y4) fun jC =>
 bif (decide (jC > 59)) then
 (some (.tup [.int .i64 0, .int .i64 13]))
 else
 (optO (CV.asI .i64 x5) fun jY =>
 optO (CV.asI .i64 y4) fun i20 =>
 some (.tup [.int .i64 (IntKind.wrap .i64 ((IntKind.wrap .i64 (60 * jY)) + i20)), .int .i64 0]))))))))) := by kernel_rfl
theorem Qv1 (lb n:Nat) (a1:Int) :
 top lb n QhU [.int .i64 a1] =
 bif (decide (a1 < 0)) then
 (some (.str []))
 else
 (bif (decide (a1 ≥ 1440)) then
 (some (.str []))
 else
 (optO (C lb n Qeu [.int .i64 (IntKind.wrap .i64 (Int.tdiv a1 60))]) fun r2 =>
 optO (CV.asS r2) fun s3 =>
 chkO (decide (s3.length + [58].length ≤ 9223372036854775807)) (
 optO (C lb n Qeu [.int .i64 (Int.tmod a1 60)]) fun r4 =>
 optO (CV.asS r4) fun s5 =>
 chkO (decide ((s3 ++ [58]).length + s5.length ≤ 9223372036854775807)) (
 some (.str ((s3 ++ [58]) ++ s5)))))) := by kernel_rfl
theorem QtU (lb n:Nat) (a1:LB) :
 top lb n Qfp [.str a1] =
 bif ((a1.length:Int) != 5) then
 (some (.tup [.int .i64 0, .int .i64 3]))
 else
 (optO (atS a1 2) fun c2 =>
 bif ((c2.toNat:Int) != 58) then
 (some (.tup [.int .i64 0, .int .i64 3]))
 else
 (optO (C lb n Qa3 [.str a1, .int .i64 0, .int .i64 2]) fun r3 =>
 optO (CV.asI .i64 r3) fun i4 =>
 bif (decide (i4 < 0)) then
 (some (.tup [.int .i64 0, .int .i64 3]))
 else
 (optO (C lb n Qa3 [.str a1, .int .i64 3, .int .i64 2]) fun r5 =>
 optO (CV.asI .i64 r5) fun i6 =>
 bif (decide (i6 < 0)) then
 (some (.tup [.int .i64 0, .int .i64 3]))
 else
 (optO (C lb n Qa3 [.str a1, .int .i64 0, .int .i64 2]) fun r7 =>
 optO (C lb n Qa3 [.str a1, .int .i64 3, .int .i64 2]) fun r9 =>
 optO (CV.asI .i64 r7) fun jv =>
 bif (decide (jv > 23)) then
 (some (.tup [.int .i64 0, .int .i64 13]))
 else
 (optO (CV.asI .i64 r9) fun wa =>
 bif (decide (wa > 59)) then
 (some (.tup [.int .i64 0, .int .i64 13]))
 else
 (optO (CV.asI .i64 r7) fun wu =>
 optO (CV.asI .i64 r9) fun jm =>
 some (.tup [.int .i64 (IntKind.wrap .i64 ((IntKind.wrap .i64 (60 * wu)) + jm)), .int .i64 0]))))))) := by kernel_rfl
end Go.Proofs
namespace Go.Proofs
open Go.Am
set_option maxRecDepth 100000
set_option linter.unusedVariables false
theorem QpZ (lb n:Nat) (jf:Int) (jg:Bool) (jh:LL) (ji jj ja jc jb:Int) (jd:Bool) (je:LL) (jD:LB) :
 top lb n Qk7 [.agg [.int .i64 jf, .list jg jh, .int .i64 ji, .int .i64 jj, .int .i64 ja, .int .i64 jc, .int .i64 jb, .list jd je], .str jD] =
 optO (C lb n QaT [.agg [.int .i64 jf, .list jg jh, .int .i64 ji, .int .i64 jj, .int .i64 ja, .int .i64 jc, .int .i64 jb, .list jd je]]) fun ou =>
 optO (CV.asB ou) fun ov =>
 bif ov then
 (optO (C lb n QeW []) fun yk =>
 some (yk))
 else
 (bif (decide ((jD.length:Int) > 4000)) then
 (optO (C lb n QeW []) fun wi =>
 some (wi))
 else
 (optO (C lb n Qg8 [.agg [.int .i64 jf, .list jg jh, .int .i64 ji, .int .i64 jj, .int .i64 ja, .int .i64 jc, .int .i64 jb, .list jd je]]) fun jA =>
 optO (CV.asT jA) fun y0 =>
 optO (y0[0]?) fun jq =>
 optO (CV.asT jA) fun t21 =>
 optO (t21[1]?) fun jH =>
 optO (C lb n Qie [.agg [.int .i64 jf, .list jg jh, .int .i64 ji, .int .i64 jj, .int .i64 ja, .int .i64 jc, .int .i64 jb, .list jd je]]) fun yd =>
 optO (CV.asT yd) fun nE =>
 optO (nE[0]?) fun ko =>
 optO (CV.asT yd) fun nf =>
 optO (nf[1]?) fun gG =>
 optO (C lb n QjE [.str jD]) fun nI =>
 optO (CV.asT nI) fun zQ =>
 optO (zQ[0]?) fun ot =>
 optO (CV.asT nI) fun t31 =>
 optO (t31[1]?) fun mh =>
 optO (CV.asA ot) fun yU =>
 chkO (yU.length == 8) (
 optO (yU[0]?) fun zC =>
 optO (yU[1]?) fun lL =>
 optO (yU[2]?) fun mO =>
 optO (yU[3]?) fun zY =>
 optO (yU[4]?) fun lX =>
 optO (yU[5]?) fun yS =>
 optO (yU[6]?) fun yl =>
 optO (yU[7]?) fun w3 =>
 optO (C lb n Qlr [.str jD]) fun gc =>
 optO (CV.asT gc) fun l6 =>
 optO (l6[0]?) fun yu =>
 optO (CV.asT gc) fun t46 =>
 optO (t46[1]?) fun wZ =>
 optO (CV.asA yu) fun wT =>
 chkO (wT.length == 8) (
 optO (wT[0]?) fun ks =>
 optO (wT[1]?) fun g0 =>
 optO (wT[2]?) fun yi =>
 optO (wT[3]?) fun ny =>
 optO (wT[4]?) fun yA =>
 optO (wT[5]?) fun yZ =>
 optO (wT[6]?) fun yq =>
 optO (wT[7]?) fun yB =>
 optO (CV.asS jq) fun lh =>
 optO (CV.asS ko) fun mL =>
 bif (lh == mL) then
 (optO (CV.asI .i64 jH) fun mr =>
 optO (CV.asI .i64 gG) fun ka =>
 bif (mr == ka) then
 (optO (C lb n QbS [.agg [zC,lL,mO,zY,lX,yS,yl,w3], .agg [ks,g0,yi,ny,yA,yZ,yq,yB]]) fun l0 =>
 optO (CV.asB l0) fun rl =>
 bif rl then
 (optO (CV.asI .i64 mh) fun vz =>
 optO (CV.asI .i64 wZ) fun y5 =>
 bif (vz == y5) then
 (optO (C lb n QeW []) fun l5 =>
 some (l5))
 else
 (some (.bool false)))
 else
 (some (.bool false)))
 else
 (some (.bool false)))
 else
 (some (.bool false)))))) := by kernel_rfl
end Go.Proofs
