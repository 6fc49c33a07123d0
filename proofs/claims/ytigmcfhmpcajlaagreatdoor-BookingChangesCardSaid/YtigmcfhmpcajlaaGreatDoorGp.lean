/- Equations of functions, printed by program. Conditions: none. -/
import Derived.Test.YtigmcfhmpcajlaaGreatDoorEv
namespace Go.Proofs
open Go.Am
set_option maxRecDepth 100000
set_option linter.unusedVariables false
noncomputable def booking_Parse_L1:=
 fun lb n (kp:Nat) o0 yi ko (vL:Bool) (vh:LL) kf (vG:Bool) (vf:LL) (vC:Bool) (vn:LL) kg v164=>
 hold (Qax (E0 lb n 0 992) 0 (Qak (sub (B QaR) [1,1,1,1,0,1,0,0])++ [7,8,9,10]) [] (sub (B QaR) [1,1,1,1,0,1,0,0]) (Qam 0 (seqK (E0 lb n 0 995) (sub (B QaR) [1,1,1,1,0]) (sub (B QaR) [1,1,1,1,1]) (retK Tryz.prog (R QaR) 0 (outK (Qae Tryz.prog QaR))))) kp ⟨fr 56 [(0,vV o0),(2, .ptr 0 2 0),(3,vI 0),(4,vI 0),(5, .ptr 0 5 0),(6,vI yi)],[bx 56 [(2,some [.val (.str []), .lst true true 89 [],vI 0, .lst true true 39 [], .lst true true 70 [],vI 0]),(5,some [.val ko, .lst true vL 89 vh, .val kf, .lst true vG 39 vf, .lst true vC 70 vn, .val kg, .val v164])]],KK⟩)
noncomputable def QjJ (lb n:Nat) (nG:CV) (kU:Int) (gS:CV) (mi:Bool) (gz:LL) (gw:CV) (gL:Bool) (md:LL) (gR:Bool) (mf:LL) (gO nU:CV):Option CV:=
 hold (E0 lb n 0 995 (sub (B QaR) [1,1,1,1,1]) (retK Tryz.prog (R QaR) 0 (outK (Qae Tryz.prog QaR))) ⟨fr 56 [(0,vV nG),(2, .ptr 0 2 0),(3,vI 0),(4,vI 0),(5, .ptr 0 5 0),(6,vI kU)],[bx 56 [(2,some [.val (.str []), .lst true true 89 [],vI 0, .lst true true 39 [], .lst true true 70 [],vI 0]),(5,some [.val gS, .lst true mi 89 gz, .val gw, .lst true gL 39 md, .lst true gR 70 mf, .val gO, .val nU])]],KK⟩)
theorem QmH (lb n:Nat) (nG:CV) (kU:Int) (gS:CV) (mi:Bool) (gz:LL) (gw:CV) (gL:Bool) (md:LL) (gR:Bool) (mf:LL) (gO nU:CV):
 QjJ lb n nG kU gS mi gz gw gL md gR mf gO nU=
 optO (C lb n Qac [.agg [gS, .list mi gz,gw, .list gL md, .list gR mf,gO]]) fun sc=>
 optO (CV.asL sc) fun lI=>
 bif (decide ((lI.2.length:Int)>0)) then
 (optO (CV.asL sc) fun tR=>
 optO (atL tR.2 0) fun qi=>
 chkO (qi.length==2) (
 optO (qi[0]?) fun nf=>
 some (.tup [.agg [.str [], .list true [], .int .i64 0, .list true [], .list true [], .int .i64 0], .int .i64 0,nf])))
 else
 (some (.tup [.agg [gS, .list mi gz,gw, .list gL md, .list gR mf,gO], .int .i64 0, .int .i64 0])):=(Qah _).trans (by kernel_rfl)
theorem QbE (lb n kp:Nat) (o0:CV) (yi:Int) (ko:CV) (vL:Bool) (vh:LL) (kf:CV) (vG:Bool) (vf:LL) (vC:Bool) (vn:LL) (kg v164:CV):
 booking_Parse_L1 lb n (kp+1) o0 yi ko vL vh kf vG vf vC vn kg v164=
 optO (CV.asS o0) fun uU=>
 bif (!(uU== [])) then
 (optO (C lb n Qcj [o0, .str [10]]) fun n9=>
 optO (CV.asT n9) fun rV=>
 optO (rV[0]?) fun mq=>
 optO (CV.asT n9) fun uc=>
 optO (uc[1]?) fun oo=>
 optO (CV.asT n9) fun tQ=>
 optO (tQ[2]?) fun rk=>
 optO (CV.asB rk) fun uo=>
 bif (!uo) then
 (some (.tup [.agg [.str [], .list true [], .int .i64 0, .list true [], .list true [], .int .i64 0], .int .i64 yi, .int .i64 3]))
 else
 (optO (C lb n QaY [mq]) fun qm=>
 optO (CV.asT qm) fun jaa=>
 optO (jaa[0]?) fun kF=>
 optO (CV.asT qm) fun uR=>
 optO (uR[1]?) fun n6=>
 optO (CV.asI .i64 n6) fun l4=>
 bif (l4 !=0) then
 (optO (CV.asI .i64 n6) fun ry=>
 bif (ry !=0) then
 (some (.tup [.agg [.str [], .list true [], .int .i64 0, .list true [], .list true [], .int .i64 0], .int .i64 yi,n6]))
 else
 (booking_Parse_L1 lb n kp  oo (IntKind.wrap .i64 (yi+1)) ko vL vh kf vG vf vC vn kg v164))
 else
 (optO (CV.asL kF) fun tO=>
 bif ((tO.2.length:Int)==0) then
 (some (.tup [.agg [.str [], .list true [], .int .i64 0, .list true [], .list true [], .int .i64 0], .int .i64 yi, .int .i64 3]))
 else
 (optO (CV.asL kF) fun u5=>
 optO (atL u5.2 0) fun qt=>
 chkO (qt.length==1) (
 optO (qt[0]?) fun tK=>
 optO (C lb n Qcq [.list false [[CV.str [98,111,111,107,105,110,103]],[CV.str [112,101,114,115,111,110]],[CV.str [115,101,103]],[CV.str [115,101,114,118,105,99,101]]],tK]) fun vc=>
 optO (CV.asI .i64 vc) fun uq=>
 bif (decide (uq<0)) then
 (some (.tup [.agg [.str [], .list true [], .int .i64 0, .list true [], .list true [], .int .i64 0], .int .i64 yi, .int .i64 3]))
 else
 (optO (CV.asI .i64 vc) fun rB=>
 bif (!((rB==0)==(yi==1))) then
 (some (.tup [.agg [.str [], .list true [], .int .i64 0, .list true [], .list true [], .int .i64 0], .int .i64 yi, .int .i64 3]))
 else
 (optO (CV.asI .i64 vc) fun rz=>
 optO (CV.asI .i64 v164) fun uG=>
 bif (decide (rz<uG)) then
 (some (.tup [.agg [.str [], .list true [], .int .i64 0, .list true [], .list true [], .int .i64 0], .int .i64 yi, .int .i64 3]))
 else
 (chkO (CV.isCell vc) (
 optO (CV.asL kF) fun rR=>
 optO (CV.asN vc) fun lF=>
 optO (atL [[CV.int .i64 4],[CV.int .i64 2],[CV.int .i64 11],[CV.int .i64 4]] lF) fun sx=>
 chkO (sx.length==1) (
 optO (sx[0]?) fun jak=>
 optO (CV.asI .i64 jak) fun rW=>
 bif ((rR.2.length:Int) !=rW) then
 (some (.tup [.agg [.str [], .list true [], .int .i64 0, .list true [], .list true [], .int .i64 0], .int .i64 yi, .int .i64 3]))
 else
 (optO (CV.asI .i64 vc) fun ll=>
 bif (ll==0) then
 (optO (CV.asL kF) fun gv=>
 chkO (gv.2.all (·.length==1)) (
 chkO (decide ((0:Int)≤2∧2≤(gv.2.length:Int))) (
 optO (C lb n Qeg [.list gv.1 ((gv.2.take ((gv.2.length:Int).toNat)).drop 2)]) fun qr=>
 optO (CV.asT qr) fun tG=>
 optO (tG[0]?) fun sz=>
 optO (CV.asT qr) fun lB=>
 optO (lB[1]?) fun ti=>
 optO (CV.asB ti) fun tC=>
 bif (!tC) then
 (some (.tup [.agg [.str [], .list true [], .int .i64 0, .list true [], .list true [], .int .i64 0], .int .i64 yi, .int .i64 3]))
 else
 (optO (CV.asL kF) fun rM=>
 optO (atL rM.2 1) fun q8=>
 chkO (q8.length==1) (
 optO (q8[0]?) fun pk=>
 optO (CV.asL sz) fun u9=>
 optO (atL u9.2 0) fun gE=>
 chkO (gE.length==1) (
 optO (gE[0]?) fun o4=>
 optO (CV.asL sz) fun tP=>
 optO (atL tP.2 1) fun sA=>
 chkO (sA.length==1) (
 optO (sA[0]?) fun pr=>
 chkO (CV.isCell pk) (
 chkO (CV.isCell o4) (
 chkO (CV.isCell pr) (
 optO (C lb n Qiw [.agg [pk, .list vL vh,pr, .list vG vf, .list vC vn,o4]]) fun pf=>
 optO (CV.asS pf) fun le=>
 optO (CV.asS mq) fun rt=>
 bif (!(le==rt)) then
 (some (.tup [.agg [.str [], .list true [], .int .i64 0, .list true [], .list true [], .int .i64 0], .int .i64 yi, .int .i64 3]))
 else
 (booking_Parse_L1 lb n kp  oo (IntKind.wrap .i64 (yi+1)) pk vL vh pr vG vf vC vn o4 vc)))))))))))
 else
 (optO (CV.asI .i64 vc) fun rd=>
 bif (rd==1) then
 (optO (CV.asL kF) fun zW=>
 optO (atL zW.2 1) fun s9=>
 chkO (s9.length==1) (
 optO (s9[0]?) fun uv=>
 optO (C lb n QiH [uv]) fun ze=>
 optO (CV.asT ze) fun u7=>
 optO (u7[0]?) fun rE=>
 optO (CV.asT ze) fun rD=>
 optO (rD[1]?) fun pp=>
 optO (CV.asA rE) fun mK=>
 chkO (mK.length==3) (
 optO (mK[0]?) fun za=>
 optO (mK[1]?) fun q9=>
 optO (mK[2]?) fun sr=>
 optO (CV.asI .i64 pp) fun rK=>
 bif (rK !=0) then
 (optO (CV.asI .i64 pp) fun ru=>
 bif (ru !=0) then
 (some (.tup [.agg [.str [], .list true [], .int .i64 0, .list true [], .list true [], .int .i64 0], .int .i64 yi,pp]))
 else
 (booking_Parse_L1 lb n kp  oo (IntKind.wrap .i64 (yi+1)) ko vL vh kf vG vf vC vn kg vc))
 else
 (chkO (room (vh.length+1) 48) (
 optO (C lb n QeE [.agg [za,q9,sr]]) fun ui=>
 optO (CV.asS ui) fun ug=>
 optO (CV.asS mq) fun lE=>
 bif (!(ug==lE)) then
 (some (.tup [.agg [.str [], .list true [], .int .i64 0, .list true [], .list true [], .int .i64 0], .int .i64 yi, .int .i64 3]))
 else
 (booking_Parse_L1 lb n kp  oo (IntKind.wrap .i64 (yi+1)) ko (vL&&false) (vh++ [[za,q9,sr]]) kf vG vf vC vn kg vc))))))
 else
 (optO (CV.asI .i64 vc) fun uT=>
 bif (uT==2) then
 (optO (C lb n QfY [kF]) fun zb=>
 optO (CV.asT zb) fun jal=>
 optO (jal[0]?) fun rZ=>
 optO (CV.asT zb) fun lw=>
 optO (lw[1]?) fun pA=>
 optO (CV.asA rZ) fun vR=>
 chkO (vR.length==10) (
 optO (vR[0]?) fun zh=>
 optO (vR[1]?) fun sf=>
 optO (vR[2]?) fun qD=>
 optO (vR[3]?) fun gV=>
 optO (vR[4]?) fun zf=>
 optO (vR[5]?) fun sU=>
 optO (vR[6]?) fun mQ=>
 optO (vR[7]?) fun sV=>
 optO (vR[8]?) fun zg=>
 optO (vR[9]?) fun g8=>
 optO (CV.asI .i64 pA) fun zZ=>
 bif (zZ !=0) then
 (optO (CV.asI .i64 pA) fun lL=>
 bif (lL !=0) then
 (some (.tup [.agg [.str [], .list true [], .int .i64 0, .list true [], .list true [], .int .i64 0], .int .i64 yi,pA]))
 else
 (booking_Parse_L1 lb n kp  oo (IntKind.wrap .i64 (yi+1)) ko vL vh kf vG vf vC vn kg vc))
 else
 (chkO (room (vf.length+1) 112) (
 optO (C lb n QfW [.agg [zh,sf,qD,gV,zf,sU,mQ,sV,zg,g8]]) fun th=>
 optO (CV.asS th) fun ro=>
 optO (CV.asS mq) fun uu=>
 bif (!(ro==uu)) then
 (some (.tup [.agg [.str [], .list true [], .int .i64 0, .list true [], .list true [], .int .i64 0], .int .i64 yi, .int .i64 3]))
 else
 (booking_Parse_L1 lb n kp  oo (IntKind.wrap .i64 (yi+1)) ko vL vh kf (vG&&false) (vf++ [[zh,sf,qD,gV,zf,sU,mQ,sV,zg,g8]]) vC vn kg vc)))))
 else
 (optO (CV.asL kF) fun gy=>
 chkO (gy.2.all (·.length==1)) (
 chkO (decide ((0:Int)≤2∧2≤(gy.2.length:Int))) (
 optO (C lb n Qeg [.list gy.1 ((gy.2.take ((gy.2.length:Int).toNat)).drop 2)]) fun sQ=>
 optO (CV.asT sQ) fun ra=>
 optO (ra[0]?) fun qN=>
 optO (CV.asT sQ) fun td=>
 optO (td[1]?) fun uA=>
 optO (CV.asB uA) fun rP=>
 bif (!rP) then
 (some (.tup [.agg [.str [], .list true [], .int .i64 0, .list true [], .list true [], .int .i64 0], .int .i64 yi, .int .i64 3]))
 else
 (optO (CV.asL kF) fun tj=>
 optO (atL tj.2 1) fun sG=>
 chkO (sG.length==1) (
 optO (sG[0]?) fun ml=>
 optO (CV.asL qN) fun lm=>
 optO (atL lm.2 0) fun sZ=>
 chkO (sZ.length==1) (
 optO (sZ[0]?) fun pu=>
 optO (CV.asL qN) fun lZ=>
 optO (atL lZ.2 1) fun sN=>
 chkO (sN.length==1) (
 optO (sN[0]?) fun n3=>
 chkO (CV.isCell ml) (
 chkO (CV.isCell pu) (
 chkO (CV.isCell n3) (
 chkO (room (vn.length+1) 32) (
 optO (C lb n QgI [.agg [ml,pu,n3]]) fun tL=>
 optO (CV.asS tL) fun lf=>
 optO (CV.asS mq) fun rc=>
 bif (!(lf==rc)) then
 (some (.tup [.agg [.str [], .list true [], .int .i64 0, .list true [], .list true [], .int .i64 0], .int .i64 yi, .int .i64 3]))
 else
 (booking_Parse_L1 lb n kp  oo (IntKind.wrap .i64 (yi+1)) ko vL vh kf vG vf (vC&&false) (vn++ [[ml,pu,n3]]) kg vc)))))))))))))))))))))))))
 else
 (QjJ lb n  o0 yi ko vL vh kf vG vf vC vn kg v164):=(Qah _).trans (by kernel_rfl)
theorem Qo7 (lb n:Nat) (a1:LB):
 top lb n QaR [.str a1]=
 bif (decide ((a1.length:Int)>65536)) then
 (some (.tup [.agg [.str [], .list true [], .int .i64 0, .list true [], .list true [], .int .i64 0], .int .i64 0, .int .i64 4]))
 else
 (bif (a1== []) then
 (some (.tup [.agg [.str [], .list true [], .int .i64 0, .list true [], .list true [], .int .i64 0], .int .i64 1, .int .i64 3]))
 else
 (booking_Parse_L1 lb n n  (.str a1) 1 (.str []) true [] (.int .i64 0) true [] true [] (.int .i64 0) (.int .i64 0))):=by kernel_rfl
end Go.Proofs
