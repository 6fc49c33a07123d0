/- Equations of functions, printed by program. Conditions: none. -/
import Derived.Test.YtigmcfhmpcajlaaGreatDoorEv
namespace Go.Proofs
open Go.Am
set_option maxRecDepth 100000
set_option linter.unusedVariables false
theorem Qra (lb n) (a1 b2:Int):
 top lb n QeI [.int .i64 a1, .int .i64 b2]=
 optO (C lb n QhI [.int .i64 a1, .int .i64 b2]) fun r3=>
 optO (CV.asI .i64 r3) fun i4=>
 bif (i4==0) then
 (some (.tup [.int .i64 0, .int .i64 10]))
 else
 (some (.tup [r3, .int .i64 0])):=by kernel_rfl
theorem Qp7 (lb n) (a1 b2:Int):
 top lb n QhI [.int .i64 a1, .int .i64 b2]=
 bif (a1==0) then
 (bif (b2==1) then
 (some (.int .i64 1))
 else
 (bif (b2==2) then
 (some (.int .i64 2))
 else
 (some (.int .i64 0))))
 else
 (bif (a1==3) then
 (bif (b2==7) then
 (some (.int .i64 1))
 else
 (bif (b2==5) then
 (some (.int .i64 4))
 else
 (optO (C lb n QcV [.int .i64 b2]) fun r3=>
 some (r3))))
 else
 (bif (a1==4) then
 (bif (b2==7) then
 (some (.int .i64 1))
 else
 (bif (b2==5) then
 (some (.int .i64 4))
 else
 (optO (C lb n QcV [.int .i64 b2]) fun r4=>
 some (r4))))
 else
 (bif (a1==1) then
 (bif (b2==5) then
 (some (.int .i64 4))
 else
 (optO (C lb n QcV [.int .i64 b2]) fun r5=>
 some (r5)))
 else
 (bif (a1==2) then
 (bif (b2==3) then
 (some (.int .i64 3))
 else
 (bif (b2==4) then
 (some (.int .i64 6))
 else
 (optO (C lb n QcV [.int .i64 b2]) fun r6=>
 some (r6))))
 else
 (bif (a1==5) then
 (bif (b2==1) then
 (some (.int .i64 1))
 else
 (bif (b2==8) then
 (some (.int .i64 7))
 else
 (some (.int .i64 0))))
 else
 (bif (a1==6) then
 (bif (b2==8) then
 (some (.int .i64 7))
 else
 (some (.int .i64 0)))
 else
 (some (.int .i64 0)))))))):=by kernel_rfl
theorem Qol (lb n) (a1:Int):
 top lb n QcV [.int .i64 a1]=
 bif (a1==6) then
 (some (.int .i64 5))
 else
 (bif (a1==8) then
 (some (.int .i64 7))
 else
 (some (.int .i64 0))):=by kernel_rfl
theorem Qq6 (lb n) (a1:Int):
 top lb n QiO [.int .i64 a1]=
 bif (decide (a1<1)) then
 (some (.tup [.str [], .int .i64 8]))
 else
 (bif (decide (a1>7)) then
 (some (.tup [.str [], .int .i64 8]))
 else
 (chkO (decide ((0:Int)≤(IntKind.wrap .i64 (2*a1))∧(IntKind.wrap .i64 (2*a1))≤14)) (
 chkO (decide ((0:Int)≤(IntKind.wrap .i64 ((IntKind.wrap .i64 (2*a1))-2))∧(IntKind.wrap .i64 ((IntKind.wrap .i64 (2*a1))-2))≤(IntKind.wrap .i64 (2*a1)))) (
 some (.tup [.str ((([72,75,72,76,75,76,84,75,85,78,85,67,88,88]:LB).take ((IntKind.wrap .i64 (2*a1)).toNat)).drop ((IntKind.wrap .i64 ((IntKind.wrap .i64 (2*a1))-2)).toNat)), .int .i64 0]))))):=by kernel_rfl
noncomputable def marry_Check_L1:=
 fun lb n (ka:Nat) (jk:Bool) (a2:LL) i6=>
 hold (Qax (E0 lb n 0 995) 0 (Qak (sub (B QaQ) [1,0,1,0,0])++ [4]) [] (sub (B QaQ) [1,0,1,0,0]) (Qam 0 (seqK (E0 lb n 0 998) (sub (B QaQ) [1,0]) (sub (B QaQ) [1,1]) (retK Tryz.prog (R QaQ) 0 (outK (Qae Tryz.prog QaQ))))) ka ⟨fr 51 [(0, .val (.list jk a2)),(2,vI 0),(8, .val (.list jk a2)),(9, .val (.int .i64 (a2.length:Int))),(10,vI i6)],[bx 51 []],KK⟩)
noncomputable def Qk2 (lb n:Nat) (jk:Bool) (a2:LL):Option CV:=
 hold (E0 lb n 0 998 (sub (B QaQ) [1,1]) (retK Tryz.prog (R QaQ) 0 (outK (Qae Tryz.prog QaQ))) ⟨fr 51 [(0, .val (.list jk a2)),(2,vI 0)],[bx 51 []],KK⟩)
noncomputable def QdG (lb n nA:Nat) (jk:Bool) (a2:LL) (wd:CV) (gc:Bool×LL) (yD:Int):Option CV:=
 hold (Qax (E0 lb n 0 994) 0 (Qak (sub (B QaQ) [1,1,0,1,0,0])++ [6,7]) [] (sub (B QaQ) [1,1,0,1,0,0]) (Qam 2 (seqK (E0 lb n 0 997) (sub (B QaQ) [1,1,0]) (sub (B QaQ) [1,1,1]) (retK Tryz.prog (R QaQ) 0 (outK (Qae Tryz.prog QaQ))))) nA ⟨fr 51 [(0, .val (.list jk a2)),(2,vI 0),(17, .val (.list jk a2)),(18,vV wd),(19, .val (.int .i64 (gc.2.length:Int))),(20,vI yD)],[bx 51 []],KK⟩)
noncomputable def Qlr (lb n:Nat) (jk:Bool) (a2:LL):Option CV:=
 hold (E0 lb n 0 997 (sub (B QaQ) [1,1,1]) (retK Tryz.prog (R QaQ) 0 (outK (Qae Tryz.prog QaQ))) ⟨fr 51 [(0, .val (.list jk a2)),(2,vI 0)],[bx 51 []],KK⟩)
theorem Qoi (lb n:Nat) (jk:Bool) (a2:LL):
 Qlr lb n jk a2=
 some (.int .i64 0):=(Qah _).trans (by kernel_rfl)
theorem Qhu (lb n nA:Nat) (jk:Bool) (a2:LL) (wd:CV) (gc:Bool×LL) (yD:Int):
 QdG lb n (nA+1) jk a2 wd gc yD=
 bif (decide (yD<(gc.2.length:Int))) then
 (optO (CV.asL wd) fun p58=>
 optO (atL p58.2 yD) fun nv=>
 chkO (nv.length==1) (
 optO (nv[0]?) fun wu=>
 optO (CV.asL wu) fun p61=>
 optO (atL p61.2 0) fun gx=>
 chkO (gx.length==1) (
 optO (gx[0]?) fun wx=>
 optO (CV.asN wx) fun i65=>
 optO (atL a2 i65) fun nx=>
 chkO (nx.length==1) (
 optO (nx[0]?) fun p7=>
 optO (CV.asI .i64 p7) fun gk=>
 bif (decide (gk>0)) then
 (optO (CV.asL wu) fun p69=>
 bif ((p69.2.length:Int)==1) then
 (some (.int .i64 18))
 else
 (optO (CV.asL wu) fun p70=>
 optO (CV.asL wu) fun p71=>
 optO (atL p71.2 (IntKind.wrap .i64 ((p70.2.length:Int)-1))) fun zA=>
 chkO (zA.length==1) (
 optO (zA[0]?) fun sJ=>
 optO (CV.asI .i64 sJ) fun sP=>
 chkO (a2.all (·.length==1)) (
 chkO (decide ((0:Int)≤(IntKind.wrap .i64 (sP+1))∧(IntKind.wrap .i64 (sP+1))≤(a2.length:Int))) (
 optO (C lb n Qdd [.list jk ((a2.take ((a2.length:Int).toNat)).drop ((IntKind.wrap .i64 (sP+1)).toNat)),p7]) fun qS=>
 optO (CV.asB qS) fun qp=>
 bif qp then
 (some (.int .i64 18))
 else
 (QdG lb n nA jk a2 wd gc (IntKind.wrap .i64 (yD+1))))))))
 else
 (QdG lb n nA jk a2 wd gc (IntKind.wrap .i64 (yD+1)))))))
 else
 (Qlr lb n jk a2):=(Qah _).trans (by kernel_rfl)
theorem Qn2 (lb n:Nat) (jk:Bool) (a2:LL):
 Qk2 lb n jk a2=
 optO (C lb n Qel [.list jk a2]) fun wd=>
 optO (CV.asL wd) fun gc=>
 QdG lb n n jk a2 wd gc 0:=(Qah _).trans (by kernel_rfl)
theorem QhA (lb n ka:Nat) (jk:Bool) (a2:LL) (i6:Int):
 marry_Check_L1 lb n (ka+1) jk a2 i6=
 bif (decide (i6<(a2.length:Int))) then
 (optO (atL a2 i6) fun jo=>
 chkO (jo.length==1) (
 optO (jo[0]?) fun mg=>
 optO (CV.asI .i64 mg) fun o9=>
 bif (decide (o9<0)) then
 (some (.int .i64 2))
 else
 (marry_Check_L1 lb n ka jk a2 (IntKind.wrap .i64 (i6+1)))))
 else
 (Qk2 lb n jk a2):=(Qah _).trans (by kernel_rfl)
theorem Qrx (lb n:Nat) (jk:Bool) (a2:LL):
 top lb n QaQ [.list jk a2]=
 marry_Check_L1 lb n n jk a2 0:=by kernel_rfl
theorem Qp3 (lb n:Nat) (jk:Bool) (a2:LL):
 top lb n Qh1 [.list jk a2]=
 optO (C lb n QaQ [.list jk a2]) fun r3=>
 optO (CV.asI .i64 r3) fun i4=>
 bif (i4 !=0) then
 (some (.tup [.list true [],r3]))
 else
 (optO (C lb n Qel [.list jk a2]) fun r5=>
 some (.tup [r5, .int .i64 0])):=by kernel_rfl
noncomputable def Qgf (lb n pN:Nat) (jk:Bool) (a2:LL) (b3:Int) (x6 x9 r4:CV) (gD:Bool×LL) (vp:Int):Option CV:=
 hold (Qax (E0 lb n 0 993) 0 (Qak (sub (B QbM) [1,1,1,0,1,0,0])++ [9]) [] (sub (B QbM) [1,1,1,0,1,0,0]) (Qam 0 (seqK (E0 lb n 0 996) (sub (B QbM) [1,1,1,0]) (sub (B QbM) [1,1,1,1]) (retK Tryz.prog (R QbM) 0 (outK (Qae Tryz.prog QbM))))) pN ⟨fr 29 [(0, .val (.list jk a2)),(1,vI b3),(4, .lst true true 3 []),(5,vI 0),(6,vV x6),(7,vV x9),(10,vV r4),(11, .val (.list jk a2)),(12,vV r4),(13,vV x6),(14,vV x9),(18,vV x6),(19, .val (.int .i64 (gD.2.length:Int))),(20,vI vp)],[bx 29 []],KK⟩)
noncomputable def Qmk (lb n:Nat) (jk:Bool) (a2:LL) (b3:Int) (x6 x9 r4:CV):Option CV:=
 hold (E0 lb n 0 996 (sub (B QbM) [1,1,1,1]) (retK Tryz.prog (R QbM) 0 (outK (Qae Tryz.prog QbM))) ⟨fr 29 [(0, .val (.list jk a2)),(1,vI b3),(4, .lst true true 3 []),(5,vI 0),(6,vV x6),(7,vV x9),(10,vV r4),(11, .val (.list jk a2)),(12,vV r4),(13,vV x6),(14,vV x9)],[bx 29 []],KK⟩)
theorem Qpt (lb n:Nat) (jk:Bool) (a2:LL) (b3:Int) (x6 x9 r4:CV):
 Qmk lb n jk a2 b3 x6 x9 r4=
 some (.tup [.list true [], .int .i64 2]):=(Qah _).trans (by kernel_rfl)
theorem Qir (lb n pN:Nat) (jk:Bool) (a2:LL) (b3:Int) (x6 x9 r4:CV) (gD:Bool×LL) (vp:Int):
 Qgf lb n (pN+1) jk a2 b3 x6 x9 r4 gD vp=
 bif (decide (vp<(gD.2.length:Int))) then
 (optO (CV.asL x6) fun p25=>
 optO (atL p25.2 vp) fun kE=>
 chkO (kE.length==1) (
 optO (kE[0]?) fun jV=>
 optO (C lb n Qdd [jV, .int .i64 b3]) fun pW=>
 optO (CV.asB pW) fun b29=>
 bif b29 then
 (some (.tup [jV, .int .i64 0]))
 else
 (Qgf lb n pN jk a2 b3 x6 x9 r4 gD (IntKind.wrap .i64 (vp+1)))))
 else
 (Qmk lb n jk a2 b3 x6 x9 r4):=(Qah _).trans (by kernel_rfl)
theorem Qmh (lb n:Nat) (jk:Bool) (a2:LL) (b3:Int):
 top lb n QbM [.list jk a2, .int .i64 b3]=
 optO (C lb n Qh1 [.list jk a2]) fun r4=>
 optO (CV.asT r4) fun t5=>
 optO (t5[0]?) fun x6=>
 optO (CV.asT r4) fun t7=>
 optO (t7[1]?) fun x9=>
 optO (CV.asI .i64 x9) fun qs=>
 bif (qs !=0) then
 (some (.tup [.list true [],x9]))
 else
 (optO (CV.asL x6) fun gD=>
 Qgf lb n n jk a2 b3 x6 x9 r4 gD 0):=by kernel_rfl
theorem QkP (lb n:Nat) (jk:Bool) (a2:LL) (b3:Int):
 top lb n Qdd [.list jk a2, .int .i64 b3]=
 optO (C lb n QaZ [.list jk a2, .int .i64 b3]) fun r4=>
 optO (CV.asI .i64 r4) fun i5=>
 some (.bool (decide (i5≥0))):=by kernel_rfl
noncomputable def QdT (lb n pK:Nat) (jk:Bool) (a2:LL) (b3 i7:Int):Option CV:=
 hold (Qax (E0 lb n 0 995) 0 (Qak (sub (B QaZ) [1,0,1,0,0])++ [5]) [] (sub (B QaZ) [1,0,1,0,0]) (Qam 0 (seqK (E0 lb n 0 998) (sub (B QaZ) [1,0]) (sub (B QaZ) [1,1]) (retK Tryz.prog (R QaZ) 0 (outK (Qae Tryz.prog QaZ))))) pK ⟨fr 19 [(0, .val (.list jk a2)),(1,vI b3),(4,vI 0),(6, .val (.list jk a2)),(7, .val (.int .i64 (a2.length:Int))),(8,vI i7)],[bx 19 []],KK⟩)
noncomputable def Qhw (lb n:Nat) (jk:Bool) (a2:LL) (b3:Int):Option CV:=
 hold (E0 lb n 0 998 (sub (B QaZ) [1,1]) (retK Tryz.prog (R QaZ) 0 (outK (Qae Tryz.prog QaZ))) ⟨fr 19 [(0, .val (.list jk a2)),(1,vI b3),(4,vI 0)],[bx 19 []],KK⟩)
theorem QkX (lb n:Nat) (jk:Bool) (a2:LL) (b3:Int):
 Qhw lb n jk a2 b3=
 some (.int .i64 (-1)):=(Qah _).trans (by kernel_rfl)
theorem QfE (lb n pK:Nat) (jk:Bool) (a2:LL) (b3 i7:Int):
 QdT lb n (pK+1) jk a2 b3 i7=
 bif (decide (i7<(a2.length:Int))) then
 (optO (atL a2 i7) fun wv=>
 chkO (wv.length==1) (
 optO (wv[0]?) fun wL=>
 optO (CV.asI .i64 wL) fun wj=>
 bif (b3==wj) then
 (some (.int .i64 i7))
 else
 (QdT lb n pK jk a2 b3 (IntKind.wrap .i64 (i7+1)))))
 else
 (Qhw lb n jk a2 b3):=(Qah _).trans (by kernel_rfl)
theorem QmP (lb n:Nat) (jk:Bool) (a2:LL) (b3:Int):
 top lb n QaZ [.list jk a2, .int .i64 b3]=
 QdT lb n n jk a2 b3 0:=by kernel_rfl
noncomputable def Qdu (lb n pR:Nat) (jk:Bool) (a2 yh:LL) (yI:Int):Option CV:=
 hold (Qax (E0 lb n 0 994) 0 (Qak (sub (B QaS) [1,1,0,1,0,0])++ []) [5] (sub (B QaS) [1,1,0,1,0,0]) (Qam 0 (seqK (E0 lb n 0 997) (sub (B QaS) [1,1,0]) (sub (B QaS) [1,1,1]) (retK Tryz.prog (R QaS) 0 (outK (Qae Tryz.prog QaS))))) pR ⟨fr 22 [(0, .val (.list jk a2)),(2, .lst true true 3 []),(3, .lst true false 3 yh),(6, .val (.list jk a2)),(7, .val (.int .i64 (a2.length:Int))),(8, .val (.list false [])),(9, .val (.list jk a2)),(10, .val (.int .i64 (a2.length:Int))),(11,vI yI)],[bx 22 []],KK⟩)
noncomputable def Qhp (lb n:Nat) (jk:Bool) (a2:LL) (pF:Bool) (qc:LL):Option CV:=
 hold (E0 lb n 0 997 (sub (B QaS) [1,1,1]) (retK Tryz.prog (R QaS) 0 (outK (Qae Tryz.prog QaS))) ⟨fr 22 [(0, .val (.list jk a2)),(2, .lst true true 3 []),(3, .lst true pF 3 qc),(6, .val (.list jk a2)),(7, .val (.int .i64 (a2.length:Int))),(8, .val (.list false []))],[bx 22 []],KK⟩)
theorem Qj9 (lb n:Nat) (jk:Bool) (a2:LL) (pF:Bool) (qc:LL):
 Qhp lb n jk a2 pF qc=
 some (.list pF qc):=(Qah _).trans (by kernel_rfl)
theorem Qe8 (lb n pR:Nat) (jk:Bool) (a2 yh:LL) (yI:Int):
 Qdu lb n (pR+1) jk a2 yh yI=
 bif (decide (yI<(a2.length:Int))) then
 (optO (atL a2 yI) fun v8=>
 chkO (v8.length==10) (
 optO (v8[0]?) fun j7=>
 optO (v8[1]?) fun j5=>
 optO (v8[2]?) fun pY=>
 optO (v8[3]?) fun pG=>
 optO (v8[4]?) fun mt=>
 optO (v8[5]?) fun oK=>
 optO (v8[6]?) fun zG=>
 optO (v8[7]?) fun sd=>
 optO (v8[8]?) fun zB=>
 optO (v8[9]?) fun gu=>
 chkO (CV.isCell gu) (
 chkO (room (yh.length+1) 8) (
 Qdu lb n pR jk a2 (yh++ [[gu]]) (IntKind.wrap .i64 (yI+1))))))
 else
 (Qhp lb n jk a2 false yh):=(Qah _).trans (by kernel_rfl)
theorem Qmb (lb n:Nat) (jk:Bool) (a2:LL):
 top lb n QaS [.list jk a2]=
 chkO (decide (0≤(0:Int))&&decide ((0:Int)≤((a2.length:Int):Int))&&decide (((a2.length:Int):Int)*8≤140737488355328)&&decide (((a2.length:Int):Int)≤140737488355328)) (
 Qdu lb n n jk a2 [] 0):=by kernel_rfl
theorem Qnp (lb n:Nat) (a1:LB):
 top lb n QfX [.str a1]=
 optO (C lb n Qe0 [.str a1, .int .i64 6, .int .i64 6]) fun r2=>
 some (r2):=by kernel_rfl
noncomputable def QdC (lb n:Nat) (awansegcar1:LB) (awansegnum2 awansegday3:Int) (awansegfro4 jm:LB) (awansegdep6 awansegarr7:Int) (jt:LB) (jv jx:Int) (vb:Bool) (yh:LL):Option CV:=
 hold (E0 lb n 0 996 (sub (B Qbo) [1,1,1,1]) (retK Tryz.prog (R Qbo) 0 (outK (Qae Tryz.prog Qbo))) ⟨fr 67 [(0, .val (.agg [.str awansegcar1, .int .i64 awansegnum2, .int .i64 awansegday3, .str awansegfro4, .str jm, .int .i64 awansegdep6, .int .i64 awansegarr7, .str jt, .int .i64 jv, .int .i64 jx])),(1, .ptr 0 1 0),(2, .lst true true 31 []),(3, .lst true vb 31 yh),(4, .ptr 0 4 0),(7, .ptr 0 1 0),(8, .ptr 0 1 0),(9, .val (.agg [.str awansegcar1, .int .i64 awansegnum2, .int .i64 awansegday3, .str awansegfro4, .str jm, .int .i64 awansegdep6, .int .i64 awansegarr7]))],[bx 67 [(1,some [vS awansegcar1,vI awansegnum2,vI awansegday3,vS awansegfro4,vS jm,vI awansegdep6,vI awansegarr7,vS jt,vI jv,vI jx]),(4,some [vS awansegcar1,vI awansegnum2,vI awansegday3,vS awansegfro4,vS jm,vI awansegdep6,vI awansegarr7])]],KK⟩)
noncomputable def QdH (lb n:Nat) (awansegcar1:LB) (awansegnum2 awansegday3:Int) (awansegfro4 jm:LB) (awansegdep6 awansegarr7:Int) (jt:LB) (jv jx:Int) (kV:Bool) (kB:LL):Option CV:=
 hold (E0 lb n 0 995 (sub (B Qbo) [1,1,1,1,1]) (retK Tryz.prog (R Qbo) 0 (outK (Qae Tryz.prog Qbo))) ⟨fr 67 [(0, .val (.agg [.str awansegcar1, .int .i64 awansegnum2, .int .i64 awansegday3, .str awansegfro4, .str jm, .int .i64 awansegdep6, .int .i64 awansegarr7, .str jt, .int .i64 jv, .int .i64 jx])),(1, .ptr 0 1 0),(2, .lst true true 31 []),(3, .lst true kV 31 kB),(4, .ptr 0 4 0),(7, .ptr 0 1 0),(8, .ptr 0 1 0),(9, .val (.agg [.str awansegcar1, .int .i64 awansegnum2, .int .i64 awansegday3, .str awansegfro4, .str jm, .int .i64 awansegdep6, .int .i64 awansegarr7]))],[bx 67 [(1,some [vS awansegcar1,vI awansegnum2,vI awansegday3,vS awansegfro4,vS jm,vI awansegdep6,vI awansegarr7,vS jt,vI jv,vI jx]),(4,some [vS awansegcar1,vI awansegnum2,vI awansegday3,vS awansegfro4,vS jm,vI awansegdep6,vI awansegarr7])]],KK⟩)
noncomputable def QfO (lb n:Nat) (awansegcar1:LB) (awansegnum2 awansegday3:Int) (awansegfro4 jm:LB) (awansegdep6 awansegarr7:Int) (jt:LB) (jv jx:Int) (kD:Bool) (ky:LL):Option CV:=
 hold (E0 lb n 0 994 (sub (B Qbo) [1,1,1,1,1,1]) (retK Tryz.prog (R Qbo) 0 (outK (Qae Tryz.prog Qbo))) ⟨fr 67 [(0, .val (.agg [.str awansegcar1, .int .i64 awansegnum2, .int .i64 awansegday3, .str awansegfro4, .str jm, .int .i64 awansegdep6, .int .i64 awansegarr7, .str jt, .int .i64 jv, .int .i64 jx])),(1, .ptr 0 1 0),(2, .lst true true 31 []),(3, .lst true kD 31 ky),(4, .ptr 0 4 0),(7, .ptr 0 1 0),(8, .ptr 0 1 0),(9, .val (.agg [.str awansegcar1, .int .i64 awansegnum2, .int .i64 awansegday3, .str awansegfro4, .str jm, .int .i64 awansegdep6, .int .i64 awansegarr7]))],[bx 67 [(1,some [vS awansegcar1,vI awansegnum2,vI awansegday3,vS awansegfro4,vS jm,vI awansegdep6,vI awansegarr7,vS jt,vI jv,vI jx]),(4,some [vS awansegcar1,vI awansegnum2,vI awansegday3,vS awansegfro4,vS jm,vI awansegdep6,vI awansegarr7])]],KK⟩)
theorem Qod (lb n:Nat) (awansegcar1:LB) (awansegnum2 awansegday3:Int) (awansegfro4 jm:LB) (awansegdep6 awansegarr7:Int) (jt:LB) (jv jx:Int) (kD:Bool) (ky:LL):
 QfO lb n awansegcar1 awansegnum2 awansegday3 awansegfro4 jm awansegdep6 awansegarr7 jt jv jx kD ky=
 optO (C lb n QiO [.int .i64 jv]) fun js=>
 optO (CV.asT js) fun gN=>
 optO (gN[0]?) fun jI=>
 optO (CV.asT js) fun nC=>
 optO (nC[1]?) fun jV=>
 optO (CV.asI .i64 jV) fun yH=>
 bif (yH !=0) then
 (chkO (room (ky.length+1) 8) (
 some (.list (kD&&false) (ky++ [[CV.int .i64 10]]))))
 else
 (some (.list kD ky)):=(Qah _).trans (by kernel_rfl)
theorem Qom (lb n:Nat) (awansegcar1:LB) (awansegnum2 awansegday3:Int) (awansegfro4 jm:LB) (awansegdep6 awansegarr7:Int) (jt:LB) (jv jx:Int) (kV:Bool) (kB:LL):
 QdH lb n awansegcar1 awansegnum2 awansegday3 awansegfro4 jm awansegdep6 awansegarr7 jt jv jx kV kB=
 optO (C lb n QjP [.str jt]) fun jD=>
 optO (CV.asB jD) fun vQ=>
 bif (!vQ) then
 (chkO (room (kB.length+1) 8) (
 QfO lb n awansegcar1 awansegnum2 awansegday3 awansegfro4 jm awansegdep6 awansegarr7 jt jv jx (kV&&false) (kB++ [[CV.int .i64 16]])))
 else
 (QfO lb n awansegcar1 awansegnum2 awansegday3 awansegfro4 jm awansegdep6 awansegarr7 jt jv jx kV kB):=(Qah _).trans (by kernel_rfl)
theorem Qn9 (lb n:Nat) (awansegcar1:LB) (awansegnum2 awansegday3:Int) (awansegfro4 jm:LB) (awansegdep6 awansegarr7:Int) (jt:LB) (jv jx:Int) (vb:Bool) (yh:LL):
 QdC lb n awansegcar1 awansegnum2 awansegday3 awansegfro4 jm awansegdep6 awansegarr7 jt jv jx vb yh=
 bif (decide (awansegdep6<0)) then
 (chkO (room (yh.length+1) 8) (
 QdH lb n awansegcar1 awansegnum2 awansegday3 awansegfro4 jm awansegdep6 awansegarr7 jt jv jx (vb&&false) (yh++ [[CV.int .i64 13]])))
 else
 (bif (decide (awansegdep6≥awansegarr7)) then
 (chkO (room (yh.length+1) 8) (
 QdH lb n awansegcar1 awansegnum2 awansegday3 awansegfro4 jm awansegdep6 awansegarr7 jt jv jx (vb&&false) (yh++ [[CV.int .i64 13]])))
 else
 (bif (decide (awansegarr7≥52596000)) then
 (chkO (room (yh.length+1) 8) (
 QdH lb n awansegcar1 awansegnum2 awansegday3 awansegfro4 jm awansegdep6 awansegarr7 jt jv jx (vb&&false) (yh++ [[CV.int .i64 13]])))
 else
 (QdH lb n awansegcar1 awansegnum2 awansegday3 awansegfro4 jm awansegdep6 awansegarr7 jt jv jx vb yh))):=(Qah _).trans (by kernel_rfl)
theorem Qrc (lb n:Nat) (awansegcar1:LB) (awansegnum2 awansegday3:Int) (awansegfro4 jm:LB) (awansegdep6 awansegarr7:Int) (jt:LB) (jv jx:Int):
 top lb n Qbo [.agg [.str awansegcar1, .int .i64 awansegnum2, .int .i64 awansegday3, .str awansegfro4, .str jm, .int .i64 awansegdep6, .int .i64 awansegarr7, .str jt, .int .i64 jv, .int .i64 jx]]=
 optO (C lb n QhO [.str awansegcar1]) fun kZ=>
 optO (CV.asB kZ) fun yy=>
 bif (!yy) then
 (QdC lb n awansegcar1 awansegnum2 awansegday3 awansegfro4 jm awansegdep6 awansegarr7 jt jv jx false [[CV.int .i64 5]])
 else
 (optO (C lb n QfQ [.str awansegfro4]) fun zk=>
 optO (CV.asB zk) fun sX=>
 bif (!sX) then
 (QdC lb n awansegcar1 awansegnum2 awansegday3 awansegfro4 jm awansegdep6 awansegarr7 jt jv jx false [[CV.int .i64 5]])
 else
 (optO (C lb n QfQ [.str jm]) fun ql=>
 optO (CV.asB ql) fun qV=>
 bif (!qV) then
 (QdC lb n awansegcar1 awansegnum2 awansegday3 awansegfro4 jm awansegdep6 awansegarr7 jt jv jx false [[CV.int .i64 5]])
 else
 (QdC lb n awansegcar1 awansegnum2 awansegday3 awansegfro4 jm awansegdep6 awansegarr7 jt jv jx true []))):=by kernel_rfl
end Go.Proofs
namespace Go.Proofs
open Go.Am
set_option maxRecDepth 100000
set_option linter.unusedVariables false
noncomputable def QbB (lb n kA:Nat) (jk:Bool) (a2:LL) (b3 y5:Int) (gn:Bool) (kR:LL):Option CV:=
 hold (Qax (E0 lb n 0 993) 0 (Qak (sub (B QaN) [1,1,1,0,1,0,0])++ [7,9]) [8] (sub (B QaN) [1,1,1,0,1,0,0]) (Qam 0 (seqK (E0 lb n 0 996) (sub (B QaN) [1,1,1,0]) (sub (B QaN) [1,1,1,1]) (retK Tryz.prog (R QaN) 0 (outK (Qae Tryz.prog QaN))))) kA ⟨fr 73 [(0, .val (.list jk a2)),(1,vI b3),(4, .lst true true 61 []),(5, .ptr 0 5 0),(6, .clo Qbc [.ptr 0 5 0]),(12, .clo Qbc [.ptr 0 5 0]),(13, .val (.list jk a2)),(14, .val (.int .i64 (a2.length:Int))),(15,vI y5)],[bx 73 [(5,some [.lst true gn 61 kR])]],KK⟩)
noncomputable def QhV (lb n:Nat) (jk:Bool) (a2:LL) (b3:Int) (gi:Bool) (gj:LL):Option CV:=
 hold (E0 lb n 0 996 (sub (B QaN) [1,1,1,1]) (retK Tryz.prog (R QaN) 0 (outK (Qae Tryz.prog QaN))) ⟨fr 73 [(0, .val (.list jk a2)),(1,vI b3),(4, .lst true true 61 []),(5, .ptr 0 5 0),(6, .clo Qbc [.ptr 0 5 0]),(12, .clo Qbc [.ptr 0 5 0])],[bx 73 [(5,some [.lst true gi 61 gj])]],KK⟩)
noncomputable def Qk4 (lb n:Nat) (jk:Bool) (a2:LL) (b3:Int) (yg:Bool) (wR:LL):Option CV:=
 hold (E0 lb n 0 994 (sub (B QaN) [1,1,1,1,1,1]) (retK Tryz.prog (R QaN) 0 (outK (Qae Tryz.prog QaN))) ⟨fr 73 [(0, .val (.list jk a2)),(1,vI b3),(4, .lst true true 61 []),(5, .ptr 0 5 0),(6, .clo Qbc [.ptr 0 5 0]),(10,vB true),(12, .clo Qbc [.ptr 0 5 0]),(36,vI b3),(37, .val (.bool (decide (b3<0)))),(38,vB true),(39, .undef),(40, .undef),(41,vB true)],[bx 73 [(5,some [.lst true yg 61 wR])]],KK⟩)
noncomputable def Qh2 (lb n:Nat) (jk:Bool) (a2:LL) (b3:Int) (yg:Bool) (wR:LL) (yM:Int):Option CV:=
 hold (E0 lb n 0 993 (sub (B QaN) [1,1,1,1,1,1,1]) (retK Tryz.prog (R QaN) 0 (outK (Qae Tryz.prog QaN))) ⟨fr 73 [(0, .val (.list jk a2)),(1,vI yM),(4, .lst true true 61 []),(5, .ptr 0 5 0),(6, .clo Qbc [.ptr 0 5 0]),(10,vB true),(12, .clo Qbc [.ptr 0 5 0]),(36,vI b3),(37, .val (.bool (decide (b3<0)))),(38,vB true),(39, .undef),(40, .undef),(41,vB true)],[bx 73 [(5,some [.lst true yg 61 wR])]],KK⟩)
theorem Qn4 (lb n:Nat) (jk:Bool) (a2:LL) (b3:Int) (yg:Bool) (wR:LL) (yM:Int):
 Qh2 lb n jk a2 b3 yg wR yM=
 bif ((IntKind.wrap .i64 ((a2.length:Int)+yM))==0) then
 (chkO (room (wR.length+1) 24) (
 optO (C lb n QaF [.list jk a2]) fun r61=>
 optO (CV.asB r61) fun vN=>
 bif vN then
 (chkO (room ((wR++ [[CV.int .i64 4,CV.str [112,97,114,116,121]]]).length+1) 24) (
 some (.list ((yg&&false)&&false) ((wR++ [[CV.int .i64 4,CV.str [112,97,114,116,121]]])++ [[CV.int .i64 25,CV.str [112,97,114,116,121]]]))))
 else
 (some (.list (yg&&false) (wR++ [[CV.int .i64 4,CV.str [112,97,114,116,121]]])))))
 else
 (bif (yM==0) then
 (bif (decide ((a2.length:Int)>9)) then
 (chkO (room (wR.length+1) 24) (
 optO (C lb n QaF [.list jk a2]) fun r63=>
 optO (CV.asB r63) fun b65=>
 bif b65 then
 (chkO (room ((wR++ [[CV.int .i64 4,CV.str [112,97,114,116,121]]]).length+1) 24) (
 some (.list ((yg&&false)&&false) ((wR++ [[CV.int .i64 4,CV.str [112,97,114,116,121]]])++ [[CV.int .i64 25,CV.str [112,97,114,116,121]]]))))
 else
 (some (.list (yg&&false) (wR++ [[CV.int .i64 4,CV.str [112,97,114,116,121]]])))))
 else
 (bif (decide ((IntKind.wrap .i64 ((a2.length:Int)+yM))>99)) then
 (chkO (room (wR.length+1) 24) (
 optO (C lb n QaF [.list jk a2]) fun mj=>
 optO (CV.asB mj) fun b67=>
 bif b67 then
 (chkO (room ((wR++ [[CV.int .i64 4,CV.str [112,97,114,116,121]]]).length+1) 24) (
 some (.list ((yg&&false)&&false) ((wR++ [[CV.int .i64 4,CV.str [112,97,114,116,121]]])++ [[CV.int .i64 25,CV.str [112,97,114,116,121]]]))))
 else
 (some (.list (yg&&false) (wR++ [[CV.int .i64 4,CV.str [112,97,114,116,121]]])))))
 else
 (optO (C lb n QaF [.list jk a2]) fun pZ=>
 optO (CV.asB pZ) fun kN=>
 bif kN then
 (chkO (room (wR.length+1) 24) (
 some (.list (yg&&false) (wR++ [[CV.int .i64 25,CV.str [112,97,114,116,121]]]))))
 else
 (some (.list yg wR)))))
 else
 (bif (decide ((IntKind.wrap .i64 ((a2.length:Int)+yM))>99)) then
 (chkO (room (wR.length+1) 24) (
 optO (C lb n QaF [.list jk a2]) fun r70=>
 optO (CV.asB r70) fun b71=>
 bif b71 then
 (chkO (room ((wR++ [[CV.int .i64 4,CV.str [112,97,114,116,121]]]).length+1) 24) (
 some (.list ((yg&&false)&&false) ((wR++ [[CV.int .i64 4,CV.str [112,97,114,116,121]]])++ [[CV.int .i64 25,CV.str [112,97,114,116,121]]]))))
 else
 (some (.list (yg&&false) (wR++ [[CV.int .i64 4,CV.str [112,97,114,116,121]]])))))
 else
 (optO (C lb n QaF [.list jk a2]) fun zj=>
 optO (CV.asB zj) fun qh=>
 bif qh then
 (chkO (room (wR.length+1) 24) (
 some (.list (yg&&false) (wR++ [[CV.int .i64 25,CV.str [112,97,114,116,121]]]))))
 else
 (some (.list yg wR))))):=(Qah _).trans (by kernel_rfl)
theorem Qn6 (lb n:Nat) (jk:Bool) (a2:LL) (b3:Int) (yg:Bool) (wR:LL):
 Qk4 lb n jk a2 b3 yg wR=
 Qh2 lb n jk a2 b3 yg wR 0:=(Qah _).trans (by kernel_rfl)
noncomputable def QhD (lb n:Nat) (jk:Bool) (a2:LL) (b3:Int) (y4:Bool) (yx:LL):Option CV:=
 hold (E0 lb n 0 994 (sub (B QaN) [1,1,1,1,1,1]) (retK Tryz.prog (R QaN) 0 (outK (Qae Tryz.prog QaN))) ⟨fr 73 [(0, .val (.list jk a2)),(1,vI b3),(4, .lst true true 61 []),(5, .ptr 0 5 0),(6, .clo Qbc [.ptr 0 5 0]),(10, .val (.bool (decide (b3>99)))),(12, .clo Qbc [.ptr 0 5 0]),(36,vI b3),(37, .val (.bool (decide (b3<0)))),(38,vB false),(39,vI b3),(40, .val (.bool (decide (b3>99)))),(41, .val (.bool (decide (b3>99))))],[bx 73 [(5,some [.lst true y4 61 yx])]],KK⟩)
noncomputable def QfH (lb n:Nat) (jk:Bool) (a2:LL) (b3:Int) (y4:Bool) (yx:LL) (i76:Int):Option CV:=
 hold (E0 lb n 0 993 (sub (B QaN) [1,1,1,1,1,1,1]) (retK Tryz.prog (R QaN) 0 (outK (Qae Tryz.prog QaN))) ⟨fr 73 [(0, .val (.list jk a2)),(1,vI i76),(4, .lst true true 61 []),(5, .ptr 0 5 0),(6, .clo Qbc [.ptr 0 5 0]),(10, .val (.bool (decide (b3>99)))),(12, .clo Qbc [.ptr 0 5 0]),(36,vI b3),(37, .val (.bool (decide (b3<0)))),(38,vB false),(39,vI b3),(40, .val (.bool (decide (b3>99)))),(41, .val (.bool (decide (b3>99))))],[bx 73 [(5,some [.lst true y4 61 yx])]],KK⟩)
theorem Qoh (lb n:Nat) (jk:Bool) (a2:LL) (b3:Int) (y4:Bool) (yx:LL) (i76:Int):
 QfH lb n jk a2 b3 y4 yx i76=
 bif ((IntKind.wrap .i64 ((a2.length:Int)+i76))==0) then
 (chkO (room (yx.length+1) 24) (
 optO (C lb n QaF [.list jk a2]) fun r77=>
 optO (CV.asB r77) fun b78=>
 bif b78 then
 (chkO (room ((yx++ [[CV.int .i64 4,CV.str [112,97,114,116,121]]]).length+1) 24) (
 some (.list ((y4&&false)&&false) ((yx++ [[CV.int .i64 4,CV.str [112,97,114,116,121]]])++ [[CV.int .i64 25,CV.str [112,97,114,116,121]]]))))
 else
 (some (.list (y4&&false) (yx++ [[CV.int .i64 4,CV.str [112,97,114,116,121]]])))))
 else
 (bif (i76==0) then
 (bif (decide ((a2.length:Int)>9)) then
 (chkO (room (yx.length+1) 24) (
 optO (C lb n QaF [.list jk a2]) fun r79=>
 optO (CV.asB r79) fun b80=>
 bif b80 then
 (chkO (room ((yx++ [[CV.int .i64 4,CV.str [112,97,114,116,121]]]).length+1) 24) (
 some (.list ((y4&&false)&&false) ((yx++ [[CV.int .i64 4,CV.str [112,97,114,116,121]]])++ [[CV.int .i64 25,CV.str [112,97,114,116,121]]]))))
 else
 (some (.list (y4&&false) (yx++ [[CV.int .i64 4,CV.str [112,97,114,116,121]]])))))
 else
 (bif (decide ((IntKind.wrap .i64 ((a2.length:Int)+i76))>99)) then
 (chkO (room (yx.length+1) 24) (
 optO (C lb n QaF [.list jk a2]) fun r81=>
 optO (CV.asB r81) fun b82=>
 bif b82 then
 (chkO (room ((yx++ [[CV.int .i64 4,CV.str [112,97,114,116,121]]]).length+1) 24) (
 some (.list ((y4&&false)&&false) ((yx++ [[CV.int .i64 4,CV.str [112,97,114,116,121]]])++ [[CV.int .i64 25,CV.str [112,97,114,116,121]]]))))
 else
 (some (.list (y4&&false) (yx++ [[CV.int .i64 4,CV.str [112,97,114,116,121]]])))))
 else
 (optO (C lb n QaF [.list jk a2]) fun r83=>
 optO (CV.asB r83) fun b84=>
 bif b84 then
 (chkO (room (yx.length+1) 24) (
 some (.list (y4&&false) (yx++ [[CV.int .i64 25,CV.str [112,97,114,116,121]]]))))
 else
 (some (.list y4 yx)))))
 else
 (bif (decide ((IntKind.wrap .i64 ((a2.length:Int)+i76))>99)) then
 (chkO (room (yx.length+1) 24) (
 optO (C lb n QaF [.list jk a2]) fun sK=>
 optO (CV.asB sK) fun sq=>
 bif sq then
 (chkO (room ((yx++ [[CV.int .i64 4,CV.str [112,97,114,116,121]]]).length+1) 24) (
 some (.list ((y4&&false)&&false) ((yx++ [[CV.int .i64 4,CV.str [112,97,114,116,121]]])++ [[CV.int .i64 25,CV.str [112,97,114,116,121]]]))))
 else
 (some (.list (y4&&false) (yx++ [[CV.int .i64 4,CV.str [112,97,114,116,121]]])))))
 else
 (optO (C lb n QaF [.list jk a2]) fun wO=>
 optO (CV.asB wO) fun b88=>
 bif b88 then
 (chkO (room (yx.length+1) 24) (
 some (.list (y4&&false) (yx++ [[CV.int .i64 25,CV.str [112,97,114,116,121]]]))))
 else
 (some (.list y4 yx))))):=(Qah _).trans (by kernel_rfl)
theorem QiV (lb n:Nat) (jk:Bool) (a2:LL) (b3:Int) (y4:Bool) (yx:LL):
 QhD lb n jk a2 b3 y4 yx=
 bif (decide (b3>99)) then
 (QfH lb n jk a2 b3 y4 yx 0)
 else
 (QfH lb n jk a2 b3 y4 yx b3):=(Qah _).trans (by kernel_rfl)
theorem QfZ (lb n:Nat) (jk:Bool) (a2:LL) (b3:Int) (gi:Bool) (gj:LL):
 QhV lb n jk a2 b3 gi gj=
 bif (decide (b3<0)) then
 (chkO (room (gj.length+1) 24) (
 Qk4 lb n jk a2 b3 (gi&&false) (gj++ [[CV.int .i64 2,CV.str [112,97,114,116,121]]])))
 else
 (bif (decide (b3>99)) then
 (chkO (room (gj.length+1) 24) (
 QhD lb n jk a2 b3 (gi&&false) (gj++ [[CV.int .i64 2,CV.str [112,97,114,116,121]]])))
 else
 (QhD lb n jk a2 b3 gi gj)):=(Qah _).trans (by kernel_rfl)
theorem Qhx (lb n kA:Nat) (jk:Bool) (a2:LL) (b3 y5:Int) (gn:Bool) (kR:LL):
 QbB lb n (kA+1) jk a2 b3 y5 gn kR=
 bif (decide (y5<(a2.length:Int))) then
 (optO (atL a2 y5) fun pM=>
 chkO (pM.length==3) (
 optO (pM[0]?) fun gX=>
 optO (pM[1]?) fun kJ=>
 optO (pM[2]?) fun ma=>
 optO (C lb n QdF [.int .i64 y5]) fun r48=>
 optO (CV.asS r48) fun mG=>
 chkO (decide (([112,101,114,115,111,110,32]:LB).length+mG.length≤9223372036854775807)) (
 optO (C lb n Qgg [.agg [gX,kJ,ma]]) fun jT=>
 optO (CV.asB jT) fun b51=>
 bif (!b51) then
 (chkO (room (kR.length+1) 24) (
 optO (C lb n QdX [.agg [gX,kJ,ma]]) fun r52=>
 optO (CV.asB r52) fun b53=>
 bif (!b53) then
 (chkO (room ((kR++ [[CV.int .i64 5,CV.str (([112,101,114,115,111,110,32]:LB)++mG)]]).length+1) 24) (
 QbB lb n kA jk a2 b3 (IntKind.wrap .i64 (y5+1)) ((gn&&false)&&false) ((kR++ [[CV.int .i64 5,CV.str (([112,101,114,115,111,110,32]:LB)++mG)]])++ [[CV.int .i64 8,CV.str (([112,101,114,115,111,110,32]:LB)++mG)]])))
 else
 (QbB lb n kA jk a2 b3 (IntKind.wrap .i64 (y5+1)) (gn&&false) (kR++ [[CV.int .i64 5,CV.str (([112,101,114,115,111,110,32]:LB)++mG)]]))))
 else
 (optO (C lb n QdX [.agg [gX,kJ,ma]]) fun r54=>
 optO (CV.asB r54) fun b55=>
 bif (!b55) then
 (chkO (room (kR.length+1) 24) (
 QbB lb n kA jk a2 b3 (IntKind.wrap .i64 (y5+1)) (gn&&false) (kR++ [[CV.int .i64 8,CV.str (([112,101,114,115,111,110,32]:LB)++mG)]])))
 else
 (QbB lb n kA jk a2 b3 (IntKind.wrap .i64 (y5+1)) gn kR)))))
 else
 (QhV lb n jk a2 b3 gn kR):=(Qah _).trans (by kernel_rfl)
theorem Qri (lb n:Nat) (jk:Bool) (a2:LL) (b3:Int):
 top lb n QaN [.list jk a2, .int .i64 b3]=
 QbB lb n n jk a2 b3 0 true []:=by kernel_rfl
theorem QrI (lb n:Nat) (yV yU yJ:LB):
 top lb n Qgg [.agg [.str yV, .str yU, .str yJ]]=
 optO (C lb n QbG [.str yV]) fun r4=>
 optO (CV.asB r4) fun b5=>
 bif b5 then
 (optO (C lb n QbG [.str yU]) fun r6=>
 some (r6))
 else
 (some (.bool false)):=by kernel_rfl
theorem Qrh (lb n:Nat) (yV yU yJ:LB):
 top lb n QdX [.agg [.str yV, .str yU, .str yJ]]=
 optO (C lb n Qe0 [.str yJ, .int .i64 3, .int .i64 3]) fun r4=>
 some (r4):=by kernel_rfl
noncomputable def QcW (lb n gJ:Nat) (jk:Bool) (a2:LL) (i20 i21:Int):Option CV:=
 hold (Qax (E0 lb n 0 994) 0 (Qak (sub (B QaF) [1,1,0,1,0,0])++ []) [5] (sub (B QaF) [1,1,0,1,0,0]) (Qam 0 (seqK (E0 lb n 0 997) (sub (B QaF) [1,1,0]) (sub (B QaF) [1,1,1]) (retK Tryz.prog (R QaF) 0 (outK (Qae Tryz.prog QaF))))) gJ ⟨fr 23 [(0, .val (.list jk a2)),(2,vB false),(3,vI i20),(6, .val (.list jk a2)),(7, .val (.int .i64 (a2.length:Int))),(8,vI i21)],[bx 23 []],KK⟩)
noncomputable def Qk0 (lb n:Nat) (jk:Bool) (a2:LL) (v7:Int):Option CV:=
 hold (E0 lb n 0 997 (sub (B QaF) [1,1,1]) (retK Tryz.prog (R QaF) 0 (outK (Qae Tryz.prog QaF))) ⟨fr 23 [(0, .val (.list jk a2)),(2,vB false),(3,vI v7)],[bx 23 []],KK⟩)
theorem Qn7 (lb n:Nat) (jk:Bool) (a2:LL) (v7:Int):
 Qk0 lb n jk a2 v7=
 some (.bool (decide (v7>0))):=(Qah _).trans (by kernel_rfl)
theorem Qhy (lb n gJ:Nat) (jk:Bool) (a2:LL) (i20 i21:Int):
 QcW lb n (gJ+1) jk a2 i20 i21=
 bif (decide (i21<(a2.length:Int))) then
 (optO (atL a2 i21) fun qb=>
 chkO (qb.length==3) (
 optO (qb[0]?) fun pG=>
 optO (qb[1]?) fun mt=>
 optO (qb[2]?) fun oK=>
 optO (C lb n Qej [.agg [pG,mt,oK]]) fun r38=>
 optO (CV.asB r38) fun b39=>
 bif b39 then
 (optO (C lb n QeM [.agg [pG,mt,oK]]) fun sH=>
 optO (CV.asB sH) fun qU=>
 bif qU then
 (QcW lb n gJ jk a2 (IntKind.wrap .i64 ((IntKind.wrap .i64 (i20+1))-1)) (IntKind.wrap .i64 (i21+1)))
 else
 (QcW lb n gJ jk a2 (IntKind.wrap .i64 (i20+1)) (IntKind.wrap .i64 (i21+1))))
 else
 (optO (C lb n QeM [.agg [pG,mt,oK]]) fun qL=>
 optO (CV.asB qL) fun b43=>
 bif b43 then
 (QcW lb n gJ jk a2 (IntKind.wrap .i64 (i20-1)) (IntKind.wrap .i64 (i21+1)))
 else
 (QcW lb n gJ jk a2 i20 (IntKind.wrap .i64 (i21+1))))))
 else
 (Qk0 lb n jk a2 i20):=(Qah _).trans (by kernel_rfl)
theorem Qro (lb n:Nat) (jk:Bool) (a2:LL):
 top lb n QaF [.list jk a2]=
 QcW lb n n jk a2 0 0:=by kernel_rfl
theorem Qp6 (lb n:Nat) (yV yU yJ:LB):
 top lb n Qej [.agg [.str yV, .str yU, .str yJ]]=
 some (.bool (yJ== [73,78,70])):=by kernel_rfl
theorem Qq0 (lb n:Nat) (yV yU yJ:LB):
 top lb n QeM [.agg [.str yV, .str yU, .str yJ]]=
 optO (C lb n Qej [.agg [.str yV, .str yU, .str yJ]]) fun r4=>
 optO (CV.asB r4) fun b5=>
 bif (!b5) then
 (some (.bool (!(yJ== [67,72,68]))))
 else
 (some (.bool false)):=by kernel_rfl
end Go.Proofs
namespace Go.Proofs
open Go.Am
set_option maxRecDepth 100000
set_option linter.unusedVariables false
noncomputable def QeF (lb n:Nat) (jj:LB) (jb:Bool) (jf:LL) (jg:Int) (je:Bool) (ja:LL) (jd:Bool) (jh:LL) (jc:Int) (yy:Bool) (yT:LL):Option CV:=
 hold (E0 lb n 0 996 (sub (B Qac) [1,1,1,1]) (retK Tryz.prog (R Qac) 0 (outK (Qae Tryz.prog Qac))) ⟨fr 122 [(0, .val (.agg [.str jj, .list jb jf, .int .i64 jg, .list je ja, .list jd jh, .int .i64 jc])),(1, .ptr 0 1 0),(2, .lst true true 61 []),(3, .ptr 0 3 0),(4, .clo QaA [.ptr 0 3 0]),(13, .clo QaA [.ptr 0 3 0])],[bx 122 [(1,some [vS jj, .val (.list jb jf),vI jg, .val (.list je ja), .val (.list jd jh),vI jc]),(3,some [.lst true yy 61 yT])]],KK⟩)
noncomputable def Qcn (lb n:Nat) (jj:LB) (jb:Bool) (jf:LL) (jg:Int) (je:Bool) (ja:LL) (jd:Bool) (jh:LL) (jc:Int) (jr:Bool) (jq:LL):Option CV:=
 hold (E0 lb n 0 995 (sub (B Qac) [1,1,1,1,1]) (retK Tryz.prog (R Qac) 0 (outK (Qae Tryz.prog Qac))) ⟨fr 122 [(0, .val (.agg [.str jj, .list jb jf, .int .i64 jg, .list je ja, .list jd jh, .int .i64 jc])),(1, .ptr 0 1 0),(2, .lst true true 61 []),(3, .ptr 0 3 0),(4, .clo QaA [.ptr 0 3 0]),(13, .clo QaA [.ptr 0 3 0])],[bx 122 [(1,some [vS jj, .val (.list jb jf),vI jg, .val (.list je ja), .val (.list jd jh),vI jc]),(3,some [.lst true jr 61 jq])]],KK⟩)
noncomputable def Qcm (lb n:Nat) (jj:LB) (jb:Bool) (jf:LL) (jg:Int) (je:Bool) (ja:LL) (jd:Bool) (jh:LL) (jc:Int) (jr:Bool) (jq:LL) (jl:CV) (jp:Bool×LL) (vQ:Bool) (kx:LL):Option CV:=
 hold (E0 lb n 0 993 (sub (B Qac) [1,1,1,1,1,1,1]) (retK Tryz.prog (R Qac) 0 (outK (Qae Tryz.prog Qac))) ⟨fr 122 [(0, .val (.agg [.str jj, .list jb jf, .int .i64 jg, .list je ja, .list jd jh, .int .i64 jc])),(1, .ptr 0 1 0),(2, .lst true true 61 []),(3, .ptr 0 3 0),(4, .clo QaA [.ptr 0 3 0]),(13, .clo QaA [.ptr 0 3 0]),(30, .val (.list jr jq)),(31, .ptr 0 1 1),(32, .val (.list jb jf)),(33, .ptr 0 1 2),(34,vI jg),(35,vV jl),(36, .val (.list (jr&&jp.2.isEmpty) (jq++jp.2)))],[bx 122 [(1,some [vS jj, .val (.list jb jf),vI jg, .val (.list je ja), .val (.list jd jh),vI jc]),(3,some [.lst true vQ 61 kx])]],KK⟩)
noncomputable def QdP (lb n:Nat) (jj:LB) (jb:Bool) (jf:LL) (jg:Int) (je:Bool) (ja:LL) (jd:Bool) (jh:LL) (jc:Int) (js:CV) (jr:Bool) (jq:LL) (jl:CV) (jp:Bool×LL) (ju:CV) (k9:Bool) (oP:LL):Option CV:=
 hold (E0 lb n 0 991 (sub (B Qac) [1,1,1,1,1,1,1,1,1]) (retK Tryz.prog (R Qac) 0 (outK (Qae Tryz.prog Qac))) ⟨fr 122 [(0, .val (.agg [.str jj, .list jb jf, .int .i64 jg, .list je ja, .list jd jh, .int .i64 jc])),(1, .ptr 0 1 0),(2, .lst true true 61 []),(3, .ptr 0 3 0),(4, .clo QaA [.ptr 0 3 0]),(5,vV js),(13, .clo QaA [.ptr 0 3 0]),(30, .val (.list jr jq)),(31, .ptr 0 1 1),(32, .val (.list jb jf)),(33, .ptr 0 1 2),(34,vI jg),(35,vV jl),(36, .val (.list (jr&&jp.2.isEmpty) (jq++jp.2))),(43, .ptr 0 1 3),(44, .val (.list je ja)),(45,vV ju),(46,vV js)],[bx 122 [(1,some [vS jj, .val (.list jb jf),vI jg, .val (.list je ja), .val (.list jd jh),vI jc]),(3,some [.lst true k9 61 oP])]],KK⟩)
noncomputable def QdL (lb n y3:Nat) (jj:LB) (jb:Bool) (jf:LL) (jg:Int) (je:Bool) (ja:LL) (jd:Bool) (jh:LL) (jc:Int) (js:CV) (jr:Bool) (jq:LL) (jl:CV) (jp:Bool×LL) (ju:CV) (yt:Int) (gW:Bool) (nE:LL):Option CV:=
 hold (Qax (E0 lb n 0 987) 0 (Qak (sub (B Qac) [1,1,1,1,1,1,1,1,1,0,1,0,0])++ [6,9]) [7] (sub (B Qac) [1,1,1,1,1,1,1,1,1,0,1,0,0]) (Qam 0 (seqK (E0 lb n 0 990) (sub (B Qac) [1,1,1,1,1,1,1,1,1,0]) (sub (B Qac) [1,1,1,1,1,1,1,1,1,1]) (retK Tryz.prog (R Qac) 0 (outK (Qae Tryz.prog Qac))))) y3 ⟨fr 122 [(0, .val (.agg [.str jj, .list jb jf, .int .i64 jg, .list je ja, .list jd jh, .int .i64 jc])),(1, .ptr 0 1 0),(2, .lst true true 61 []),(3, .ptr 0 3 0),(4, .clo QaA [.ptr 0 3 0]),(5,vV js),(13, .clo QaA [.ptr 0 3 0]),(30, .val (.list jr jq)),(31, .ptr 0 1 1),(32, .val (.list jb jf)),(33, .ptr 0 1 2),(34,vI jg),(35,vV jl),(36, .val (.list (jr&&jp.2.isEmpty) (jq++jp.2))),(43, .ptr 0 1 3),(44, .val (.list je ja)),(45,vV ju),(46,vV js),(52, .ptr 0 1 3),(53, .val (.list je ja)),(54, .val (.int .i64 (ja.length:Int))),(55,vI yt)],[bx 122 [(1,some [vS jj, .val (.list jb jf),vI jg, .val (.list je ja), .val (.list jd jh),vI jc]),(3,some [.lst true gW 61 nE])]],KK⟩)
noncomputable def QdR (lb n mW y3:Nat) (jj:LB) (jb:Bool) (jf:LL) (jg:Int) (je:Bool) (ja:LL) (jd:Bool) (jh:LL) (jc:Int) (js:CV) (yt:Int) (jr:Bool) (jq:LL) (jl:CV) (jp:Bool×LL) (ju:CV) (yA:List CV) (wp wk wg wn jy jz yf jC jA jB y2:CV) (vz:Bool×LL) (o7:Int) (wN:Bool) (wC:LL):Option CV:=
 hold (Qax (E0 lb n 0 979) 0 (Qak (sub (B Qac) [1,1,1,1,1,1,1,1,1,0,1,0,0,1,1,0,0,1,1,0,0])++ [9]) [] (sub (B Qac) [1,1,1,1,1,1,1,1,1,0,1,0,0,1,1,0,0,1,1,0,0]) (Qam 2 (Qam 1 (seqK (E0 lb n 0 984) (sub (B Qac) [1,1,1,1,1,1,1,1,1,0,1,0,0,1,1,0]) (sub (B Qac) [1,1,1,1,1,1,1,1,1,0,1,0,0,1,1,1]) (Qcz 0 (Qak (sub (B Qac) [1,1,1,1,1,1,1,1,1,0,1,0,0])++ [6,9]) [7] (Qax (E0 lb n 0 987) 0 (Qak (sub (B Qac) [1,1,1,1,1,1,1,1,1,0,1,0,0])++ [6,9]) [7] (sub (B Qac) [1,1,1,1,1,1,1,1,1,0,1,0,0]) (Qam 0 (seqK (E0 lb n 0 990) (sub (B Qac) [1,1,1,1,1,1,1,1,1,0]) (sub (B Qac) [1,1,1,1,1,1,1,1,1,1]) (retK Tryz.prog (R Qac) 0 (outK (Qae Tryz.prog Qac))))) y3) (Qam 0 (seqK (E0 lb n 0 990) (sub (B Qac) [1,1,1,1,1,1,1,1,1,0]) (sub (B Qac) [1,1,1,1,1,1,1,1,1,1]) (retK Tryz.prog (R Qac) 0 (outK (Qae Tryz.prog Qac))))))))) mW ⟨fr 122 [(0, .val (.agg [.str jj, .list jb jf, .int .i64 jg, .list je ja, .list jd jh, .int .i64 jc])),(1, .ptr 0 1 0),(2, .lst true true 61 []),(3, .ptr 0 3 0),(4, .clo QaA [.ptr 0 3 0]),(5,vV js),(6,vI yt),(7, .ptr 0 7 0),(13, .clo QaA [.ptr 0 3 0]),(30, .val (.list jr jq)),(31, .ptr 0 1 1),(32, .val (.list jb jf)),(33, .ptr 0 1 2),(34,vI jg),(35,vV jl),(36, .val (.list (jr&&jp.2.isEmpty) (jq++jp.2))),(43, .ptr 0 1 3),(44, .val (.list je ja)),(45,vV ju),(46,vV js),(52, .ptr 0 1 3),(53, .val (.list je ja)),(54, .val (.int .i64 (ja.length:Int))),(55,vI yt),(56, .val (.bool (decide (yt<(ja.length:Int))))),(57,vI yt),(58, .cptr yA 0),(59, .val (.agg [wp,wk,wg,wn,jy,jz,yf,jC,jA,jB])),(60, .val (.agg [wp,wk,wg,wn,jy,jz,yf,jC,jA,jB])),(61,vV y2),(62, .val (.int .i64 (vz.2.length:Int))),(63,vI o7)],[bx 122 [(1,some [vS jj, .val (.list jb jf),vI jg, .val (.list je ja), .val (.list jd jh),vI jc]),(3,some [.lst true wN 61 wC]),(7,some [.val wp, .val wk, .val wg, .val wn, .val jy, .val jz, .val yf, .val jC, .val jA, .val jB])]],KK⟩)
noncomputable def QjL (lb n y3:Nat) (jj:LB) (jb:Bool) (jf:LL) (jg:Int) (je:Bool) (ja:LL) (jd:Bool) (jh:LL) (jc:Int) (js:CV) (jr:Bool) (jq:LL) (jl:CV) (jp:Bool×LL) (ju:CV) (yt i127:Int) (mX:Bool) (kj:LL) (nZ po nW pi nL oA pB nS v138 v139:CV):Option CV:=
 hold (E0 lb n 0 984 (sub (B Qac) [1,1,1,1,1,1,1,1,1,0,1,0,0,1,1,1]) (Qcz 0 (Qak (sub (B Qac) [1,1,1,1,1,1,1,1,1,0,1,0,0])++ [6,9]) [7] (Qax (E0 lb n 0 987) 0 (Qak (sub (B Qac) [1,1,1,1,1,1,1,1,1,0,1,0,0])++ [6,9]) [7] (sub (B Qac) [1,1,1,1,1,1,1,1,1,0,1,0,0]) (Qam 0 (seqK (E0 lb n 0 990) (sub (B Qac) [1,1,1,1,1,1,1,1,1,0]) (sub (B Qac) [1,1,1,1,1,1,1,1,1,1]) (retK Tryz.prog (R Qac) 0 (outK (Qae Tryz.prog Qac))))) y3) (Qam 0 (seqK (E0 lb n 0 990) (sub (B Qac) [1,1,1,1,1,1,1,1,1,0]) (sub (B Qac) [1,1,1,1,1,1,1,1,1,1]) (retK Tryz.prog (R Qac) 0 (outK (Qae Tryz.prog Qac)))))) ⟨fr 122 [(0, .val (.agg [.str jj, .list jb jf, .int .i64 jg, .list je ja, .list jd jh, .int .i64 jc])),(1, .ptr 0 1 0),(2, .lst true true 61 []),(3, .ptr 0 3 0),(4, .clo QaA [.ptr 0 3 0]),(5,vV js),(6,vI i127),(13, .clo QaA [.ptr 0 3 0]),(30, .val (.list jr jq)),(31, .ptr 0 1 1),(32, .val (.list jb jf)),(33, .ptr 0 1 2),(34,vI jg),(35,vV jl),(36, .val (.list (jr&&jp.2.isEmpty) (jq++jp.2))),(43, .ptr 0 1 3),(44, .val (.list je ja)),(45,vV ju),(46,vV js),(52, .ptr 0 1 3),(53, .val (.list je ja)),(54, .val (.int .i64 (ja.length:Int))),(55,vI yt),(56, .val (.bool (decide (yt<(ja.length:Int)))))],[bx 122 [(1,some [vS jj, .val (.list jb jf),vI jg, .val (.list je ja), .val (.list jd jh),vI jc]),(3,some [.lst true mX 61 kj]),(7,some [.val nZ, .val po, .val nW, .val pi, .val nL, .val oA, .val pB, .val nS, .val v138, .val v139])]],KK⟩)
theorem QmL (lb n y3:Nat) (jj:LB) (jb:Bool) (jf:LL) (jg:Int) (je:Bool) (ja:LL) (jd:Bool) (jh:LL) (jc:Int) (js:CV) (jr:Bool) (jq:LL) (jl:CV) (jp:Bool×LL) (ju:CV) (yt i127:Int) (mX:Bool) (kj:LL) (nZ po nW pi nL oA pB nS v138 v139:CV):
 QjL lb n y3 jj jb jf jg je ja jd jh jc js jr jq jl jp ju yt i127 mX kj nZ po nW pi nL oA pB nS v138 v139=
 QdL lb n y3 jj jb jf jg je ja jd jh jc js jr jq jl jp ju (IntKind.wrap .i64 (yt+1)) mX kj:=(Qah _).trans (by kernel_rfl)
theorem QgO (lb n mW y3:Nat) (jj:LB) (jb:Bool) (jf:LL) (jg:Int) (je:Bool) (ja:LL) (jd:Bool) (jh:LL) (jc:Int) (js:CV) (yt:Int) (jr:Bool) (jq:LL) (jl:CV) (jp:Bool×LL) (ju:CV) (yA:List CV) (wp wk wg wn jy jz yf jC jA jB y2:CV) (vz:Bool×LL) (o7:Int) (wN:Bool) (wC:LL):
 QdR lb n (mW+1) y3 jj jb jf jg je ja jd jh jc js yt jr jq jl jp ju yA wp wk wg wn jy jz yf jC jA jB y2 vz o7 wN wC=
 bif (decide (o7<(vz.2.length:Int))) then
 (optO (CV.asL y2) fun ul=>
 optO (atL ul.2 o7) fun qG=>
 chkO (qG.length==1) (
 optO (qG[0]?) fun qW=>
 optO (C lb n QdF [.int .i64 yt]) fun tg=>
 optO (CV.asS tg) fun qv=>
 chkO (decide (([115,101,103,32]:LB).length+qv.length≤9223372036854775807)) (
 chkO (CV.isCell qW) (
 chkO (room (wC.length+1) 24) (
 QdR lb n mW y3 jj jb jf jg je ja jd jh jc js yt jr jq jl jp ju yA wp wk wg wn jy jz yf jC jA jB y2 vz (IntKind.wrap .i64 (o7+1)) (wN&&false) (wC++ [[qW,CV.str (([115,101,103,32]:LB)++qv)]]))))))
 else
 (QjL lb n y3 jj jb jf jg je ja jd jh jc js jr jq jl jp ju yt yt wN wC wp wk wg wn jy jz yf jC jA jB):=(Qah _).trans (by kernel_rfl)
noncomputable def Qgu (lb n:Nat) (jj:LB) (jb:Bool) (jf:LL) (jg:Int) (je:Bool) (ja:LL) (jd:Bool) (jh:LL) (jc:Int) (js:CV) (jr:Bool) (jq:LL) (jl:CV) (jp:Bool×LL) (ju:CV) (m9:Bool) (mN:LL):Option CV:=
 hold (E0 lb n 0 990 (sub (B Qac) [1,1,1,1,1,1,1,1,1,1]) (retK Tryz.prog (R Qac) 0 (outK (Qae Tryz.prog Qac))) ⟨fr 122 [(0, .val (.agg [.str jj, .list jb jf, .int .i64 jg, .list je ja, .list jd jh, .int .i64 jc])),(1, .ptr 0 1 0),(2, .lst true true 61 []),(3, .ptr 0 3 0),(4, .clo QaA [.ptr 0 3 0]),(5,vV js),(13, .clo QaA [.ptr 0 3 0]),(30, .val (.list jr jq)),(31, .ptr 0 1 1),(32, .val (.list jb jf)),(33, .ptr 0 1 2),(34,vI jg),(35,vV jl),(36, .val (.list (jr&&jp.2.isEmpty) (jq++jp.2))),(43, .ptr 0 1 3),(44, .val (.list je ja)),(45,vV ju),(46,vV js)],[bx 122 [(1,some [vS jj, .val (.list jb jf),vI jg, .val (.list je ja), .val (.list jd jh),vI jc]),(3,some [.lst true m9 61 mN])]],KK⟩)
noncomputable def Qbf (lb n yQ:Nat) (jj:LB) (jb:Bool) (jf:LL) (jg:Int) (je:Bool) (ja:LL) (jd:Bool) (jh:LL) (jc:Int) (js:CV) (jr:Bool) (jq:LL) (jl:CV) (jp:Bool×LL) (ju:CV) (j9:Int) (oU:Bool) (oC:LL):Option CV:=
 hold (Qax (E0 lb n 0 986) 0 (Qak (sub (B Qac) [1,1,1,1,1,1,1,1,1,1,0,1,0,0])++ [10,12]) [11] (sub (B Qac) [1,1,1,1,1,1,1,1,1,1,0,1,0,0]) (Qam 4 (seqK (E0 lb n 0 989) (sub (B Qac) [1,1,1,1,1,1,1,1,1,1,0]) (sub (B Qac) [1,1,1,1,1,1,1,1,1,1,1]) (retK Tryz.prog (R Qac) 0 (outK (Qae Tryz.prog Qac))))) yQ ⟨fr 122 [(0, .val (.agg [.str jj, .list jb jf, .int .i64 jg, .list je ja, .list jd jh, .int .i64 jc])),(1, .ptr 0 1 0),(2, .lst true true 61 []),(3, .ptr 0 3 0),(4, .clo QaA [.ptr 0 3 0]),(5,vV js),(13, .clo QaA [.ptr 0 3 0]),(30, .val (.list jr jq)),(31, .ptr 0 1 1),(32, .val (.list jb jf)),(33, .ptr 0 1 2),(34,vI jg),(35,vV jl),(36, .val (.list (jr&&jp.2.isEmpty) (jq++jp.2))),(43, .ptr 0 1 3),(44, .val (.list je ja)),(45,vV ju),(46,vV js),(75, .ptr 0 1 4),(76, .val (.list jd jh)),(77, .val (.int .i64 (jh.length:Int))),(78,vI j9)],[bx 122 [(1,some [vS jj, .val (.list jb jf),vI jg, .val (.list je ja), .val (.list jd jh),vI jc]),(3,some [.lst true oU 61 oC])]],KK⟩)
noncomputable def Qds (lb n yQ:Nat) (jj:LB) (jb:Bool) (jf:LL) (jg:Int) (je:Bool) (ja:LL) (jd:Bool) (jh:LL) (jc:Int) (js:CV) (j9:Int) (yO:LB) (jr:Bool) (jq:LL) (jl:CV) (jp:Bool×LL) (ju:CV) (vH:List CV) (yr vw vE vY:CV) (kY:Bool) (vr:LL):Option CV:=
 hold (E0 lb n 0 979 (sub (B Qac) [1,1,1,1,1,1,1,1,1,1,0,1,0,0,1,1,0,0,1,1,1]) (Qam 5 (seqK (E0 lb n 0 983) (sub (B Qac) [1,1,1,1,1,1,1,1,1,1,0,1,0,0,1,1,0]) (sub (B Qac) [1,1,1,1,1,1,1,1,1,1,0,1,0,0,1,1,1]) (Qcz 0 (Qak (sub (B Qac) [1,1,1,1,1,1,1,1,1,1,0,1,0,0])++ [10,12]) [11] (Qax (E0 lb n 0 986) 0 (Qak (sub (B Qac) [1,1,1,1,1,1,1,1,1,1,0,1,0,0])++ [10,12]) [11] (sub (B Qac) [1,1,1,1,1,1,1,1,1,1,0,1,0,0]) (Qam 4 (seqK (E0 lb n 0 989) (sub (B Qac) [1,1,1,1,1,1,1,1,1,1,0]) (sub (B Qac) [1,1,1,1,1,1,1,1,1,1,1]) (retK Tryz.prog (R Qac) 0 (outK (Qae Tryz.prog Qac))))) yQ) (Qam 4 (seqK (E0 lb n 0 989) (sub (B Qac) [1,1,1,1,1,1,1,1,1,1,0]) (sub (B Qac) [1,1,1,1,1,1,1,1,1,1,1]) (retK Tryz.prog (R Qac) 0 (outK (Qae Tryz.prog Qac)))))))) ⟨fr 122 [(0, .val (.agg [.str jj, .list jb jf, .int .i64 jg, .list je ja, .list jd jh, .int .i64 jc])),(1, .ptr 0 1 0),(2, .lst true true 61 []),(3, .ptr 0 3 0),(4, .clo QaA [.ptr 0 3 0]),(5,vV js),(10,vI j9),(11, .ptr 0 11 0),(12, .val (.str (([115,101,114,118,105,99,101,32]:LB)++yO))),(13, .clo QaA [.ptr 0 3 0]),(30, .val (.list jr jq)),(31, .ptr 0 1 1),(32, .val (.list jb jf)),(33, .ptr 0 1 2),(34,vI jg),(35,vV jl),(36, .val (.list (jr&&jp.2.isEmpty) (jq++jp.2))),(43, .ptr 0 1 3),(44, .val (.list je ja)),(45,vV ju),(46,vV js),(75, .ptr 0 1 4),(76, .val (.list jd jh)),(77, .val (.int .i64 (jh.length:Int))),(78,vI j9),(79, .val (.bool (decide (j9<(jh.length:Int))))),(80,vI j9),(81, .cptr vH 0),(82, .val (.agg [yr,vw,vE])),(83,vI j9),(84,vV vY),(85, .val (.str (([115,101,114,118,105,99,101,32]:LB)++yO)))],[bx 122 [(1,some [vS jj, .val (.list jb jf),vI jg, .val (.list je ja), .val (.list jd jh),vI jc]),(3,some [.lst true kY 61 vr]),(11,some [.val yr, .val vw, .val vE])]],KK⟩)
theorem QlL (lb n yQ:Nat) (jj:LB) (jb:Bool) (jf:LL) (jg:Int) (je:Bool) (ja:LL) (jd:Bool) (jh:LL) (jc:Int) (js:CV) (j9:Int) (yO:LB) (jr:Bool) (jq:LL) (jl:CV) (jp:Bool×LL) (ju:CV) (vH:List CV) (yr vw vE vY:CV) (kY:Bool) (vr:LL):
 Qds lb n yQ jj jb jf jg je ja jd jh jc js j9 yO jr jq jl jp ju vH yr vw vE vY kY vr=
 optO (CV.asI .i64 vw) fun nV=>
 bif (decide (nV<0)) then
 (chkO (room (vr.length+1) 24) (
 Qbf lb n yQ jj jb jf jg je ja jd jh jc js jr jq jl jp ju (IntKind.wrap .i64 (j9+1)) (kY&&false) (vr++ [[CV.int .i64 7,CV.str (([115,101,114,118,105,99,101,32]:LB)++yO)]])))
 else
 (optO (CV.asI .i64 vw) fun pj=>
 bif (decide (pj≥(jf.length:Int))) then
 (chkO (room (vr.length+1) 24) (
 Qbf lb n yQ jj jb jf jg je ja jd jh jc js jr jq jl jp ju (IntKind.wrap .i64 (j9+1)) (kY&&false) (vr++ [[CV.int .i64 7,CV.str (([115,101,114,118,105,99,101,32]:LB)++yO)]])))
 else
 (optO (CV.asI .i64 vE) fun gK=>
 bif (decide (gK<0)) then
 (chkO (room (vr.length+1) 24) (
 Qbf lb n yQ jj jb jf jg je ja jd jh jc js jr jq jl jp ju (IntKind.wrap .i64 (j9+1)) (kY&&false) (vr++ [[CV.int .i64 7,CV.str (([115,101,114,118,105,99,101,32]:LB)++yO)]])))
 else
 (optO (CV.asI .i64 vE) fun uF=>
 bif (decide (uF≥(ja.length:Int))) then
 (chkO (room (vr.length+1) 24) (
 Qbf lb n yQ jj jb jf jg je ja jd jh jc js jr jq jl jp ju (IntKind.wrap .i64 (j9+1)) (kY&&false) (vr++ [[CV.int .i64 7,CV.str (([115,101,114,118,105,99,101,32]:LB)++yO)]])))
 else
 (Qbf lb n yQ jj jb jf jg je ja jd jh jc js jr jq jl jp ju (IntKind.wrap .i64 (j9+1)) kY vr)))):=(Qah _).trans (by kernel_rfl)
noncomputable def QiZ (lb n:Nat) (jj:LB) (jb:Bool) (jf:LL) (jg:Int) (je:Bool) (ja:LL) (jd:Bool) (jh:LL) (jc:Int) (js:CV) (jr:Bool) (jq:LL) (jl:CV) (jp:Bool×LL) (ju:CV) (mM:Bool) (mL:LL):Option CV:=
 hold (E0 lb n 0 989 (sub (B Qac) [1,1,1,1,1,1,1,1,1,1,1]) (retK Tryz.prog (R Qac) 0 (outK (Qae Tryz.prog Qac))) ⟨fr 122 [(0, .val (.agg [.str jj, .list jb jf, .int .i64 jg, .list je ja, .list jd jh, .int .i64 jc])),(1, .ptr 0 1 0),(2, .lst true true 61 []),(3, .ptr 0 3 0),(4, .clo QaA [.ptr 0 3 0]),(5,vV js),(13, .clo QaA [.ptr 0 3 0]),(30, .val (.list jr jq)),(31, .ptr 0 1 1),(32, .val (.list jb jf)),(33, .ptr 0 1 2),(34,vI jg),(35,vV jl),(36, .val (.list (jr&&jp.2.isEmpty) (jq++jp.2))),(43, .ptr 0 1 3),(44, .val (.list je ja)),(45,vV ju),(46,vV js)],[bx 122 [(1,some [vS jj, .val (.list jb jf),vI jg, .val (.list je ja), .val (.list jd jh),vI jc]),(3,some [.lst true mM 61 mL])]],KK⟩)
theorem QlG (lb n:Nat) (jj:LB) (jb:Bool) (jf:LL) (jg:Int) (je:Bool) (ja:LL) (jd:Bool) (jh:LL) (jc:Int) (js:CV) (jr:Bool) (jq:LL) (jl:CV) (jp:Bool×LL) (ju:CV) (mM:Bool) (mL:LL):
 QiZ lb n jj jb jf jg je ja jd jh jc js jr jq jl jp ju mM mL=
 some (.list mM mL):=(Qah _).trans (by kernel_rfl)
theorem QgQ (lb n yQ:Nat) (jj:LB) (jb:Bool) (jf:LL) (jg:Int) (je:Bool) (ja:LL) (jd:Bool) (jh:LL) (jc:Int) (js:CV) (jr:Bool) (jq:LL) (jl:CV) (jp:Bool×LL) (ju:CV) (j9:Int) (oU:Bool) (oC:LL):
 Qbf lb n (yQ+1) jj jb jf jg je ja jd jh jc js jr jq jl jp ju j9 oU oC=
 bif (decide (j9<(jh.length:Int))) then
 (optO (atL jh j9) fun vH=>
 chkO (vH.length==3) (
 optO (vH[0]?) fun yr=>
 optO (vH[1]?) fun vw=>
 optO (vH[2]?) fun vE=>
 optO (C lb n QdF [.int .i64 j9]) fun vY=>
 optO (CV.asS vY) fun yO=>
 chkO (decide (([115,101,114,118,105,99,101,32]:LB).length+yO.length≤9223372036854775807)) (
 optO (C lb n Qe0 [yr, .int .i64 4, .int .i64 4]) fun rp=>
 optO (CV.asB rp) fun uD=>
 bif (!uD) then
 (chkO (room (oC.length+1) 24) (
 Qds lb n yQ jj jb jf jg je ja jd jh jc js j9 yO jr jq jl jp ju vH yr vw vE vY (oU&&false) (oC++ [[CV.int .i64 5,CV.str (([115,101,114,118,105,99,101,32]:LB)++yO)]])))
 else
 (Qds lb n yQ jj jb jf jg je ja jd jh jc js j9 yO jr jq jl jp ju vH yr vw vE vY oU oC))))
 else
 (QiZ lb n jj jb jf jg je ja jd jh jc js jr jq jl jp ju oU oC):=(Qah _).trans (by kernel_rfl)
theorem QmM (lb n:Nat) (jj:LB) (jb:Bool) (jf:LL) (jg:Int) (je:Bool) (ja:LL) (jd:Bool) (jh:LL) (jc:Int) (js:CV) (jr:Bool) (jq:LL) (jl:CV) (jp:Bool×LL) (ju:CV) (m9:Bool) (mN:LL):
 Qgu lb n jj jb jf jg je ja jd jh jc js jr jq jl jp ju m9 mN=
 Qbf lb n n jj jb jf jg je ja jd jh jc js jr jq jl jp ju 0 m9 mN:=(Qah _).trans (by kernel_rfl)
theorem QgH (lb n y3:Nat) (jj:LB) (jb:Bool) (jf:LL) (jg:Int) (je:Bool) (ja:LL) (jd:Bool) (jh:LL) (jc:Int) (js:CV) (jr:Bool) (jq:LL) (jl:CV) (jp:Bool×LL) (ju:CV) (yt:Int) (gW:Bool) (nE:LL):
 QdL lb n (y3+1) jj jb jf jg je ja jd jh jc js jr jq jl jp ju yt gW nE=
 bif (decide (yt<(ja.length:Int))) then
 (optO (atL ja yt) fun yA=>
 chkO (yA.length==10) (
 optO (yA[0]?) fun wp=>
 optO (yA[1]?) fun wk=>
 optO (yA[2]?) fun wg=>
 optO (yA[3]?) fun wn=>
 optO (yA[4]?) fun jy=>
 optO (yA[5]?) fun jz=>
 optO (yA[6]?) fun yf=>
 optO (yA[7]?) fun jC=>
 optO (yA[8]?) fun jA=>
 optO (yA[9]?) fun jB=>
 optO (C lb n Qbo [.agg [wp,wk,wg,wn,jy,jz,yf,jC,jA,jB]]) fun y2=>
 optO (CV.asL y2) fun vz=>
 QdR lb n n y3 jj jb jf jg je ja jd jh jc js yt jr jq jl jp ju yA wp wk wg wn jy jz yf jC jA jB y2 vz 0 gW nE))
 else
 (Qgu lb n jj jb jf jg je ja jd jh jc js jr jq jl jp ju gW nE):=(Qah _).trans (by kernel_rfl)
theorem QmG (lb n:Nat) (jj:LB) (jb:Bool) (jf:LL) (jg:Int) (je:Bool) (ja:LL) (jd:Bool) (jh:LL) (jc:Int) (js:CV) (jr:Bool) (jq:LL) (jl:CV) (jp:Bool×LL) (ju:CV) (k9:Bool) (oP:LL):
 QdP lb n jj jb jf jg je ja jd jh jc js jr jq jl jp ju k9 oP=
 QdL lb n n jj jb jf jg je ja jd jh jc js jr jq jl jp ju 0 k9 oP:=(Qah _).trans (by kernel_rfl)
theorem QmI (lb n:Nat) (jj:LB) (jb:Bool) (jf:LL) (jg:Int) (je:Bool) (ja:LL) (jd:Bool) (jh:LL) (jc:Int) (jr:Bool) (jq:LL) (jl:CV) (jp:Bool×LL) (vQ:Bool) (kx:LL):
 Qcm lb n jj jb jf jg je ja jd jh jc jr jq jl jp vQ kx=
 optO (C lb n QaS [.list je ja]) fun ju=>
 optO (C lb n QaQ [ju]) fun js=>
 optO (CV.asI .i64 js) fun kW=>
 bif (kW !=0) then
 (chkO (CV.isCell js) (
 chkO (room (kx.length+1) 24) (
 QdP lb n jj jb jf jg je ja jd jh jc js jr jq jl jp ju (vQ&&false) (kx++ [[js,CV.str [115,101,103,115]]]))))
 else
 (QdP lb n jj jb jf jg je ja jd jh jc js jr jq jl jp ju vQ kx):=(Qah _).trans (by kernel_rfl)
theorem QmJ (lb n:Nat) (jj:LB) (jb:Bool) (jf:LL) (jg:Int) (je:Bool) (ja:LL) (jd:Bool) (jh:LL) (jc:Int) (jr:Bool) (jq:LL):
 Qcn lb n jj jb jf jg je ja jd jh jc jr jq=
 optO (C lb n QaN [.list jb jf, .int .i64 jg]) fun jl=>
 optO (CV.asL jl) fun jp=>
 chkO (jp.2.all (·.length==2)) (
 chkO (room (jq.length+jp.2.length) 24) (
 bif (decide ((ja.length:Int)>24)) then
 (chkO (room ((jq++jp.2).length+1) 24) (
 Qcm lb n jj jb jf jg je ja jd jh jc jr jq jl jp ((jr&&jp.2.isEmpty)&&false) ((jq++jp.2)++ [[CV.int .i64 4,CV.str [115,101,103,115]]])))
 else
 (Qcm lb n jj jb jf jg je ja jd jh jc jr jq jl jp (jr&&jp.2.isEmpty) (jq++jp.2)))):=(Qah _).trans (by kernel_rfl)
theorem QmK (lb n:Nat) (jj:LB) (jb:Bool) (jf:LL) (jg:Int) (je:Bool) (ja:LL) (jd:Bool) (jh:LL) (jc:Int) (yy:Bool) (yT:LL):
 QeF lb n jj jb jf jg je ja jd jh jc yy yT=
 bif (decide (jc<0)) then
 (chkO (room (yT.length+1) 24) (
 Qcn lb n jj jb jf jg je ja jd jh jc (yy&&false) (yT++ [[CV.int .i64 13,CV.str [108,105,109,105,116]]])))
 else
 (bif (decide (jc≥52596000)) then
 (chkO (room (yT.length+1) 24) (
 Qcn lb n jj jb jf jg je ja jd jh jc (yy&&false) (yT++ [[CV.int .i64 13,CV.str [108,105,109,105,116]]])))
 else
 (Qcn lb n jj jb jf jg je ja jd jh jc yy yT)):=(Qah _).trans (by kernel_rfl)
theorem Qpy (lb n:Nat) (jj:LB) (jb:Bool) (jf:LL) (jg:Int) (je:Bool) (ja:LL) (jd:Bool) (jh:LL) (jc:Int):
 top lb n Qac [.agg [.str jj, .list jb jf, .int .i64 jg, .list je ja, .list jd jh, .int .i64 jc]]=
 optO (C lb n QfX [.str jj]) fun mu=>
 optO (CV.asB mu) fun sR=>
 bif (!sR) then
 (QeF lb n jj jb jf jg je ja jd jh jc false [[CV.int .i64 5,CV.str [108,111,99,97,116,111,114]]])
 else
 (QeF lb n jj jb jf jg je ja jd jh jc true []):=by kernel_rfl
end Go.Proofs
namespace Go.Proofs
open Go.Am
set_option maxRecDepth 100000
set_option linter.unusedVariables false
end Go.Proofs
