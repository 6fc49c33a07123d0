/- Equations of functions, printed by program. Conditions: none. -/
import Derived.Test.YtigmcfhmpcajlaaGreatDoorEv
namespace Go.Proofs
open Go.Am
set_option maxRecDepth 100000
set_option linter.unusedVariables false
noncomputable def slices_choosePivotOrdered_int_J1:=
 fun lb n (jk:Bool) (a2:LL) b3 c4 mn=>
 hold (E0 lb n 0 993 (sub (B Qan) [1,1,1,1,1,1,1]) (retK Tryz.prog (R Qan) 0 (outK (Qae Tryz.prog Qan))) ⟨fr 57 [(0, .val (.list jk a2)),(1,vI b3),(2,vI c4),(6,vI 0),(7,vI 0),(8, .val (.int .i64 (IntKind.wrap .i64 (c4-b3)))),(9, .ptr 0 9 0),(10, .val (.int .i64 (IntKind.wrap .i64 (b3+(IntKind.wrap .i64 ((IntKind.wrap .i64 (Int.tdiv (IntKind.wrap .i64 (c4-b3)) 4))*1)))))),(11, .val (.int .i64 (IntKind.wrap .i64 (b3+(IntKind.wrap .i64 ((IntKind.wrap .i64 (Int.tdiv (IntKind.wrap .i64 (c4-b3)) 4))*2)))))),(12, .val (.int .i64 (IntKind.wrap .i64 (b3+(IntKind.wrap .i64 ((IntKind.wrap .i64 (Int.tdiv (IntKind.wrap .i64 (c4-b3)) 4))*3)))))),(13,vI c4),(14,vI b3),(15, .val (.int .i64 (IntKind.wrap .i64 (c4-b3)))),(16,vI b3),(17, .val (.int .i64 (IntKind.wrap .i64 (c4-b3)))),(18, .val (.int .i64 (IntKind.wrap .i64 (Int.tdiv (IntKind.wrap .i64 (c4-b3)) 4)))),(19, .val (.int .i64 (IntKind.wrap .i64 ((IntKind.wrap .i64 (Int.tdiv (IntKind.wrap .i64 (c4-b3)) 4))*1)))),(20, .val (.int .i64 (IntKind.wrap .i64 (b3+(IntKind.wrap .i64 ((IntKind.wrap .i64 (Int.tdiv (IntKind.wrap .i64 (c4-b3)) 4))*1)))))),(21,vI b3),(22, .val (.int .i64 (IntKind.wrap .i64 (c4-b3)))),(23, .val (.int .i64 (IntKind.wrap .i64 (Int.tdiv (IntKind.wrap .i64 (c4-b3)) 4)))),(24, .val (.int .i64 (IntKind.wrap .i64 ((IntKind.wrap .i64 (Int.tdiv (IntKind.wrap .i64 (c4-b3)) 4))*2)))),(25, .val (.int .i64 (IntKind.wrap .i64 (b3+(IntKind.wrap .i64 ((IntKind.wrap .i64 (Int.tdiv (IntKind.wrap .i64 (c4-b3)) 4))*2)))))),(26,vI b3),(27, .val (.int .i64 (IntKind.wrap .i64 (c4-b3)))),(28, .val (.int .i64 (IntKind.wrap .i64 (Int.tdiv (IntKind.wrap .i64 (c4-b3)) 4)))),(29, .val (.int .i64 (IntKind.wrap .i64 ((IntKind.wrap .i64 (Int.tdiv (IntKind.wrap .i64 (c4-b3)) 4))*3)))),(30, .val (.int .i64 (IntKind.wrap .i64 (b3+(IntKind.wrap .i64 ((IntKind.wrap .i64 (Int.tdiv (IntKind.wrap .i64 (c4-b3)) 4))*3))))))],[bx 57 [(9,some [vI mn])]],KK⟩)
theorem QfJ (lb n:Nat) (jk:Bool) (a2:LL) (b3 c4 mn:Int):
 slices_choosePivotOrdered_int_J1 lb n jk a2 b3 c4 mn=
 bif (mn==0) then
 (some (.tup [.int .i64 (IntKind.wrap .i64 (b3+(IntKind.wrap .i64 ((IntKind.wrap .i64 (Int.tdiv (IntKind.wrap .i64 (c4-b3)) 4))*2)))), .int .i64 1]))
 else
 (bif (mn==12) then
 (some (.tup [.int .i64 (IntKind.wrap .i64 (b3+(IntKind.wrap .i64 ((IntKind.wrap .i64 (Int.tdiv (IntKind.wrap .i64 (c4-b3)) 4))*2)))), .int .i64 2]))
 else
 (some (.tup [.int .i64 (IntKind.wrap .i64 (b3+(IntKind.wrap .i64 ((IntKind.wrap .i64 (Int.tdiv (IntKind.wrap .i64 (c4-b3)) 4))*2)))), .int .i64 0]))):=(Qah _).trans (by kernel_rfl)
noncomputable def Qbe (lb n:Nat) (jk:Bool) (a2:LL) (b3 c4 qR y5:Int):Option CV:=
 hold (E0 lb n 0 993 (sub (B Qan) [1,1,1,1,1,1,1]) (retK Tryz.prog (R Qan) 0 (outK (Qae Tryz.prog Qan))) ⟨fr 57 [(0, .val (.list jk a2)),(1,vI b3),(2,vI c4),(6,vI 0),(7,vI 0),(8, .val (.int .i64 (IntKind.wrap .i64 (c4-b3)))),(9, .ptr 0 9 0),(10, .val (.int .i64 (IntKind.wrap .i64 (b3+(IntKind.wrap .i64 ((IntKind.wrap .i64 (Int.tdiv (IntKind.wrap .i64 (c4-b3)) 4))*1)))))),(11,vI qR),(12, .val (.int .i64 (IntKind.wrap .i64 (b3+(IntKind.wrap .i64 ((IntKind.wrap .i64 (Int.tdiv (IntKind.wrap .i64 (c4-b3)) 4))*3)))))),(13,vI c4),(14,vI b3),(15, .val (.int .i64 (IntKind.wrap .i64 (c4-b3)))),(16,vI b3),(17, .val (.int .i64 (IntKind.wrap .i64 (c4-b3)))),(18, .val (.int .i64 (IntKind.wrap .i64 (Int.tdiv (IntKind.wrap .i64 (c4-b3)) 4)))),(19, .val (.int .i64 (IntKind.wrap .i64 ((IntKind.wrap .i64 (Int.tdiv (IntKind.wrap .i64 (c4-b3)) 4))*1)))),(20, .val (.int .i64 (IntKind.wrap .i64 (b3+(IntKind.wrap .i64 ((IntKind.wrap .i64 (Int.tdiv (IntKind.wrap .i64 (c4-b3)) 4))*1)))))),(21,vI b3),(22, .val (.int .i64 (IntKind.wrap .i64 (c4-b3)))),(23, .val (.int .i64 (IntKind.wrap .i64 (Int.tdiv (IntKind.wrap .i64 (c4-b3)) 4)))),(24, .val (.int .i64 (IntKind.wrap .i64 ((IntKind.wrap .i64 (Int.tdiv (IntKind.wrap .i64 (c4-b3)) 4))*2)))),(25, .val (.int .i64 (IntKind.wrap .i64 (b3+(IntKind.wrap .i64 ((IntKind.wrap .i64 (Int.tdiv (IntKind.wrap .i64 (c4-b3)) 4))*2)))))),(26,vI b3),(27, .val (.int .i64 (IntKind.wrap .i64 (c4-b3)))),(28, .val (.int .i64 (IntKind.wrap .i64 (Int.tdiv (IntKind.wrap .i64 (c4-b3)) 4)))),(29, .val (.int .i64 (IntKind.wrap .i64 ((IntKind.wrap .i64 (Int.tdiv (IntKind.wrap .i64 (c4-b3)) 4))*3)))),(30, .val (.int .i64 (IntKind.wrap .i64 (b3+(IntKind.wrap .i64 ((IntKind.wrap .i64 (Int.tdiv (IntKind.wrap .i64 (c4-b3)) 4))*3))))))],[bx 57 [(9,some [vI y5])]],KK⟩)
theorem QgA (lb n:Nat) (jk:Bool) (a2:LL) (b3 c4:Int):
 top lb n Qan [.list jk a2, .int .i64 b3, .int .i64 c4]=
 bif (decide ((IntKind.wrap .i64 (c4-b3))≥8)) then
 (bif (decide ((IntKind.wrap .i64 (c4-b3))≥50)) then
 (E0 lb n 0 988 (sub (B Qan) [1,1,1,1,1,1,0,1,0,0,1,0]) (QeA (sub (B Qan) [1,1,1,1,1,1,0,1,0,0,1,0]) (sub (B Qan) [1,1,1,1,1,1,0,1,0,0,1,1]) (seqK (E0 lb n 0 990) (sub (B Qan) [1,1,1,1,1,1,0,1,0,0]) (sub (B Qan) [1,1,1,1,1,1,0,1,0,1]) (QeA (sub (B Qan) [1,1,1,1,1,1,0,1,0]) (sub (B Qan) [1,1,1,1,1,1,0,1,1]) (seqK (E0 lb n 0 993) (sub (B Qan) [1,1,1,1,1,1,0]) (sub (B Qan) [1,1,1,1,1,1,1]) (retK Tryz.prog (R Qan) 0 (outK (Qae Tryz.prog Qan))))))) ⟨fr 57 [(0, .val (.list jk a2)),(1,vI b3),(2,vI c4),(6,vI 0),(7,vI 0),(8, .val (.int .i64 (IntKind.wrap .i64 (c4-b3)))),(9, .ptr 0 9 0),(10, .val (.int .i64 (IntKind.wrap .i64 (b3+(IntKind.wrap .i64 ((IntKind.wrap .i64 (Int.tdiv (IntKind.wrap .i64 (c4-b3)) 4))*1)))))),(11, .val (.int .i64 (IntKind.wrap .i64 (b3+(IntKind.wrap .i64 ((IntKind.wrap .i64 (Int.tdiv (IntKind.wrap .i64 (c4-b3)) 4))*2)))))),(12, .val (.int .i64 (IntKind.wrap .i64 (b3+(IntKind.wrap .i64 ((IntKind.wrap .i64 (Int.tdiv (IntKind.wrap .i64 (c4-b3)) 4))*3)))))),(13,vI c4),(14,vI b3),(15, .val (.int .i64 (IntKind.wrap .i64 (c4-b3)))),(16,vI b3),(17, .val (.int .i64 (IntKind.wrap .i64 (c4-b3)))),(18, .val (.int .i64 (IntKind.wrap .i64 (Int.tdiv (IntKind.wrap .i64 (c4-b3)) 4)))),(19, .val (.int .i64 (IntKind.wrap .i64 ((IntKind.wrap .i64 (Int.tdiv (IntKind.wrap .i64 (c4-b3)) 4))*1)))),(20, .val (.int .i64 (IntKind.wrap .i64 (b3+(IntKind.wrap .i64 ((IntKind.wrap .i64 (Int.tdiv (IntKind.wrap .i64 (c4-b3)) 4))*1)))))),(21,vI b3),(22, .val (.int .i64 (IntKind.wrap .i64 (c4-b3)))),(23, .val (.int .i64 (IntKind.wrap .i64 (Int.tdiv (IntKind.wrap .i64 (c4-b3)) 4)))),(24, .val (.int .i64 (IntKind.wrap .i64 ((IntKind.wrap .i64 (Int.tdiv (IntKind.wrap .i64 (c4-b3)) 4))*2)))),(25, .val (.int .i64 (IntKind.wrap .i64 (b3+(IntKind.wrap .i64 ((IntKind.wrap .i64 (Int.tdiv (IntKind.wrap .i64 (c4-b3)) 4))*2)))))),(26,vI b3),(27, .val (.int .i64 (IntKind.wrap .i64 (c4-b3)))),(28, .val (.int .i64 (IntKind.wrap .i64 (Int.tdiv (IntKind.wrap .i64 (c4-b3)) 4)))),(29, .val (.int .i64 (IntKind.wrap .i64 ((IntKind.wrap .i64 (Int.tdiv (IntKind.wrap .i64 (c4-b3)) 4))*3)))),(30, .val (.int .i64 (IntKind.wrap .i64 (b3+(IntKind.wrap .i64 ((IntKind.wrap .i64 (Int.tdiv (IntKind.wrap .i64 (c4-b3)) 4))*3)))))),(31, .val (.int .i64 (IntKind.wrap .i64 (c4-b3)))),(32, .val (.bool (decide ((IntKind.wrap .i64 (c4-b3))≥8)))),(33, .val (.int .i64 (IntKind.wrap .i64 (c4-b3)))),(34, .val (.bool (decide ((IntKind.wrap .i64 (c4-b3))≥50))))],[bx 57 [(9,some [vI 0])]],KK⟩)
 else
 (optO (atL a2 (IntKind.wrap .i64 (b3+(IntKind.wrap .i64 ((IntKind.wrap .i64 (Int.tdiv (IntKind.wrap .i64 (c4-b3)) 4))*2))))) fun c5=>
 chkO (c5.length==1) (
 optO (c5[0]?) fun x6=>
 optO (atL a2 (IntKind.wrap .i64 (b3+(IntKind.wrap .i64 ((IntKind.wrap .i64 (Int.tdiv (IntKind.wrap .i64 (c4-b3)) 4))*1))))) fun c7=>
 chkO (c7.length==1) (
 optO (c7[0]?) fun x9=>
 optO (C lb n Qbr [x6,x9]) fun r10=>
 optO (CV.asB r10) fun jn=>
 bif jn then
 (optO (atL a2 (IntKind.wrap .i64 (b3+(IntKind.wrap .i64 ((IntKind.wrap .i64 (Int.tdiv (IntKind.wrap .i64 (c4-b3)) 4))*3))))) fun jo=>
 chkO (jo.length==1) (
 optO (jo[0]?) fun mg=>
 optO (atL a2 (IntKind.wrap .i64 (b3+(IntKind.wrap .i64 ((IntKind.wrap .i64 (Int.tdiv (IntKind.wrap .i64 (c4-b3)) 4))*1))))) fun zO=>
 chkO (zO.length==1) (
 optO (zO[0]?) fun sy=>
 optO (C lb n Qbr [mg,sy]) fun qK=>
 optO (CV.asB qK) fun b18=>
 bif b18 then
 (optO (atL a2 (IntKind.wrap .i64 (b3+(IntKind.wrap .i64 ((IntKind.wrap .i64 (Int.tdiv (IntKind.wrap .i64 (c4-b3)) 4))*3))))) fun qd=>
 chkO (qd.length==1) (
 optO (qd[0]?) fun wG=>
 optO (atL a2 (IntKind.wrap .i64 (b3+(IntKind.wrap .i64 ((IntKind.wrap .i64 (Int.tdiv (IntKind.wrap .i64 (c4-b3)) 4))*2))))) fun c21=>
 chkO (c21.length==1) (
 optO (c21[0]?) fun gh=>
 optO (C lb n Qbr [wG,gh]) fun js=>
 optO (CV.asB js) fun b24=>
 bif b24 then
 (slices_choosePivotOrdered_int_J1 lb n jk a2 b3 c4 3)
 else
 (Qbe lb n jk a2 b3 c4 (IntKind.wrap .i64 (b3+(IntKind.wrap .i64 ((IntKind.wrap .i64 (Int.tdiv (IntKind.wrap .i64 (c4-b3)) 4))*3)))) 2))))
 else
 (optO (atL a2 (IntKind.wrap .i64 (b3+(IntKind.wrap .i64 ((IntKind.wrap .i64 (Int.tdiv (IntKind.wrap .i64 (c4-b3)) 4))*1))))) fun zF=>
 chkO (zF.length==1) (
 optO (zF[0]?) fun j8=>
 optO (atL a2 (IntKind.wrap .i64 (b3+(IntKind.wrap .i64 ((IntKind.wrap .i64 (Int.tdiv (IntKind.wrap .i64 (c4-b3)) 4))*2))))) fun v8=>
 chkO (v8.length==1) (
 optO (v8[0]?) fun j7=>
 optO (C lb n Qbr [j8,j7]) fun r33=>
 optO (CV.asB r33) fun b34=>
 bif b34 then
 (slices_choosePivotOrdered_int_J1 lb n jk a2 b3 c4 2)
 else
 (Qbe lb n jk a2 b3 c4 (IntKind.wrap .i64 (b3+(IntKind.wrap .i64 ((IntKind.wrap .i64 (Int.tdiv (IntKind.wrap .i64 (c4-b3)) 4))*1)))) 1)))))))
 else
 (optO (atL a2 (IntKind.wrap .i64 (b3+(IntKind.wrap .i64 ((IntKind.wrap .i64 (Int.tdiv (IntKind.wrap .i64 (c4-b3)) 4))*3))))) fun zT=>
 chkO (zT.length==1) (
 optO (zT[0]?) fun mt=>
 optO (atL a2 (IntKind.wrap .i64 (b3+(IntKind.wrap .i64 ((IntKind.wrap .i64 (Int.tdiv (IntKind.wrap .i64 (c4-b3)) 4))*2))))) fun c37=>
 chkO (c37.length==1) (
 optO (c37[0]?) fun zG=>
 optO (C lb n Qbr [mt,zG]) fun r39=>
 optO (CV.asB r39) fun b40=>
 bif b40 then
 (optO (atL a2 (IntKind.wrap .i64 (b3+(IntKind.wrap .i64 ((IntKind.wrap .i64 (Int.tdiv (IntKind.wrap .i64 (c4-b3)) 4))*3))))) fun zC=>
 chkO (zC.length==1) (
 optO (zC[0]?) fun x42=>
 optO (atL a2 (IntKind.wrap .i64 (b3+(IntKind.wrap .i64 ((IntKind.wrap .i64 (Int.tdiv (IntKind.wrap .i64 (c4-b3)) 4))*1))))) fun nw=>
 chkO (nw.length==1) (
 optO (nw[0]?) fun nD=>
 optO (C lb n Qbr [x42,nD]) fun r45=>
 optO (CV.asB r45) fun b46=>
 bif b46 then
 (Qbe lb n jk a2 b3 c4 (IntKind.wrap .i64 (b3+(IntKind.wrap .i64 ((IntKind.wrap .i64 (Int.tdiv (IntKind.wrap .i64 (c4-b3)) 4))*1)))) 2)
 else
 (Qbe lb n jk a2 b3 c4 (IntKind.wrap .i64 (b3+(IntKind.wrap .i64 ((IntKind.wrap .i64 (Int.tdiv (IntKind.wrap .i64 (c4-b3)) 4))*3)))) 1))))
 else
 (optO (atL a2 (IntKind.wrap .i64 (b3+(IntKind.wrap .i64 ((IntKind.wrap .i64 (Int.tdiv (IntKind.wrap .i64 (c4-b3)) 4))*2))))) fun zS=>
 chkO (zS.length==1) (
 optO (zS[0]?) fun qP=>
 optO (atL a2 (IntKind.wrap .i64 (b3+(IntKind.wrap .i64 ((IntKind.wrap .i64 (Int.tdiv (IntKind.wrap .i64 (c4-b3)) 4))*1))))) fun zD=>
 chkO (zD.length==1) (
 optO (zD[0]?) fun x50=>
 optO (C lb n Qbr [qP,x50]) fun r51=>
 optO (CV.asB r51) fun b52=>
 bif b52 then
 (Qbe lb n jk a2 b3 c4 (IntKind.wrap .i64 (b3+(IntKind.wrap .i64 ((IntKind.wrap .i64 (Int.tdiv (IntKind.wrap .i64 (c4-b3)) 4))*1)))) 1)
 else
 (slices_choosePivotOrdered_int_J1 lb n jk a2 b3 c4 0)))))))))))
 else
 (slices_choosePivotOrdered_int_J1 lb n jk a2 b3 c4 0):=by kernel_rfl
noncomputable def Qcw (lb n ve:Nat) (jk:Bool) (a2:LL) (b3 c4:Int):Option CV:=
 hold (Qax (E0 lb n 0 994) 0 (Qak (sub (B Qab) [1,1,0,1,0,0])++ [9,9,10,10]) [] (sub (B Qab) [1,1,0,1,0,0]) (Qam 0 (seqK (E0 lb n 0 997) (sub (B Qab) [1,1,0]) (sub (B Qab) [1,1,1]) (retK Tryz.prog (R Qab) 0 (outK (Qae Tryz.prog Qab))))) ve ⟨fr 133 [(0, .val (.list jk a2)),(1,vI b3),(2,vI c4),(6,vB false),(7, .val (.int .i64 (IntKind.wrap .i64 (b3+1)))),(8,vI 0),(11,vI b3),(12, .val (.int .i64 (IntKind.wrap .i64 (b3+1))))],[bx 133 []],KK⟩)
noncomputable def Qa8 (lb n oL ve:Nat) (jk:Bool) (a2:LL) (b3 c4 v7:Int):Option CV:=
 hold (Qax (E0 lb n 0 988) 0 (Qak (sub (B Qab) [1,1,0,1,0,0,1,0,0,0,0,0])++ []) [] (sub (B Qab) [1,1,0,1,0,0,1,0,0,0,0,0]) (Qam 2 (seqK (E0 lb n 0 990) (sub (B Qab) [1,1,0,1,0,0,1,0,0,0]) (sub (B Qab) [1,1,0,1,0,0,1,0,0,1]) (Qam 1 (seqK (E0 lb n 0 992) (sub (B Qab) [1,1,0,1,0,0,1,0]) (sub (B Qab) [1,1,0,1,0,0,1,1]) (Qcz 0 (Qak (sub (B Qab) [1,1,0,1,0,0])++ [9,9,10,10]) [] (Qax (E0 lb n 0 994) 0 (Qak (sub (B Qab) [1,1,0,1,0,0])++ [9,9,10,10]) [] (sub (B Qab) [1,1,0,1,0,0]) (Qam 0 (seqK (E0 lb n 0 997) (sub (B Qab) [1,1,0]) (sub (B Qab) [1,1,1]) (retK Tryz.prog (R Qab) 0 (outK (Qae Tryz.prog Qab))))) ve) (Qam 0 (seqK (E0 lb n 0 997) (sub (B Qab) [1,1,0]) (sub (B Qab) [1,1,1]) (retK Tryz.prog (R Qab) 0 (outK (Qae Tryz.prog Qab)))))))))) oL ⟨fr 133 [(0, .val (.list jk a2)),(1,vI b3),(2,vI c4),(6,vB false),(7,vI v7),(8,vI 0),(11,vI b3),(12, .val (.int .i64 (IntKind.wrap .i64 (b3+1))))],[bx 133 []],KK⟩)
noncomputable def QbH (lb n ve:Nat) (jk:Bool) (a2:LL) (b3 c4 gT:Int):Option CV:=
 hold (E0 lb n 0 990 (sub (B Qab) [1,1,0,1,0,0,1,0,0,1]) (Qam 1 (seqK (E0 lb n 0 992) (sub (B Qab) [1,1,0,1,0,0,1,0]) (sub (B Qab) [1,1,0,1,0,0,1,1]) (Qcz 0 (Qak (sub (B Qab) [1,1,0,1,0,0])++ [9,9,10,10]) [] (Qax (E0 lb n 0 994) 0 (Qak (sub (B Qab) [1,1,0,1,0,0])++ [9,9,10,10]) [] (sub (B Qab) [1,1,0,1,0,0]) (Qam 0 (seqK (E0 lb n 0 997) (sub (B Qab) [1,1,0]) (sub (B Qab) [1,1,1]) (retK Tryz.prog (R Qab) 0 (outK (Qae Tryz.prog Qab))))) ve) (Qam 0 (seqK (E0 lb n 0 997) (sub (B Qab) [1,1,0]) (sub (B Qab) [1,1,1]) (retK Tryz.prog (R Qab) 0 (outK (Qae Tryz.prog Qab)))))))) ⟨fr 133 [(0, .val (.list jk a2)),(1,vI b3),(2,vI c4),(6,vB false),(7,vI gT),(8,vI 0),(11,vI b3),(12, .val (.int .i64 (IntKind.wrap .i64 (b3+1))))],[bx 133 []],KK⟩)
theorem Qed (lb n ve:Nat) (jk:Bool) (a2:LL) (b3 c4 gT:Int):
 QbH lb n ve jk a2 b3 c4 gT=
 bif (gT==c4) then
 (some (.bool true))
 else
 (bif (decide ((IntKind.wrap .i64 (c4-b3))<50)) then
 (some (.bool false))
 else
 (optO (atL a2 (IntKind.wrap .i64 (gT-1))) fun nv=>
 chkO (nv.length==1) (
 optO (nv[0]?) fun wu=>
 optO (atL a2 gT) fun zU=>
 chkO (zU.length==1) (
 optO (zU[0]?) fun wB=>
 optO (atL a2 gT) fun c63=>
 chkO (c63.length==1) (
 none))))):=(Qah _).trans (by kernel_rfl)
theorem Qb5 (lb n oL ve:Nat) (jk:Bool) (a2:LL) (b3 c4 v7:Int):
 Qa8 lb n (oL+1) ve jk a2 b3 c4 v7=
 bif (decide (v7<c4)) then
 (optO (atL a2 v7) fun gZ=>
 chkO (gZ.length==1) (
 optO (gZ[0]?) fun g9=>
 optO (atL a2 (IntKind.wrap .i64 (v7-1))) fun zV=>
 chkO (zV.length==1) (
 optO (zV[0]?) fun nu=>
 optO (C lb n Qbr [g9,nu]) fun r56=>
 optO (CV.asB r56) fun mF=>
 bif (!mF) then
 (Qa8 lb n oL ve jk a2 b3 c4 (IntKind.wrap .i64 (v7+1)))
 else
 (QbH lb n ve jk a2 b3 c4 v7))))
 else
 (QbH lb n ve jk a2 b3 c4 v7):=(Qah _).trans (by kernel_rfl)
theorem QdW (lb n ve:Nat) (jk:Bool) (a2:LL) (b3 c4:Int):
 Qcw lb n (ve+1) jk a2 b3 c4=
 Qa8 lb n n ve jk a2 b3 c4 (IntKind.wrap .i64 (b3+1)):=(Qah _).trans (by kernel_rfl)
theorem Qer (lb n:Nat) (jk:Bool) (a2:LL) (b3 c4:Int):
 top lb n Qab [.list jk a2, .int .i64 b3, .int .i64 c4]=
 Qcw lb n n jk a2 b3 c4  :=by kernel_rfl
end Go.Proofs
