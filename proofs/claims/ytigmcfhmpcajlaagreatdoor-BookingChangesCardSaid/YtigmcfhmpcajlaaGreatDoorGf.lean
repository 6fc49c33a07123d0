/- Equations of functions, printed by program. Conditions: none. -/
import Derived.Test.YtigmcfhmpcajlaaGreatDoorEv
namespace Go.Proofs
open Go.Am
set_option maxRecDepth 100000
set_option linter.unusedVariables false
theorem QiD (lb n jk) (a2:LL):
 top lb n QcK [.list jk a2]=
 optO (C lb n Qfa [.int .u64 (IntKind.wrap .u64 ((a2.length:Int)))]) fun r3=>
 optO (C lb n Qad [.list jk a2, .int .i64 0, .int .i64 (a2.length:Int),r3]) fun r4=>
 some (.tup []):=by kernel_rfl
noncomputable def slices_pdqsortOrdered_int_L1:=
 fun lb n (ye:Nat) (jk:Bool) (a2:LL) wo wm oa wW w6=>
 hold (Qax (E0 lb n 0 996) 0 (Qak (sub (B Qad) [1,1,0,0])++ [10,11,12,11,12,13,14,15,16,17,18]) [] (sub (B Qad) [1,1,0,0]) (Qam 0 (retK Tryz.prog (R Qad) 0 (outK (Qae Tryz.prog Qad)))) ye ⟨fr 134 [(0, .val (.list jk a2)),(1,vV wo),(2,vV wm),(3,vI oa),(8,vB wW),(9,vV w6)],[bx 134 []],KK⟩)
noncomputable def QcY (lb n ye:Nat) (jk:Bool) (a2:LL) (wo wm:CV) (wW:Bool) (w6:CV) (wX wV yC:Int):Option CV:=
 hold (E0 lb n 0 991 (sub (B Qad) [1,1,0,0,0,1,1,1,1]) (Qam 1 (Qcz 0 (Qak (sub (B Qad) [1,1,0,0])++ [10,11,12,11,12,13,14,15,16,17,18]) [] (Qax (E0 lb n 0 996) 0 (Qak (sub (B Qad) [1,1,0,0])++ [10,11,12,11,12,13,14,15,16,17,18]) [] (sub (B Qad) [1,1,0,0]) (Qam 0 (retK Tryz.prog (R Qad) 0 (outK (Qae Tryz.prog Qad)))) ye) (Qam 0 (retK Tryz.prog (R Qad) 0 (outK (Qae Tryz.prog Qad)))))) ⟨fr 134 [(0, .val (.list jk a2)),(1,vV wo),(2,vV wm),(3,vI yC),(8,vB wW),(9,vV w6),(10, .val (.int .i64 (IntKind.wrap .i64 (wX-wV)))),(19,vV wm),(20,vV wo),(21, .val (.int .i64 (IntKind.wrap .i64 (wX-wV))))],[bx 134 []],KK⟩)
noncomputable def QhE (lb n ye:Nat) (jk:Bool) (a2:LL) (wo wm:CV) (yC:Int) (wW:Bool) (w6:CV) (wX wV:Int) (yn yE yz:CV) (zo zw:Int):Option CV:=
 hold (E0 lb n 0 989 (sub (B Qad) [1,1,0,0,0,1,1,1,1,1,1]) (Qam 1 (Qcz 0 (Qak (sub (B Qad) [1,1,0,0])++ [10,11,12,11,12,13,14,15,16,17,18]) [] (Qax (E0 lb n 0 996) 0 (Qak (sub (B Qad) [1,1,0,0])++ [10,11,12,11,12,13,14,15,16,17,18]) [] (sub (B Qad) [1,1,0,0]) (Qam 0 (retK Tryz.prog (R Qad) 0 (outK (Qae Tryz.prog Qad)))) ye) (Qam 0 (retK Tryz.prog (R Qad) 0 (outK (Qae Tryz.prog Qad)))))) ⟨fr 134 [(0, .val (.list jk a2)),(1,vV wo),(2,vV wm),(3,vI yC),(8,vB wW),(9,vV w6),(10, .val (.int .i64 (IntKind.wrap .i64 (wX-wV)))),(11,vI zo),(12,vI zw),(19,vV wm),(20,vV wo),(21, .val (.int .i64 (IntKind.wrap .i64 (wX-wV)))),(42,vV yn),(43, .val (.list jk a2)),(44,vV wo),(45,vV wm),(46,vV yn),(47,vV yE),(48,vV yz)],[bx 134 []],KK⟩)
noncomputable def Qen (lb n ye:Nat) (jk:Bool) (a2:LL) (wo wm:CV) (yC:Int) (wW:Bool) (w6:CV) (wX wV:Int) (yE yz yn:CV):Option CV:=
 hold (E0 lb n 0 989 (sub (B Qad) [1,1,0,0,0,1,1,1,1,1,1]) (Qam 1 (Qcz 0 (Qak (sub (B Qad) [1,1,0,0])++ [10,11,12,11,12,13,14,15,16,17,18]) [] (Qax (E0 lb n 0 996) 0 (Qak (sub (B Qad) [1,1,0,0])++ [10,11,12,11,12,13,14,15,16,17,18]) [] (sub (B Qad) [1,1,0,0]) (Qam 0 (retK Tryz.prog (R Qad) 0 (outK (Qae Tryz.prog Qad)))) ye) (Qam 0 (retK Tryz.prog (R Qad) 0 (outK (Qae Tryz.prog Qad)))))) ⟨fr 134 [(0, .val (.list jk a2)),(1,vV wo),(2,vV wm),(3,vI yC),(8,vB wW),(9,vV w6),(10, .val (.int .i64 (IntKind.wrap .i64 (wX-wV)))),(11,vV yE),(12,vV yz),(19,vV wm),(20,vV wo),(21, .val (.int .i64 (IntKind.wrap .i64 (wX-wV)))),(42,vV yn),(43, .val (.list jk a2)),(44,vV wo),(45,vV wm),(46,vV yn),(47,vV yE),(48,vV yz)],[bx 134 []],KK⟩)
noncomputable def Qb3 (lb n ye:Nat) (jk:Bool) (a2:LL) (wo wm:CV) (yC:Int) (wW:Bool) (w6:CV) (wX wV:Int) (yE yz yn:CV):Option CV:=
 hold (E0 lb n 0 988 (sub (B Qad) [1,1,0,0,0,1,1,1,1,1,1,1]) (Qam 1 (Qcz 0 (Qak (sub (B Qad) [1,1,0,0])++ [10,11,12,11,12,13,14,15,16,17,18]) [] (Qax (E0 lb n 0 996) 0 (Qak (sub (B Qad) [1,1,0,0])++ [10,11,12,11,12,13,14,15,16,17,18]) [] (sub (B Qad) [1,1,0,0]) (Qam 0 (retK Tryz.prog (R Qad) 0 (outK (Qae Tryz.prog Qad)))) ye) (Qam 0 (retK Tryz.prog (R Qad) 0 (outK (Qae Tryz.prog Qad)))))) ⟨fr 134 [(0, .val (.list jk a2)),(1,vV wo),(2,vV wm),(3,vI yC),(8,vB wW),(9,vV w6),(10, .val (.int .i64 (IntKind.wrap .i64 (wX-wV)))),(11,vV yE),(12,vV yz),(19,vV wm),(20,vV wo),(21, .val (.int .i64 (IntKind.wrap .i64 (wX-wV)))),(42,vV yn),(43, .val (.list jk a2)),(44,vV wo),(45,vV wm),(46,vV yn),(47,vV yE),(48,vV yz)],[bx 134 []],KK⟩)
theorem QgS (lb n ye:Nat) (jk:Bool) (a2:LL) (wo wm:CV) (yC:Int) (wW:Bool) (w6:CV) (wX wV:Int) (yE yz yn:CV):
 Qen lb n ye jk a2 wo wm yC wW w6 wX wV yE yz yn=
 bif wW then
 (optO (CV.asB w6) fun zp=>
 bif zp then
 (optO (CV.asI .i64 yz) fun zu=>
 bif (zu==1) then
 (optO (C lb n Qab [.list jk a2,wo,wm]) fun zy=>
 optO (CV.asB zy) fun zq=>
 bif zq then
 (some (.tup []))
 else
 (Qb3 lb n ye jk a2 wo wm yC wW w6 wX wV yE yz yn))
 else
 (Qb3 lb n ye jk a2 wo wm yC wW w6 wX wV yE yz yn))
 else
 (Qb3 lb n ye jk a2 wo wm yC wW w6 wX wV yE yz yn))
 else
 (Qb3 lb n ye jk a2 wo wm yC wW w6 wX wV yE yz yn):=(Qah _).trans (by kernel_rfl)
theorem QgT (lb n ye:Nat) (jk:Bool) (a2:LL) (wo wm:CV) (wW:Bool) (w6:CV) (wX wV yC:Int):
 QcY lb n ye jk a2 wo wm wW w6 wX wV yC=
 optO (C lb n Qan [.list jk a2,wo,wm]) fun yn=>
 optO (CV.asT yn) fun zn=>
 optO (zn[0]?) fun yE=>
 optO (CV.asT yn) fun zl=>
 optO (zl[1]?) fun yz=>
 optO (CV.asI .i64 yz) fun zm=>
 bif (zm==2) then
 (optO (C lb n Qgz [.list jk a2,wo,wm]) fun jcF=>
 optO (CV.asI .i64 wm) fun zt=>
 optO (CV.asI .i64 yE) fun zr=>
 optO (CV.asI .i64 wo) fun zx=>
 QhE lb n ye jk a2 wo wm yC wW w6 wX wV yn yE yz (IntKind.wrap .i64 ((IntKind.wrap .i64 (zt-1))-(IntKind.wrap .i64 (zr-zx)))) 1)
 else
 (Qen lb n ye jk a2 wo wm yC wW w6 wX wV yE yz yn):=(Qah _).trans (by kernel_rfl)
theorem Qdx (lb n ye:Nat) (jk:Bool) (a2:LL) (wo wm:CV) (oa:Int) (wW:Bool) (w6:CV):
 slices_pdqsortOrdered_int_L1 lb n (ye+1) jk a2 wo wm oa wW w6=
 optO (CV.asI .i64 wm) fun wX=>
 optO (CV.asI .i64 wo) fun wV=>
 bif (decide ((IntKind.wrap .i64 (wX-wV))≤12)) then
 (optO (C lb n Qaj [.list jk a2,wo,wm]) fun jcG=>
 some (.tup []))
 else
 (bif (oa==0) then
 (optO (C lb n QhW [.list jk a2,wo,wm]) fun jcD=>
 some (.tup []))
 else
 (bif (!wW) then
 (optO (C lb n Qga [.list jk a2,wo,wm]) fun jcE=>
 QcY lb n ye jk a2 wo wm wW w6 wX wV (IntKind.wrap .i64 (oa-1)))
 else
 (QcY lb n ye jk a2 wo wm wW w6 wX wV oa))):=(Qah _).trans (by kernel_rfl)
theorem Qeq (lb n:Nat) (jk:Bool) (a2:LL) (b3 c4 d5:Int):
 top lb n Qad [.list jk a2, .int .i64 b3, .int .i64 c4, .int .i64 d5]=
 slices_pdqsortOrdered_int_L1 lb n n jk a2 (.int .i64 b3) (.int .i64 c4) d5 true (.bool true):=by kernel_rfl
noncomputable def Qbx (lb n vM:Nat) (jk:Bool) (a2:LL) (b3 c4 yN:Int):Option CV:=
 hold (Qax (E0 lb n 0 997) 0 (Qak (sub (B Qaj) [1,0,0])++ [7,7]) [] (sub (B Qaj) [1,0,0]) (Qam 0 (retK Tryz.prog (R Qaj) 0 (outK (Qae Tryz.prog Qaj)))) vM ⟨fr 49 [(0, .val (.list jk a2)),(1,vI b3),(2,vI c4),(6,vI yN),(8,vI b3),(9, .val (.int .i64 (IntKind.wrap .i64 (b3+1))))],[bx 49 []],KK⟩)
noncomputable def Qdo (lb n s5 vM:Nat) (jk:Bool) (a2:LL) (b3 c4 yN:Int):Option CV:=
 hold (Qax (E0 lb n 0 991) 0 (Qak (sub (B Qaj) [1,0,0,1,0,0,1,0,0])++ []) [] (sub (B Qaj) [1,0,0,1,0,0,1,0,0]) (Qam 2 (Qam 1 (seqK (E0 lb n 0 995) (sub (B Qaj) [1,0,0,1,0]) (sub (B Qaj) [1,0,0,1,1]) (Qcz 0 (Qak (sub (B Qaj) [1,0,0])++ [7,7]) [] (Qax (E0 lb n 0 997) 0 (Qak (sub (B Qaj) [1,0,0])++ [7,7]) [] (sub (B Qaj) [1,0,0]) (Qam 0 (retK Tryz.prog (R Qaj) 0 (outK (Qae Tryz.prog Qaj)))) vM) (Qam 0 (retK Tryz.prog (R Qaj) 0 (outK (Qae Tryz.prog Qaj)))))))) s5 ⟨fr 49 [(0, .val (.list jk a2)),(1,vI b3),(2,vI c4),(6,vI yN),(7,vI yN),(8,vI b3),(9, .val (.int .i64 (IntKind.wrap .i64 (b3+1)))),(15,vI yN)],[bx 49 []],KK⟩)
noncomputable def Qb7 (lb n vM:Nat) (jk:Bool) (a2:LL) (b3 c4 yN yW:Int):Option CV:=
 hold (E0 lb n 0 995 (sub (B Qaj) [1,0,0,1,1]) (Qcz 0 (Qak (sub (B Qaj) [1,0,0])++ [7,7]) [] (Qax (E0 lb n 0 997) 0 (Qak (sub (B Qaj) [1,0,0])++ [7,7]) [] (sub (B Qaj) [1,0,0]) (Qam 0 (retK Tryz.prog (R Qaj) 0 (outK (Qae Tryz.prog Qaj)))) vM) (Qam 0 (retK Tryz.prog (R Qaj) 0 (outK (Qae Tryz.prog Qaj))))) ⟨fr 49 [(0, .val (.list jk a2)),(1,vI b3),(2,vI c4),(6,vI yN),(7,vI yW),(8,vI b3),(9, .val (.int .i64 (IntKind.wrap .i64 (b3+1))))],[bx 49 []],KK⟩)
theorem Qfh (lb n vM:Nat) (jk:Bool) (a2:LL) (b3 c4 yN yW:Int):
 Qb7 lb n vM jk a2 b3 c4 yN yW=
 Qbx lb n vM jk a2 b3 c4 (IntKind.wrap .i64 (yN+1)):=(Qah _).trans (by kernel_rfl)
theorem QeN (lb n s5 vM:Nat) (jk:Bool) (a2:LL) (b3 c4 yN:Int):
 Qdo lb n (s5+1) vM jk a2 b3 c4 yN=
 bif (decide (yN>b3)) then
 (optO (atL a2 yN) fun zM=>
 chkO (zM.length==1) (
 optO (zM[0]?) fun x69=>
 optO (atL a2 (IntKind.wrap .i64 (yN-1))) fun zz=>
 chkO (zz.length==1) (
 optO (zz[0]?) fun x71=>
 optO (C lb n Qbr [x69,x71]) fun zj=>
 optO (CV.asB zj) fun qh=>
 bif qh then
 (optO (atL a2 (IntKind.wrap .i64 (yN-1))) fun kP=>
 chkO (kP.length==1) (
 optO (kP[0]?) fun pU=>
 optO (atL a2 yN) fun c76=>
 chkO (c76.length==1) (
 optO (c76[0]?) fun si=>
 optO (atL a2 yN) fun c78=>
 chkO (c78.length==1) (
 none))))
 else
 (Qb7 lb n vM jk a2 b3 c4 yN yN))))
 else
 (Qb7 lb n vM jk a2 b3 c4 yN yN):=(Qah _).trans (by kernel_rfl)
theorem QbN (lb n vM:Nat) (jk:Bool) (a2:LL) (b3 c4 yN:Int):
 Qbx lb n (vM+1) jk a2 b3 c4 yN=
 bif (decide (yN<c4)) then
 (Qdo lb n n vM jk a2 b3 c4 yN)
 else
 (some (.tup [])):=(Qah _).trans (by kernel_rfl)
theorem Qdq (lb n:Nat) (jk:Bool) (a2:LL) (b3 c4:Int):
 top lb n Qaj [.list jk a2, .int .i64 b3, .int .i64 c4]=
 Qbx lb n n jk a2 b3 c4 (IntKind.wrap .i64 (b3+1)):=by kernel_rfl
theorem QpS (lb n:Nat) (a1 b2:Int):
 top lb n Qbr [.int .i64 a1, .int .i64 b2]=
 optO (C lb n Qe9 [.int .i64 a1]) fun r3=>
 optO (CV.asB r3) fun b4=>
 bif b4 then
 (optO (C lb n Qe9 [.int .i64 b2]) fun r5=>
 optO (CV.asB r5) fun b6=>
 bif (!b6) then
 (some (.bool true))
 else
 (some (.bool (decide (a1<b2)))))
 else
 (some (.bool (decide (a1<b2)))):=by kernel_rfl
theorem Qo5 (lb n:Nat) (a1:Int):
 top lb n Qe9 [.int .i64 a1]=
 some (.bool (a1 !=a1)):=by kernel_rfl
theorem Qj6 (lb n:Nat) (a1:Int):
 top lb n Qfa [.int .u64 a1]=
 optO (C lb n Qbk [.int .u64 a1]) fun r2=>
 some (r2):=by kernel_rfl
noncomputable def QfC (lb n:Nat) (i2 i3:Int):Option CV:=
 hold (E0 lb n 0 998 (sub (B Qbk) [1,1]) (retK Tryz.prog (R Qbk) 0 (outK (Qae Tryz.prog Qbk))) ⟨fr 25 [(0, .val (.int .u64 i2)),(2,vI i3)],[bx 25 []],KK⟩)
noncomputable def Qc6 (lb n:Nat) (i4 i5:Int):Option CV:=
 hold (E0 lb n 0 997 (sub (B Qbk) [1,1,1]) (retK Tryz.prog (R Qbk) 0 (outK (Qae Tryz.prog Qbk))) ⟨fr 25 [(0, .val (.int .u64 i4)),(2,vI i5)],[bx 25 []],KK⟩)
theorem QbT (lb n:Nat) (i4 i5:Int):
 Qc6 lb n i4 i5=
 bif (decide (i4≥256)) then
 (optO (atS [0,1,2,2,3,3,3,3,4,4,4,4,4,4,4,4,5,5,5,5,5,5,5,5,5,5,5,5,5,5,5,5,6,6,6,6,6,6,6,6,6,6,6,6,6,6,6,6,6,6,6,6,6,6,6,6,6,6,6,6,6,6,6,6,7,7,7,7,7,7,7,7,7,7,7,7,7,7,7,7,7,7,7,7,7,7,7,7,7,7,7,7,7,7,7,7,7,7,7,7,7,7,7,7,7,7,7,7,7,7,7,7,7,7,7,7,7,7,7,7,7,7,7,7,7,7,7,7,8,8,8,8,8,8,8,8,8,8,8,8,8,8,8,8,8,8,8,8,8,8,8,8,8,8,8,8,8,8,8,8,8,8,8,8,8,8,8,8,8,8,8,8,8,8,8,8,8,8,8,8,8,8,8,8,8,8,8,8,8,8,8,8,8,8,8,8,8,8,8,8,8,8,8,8,8,8,8,8,8,8,8,8,8,8,8,8,8,8,8,8,8,8,8,8,8,8,8,8,8,8,8,8,8,8,8,8,8,8,8,8,8,8,8,8,8,8,8,8,8,8,8,8,8,8,8,8] (IntKind.wrap .u8 (Int.fdiv i4 (2^8)))) fun c6=>
 some (.int .i64 (IntKind.wrap .i64 ((IntKind.wrap .i64 (i5+8))+(IntKind.wrap .i64 ((c6.toNat:Int)))))))
 else
 (optO (atS [0,1,2,2,3,3,3,3,4,4,4,4,4,4,4,4,5,5,5,5,5,5,5,5,5,5,5,5,5,5,5,5,6,6,6,6,6,6,6,6,6,6,6,6,6,6,6,6,6,6,6,6,6,6,6,6,6,6,6,6,6,6,6,6,7,7,7,7,7,7,7,7,7,7,7,7,7,7,7,7,7,7,7,7,7,7,7,7,7,7,7,7,7,7,7,7,7,7,7,7,7,7,7,7,7,7,7,7,7,7,7,7,7,7,7,7,7,7,7,7,7,7,7,7,7,7,7,7,8,8,8,8,8,8,8,8,8,8,8,8,8,8,8,8,8,8,8,8,8,8,8,8,8,8,8,8,8,8,8,8,8,8,8,8,8,8,8,8,8,8,8,8,8,8,8,8,8,8,8,8,8,8,8,8,8,8,8,8,8,8,8,8,8,8,8,8,8,8,8,8,8,8,8,8,8,8,8,8,8,8,8,8,8,8,8,8,8,8,8,8,8,8,8,8,8,8,8,8,8,8,8,8,8,8,8,8,8,8,8,8,8,8,8,8,8,8,8,8,8,8,8,8,8,8,8,8] (IntKind.wrap .u8 (i4))) fun c7=>
 some (.int .i64 (IntKind.wrap .i64 (i5+(IntKind.wrap .i64 ((c7.toNat:Int))))))):=(Qah _).trans (by kernel_rfl)
theorem QgR (lb n:Nat) (i2 i3:Int):
 QfC lb n i2 i3=
 bif (decide (i2≥65536)) then
 (Qc6 lb n  (Int.fdiv i2 (2^16)) (IntKind.wrap .i64 (i3+16)))
 else
 (Qc6 lb n  i2 i3):=(Qah _).trans (by kernel_rfl)
theorem QiC (lb n:Nat) (a1:Int):
 top lb n Qbk [.int .u64 a1]=
 bif (decide (a1≥4294967296)) then
 (QfC lb n  (Int.fdiv a1 (2^32)) 32)
 else
 (QfC lb n  a1 0):=by kernel_rfl
end Go.Proofs
