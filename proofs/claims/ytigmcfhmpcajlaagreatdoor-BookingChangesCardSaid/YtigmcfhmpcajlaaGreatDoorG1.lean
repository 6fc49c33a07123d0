/- Equations of functions, printed by program. Conditions: none. -/
import Derived.Test.YtigmcfhmpcajlaaGreatDoorEv
namespace Go.Proofs
open Go.Am
set_option maxRecDepth 100000
set_option linter.unusedVariables false
theorem QpO (lb n) (a1:Int):
 top lb n QdF [.int .i64 a1]=
 optO (C lb n QhM [.int .i64 a1]) fun r2=>
 some (r2):=by kernel_rfl
theorem Qs9 (lb n) (a1:LB) (b2 c3:Int):
 top lb n Qe0 [.str a1, .int .i64 b2, .int .i64 c3]=
 bif (decide ((a1.length:Int)≥b2)) then
 (bif (decide ((a1.length:Int)≤c3)) then
 (optO (C lb n Qao [.str a1, .fn QcL]) fun r4=>
 some (r4))
 else
 (some (.bool false)))
 else
 (some (.bool false)):=by kernel_rfl
theorem Qry (lb n) (a1:Int):
 top lb n QdZ [.int .i64 a1]=
 bif (decide (a1<0)) then
 (optO (C lb n Qfr [.int .u64 (IntKind.wrap .u64 ((IntKind.wrap .u64 (IntKind.wrap .i64 (0-(IntKind.wrap .i64 (a1+1)))))+1))]) fun r2=>
 optO (CV.asS r2) fun s3=>
 chkO (decide (([45]:LB).length+s3.length≤9223372036854775807)) (
 some (.str (([45]:LB)++s3))))
 else
 (optO (C lb n Qfr [.int .u64 (IntKind.wrap .u64 (a1))]) fun r4=>
 some (r4)):=by kernel_rfl
noncomputable def r01_Code_L1:=
 fun lb n (oc:Nat) a1 b2 c3 y6=>
 hold (Qax (E0 lb n 0 995) 0 (Qak (sub (B QbK) [1,0,1,0,0])++ []) [] (sub (B QbK) [1,0,1,0,0]) (Qam 0 (seqK (E0 lb n 0 998) (sub (B QbK) [1,0]) (sub (B QbK) [1,1]) (retK Tryz.prog (R QbK) 0 (outK (Qae Tryz.prog QbK))))) oc ⟨fr 36 [(0,vS a1),(1,vI b2),(2,vI c3),(6,vB false),(7,vI y6)],[bx 36 []],KK⟩)
noncomputable def QoU (lb n:Nat) (a1:LB) (b2 c3 y5:Int):Option CV:=
 hold (E0 lb n 0 998 (sub (B QbK) [1,1]) (retK Tryz.prog (R QbK) 0 (outK (Qae Tryz.prog QbK))) ⟨fr 36 [(0,vS a1),(1,vI b2),(2,vI c3),(6,vB false),(7,vI y5)],[bx 36 []],KK⟩)
theorem Qrp (lb n:Nat) (a1:LB) (b2 c3 y5:Int):
 QoU lb n a1 b2 c3 y5=
 bif (decide ((a1.length:Int)≥b2)) then
 (some (.bool (decide ((a1.length:Int)≤c3))))
 else
 (some (.bool false)):=(Qah _).trans (by kernel_rfl)
theorem QjM (lb n oc:Nat) (a1:LB) (b2 c3 y6:Int):
 r01_Code_L1 lb n (oc+1) a1 b2 c3 y6=
 bif (decide (y6<(a1.length:Int))) then
 (optO (atS a1 y6) fun c21=>
 optO (C lb n Qeb [.int .u8 (c21.toNat:Int)]) fun ju=>
 optO (CV.asB ju) fun b23=>
 bif (!b23) then
 (optO (atS a1 y6) fun c24=>
 optO (C lb n QkO [.int .u8 (c24.toNat:Int)]) fun r25=>
 optO (CV.asB r25) fun od=>
 bif (!od) then
 (some (.bool false))
 else
 (r01_Code_L1 lb n oc a1 b2 c3 (IntKind.wrap .i64 (y6+1))))
 else
 (r01_Code_L1 lb n oc a1 b2 c3 (IntKind.wrap .i64 (y6+1))))
 else
 (QoU lb n a1 b2 c3 y6):=(Qah _).trans (by kernel_rfl)
theorem Quw (lb n:Nat) (a1:LB) (b2 c3:Int):
 top lb n QbK [.str a1, .int .i64 b2, .int .i64 c3]=
 r01_Code_L1 lb n n a1 b2 c3 0:=by kernel_rfl
theorem QpY (lb n:Nat) (a1:LB):
 top lb n QhO [.str a1]=
 optO (C lb n Qe0 [.str a1, .int .i64 2, .int .i64 2]) fun r2=>
 optO (CV.asB r2) fun b3=>
 bif b3 then
 (optO (C lb n Qao [.str a1, .fn QcD]) fun r4=>
 optO (CV.asB r4) fun b5=>
 some (.bool (!b5)))
 else
 (some (.bool false)):=by kernel_rfl
theorem Qqd (lb n:Nat) (a1:LB):
 top lb n QfQ [.str a1]=
 bif ((a1.length:Int)==3) then
 (optO (C lb n Qao [.str a1, .fn QbA]) fun r2=>
 some (r2))
 else
 (some (.bool false)):=by kernel_rfl
theorem Qsp (lb n:Nat) (a1:LB):
 top lb n QjP [.str a1]=
 bif ((a1.length:Int)==1) then
 (optO (atS a1 0) fun c2=>
 optO (C lb n QbA [.int .u8 (c2.toNat:Int)]) fun r3=>
 some (r3))
 else
 (some (.bool false)):=by kernel_rfl
theorem Qrz (lb n:Nat) (a1:Int):
 top lb n QcL [.int .u8 a1]=
 optO (C lb n QbA [.int .u8 a1]) fun r2=>
 optO (CV.asB r2) fun b3=>
 bif b3 then
 (some (.bool true))
 else
 (optO (C lb n QcD [.int .u8 a1]) fun r4=>
 some (r4)):=by kernel_rfl
theorem Qqq (lb n:Nat) (a1:Int):
 top lb n QbA [.int .u8 a1]=
 bif (decide (a1≥65)) then
 (some (.bool (decide (a1≤90))))
 else
 (some (.bool false)):=by kernel_rfl
theorem Qso (lb n:Nat) (a1:Int):
 top lb n QcD [.int .u8 a1]=
 bif (decide (a1≥48)) then
 (some (.bool (decide (a1≤57))))
 else
 (some (.bool false)):=by kernel_rfl
theorem Qrr (lb n:Nat) (a1:LB):
 top lb n QiF [.str a1]=
 optO (C lb n QbK [.str a1, .int .i64 2, .int .i64 2]) fun r2=>
 optO (CV.asB r2) fun b3=>
 bif b3 then
 (optO (atS a1 0) fun c4=>
 optO (C lb n Qeb [.int .u8 (c4.toNat:Int)]) fun r5=>
 optO (CV.asB r5) fun b6=>
 bif b6 then
 (some (.bool true))
 else
 (optO (atS a1 1) fun c7=>
 optO (C lb n Qeb [.int .u8 (c7.toNat:Int)]) fun r9=>
 some (r9)))
 else
 (some (.bool false)):=by kernel_rfl
theorem Qq4 (lb n:Nat) (a1:LB):
 top lb n Qgi [.str a1]=
 optO (C lb n Qbq [.str a1, .int .i64 3]) fun r2=>
 some (r2):=by kernel_rfl
theorem Qs3 (lb n:Nat) (a1:LB):
 top lb n QkY [.str a1]=
 optO (C lb n Qbq [.str a1, .int .i64 1]) fun r2=>
 some (r2):=by kernel_rfl
theorem Qmm (lb n:Nat) (a1:Int):
 top lb n Qfr [.int .u64 a1]=
 bif (decide (a1<10)) then
 (chkO (decide ((0:Int)≤(IntKind.wrap .u64 (a1+1))∧(IntKind.wrap .u64 (a1+1))≤10)) (
 chkO (decide ((0:Int)≤a1∧a1≤(IntKind.wrap .u64 (a1+1)))) (
 some (.str ((([48,49,50,51,52,53,54,55,56,57]:LB).take ((IntKind.wrap .u64 (a1+1)).toNat)).drop a1.toNat)))))
 else
 (optO (C lb n Qfr [.int .u64 (IntKind.wrap .u64 (Int.tdiv a1 10))]) fun r2=>
 chkO (decide ((0:Int)≤(IntKind.wrap .u64 ((Int.tmod a1 10)+1))∧(IntKind.wrap .u64 ((Int.tmod a1 10)+1))≤10)) (
 chkO (decide ((0:Int)≤(Int.tmod a1 10)∧(Int.tmod a1 10)≤(IntKind.wrap .u64 ((Int.tmod a1 10)+1)))) (
 optO (CV.asS r2) fun s3=>
 chkO (decide (s3.length+((([48,49,50,51,52,53,54,55,56,57]:LB).take ((IntKind.wrap .u64 ((Int.tmod a1 10)+1)).toNat)).drop ((Int.tmod a1 10).toNat)).length≤9223372036854775807)) (
 some (.str (s3++((([48,49,50,51,52,53,54,55,56,57]:LB).take ((IntKind.wrap .u64 ((Int.tmod a1 10)+1)).toNat)).drop ((Int.tmod a1 10).toNat)))))))):=by kernel_rfl
theorem Qui (lb n:Nat) (a1:Int):
 top lb n Qeb [.int .u8 a1]=
 bif (decide (a1≥65)) then
 (some (.bool (decide (a1≤90))))
 else
 (some (.bool false)):=by kernel_rfl
theorem QtZ (lb n:Nat) (a1:Int):
 top lb n QkO [.int .u8 a1]=
 bif (decide (a1≥48)) then
 (some (.bool (decide (a1≤57))))
 else
 (some (.bool false)):=by kernel_rfl
noncomputable def QeS (lb n kA:Nat) (a1:LB) (x4 x6 r2:CV) (p9:Bool×LL) (gm:Bool×LL) (y9:LL) (yH:Int):Option CV:=
 hold (Qax (E0 lb n 0 991) 0 (Qak (sub (B QaY) [1,1,1,1,1,0,1,0,0])++ [8,9,10,8]) [] (sub (B QaY) [1,1,1,1,1,0,1,0,0]) (Qam 0 (seqK (E0 lb n 0 994) (sub (B QaY) [1,1,1,1,1,0]) (sub (B QaY) [1,1,1,1,1,1]) (retK Tryz.prog (R QaY) 0 (outK (Qae Tryz.prog QaY))))) kA ⟨fr 50 [(0,vS a1),(2, .lst true true 9 []),(3,vI 0),(4,vV x4),(5,vV x6),(6, .lst true false 9 y9),(13,vV r2),(14,vS a1),(15,vV r2),(16,vV x4),(17,vV x6),(20,vV x4),(21, .val (.int .i64 (p9.2.length:Int))),(22, .val (.list false [])),(23,vV x4),(24, .val (.int .i64 (gm.2.length:Int))),(25,vI yH)],[bx 50 []],KK⟩)
noncomputable def Qmn (lb n:Nat) (a1:LB) (x4 x6 r2:CV) (p9:Bool×LL) (mF:Bool) (pH:LL):Option CV:=
 hold (E0 lb n 0 994 (sub (B QaY) [1,1,1,1,1,1]) (retK Tryz.prog (R QaY) 0 (outK (Qae Tryz.prog QaY))) ⟨fr 50 [(0,vS a1),(2, .lst true true 9 []),(3,vI 0),(4,vV x4),(5,vV x6),(6, .lst true mF 9 pH),(13,vV r2),(14,vS a1),(15,vV r2),(16,vV x4),(17,vV x6),(20,vV x4),(21, .val (.int .i64 (p9.2.length:Int))),(22, .val (.list false []))],[bx 50 []],KK⟩)
theorem Qpo (lb n:Nat) (a1:LB) (x4 x6 r2:CV) (p9:Bool×LL) (mF:Bool) (pH:LL):
 Qmn lb n a1 x4 x6 r2 p9 mF pH=
 some (.tup [.list mF pH, .int .i64 0]):=(Qah _).trans (by kernel_rfl)
theorem Qda (lb n kA:Nat) (a1:LB) (x4 x6 r2:CV) (p9:Bool×LL) (gm:Bool×LL) (y9:LL) (yH:Int):
 QeS lb n (kA+1) a1 x4 x6 r2 p9 gm y9 yH=
 bif (decide (yH<(gm.2.length:Int))) then
 (optO (CV.asL x4) fun p44=>
 optO (atL p44.2 yH) fun ni=>
 chkO (ni.length==1) (
 optO (ni[0]?) fun kJ=>
 optO (C lb n Qg7 [kJ]) fun r47=>
 optO (CV.asB r47) fun b48=>
 bif (!b48) then
 (optO (C lb n Qbs [kJ]) fun ww=>
 optO (CV.asT ww) fun t50=>
 optO (t50[0]?) fun nk=>
 optO (CV.asT ww) fun t52=>
 optO (t52[1]?) fun g9=>
 optO (CV.asI .i64 g9) fun i54=>
 bif (i54 !=0) then
 (some (.tup [.list true [], .int .i64 3]))
 else
 (optO (C lb n Qg7 [nk]) fun r55=>
 optO (CV.asB r55) fun gi=>
 bif gi then
 (some (.tup [.list true [], .int .i64 3]))
 else
 (chkO (CV.isCell nk) (
 chkO (room (y9.length+1) 16) (
 QeS lb n kA a1 x4 x6 r2 p9 gm (y9++ [[nk]]) (IntKind.wrap .i64 (yH+1)))))))
 else
 (chkO (CV.isCell kJ) (
 chkO (room (y9.length+1) 16) (
 QeS lb n kA a1 x4 x6 r2 p9 gm (y9++ [[kJ]]) (IntKind.wrap .i64 (yH+1)))))))
 else
 (Qmn lb n a1 x4 x6 r2 p9 false y9):=(Qah _).trans (by kernel_rfl)
theorem Qsv (lb n:Nat) (a1:LB):
 top lb n QaY [.str a1]=
 bif (a1== []) then
 (some (.tup [.list true [], .int .i64 0]))
 else
 (optO (C lb n Qch [.str a1]) fun r2=>
 optO (CV.asT r2) fun t3=>
 optO (t3[0]?) fun x4=>
 optO (CV.asT r2) fun t5=>
 optO (t5[1]?) fun x6=>
 optO (CV.asB x6) fun b7=>
 bif (!b7) then
 (some (.tup [.list true [], .int .i64 3]))
 else
 (optO (CV.asL x4) fun p9=>
 chkO (decide (0≤(0:Int))&&decide ((0:Int)≤((p9.2.length:Int):Int))&&decide (((p9.2.length:Int):Int)*16≤140737488355328)&&decide (((p9.2.length:Int):Int)≤140737488355328)) (
 optO (CV.asL x4) fun gm=>
 QeS lb n n a1 x4 x6 r2 p9 gm [] 0))):=by kernel_rfl
noncomputable def Qhl (lb n oM:Nat) (a1:LB) (r2:CV) (p3:Bool×LL) (vo:Int):Option CV:=
 hold (Qax (E0 lb n 0 994) 0 (Qak (sub (B QbG) [1,1,0,1,0,0])++ [4]) [] (sub (B QbG) [1,1,0,1,0,0]) (Qam 0 (seqK (E0 lb n 0 997) (sub (B QbG) [1,1,0]) (sub (B QbG) [1,1,1]) (retK Tryz.prog (R QbG) 0 (outK (Qae Tryz.prog QbG))))) oM ⟨fr 23 [(0,vS a1),(2,vB false),(8,vS a1),(9,vV r2),(10, .val (.int .i64 (p3.2.length:Int))),(11,vI vo)],[bx 23 []],KK⟩)
noncomputable def Qnu (lb n:Nat) (a1:LB):Option CV:=
 hold (E0 lb n 0 997 (sub (B QbG) [1,1,1]) (retK Tryz.prog (R QbG) 0 (outK (Qae Tryz.prog QbG))) ⟨fr 23 [(0,vS a1),(2,vB false)],[bx 23 []],KK⟩)
theorem Qqs (lb n:Nat) (a1:LB):
 Qnu lb n a1=
 some (.bool true):=(Qah _).trans (by kernel_rfl)
theorem QiP (lb n oM:Nat) (a1:LB) (r2:CV) (p3:Bool×LL) (vo:Int):
 Qhl lb n (oM+1) a1 r2 p3 vo=
 bif (decide (vo<(p3.2.length:Int))) then
 (optO (CV.asL r2) fun p20=>
 optO (atL p20.2 vo) fun c21=>
 chkO (c21.length==1) (
 optO (c21[0]?) fun gh=>
 optO (CV.asS gh) fun s23=>
 bif (s23== []) then
 (some (.bool false))
 else
 (optO (C lb n Qao [gh, .fn QbA]) fun r24=>
 optO (CV.asB r24) fun k9=>
 bif (!k9) then
 (some (.bool false))
 else
 (Qhl lb n oM a1 r2 p3 (IntKind.wrap .i64 (vo+1))))))
 else
 (Qnu lb n a1):=(Qah _).trans (by kernel_rfl)
theorem Qnv (lb n:Nat) (a1:LB):
 top lb n QbG [.str a1]=
 bif (decide ((a1.length:Int)>30)) then
 (some (.bool false))
 else
 (optO (C lb n Qff [.str a1, .str [32]]) fun r2=>
 optO (CV.asL r2) fun p3=>
 Qhl lb n n a1 r2 p3 0):=by kernel_rfl
noncomputable def Qf7 (lb n nF:Nat) (a1:LB) (vo:Int):Option CV:=
 hold (Qax (E0 lb n 0 994) 0 (Qak (sub (B Qb4) [1,1,0,1,0,0])++ []) [] (sub (B Qb4) [1,1,0,1,0,0]) (Qam 0 (seqK (E0 lb n 0 997) (sub (B Qb4) [1,1,0]) (sub (B Qb4) [1,1,1]) (retK Tryz.prog (R Qb4) 0 (outK (Qae Tryz.prog Qb4))))) nF ⟨fr 49 [(0,vS a1),(2,vB false),(3,vI vo)],[bx 49 []],KK⟩)
noncomputable def Qov (lb n:Nat) (a1:LB) (kW:Int):Option CV:=
 hold (E0 lb n 0 997 (sub (B Qb4) [1,1,1]) (retK Tryz.prog (R Qb4) 0 (outK (Qae Tryz.prog Qb4))) ⟨fr 49 [(0,vS a1),(2,vB false),(3,vI kW)],[bx 49 []],KK⟩)
theorem Qq7 (lb n:Nat) (a1:LB) (kW:Int):
 Qov lb n a1 kW=
 some (.bool true):=(Qah _).trans (by kernel_rfl)
theorem QgD (lb n nF:Nat) (a1:LB) (vo:Int):
 Qf7 lb n (nF+1) a1 vo=
 bif (decide (vo<(a1.length:Int))) then
 (optO (atS a1 vo) fun qd=>
 optO (C lb n Qeb [.int .u8 (qd.toNat:Int)]) fun nB=>
 optO (CV.asB nB) fun kD=>
 bif (!kD) then
 (optO (atS a1 vo) fun c22=>
 bif ((c22.toNat:Int) !=32) then
 (some (.bool false))
 else
 (optO (atS a1 (IntKind.wrap .i64 (vo-1))) fun pV=>
 bif ((pV.toNat:Int)==32) then
 (some (.bool false))
 else
 (Qf7 lb n nF a1 (IntKind.wrap .i64 (vo+1)))))
 else
 (Qf7 lb n nF a1 (IntKind.wrap .i64 (vo+1))))
 else
 (Qov lb n a1 vo):=(Qah _).trans (by kernel_rfl)
theorem QuW (lb n:Nat) (a1:LB):
 top lb n Qb4 [.str a1]=
 bif (decide ((a1.length:Int)<1)) then
 (some (.bool false))
 else
 (bif (decide ((a1.length:Int)>30)) then
 (some (.bool false))
 else
 (optO (atS a1 0) fun c2=>
 bif ((c2.toNat:Int)==32) then
 (some (.bool false))
 else
 (optO (atS a1 (IntKind.wrap .i64 ((a1.length:Int)-1))) fun c3=>
 bif ((c3.toNat:Int)==32) then
 (some (.bool false))
 else
 (Qf7 lb n n a1 0)))):=by kernel_rfl
noncomputable def QfS (lb n ka:Nat) (a1:LB) (b2 i6:Int):Option CV:=
 hold (Qax (E0 lb n 0 995) 0 (Qak (sub (B Qbq) [1,0,1,0,0])++ []) [] (sub (B Qbq) [1,0,1,0,0]) (Qam 0 (seqK (E0 lb n 0 998) (sub (B Qbq) [1,0]) (sub (B Qbq) [1,1]) (retK Tryz.prog (R Qbq) 0 (outK (Qae Tryz.prog Qbq))))) ka ⟨fr 21 [(0,vS a1),(1,vI b2),(4,vB false),(5,vI i6)],[bx 21 []],KK⟩)
noncomputable def Qlu (lb n:Nat) (a1:LB) (b2 wj:Int):Option CV:=
 hold (E0 lb n 0 998 (sub (B Qbq) [1,1]) (retK Tryz.prog (R Qbq) 0 (outK (Qae Tryz.prog Qbq))) ⟨fr 21 [(0,vS a1),(1,vI b2),(4,vB false),(5,vI wj)],[bx 21 []],KK⟩)
theorem Qn8 (lb n:Nat) (a1:LB) (b2 wj:Int):
 Qlu lb n a1 b2 wj=
 some (.bool ((a1.length:Int)==b2)):=(Qah _).trans (by kernel_rfl)
theorem QhB (lb n ka:Nat) (a1:LB) (b2 i6:Int):
 QfS lb n (ka+1) a1 b2 i6=
 bif (decide (i6<(a1.length:Int))) then
 (optO (atS a1 i6) fun jo=>
 optO (C lb n Qeb [.int .u8 (jo.toNat:Int)]) fun qw=>
 optO (CV.asB qw) fun vb=>
 bif (!vb) then
 (some (.bool false))
 else
 (QfS lb n ka a1 b2 (IntKind.wrap .i64 (i6+1))))
 else
 (Qlu lb n a1 b2 i6):=(Qah _).trans (by kernel_rfl)
theorem QrD (lb n:Nat) (a1:LB) (b2:Int):
 top lb n Qbq [.str a1, .int .i64 b2]=
 QfS lb n n a1 b2 0:=by kernel_rfl
theorem Qsr (lb n:Nat) (a1:LB):
 top lb n Qg7 [.str a1]=
 bif (!(a1== [])) then
 (optO (C lb n Qao [.str a1, .fn Qcp]) fun r2=>
 some (r2))
 else
 (some (.bool false)):=by kernel_rfl
noncomputable def Qbj (lb n kw:Nat) (a1:LB) (yg:Bool) (wR:LL) (yM:Int) (yZ vN:Bool) (w5:Nat):Option CV:=
 hold (Qax (E0 lb n 0 991) 0 (Qak (sub (B Qch) [1,0,1,1,1,0,1,0,0])++ [8,9,16,23,25,31,36]) [] (sub (B Qch) [1,0,1,1,1,0,1,0,0]) (Qam 0 (seqK (E0 lb n 0 994) (sub (B Qch) [1,0,1,1,1,0]) (sub (B Qch) [1,0,1,1,1,1]) (retK Tryz.prog (R Qch) 0 (outK (Qae Tryz.prog Qch))))) kw ⟨fr 58 [(0,vS a1),(2, .lst true true 9 []),(3,vB false),(4, .lst true yg 9 wR),(5,vI yM),(6,vB yZ),(7,vB vN),(10,vS a1),(11, .siter a1 w5)],[bx 58 []],KK⟩)
noncomputable def QoL (lb n:Nat) (a1:LB) (pJ:Bool) (nm:LL) (gk:Int) (kN sa:Bool):Option CV:=
 hold (E0 lb n 0 994 (sub (B Qch) [1,0,1,1,1,1]) (retK Tryz.prog (R Qch) 0 (outK (Qae Tryz.prog Qch))) ⟨fr 58 [(0,vS a1),(2, .lst true true 9 []),(3,vB false),(4, .lst true pJ 9 nm),(5,vI gk),(6,vB kN),(7,vB sa)],[bx 58 []],KK⟩)
theorem Qrv (lb n:Nat) (a1:LB) (pJ:Bool) (nm:LL) (gk:Int) (kN sa:Bool):
 QoL lb n a1 pJ nm gk kN sa=
 chkO (decide ((0:Int)≤gk∧gk≤(a1.length:Int))) (
 chkO (room (nm.length+1) 16) (
 some (.tup [.list (pJ&&false) (nm++ [[CV.str ((a1.take ((a1.length:Int).toNat)).drop gk.toNat)]]), .bool true]))):=(Qah _).trans (by kernel_rfl)
theorem Qcl (lb n kw:Nat) (a1:LB) (yg:Bool) (wR:LL) (yM:Int) (yZ vN:Bool) (w5:Nat):
 Qbj lb n (kw+1) a1 yg wR yM yZ vN w5=
 bif (decide (w5<a1.length)) then
 (bif (decide ((((Utf8.decode ⟨a1.toArray⟩ w5).1:Nat):Int)<32)) then
 (some (.tup [.list true [], .bool false]))
 else
 (bif (decide ((((Utf8.decode ⟨a1.toArray⟩ w5).1:Nat):Int)>126)) then
 (some (.tup [.list true [], .bool false]))
 else
 (bif vN then
 (Qbj lb n kw a1 yg wR yM yZ false (w5+(Utf8.decode ⟨a1.toArray⟩ w5).2))
 else
 (bif yZ then
 (bif ((((Utf8.decode ⟨a1.toArray⟩ w5).1:Nat):Int)==92) then
 (Qbj lb n kw a1 yg wR yM yZ true (w5+(Utf8.decode ⟨a1.toArray⟩ w5).2))
 else
 (bif ((((Utf8.decode ⟨a1.toArray⟩ w5).1:Nat):Int)==34) then
 (Qbj lb n kw a1 yg wR yM (!yZ) vN (w5+(Utf8.decode ⟨a1.toArray⟩ w5).2))
 else
 (bif ((((Utf8.decode ⟨a1.toArray⟩ w5).1:Nat):Int)==32) then
 (bif (!yZ) then
 (chkO (decide ((0:Int)≤((w5:Nat):Int)∧((w5:Nat):Int)≤(a1.length:Int))) (
 chkO (decide ((0:Int)≤yM∧yM≤((w5:Nat):Int))) (
 chkO (room (wR.length+1) 16) (
 Qbj lb n kw a1 (yg&&false) (wR++ [[CV.str ((a1.take (((w5:Nat):Int).toNat)).drop yM.toNat)]]) (IntKind.wrap .i64 (((w5:Nat):Int)+1)) yZ vN (w5+(Utf8.decode ⟨a1.toArray⟩ w5).2)))))
 else
 (Qbj lb n kw a1 yg wR yM yZ vN (w5+(Utf8.decode ⟨a1.toArray⟩ w5).2)))
 else
 (Qbj lb n kw a1 yg wR yM yZ vN (w5+(Utf8.decode ⟨a1.toArray⟩ w5).2)))))
 else
 (bif ((((Utf8.decode ⟨a1.toArray⟩ w5).1:Nat):Int)==34) then
 (Qbj lb n kw a1 yg wR yM (!yZ) vN (w5+(Utf8.decode ⟨a1.toArray⟩ w5).2))
 else
 (bif ((((Utf8.decode ⟨a1.toArray⟩ w5).1:Nat):Int)==32) then
 (bif (!yZ) then
 (chkO (decide ((0:Int)≤((w5:Nat):Int)∧((w5:Nat):Int)≤(a1.length:Int))) (
 chkO (decide ((0:Int)≤yM∧yM≤((w5:Nat):Int))) (
 chkO (room (wR.length+1) 16) (
 Qbj lb n kw a1 (yg&&false) (wR++ [[CV.str ((a1.take (((w5:Nat):Int).toNat)).drop yM.toNat)]]) (IntKind.wrap .i64 (((w5:Nat):Int)+1)) yZ vN (w5+(Utf8.decode ⟨a1.toArray⟩ w5).2)))))
 else
 (Qbj lb n kw a1 yg wR yM yZ vN (w5+(Utf8.decode ⟨a1.toArray⟩ w5).2)))
 else
 (Qbj lb n kw a1 yg wR yM yZ vN (w5+(Utf8.decode ⟨a1.toArray⟩ w5).2))))))))
 else
 (QoL lb n a1 yg wR yM yZ vN):=(Qah _).trans (by kernel_rfl)
theorem Qus (lb n:Nat) (a1:LB):
 top lb n Qch [.str a1]=
 Qbj lb n n a1 true [] 0 false false 0:=by kernel_rfl
noncomputable def Qd5 (lb n ny:Nat) (a1:LB) (yh:LL) (yI:Int):Option CV:=
 hold (Qax (E0 lb n 0 992) 0 (Qak (sub (B Qbs) [1,1,1,1,0,1,0,0])++ [7,8,9,7]) [] (sub (B Qbs) [1,1,1,1,0,1,0,0]) (Qam 0 (seqK (E0 lb n 0 995) (sub (B Qbs) [1,1,1,1,0]) (sub (B Qbs) [1,1,1,1,1]) (retK Tryz.prog (R Qbs) 0 (outK (Qae Tryz.prog Qbs))))) ny ⟨fr 75 [(0,vS a1),(2, .val (.str [])),(3,vI 0),(4, .val (.str ((a1.take ((IntKind.wrap .i64 ((a1.length:Int)-1)).toNat)).drop 1))),(5, .lst true false 5 yh),(6,vI yI),(26,vS a1),(27,vS a1),(28, .val (.int .i64 (a1.length:Int))),(29, .val (.int .i64 (IntKind.wrap .i64 ((a1.length:Int)-1)))),(30, .val (.str ((a1.take ((IntKind.wrap .i64 ((a1.length:Int)-1)).toNat)).drop 1))),(31, .val (.str ((a1.take ((IntKind.wrap .i64 ((a1.length:Int)-1)).toNat)).drop 1))),(32, .val (.int .i64 (((a1.take ((IntKind.wrap .i64 ((a1.length:Int)-1)).toNat)).drop 1).length:Int))),(33, .val (.list false []))],[bx 75 []],KK⟩)
noncomputable def Qkc (lb n:Nat) (a1:LB) (kK:Bool) (kL:LL) (yD:Int):Option CV:=
 hold (E0 lb n 0 995 (sub (B Qbs) [1,1,1,1,1]) (retK Tryz.prog (R Qbs) 0 (outK (Qae Tryz.prog Qbs))) ⟨fr 75 [(0,vS a1),(2, .val (.str [])),(3,vI 0),(4, .val (.str ((a1.take ((IntKind.wrap .i64 ((a1.length:Int)-1)).toNat)).drop 1))),(5, .lst true kK 5 kL),(6,vI yD),(26,vS a1),(27,vS a1),(28, .val (.int .i64 (a1.length:Int))),(29, .val (.int .i64 (IntKind.wrap .i64 ((a1.length:Int)-1)))),(30, .val (.str ((a1.take ((IntKind.wrap .i64 ((a1.length:Int)-1)).toNat)).drop 1))),(31, .val (.str ((a1.take ((IntKind.wrap .i64 ((a1.length:Int)-1)).toNat)).drop 1))),(32, .val (.int .i64 (((a1.take ((IntKind.wrap .i64 ((a1.length:Int)-1)).toNat)).drop 1).length:Int))),(33, .val (.list false []))],[bx 75 []],KK⟩)
theorem Qnj (lb n:Nat) (a1:LB) (kK:Bool) (kL:LL) (yD:Int):
 Qkc lb n a1 kK kL yD=
 optO (bytesOf kL) fun s39=>
 some (.tup [.str s39, .int .i64 0]):=(Qah _).trans (by kernel_rfl)
theorem QcH (lb n ny:Nat) (a1:LB) (yh:LL) (yI:Int):
 Qd5 lb n (ny+1) a1 yh yI=
 bif (decide (yI<(((a1.take ((IntKind.wrap .i64 ((a1.length:Int)-1)).toNat)).drop 1).length:Int))) then
 (optO (atS ((a1.take ((IntKind.wrap .i64 ((a1.length:Int)-1)).toNat)).drop 1) yI) fun kC=>
 bif ((kC.toNat:Int)==34) then
 (some (.tup [.str [], .int .i64 3]))
 else
 (bif (decide ((kC.toNat:Int)<32)) then
 (some (.tup [.str [], .int .i64 3]))
 else
 (bif (decide ((kC.toNat:Int)>126)) then
 (some (.tup [.str [], .int .i64 3]))
 else
 (bif ((kC.toNat:Int)==92) then
 (chkO (decide ((0:Int)≤(IntKind.wrap .i64 (yI+1))∧(IntKind.wrap .i64 (yI+1))≤(((a1.take ((IntKind.wrap .i64 ((a1.length:Int)-1)).toNat)).drop 1).length:Int))) (
 optO (C lb n QiI [.str ((((a1.take ((IntKind.wrap .i64 ((a1.length:Int)-1)).toNat)).drop 1).take ((((a1.take ((IntKind.wrap .i64 ((a1.length:Int)-1)).toNat)).drop 1).length:Int).toNat)).drop ((IntKind.wrap .i64 (yI+1)).toNat))]) fun pW=>
 optO (CV.asT pW) fun t29=>
 optO (t29[0]?) fun jY=>
 optO (CV.asT pW) fun t31=>
 optO (t31[1]?) fun j5=>
 optO (CV.asI .i64 j5) fun mw=>
 bif (mw==0) then
 (some (.tup [.str [], .int .i64 3]))
 else
 (optO (CV.asI .i64 j5) fun nj=>
 chkO (CV.isCell jY) (
 chkO (room (yh.length+1) 1) (
 Qd5 lb n ny a1 (yh++ [[jY]]) (IntKind.wrap .i64 ((IntKind.wrap .i64 (yI+nj))+1)))))))
 else
 (chkO (room (yh.length+1) 1) (
 Qd5 lb n ny a1 (yh++ [[CV.int .u8 (kC.toNat:Int)]]) (IntKind.wrap .i64 (yI+1))))))))
 else
 (Qkc lb n a1 false yh yI):=(Qah _).trans (by kernel_rfl)
theorem Qqb (lb n:Nat) (a1:LB):
 top lb n Qbs [.str a1]=
 bif (decide ((a1.length:Int)<2)) then
 (some (.tup [.str [], .int .i64 3]))
 else
 (optO (atS a1 0) fun c2=>
 bif ((c2.toNat:Int) !=34) then
 (some (.tup [.str [], .int .i64 3]))
 else
 (optO (atS a1 (IntKind.wrap .i64 ((a1.length:Int)-1))) fun c3=>
 bif ((c3.toNat:Int) !=34) then
 (some (.tup [.str [], .int .i64 3]))
 else
 (chkO (decide ((0:Int)≤(IntKind.wrap .i64 ((a1.length:Int)-1))∧(IntKind.wrap .i64 ((a1.length:Int)-1))≤(a1.length:Int))) (
 chkO (decide ((0:Int)≤1∧1≤(IntKind.wrap .i64 ((a1.length:Int)-1)))) (
 chkO (decide (0≤(0:Int))&&decide ((0:Int)≤((((a1.take ((IntKind.wrap .i64 ((a1.length:Int)-1)).toNat)).drop 1).length:Int):Int))&&decide (((((a1.take ((IntKind.wrap .i64 ((a1.length:Int)-1)).toNat)).drop 1).length:Int):Int)*1≤140737488355328)&&decide (((((a1.take ((IntKind.wrap .i64 ((a1.length:Int)-1)).toNat)).drop 1).length:Int):Int)≤140737488355328)) (
 Qd5 lb n n a1 [] 0)))))):=by kernel_rfl
theorem Qqg (lb n:Nat) (a1:Int):
 top lb n Qcp [.int .u8 a1]=
 bif (decide (a1>32)) then
 (bif (decide (a1≤126)) then
 (some (.bool (a1 !=34)))
 else
 (some (.bool false)))
 else
 (some (.bool false)):=by kernel_rfl
theorem QqZ (lb n:Nat) (a1:LB):
 top lb n QiI [.str a1]=
 bif (a1== []) then
 (some (.tup [.int .u8 0, .int .i64 0]))
 else
 (optO (atS a1 0) fun c2=>
 bif ((c2.toNat:Int)==34) then
 (optO (atS a1 0) fun c3=>
 some (.tup [.int .u8 (c3.toNat:Int), .int .i64 1]))
 else
 (optO (atS a1 0) fun c4=>
 bif ((c4.toNat:Int)==92) then
 (optO (atS a1 0) fun c5=>
 some (.tup [.int .u8 (c5.toNat:Int), .int .i64 1]))
 else
 (optO (atS a1 0) fun c6=>
 bif ((c6.toNat:Int) !=120) then
 (some (.tup [.int .u8 0, .int .i64 0]))
 else
 (bif (decide ((a1.length:Int)<3)) then
 (some (.tup [.int .u8 0, .int .i64 0]))
 else
 (optO (atS a1 1) fun c7=>
 optO (C lb n QcR [.str [48,49,50,51,52,53,54,55,56,57,97,98,99,100,101,102], .int .u8 (c7.toNat:Int)]) fun r9=>
 optO (atS a1 2) fun oJ=>
 optO (C lb n QcR [.str [48,49,50,51,52,53,54,55,56,57,97,98,99,100,101,102], .int .u8 (oJ.toNat:Int)]) fun mu=>
 optO (CV.asI .i64 r9) fun y6=>
 bif (decide (y6<0)) then
 (some (.tup [.int .u8 0, .int .i64 0]))
 else
 (optO (CV.asI .i64 mu) fun i13=>
 bif (decide (i13<0)) then
 (some (.tup [.int .u8 0, .int .i64 0]))
 else
 (optO (CV.asI .i64 r9) fun o9=>
 optO (CV.asI .i64 mu) fun wj=>
 bif (decide ((IntKind.wrap .u8 (IntKind.wrap .i64 ((BitVec.ofInt 64 (IntKind.wrap .i64 (o9*2^4))|||BitVec.ofInt 64 wj).toNat)))≥32)) then
 (bif (decide ((IntKind.wrap .u8 (IntKind.wrap .i64 ((BitVec.ofInt 64 (IntKind.wrap .i64 (o9*2^4))|||BitVec.ofInt 64 wj).toNat)))≤126)) then
 (some (.tup [.int .u8 0, .int .i64 0]))
 else
 (some (.tup [.int .u8 (IntKind.wrap .u8 (IntKind.wrap .i64 ((BitVec.ofInt 64 (IntKind.wrap .i64 (o9*2^4))|||BitVec.ofInt 64 wj).toNat))), .int .i64 3])))
 else
 (some (.tup [.int .u8 (IntKind.wrap .u8 (IntKind.wrap .i64 ((BitVec.ofInt 64 (IntKind.wrap .i64 (o9*2^4))|||BitVec.ofInt 64 wj).toNat))), .int .i64 3]))))))))):=by kernel_rfl
noncomputable def QcE (lb n y8:Nat) (a1:LB) (i5:Int):Option CV:=
 hold (Qax (E0 lb n 0 995) 0 (Qak (sub (B Qao) [1,0,1,0,0])++ [5]) [] (sub (B Qao) [1,0,1,0,0]) (Qam 0 (seqK (E0 lb n 0 998) (sub (B Qao) [1,0]) (sub (B Qao) [1,1]) (retK Tryz.prog (R Qao) 0 (outK (Qae Tryz.prog Qao))))) y8 ⟨fr 18 [(0,vS a1),(1, .val (.fn QcD)),(4,vB false),(6,vS a1),(7, .val (.int .i64 (a1.length:Int))),(8,vI i5)],[bx 18 []],KK⟩)
noncomputable def Qfw (lb n:Nat) (a1:LB):Option CV:=
 hold (E0 lb n 0 998 (sub (B Qao) [1,1]) (retK Tryz.prog (R Qao) 0 (outK (Qae Tryz.prog Qao))) ⟨fr 18 [(0,vS a1),(1, .val (.fn QcD)),(4,vB false)],[bx 18 []],KK⟩)
theorem Qiv (lb n:Nat) (a1:LB):
 Qfw lb n a1=
 some (.bool true):=(Qah _).trans (by kernel_rfl)
theorem Qee (lb n y8:Nat) (a1:LB) (i5:Int):
 QcE lb n (y8+1) a1 i5=
 bif (decide (i5<(a1.length:Int))) then
 (optO (atS a1 i5) fun oe=>
 optO (C lb n QcD [.int .u8 (oe.toNat:Int)]) fun kZ=>
 optO (CV.asB kZ) fun yy=>
 bif (!yy) then
 (some (.bool false))
 else
 (QcE lb n y8 a1 (IntKind.wrap .i64 (i5+1))))
 else
 (Qfw lb n a1):=(Qah _).trans (by kernel_rfl)
theorem QjU (lb n:Nat) (a1:LB):
 top lb n Qao [.str a1, .fn QcD]=
 QcE lb n n a1 0:=by kernel_rfl
noncomputable def Qci (lb n y8:Nat) (a1:LB) (i5:Int):Option CV:=
 hold (Qax (E0 lb n 0 995) 0 (Qak (sub (B Qao) [1,0,1,0,0])++ [5]) [] (sub (B Qao) [1,0,1,0,0]) (Qam 0 (seqK (E0 lb n 0 998) (sub (B Qao) [1,0]) (sub (B Qao) [1,1]) (retK Tryz.prog (R Qao) 0 (outK (Qae Tryz.prog Qao))))) y8 ⟨fr 18 [(0,vS a1),(1, .val (.fn QbA)),(4,vB false),(6,vS a1),(7, .val (.int .i64 (a1.length:Int))),(8,vI i5)],[bx 18 []],KK⟩)
noncomputable def QeO (lb n:Nat) (a1:LB):Option CV:=
 hold (E0 lb n 0 998 (sub (B Qao) [1,1]) (retK Tryz.prog (R Qao) 0 (outK (Qae Tryz.prog Qao))) ⟨fr 18 [(0,vS a1),(1, .val (.fn QbA)),(4,vB false)],[bx 18 []],KK⟩)
theorem Qht (lb n:Nat) (a1:LB):
 QeO lb n a1=
 some (.bool true):=(Qah _).trans (by kernel_rfl)
theorem QdV (lb n y8:Nat) (a1:LB) (i5:Int):
 Qci lb n (y8+1) a1 i5=
 bif (decide (i5<(a1.length:Int))) then
 (optO (atS a1 i5) fun oe=>
 optO (C lb n QbA [.int .u8 (oe.toNat:Int)]) fun kZ=>
 optO (CV.asB kZ) fun yy=>
 bif (!yy) then
 (some (.bool false))
 else
 (Qci lb n y8 a1 (IntKind.wrap .i64 (i5+1))))
 else
 (QeO lb n a1):=(Qah _).trans (by kernel_rfl)
theorem QiL (lb n:Nat) (a1:LB):
 top lb n Qao [.str a1, .fn QbA]=
 Qci lb n n a1 0:=by kernel_rfl
noncomputable def Qcv (lb n y8:Nat) (a1:LB) (i5:Int):Option CV:=
 hold (Qax (E0 lb n 0 995) 0 (Qak (sub (B Qao) [1,0,1,0,0])++ [5]) [] (sub (B Qao) [1,0,1,0,0]) (Qam 0 (seqK (E0 lb n 0 998) (sub (B Qao) [1,0]) (sub (B Qao) [1,1]) (retK Tryz.prog (R Qao) 0 (outK (Qae Tryz.prog Qao))))) y8 ⟨fr 18 [(0,vS a1),(1, .val (.fn QcL)),(4,vB false),(6,vS a1),(7, .val (.int .i64 (a1.length:Int))),(8,vI i5)],[bx 18 []],KK⟩)
noncomputable def Qfb (lb n:Nat) (a1:LB):Option CV:=
 hold (E0 lb n 0 998 (sub (B Qao) [1,1]) (retK Tryz.prog (R Qao) 0 (outK (Qae Tryz.prog Qao))) ⟨fr 18 [(0,vS a1),(1, .val (.fn QcL)),(4,vB false)],[bx 18 []],KK⟩)
theorem QhC (lb n:Nat) (a1:LB):
 Qfb lb n a1=
 some (.bool true):=(Qah _).trans (by kernel_rfl)
theorem Qd3 (lb n y8:Nat) (a1:LB) (i5:Int):
 Qcv lb n (y8+1) a1 i5=
 bif (decide (i5<(a1.length:Int))) then
 (optO (atS a1 i5) fun oe=>
 optO (C lb n QcL [.int .u8 (oe.toNat:Int)]) fun kZ=>
 optO (CV.asB kZ) fun yy=>
 bif (!yy) then
 (some (.bool false))
 else
 (Qcv lb n y8 a1 (IntKind.wrap .i64 (i5+1))))
 else
 (Qfb lb n a1):=(Qah _).trans (by kernel_rfl)
theorem Qi4 (lb n:Nat) (a1:LB):
 top lb n Qao [.str a1, .fn QcL]=
 Qcv lb n n a1 0:=by kernel_rfl
noncomputable def Qck (lb n y8:Nat) (a1:LB) (i5:Int):Option CV:=
 hold (Qax (E0 lb n 0 995) 0 (Qak (sub (B Qao) [1,0,1,0,0])++ [5]) [] (sub (B Qao) [1,0,1,0,0]) (Qam 0 (seqK (E0 lb n 0 998) (sub (B Qao) [1,0]) (sub (B Qao) [1,1]) (retK Tryz.prog (R Qao) 0 (outK (Qae Tryz.prog Qao))))) y8 ⟨fr 18 [(0,vS a1),(1, .val (.fn Qcp)),(4,vB false),(6,vS a1),(7, .val (.int .i64 (a1.length:Int))),(8,vI i5)],[bx 18 []],KK⟩)
noncomputable def QeR (lb n:Nat) (a1:LB):Option CV:=
 hold (E0 lb n 0 998 (sub (B Qao) [1,1]) (retK Tryz.prog (R Qao) 0 (outK (Qae Tryz.prog Qao))) ⟨fr 18 [(0,vS a1),(1, .val (.fn Qcp)),(4,vB false)],[bx 18 []],KK⟩)
theorem Qhs (lb n:Nat) (a1:LB):
 QeR lb n a1=
 some (.bool true):=(Qah _).trans (by kernel_rfl)
theorem QdU (lb n y8:Nat) (a1:LB) (i5:Int):
 Qck lb n (y8+1) a1 i5=
 bif (decide (i5<(a1.length:Int))) then
 (optO (atS a1 i5) fun oe=>
 optO (C lb n Qcp [.int .u8 (oe.toNat:Int)]) fun kZ=>
 optO (CV.asB kZ) fun yy=>
 bif (!yy) then
 (some (.bool false))
 else
 (Qck lb n y8 a1 (IntKind.wrap .i64 (i5+1))))
 else
 (QeR lb n a1):=(Qah _).trans (by kernel_rfl)
theorem QiJ (lb n:Nat) (a1:LB):
 top lb n Qao [.str a1, .fn Qcp]=
 Qck lb n n a1 0:=by kernel_rfl
end Go.Proofs
