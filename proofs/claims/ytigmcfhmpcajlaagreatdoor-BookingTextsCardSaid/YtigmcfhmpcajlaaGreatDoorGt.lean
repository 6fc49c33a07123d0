/- Equations of functions, printed by program. Conditions: none. -/
import Derived.Test.YtigmcfhmpcajlaaGreatDoorEv
namespace Go.Proofs
open Go.Am
set_option maxRecDepth 100000
set_option linter.unusedVariables false
noncomputable def booking_Print_L1 :=
 fun lb n (n7 : Nat) jj (ja : Bool) (jf : LL) jg (jb : Bool) (je : LL) (jd : Bool) (jh : LL) jc jx jD (ww : LB) gn (oJ : Bool) (vf : LL) =>
 hold (Qaw (E0 lb n 0 992) 0 (Qah (sub (B Qan) [1,1,1,1,0,1,0,0]) ++ []) [7] (sub (B Qan) [1,1,1,1,0,1,0,0]) (Qap 0 (seqK (E0 lb n 0 995) (sub (B Qan) [1,1,1,1,0]) (sub (B Qan) [1,1,1,1,1]) (retK Tryz.prog (R Qan) 0 (outK (Qad Tryz.prog Qan))))) n7 ⟨fr 64 [(0, .val (.agg [.str jj, .list ja jf, .int .i64 jg, .list jb je, .list jd jh, .int .i64 jc])),(1, .ptr 0 1 0),(2, .val (.str [])),(3,vI 0),(4,vV jx),(5, .ptr 0 5 0),(21, .val (.agg [.str jj, .list ja jf, .int .i64 jg, .list jb je, .list jd jh, .int .i64 jc])),(22,vV jD),(23, .val (.str (ww ++ [10]))),(24, .val (.tup [.int .i64 ((ww ++ [10]).length : Int), .nilif])),(25, .ptr 0 1 1),(26, .val (.list ja jf)),(27, .val (.int .i64 (jf.length : Int))),(28,vI gn)],[bx 64 [(1,some [vS jj, .val (.list ja jf),vI jg, .val (.list jb je), .val (.list jd jh),vI jc]),(5,some [.bld 104, .lst true oJ 5 vf])]],KK⟩)
noncomputable def Qgx (lb n : Nat) (jj : LB) (ja : Bool) (jf : LL) (jg : Int) (jb : Bool) (je : LL) (jd : Bool) (jh : LL) (jc : Int) (jx jD : CV) (ww : LB) (kR : Bool) (kW : LL) : Option CV :=
 hold (E0 lb n 0 995 (sub (B Qan) [1,1,1,1,1]) (retK Tryz.prog (R Qan) 0 (outK (Qad Tryz.prog Qan))) ⟨fr 64 [(0, .val (.agg [.str jj, .list ja jf, .int .i64 jg, .list jb je, .list jd jh, .int .i64 jc])),(1, .ptr 0 1 0),(2, .val (.str [])),(3,vI 0),(4,vV jx),(5, .ptr 0 5 0),(21, .val (.agg [.str jj, .list ja jf, .int .i64 jg, .list jb je, .list jd jh, .int .i64 jc])),(22,vV jD),(23, .val (.str (ww ++ [10]))),(24, .val (.tup [.int .i64 ((ww ++ [10]).length : Int), .nilif]))],[bx 64 [(1,some [vS jj, .val (.list ja jf),vI jg, .val (.list jb je), .val (.list jd jh),vI jc]),(5,some [.bld 104, .lst true kR 5 kW])]],KK⟩)
noncomputable def QdQ (lb n nY : Nat) (jj : LB) (ja : Bool) (jf : LL) (jg : Int) (jb : Bool) (je : LL) (jd : Bool) (jh : LL) (jc : Int) (jx jD : CV) (ww : LB) (ve : Int) (wR : Bool) (wB : LL) : Option CV :=
 hold (Qaw (E0 lb n 0 991) 0 (Qah (sub (B Qan) [1,1,1,1,1,0,1,0,0]) ++ []) [9] (sub (B Qan) [1,1,1,1,1,0,1,0,0]) (Qap 2 (seqK (E0 lb n 0 994) (sub (B Qan) [1,1,1,1,1,0]) (sub (B Qan) [1,1,1,1,1,1]) (retK Tryz.prog (R Qan) 0 (outK (Qad Tryz.prog Qan))))) nY ⟨fr 64 [(0, .val (.agg [.str jj, .list ja jf, .int .i64 jg, .list jb je, .list jd jh, .int .i64 jc])),(1, .ptr 0 1 0),(2, .val (.str [])),(3,vI 0),(4,vV jx),(5, .ptr 0 5 0),(21, .val (.agg [.str jj, .list ja jf, .int .i64 jg, .list jb je, .list jd jh, .int .i64 jc])),(22,vV jD),(23, .val (.str (ww ++ [10]))),(24, .val (.tup [.int .i64 ((ww ++ [10]).length : Int), .nilif])),(37, .ptr 0 1 3),(38, .val (.list jb je)),(39, .val (.int .i64 (je.length : Int))),(40,vI ve)],[bx 64 [(1,some [vS jj, .val (.list ja jf),vI jg, .val (.list jb je), .val (.list jd jh),vI jc]),(5,some [.bld 104, .lst true wR 5 wB])]],KK⟩)
noncomputable def QgE (lb n : Nat) (jj : LB) (ja : Bool) (jf : LL) (jg : Int) (jb : Bool) (je : LL) (jd : Bool) (jh : LL) (jc : Int) (jx jD : CV) (ww : LB) (gv : Bool) (n6 : LL) : Option CV :=
 hold (E0 lb n 0 994 (sub (B Qan) [1,1,1,1,1,1]) (retK Tryz.prog (R Qan) 0 (outK (Qad Tryz.prog Qan))) ⟨fr 64 [(0, .val (.agg [.str jj, .list ja jf, .int .i64 jg, .list jb je, .list jd jh, .int .i64 jc])),(1, .ptr 0 1 0),(2, .val (.str [])),(3,vI 0),(4,vV jx),(5, .ptr 0 5 0),(21, .val (.agg [.str jj, .list ja jf, .int .i64 jg, .list jb je, .list jd jh, .int .i64 jc])),(22,vV jD),(23, .val (.str (ww ++ [10]))),(24, .val (.tup [.int .i64 ((ww ++ [10]).length : Int), .nilif]))],[bx 64 [(1,some [vS jj, .val (.list ja jf),vI jg, .val (.list jb je), .val (.list jd jh),vI jc]),(5,some [.bld 104, .lst true gv 5 n6])]],KK⟩)
noncomputable def QdS (lb n gP : Nat) (jj : LB) (ja : Bool) (jf : LL) (jg : Int) (jb : Bool) (je : LL) (jd : Bool) (jh : LL) (jc : Int) (jx jD : CV) (ww : LB) (gx : Int) (mw : Bool) (gc : LL) : Option CV :=
 hold (Qaw (E0 lb n 0 990) 0 (Qah (sub (B Qan) [1,1,1,1,1,1,0,1,0,0]) ++ []) [11] (sub (B Qan) [1,1,1,1,1,1,0,1,0,0]) (Qap 4 (seqK (E0 lb n 0 993) (sub (B Qan) [1,1,1,1,1,1,0]) (sub (B Qan) [1,1,1,1,1,1,1]) (retK Tryz.prog (R Qan) 0 (outK (Qad Tryz.prog Qan))))) gP ⟨fr 64 [(0, .val (.agg [.str jj, .list ja jf, .int .i64 jg, .list jb je, .list jd jh, .int .i64 jc])),(1, .ptr 0 1 0),(2, .val (.str [])),(3,vI 0),(4,vV jx),(5, .ptr 0 5 0),(21, .val (.agg [.str jj, .list ja jf, .int .i64 jg, .list jb je, .list jd jh, .int .i64 jc])),(22,vV jD),(23, .val (.str (ww ++ [10]))),(24, .val (.tup [.int .i64 ((ww ++ [10]).length : Int), .nilif])),(49, .ptr 0 1 4),(50, .val (.list jd jh)),(51, .val (.int .i64 (jh.length : Int))),(52,vI gx)],[bx 64 [(1,some [vS jj, .val (.list ja jf),vI jg, .val (.list jb je), .val (.list jd jh),vI jc]),(5,some [.bld 104, .lst true mw 5 gc])]],KK⟩)
noncomputable def Qjs (lb n : Nat) (jj : LB) (ja : Bool) (jf : LL) (jg : Int) (jb : Bool) (je : LL) (jd : Bool) (jh : LL) (jc : Int) (jx jD : CV) (ww : LB) (mN : Bool) (oN : LL) : Option CV :=
 hold (E0 lb n 0 993 (sub (B Qan) [1,1,1,1,1,1,1]) (retK Tryz.prog (R Qan) 0 (outK (Qad Tryz.prog Qan))) ⟨fr 64 [(0, .val (.agg [.str jj, .list ja jf, .int .i64 jg, .list jb je, .list jd jh, .int .i64 jc])),(1, .ptr 0 1 0),(2, .val (.str [])),(3,vI 0),(4,vV jx),(5, .ptr 0 5 0),(21, .val (.agg [.str jj, .list ja jf, .int .i64 jg, .list jb je, .list jd jh, .int .i64 jc])),(22,vV jD),(23, .val (.str (ww ++ [10]))),(24, .val (.tup [.int .i64 ((ww ++ [10]).length : Int), .nilif]))],[bx 64 [(1,some [vS jj, .val (.list ja jf),vI jg, .val (.list jb je), .val (.list jd jh),vI jc]),(5,some [.bld 104, .lst true mN 5 oN])]],KK⟩)
theorem Qmx (lb n : Nat) (jj : LB) (ja : Bool) (jf : LL) (jg : Int) (jb : Bool) (je : LL) (jd : Bool) (jh : LL) (jc : Int) (jx jD : CV) (ww : LB) (mN : Bool) (oN : LL) :
 Qjs lb n jj ja jf jg jb je jd jh jc jx jD ww mN oN =
 bif (decide ((oN.length : Int) > 65536)) then
 (some (.tup [.str [], .int .i64 4]))
 else
 (optO (bytesOf oN) fun lP =>
 some (.tup [.str lP, .int .i64 0])) := (Qab _).trans (by kernel_rfl)
theorem QgJ (lb n gP : Nat) (jj : LB) (ja : Bool) (jf : LL) (jg : Int) (jb : Bool) (je : LL) (jd : Bool) (jh : LL) (jc : Int) (jx jD : CV) (ww : LB) (gx : Int) (mw : Bool) (gc : LL) :
 QdS lb n (gP + 1) jj ja jf jg jb je jd jh jc jx jD ww gx mw gc =
 bif (decide (gx < (jh.length : Int))) then
 (optO (atL jh gx) fun gN =>
 chkO (gN.length == 3) (
 optO (gN[0]?) fun jO =>
 optO (gN[1]?) fun jN =>
 optO (gN[2]?) fun yM =>
 optO (C lb n QbV [.agg [jO,jN,yM]]) fun yj =>
 optO (CV.asS yj) fun oU =>
 chkO (decide (oU.length + [10].length ≤ 9223372036854775807)) (
 chkO (((oU ++ [10]).map fun (c : UInt8) => [CV.int .u8 c.toNat]).all (·.length == 1)) (
 chkO (room (gc.length + ((oU ++ [10]).map fun (c : UInt8) => [CV.int .u8 c.toNat]).length) 1) (
 QdS lb n gP jj ja jf jg jb je jd jh jc jx jD ww (IntKind.wrap .i64 (gx + 1)) (mw && (((oU ++ [10]).map fun (c : UInt8) => [CV.int .u8 c.toNat]).isEmpty)) (gc ++ ((oU ++ [10]).map fun (c : UInt8) => [CV.int .u8 c.toNat])))))))
 else
 (Qjs lb n jj ja jf jg jb je jd jh jc jx jD ww mw gc) := (Qab _).trans (by kernel_rfl)
theorem Qmw (lb n : Nat) (jj : LB) (ja : Bool) (jf : LL) (jg : Int) (jb : Bool) (je : LL) (jd : Bool) (jh : LL) (jc : Int) (jx jD : CV) (ww : LB) (gv : Bool) (n6 : LL) :
 QgE lb n jj ja jf jg jb je jd jh jc jx jD ww gv n6 =
 QdS lb n n jj ja jf jg jb je jd jh jc jx jD ww 0 gv n6 := (Qab _).trans (by kernel_rfl)
theorem QgM (lb n nY : Nat) (jj : LB) (ja : Bool) (jf : LL) (jg : Int) (jb : Bool) (je : LL) (jd : Bool) (jh : LL) (jc : Int) (jx jD : CV) (ww : LB) (ve : Int) (wR : Bool) (wB : LL) :
 QdQ lb n (nY + 1) jj ja jf jg jb je jd jh jc jx jD ww ve wR wB =
 bif (decide (ve < (je.length : Int))) then
 (optO (atL je ve) fun c75 =>
 chkO (c75.length == 10) (
 optO (c75[0]?) fun nD =>
 optO (c75[1]?) fun nZ =>
 optO (c75[2]?) fun mn =>
 optO (c75[3]?) fun md =>
 optO (c75[4]?) fun se =>
 optO (c75[5]?) fun nX =>
 optO (c75[6]?) fun qg =>
 optO (c75[7]?) fun qC =>
 optO (c75[8]?) fun p7 =>
 optO (c75[9]?) fun pS =>
 optO (C lb n Qca [.agg [nD,nZ,mn,md,se,nX,qg,qC,p7,pS]]) fun tM =>
 optO (CV.asS tM) fun ga =>
 chkO (decide (ga.length + [10].length ≤ 9223372036854775807)) (
 chkO (((ga ++ [10]).map fun (c : UInt8) => [CV.int .u8 c.toNat]).all (·.length == 1)) (
 chkO (room (wB.length + ((ga ++ [10]).map fun (c : UInt8) => [CV.int .u8 c.toNat]).length) 1) (
 QdQ lb n nY jj ja jf jg jb je jd jh jc jx jD ww (IntKind.wrap .i64 (ve + 1)) (wR && (((ga ++ [10]).map fun (c : UInt8) => [CV.int .u8 c.toNat]).isEmpty)) (wB ++ ((ga ++ [10]).map fun (c : UInt8) => [CV.int .u8 c.toNat])))))))
 else
 (QgE lb n jj ja jf jg jb je jd jh jc jx jD ww wR wB) := (Qab _).trans (by kernel_rfl)
theorem Qmq (lb n : Nat) (jj : LB) (ja : Bool) (jf : LL) (jg : Int) (jb : Bool) (je : LL) (jd : Bool) (jh : LL) (jc : Int) (jx jD : CV) (ww : LB) (kR : Bool) (kW : LL) :
 Qgx lb n jj ja jf jg jb je jd jh jc jx jD ww kR kW =
 QdQ lb n n jj ja jf jg jb je jd jh jc jx jD ww 0 kR kW := (Qab _).trans (by kernel_rfl)
theorem QgQ (lb n n7 : Nat) (jj : LB) (ja : Bool) (jf : LL) (jg : Int) (jb : Bool) (je : LL) (jd : Bool) (jh : LL) (jc : Int) (jx jD : CV) (ww : LB) (gn : Int) (oJ : Bool) (vf : LL) :
 booking_Print_L1 lb n (n7 + 1) jj ja jf jg jb je jd jh jc jx jD ww gn oJ vf =
 bif (decide (gn < (jf.length : Int))) then
 (optO (atL jf gn) fun kt =>
 chkO (kt.length == 3) (
 optO (kt[0]?) fun vk =>
 optO (kt[1]?) fun oF =>
 optO (kt[2]?) fun oL =>
 optO (C lb n QbJ [.agg [vk,oF,oL]]) fun ml =>
 optO (CV.asS ml) fun vU =>
 chkO (decide (vU.length + [10].length ≤ 9223372036854775807)) (
 chkO (((vU ++ [10]).map fun (c : UInt8) => [CV.int .u8 c.toNat]).all (·.length == 1)) (
 chkO (room (vf.length + ((vU ++ [10]).map fun (c : UInt8) => [CV.int .u8 c.toNat]).length) 1) (
 booking_Print_L1 lb n n7 jj ja jf jg jb je jd jh jc jx jD ww (IntKind.wrap .i64 (gn + 1)) (oJ && (((vU ++ [10]).map fun (c : UInt8) => [CV.int .u8 c.toNat]).isEmpty)) (vf ++ ((vU ++ [10]).map fun (c : UInt8) => [CV.int .u8 c.toNat])))))))
 else
 (Qgx lb n jj ja jf jg jb je jd jh jc jx jD ww oJ vf) := (Qab _).trans (by kernel_rfl)
theorem Qo2 (lb n : Nat) (jj : LB) (ja : Bool) (jf : LL) (jg : Int) (jb : Bool) (je : LL) (jd : Bool) (jh : LL) (jc : Int) :
 top lb n Qan [.agg [.str jj, .list ja jf, .int .i64 jg, .list jb je, .list jd jh, .int .i64 jc]] =
 optO (C lb n Qaa [.agg [.str jj, .list ja jf, .int .i64 jg, .list jb je, .list jd jh, .int .i64 jc]]) fun jx =>
 optO (CV.asL jx) fun qP =>
 bif (decide ((qP.2.length : Int) > 0)) then
 (optO (CV.asL jx) fun pf =>
 optO (atL pf.2 0) fun mt =>
 chkO (mt.length == 2) (
 optO (mt[0]?) fun mo =>
 some (.tup [.str [],mo])))
 else
 (optO (C lb n Qcw [.agg [.str jj, .list ja jf, .int .i64 jg, .list jb je, .list jd jh, .int .i64 jc]]) fun jD =>
 optO (CV.asS jD) fun ww =>
 chkO (decide (ww.length + [10].length ≤ 9223372036854775807)) (
 chkO (((ww ++ [10]).map fun (c : UInt8) => [CV.int .u8 c.toNat]).all (·.length == 1)) (
 chkO (room (0 + ((ww ++ [10]).map fun (c : UInt8) => [CV.int .u8 c.toNat]).length) 1) (
 booking_Print_L1 lb n n jj ja jf jg jb je jd jh jc jx jD ww 0 (((ww ++ [10]).map fun (c : UInt8) => [CV.int .u8 c.toNat]).isEmpty) ((ww ++ [10]).map fun (c : UInt8) => [CV.int .u8 c.toNat]))))) := by kernel_rfl
theorem Qmz (lb n : Nat) (jj : LB) (ja : Bool) (jf : LL) (jg : Int) (jb : Bool) (je : LL) (jd : Bool) (jh : LL) (jc : Int) :
 top lb n Qcw [.agg [.str jj, .list ja jf, .int .i64 jg, .list jb je, .list jd jh, .int .i64 jc]] =
 optO (C lb n Qba [.int .i64 jc]) fun jx =>
 optO (C lb n Qba [.int .i64 jg]) fun yL =>
 chkO (CV.isCell jx) (
 chkO (CV.isCell yL) (
 optO (C lb n QbA [.list false [[CV.str [98,111,111,107,105,110,103]],[CV.str jj],[jx],[yL]]]) fun mG =>
 some (mG))) := by kernel_rfl
theorem Qk0 (lb n : Nat) (wq wA wG : LB) :
 top lb n QbJ [.agg [.str wq, .str wA, .str wG]] =
 optO (C lb n QeO [.agg [.str wq, .str wA, .str wG]]) fun r4 =>
 optO (CV.asT r4) fun t5 =>
 optO (t5[0]?) fun x6 =>
 optO (CV.asT r4) fun t7 =>
 optO (t7[1]?) fun x9 =>
 chkO (CV.isCell x6) (
 optO (C lb n QbA [.list false [[CV.str [112,101,114,115,111,110]],[x6]]]) fun tr =>
 some (tr)) := by kernel_rfl
theorem Qm7 (lb n : Nat) (awansegcar1 : LB) (awansegnum2 awansegday3 : Int) (awansegfro4 jm : LB) (awansegdep6 awansegarr7 : Int) (jr : LB) (ju jv : Int) :
 top lb n Qca [.agg [.str awansegcar1, .int .i64 awansegnum2, .int .i64 awansegday3, .str awansegfro4, .str jm, .int .i64 awansegdep6, .int .i64 awansegarr7, .str jr, .int .i64 ju, .int .i64 jv]] =
 optO (C lb n Qgk [.int .i64 ju]) fun yL =>
 optO (CV.asT yL) fun qy =>
 optO (qy[0]?) fun vG =>
 optO (CV.asT yL) fun kS =>
 optO (kS[1]?) fun vK =>
 optO (C lb n Qba [.int .i64 awansegnum2]) fun jl =>
 optO (C lb n Qba [.int .i64 awansegday3]) fun jt =>
 optO (C lb n Qba [.int .i64 awansegdep6]) fun kA =>
 optO (C lb n Qba [.int .i64 awansegarr7]) fun mr =>
 optO (C lb n Qba [.int .i64 jv]) fun js =>
 chkO (CV.isCell jl) (
 chkO (CV.isCell jt) (
 chkO (CV.isCell kA) (
 chkO (CV.isCell mr) (
 chkO (CV.isCell vG) (
 chkO (CV.isCell js) (
 optO (C lb n QbA [.list false [[CV.str [115,101,103]],[CV.str awansegcar1],[jl],[jt],[CV.str awansegfro4],[CV.str jm],[kA],[mr],[CV.str jr],[vG],[js]]]) fun jq =>
 some (jq))))))) := by kernel_rfl
theorem Qks (lb n : Nat) (nM : LB) (nF nR : Int) :
 top lb n QbV [.agg [.str nM, .int .i64 nF, .int .i64 nR]] =
 optO (C lb n Qba [.int .i64 nF]) fun r4 =>
 optO (C lb n Qba [.int .i64 nR]) fun r5 =>
 chkO (CV.isCell r4) (
 chkO (CV.isCell r5) (
 optO (C lb n QbA [.list false [[CV.str [115,101,114,118,105,99,101]],[CV.str nM],[r4],[r5]]]) fun r6 =>
 some (r6))) := by kernel_rfl
theorem Qq9 (lb n : Nat) (wq wA wG : LB) :
 top lb n QeO [.agg [.str wq, .str wA, .str wG]] =
 optO (C lb n QeJ [.agg [.str wq, .str wA, .str wG]]) fun r4 =>
 optO (CV.asB r4) fun b5 =>
 bif (!b5) then
 (some (.tup [.str [], .int .i64 5]))
 else
 (optO (C lb n Qdm [.agg [.str wq, .str wA, .str wG]]) fun r6 =>
 optO (CV.asB r6) fun b7 =>
 bif (!b7) then
 (some (.tup [.str [], .int .i64 8]))
 else
 (chkO (decide (wq.length + [47].length ≤ 9223372036854775807)) (
 chkO (decide ((wq ++ [47]).length + wA.length ≤ 9223372036854775807)) (
 chkO (decide (((wq ++ [47]) ++ wA).length + [32].length ≤ 9223372036854775807)) (
 chkO (decide ((((wq ++ [47]) ++ wA) ++ [32]).length + wG.length ≤ 9223372036854775807)) (
 some (.tup [.str ((((wq ++ [47]) ++ wA) ++ [32]) ++ wG), .int .i64 0]))))))) := by kernel_rfl
noncomputable def Qfj (lb n n5 : Nat) (jj : LB) (ja : Bool) (jf : LL) (jg : Int) (jb : Bool) (je : LL) (jd : Bool) (jh : LL) (jc : Int) (jx jD jl jt : CV) (wK kU : LB) (vo : Int) : Option CV :=
 hold (Qaw (E0 lb n 0 992) 0 (Qah (sub (B QaB) [1,1,1,1,0,1,0,0]) ++ [7,8]) [] (sub (B QaB) [1,1,1,1,0,1,0,0]) (Qap 0 (seqK (E0 lb n 0 995) (sub (B QaB) [1,1,1,1,0]) (sub (B QaB) [1,1,1,1,1]) (retK Tryz.prog (R QaB) 0 (outK (Qad Tryz.prog QaB))))) n5 ⟨fr 99 [(0, .val (.agg [.str jj, .list ja jf, .int .i64 jg, .list jb je, .list jd jh, .int .i64 jc])),(1, .ptr 0 1 0),(2, .val (.str [])),(3,vI 0),(4,vV jx),(5,vS kU),(6,vI vo),(12, .val (.agg [.str jj, .list ja jf, .int .i64 jg, .list jb je, .list jd jh, .int .i64 jc])),(13,vV jx),(21, .ptr 0 1 0),(22,vS jj),(23, .ptr 0 1 5),(24,vI jc),(25,vV jD),(26, .ptr 0 1 2),(27,vI jg),(28,vV jl),(29, .lst true false 9 [[CV.str [98,111,111,107,105,110,103]],[CV.str jj],[jD],[jl]]),(30,vV jt),(31, .val (.str (wK ++ [10])))],[bx 99 [(1,some [vS jj, .val (.list ja jf),vI jg, .val (.list jb je), .val (.list jd jh),vI jc])]],KK⟩)
noncomputable def Qnp (lb n : Nat) (jj : LB) (ja : Bool) (jf : LL) (jg : Int) (jb : Bool) (je : LL) (jd : Bool) (jh : LL) (jc : Int) (jx jD jl jt : CV) (wK n4 : LB) (wl : Int) : Option CV :=
 hold (E0 lb n 0 995 (sub (B QaB) [1,1,1,1,1]) (retK Tryz.prog (R QaB) 0 (outK (Qad Tryz.prog QaB))) ⟨fr 99 [(0, .val (.agg [.str jj, .list ja jf, .int .i64 jg, .list jb je, .list jd jh, .int .i64 jc])),(1, .ptr 0 1 0),(2, .val (.str [])),(3,vI 0),(4,vV jx),(5,vS n4),(6,vI wl),(12, .val (.agg [.str jj, .list ja jf, .int .i64 jg, .list jb je, .list jd jh, .int .i64 jc])),(13,vV jx),(21, .ptr 0 1 0),(22,vS jj),(23, .ptr 0 1 5),(24,vI jc),(25,vV jD),(26, .ptr 0 1 2),(27,vI jg),(28,vV jl),(29, .lst true false 9 [[CV.str [98,111,111,107,105,110,103]],[CV.str jj],[jD],[jl]]),(30,vV jt),(31, .val (.str (wK ++ [10])))],[bx 99 [(1,some [vS jj, .val (.list ja jf),vI jg, .val (.list jb je), .val (.list jd jh),vI jc])]],KK⟩)
noncomputable def Qfi (lb n nK : Nat) (jj : LB) (ja : Bool) (jf : LL) (jg : Int) (jb : Bool) (je : LL) (jd : Bool) (jh : LL) (jc : Int) (jx : CV) (wl : Int) (jD jl jt : CV) (wK oZ : LB) (i75 : Int) : Option CV :=
 hold (Qaw (E0 lb n 0 991) 0 (Qah (sub (B QaB) [1,1,1,1,1,0,1,0,0]) ++ []) [] (sub (B QaB) [1,1,1,1,1,0,1,0,0]) (Qap 2 (seqK (E0 lb n 0 994) (sub (B QaB) [1,1,1,1,1,0]) (sub (B QaB) [1,1,1,1,1,1]) (retK Tryz.prog (R QaB) 0 (outK (Qad Tryz.prog QaB))))) nK ⟨fr 99 [(0, .val (.agg [.str jj, .list ja jf, .int .i64 jg, .list jb je, .list jd jh, .int .i64 jc])),(1, .ptr 0 1 0),(2, .val (.str [])),(3,vI 0),(4,vV jx),(5,vS oZ),(6,vI wl),(9,vI i75),(12, .val (.agg [.str jj, .list ja jf, .int .i64 jg, .list jb je, .list jd jh, .int .i64 jc])),(13,vV jx),(21, .ptr 0 1 0),(22,vS jj),(23, .ptr 0 1 5),(24,vI jc),(25,vV jD),(26, .ptr 0 1 2),(27,vI jg),(28,vV jl),(29, .lst true false 9 [[CV.str [98,111,111,107,105,110,103]],[CV.str jj],[jD],[jl]]),(30,vV jt),(31, .val (.str (wK ++ [10])))],[bx 99 [(1,some [vS jj, .val (.list ja jf),vI jg, .val (.list jb je), .val (.list jd jh),vI jc])]],KK⟩)
noncomputable def QmS (lb n : Nat) (jj : LB) (ja : Bool) (jf : LL) (jg : Int) (jb : Bool) (je : LL) (jd : Bool) (jh : LL) (jc : Int) (jx : CV) (wl : Int) (jD jl jt : CV) (wK gC : LB) (yC : Int) : Option CV :=
 hold (E0 lb n 0 994 (sub (B QaB) [1,1,1,1,1,1]) (retK Tryz.prog (R QaB) 0 (outK (Qad Tryz.prog QaB))) ⟨fr 99 [(0, .val (.agg [.str jj, .list ja jf, .int .i64 jg, .list jb je, .list jd jh, .int .i64 jc])),(1, .ptr 0 1 0),(2, .val (.str [])),(3,vI 0),(4,vV jx),(5,vS gC),(6,vI wl),(9,vI yC),(12, .val (.agg [.str jj, .list ja jf, .int .i64 jg, .list jb je, .list jd jh, .int .i64 jc])),(13,vV jx),(21, .ptr 0 1 0),(22,vS jj),(23, .ptr 0 1 5),(24,vI jc),(25,vV jD),(26, .ptr 0 1 2),(27,vI jg),(28,vV jl),(29, .lst true false 9 [[CV.str [98,111,111,107,105,110,103]],[CV.str jj],[jD],[jl]]),(30,vV jt),(31, .val (.str (wK ++ [10])))],[bx 99 [(1,some [vS jj, .val (.list ja jf),vI jg, .val (.list jb je), .val (.list jd jh),vI jc])]],KK⟩)
noncomputable def Qff (lb n g9 : Nat) (jj : LB) (ja : Bool) (jf : LL) (jg : Int) (jb : Bool) (je : LL) (jd : Bool) (jh : LL) (jc : Int) (jx : CV) (wl yC : Int) (jD jl jt : CV) (wK kG : LB) (kO : Int) : Option CV :=
 hold (Qaw (E0 lb n 0 990) 0 (Qah (sub (B QaB) [1,1,1,1,1,1,0,1,0,0]) ++ []) [11] (sub (B QaB) [1,1,1,1,1,1,0,1,0,0]) (Qap 4 (seqK (E0 lb n 0 993) (sub (B QaB) [1,1,1,1,1,1,0]) (sub (B QaB) [1,1,1,1,1,1,1]) (retK Tryz.prog (R QaB) 0 (outK (Qad Tryz.prog QaB))))) g9 ⟨fr 99 [(0, .val (.agg [.str jj, .list ja jf, .int .i64 jg, .list jb je, .list jd jh, .int .i64 jc])),(1, .ptr 0 1 0),(2, .val (.str [])),(3,vI 0),(4,vV jx),(5,vS kG),(6,vI wl),(9,vI yC),(10,vI kO),(12, .val (.agg [.str jj, .list ja jf, .int .i64 jg, .list jb je, .list jd jh, .int .i64 jc])),(13,vV jx),(21, .ptr 0 1 0),(22,vS jj),(23, .ptr 0 1 5),(24,vI jc),(25,vV jD),(26, .ptr 0 1 2),(27,vI jg),(28,vV jl),(29, .lst true false 9 [[CV.str [98,111,111,107,105,110,103]],[CV.str jj],[jD],[jl]]),(30,vV jt),(31, .val (.str (wK ++ [10])))],[bx 99 [(1,some [vS jj, .val (.list ja jf),vI jg, .val (.list jb je), .val (.list jd jh),vI jc])]],KK⟩)
noncomputable def Qnl (lb n : Nat) (jj : LB) (ja : Bool) (jf : LL) (jg : Int) (jb : Bool) (je : LL) (jd : Bool) (jh : LL) (jc : Int) (jx : CV) (wl yC : Int) (jD jl jt : CV) (wK kl : LB) (nd : Int) : Option CV :=
 hold (E0 lb n 0 993 (sub (B QaB) [1,1,1,1,1,1,1]) (retK Tryz.prog (R QaB) 0 (outK (Qad Tryz.prog QaB))) ⟨fr 99 [(0, .val (.agg [.str jj, .list ja jf, .int .i64 jg, .list jb je, .list jd jh, .int .i64 jc])),(1, .ptr 0 1 0),(2, .val (.str [])),(3,vI 0),(4,vV jx),(5,vS kl),(6,vI wl),(9,vI yC),(10,vI nd),(12, .val (.agg [.str jj, .list ja jf, .int .i64 jg, .list jb je, .list jd jh, .int .i64 jc])),(13,vV jx),(21, .ptr 0 1 0),(22,vS jj),(23, .ptr 0 1 5),(24,vI jc),(25,vV jD),(26, .ptr 0 1 2),(27,vI jg),(28,vV jl),(29, .lst true false 9 [[CV.str [98,111,111,107,105,110,103]],[CV.str jj],[jD],[jl]]),(30,vV jt),(31, .val (.str (wK ++ [10])))],[bx 99 [(1,some [vS jj, .val (.list ja jf),vI jg, .val (.list jb je), .val (.list jd jh),vI jc])]],KK⟩)
theorem Qqw (lb n : Nat) (jj : LB) (ja : Bool) (jf : LL) (jg : Int) (jb : Bool) (je : LL) (jd : Bool) (jh : LL) (jc : Int) (jx : CV) (wl yC : Int) (jD jl jt : CV) (wK kl : LB) (nd : Int) :
 Qnl lb n jj ja jf jg jb je jd jh jc jx wl yC jD jl jt wK kl nd =
 bif (decide ((kl.length : Int) > 65536)) then
 (some (.tup [.str [], .int .i64 4]))
 else
 (some (.tup [.str kl, .int .i64 0])) := (Qab _).trans (by kernel_rfl)
theorem QiR (lb n g9 : Nat) (jj : LB) (ja : Bool) (jf : LL) (jg : Int) (jb : Bool) (je : LL) (jd : Bool) (jh : LL) (jc : Int) (jx : CV) (wl yC : Int) (jD jl jt : CV) (wK kG : LB) (kO : Int) :
 Qff lb n (g9 + 1) jj ja jf jg jb je jd jh jc jx wl yC jD jl jt wK kG kO =
 bif (decide (kO < (jh.length : Int))) then
 (optO (atL jh kO) fun gS =>
 chkO (gS.length == 3) (
 optO (gS[0]?) fun oH =>
 optO (gS[1]?) fun sI =>
 optO (gS[2]?) fun gH =>
 optO (C lb n Qdb [sI]) fun pg =>
 optO (C lb n Qdb [gH]) fun qb =>
 chkO (CV.isCell oH) (
 chkO (CV.isCell pg) (
 chkO (CV.isCell qb) (
 optO (C lb n QaQ [.list false [[CV.str [115,101,114,118,105,99,101]],[oH],[pg],[qb]]]) fun sH =>
 optO (CV.asS sH) fun nk =>
 chkO (decide (kG.length + nk.length ≤ 9223372036854775807)) (
 chkO (decide ((kG ++ nk).length + [10].length ≤ 9223372036854775807)) (
 Qff lb n g9 jj ja jf jg jb je jd jh jc jx wl yC jD jl jt wK ((kG ++ nk) ++ [10]) (IntKind.wrap .i64 (kO + 1)))))))))
 else
 (Qnl lb n jj ja jf jg jb je jd jh jc jx wl yC jD jl jt wK kG kO) := (Qab _).trans (by kernel_rfl)
theorem QpB (lb n : Nat) (jj : LB) (ja : Bool) (jf : LL) (jg : Int) (jb : Bool) (je : LL) (jd : Bool) (jh : LL) (jc : Int) (jx : CV) (wl : Int) (jD jl jt : CV) (wK gC : LB) (yC : Int) :
 QmS lb n jj ja jf jg jb je jd jh jc jx wl jD jl jt wK gC yC =
 Qff lb n n jj ja jf jg jb je jd jh jc jx wl yC jD jl jt wK gC 0 := (Qab _).trans (by kernel_rfl)
theorem QiQ (lb n nK : Nat) (jj : LB) (ja : Bool) (jf : LL) (jg : Int) (jb : Bool) (je : LL) (jd : Bool) (jh : LL) (jc : Int) (jx : CV) (wl : Int) (jD jl jt : CV) (wK oZ : LB) (i75 : Int) :
 Qfi lb n (nK + 1) jj ja jf jg jb je jd jh jc jx wl jD jl jt wK oZ i75 =
 bif (decide (i75 < (je.length : Int))) then
 (optO (atL je i75) fun kf =>
 chkO (kf.length == 10) (
 optO (kf[0]?) fun um =>
 optO (kf[1]?) fun wH =>
 optO (kf[2]?) fun rV =>
 optO (kf[3]?) fun wd =>
 optO (kf[4]?) fun tH =>
 optO (kf[5]?) fun wg =>
 optO (kf[6]?) fun wh =>
 optO (kf[7]?) fun wb =>
 optO (kf[8]?) fun wj =>
 optO (kf[9]?) fun jy =>
 optO (C lb n Qgl [.agg [um,wH,rV,wd,tH,wg,wh,wb,wj,jy]]) fun ly =>
 optO (CV.asS ly) fun mI =>
 chkO (decide (oZ.length + mI.length ≤ 9223372036854775807)) (
 chkO (decide ((oZ ++ mI).length + [10].length ≤ 9223372036854775807)) (
 Qfi lb n nK jj ja jf jg jb je jd jh jc jx wl jD jl jt wK ((oZ ++ mI) ++ [10]) (IntKind.wrap .i64 (i75 + 1))))))
 else
 (QmS lb n jj ja jf jg jb je jd jh jc jx wl jD jl jt wK oZ i75) := (Qab _).trans (by kernel_rfl)
theorem QpJ (lb n : Nat) (jj : LB) (ja : Bool) (jf : LL) (jg : Int) (jb : Bool) (je : LL) (jd : Bool) (jh : LL) (jc : Int) (jx jD jl jt : CV) (wK n4 : LB) (wl : Int) :
 Qnp lb n jj ja jf jg jb je jd jh jc jx jD jl jt wK n4 wl =
 Qfi lb n n jj ja jf jg jb je jd jh jc jx wl jD jl jt wK n4 0 := (Qab _).trans (by kernel_rfl)
theorem QiX (lb n n5 : Nat) (jj : LB) (ja : Bool) (jf : LL) (jg : Int) (jb : Bool) (je : LL) (jd : Bool) (jh : LL) (jc : Int) (jx jD jl jt : CV) (wK kU : LB) (vo : Int) :
 Qfj lb n (n5 + 1) jj ja jf jg jb je jd jh jc jx jD jl jt wK kU vo =
 bif (decide (vo < (jf.length : Int))) then
 (optO (atL jf vo) fun oR =>
 chkO (oR.length == 3) (
 optO (oR[0]?) fun gi =>
 optO (oR[1]?) fun tP =>
 optO (oR[2]?) fun tg =>
 optO (C lb n QhX [.agg [gi,tP,tg]]) fun sc =>
 optO (CV.asT sc) fun qp =>
 optO (qp[0]?) fun gm =>
 optO (CV.asT sc) fun tY =>
 optO (tY[1]?) fun qR =>
 chkO (CV.isCell gm) (
 optO (C lb n QaQ [.list false [[CV.str [112,101,114,115,111,110]],[gm]]]) fun tS =>
 optO (CV.asS tS) fun qN =>
 chkO (decide (kU.length + qN.length ≤ 9223372036854775807)) (
 chkO (decide ((kU ++ qN).length + [10].length ≤ 9223372036854775807)) (
 Qfj lb n n5 jj ja jf jg jb je jd jh jc jx jD jl jt wK ((kU ++ qN) ++ [10]) (IntKind.wrap .i64 (vo + 1)))))))
 else
 (Qnp lb n jj ja jf jg jb je jd jh jc jx jD jl jt wK kU vo) := (Qab _).trans (by kernel_rfl)
theorem Qt0 (lb n : Nat) (jj : LB) (ja : Bool) (jf : LL) (jg : Int) (jb : Bool) (je : LL) (jd : Bool) (jh : LL) (jc : Int) :
 top lb n QaB [.agg [.str jj, .list ja jf, .int .i64 jg, .list jb je, .list jd jh, .int .i64 jc]] =
 optO (C lb n Qag [.agg [.str jj, .list ja jf, .int .i64 jg, .list jb je, .list jd jh, .int .i64 jc]]) fun jx =>
 optO (CV.asL jx) fun qP =>
 bif (decide ((qP.2.length : Int) > 0)) then
 (optO (CV.asL jx) fun pf =>
 optO (atL pf.2 0) fun mt =>
 chkO (mt.length == 2) (
 optO (mt[0]?) fun mo =>
 some (.tup [.str [],mo])))
 else
 (optO (C lb n Qdb [.int .i64 jc]) fun jD =>
 optO (C lb n Qdb [.int .i64 jg]) fun jl =>
 chkO (CV.isCell jD) (
 chkO (CV.isCell jl) (
 optO (C lb n QaQ [.list false [[CV.str [98,111,111,107,105,110,103]],[CV.str jj],[jD],[jl]]]) fun jt =>
 optO (CV.asS jt) fun wK =>
 chkO (decide (wK.length + [10].length ≤ 9223372036854775807)) (
 Qfj lb n n jj ja jf jg jb je jd jh jc jx jD jl jt wK (wK ++ [10]) 0)))) := by kernel_rfl
theorem Qv2 (lb n : Nat) (a1 : Int) :
 top lb n Qdb [.int .i64 a1] =
 optO (C lb n Qdn [.int .i64 a1]) fun r2 =>
 some (r2) := by kernel_rfl
theorem QqR (lb n : Nat) (awansegcar1 : LB) (awansegnum2 awansegday3 : Int) (awansegfro4 jm : LB) (awansegdep6 awansegarr7 : Int) (jr : LB) (ju jv : Int) :
 top lb n Qgl [.agg [.str awansegcar1, .int .i64 awansegnum2, .int .i64 awansegday3, .str awansegfro4, .str jm, .int .i64 awansegdep6, .int .i64 awansegarr7, .str jr, .int .i64 ju, .int .i64 jv]] =
 optO (C lb n Qja [.int .i64 ju]) fun yL =>
 optO (CV.asT yL) fun qy =>
 optO (qy[0]?) fun vG =>
 optO (CV.asT yL) fun kS =>
 optO (kS[1]?) fun vK =>
 optO (C lb n Qdb [.int .i64 awansegnum2]) fun jl =>
 optO (C lb n Qdb [.int .i64 awansegday3]) fun jt =>
 optO (C lb n Qdb [.int .i64 awansegdep6]) fun kA =>
 optO (C lb n Qdb [.int .i64 awansegarr7]) fun mr =>
 optO (C lb n Qdb [.int .i64 jv]) fun js =>
 chkO (CV.isCell jl) (
 chkO (CV.isCell jt) (
 chkO (CV.isCell kA) (
 chkO (CV.isCell mr) (
 chkO (CV.isCell vG) (
 chkO (CV.isCell js) (
 optO (C lb n QaQ [.list false [[CV.str [115,101,103]],[CV.str awansegcar1],[jl],[jt],[CV.str awansegfro4],[CV.str jm],[kA],[mr],[CV.str jr],[vG],[js]]]) fun jq =>
 some (jq))))))) := by kernel_rfl
theorem Qtx (lb n : Nat) (wq wA wG : LB) :
 top lb n QhX [.agg [.str wq, .str wA, .str wG]] =
 optO (C lb n Qf6 [.agg [.str wq, .str wA, .str wG]]) fun r4 =>
 optO (CV.asB r4) fun b5 =>
 bif (!b5) then
 (some (.tup [.str [], .int .i64 5]))
 else
 (optO (C lb n Qf7 [.agg [.str wq, .str wA, .str wG]]) fun r6 =>
 optO (CV.asB r6) fun b7 =>
 bif (!b7) then
 (some (.tup [.str [], .int .i64 8]))
 else
 (chkO (decide (wq.length + [47].length ≤ 9223372036854775807)) (
 chkO (decide ((wq ++ [47]).length + wA.length ≤ 9223372036854775807)) (
 chkO (decide (((wq ++ [47]) ++ wA).length + [32].length ≤ 9223372036854775807)) (
 chkO (decide ((((wq ++ [47]) ++ wA) ++ [32]).length + wG.length ≤ 9223372036854775807)) (
 some (.tup [.str ((((wq ++ [47]) ++ wA) ++ [32]) ++ wG), .int .i64 0]))))))) := by kernel_rfl
theorem Qmv (lb n : Nat) (jj : LB) (ja : Bool) (jf : LL) (jg : Int) (jb : Bool) (je : LL) (jd : Bool) (jh : LL) (jc : Int) :
 top lb n Qde [.agg [.str jj, .list ja jf, .int .i64 jg, .list jb je, .list jd jh, .int .i64 jc]] =
 optO (C lb n QaA [.agg [.str jj, .list ja jf, .int .i64 jg, .list jb je, .list jd jh, .int .i64 jc]]) fun jx =>
 optO (CV.asB jx) fun kc =>
 bif (!kc) then
 (optO (C lb n Qaj []) fun mG =>
 some (mG))
 else
 (optO (C lb n Qan [.agg [.str jj, .list ja jf, .int .i64 jg, .list jb je, .list jd jh, .int .i64 jc]]) fun ol =>
 optO (CV.asT ol) fun kS =>
 optO (kS[0]?) fun vK =>
 optO (CV.asT ol) fun mg =>
 optO (mg[1]?) fun kT =>
 optO (C lb n QaB [.agg [.str jj, .list ja jf, .int .i64 jg, .list jb je, .list jd jh, .int .i64 jc]]) fun kA =>
 optO (CV.asT kA) fun t21 =>
 optO (t21[0]?) fun gy =>
 optO (CV.asT kA) fun rF =>
 optO (rF[1]?) fun tt =>
 optO (CV.asS vK) fun uh =>
 optO (CV.asS gy) fun tx =>
 bif (!(uh == tx)) then
 (some (.bool false))
 else
 (optO (CV.asI .i64 kT) fun vd =>
 optO (CV.asI .i64 tt) fun vN =>
 bif (vd != vN) then
 (some (.bool false))
 else
 (optO (C lb n QaM [vK]) fun o8 =>
 optO (CV.asT o8) fun qQ =>
 optO (qQ[0]?) fun j7 =>
 optO (CV.asT o8) fun tJ =>
 optO (tJ[1]?) fun nQ =>
 optO (CV.asT o8) fun th =>
 optO (th[2]?) fun kQ =>
 optO (CV.asA j7) fun c37 =>
 chkO (c37.length == 6) (
 optO (c37[0]?) fun oF =>
 optO (c37[1]?) fun oL =>
 optO (c37[2]?) fun o6 =>
 optO (c37[3]?) fun oO =>
 optO (c37[4]?) fun tR =>
 optO (c37[5]?) fun gg =>
 optO (CV.asI .i64 kT) fun gd =>
 bif (gd != 0) then
 (optO (C lb n Qaj []) fun uc =>
 some (uc))
 else
 (optO (CV.asI .i64 kQ) fun i46 =>
 bif (i46 == 0) then
 (optO (CV.asI .i64 nQ) fun tB =>
 bif (tB == 0) then
 (optO (C lb n QaI [.agg [oF,oL,o6,oO,tR,gg], .agg [.str jj, .list ja jf, .int .i64 jg, .list jb je, .list jd jh, .int .i64 jc]]) fun pT =>
 optO (CV.asB pT) fun uz =>
 bif uz then
 (optO (C lb n Qaj []) fun jQ =>
 some (jQ))
 else
 (some (.bool false)))
 else
 (some (.bool false)))
 else
 (some (.bool false))))))) := by kernel_rfl
end Go.Proofs
