/- Equations of functions, printed by program. Conditions: none. -/
import Derived.Test.YtbdclhadjcfadaaGreatDoorEv
namespace Go.Proofs
open Go.Am
set_option maxRecDepth 100000
set_option linter.unusedVariables false
noncomputable def cond_write_J1 :=
 fun lb n jf (jg : Bool) (jh : LL) ji jj jb jc ja (jd : Bool) (je : LL) kr yU kB vY y0 wy =>
 hold (E0 lb n 0 997 (sub (B Qae) [1,1,1]) (retK Tryz.prog (R Qae) 0 (outK (Qak Tryz.prog Qae))) ⟨fr 100 [(0, .val (.agg [.int .i64 jf, .list jg jh, .int .i64 ji, .int .i64 jj, .int .i64 jb, .int .i64 jc, .int .i64 ja, .list jd je])),(1, .ptr 0 1 0),(2, .val (.str [])),(3, .ptr 0 3 0),(7, .ptr 0 1 0),(8,vI jf),(9, .val (.agg [.str [97,108,108], .int .i64 0, .int .i64 0, .int .i64 (-1), .int .i64 (-1), .bool false, .nilfn, .bool false, .bool true])),(10,vB kr),(34,vB yU),(44,vB kB),(55,vB vY),(71,vB y0),(87,vB wy)],[bx 100 [(1,some [vI jf, .val (.list jg jh),vI ji,vI jj,vI jb,vI jc,vI ja, .val (.list jd je)]),(3,some [.val (.str [97,108,108]),vI 0,vI 0, .val (.int .i64 (-1)), .val (.int .i64 (-1)),vB false, .val .nilfn,vB false,vB true])]],KK⟩)
theorem Qm2 (lb n : Nat) (jf : Int) (jg : Bool) (jh : LL) (ji jj jb jc ja : Int) (jd : Bool) (je : LL) (kr yU kB vY y0 wy : Bool) :
 cond_write_J1 lb n jf jg jh ji jj jb jc ja jd je kr yU kB vY y0 wy =
 some (.str [97,108,108]) := (Qaf _).trans (by kernel_rfl)
noncomputable def Qe4 (lb n vJ : Nat) (jf : Int) (jg : Bool) (jh : LL) (ji jj jb jc ja : Int) (jd : Bool) (je : LL) (yY : Bool) (yt : LL) (w9 : Int) : Option CV :=
 hold (QaC (E0 lb n 0 989) 0 (Qal (sub (B Qae) [1,1,0,0,1,0,1,0,1,0,0]) ++ []) [6] (sub (B Qae) [1,1,0,0,1,0,1,0,1,0,0]) (Qan 1 (seqK (E0 lb n 0 992) (sub (B Qae) [1,1,0,0,1,0,1,0]) (sub (B Qae) [1,1,0,0,1,0,1,1]) (QaU (sub (B Qae) [1,1,0,0,1,0]) (sub (B Qae) [1,1,0,0,1,1]) (Qan 0 (seqK (E0 lb n 0 997) (sub (B Qae) [1,1,0]) (sub (B Qae) [1,1,1]) (retK Tryz.prog (R Qae) 0 (outK (Qak Tryz.prog Qae)))))))) vJ ⟨fr 100 [(0, .val (.agg [.int .i64 jf, .list jg jh, .int .i64 ji, .int .i64 jj, .int .i64 jb, .int .i64 jc, .int .i64 ja, .list jd je])),(1, .ptr 0 1 0),(2, .val (.str [])),(3, .ptr 0 3 0),(4, .lst true yY 9 yt),(7, .ptr 0 1 0),(8,vI jf),(9, .val (.agg [.str [97,110,100], .int .i64 1, .int .i64 128, .int .i64 (-1), .int .i64 (-1), .bool false, .nilfn, .bool false, .bool true])),(10,vB true),(11, .ptr 0 3 2),(12,vI 128),(13,vB true),(14, .ptr 0 1 1),(15, .val (.list jg jh)),(16, .val (.int .i64 (jh.length : Int))),(17,vI w9)],[bx 100 [(1,some [vI jf, .val (.list jg jh),vI ji,vI jj,vI jb,vI jc,vI ja, .val (.list jd je)]),(3,some [.val (.str [97,110,100]),vI 1,vI 128, .val (.int .i64 (-1)), .val (.int .i64 (-1)),vB false, .val .nilfn,vB false,vB true])]],KK⟩)
noncomputable def Qkb (lb n : Nat) (jf : Int) (jg : Bool) (jh : LL) (ji jj jb jc ja : Int) (jd : Bool) (je : LL) (vl : Bool) (vw : LL) : Option CV :=
 hold (E0 lb n 0 992 (sub (B Qae) [1,1,0,0,1,0,1,1]) (QaU (sub (B Qae) [1,1,0,0,1,0]) (sub (B Qae) [1,1,0,0,1,1]) (Qan 0 (seqK (E0 lb n 0 997) (sub (B Qae) [1,1,0]) (sub (B Qae) [1,1,1]) (retK Tryz.prog (R Qae) 0 (outK (Qak Tryz.prog Qae)))))) ⟨fr 100 [(0, .val (.agg [.int .i64 jf, .list jg jh, .int .i64 ji, .int .i64 jj, .int .i64 jb, .int .i64 jc, .int .i64 ja, .list jd je])),(1, .ptr 0 1 0),(2, .val (.str [])),(3, .ptr 0 3 0),(4, .lst true vl 9 vw),(7, .ptr 0 1 0),(8,vI jf),(9, .val (.agg [.str [97,110,100], .int .i64 1, .int .i64 128, .int .i64 (-1), .int .i64 (-1), .bool false, .nilfn, .bool false, .bool true])),(10,vB true),(11, .ptr 0 3 2),(12,vI 128),(13,vB true)],[bx 100 [(1,some [vI jf, .val (.list jg jh),vI ji,vI jj,vI jb,vI jc,vI ja, .val (.list jd je)]),(3,some [.val (.str [97,110,100]),vI 1,vI 128, .val (.int .i64 (-1)), .val (.int .i64 (-1)),vB false, .val .nilfn,vB false,vB true])]],KK⟩)
theorem QmM (lb n : Nat) (jf : Int) (jg : Bool) (jh : LL) (ji jj jb jc ja : Int) (jd : Bool) (je : LL) (vl : Bool) (vw : LL) :
 Qkb lb n jf jg jh ji jj jb jc ja jd je vl vw =
 optO (C lb n Qbf [.list vl vw, .str [44,32]]) fun yn =>
 optO (CV.asS yn) fun ki =>
 chkO (decide (([97,110,100,40] : LB).length + ki.length ≤ 9223372036854775807)) (
 chkO (decide ((([97,110,100,40] : LB) ++ ki).length + [41].length ≤ 9223372036854775807)) (
 some (.str ((([97,110,100,40] : LB) ++ ki) ++ [41])))) := (Qaf _).trans (by kernel_rfl)
theorem QgL (lb n vJ : Nat) (jf : Int) (jg : Bool) (jh : LL) (ji jj jb jc ja : Int) (jd : Bool) (je : LL) (yY : Bool) (yt : LL) (w9 : Int) :
 Qe4 lb n (vJ + 1) jf jg jh ji jj jb jc ja jd je yY yt w9 =
 bif (decide (w9 < (jh.length : Int))) then
 (optO (atL jh w9) fun wI =>
 chkO (wI.length == 8) (
 optO (wI[0]?) fun qh =>
 optO (wI[1]?) fun qo =>
 optO (wI[2]?) fun kv =>
 optO (wI[3]?) fun kY =>
 optO (wI[4]?) fun kM =>
 optO (wI[5]?) fun kZ =>
 optO (wI[6]?) fun oB =>
 optO (wI[7]?) fun oA =>
 optO (C lb n Qae [.agg [qh,qo,kv,kY,kM,kZ,oB,oA]]) fun oY =>
 chkO (CV.isCell oY) (
 chkO (room (yt.length + 1) 16) (
 Qe4 lb n vJ jf jg jh ji jj jb jc ja jd je (yY && false) (yt ++ [[oY]]) (IntKind.wrap .i64 (w9 + 1))))))
 else
 (Qkb lb n jf jg jh ji jj jb jc ja jd je yY yt) := (Qaf _).trans (by kernel_rfl)
noncomputable def Qfb (lb n vH : Nat) (jf : Int) (jg : Bool) (jh : LL) (ji jj jb jc ja : Int) (jd : Bool) (je : LL) (yT : Bool) (yo : LL) (i75 : Int) : Option CV :=
 hold (QaC (E0 lb n 0 989) 0 (Qal (sub (B Qae) [1,1,0,0,1,0,1,0,1,0,0]) ++ []) [6] (sub (B Qae) [1,1,0,0,1,0,1,0,1,0,0]) (Qan 1 (seqK (E0 lb n 0 992) (sub (B Qae) [1,1,0,0,1,0,1,0]) (sub (B Qae) [1,1,0,0,1,0,1,1]) (QaU (sub (B Qae) [1,1,0,0,1,0]) (sub (B Qae) [1,1,0,0,1,1]) (Qan 0 (seqK (E0 lb n 0 997) (sub (B Qae) [1,1,0]) (sub (B Qae) [1,1,1]) (retK Tryz.prog (R Qae) 0 (outK (Qak Tryz.prog Qae)))))))) vH ⟨fr 100 [(0, .val (.agg [.int .i64 jf, .list jg jh, .int .i64 ji, .int .i64 jj, .int .i64 jb, .int .i64 jc, .int .i64 ja, .list jd je])),(1, .ptr 0 1 0),(2, .val (.str [])),(3, .ptr 0 3 0),(4, .lst true yT 9 yo),(7, .ptr 0 1 0),(8,vI jf),(9, .val (.agg [.str [111,114], .int .i64 1, .int .i64 128, .int .i64 (-1), .int .i64 (-1), .bool false, .nilfn, .bool false, .bool true])),(10,vB true),(11, .ptr 0 3 2),(12,vI 128),(13,vB true),(14, .ptr 0 1 1),(15, .val (.list jg jh)),(16, .val (.int .i64 (jh.length : Int))),(17,vI i75)],[bx 100 [(1,some [vI jf, .val (.list jg jh),vI ji,vI jj,vI jb,vI jc,vI ja, .val (.list jd je)]),(3,some [.val (.str [111,114]),vI 1,vI 128, .val (.int .i64 (-1)), .val (.int .i64 (-1)),vB false, .val .nilfn,vB false,vB true])]],KK⟩)
noncomputable def Qkk (lb n : Nat) (jf : Int) (jg : Bool) (jh : LL) (ji jj jb jc ja : Int) (jd : Bool) (je : LL) (vA : Bool) (vL : LL) : Option CV :=
 hold (E0 lb n 0 992 (sub (B Qae) [1,1,0,0,1,0,1,1]) (QaU (sub (B Qae) [1,1,0,0,1,0]) (sub (B Qae) [1,1,0,0,1,1]) (Qan 0 (seqK (E0 lb n 0 997) (sub (B Qae) [1,1,0]) (sub (B Qae) [1,1,1]) (retK Tryz.prog (R Qae) 0 (outK (Qak Tryz.prog Qae)))))) ⟨fr 100 [(0, .val (.agg [.int .i64 jf, .list jg jh, .int .i64 ji, .int .i64 jj, .int .i64 jb, .int .i64 jc, .int .i64 ja, .list jd je])),(1, .ptr 0 1 0),(2, .val (.str [])),(3, .ptr 0 3 0),(4, .lst true vA 9 vL),(7, .ptr 0 1 0),(8,vI jf),(9, .val (.agg [.str [111,114], .int .i64 1, .int .i64 128, .int .i64 (-1), .int .i64 (-1), .bool false, .nilfn, .bool false, .bool true])),(10,vB true),(11, .ptr 0 3 2),(12,vI 128),(13,vB true)],[bx 100 [(1,some [vI jf, .val (.list jg jh),vI ji,vI jj,vI jb,vI jc,vI ja, .val (.list jd je)]),(3,some [.val (.str [111,114]),vI 1,vI 128, .val (.int .i64 (-1)), .val (.int .i64 (-1)),vB false, .val .nilfn,vB false,vB true])]],KK⟩)
theorem QmS (lb n : Nat) (jf : Int) (jg : Bool) (jh : LL) (ji jj jb jc ja : Int) (jd : Bool) (je : LL) (vA : Bool) (vL : LL) :
 Qkk lb n jf jg jh ji jj jb jc ja jd je vA vL =
 optO (C lb n Qbf [.list vA vL, .str [44,32]]) fun qG =>
 optO (CV.asS qG) fun vb =>
 chkO (decide (([111,114,40] : LB).length + vb.length ≤ 9223372036854775807)) (
 chkO (decide ((([111,114,40] : LB) ++ vb).length + [41].length ≤ 9223372036854775807)) (
 some (.str ((([111,114,40] : LB) ++ vb) ++ [41])))) := (Qaf _).trans (by kernel_rfl)
theorem QgQ (lb n vH : Nat) (jf : Int) (jg : Bool) (jh : LL) (ji jj jb jc ja : Int) (jd : Bool) (je : LL) (yT : Bool) (yo : LL) (i75 : Int) :
 Qfb lb n (vH + 1) jf jg jh ji jj jb jc ja jd je yT yo i75 =
 bif (decide (i75 < (jh.length : Int))) then
 (optO (atL jh i75) fun wP =>
 chkO (wP.length == 8) (
 optO (wP[0]?) fun pA =>
 optO (wP[1]?) fun vk =>
 optO (wP[2]?) fun vN =>
 optO (wP[3]?) fun vq =>
 optO (wP[4]?) fun vi =>
 optO (wP[5]?) fun vt =>
 optO (wP[6]?) fun vK =>
 optO (wP[7]?) fun vr =>
 optO (C lb n Qae [.agg [pA,vk,vN,vq,vi,vt,vK,vr]]) fun ga =>
 chkO (CV.isCell ga) (
 chkO (room (yo.length + 1) 16) (
 Qfb lb n vH jf jg jh ji jj jb jc ja jd je (yT && false) (yo ++ [[ga]]) (IntKind.wrap .i64 (i75 + 1))))))
 else
 (Qkk lb n jf jg jh ji jj jb jc ja jd je yT yo) := (Qaf _).trans (by kernel_rfl)
noncomputable def Qe8 (lb n yD : Nat) (jf : Int) (jg : Bool) (jh : LL) (ji jj jb jc ja : Int) (jd : Bool) (je : LL) (yh : Bool) (wY : LL) (wX : Int) : Option CV :=
 hold (QaC (E0 lb n 0 989) 0 (Qal (sub (B Qae) [1,1,0,0,1,0,1,0,1,0,0]) ++ []) [6] (sub (B Qae) [1,1,0,0,1,0,1,0,1,0,0]) (Qan 1 (seqK (E0 lb n 0 992) (sub (B Qae) [1,1,0,0,1,0,1,0]) (sub (B Qae) [1,1,0,0,1,0,1,1]) (QaU (sub (B Qae) [1,1,0,0,1,0]) (sub (B Qae) [1,1,0,0,1,1]) (Qan 0 (seqK (E0 lb n 0 997) (sub (B Qae) [1,1,0]) (sub (B Qae) [1,1,1]) (retK Tryz.prog (R Qae) 0 (outK (Qak Tryz.prog Qae)))))))) yD ⟨fr 100 [(0, .val (.agg [.int .i64 jf, .list jg jh, .int .i64 ji, .int .i64 jj, .int .i64 jb, .int .i64 jc, .int .i64 ja, .list jd je])),(1, .ptr 0 1 0),(2, .val (.str [])),(3, .ptr 0 3 0),(4, .lst true yh 9 wY),(7, .ptr 0 1 0),(8,vI jf),(9, .val (.agg [.str [110,111,116], .int .i64 1, .int .i64 1, .int .i64 (-1), .int .i64 (-1), .bool false, .nilfn, .bool false, .bool true])),(10,vB true),(11, .ptr 0 3 2),(12,vI 1),(13,vB true),(14, .ptr 0 1 1),(15, .val (.list jg jh)),(16, .val (.int .i64 (jh.length : Int))),(17,vI wX)],[bx 100 [(1,some [vI jf, .val (.list jg jh),vI ji,vI jj,vI jb,vI jc,vI ja, .val (.list jd je)]),(3,some [.val (.str [110,111,116]),vI 1,vI 1, .val (.int .i64 (-1)), .val (.int .i64 (-1)),vB false, .val .nilfn,vB false,vB true])]],KK⟩)
noncomputable def Qki (lb n : Nat) (jf : Int) (jg : Bool) (jh : LL) (ji jj jb jc ja : Int) (jd : Bool) (je : LL) (yC : Bool) (yJ : LL) : Option CV :=
 hold (E0 lb n 0 992 (sub (B Qae) [1,1,0,0,1,0,1,1]) (QaU (sub (B Qae) [1,1,0,0,1,0]) (sub (B Qae) [1,1,0,0,1,1]) (Qan 0 (seqK (E0 lb n 0 997) (sub (B Qae) [1,1,0]) (sub (B Qae) [1,1,1]) (retK Tryz.prog (R Qae) 0 (outK (Qak Tryz.prog Qae)))))) ⟨fr 100 [(0, .val (.agg [.int .i64 jf, .list jg jh, .int .i64 ji, .int .i64 jj, .int .i64 jb, .int .i64 jc, .int .i64 ja, .list jd je])),(1, .ptr 0 1 0),(2, .val (.str [])),(3, .ptr 0 3 0),(4, .lst true yC 9 yJ),(7, .ptr 0 1 0),(8,vI jf),(9, .val (.agg [.str [110,111,116], .int .i64 1, .int .i64 1, .int .i64 (-1), .int .i64 (-1), .bool false, .nilfn, .bool false, .bool true])),(10,vB true),(11, .ptr 0 3 2),(12,vI 1),(13,vB true)],[bx 100 [(1,some [vI jf, .val (.list jg jh),vI ji,vI jj,vI jb,vI jc,vI ja, .val (.list jd je)]),(3,some [.val (.str [110,111,116]),vI 1,vI 1, .val (.int .i64 (-1)), .val (.int .i64 (-1)),vB false, .val .nilfn,vB false,vB true])]],KK⟩)
theorem Qm1 (lb n : Nat) (jf : Int) (jg : Bool) (jh : LL) (ji jj jb jc ja : Int) (jd : Bool) (je : LL) (yC : Bool) (yJ : LL) :
 Qki lb n jf jg jh ji jj jb jc ja jd je yC yJ =
 optO (C lb n Qbf [.list yC yJ, .str [44,32]]) fun gX =>
 optO (CV.asS gX) fun y7 =>
 chkO (decide (([110,111,116,40] : LB).length + y7.length ≤ 9223372036854775807)) (
 chkO (decide ((([110,111,116,40] : LB) ++ y7).length + [41].length ≤ 9223372036854775807)) (
 some (.str ((([110,111,116,40] : LB) ++ y7) ++ [41])))) := (Qaf _).trans (by kernel_rfl)
theorem QgT (lb n yD : Nat) (jf : Int) (jg : Bool) (jh : LL) (ji jj jb jc ja : Int) (jd : Bool) (je : LL) (yh : Bool) (wY : LL) (wX : Int) :
 Qe8 lb n (yD + 1) jf jg jh ji jj jb jc ja jd je yh wY wX =
 bif (decide (wX < (jh.length : Int))) then
 (optO (atL jh wX) fun wo =>
 chkO (wo.length == 8) (
 optO (wo[0]?) fun ph =>
 optO (wo[1]?) fun mW =>
 optO (wo[2]?) fun gE =>
 optO (wo[3]?) fun pw =>
 optO (wo[4]?) fun gI =>
 optO (wo[5]?) fun gQ =>
 optO (wo[6]?) fun gB =>
 optO (wo[7]?) fun nX =>
 optO (C lb n Qae [.agg [ph,mW,gE,pw,gI,gQ,gB,nX]]) fun oo =>
 chkO (CV.isCell oo) (
 chkO (room (wY.length + 1) 16) (
 Qe8 lb n yD jf jg jh ji jj jb jc ja jd je (yh && false) (wY ++ [[oo]]) (IntKind.wrap .i64 (wX + 1))))))
 else
 (Qki lb n jf jg jh ji jj jb jc ja jd je yh wY) := (Qaf _).trans (by kernel_rfl)
noncomputable def QpQ (lb n : Nat) (jf : Int) (jg : Bool) (jh : LL) (ji jj jb jc ja : Int) (jd : Bool) (je : LL) (po pp n7 gm g0 gp : Bool) : Option CV :=
 hold (E0 lb n 0 997 (sub (B Qae) [1,1,1]) (retK Tryz.prog (R Qae) 0 (outK (Qak Tryz.prog Qae))) ⟨fr 100 [(0, .val (.agg [.int .i64 jf, .list jg jh, .int .i64 ji, .int .i64 jj, .int .i64 jb, .int .i64 jc, .int .i64 ja, .list jd je])),(1, .ptr 0 1 0),(2, .val (.str [])),(3, .ptr 0 3 0),(7, .ptr 0 1 0),(8,vI jf),(9, .val (.agg [.str [], .int .i64 0, .int .i64 0, .int .i64 (-1), .int .i64 (-1), .bool false, .nilfn, .bool false, .bool false])),(10,vB po),(34,vB pp),(44,vB n7),(55,vB gm),(71,vB g0),(87,vB gp)],[bx 100 [(1,some [vI jf, .val (.list jg jh),vI ji,vI jj,vI jb,vI jc,vI ja, .val (.list jd je)]),(3,some [.val (.str []),vI 0,vI 0, .val (.int .i64 (-1)), .val (.int .i64 (-1)),vB false, .val .nilfn,vB false,vB false])]],KK⟩)
theorem QpD (lb n : Nat) (jf : Int) (jg : Bool) (jh : LL) (ji jj jb jc ja : Int) (jd : Bool) (je : LL) :
 top lb n Qae [.agg [.int .i64 jf, .list jg jh, .int .i64 ji, .int .i64 jj, .int .i64 jb, .int .i64 jc, .int .i64 ja, .list jd je]] =
 bif (jf == 1) then
 (bif (jf == 8) then
 (optO (C lb n QaK [.int .i64 ji]) fun jo =>
 optO (CV.asS jo) fun vu =>
 chkO (decide (([97,108,108,32] : LB).length + vu.length ≤ 9223372036854775807)) (
 chkO (decide ((([97,108,108,32] : LB) ++ vu).length + [32].length ≤ 9223372036854775807)) (
 optO (C lb n QaK [.int .i64 jj]) fun wA =>
 optO (CV.asS wA) fun wh =>
 chkO (decide (((([97,108,108,32] : LB) ++ vu) ++ [32]).length + wh.length ≤ 9223372036854775807)) (
 some (.str (((([97,108,108,32] : LB) ++ vu) ++ [32]) ++ wh))))))
 else
 (cond_write_J1 lb n jf jg jh ji jj jb jc ja jd je false false false (jf == 8) false false))
 else
 (bif (jf == 2) then
 (Qe4 lb n n jf jg jh ji jj jb jc ja jd je true [] 0)
 else
 (bif (jf == 3) then
 (Qfb lb n n jf jg jh ji jj jb jc ja jd je true [] 0)
 else
 (bif (jf == 4) then
 (Qe8 lb n n jf jg jh ji jj jb jc ja jd je true [] 0)
 else
 (bif (jf == 5) then
 (optO (C lb n Qa6 [.agg [.int .i64 jb, .int .i64 jc, .int .i64 ja]]) fun gA =>
 optO (CV.asS gA) fun kP =>
 chkO (decide (([116,114,97,118,101,108,32] : LB).length + kP.length ≤ 9223372036854775807)) (
 some (.str (([116,114,97,118,101,108,32] : LB) ++ kP))))
 else
 (bif (jf == 6) then
 (optO (C lb n Qa6 [.agg [.int .i64 jb, .int .i64 jc, .int .i64 ja]]) fun gS =>
 optO (CV.asS gS) fun oD =>
 chkO (decide (([115,97,108,101,32] : LB).length + oD.length ≤ 9223372036854775807)) (
 some (.str (([115,97,108,101,32] : LB) ++ oD))))
 else
 (bif (jf == 7) then
 (bif (jf == 8) then
 (optO (C lb n QaK [.int .i64 ji]) fun mK =>
 optO (CV.asS mK) fun yx =>
 chkO (decide (([97,100,118,97,110,99,101,32] : LB).length + yx.length ≤ 9223372036854775807)) (
 chkO (decide ((([97,100,118,97,110,99,101,32] : LB) ++ yx).length + [32].length ≤ 9223372036854775807)) (
 optO (C lb n QaK [.int .i64 jj]) fun pg =>
 optO (CV.asS pg) fun oG =>
 chkO (decide (((([97,100,118,97,110,99,101,32] : LB) ++ yx) ++ [32]).length + oG.length ≤ 9223372036854775807)) (
 some (.str (((([97,100,118,97,110,99,101,32] : LB) ++ yx) ++ [32]) ++ oG))))))
 else
 (optO (C lb n QbG [.int .i64 ji]) fun nS =>
 optO (CV.asS nS) fun vW =>
 chkO (decide (([97,100,118,97,110,99,101,32] : LB).length + vW.length ≤ 9223372036854775807)) (
 some (.str (([97,100,118,97,110,99,101,32] : LB) ++ vW)))))
 else
 (bif (jf == 8) then
 (bif (jf == 8) then
 (optO (C lb n QaK [.int .i64 ji]) fun gJ =>
 optO (CV.asS gJ) fun yF =>
 chkO (decide (([104,111,117,114,32] : LB).length + yF.length ≤ 9223372036854775807)) (
 chkO (decide ((([104,111,117,114,32] : LB) ++ yF).length + [32].length ≤ 9223372036854775807)) (
 optO (C lb n QaK [.int .i64 jj]) fun nB =>
 optO (CV.asS nB) fun kF =>
 chkO (decide (((([104,111,117,114,32] : LB) ++ yF) ++ [32]).length + kF.length ≤ 9223372036854775807)) (
 some (.str (((([104,111,117,114,32] : LB) ++ yF) ++ [32]) ++ kF))))))
 else
 (optO (C lb n QbG [.int .i64 ji]) fun pk =>
 optO (CV.asS pk) fun yM =>
 chkO (decide (([104,111,117,114,32] : LB).length + yM.length ≤ 9223372036854775807)) (
 chkO (decide ((([104,111,117,114,32] : LB) ++ yM).length + [32].length ≤ 9223372036854775807)) (
 optO (C lb n QbG [.int .i64 jj]) fun nW =>
 optO (CV.asS nW) fun kp =>
 chkO (decide (((([104,111,117,114,32] : LB) ++ yM) ++ [32]).length + kp.length ≤ 9223372036854775807)) (
 some (.str (((([104,111,117,114,32] : LB) ++ yM) ++ [32]) ++ kp)))))))
 else
 (bif (jf == 9) then
 (bif (jf == 8) then
 (optO (C lb n QaK [.int .i64 ji]) fun mD =>
 optO (CV.asS mD) fun wZ =>
 chkO (decide (([115,116,111,112,115,32] : LB).length + wZ.length ≤ 9223372036854775807)) (
 chkO (decide ((([115,116,111,112,115,32] : LB) ++ wZ).length + [32].length ≤ 9223372036854775807)) (
 optO (C lb n QaK [.int .i64 jj]) fun ma =>
 optO (CV.asS ma) fun vX =>
 chkO (decide (((([115,116,111,112,115,32] : LB) ++ wZ) ++ [32]).length + vX.length ≤ 9223372036854775807)) (
 some (.str (((([115,116,111,112,115,32] : LB) ++ wZ) ++ [32]) ++ vX))))))
 else
 (optO (C lb n QbG [.int .i64 ji]) fun nI =>
 optO (CV.asS nI) fun kc =>
 chkO (decide (([115,116,111,112,115,32] : LB).length + kc.length ≤ 9223372036854775807)) (
 some (.str (([115,116,111,112,115,32] : LB) ++ kc)))))
 else
 (bif (jf == 10) then
 (bif (jf == 8) then
 (optO (C lb n QaK [.int .i64 ji]) fun nU =>
 optO (CV.asS nU) fun yK =>
 chkO (decide (([116,114,97,110,115,102,101,114,115,32] : LB).length + yK.length ≤ 9223372036854775807)) (
 chkO (decide ((([116,114,97,110,115,102,101,114,115,32] : LB) ++ yK).length + [32].length ≤ 9223372036854775807)) (
 optO (C lb n QaK [.int .i64 jj]) fun mN =>
 optO (CV.asS mN) fun kl =>
 chkO (decide (((([116,114,97,110,115,102,101,114,115,32] : LB) ++ yK) ++ [32]).length + kl.length ≤ 9223372036854775807)) (
 some (.str (((([116,114,97,110,115,102,101,114,115,32] : LB) ++ yK) ++ [32]) ++ kl))))))
 else
 (optO (C lb n QbG [.int .i64 ji]) fun mn =>
 optO (CV.asS mn) fun kU =>
 chkO (decide (([116,114,97,110,115,102,101,114,115,32] : LB).length + kU.length ≤ 9223372036854775807)) (
 some (.str (([116,114,97,110,115,102,101,114,115,32] : LB) ++ kU)))))
 else
 (bif (jf == 11) then
 (optO (C lb n Qbf [.list jd je, .str [32]]) fun gT =>
 optO (CV.asS gT) fun ku =>
 chkO (decide (([99,97,114,114,105,101,114,32] : LB).length + ku.length ≤ 9223372036854775807)) (
 some (.str (([99,97,114,114,105,101,114,32] : LB) ++ ku))))
 else
 (bif (jf == 12) then
 (bif (jf == 8) then
 (optO (C lb n QaK [.int .i64 ji]) fun gi =>
 optO (CV.asS gi) fun yG =>
 chkO (decide (([110,117,109,98,101,114,32] : LB).length + yG.length ≤ 9223372036854775807)) (
 chkO (decide ((([110,117,109,98,101,114,32] : LB) ++ yG).length + [32].length ≤ 9223372036854775807)) (
 optO (C lb n QaK [.int .i64 jj]) fun nO =>
 optO (CV.asS nO) fun kN =>
 chkO (decide (((([110,117,109,98,101,114,32] : LB) ++ yG) ++ [32]).length + kN.length ≤ 9223372036854775807)) (
 some (.str (((([110,117,109,98,101,114,32] : LB) ++ yG) ++ [32]) ++ kN))))))
 else
 (optO (C lb n QbG [.int .i64 ji]) fun gv =>
 optO (CV.asS gv) fun yy =>
 chkO (decide (([110,117,109,98,101,114,32] : LB).length + yy.length ≤ 9223372036854775807)) (
 chkO (decide ((([110,117,109,98,101,114,32] : LB) ++ yy).length + [32].length ≤ 9223372036854775807)) (
 optO (C lb n QbG [.int .i64 jj]) fun mT =>
 optO (CV.asS mT) fun od =>
 chkO (decide (((([110,117,109,98,101,114,32] : LB) ++ yy) ++ [32]).length + od.length ≤ 9223372036854775807)) (
 some (.str (((([110,117,109,98,101,114,32] : LB) ++ yy) ++ [32]) ++ od)))))))
 else
 (bif (jf == 13) then
 (optO (C lb n Qbf [.list jd je, .str [32]]) fun nM =>
 optO (CV.asS nM) fun og =>
 chkO (decide (([118,105,97,32] : LB).length + og.length ≤ 9223372036854775807)) (
 some (.str (([118,105,97,32] : LB) ++ og))))
 else
 (bif (jf == 14) then
 (optO (C lb n Qbf [.list jd je, .str [32]]) fun gU =>
 optO (CV.asS gU) fun vQ =>
 chkO (decide (([116,121,112,101,32] : LB).length + vQ.length ≤ 9223372036854775807)) (
 some (.str (([116,121,112,101,32] : LB) ++ vQ))))
 else
 (bif (jf == 8) then
 (optO (C lb n QaK [.int .i64 ji]) fun nP =>
 optO (CV.asS nP) fun yP =>
 chkO (decide (([32] : LB).length + yP.length ≤ 9223372036854775807)) (
 chkO (decide ((([32] : LB) ++ yP).length + [32].length ≤ 9223372036854775807)) (
 optO (C lb n QaK [.int .i64 jj]) fun n0 =>
 optO (CV.asS n0) fun ka =>
 chkO (decide (((([32] : LB) ++ yP) ++ [32]).length + ka.length ≤ 9223372036854775807)) (
 some (.str (((([32] : LB) ++ yP) ++ [32]) ++ ka))))))
 else
 (QpQ lb n jf jg jh ji jj jb jc ja jd je false false false (jf == 8) false false))))))))))))))) := by kernel_rfl
theorem QpC (lb n : Nat) (jf : Int) (jg : Bool) (jh : LL) (ji jj jb jc ja : Int) (jd : Bool) (je : LL) :
 top lb n Qc4 [.agg [.int .i64 jf, .list jg jh, .int .i64 ji, .int .i64 jj, .int .i64 jb, .int .i64 jc, .int .i64 ja, .list jd je]] =
 optO (C lb n Qdh [.agg [.int .i64 jf, .list jg jh, .int .i64 ji, .int .i64 jj, .int .i64 jb, .int .i64 jc, .int .i64 ja, .list jd je]]) fun jo =>
 optO (CV.asI .i64 jo) fun jI =>
 bif (jI != 0) then
 (some (.tup [.str [],jo]))
 else
 (optO (C lb n Qae [.agg [.int .i64 jf, .list jg jh, .int .i64 ji, .int .i64 jj, .int .i64 jb, .int .i64 jc, .int .i64 ja, .list jd je]]) fun wA =>
 optO (CV.asS wA) fun wh =>
 bif (decide ((wh.length : Int) > 65536)) then
 (some (.tup [.str [], .int .i64 4]))
 else
 (some (.tup [wA, .int .i64 0]))) := by kernel_rfl
theorem Qpy (lb n : Nat) (a1 : LB) :
 top lb n QdH [.str a1] =
 bif (decide ((a1.length : Int) > 65536)) then
 (some (.tup [.agg [.int .i64 0, .list true [], .int .i64 0, .int .i64 0, .int .i64 0, .int .i64 0, .int .i64 0, .list true []], .int .i64 3]))
 else
 (optO (C lb n QeZ [.str a1]) fun r2 =>
 optO (CV.asT r2) fun t3 =>
 optO (t3[0]?) fun x4 =>
 optO (CV.asT r2) fun t5 =>
 optO (t5[1]?) fun x6 =>
 optO (CV.asA x4) fun c7 =>
 chkO (c7.length == 8) (
 optO (c7[0]?) fun x9 =>
 optO (c7[1]?) fun wB =>
 optO (c7[2]?) fun w5 =>
 optO (c7[3]?) fun yk =>
 optO (c7[4]?) fun yg =>
 optO (c7[5]?) fun yv =>
 optO (c7[6]?) fun o9 =>
 optO (c7[7]?) fun vG =>
 optO (CV.asB x6) fun yU =>
 bif (!yU) then
 (some (.tup [.agg [.int .i64 0, .list true [], .int .i64 0, .int .i64 0, .int .i64 0, .int .i64 0, .int .i64 0, .list true []], .int .i64 3]))
 else
 (optO (C lb n Qc4 [.agg [x9,wB,w5,yk,yg,yv,o9,vG]]) fun oZ =>
 optO (CV.asT oZ) fun t20 =>
 optO (t20[0]?) fun qx =>
 optO (CV.asT oZ) fun qf =>
 optO (qf[1]?) fun pS =>
 optO (CV.asI .i64 pS) fun jO =>
 bif (jO != 0) then
 (some (.tup [.agg [.int .i64 0, .list true [], .int .i64 0, .int .i64 0, .int .i64 0, .int .i64 0, .int .i64 0, .list true []], .int .i64 3]))
 else
 (optO (CV.asS qx) fun oe =>
 bif (!(oe == a1)) then
 (some (.tup [.agg [.int .i64 0, .list true [], .int .i64 0, .int .i64 0, .int .i64 0, .int .i64 0, .int .i64 0, .list true []], .int .i64 3]))
 else
 (some (.tup [.agg [x9,wB,w5,yk,yg,yv,o9,vG], .int .i64 0])))))) := by kernel_rfl
end Go.Proofs
namespace Go.Proofs
open Go.Am
set_option maxRecDepth 100000
set_option linter.unusedVariables false
end Go.Proofs
namespace Go.Proofs
open Go.Am
set_option maxRecDepth 100000
set_option linter.unusedVariables false
theorem QlV (lb n : Nat) (a1 : Int) :
 top lb n QaK [.int .i64 a1] =
 bif (decide (a1 < 0)) then
 (some (.str []))
 else
 (bif (decide (a1 ≥ 1440)) then
 (some (.str []))
 else
 (optO (C lb n QbX [.int .i64 (IntKind.wrap .i64 (Int.tdiv a1 60))]) fun r2 =>
 optO (CV.asS r2) fun s3 =>
 chkO (decide (s3.length + [58].length ≤ 9223372036854775807)) (
 optO (C lb n QbX [.int .i64 (Int.tmod a1 60)]) fun r4 =>
 optO (CV.asS r4) fun s5 =>
 chkO (decide ((s3 ++ [58]).length + s5.length ≤ 9223372036854775807)) (
 some (.str ((s3 ++ [58]) ++ s5)))))) := by kernel_rfl
theorem Qlp (lb n : Nat) (a1 : LB) :
 top lb n Qce [.str a1] =
 bif ((a1.length : Int) != 5) then
 (some (.tup [.int .i64 0, .int .i64 3]))
 else
 (optO (atS a1 2) fun c2 =>
 bif ((c2.toNat : Int) != 58) then
 (some (.tup [.int .i64 0, .int .i64 3]))
 else
 (chkO (decide ((0 : Int) ≤ 2 ∧ 2 ≤ (a1.length : Int))) (
 optO (C lb n QaD [.str ((a1.take 2).drop 0)]) fun r3 =>
 optO (CV.asT r3) fun t4 =>
 optO (t4[0]?) fun x5 =>
 optO (CV.asT r3) fun t6 =>
 optO (t6[1]?) fun x7 =>
 chkO (decide ((0 : Int) ≤ 3 ∧ 3 ≤ (a1.length : Int))) (
 optO (C lb n QaD [.str ((a1.take ((a1.length : Int).toNat)).drop 3)]) fun r9 =>
 optO (CV.asT r9) fun yR =>
 optO (yR[0]?) fun w5 =>
 optO (CV.asT r9) fun yW =>
 optO (yW[1]?) fun yg =>
 optO (CV.asB x7) fun ky =>
 bif (!ky) then
 (some (.tup [.int .i64 0, .int .i64 3]))
 else
 (optO (CV.asB yg) fun pT =>
 bif (!pT) then
 (some (.tup [.int .i64 0, .int .i64 3]))
 else
 (optO (CV.asI .i64 x5) fun qD =>
 bif (decide (qD > 23)) then
 (some (.tup [.int .i64 0, .int .i64 13]))
 else
 (optO (CV.asI .i64 w5) fun wz =>
 bif (decide (wz > 59)) then
 (some (.tup [.int .i64 0, .int .i64 13]))
 else
 (optO (CV.asI .i64 x5) fun wb =>
 optO (CV.asI .i64 w5) fun i20 =>
 some (.tup [.int .i64 (IntKind.wrap .i64 ((IntKind.wrap .i64 (60 * wb)) + i20)), .int .i64 0]))))))))) := by kernel_rfl
end Go.Proofs
namespace Go.Proofs
open Go.Am
set_option maxRecDepth 100000
set_option linter.unusedVariables false
noncomputable def Qfy (lb n : Nat) (jf : Int) (jg : Bool) (jh : LL) (ji jj jb jc ja : Int) (jd : Bool) (je : LL) (j4 : LB) (jy jH jF ol oi kL oc v51 vU v53 ko kO : CV) : Option CV :=
 hold (E0 lb n 0 995 (sub (B QbV) [1,1,1,1,1]) (retK Tryz.prog (R QbV) 0 (outK (Qak Tryz.prog QbV))) ⟨fr 81 [(0, .val (.agg [.int .i64 jf, .list jg jh, .int .i64 ji, .int .i64 jj, .int .i64 jb, .int .i64 jc, .int .i64 ja, .list jd je])),(1,vS j4),(2, .ptr 0 2 0),(4,vB false),(5,vV jy),(6,vV jH),(8,vV ol),(21,vV jF),(22, .val (.agg [.int .i64 jf, .list jg jh, .int .i64 ji, .int .i64 jj, .int .i64 jb, .int .i64 jc, .int .i64 ja, .list jd je])),(23,vV jF),(24,vV jy),(25,vV jH)],[bx 81 [(2,some [vI jf, .val (.list jg jh),vI ji,vI jj,vI jb,vI jc,vI ja, .val (.list jd je)]),(7,some [.val oi, .val kL, .val oc, .val v51, .val vU, .val v53, .val ko, .val kO])]],KK⟩)
theorem QkS (lb n : Nat) (jf : Int) (jg : Bool) (jh : LL) (ji jj jb jc ja : Int) (jd : Bool) (je : LL) (j4 : LB) (jy jH jF ol oi kL oc v51 vU v53 ko kO : CV) :
 Qfy lb n jf jg jh ji jj jb jc ja jd je j4 jy jH jF ol oi kL oc v51 vU v53 ko kO =
 optO (C lb n QdH [.str j4]) fun oS =>
 optO (CV.asT oS) fun qs =>
 optO (qs[0]?) fun kH =>
 optO (CV.asT oS) fun qe =>
 optO (qe[1]?) fun kw =>
 optO (CV.asA kH) fun wx =>
 chkO (wx.length == 8) (
 optO (wx[0]?) fun yp =>
 optO (wx[1]?) fun vC =>
 optO (wx[2]?) fun vP =>
 optO (wx[3]?) fun vM =>
 optO (wx[4]?) fun vp =>
 optO (wx[5]?) fun vz =>
 optO (wx[6]?) fun oV =>
 optO (wx[7]?) fun gc =>
 optO (C lb n Qc4 [.agg [yp,vC,vP,vM,vp,vz,oV,gc]]) fun oM =>
 optO (CV.asT oM) fun t72 =>
 optO (t72[0]?) fun qF =>
 optO (CV.asT oM) fun pC =>
 optO (pC[1]?) fun ql =>
 optO (CV.asI .i64 kw) fun i76 =>
 bif (i76 != 0) then
 (optO (C lb n QbM []) fun qn =>
 some (qn))
 else
 (optO (CV.asI .i64 ql) fun pH =>
 bif (pH == 0) then
 (optO (CV.asS qF) fun pF =>
 bif (pF == j4) then
 (optO (C lb n Qdh [.agg [yp,vC,vP,vM,vp,vz,oV,gc]]) fun qi =>
 optO (CV.asI .i64 qi) fun qI =>
 bif (qI == 0) then
 (optO (C lb n QbM []) fun qK =>
 some (qK))
 else
 (some (.bool false)))
 else
 (some (.bool false)))
 else
 (some (.bool false)))) := (Qaf _).trans (by kernel_rfl)
noncomputable def QfI (lb n : Nat) (jf : Int) (jg : Bool) (jh : LL) (ji jj jb jc ja : Int) (jd : Bool) (je : LL) (j4 : LB) (jy jH jF : CV) : Option CV :=
 hold (E0 lb n 0 995 (sub (B QbV) [1,1,1,1,1]) (retK Tryz.prog (R QbV) 0 (outK (Qak Tryz.prog QbV))) ⟨fr 81 [(0, .val (.agg [.int .i64 jf, .list jg jh, .int .i64 ji, .int .i64 jj, .int .i64 jb, .int .i64 jc, .int .i64 ja, .list jd je])),(1,vS j4),(2, .ptr 0 2 0),(4,vB false),(5,vV jy),(6,vV jH),(21,vV jF),(22, .val (.agg [.int .i64 jf, .list jg jh, .int .i64 ji, .int .i64 jj, .int .i64 jb, .int .i64 jc, .int .i64 ja, .list jd je])),(23,vV jF),(24,vV jy),(25,vV jH)],[bx 81 [(2,some [vI jf, .val (.list jg jh),vI ji,vI jj,vI jb,vI jc,vI ja, .val (.list jd je)])]],KK⟩)
theorem QkN (lb n : Nat) (jf : Int) (jg : Bool) (jh : LL) (ji jj jb jc ja : Int) (jd : Bool) (je : LL) (j4 : LB) (jy jH jF : CV) :
 QfI lb n jf jg jh ji jj jb jc ja jd je j4 jy jH jF =
 optO (C lb n QdH [.str j4]) fun oK =>
 optO (CV.asT oK) fun qv =>
 optO (qv[0]?) fun qu =>
 optO (CV.asT oK) fun qt =>
 optO (qt[1]?) fun qz =>
 optO (CV.asA qu) fun wK =>
 chkO (wK.length == 8) (
 optO (wK[0]?) fun vk =>
 optO (wK[1]?) fun vN =>
 optO (wK[2]?) fun vq =>
 optO (wK[3]?) fun vi =>
 optO (wK[4]?) fun vt =>
 optO (wK[5]?) fun vK =>
 optO (wK[6]?) fun vr =>
 optO (wK[7]?) fun o0 =>
 optO (C lb n Qc4 [.agg [vk,vN,vq,vi,vt,vK,vr,o0]]) fun oT =>
 optO (CV.asT oT) fun qy =>
 optO (qy[0]?) fun qj =>
 optO (CV.asT oT) fun mU =>
 optO (mU[1]?) fun mw =>
 optO (CV.asI .i64 qz) fun nu =>
 bif (nu != 0) then
 (optO (C lb n QbM []) fun nR =>
 some (nR))
 else
 (optO (CV.asI .i64 mw) fun mM =>
 bif (mM == 0) then
 (optO (CV.asS qj) fun m9 =>
 bif (m9 == j4) then
 (optO (C lb n Qdh [.agg [vk,vN,vq,vi,vt,vK,vr,o0]]) fun gY =>
 optO (CV.asI .i64 gY) fun m5 =>
 bif (m5 == 0) then
 (optO (C lb n QbM []) fun gG =>
 some (gG))
 else
 (some (.bool false)))
 else
 (some (.bool false)))
 else
 (some (.bool false)))) := (Qaf _).trans (by kernel_rfl)
theorem Qnk (lb n : Nat) (jf : Int) (jg : Bool) (jh : LL) (ji jj jb jc ja : Int) (jd : Bool) (je : LL) (j4 : LB) :
 top lb n QbV [.agg [.int .i64 jf, .list jg jh, .int .i64 ji, .int .i64 jj, .int .i64 jb, .int .i64 jc, .int .i64 ja, .list jd je], .str j4] =
 optO (C lb n QaO [.agg [.int .i64 jf, .list jg jh, .int .i64 ji, .int .i64 jj, .int .i64 jb, .int .i64 jc, .int .i64 ja, .list jd je]]) fun kx =>
 optO (CV.asB kx) fun ky =>
 bif ky then
 (optO (C lb n QbM []) fun we =>
 some (we))
 else
 (bif (decide ((j4.length : Int) > 4000)) then
 (optO (C lb n QbM []) fun yb =>
 some (yb))
 else
 (optO (C lb n Qc4 [.agg [.int .i64 jf, .list jg jh, .int .i64 ji, .int .i64 jj, .int .i64 jb, .int .i64 jc, .int .i64 ja, .list jd je]]) fun jF =>
 optO (CV.asT jF) fun wD =>
 optO (wD[0]?) fun jy =>
 optO (CV.asT jF) fun t21 =>
 optO (t21[1]?) fun jH =>
 optO (CV.asI .i64 jH) fun kb =>
 optO (C lb n Qdh [.agg [.int .i64 jf, .list jg jh, .int .i64 ji, .int .i64 jj, .int .i64 jb, .int .i64 jc, .int .i64 ja, .list jd je]]) fun yf =>
 optO (CV.asI .i64 yf) fun jJ =>
 bif (!((kb == 0) == (jJ == 0))) then
 (optO (CV.asI .i64 jH) fun jT =>
 bif (jT == 4) then
 (optO (C lb n QbM []) fun vO =>
 some (vO))
 else
 (some (.bool false)))
 else
 (optO (CV.asI .i64 jH) fun pW =>
 bif (pW == 0) then
 (optO (C lb n QdH [jy]) fun oL =>
 optO (CV.asT oL) fun oH =>
 optO (oH[0]?) fun kg =>
 optO (CV.asT oL) fun qC =>
 optO (qC[1]?) fun oW =>
 optO (CV.asA kg) fun wR =>
 chkO (wR.length == 8) (
 optO (wR[0]?) fun oN =>
 optO (wR[1]?) fun oX =>
 optO (wR[2]?) fun oP =>
 optO (wR[3]?) fun oQ =>
 optO (wR[4]?) fun w4 =>
 optO (wR[5]?) fun ww =>
 optO (wR[6]?) fun wv =>
 optO (wR[7]?) fun wu =>
 optO (CV.asI .i64 oW) fun pP =>
 bif (pP != 0) then
 (some (.bool false))
 else
 (optO (C lb n QbL [.agg [oN,oX,oP,oQ,w4,ww,wv,wu], .agg [.int .i64 jf, .list jg jh, .int .i64 ji, .int .i64 jj, .int .i64 jb, .int .i64 jc, .int .i64 ja, .list jd je]]) fun qc =>
 optO (CV.asB qc) fun qr =>
 bif (!qr) then
 (some (.bool false))
 else
 (Qfy lb n jf jg jh ji jj jb jc ja jd je j4 jy jH jF oW oN oX oP oQ w4 ww wv wu))))
 else
 (QfI lb n jf jg jh ji jj jb jc ja jd je j4 jy jH jF )))) := by kernel_rfl
end Go.Proofs
