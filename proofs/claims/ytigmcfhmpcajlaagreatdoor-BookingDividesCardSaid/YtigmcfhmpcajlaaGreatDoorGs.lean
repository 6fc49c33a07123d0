/- Equations of functions, printed by program. Conditions: none. -/
import Derived.Test.YtigmcfhmpcajlaaGreatDoorEv
namespace Go.Proofs
open Go.Am
set_option maxRecDepth 100000
set_option linter.unusedVariables false
noncomputable def r35_Same_L1 :=
 fun lb n (oN : Nat) jj (jb : Bool) (jd : LL) jg (ja : Bool) (jf : LL) (je : Bool) (jh : LL) jc jX (jL : Bool) (jV : LL) jY (jN : Bool) (jU : LL) (jM : Bool) (jT : LL) jZ oj =>
 hold (Qav (E0 lb n 0 994) 0 (Qag (sub (B QaC) [1,1,0,1,0,0]) ++ []) [] (sub (B QaC) [1,1,0,1,0,0]) (Qak 0 (seqK (E0 lb n 0 997) (sub (B QaC) [1,1,0]) (sub (B QaC) [1,1,1]) (retK Tryz.prog (R QaC) 0 (outK (Qad Tryz.prog QaC))))) oN ⟨fr 108 [(0, .val (.agg [.str jj, .list jb jd, .int .i64 jg, .list ja jf, .list je jh, .int .i64 jc])),(1, .val (.agg [.str jX, .list jL jV, .int .i64 jY, .list jN jU, .list jM jT, .int .i64 jZ])),(2, .ptr 0 2 0),(3, .ptr 0 3 0),(4,vB false),(5,vI oj)],[bx 108 [(2,some [vS jj, .val (.list jb jd),vI jg, .val (.list ja jf), .val (.list je jh),vI jc]),(3,some [vS jX, .val (.list jL jV),vI jY, .val (.list jN jU), .val (.list jM jT),vI jZ])]],KK⟩)
noncomputable def Qnp (lb n : Nat) (jj : LB) (jb : Bool) (jd : LL) (jg : Int) (ja : Bool) (jf : LL) (je : Bool) (jh : LL) (jc : Int) (jX : LB) (jL : Bool) (jV : LL) (jY : Int) (jN : Bool) (jU : LL) (jM : Bool) (jT : LL) (jZ wg : Int) : Option CV :=
 hold (E0 lb n 0 997 (sub (B QaC) [1,1,1]) (retK Tryz.prog (R QaC) 0 (outK (Qad Tryz.prog QaC))) ⟨fr 108 [(0, .val (.agg [.str jj, .list jb jd, .int .i64 jg, .list ja jf, .list je jh, .int .i64 jc])),(1, .val (.agg [.str jX, .list jL jV, .int .i64 jY, .list jN jU, .list jM jT, .int .i64 jZ])),(2, .ptr 0 2 0),(3, .ptr 0 3 0),(4,vB false),(5,vI wg)],[bx 108 [(2,some [vS jj, .val (.list jb jd),vI jg, .val (.list ja jf), .val (.list je jh),vI jc]),(3,some [vS jX, .val (.list jL jV),vI jY, .val (.list jN jU), .val (.list jM jT),vI jZ])]],KK⟩)
noncomputable def Qhc (lb n mr : Nat) (jj : LB) (jb : Bool) (jd : LL) (jg : Int) (ja : Bool) (jf : LL) (je : Bool) (jh : LL) (jc : Int) (jX : LB) (jL : Bool) (jV : LL) (jY : Int) (jN : Bool) (jU : LL) (jM : Bool) (jT : LL) (jZ wg kU : Int) : Option CV :=
 hold (Qav (E0 lb n 0 993) 0 (Qag (sub (B QaC) [1,1,1,0,1,0,0]) ++ []) [] (sub (B QaC) [1,1,1,0,1,0,0]) (Qak 2 (seqK (E0 lb n 0 996) (sub (B QaC) [1,1,1,0]) (sub (B QaC) [1,1,1,1]) (retK Tryz.prog (R QaC) 0 (outK (Qad Tryz.prog QaC))))) mr ⟨fr 108 [(0, .val (.agg [.str jj, .list jb jd, .int .i64 jg, .list ja jf, .list je jh, .int .i64 jc])),(1, .val (.agg [.str jX, .list jL jV, .int .i64 jY, .list jN jU, .list jM jT, .int .i64 jZ])),(2, .ptr 0 2 0),(3, .ptr 0 3 0),(4,vB false),(5,vI wg),(6,vI kU)],[bx 108 [(2,some [vS jj, .val (.list jb jd),vI jg, .val (.list ja jf), .val (.list je jh),vI jc]),(3,some [vS jX, .val (.list jL jV),vI jY, .val (.list jN jU), .val (.list jM jT),vI jZ])]],KK⟩)
noncomputable def QnQ (lb n : Nat) (jj : LB) (jb : Bool) (jd : LL) (jg : Int) (ja : Bool) (jf : LL) (je : Bool) (jh : LL) (jc : Int) (jX : LB) (jL : Bool) (jV : LL) (jY : Int) (jN : Bool) (jU : LL) (jM : Bool) (jT : LL) (jZ wg vi : Int) : Option CV :=
 hold (E0 lb n 0 996 (sub (B QaC) [1,1,1,1]) (retK Tryz.prog (R QaC) 0 (outK (Qad Tryz.prog QaC))) ⟨fr 108 [(0, .val (.agg [.str jj, .list jb jd, .int .i64 jg, .list ja jf, .list je jh, .int .i64 jc])),(1, .val (.agg [.str jX, .list jL jV, .int .i64 jY, .list jN jU, .list jM jT, .int .i64 jZ])),(2, .ptr 0 2 0),(3, .ptr 0 3 0),(4,vB false),(5,vI wg),(6,vI vi)],[bx 108 [(2,some [vS jj, .val (.list jb jd),vI jg, .val (.list ja jf), .val (.list je jh),vI jc]),(3,some [vS jX, .val (.list jL jV),vI jY, .val (.list jN jU), .val (.list jM jT),vI jZ])]],KK⟩)
noncomputable def Qhf (lb n mO : Nat) (jj : LB) (jb : Bool) (jd : LL) (jg : Int) (ja : Bool) (jf : LL) (je : Bool) (jh : LL) (jc : Int) (jX : LB) (jL : Bool) (jV : LL) (jY : Int) (jN : Bool) (jU : LL) (jM : Bool) (jT : LL) (jZ wg vi vT : Int) : Option CV :=
 hold (Qav (E0 lb n 0 992) 0 (Qag (sub (B QaC) [1,1,1,1,0,1,0,0]) ++ []) [] (sub (B QaC) [1,1,1,1,0,1,0,0]) (Qak 4 (seqK (E0 lb n 0 995) (sub (B QaC) [1,1,1,1,0]) (sub (B QaC) [1,1,1,1,1]) (retK Tryz.prog (R QaC) 0 (outK (Qad Tryz.prog QaC))))) mO ⟨fr 108 [(0, .val (.agg [.str jj, .list jb jd, .int .i64 jg, .list ja jf, .list je jh, .int .i64 jc])),(1, .val (.agg [.str jX, .list jL jV, .int .i64 jY, .list jN jU, .list jM jT, .int .i64 jZ])),(2, .ptr 0 2 0),(3, .ptr 0 3 0),(4,vB false),(5,vI wg),(6,vI vi),(7,vI vT)],[bx 108 [(2,some [vS jj, .val (.list jb jd),vI jg, .val (.list ja jf), .val (.list je jh),vI jc]),(3,some [vS jX, .val (.list jL jV),vI jY, .val (.list jN jU), .val (.list jM jT),vI jZ])]],KK⟩)
noncomputable def Qnw (lb n : Nat) (jj : LB) (jb : Bool) (jd : LL) (jg : Int) (ja : Bool) (jf : LL) (je : Bool) (jh : LL) (jc : Int) (jX : LB) (jL : Bool) (jV : LL) (jY : Int) (jN : Bool) (jU : LL) (jM : Bool) (jT : LL) (jZ wg vi nR : Int) : Option CV :=
 hold (E0 lb n 0 995 (sub (B QaC) [1,1,1,1,1]) (retK Tryz.prog (R QaC) 0 (outK (Qad Tryz.prog QaC))) ⟨fr 108 [(0, .val (.agg [.str jj, .list jb jd, .int .i64 jg, .list ja jf, .list je jh, .int .i64 jc])),(1, .val (.agg [.str jX, .list jL jV, .int .i64 jY, .list jN jU, .list jM jT, .int .i64 jZ])),(2, .ptr 0 2 0),(3, .ptr 0 3 0),(4,vB false),(5,vI wg),(6,vI vi),(7,vI nR)],[bx 108 [(2,some [vS jj, .val (.list jb jd),vI jg, .val (.list ja jf), .val (.list je jh),vI jc]),(3,some [vS jX, .val (.list jL jV),vI jY, .val (.list jN jU), .val (.list jM jT),vI jZ])]],KK⟩)
theorem QpS (lb n : Nat) (jj : LB) (jb : Bool) (jd : LL) (jg : Int) (ja : Bool) (jf : LL) (je : Bool) (jh : LL) (jc : Int) (jX : LB) (jL : Bool) (jV : LL) (jY : Int) (jN : Bool) (jU : LL) (jM : Bool) (jT : LL) (jZ wg vi nR : Int) :
 Qnw lb n jj jb jd jg ja jf je jh jc jX jL jV jY jN jU jM jT jZ wg vi nR =
 some (.bool true) := (Qac _).trans (by kernel_rfl)
theorem Qiy (lb n mO : Nat) (jj : LB) (jb : Bool) (jd : LL) (jg : Int) (ja : Bool) (jf : LL) (je : Bool) (jh : LL) (jc : Int) (jX : LB) (jL : Bool) (jV : LL) (jY : Int) (jN : Bool) (jU : LL) (jM : Bool) (jT : LL) (jZ wg vi vT : Int) :
 Qhf lb n (mO + 1) jj jb jd jg ja jf je jh jc jX jL jV jY jN jU jM jT jZ wg vi vT =
 bif (decide (vT < (jh.length : Int))) then
 (optO (atL jh vT) fun mS =>
 chkO (mS.length == 3) (
 optO (mS[0]?) fun tO =>
 optO (mS[1]?) fun td =>
 optO (mS[2]?) fun zC =>
 optO (atL jT vT) fun mW =>
 chkO (mW.length == 3) (
 optO (mW[0]?) fun zK =>
 optO (mW[1]?) fun rf =>
 optO (mW[2]?) fun lY =>
 optO (CV.asS tO) fun rF =>
 optO (CV.asS zK) fun lM =>
 optO (CV.asI .i64 td) fun lB =>
 optO (CV.asI .i64 rf) fun nZ =>
 optO (CV.asI .i64 zC) fun pk =>
 optO (CV.asI .i64 lY) fun lZ =>
 bif (!((rF == lM) && ((lB == nZ) && ((pk == lZ) && true)))) then
 (some (.bool false))
 else
 (Qhf lb n mO jj jb jd jg ja jf je jh jc jX jL jV jY jN jU jM jT jZ wg vi (IntKind.wrap .i64 (vT + 1))))))
 else
 (Qnw lb n jj jb jd jg ja jf je jh jc jX jL jV jY jN jU jM jT jZ wg vi vT) := (Qac _).trans (by kernel_rfl)
theorem Qp6 (lb n : Nat) (jj : LB) (jb : Bool) (jd : LL) (jg : Int) (ja : Bool) (jf : LL) (je : Bool) (jh : LL) (jc : Int) (jX : LB) (jL : Bool) (jV : LL) (jY : Int) (jN : Bool) (jU : LL) (jM : Bool) (jT : LL) (jZ wg vi : Int) :
 QnQ lb n jj jb jd jg ja jf je jh jc jX jL jV jY jN jU jM jT jZ wg vi =
 Qhf lb n n jj jb jd jg ja jf je jh jc jX jL jV jY jN jU jM jT jZ wg vi 0 := (Qac _).trans (by kernel_rfl)
theorem Qit (lb n mr : Nat) (jj : LB) (jb : Bool) (jd : LL) (jg : Int) (ja : Bool) (jf : LL) (je : Bool) (jh : LL) (jc : Int) (jX : LB) (jL : Bool) (jV : LL) (jY : Int) (jN : Bool) (jU : LL) (jM : Bool) (jT : LL) (jZ wg kU : Int) :
 Qhc lb n (mr + 1) jj jb jd jg ja jf je jh jc jX jL jV jY jN jU jM jT jZ wg kU =
 bif (decide (kU < (jf.length : Int))) then
 (optO (atL jf kU) fun kg =>
 chkO (kg.length == 10) (
 optO (kg[0]?) fun mX =>
 optO (kg[1]?) fun zZ =>
 optO (kg[2]?) fun pi =>
 optO (kg[3]?) fun pC =>
 optO (kg[4]?) fun pI =>
 optO (kg[5]?) fun nO =>
 optO (kg[6]?) fun pJ =>
 optO (kg[7]?) fun n5 =>
 optO (kg[8]?) fun lg =>
 optO (kg[9]?) fun lI =>
 optO (atL jU kU) fun kj =>
 chkO (kj.length == 10) (
 optO (kj[0]?) fun lO =>
 optO (kj[1]?) fun yi =>
 optO (kj[2]?) fun n6 =>
 optO (kj[3]?) fun yb =>
 optO (kj[4]?) fun lk =>
 optO (kj[5]?) fun yC =>
 optO (kj[6]?) fun yF =>
 optO (kj[7]?) fun yA =>
 optO (kj[8]?) fun yI =>
 optO (kj[9]?) fun yG =>
 optO (CV.asS mX) fun zl =>
 optO (CV.asS lO) fun tN =>
 optO (CV.asI .i64 zZ) fun ly =>
 optO (CV.asI .i64 yi) fun ta =>
 optO (CV.asI .i64 pi) fun rb =>
 optO (CV.asI .i64 n6) fun rx =>
 optO (CV.asS pC) fun lN =>
 optO (CV.asS yb) fun zu =>
 optO (CV.asS pI) fun zF =>
 optO (CV.asS lk) fun tv =>
 optO (CV.asI .i64 nO) fun zI =>
 optO (CV.asI .i64 yC) fun rt =>
 optO (CV.asI .i64 pJ) fun lA =>
 optO (CV.asI .i64 yF) fun lV =>
 optO (CV.asS n5) fun zX =>
 optO (CV.asS yA) fun rW =>
 optO (CV.asI .i64 lg) fun zL =>
 optO (CV.asI .i64 yI) fun oa =>
 optO (CV.asI .i64 lI) fun kJ =>
 optO (CV.asI .i64 yG) fun rd =>
 bif (!((zl == tN) && ((ly == ta) && ((rb == rx) && ((lN == zu) && ((zF == tv) && ((zI == rt) && ((lA == lV) && ((zX == rW) && ((zL == oa) && ((kJ == rd) && true))))))))))) then
 (some (.bool false))
 else
 (Qhc lb n mr jj jb jd jg ja jf je jh jc jX jL jV jY jN jU jM jT jZ wg (IntKind.wrap .i64 (kU + 1))))))
 else
 (QnQ lb n jj jb jd jg ja jf je jh jc jX jL jV jY jN jU jM jT jZ wg kU) := (Qac _).trans (by kernel_rfl)
theorem Qp2 (lb n : Nat) (jj : LB) (jb : Bool) (jd : LL) (jg : Int) (ja : Bool) (jf : LL) (je : Bool) (jh : LL) (jc : Int) (jX : LB) (jL : Bool) (jV : LL) (jY : Int) (jN : Bool) (jU : LL) (jM : Bool) (jT : LL) (jZ wg : Int) :
 Qnp lb n jj jb jd jg ja jf je jh jc jX jL jV jY jN jU jM jT jZ wg =
 Qhc lb n n jj jb jd jg ja jf je jh jc jX jL jV jY jN jU jM jT jZ wg 0 := (Qac _).trans (by kernel_rfl)
theorem Qiz (lb n oN : Nat) (jj : LB) (jb : Bool) (jd : LL) (jg : Int) (ja : Bool) (jf : LL) (je : Bool) (jh : LL) (jc : Int) (jX : LB) (jL : Bool) (jV : LL) (jY : Int) (jN : Bool) (jU : LL) (jM : Bool) (jT : LL) (jZ oj : Int) :
 r35_Same_L1 lb n (oN + 1) jj jb jd jg ja jf je jh jc jX jL jV jY jN jU jM jT jZ oj =
 bif (decide (oj < (jd.length : Int))) then
 (optO (atL jd oj) fun gM =>
 chkO (gM.length == 3) (
 optO (gM[0]?) fun gU =>
 optO (gM[1]?) fun j9 =>
 optO (gM[2]?) fun qY =>
 optO (atL jV oj) fun pS =>
 chkO (pS.length == 3) (
 optO (pS[0]?) fun sF =>
 optO (pS[1]?) fun wH =>
 optO (pS[2]?) fun wB =>
 optO (CV.asS gU) fun s60 =>
 optO (CV.asS sF) fun kN =>
 optO (CV.asS j9) fun uY =>
 optO (CV.asS wH) fun s63 =>
 optO (CV.asS qY) fun s65 =>
 optO (CV.asS wB) fun s66 =>
 bif (!((s60 == kN) && ((uY == s63) && ((s65 == s66) && true)))) then
 (some (.bool false))
 else
 (r35_Same_L1 lb n oN jj jb jd jg ja jf je jh jc jX jL jV jY jN jU jM jT jZ (IntKind.wrap .i64 (oj + 1))))))
 else
 (Qnp lb n jj jb jd jg ja jf je jh jc jX jL jV jY jN jU jM jT jZ oj) := (Qac _).trans (by kernel_rfl)
theorem Qto (lb n : Nat) (jj : LB) (jb : Bool) (jd : LL) (jg : Int) (ja : Bool) (jf : LL) (je : Bool) (jh : LL) (jc : Int) (jX : LB) (jL : Bool) (jV : LL) (jY : Int) (jN : Bool) (jU : LL) (jM : Bool) (jT : LL) (jZ : Int) :
 top lb n QaC [.agg [.str jj, .list jb jd, .int .i64 jg, .list ja jf, .list je jh, .int .i64 jc], .agg [.str jX, .list jL jV, .int .i64 jY, .list jN jU, .list jM jT, .int .i64 jZ]] =
 bif (!(jj == jX)) then
 (some (.bool false))
 else
 (bif (jg != jY) then
 (some (.bool false))
 else
 (bif (jc != jZ) then
 (some (.bool false))
 else
 (bif ((jd.length : Int) != (jV.length : Int)) then
 (some (.bool false))
 else
 (bif ((jf.length : Int) != (jU.length : Int)) then
 (some (.bool false))
 else
 (bif ((jh.length : Int) != (jT.length : Int)) then
 (some (.bool false))
 else
 (r35_Same_L1 lb n n jj jb jd jg ja jf je jh jc jX jL jV jY jN jU jM jT jZ 0)))))) := by kernel_rfl
theorem Qol (lb n : Nat) (jj : LB) (jb : Bool) (jd : LL) (jg : Int) (ja : Bool) (jf : LL) (je : Bool) (jh : LL) (jc : Int) :
 top lb n QbA [.agg [.str jj, .list jb jd, .int .i64 jg, .list ja jf, .list je jh, .int .i64 jc]] =
 optO (C lb n Qbm [.list jb jd, .int .i64 jg]) fun gh =>
 some (gh) := by kernel_rfl
noncomputable def QdP (lb n nh : Nat) (jk : Bool) (a2 : LL) (b3 gj v8 : Int) : Option CV :=
 hold (Qav (E0 lb n 0 994) 0 (Qag (sub (B Qbm) [1,1,0,1,0,0]) ++ []) [7] (sub (B Qbm) [1,1,0,1,0,0]) (Qak 0 (seqK (E0 lb n 0 997) (sub (B Qbm) [1,1,0]) (sub (B Qbm) [1,1,1]) (retK Tryz.prog (R Qbm) 0 (outK (Qad Tryz.prog Qbm))))) nh ⟨fr 24 [(0, .val (.list jk a2)),(1,vI b3),(4,vI 0),(5,vI gj),(8,vI b3),(9, .val (.int .i64 (if 0 > b3 then 0 else b3))),(10, .val (.int .i64 (if 99 < (if 0 > b3 then 0 else b3) then 99 else (if 0 > b3 then 0 else b3)))),(11, .val (.list jk a2)),(12, .val (.int .i64 (a2.length : Int))),(13,vI v8)],[bx 24 []],KK⟩)
noncomputable def Qkm (lb n : Nat) (jk : Bool) (a2 : LL) (b3 pO : Int) : Option CV :=
 hold (E0 lb n 0 997 (sub (B Qbm) [1,1,1]) (retK Tryz.prog (R Qbm) 0 (outK (Qad Tryz.prog Qbm))) ⟨fr 24 [(0, .val (.list jk a2)),(1,vI b3),(4,vI 0),(5,vI pO),(8,vI b3),(9, .val (.int .i64 (if 0 > b3 then 0 else b3))),(10, .val (.int .i64 (if 99 < (if 0 > b3 then 0 else b3) then 99 else (if 0 > b3 then 0 else b3))))],[bx 24 []],KK⟩)
theorem Qm5 (lb n : Nat) (jk : Bool) (a2 : LL) (b3 pO : Int) :
 Qkm lb n jk a2 b3 pO =
 some (.int .i64 pO) := (Qac _).trans (by kernel_rfl)
theorem QgB (lb n nh : Nat) (jk : Bool) (a2 : LL) (b3 gj v8 : Int) :
 QdP lb n (nh + 1) jk a2 b3 gj v8 =
 bif (decide (v8 < (a2.length : Int))) then
 (optO (atL a2 v8) fun mj =>
 chkO (mj.length == 3) (
 optO (mj[0]?) fun qL =>
 optO (mj[1]?) fun jO =>
 optO (mj[2]?) fun qD =>
 optO (C lb n Qa8 [.agg [qL,jO,qD]]) fun r27 =>
 optO (CV.asB r27) fun oq =>
 bif (!oq) then
 (QdP lb n nh jk a2 b3 (IntKind.wrap .i64 (gj + 1)) (IntKind.wrap .i64 (v8 + 1)))
 else
 (QdP lb n nh jk a2 b3 gj (IntKind.wrap .i64 (v8 + 1)))))
 else
 (Qkm lb n jk a2 b3 gj) := (Qac _).trans (by kernel_rfl)
theorem QpM (lb n : Nat) (jk : Bool) (a2 : LL) (b3 : Int) :
 top lb n Qbm [.list jk a2, .int .i64 b3] =
 QdP lb n n jk a2 b3 (if 99 < (if 0 > b3 then 0 else b3) then 99 else (if 0 > b3 then 0 else b3)) 0 := by kernel_rfl
noncomputable def Qf7 (lb n og : Nat) (jj : LB) (jb : Bool) (jd : LL) (jg : Int) (ja : Bool) (jf : LL) (je : Bool) (jh : LL) (jc i21 : Int) : Option CV :=
 hold (Qav (E0 lb n 0 994) 0 (Qag (sub (B QaD) [1,1,0,1,0,0]) ++ []) [] (sub (B QaD) [1,1,0,1,0,0]) (Qak 0 (seqK (E0 lb n 0 997) (sub (B QaD) [1,1,0]) (sub (B QaD) [1,1,1]) (retK Tryz.prog (R QaD) 0 (outK (Qad Tryz.prog QaD))))) og ⟨fr 120 [(0, .val (.agg [.str jj, .list jb jd, .int .i64 jg, .list ja jf, .list je jh, .int .i64 jc])),(1, .ptr 0 1 0),(2,vB false),(3,vI i21)],[bx 120 [(1,some [vS jj, .val (.list jb jd),vI jg, .val (.list ja jf), .val (.list je jh),vI jc])]],KK⟩)
noncomputable def Qmt (lb n : Nat) (jj : LB) (jb : Bool) (jd : LL) (jg : Int) (ja : Bool) (jf : LL) (je : Bool) (jh : LL) (jc vb : Int) : Option CV :=
 hold (E0 lb n 0 997 (sub (B QaD) [1,1,1]) (retK Tryz.prog (R QaD) 0 (outK (Qad Tryz.prog QaD))) ⟨fr 120 [(0, .val (.agg [.str jj, .list jb jd, .int .i64 jg, .list ja jf, .list je jh, .int .i64 jc])),(1, .ptr 0 1 0),(2,vB false),(3,vI vb)],[bx 120 [(1,some [vS jj, .val (.list jb jd),vI jg, .val (.list ja jf), .val (.list je jh),vI jc])]],KK⟩)
noncomputable def Qgd (lb n pT : Nat) (jj : LB) (jb : Bool) (jd : LL) (jg : Int) (ja : Bool) (jf : LL) (je : Bool) (jh : LL) (jc vb o8 : Int) : Option CV :=
 hold (Qav (E0 lb n 0 993) 0 (Qag (sub (B QaD) [1,1,1,0,1,0,0]) ++ []) [5] (sub (B QaD) [1,1,1,0,1,0,0]) (Qak 2 (seqK (E0 lb n 0 996) (sub (B QaD) [1,1,1,0]) (sub (B QaD) [1,1,1,1]) (retK Tryz.prog (R QaD) 0 (outK (Qad Tryz.prog QaD))))) pT ⟨fr 120 [(0, .val (.agg [.str jj, .list jb jd, .int .i64 jg, .list ja jf, .list je jh, .int .i64 jc])),(1, .ptr 0 1 0),(2,vB false),(3,vI vb),(4,vI o8)],[bx 120 [(1,some [vS jj, .val (.list jb jd),vI jg, .val (.list ja jf), .val (.list je jh),vI jc])]],KK⟩)
noncomputable def QlX (lb n : Nat) (jj : LB) (jb : Bool) (jd : LL) (jg : Int) (ja : Bool) (jf : LL) (je : Bool) (jh : LL) (jc vb kl : Int) : Option CV :=
 hold (E0 lb n 0 996 (sub (B QaD) [1,1,1,1]) (retK Tryz.prog (R QaD) 0 (outK (Qad Tryz.prog QaD))) ⟨fr 120 [(0, .val (.agg [.str jj, .list jb jd, .int .i64 jg, .list ja jf, .list je jh, .int .i64 jc])),(1, .ptr 0 1 0),(2,vB false),(3,vI vb),(4,vI kl)],[bx 120 [(1,some [vS jj, .val (.list jb jd),vI jg, .val (.list ja jf), .val (.list je jh),vI jc])]],KK⟩)
noncomputable def Qf5 (lb n kR : Nat) (jj : LB) (jb : Bool) (jd : LL) (jg : Int) (ja : Bool) (jf : LL) (je : Bool) (jh : LL) (jc vb kl gB : Int) : Option CV :=
 hold (Qav (E0 lb n 0 992) 0 (Qag (sub (B QaD) [1,1,1,1,0,1,0,0]) ++ []) [] (sub (B QaD) [1,1,1,1,0,1,0,0]) (Qak 4 (seqK (E0 lb n 0 995) (sub (B QaD) [1,1,1,1,0]) (sub (B QaD) [1,1,1,1,1]) (retK Tryz.prog (R QaD) 0 (outK (Qad Tryz.prog QaD))))) kR ⟨fr 120 [(0, .val (.agg [.str jj, .list jb jd, .int .i64 jg, .list ja jf, .list je jh, .int .i64 jc])),(1, .ptr 0 1 0),(2,vB false),(3,vI vb),(4,vI kl),(6,vI gB)],[bx 120 [(1,some [vS jj, .val (.list jb jd),vI jg, .val (.list ja jf), .val (.list je jh),vI jc])]],KK⟩)
noncomputable def Qmq (lb n : Nat) (jj : LB) (jb : Bool) (jd : LL) (jg : Int) (ja : Bool) (jf : LL) (je : Bool) (jh : LL) (jc vb kl nX : Int) : Option CV :=
 hold (E0 lb n 0 995 (sub (B QaD) [1,1,1,1,1]) (retK Tryz.prog (R QaD) 0 (outK (Qad Tryz.prog QaD))) ⟨fr 120 [(0, .val (.agg [.str jj, .list jb jd, .int .i64 jg, .list ja jf, .list je jh, .int .i64 jc])),(1, .ptr 0 1 0),(2,vB false),(3,vI vb),(4,vI kl),(6,vI nX)],[bx 120 [(1,some [vS jj, .val (.list jb jd),vI jg, .val (.list ja jf), .val (.list je jh),vI jc])]],KK⟩)
theorem Qph (lb n : Nat) (jj : LB) (jb : Bool) (jd : LL) (jg : Int) (ja : Bool) (jf : LL) (je : Bool) (jh : LL) (jc vb kl nX : Int) :
 Qmq lb n jj jb jd jg ja jf je jh jc vb kl nX =
 some (.bool true) := (Qac _).trans (by kernel_rfl)
theorem QhV (lb n kR : Nat) (jj : LB) (jb : Bool) (jd : LL) (jg : Int) (ja : Bool) (jf : LL) (je : Bool) (jh : LL) (jc vb kl gB : Int) :
 Qf5 lb n (kR + 1) jj jb jd jg ja jf je jh jc vb kl gB =
 bif (decide (gB < (jh.length : Int))) then
 (optO (atL jh gB) fun mc =>
 chkO (mc.length == 3) (
 optO (mc[0]?) fun wl =>
 optO (CV.asS wl) fun ua =>
 bif (decide ((ua.length : Int) > 100)) then
 (some (.bool false))
 else
 (Qf5 lb n kR jj jb jd jg ja jf je jh jc vb kl (IntKind.wrap .i64 (gB + 1)))))
 else
 (Qmq lb n jj jb jd jg ja jf je jh jc vb kl gB) := (Qac _).trans (by kernel_rfl)
theorem QoV (lb n : Nat) (jj : LB) (jb : Bool) (jd : LL) (jg : Int) (ja : Bool) (jf : LL) (je : Bool) (jh : LL) (jc vb kl : Int) :
 QlX lb n jj jb jd jg ja jf je jh jc vb kl =
 Qf5 lb n n jj jb jd jg ja jf je jh jc vb kl 0 := (Qac _).trans (by kernel_rfl)
theorem Qh2 (lb n pT : Nat) (jj : LB) (jb : Bool) (jd : LL) (jg : Int) (ja : Bool) (jf : LL) (je : Bool) (jh : LL) (jc vb o8 : Int) :
 Qgd lb n (pT + 1) jj jb jd jg ja jf je jh jc vb o8 =
 bif (decide (o8 < (jf.length : Int))) then
 (optO (atL jf o8) fun gd =>
 chkO (gd.length == 10) (
 optO (gd[0]?) fun sX =>
 optO (gd[1]?) fun s5 =>
 optO (gd[2]?) fun s6 =>
 optO (gd[3]?) fun qG =>
 optO (gd[4]?) fun su =>
 optO (gd[5]?) fun x80 =>
 optO (gd[6]?) fun s7 =>
 optO (CV.asS sX) fun uS =>
 bif (decide ((uS.length : Int) > 100)) then
 (some (.bool false))
 else
 (optO (CV.asS qG) fun s83 =>
 bif (decide ((s83.length : Int) > 100)) then
 (some (.bool false))
 else
 (optO (CV.asS su) fun u3 =>
 bif (decide ((u3.length : Int) > 100)) then
 (some (.bool false))
 else
 (optO (atL jf o8) fun c85 =>
 chkO (c85.length == 10) (
 optO (c85[7]?) fun y6 =>
 optO (CV.asS y6) fun s87 =>
 bif (decide ((s87.length : Int) > 100)) then
 (some (.bool false))
 else
 (Qgd lb n pT jj jb jd jg ja jf je jh jc vb (IntKind.wrap .i64 (o8 + 1)))))))))
 else
 (QlX lb n jj jb jd jg ja jf je jh jc vb o8) := (Qac _).trans (by kernel_rfl)
theorem Qoz (lb n : Nat) (jj : LB) (jb : Bool) (jd : LL) (jg : Int) (ja : Bool) (jf : LL) (je : Bool) (jh : LL) (jc vb : Int) :
 Qmt lb n jj jb jd jg ja jf je jh jc vb =
 Qgd lb n n jj jb jd jg ja jf je jh jc vb 0 := (Qac _).trans (by kernel_rfl)
theorem Qh3 (lb n og : Nat) (jj : LB) (jb : Bool) (jd : LL) (jg : Int) (ja : Bool) (jf : LL) (je : Bool) (jh : LL) (jc i21 : Int) :
 Qf7 lb n (og + 1) jj jb jd jg ja jf je jh jc i21 =
 bif (decide (i21 < (jd.length : Int))) then
 (optO (atL jd i21) fun nr =>
 chkO (nr.length == 3) (
 optO (nr[0]?) fun kQ =>
 optO (CV.asS kQ) fun uL =>
 bif (decide ((uL.length : Int) > 100)) then
 (some (.bool false))
 else
 (optO (atL jd i21) fun zd =>
 chkO (zd.length == 3) (
 optO (zd[1]?) fun oQ =>
 optO (CV.asS oQ) fun uV =>
 bif (decide ((uV.length : Int) > 100)) then
 (some (.bool false))
 else
 (optO (atL jd i21) fun gm =>
 chkO (gm.length == 3) (
 optO (gm[2]?) fun gi =>
 optO (CV.asS gi) fun ul =>
 bif (decide ((ul.length : Int) > 100)) then
 (some (.bool false))
 else
 (Qf7 lb n og jj jb jd jg ja jf je jh jc (IntKind.wrap .i64 (i21 + 1)))))))))
 else
 (Qmt lb n jj jb jd jg ja jf je jh jc i21) := (Qac _).trans (by kernel_rfl)
theorem QsN (lb n : Nat) (jj : LB) (jb : Bool) (jd : LL) (jg : Int) (ja : Bool) (jf : LL) (je : Bool) (jh : LL) (jc : Int) :
 top lb n QaD [.agg [.str jj, .list jb jd, .int .i64 jg, .list ja jf, .list je jh, .int .i64 jc]] =
 bif (decide ((jd.length : Int) > 60)) then
 (some (.bool false))
 else
 (bif (decide ((jf.length : Int) > 60)) then
 (some (.bool false))
 else
 (bif (decide ((jh.length : Int) > 60)) then
 (some (.bool false))
 else
 (bif (decide ((jj.length : Int) > 100)) then
 (some (.bool false))
 else
 (Qf7 lb n n jj jb jd jg ja jf je jh jc 0)))) := by kernel_rfl
end Go.Proofs
