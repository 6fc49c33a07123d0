/- Equations of functions, printed by program. Conditions: none. -/
import Derived.Test.YtigmcfhmpcajlaaGreatDoorEv
namespace Go.Proofs
open Go.Am
set_option maxRecDepth 100000
set_option linter.unusedVariables false
noncomputable def r35_Same_L1 :=
 fun lb n (ny : Nat) jj (ja : Bool) (jf : LL) jg (jb : Bool) (je : LL) (jd : Bool) (jh : LL) jc jS (jF : Bool) (jM : LL) jP (jG : Bool) (jL : LL) (jE : Bool) (jK : LL) jR ow =>
 hold (Qaw (E0 lb n 0 994) 0 (Qah (sub (B QaI) [1,1,0,1,0,0]) ++ []) [] (sub (B QaI) [1,1,0,1,0,0]) (Qap 0 (seqK (E0 lb n 0 997) (sub (B QaI) [1,1,0]) (sub (B QaI) [1,1,1]) (retK Tryz.prog (R QaI) 0 (outK (Qad Tryz.prog QaI))))) ny ⟨fr 108 [(0, .val (.agg [.str jj, .list ja jf, .int .i64 jg, .list jb je, .list jd jh, .int .i64 jc])),(1, .val (.agg [.str jS, .list jF jM, .int .i64 jP, .list jG jL, .list jE jK, .int .i64 jR])),(2, .ptr 0 2 0),(3, .ptr 0 3 0),(4,vB false),(5,vI ow)],[bx 108 [(2,some [vS jj, .val (.list ja jf),vI jg, .val (.list jb je), .val (.list jd jh),vI jc]),(3,some [vS jS, .val (.list jF jM),vI jP, .val (.list jG jL), .val (.list jE jK),vI jR])]],KK⟩)
noncomputable def Qos (lb n : Nat) (jj : LB) (ja : Bool) (jf : LL) (jg : Int) (jb : Bool) (je : LL) (jd : Bool) (jh : LL) (jc : Int) (jS : LB) (jF : Bool) (jM : LL) (jP : Int) (jG : Bool) (jL : LL) (jE : Bool) (jK : LL) (jR w9 : Int) : Option CV :=
 hold (E0 lb n 0 997 (sub (B QaI) [1,1,1]) (retK Tryz.prog (R QaI) 0 (outK (Qad Tryz.prog QaI))) ⟨fr 108 [(0, .val (.agg [.str jj, .list ja jf, .int .i64 jg, .list jb je, .list jd jh, .int .i64 jc])),(1, .val (.agg [.str jS, .list jF jM, .int .i64 jP, .list jG jL, .list jE jK, .int .i64 jR])),(2, .ptr 0 2 0),(3, .ptr 0 3 0),(4,vB false),(5,vI w9)],[bx 108 [(2,some [vS jj, .val (.list ja jf),vI jg, .val (.list jb je), .val (.list jd jh),vI jc]),(3,some [vS jS, .val (.list jF jM),vI jP, .val (.list jG jL), .val (.list jE jK),vI jR])]],KK⟩)
noncomputable def Qid (lb n gB : Nat) (jj : LB) (ja : Bool) (jf : LL) (jg : Int) (jb : Bool) (je : LL) (jd : Bool) (jh : LL) (jc : Int) (jS : LB) (jF : Bool) (jM : LL) (jP : Int) (jG : Bool) (jL : LL) (jE : Bool) (jK : LL) (jR w9 ka : Int) : Option CV :=
 hold (Qaw (E0 lb n 0 993) 0 (Qah (sub (B QaI) [1,1,1,0,1,0,0]) ++ []) [] (sub (B QaI) [1,1,1,0,1,0,0]) (Qap 2 (seqK (E0 lb n 0 996) (sub (B QaI) [1,1,1,0]) (sub (B QaI) [1,1,1,1]) (retK Tryz.prog (R QaI) 0 (outK (Qad Tryz.prog QaI))))) gB ⟨fr 108 [(0, .val (.agg [.str jj, .list ja jf, .int .i64 jg, .list jb je, .list jd jh, .int .i64 jc])),(1, .val (.agg [.str jS, .list jF jM, .int .i64 jP, .list jG jL, .list jE jK, .int .i64 jR])),(2, .ptr 0 2 0),(3, .ptr 0 3 0),(4,vB false),(5,vI w9),(6,vI ka)],[bx 108 [(2,some [vS jj, .val (.list ja jf),vI jg, .val (.list jb je), .val (.list jd jh),vI jc]),(3,some [vS jS, .val (.list jF jM),vI jP, .val (.list jG jL), .val (.list jE jK),vI jR])]],KK⟩)
noncomputable def QoE (lb n : Nat) (jj : LB) (ja : Bool) (jf : LL) (jg : Int) (jb : Bool) (je : LL) (jd : Bool) (jh : LL) (jc : Int) (jS : LB) (jF : Bool) (jM : LL) (jP : Int) (jG : Bool) (jL : LL) (jE : Bool) (jK : LL) (jR w9 yD : Int) : Option CV :=
 hold (E0 lb n 0 996 (sub (B QaI) [1,1,1,1]) (retK Tryz.prog (R QaI) 0 (outK (Qad Tryz.prog QaI))) ⟨fr 108 [(0, .val (.agg [.str jj, .list ja jf, .int .i64 jg, .list jb je, .list jd jh, .int .i64 jc])),(1, .val (.agg [.str jS, .list jF jM, .int .i64 jP, .list jG jL, .list jE jK, .int .i64 jR])),(2, .ptr 0 2 0),(3, .ptr 0 3 0),(4,vB false),(5,vI w9),(6,vI yD)],[bx 108 [(2,some [vS jj, .val (.list ja jf),vI jg, .val (.list jb je), .val (.list jd jh),vI jc]),(3,some [vS jS, .val (.list jF jM),vI jP, .val (.list jG jL), .val (.list jE jK),vI jR])]],KK⟩)
noncomputable def Qh8 (lb n g8 : Nat) (jj : LB) (ja : Bool) (jf : LL) (jg : Int) (jb : Bool) (je : LL) (jd : Bool) (jh : LL) (jc : Int) (jS : LB) (jF : Bool) (jM : LL) (jP : Int) (jG : Bool) (jL : LL) (jE : Bool) (jK : LL) (jR w9 yD ko : Int) : Option CV :=
 hold (Qaw (E0 lb n 0 992) 0 (Qah (sub (B QaI) [1,1,1,1,0,1,0,0]) ++ []) [] (sub (B QaI) [1,1,1,1,0,1,0,0]) (Qap 4 (seqK (E0 lb n 0 995) (sub (B QaI) [1,1,1,1,0]) (sub (B QaI) [1,1,1,1,1]) (retK Tryz.prog (R QaI) 0 (outK (Qad Tryz.prog QaI))))) g8 ⟨fr 108 [(0, .val (.agg [.str jj, .list ja jf, .int .i64 jg, .list jb je, .list jd jh, .int .i64 jc])),(1, .val (.agg [.str jS, .list jF jM, .int .i64 jP, .list jG jL, .list jE jK, .int .i64 jR])),(2, .ptr 0 2 0),(3, .ptr 0 3 0),(4,vB false),(5,vI w9),(6,vI yD),(7,vI ko)],[bx 108 [(2,some [vS jj, .val (.list ja jf),vI jg, .val (.list jb je), .val (.list jd jh),vI jc]),(3,some [vS jS, .val (.list jF jM),vI jP, .val (.list jG jL), .val (.list jE jK),vI jR])]],KK⟩)
noncomputable def Qoo (lb n : Nat) (jj : LB) (ja : Bool) (jf : LL) (jg : Int) (jb : Bool) (je : LL) (jd : Bool) (jh : LL) (jc : Int) (jS : LB) (jF : Bool) (jM : LL) (jP : Int) (jG : Bool) (jL : LL) (jE : Bool) (jK : LL) (jR w9 yD mU : Int) : Option CV :=
 hold (E0 lb n 0 995 (sub (B QaI) [1,1,1,1,1]) (retK Tryz.prog (R QaI) 0 (outK (Qad Tryz.prog QaI))) ⟨fr 108 [(0, .val (.agg [.str jj, .list ja jf, .int .i64 jg, .list jb je, .list jd jh, .int .i64 jc])),(1, .val (.agg [.str jS, .list jF jM, .int .i64 jP, .list jG jL, .list jE jK, .int .i64 jR])),(2, .ptr 0 2 0),(3, .ptr 0 3 0),(4,vB false),(5,vI w9),(6,vI yD),(7,vI mU)],[bx 108 [(2,some [vS jj, .val (.list ja jf),vI jg, .val (.list jb je), .val (.list jd jh),vI jc]),(3,some [vS jS, .val (.list jF jM),vI jP, .val (.list jG jL), .val (.list jE jK),vI jR])]],KK⟩)
theorem Qro (lb n : Nat) (jj : LB) (ja : Bool) (jf : LL) (jg : Int) (jb : Bool) (je : LL) (jd : Bool) (jh : LL) (jc : Int) (jS : LB) (jF : Bool) (jM : LL) (jP : Int) (jG : Bool) (jL : LL) (jE : Bool) (jK : LL) (jR w9 yD mU : Int) :
 Qoo lb n jj ja jf jg jb je jd jh jc jS jF jM jP jG jL jE jK jR w9 yD mU =
 some (.bool true) := (Qab _).trans (by kernel_rfl)
theorem QjS (lb n g8 : Nat) (jj : LB) (ja : Bool) (jf : LL) (jg : Int) (jb : Bool) (je : LL) (jd : Bool) (jh : LL) (jc : Int) (jS : LB) (jF : Bool) (jM : LL) (jP : Int) (jG : Bool) (jL : LL) (jE : Bool) (jK : LL) (jR w9 yD ko : Int) :
 Qh8 lb n (g8 + 1) jj ja jf jg jb je jd jh jc jS jF jM jP jG jL jE jK jR w9 yD ko =
 bif (decide (ko < (jh.length : Int))) then
 (optO (atL jh ko) fun gW =>
 chkO (gW.length == 3) (
 optO (gW[0]?) fun zj =>
 optO (gW[1]?) fun lF =>
 optO (gW[2]?) fun sz =>
 optO (atL jK ko) fun gF =>
 chkO (gF.length == 3) (
 optO (gF[0]?) fun lD =>
 optO (gF[1]?) fun sQ =>
 optO (gF[2]?) fun lr =>
 optO (CV.asS zj) fun l8 =>
 optO (CV.asS lD) fun zD =>
 optO (CV.asI .i64 lF) fun sN =>
 optO (CV.asI .i64 sQ) fun mT =>
 optO (CV.asI .i64 sz) fun nh =>
 optO (CV.asI .i64 lr) fun lQ =>
 bif (!((l8 == zD) && ((sN == mT) && ((nh == lQ) && true)))) then
 (some (.bool false))
 else
 (Qh8 lb n g8 jj ja jf jg jb je jd jh jc jS jF jM jP jG jL jE jK jR w9 yD (IntKind.wrap .i64 (ko + 1))))))
 else
 (Qoo lb n jj ja jf jg jb je jd jh jc jS jF jM jP jG jL jE jK jR w9 yD ko) := (Qab _).trans (by kernel_rfl)
theorem QqV (lb n : Nat) (jj : LB) (ja : Bool) (jf : LL) (jg : Int) (jb : Bool) (je : LL) (jd : Bool) (jh : LL) (jc : Int) (jS : LB) (jF : Bool) (jM : LL) (jP : Int) (jG : Bool) (jL : LL) (jE : Bool) (jK : LL) (jR w9 yD : Int) :
 QoE lb n jj ja jf jg jb je jd jh jc jS jF jM jP jG jL jE jK jR w9 yD =
 Qh8 lb n n jj ja jf jg jb je jd jh jc jS jF jM jP jG jL jE jK jR w9 yD 0 := (Qab _).trans (by kernel_rfl)
theorem QjA (lb n gB : Nat) (jj : LB) (ja : Bool) (jf : LL) (jg : Int) (jb : Bool) (je : LL) (jd : Bool) (jh : LL) (jc : Int) (jS : LB) (jF : Bool) (jM : LL) (jP : Int) (jG : Bool) (jL : LL) (jE : Bool) (jK : LL) (jR w9 ka : Int) :
 Qid lb n (gB + 1) jj ja jf jg jb je jd jh jc jS jF jM jP jG jL jE jK jR w9 ka =
 bif (decide (ka < (je.length : Int))) then
 (optO (atL je ka) fun vj =>
 chkO (vj.length == 10) (
 optO (vj[0]?) fun gL =>
 optO (vj[1]?) fun zS =>
 optO (vj[2]?) fun nj =>
 optO (vj[3]?) fun mM =>
 optO (vj[4]?) fun nq =>
 optO (vj[5]?) fun mO =>
 optO (vj[6]?) fun nv =>
 optO (vj[7]?) fun mR =>
 optO (vj[8]?) fun za =>
 optO (vj[9]?) fun sG =>
 optO (atL jL ka) fun vn =>
 chkO (vn.length == 10) (
 optO (vn[0]?) fun zg =>
 optO (vn[1]?) fun wT =>
 optO (vn[2]?) fun sC =>
 optO (vn[3]?) fun wV =>
 optO (vn[4]?) fun lK =>
 optO (vn[5]?) fun yf =>
 optO (vn[6]?) fun yg =>
 optO (vn[7]?) fun ya =>
 optO (vn[8]?) fun yb =>
 optO (vn[9]?) fun yc =>
 optO (CV.asS gL) fun zd =>
 optO (CV.asS zg) fun zh =>
 optO (CV.asI .i64 zS) fun li =>
 optO (CV.asI .i64 wT) fun lB =>
 optO (CV.asI .i64 nj) fun rc =>
 optO (CV.asI .i64 sC) fun lU =>
 optO (CV.asS mM) fun rf =>
 optO (CV.asS wV) fun zN =>
 optO (CV.asS nq) fun zE =>
 optO (CV.asS lK) fun su =>
 optO (CV.asI .i64 mO) fun zt =>
 optO (CV.asI .i64 yf) fun sj =>
 optO (CV.asI .i64 nv) fun sW =>
 optO (CV.asI .i64 yg) fun rb =>
 optO (CV.asS mR) fun lm =>
 optO (CV.asS ya) fun sT =>
 optO (CV.asI .i64 za) fun zT =>
 optO (CV.asI .i64 yb) fun zX =>
 optO (CV.asI .i64 sG) fun l7 =>
 optO (CV.asI .i64 yc) fun lc =>
 bif (!((zd == zh) && ((li == lB) && ((rc == lU) && ((rf == zN) && ((zE == su) && ((zt == sj) && ((sW == rb) && ((lm == sT) && ((zT == zX) && ((l7 == lc) && true))))))))))) then
 (some (.bool false))
 else
 (Qid lb n gB jj ja jf jg jb je jd jh jc jS jF jM jP jG jL jE jK jR w9 (IntKind.wrap .i64 (ka + 1))))))
 else
 (QoE lb n jj ja jf jg jb je jd jh jc jS jF jM jP jG jL jE jK jR w9 ka) := (Qab _).trans (by kernel_rfl)
theorem Qq1 (lb n : Nat) (jj : LB) (ja : Bool) (jf : LL) (jg : Int) (jb : Bool) (je : LL) (jd : Bool) (jh : LL) (jc : Int) (jS : LB) (jF : Bool) (jM : LL) (jP : Int) (jG : Bool) (jL : LL) (jE : Bool) (jK : LL) (jR w9 : Int) :
 Qos lb n jj ja jf jg jb je jd jh jc jS jF jM jP jG jL jE jK jR w9 =
 Qid lb n n jj ja jf jg jb je jd jh jc jS jF jM jP jG jL jE jK jR w9 0 := (Qab _).trans (by kernel_rfl)
theorem QjO (lb n ny : Nat) (jj : LB) (ja : Bool) (jf : LL) (jg : Int) (jb : Bool) (je : LL) (jd : Bool) (jh : LL) (jc : Int) (jS : LB) (jF : Bool) (jM : LL) (jP : Int) (jG : Bool) (jL : LL) (jE : Bool) (jK : LL) (jR ow : Int) :
 r35_Same_L1 lb n (ny + 1) jj ja jf jg jb je jd jh jc jS jF jM jP jG jL jE jK jR ow =
 bif (decide (ow < (jf.length : Int))) then
 (optO (atL jf ow) fun nP =>
 chkO (nP.length == 3) (
 optO (nP[0]?) fun gm =>
 optO (nP[1]?) fun jU =>
 optO (nP[2]?) fun qR =>
 optO (atL jM ow) fun nS =>
 chkO (nS.length == 3) (
 optO (nS[0]?) fun rJ =>
 optO (nS[1]?) fun wp =>
 optO (nS[2]?) fun wu =>
 optO (CV.asS gm) fun ux =>
 optO (CV.asS rJ) fun vX =>
 optO (CV.asS jU) fun uy =>
 optO (CV.asS wp) fun tT =>
 optO (CV.asS qR) fun tn =>
 optO (CV.asS wu) fun tI =>
 bif (!((ux == vX) && ((uy == tT) && ((tn == tI) && true)))) then
 (some (.bool false))
 else
 (r35_Same_L1 lb n ny jj ja jf jg jb je jd jh jc jS jF jM jP jG jL jE jK jR (IntKind.wrap .i64 (ow + 1))))))
 else
 (Qos lb n jj ja jf jg jb je jd jh jc jS jF jM jP jG jL jE jK jR ow) := (Qab _).trans (by kernel_rfl)
theorem Qu0 (lb n : Nat) (jj : LB) (ja : Bool) (jf : LL) (jg : Int) (jb : Bool) (je : LL) (jd : Bool) (jh : LL) (jc : Int) (jS : LB) (jF : Bool) (jM : LL) (jP : Int) (jG : Bool) (jL : LL) (jE : Bool) (jK : LL) (jR : Int) :
 top lb n QaI [.agg [.str jj, .list ja jf, .int .i64 jg, .list jb je, .list jd jh, .int .i64 jc], .agg [.str jS, .list jF jM, .int .i64 jP, .list jG jL, .list jE jK, .int .i64 jR]] =
 bif (!(jj == jS)) then
 (some (.bool false))
 else
 (bif (jg != jP) then
 (some (.bool false))
 else
 (bif (jc != jR) then
 (some (.bool false))
 else
 (bif ((jf.length : Int) != (jM.length : Int)) then
 (some (.bool false))
 else
 (bif ((je.length : Int) != (jL.length : Int)) then
 (some (.bool false))
 else
 (bif ((jh.length : Int) != (jK.length : Int)) then
 (some (.bool false))
 else
 (r35_Same_L1 lb n n jj ja jf jg jb je jd jh jc jS jF jM jP jG jL jE jK jR 0)))))) := by kernel_rfl
noncomputable def Qha (lb n nE : Nat) (jj : LB) (ja : Bool) (jf : LL) (jg : Int) (jb : Bool) (je : LL) (jd : Bool) (jh : LL) (jc i21 : Int) : Option CV :=
 hold (Qaw (E0 lb n 0 994) 0 (Qah (sub (B QaA) [1,1,0,1,0,0]) ++ []) [] (sub (B QaA) [1,1,0,1,0,0]) (Qap 0 (seqK (E0 lb n 0 997) (sub (B QaA) [1,1,0]) (sub (B QaA) [1,1,1]) (retK Tryz.prog (R QaA) 0 (outK (Qad Tryz.prog QaA))))) nE ⟨fr 120 [(0, .val (.agg [.str jj, .list ja jf, .int .i64 jg, .list jb je, .list jd jh, .int .i64 jc])),(1, .ptr 0 1 0),(2,vB false),(3,vI i21)],[bx 120 [(1,some [vS jj, .val (.list ja jf),vI jg, .val (.list jb je), .val (.list jd jh),vI jc])]],KK⟩)
noncomputable def Qns (lb n : Nat) (jj : LB) (ja : Bool) (jf : LL) (jg : Int) (jb : Bool) (je : LL) (jd : Bool) (jh : LL) (jc yw : Int) : Option CV :=
 hold (E0 lb n 0 997 (sub (B QaA) [1,1,1]) (retK Tryz.prog (R QaA) 0 (outK (Qad Tryz.prog QaA))) ⟨fr 120 [(0, .val (.agg [.str jj, .list ja jf, .int .i64 jg, .list jb je, .list jd jh, .int .i64 jc])),(1, .ptr 0 1 0),(2,vB false),(3,vI yw)],[bx 120 [(1,some [vS jj, .val (.list ja jf),vI jg, .val (.list jb je), .val (.list jd jh),vI jc])]],KK⟩)
noncomputable def Qhd (lb n nA : Nat) (jj : LB) (ja : Bool) (jf : LL) (jg : Int) (jb : Bool) (je : LL) (jd : Bool) (jh : LL) (jc yw ve : Int) : Option CV :=
 hold (Qaw (E0 lb n 0 993) 0 (Qah (sub (B QaA) [1,1,1,0,1,0,0]) ++ []) [5] (sub (B QaA) [1,1,1,0,1,0,0]) (Qap 2 (seqK (E0 lb n 0 996) (sub (B QaA) [1,1,1,0]) (sub (B QaA) [1,1,1,1]) (retK Tryz.prog (R QaA) 0 (outK (Qad Tryz.prog QaA))))) nA ⟨fr 120 [(0, .val (.agg [.str jj, .list ja jf, .int .i64 jg, .list jb je, .list jd jh, .int .i64 jc])),(1, .ptr 0 1 0),(2,vB false),(3,vI yw),(4,vI ve)],[bx 120 [(1,some [vS jj, .val (.list ja jf),vI jg, .val (.list jb je), .val (.list jd jh),vI jc])]],KK⟩)
noncomputable def Qnc (lb n : Nat) (jj : LB) (ja : Bool) (jf : LL) (jg : Int) (jb : Bool) (je : LL) (jd : Bool) (jh : LL) (jc yw vq : Int) : Option CV :=
 hold (E0 lb n 0 996 (sub (B QaA) [1,1,1,1]) (retK Tryz.prog (R QaA) 0 (outK (Qad Tryz.prog QaA))) ⟨fr 120 [(0, .val (.agg [.str jj, .list ja jf, .int .i64 jg, .list jb je, .list jd jh, .int .i64 jc])),(1, .ptr 0 1 0),(2,vB false),(3,vI yw),(4,vI vq)],[bx 120 [(1,some [vS jj, .val (.list ja jf),vI jg, .val (.list jb je), .val (.list jd jh),vI jc])]],KK⟩)
noncomputable def Qhm (lb n nT : Nat) (jj : LB) (ja : Bool) (jf : LL) (jg : Int) (jb : Bool) (je : LL) (jd : Bool) (jh : LL) (jc yw vq oI : Int) : Option CV :=
 hold (Qaw (E0 lb n 0 992) 0 (Qah (sub (B QaA) [1,1,1,1,0,1,0,0]) ++ []) [] (sub (B QaA) [1,1,1,1,0,1,0,0]) (Qap 4 (seqK (E0 lb n 0 995) (sub (B QaA) [1,1,1,1,0]) (sub (B QaA) [1,1,1,1,1]) (retK Tryz.prog (R QaA) 0 (outK (Qad Tryz.prog QaA))))) nT ⟨fr 120 [(0, .val (.agg [.str jj, .list ja jf, .int .i64 jg, .list jb je, .list jd jh, .int .i64 jc])),(1, .ptr 0 1 0),(2,vB false),(3,vI yw),(4,vI vq),(6,vI oI)],[bx 120 [(1,some [vS jj, .val (.list ja jf),vI jg, .val (.list jb je), .val (.list jd jh),vI jc])]],KK⟩)
noncomputable def QmC (lb n : Nat) (jj : LB) (ja : Bool) (jf : LL) (jg : Int) (jb : Bool) (je : LL) (jd : Bool) (jh : LL) (jc yw vq na : Int) : Option CV :=
 hold (E0 lb n 0 995 (sub (B QaA) [1,1,1,1,1]) (retK Tryz.prog (R QaA) 0 (outK (Qad Tryz.prog QaA))) ⟨fr 120 [(0, .val (.agg [.str jj, .list ja jf, .int .i64 jg, .list jb je, .list jd jh, .int .i64 jc])),(1, .ptr 0 1 0),(2,vB false),(3,vI yw),(4,vI vq),(6,vI na)],[bx 120 [(1,some [vS jj, .val (.list ja jf),vI jg, .val (.list jb je), .val (.list jd jh),vI jc])]],KK⟩)
theorem Qp4 (lb n : Nat) (jj : LB) (ja : Bool) (jf : LL) (jg : Int) (jb : Bool) (je : LL) (jd : Bool) (jh : LL) (jc yw vq na : Int) :
 QmC lb n jj ja jf jg jb je jd jh jc yw vq na =
 some (.bool true) := (Qab _).trans (by kernel_rfl)
theorem QiK (lb n nT : Nat) (jj : LB) (ja : Bool) (jf : LL) (jg : Int) (jb : Bool) (je : LL) (jd : Bool) (jh : LL) (jc yw vq oI : Int) :
 Qhm lb n (nT + 1) jj ja jf jg jb je jd jh jc yw vq oI =
 bif (decide (oI < (jh.length : Int))) then
 (optO (atL jh oI) fun qS =>
 chkO (qS.length == 3) (
 optO (qS[0]?) fun wb =>
 optO (CV.asS wb) fun ru =>
 bif (decide ((ru.length : Int) > 100)) then
 (some (.bool false))
 else
 (Qhm lb n nT jj ja jf jg jb je jd jh jc yw vq (IntKind.wrap .i64 (oI + 1)))))
 else
 (QmC lb n jj ja jf jg jb je jd jh jc yw vq oI) := (Qab _).trans (by kernel_rfl)
theorem Qqd (lb n : Nat) (jj : LB) (ja : Bool) (jf : LL) (jg : Int) (jb : Bool) (je : LL) (jd : Bool) (jh : LL) (jc yw vq : Int) :
 Qnc lb n jj ja jf jg jb je jd jh jc yw vq =
 Qhm lb n n jj ja jf jg jb je jd jh jc yw vq 0 := (Qab _).trans (by kernel_rfl)
theorem QiU (lb n nA : Nat) (jj : LB) (ja : Bool) (jf : LL) (jg : Int) (jb : Bool) (je : LL) (jd : Bool) (jh : LL) (jc yw ve : Int) :
 Qhd lb n (nA + 1) jj ja jf jg jb je jd jh jc yw ve =
 bif (decide (ve < (je.length : Int))) then
 (optO (atL je ve) fun oh =>
 chkO (oh.length == 10) (
 optO (oh[0]?) fun qa =>
 optO (oh[1]?) fun nD =>
 optO (oh[2]?) fun nZ =>
 optO (oh[3]?) fun mn =>
 optO (oh[4]?) fun md =>
 optO (oh[5]?) fun se =>
 optO (oh[6]?) fun nX =>
 optO (CV.asS qa) fun tz =>
 bif (decide ((tz.length : Int) > 100)) then
 (some (.bool false))
 else
 (optO (CV.asS mn) fun tW =>
 bif (decide ((tW.length : Int) > 100)) then
 (some (.bool false))
 else
 (optO (CV.asS md) fun tX =>
 bif (decide ((tX.length : Int) > 100)) then
 (some (.bool false))
 else
 (optO (atL je ve) fun c85 =>
 chkO (c85.length == 10) (
 optO (c85[7]?) fun qn =>
 optO (CV.asS qn) fun ga =>
 bif (decide ((ga.length : Int) > 100)) then
 (some (.bool false))
 else
 (Qhd lb n nA jj ja jf jg jb je jd jh jc yw (IntKind.wrap .i64 (ve + 1)))))))))
 else
 (Qnc lb n jj ja jf jg jb je jd jh jc yw ve) := (Qab _).trans (by kernel_rfl)
theorem Qqq (lb n : Nat) (jj : LB) (ja : Bool) (jf : LL) (jg : Int) (jb : Bool) (je : LL) (jd : Bool) (jh : LL) (jc yw : Int) :
 Qns lb n jj ja jf jg jb je jd jh jc yw =
 Qhd lb n n jj ja jf jg jb je jd jh jc yw 0 := (Qab _).trans (by kernel_rfl)
theorem Qi0 (lb n nE : Nat) (jj : LB) (ja : Bool) (jf : LL) (jg : Int) (jb : Bool) (je : LL) (jd : Bool) (jh : LL) (jc i21 : Int) :
 Qha lb n (nE + 1) jj ja jf jg jb je jd jh jc i21 =
 bif (decide (i21 < (jf.length : Int))) then
 (optO (atL jf i21) fun qV =>
 chkO (qV.length == 3) (
 optO (qV[0]?) fun nQ =>
 optO (CV.asS nQ) fun tU =>
 bif (decide ((tU.length : Int) > 100)) then
 (some (.bool false))
 else
 (optO (atL jf i21) fun kt =>
 chkO (kt.length == 3) (
 optO (kt[1]?) fun vk =>
 optO (CV.asS vk) fun uo =>
 bif (decide ((uo.length : Int) > 100)) then
 (some (.bool false))
 else
 (optO (atL jf i21) fun mC =>
 chkO (mC.length == 3) (
 optO (mC[2]?) fun o6 =>
 optO (CV.asS o6) fun vU =>
 bif (decide ((vU.length : Int) > 100)) then
 (some (.bool false))
 else
 (Qha lb n nE jj ja jf jg jb je jd jh jc (IntKind.wrap .i64 (i21 + 1)))))))))
 else
 (Qns lb n jj ja jf jg jb je jd jh jc i21) := (Qab _).trans (by kernel_rfl)
theorem Qua (lb n : Nat) (jj : LB) (ja : Bool) (jf : LL) (jg : Int) (jb : Bool) (je : LL) (jd : Bool) (jh : LL) (jc : Int) :
 top lb n QaA [.agg [.str jj, .list ja jf, .int .i64 jg, .list jb je, .list jd jh, .int .i64 jc]] =
 bif (decide ((jf.length : Int) > 60)) then
 (some (.bool false))
 else
 (bif (decide ((je.length : Int) > 60)) then
 (some (.bool false))
 else
 (bif (decide ((jh.length : Int) > 60)) then
 (some (.bool false))
 else
 (bif (decide ((jj.length : Int) > 100)) then
 (some (.bool false))
 else
 (Qha lb n n jj ja jf jg jb je jd jh jc 0)))) := by kernel_rfl
end Go.Proofs
