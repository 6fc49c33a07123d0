/- Equations of functions, printed by program. Conditions: none. -/
import Derived.Test.YtbdclhadjcfadaaGreatDoorEv
namespace Go.Proofs.K4
open Go.Am
set_option maxRecDepth 100000
set_option linter.unusedVariables false
noncomputable def cond_reader_part_L1 :=
 fun lb n (ju:Nat) jy kg =>
 hold (Qau (E0 lb n 1 995) 1 (Qah (sub (B Qab) [1,0,1,0,0]) ++ []) [4] (sub (B Qab) [1,0,1,0,0]) (Qak 0 (seqK (E0 lb n 1 998) (sub (B Qab) [1,0]) (sub (B Qab) [1,1]) (retK Tryz.prog (R Qab) 1 partK))) ju ⟨fr 66 [(0, .ptr 0 0 0),(2, .ptr 1 2 0),(3,vI jy)],[bx 1 [(0,some [.val kg])],bx 66 [(2,some [vI 0, .lst true true 27 [],vI 0,vI 0,vI 0,vI 0,vI 0, .lst true true 9 []])]],KK⟩)
noncomputable def Qhw (lb n ju:Nat) (jy:Int) (kT:CV):Option CV :=
 hold (E0 lb n 1 993 (sub (B Qab) [1,0,1,0,0,1,1]) (Qde 1 (Qah (sub (B Qab) [1,0,1,0,0]) ++ []) [4] (Qau (E0 lb n 1 995) 1 (Qah (sub (B Qab) [1,0,1,0,0]) ++ []) [4] (sub (B Qab) [1,0,1,0,0]) (Qak 0 (seqK (E0 lb n 1 998) (sub (B Qab) [1,0]) (sub (B Qab) [1,1]) (retK Tryz.prog (R Qab) 1 partK))) ju) (Qak 0 (seqK (E0 lb n 1 998) (sub (B Qab) [1,0]) (sub (B Qab) [1,1]) (retK Tryz.prog (R Qab) 1 partK)))) ⟨fr 66 [(0, .ptr 0 0 0),(2, .ptr 1 2 0),(3,vI jy)],[bx 1 [(0,some [.val kT])],bx 66 [(2,some [vI 0, .lst true true 27 [],vI 0,vI 0,vI 0,vI 0,vI 0, .lst true true 9 []])]],KK⟩)
theorem Qlp (lb n ju:Nat) (jy:Int) (kT:CV) :
 Qhw lb n ju jy kT =
 cond_reader_part_L1 lb n ju  (IntKind.wrap .i64 (jy + 1)) kT := (Qac _).trans (by kernel_rfl)
noncomputable def Qe8 (lb n kC ju:Nat) (jy:Int) (wj jP jR jO jT jS jV jN jU:CV) (vF:LB):Option CV :=
 hold (Qau (E0 lb n 1 987) 1 (Qah (sub (B Qab) [1,0,1,0,0,1,0,0,1,1,0,0,0]) ++ []) [] (sub (B Qab) [1,0,1,0,0,1,0,0,1,1,0,0,0]) (Qak 2 (seqK (E0 lb n 1 989) (sub (B Qab) [1,0,1,0,0,1,0,0,1,1,0]) (sub (B Qab) [1,0,1,0,0,1,0,0,1,1,1]) (Qak 1 (seqK (E0 lb n 1 993) (sub (B Qab) [1,0,1,0,0,1,0]) (sub (B Qab) [1,0,1,0,0,1,1]) (Qde 1 (Qah (sub (B Qab) [1,0,1,0,0]) ++ []) [4] (Qau (E0 lb n 1 995) 1 (Qah (sub (B Qab) [1,0,1,0,0]) ++ []) [4] (sub (B Qab) [1,0,1,0,0]) (Qak 0 (seqK (E0 lb n 1 998) (sub (B Qab) [1,0]) (sub (B Qab) [1,1]) (retK Tryz.prog (R Qab) 1 partK))) ju) (Qak 0 (seqK (E0 lb n 1 998) (sub (B Qab) [1,0]) (sub (B Qab) [1,1]) (retK Tryz.prog (R Qab) 1 partK)))))))) kC ⟨fr 66 [(0, .ptr 0 0 0),(2, .ptr 1 2 0),(3,vI jy),(4, .ptr 1 4 0),(18,vI jy),(19, .ptr 0 0 0),(20,vV wj),(21, .lst false false 27 [[jP,jR,jO,jT,jS,jV,jN,jU]]),(22, .agg [vI jy, .lst false false 27 [[jP,jR,jO,jT,jS,jV,jN,jU]],vI 0,vI 0,vI 0,vI 0,vI 0, .val (.list true [])])],[bx 1 [(0,some [vS vF])],bx 66 [(2,some [vI 0, .lst true true 27 [],vI 0,vI 0,vI 0,vI 0,vI 0, .lst true true 9 []]),(4,some [vI jy, .lst false false 27 [[jP,jR,jO,jT,jS,jV,jN,jU]],vI 0,vI 0,vI 0,vI 0,vI 0, .lst true true 9 []])]],KK⟩)
noncomputable def QdR (lb n kK ju:Nat) (jy:Int) (wj jP jR jO jT jS jV jN jU:CV) (kL:LB) (vG:LL):Option CV :=
 hold (Qau (E0 lb n 1 987) 1 (Qah (sub (B Qab) [1,0,1,0,0,1,0,0,1,1,0,0,0]) ++ []) [] (sub (B Qab) [1,0,1,0,0,1,0,0,1,1,0,0,0]) (Qak 2 (seqK (E0 lb n 1 989) (sub (B Qab) [1,0,1,0,0,1,0,0,1,1,0]) (sub (B Qab) [1,0,1,0,0,1,0,0,1,1,1]) (Qak 1 (seqK (E0 lb n 1 993) (sub (B Qab) [1,0,1,0,0,1,0]) (sub (B Qab) [1,0,1,0,0,1,1]) (Qde 1 (Qah (sub (B Qab) [1,0,1,0,0]) ++ []) [4] (Qau (E0 lb n 1 995) 1 (Qah (sub (B Qab) [1,0,1,0,0]) ++ []) [4] (sub (B Qab) [1,0,1,0,0]) (Qak 0 (seqK (E0 lb n 1 998) (sub (B Qab) [1,0]) (sub (B Qab) [1,1]) (retK Tryz.prog (R Qab) 1 partK))) ju) (Qak 0 (seqK (E0 lb n 1 998) (sub (B Qab) [1,0]) (sub (B Qab) [1,1]) (retK Tryz.prog (R Qab) 1 partK)))))))) kK ⟨fr 66 [(0, .ptr 0 0 0),(2, .ptr 1 2 0),(3,vI jy),(4, .ptr 1 4 0),(18,vI jy),(19, .ptr 0 0 0),(20,vV wj),(21, .lst false false 27 [[jP,jR,jO,jT,jS,jV,jN,jU]]),(22, .agg [vI jy, .lst false false 27 [[jP,jR,jO,jT,jS,jV,jN,jU]],vI 0,vI 0,vI 0,vI 0,vI 0, .val (.list true [])])],[bx 1 [(0,some [vS kL])],bx 66 [(2,some [vI 0, .lst true true 27 [],vI 0,vI 0,vI 0,vI 0,vI 0, .lst true true 9 []]),(4,some [vI jy, .lst true false 27 vG,vI 0,vI 0,vI 0,vI 0,vI 0, .lst true true 9 []])]],KK⟩)
noncomputable def Qe7 (lb n ju:Nat) (jy:Int) (wj jP jR jO jT jS jV jN jU kE:CV) (kH:Bool) (kw:LL):Option CV :=
 hold (E0 lb n 1 989 (sub (B Qab) [1,0,1,0,0,1,0,0,1,1,1]) (Qak 1 (seqK (E0 lb n 1 993) (sub (B Qab) [1,0,1,0,0,1,0]) (sub (B Qab) [1,0,1,0,0,1,1]) (Qde 1 (Qah (sub (B Qab) [1,0,1,0,0]) ++ []) [4] (Qau (E0 lb n 1 995) 1 (Qah (sub (B Qab) [1,0,1,0,0]) ++ []) [4] (sub (B Qab) [1,0,1,0,0]) (Qak 0 (seqK (E0 lb n 1 998) (sub (B Qab) [1,0]) (sub (B Qab) [1,1]) (retK Tryz.prog (R Qab) 1 partK))) ju) (Qak 0 (seqK (E0 lb n 1 998) (sub (B Qab) [1,0]) (sub (B Qab) [1,1]) (retK Tryz.prog (R Qab) 1 partK)))))) ⟨fr 66 [(0, .ptr 0 0 0),(2, .ptr 1 2 0),(3,vI jy),(4, .ptr 1 4 0),(18,vI jy),(19, .ptr 0 0 0),(20,vV wj),(21, .lst false false 27 [[jP,jR,jO,jT,jS,jV,jN,jU]]),(22, .agg [vI jy, .lst false false 27 [[jP,jR,jO,jT,jS,jV,jN,jU]],vI 0,vI 0,vI 0,vI 0,vI 0, .val (.list true [])])],[bx 1 [(0,some [.val kE])],bx 66 [(2,some [vI 0, .lst true true 27 [],vI 0,vI 0,vI 0,vI 0,vI 0, .lst true true 9 []]),(4,some [vI jy, .lst true kH 27 kw,vI 0,vI 0,vI 0,vI 0,vI 0, .lst true true 9 []])]],KK⟩)
theorem Qlb (lb n ju:Nat) (jy:Int) (wj jP jR jO jT jS jV jN jU kE:CV) (kH:Bool) (kw:LL) :
 Qe7 lb n ju jy wj jP jR jO jT jS jV jN jU kE kH kw =
 optO (C lb n Qbv [kE, .str [41]]) fun ng =>
 optO (CV.asT ng) fun qI =>
 optO (qI[0]?) fun me =>
 optO (CV.asT ng) fun pg =>
 optO (pg[1]?) fun sQ =>
 chkO (CV.isCell me) (
 optO (CV.asB sQ) fun sf =>
 bif (!sf) then
 (some .err)
 else
 (some (.tup [.agg [.int .i64 jy, .list kH kw, .int .i64 0, .int .i64 0, .int .i64 0, .int .i64 0, .int .i64 0, .list true []],me]))) := (Qac _).trans (by kernel_rfl)
theorem QdG (lb n kK ju:Nat) (jy:Int) (wj jP jR jO jT jS jV jN jU:CV) (kL:LB) (vG:LL) :
 QdR lb n (kK + 1) ju jy wj jP jR jO jT jS jV jN jU kL vG =
 optO (C lb n Qbv [.str kL, .str [44,32]]) fun nB =>
 optO (CV.asT nB) fun n8 =>
 optO (n8[0]?) fun oJ =>
 optO (CV.asT nB) fun pT =>
 optO (pT[1]?) fun pc =>
 chkO (CV.isCell oJ) (
 optO (CV.asB pc) fun pJ =>
 bif pJ then
 (optO (CV.asS oJ) fun pV =>
 panP (PE lb n pV) fun pZ qm =>
 optO (CV.asA pZ) fun yH =>
 chkO (yH.length == 8) (
 optO (yH[0]?) fun q9 =>
 optO (yH[1]?) fun qS =>
 optO (yH[2]?) fun n9 =>
 optO (yH[3]?) fun pC =>
 optO (yH[4]?) fun sq =>
 optO (yH[5]?) fun sH =>
 optO (yH[6]?) fun qJ =>
 optO (yH[7]?) fun pY =>
 chkO (room (vG.length + 1) 96) (
 QdR lb n kK ju jy wj jP jR jO jT jS jV jN jU qm (vG ++ [[q9,qS,n9,pC,sq,sH,qJ,pY]]))))
 else
 (Qe7 lb n ju jy wj jP jR jO jT jS jV jN jU oJ false vG)) := (Qac _).trans (by kernel_rfl)
noncomputable def Qe6 (lb n ju:Nat) (jy:Int) (wj jP jR jO jT jS jV jN jU kx:CV):Option CV :=
 hold (E0 lb n 1 989 (sub (B Qab) [1,0,1,0,0,1,0,0,1,1,1]) (Qak 1 (seqK (E0 lb n 1 993) (sub (B Qab) [1,0,1,0,0,1,0]) (sub (B Qab) [1,0,1,0,0,1,1]) (Qde 1 (Qah (sub (B Qab) [1,0,1,0,0]) ++ []) [4] (Qau (E0 lb n 1 995) 1 (Qah (sub (B Qab) [1,0,1,0,0]) ++ []) [4] (sub (B Qab) [1,0,1,0,0]) (Qak 0 (seqK (E0 lb n 1 998) (sub (B Qab) [1,0]) (sub (B Qab) [1,1]) (retK Tryz.prog (R Qab) 1 partK))) ju) (Qak 0 (seqK (E0 lb n 1 998) (sub (B Qab) [1,0]) (sub (B Qab) [1,1]) (retK Tryz.prog (R Qab) 1 partK)))))) ⟨fr 66 [(0, .ptr 0 0 0),(2, .ptr 1 2 0),(3,vI jy),(4, .ptr 1 4 0),(18,vI jy),(19, .ptr 0 0 0),(20,vV wj),(21, .lst false false 27 [[jP,jR,jO,jT,jS,jV,jN,jU]]),(22, .agg [vI jy, .lst false false 27 [[jP,jR,jO,jT,jS,jV,jN,jU]],vI 0,vI 0,vI 0,vI 0,vI 0, .val (.list true [])])],[bx 1 [(0,some [.val kx])],bx 66 [(2,some [vI 0, .lst true true 27 [],vI 0,vI 0,vI 0,vI 0,vI 0, .lst true true 9 []]),(4,some [vI jy, .lst false false 27 [[jP,jR,jO,jT,jS,jV,jN,jU]],vI 0,vI 0,vI 0,vI 0,vI 0, .lst true true 9 []])]],KK⟩)
theorem Qld (lb n ju:Nat) (jy:Int) (wj jP jR jO jT jS jV jN jU kx:CV) :
 Qe6 lb n ju jy wj jP jR jO jT jS jV jN jU kx =
 optO (C lb n Qbv [kx, .str [41]]) fun gN =>
 optO (CV.asT gN) fun qK =>
 optO (qK[0]?) fun nm =>
 optO (CV.asT gN) fun qA =>
 optO (qA[1]?) fun qw =>
 chkO (CV.isCell nm) (
 optO (CV.asB qw) fun sa =>
 bif (!sa) then
 (some .err)
 else
 (some (.tup [.agg [.int .i64 jy, .list false [[jP,jR,jO,jT,jS,jV,jN,jU]], .int .i64 0, .int .i64 0, .int .i64 0, .int .i64 0, .int .i64 0, .list true []],nm]))) := (Qac _).trans (by kernel_rfl)
theorem QdJ (lb n kC ju:Nat) (jy:Int) (wj jP jR jO jT jS jV jN jU:CV) (vF:LB) :
 Qe8 lb n (kC + 1) ju jy wj jP jR jO jT jS jV jN jU vF =
 optO (C lb n Qbv [.str vF, .str [44,32]]) fun mo =>
 optO (CV.asT mo) fun zo =>
 optO (zo[0]?) fun oT =>
 optO (CV.asT mo) fun qc =>
 optO (qc[1]?) fun pd =>
 chkO (CV.isCell oT) (
 optO (CV.asB pd) fun sB =>
 bif sB then
 (optO (CV.asS oT) fun sb =>
 panP (PE lb n sb) fun qt n4 =>
 optO (CV.asA qt) fun yE =>
 chkO (yE.length == 8) (
 optO (yE[0]?) fun qh =>
 optO (yE[1]?) fun qz =>
 optO (yE[2]?) fun pk =>
 optO (yE[3]?) fun pr =>
 optO (yE[4]?) fun pO =>
 optO (yE[5]?) fun sO =>
 optO (yE[6]?) fun sg =>
 optO (yE[7]?) fun qy =>
 QdR lb n kC ju jy wj jP jR jO jT jS jV jN jU n4 [[jP,jR,jO,jT,jS,jV,jN,jU],[qh,qz,pk,pr,pO,sO,sg,qy]]))
 else
 (Qe6 lb n ju jy wj jP jR jO jT jS jV jN jU oT)) := (Qac _).trans (by kernel_rfl)
noncomputable def Qe4 (lb n:Nat) (w9:Int) (wl:CV):Option CV :=
 hold (E0 lb n 1 998 (sub (B Qab) [1,1]) (retK Tryz.prog (R Qab) 1 partK) ⟨fr 66 [(0, .ptr 0 0 0),(2, .ptr 1 2 0),(3,vI w9)],[bx 1 [(0,some [.val wl])],bx 66 [(2,some [vI 0, .lst true true 27 [],vI 0,vI 0,vI 0,vI 0,vI 0, .lst true true 9 []])]],KK⟩)
noncomputable def Qhu (lb n:Nat) (w9:Int) (wl wR:CV) (yF:Int):Option CV :=
 hold (E0 lb n 1 996 (sub (B Qab) [1,1,1,1]) (retK Tryz.prog (R Qab) 1 partK) ⟨fr 66 [(0, .ptr 0 0 0),(2, .ptr 1 2 0),(3,vI w9),(5,vI yF),(36, .ptr 0 0 0),(37, .ptr 0 0 0),(38, .ptr 0 0 0),(39,vV wl),(40,vV wR)],[bx 1 [(0,some [.val wl])],bx 66 [(2,some [vI 0, .lst true true 27 [],vI 0,vI 0,vI 0,vI 0,vI 0, .lst true true 9 []])]],KK⟩)
theorem Qls (lb n:Nat) (w9:Int) (wl wR:CV) (yF:Int) :
 Qhu lb n w9 wl wR yF =
 optO (CV.asS wl) fun mK =>
 chkO (decide ((0:Int) ≤ yF ∧ yF ≤ (mK.length:Int))) (
 optO (C lb n QcE [.str ((mK.take yF.toNat).drop 0), .str [32]]) fun sA =>
 optO (CV.asS wl) fun oZ =>
 chkO (decide ((0:Int) ≤ yF ∧ yF ≤ (oZ.length:Int))) (
 panO (LE lb n sA) fun sx =>
 optO (CV.asA sx) fun yI =>
 chkO (yI.length == 8) (
 optO (yI[0]?) fun sd =>
 optO (yI[1]?) fun qF =>
 optO (yI[2]?) fun zy =>
 optO (yI[3]?) fun qO =>
 optO (yI[4]?) fun sr =>
 optO (yI[5]?) fun pM =>
 optO (yI[6]?) fun qY =>
 optO (yI[7]?) fun qg =>
 some (.tup [.agg [sd,qF,zy,qO,sr,pM,qY,qg], .str ((oZ.take ((oZ.length:Int).toNat)).drop yF.toNat)])))) := (Qac _).trans (by kernel_rfl)
noncomputable def Qhr (lb n:Nat) (w9:Int) (wR wl:CV):Option CV :=
 hold (E0 lb n 1 996 (sub (B Qab) [1,1,1,1]) (retK Tryz.prog (R Qab) 1 partK) ⟨fr 66 [(0, .ptr 0 0 0),(2, .ptr 1 2 0),(3,vI w9),(5,vV wR),(36, .ptr 0 0 0),(37, .ptr 0 0 0),(38, .ptr 0 0 0),(39,vV wl),(40,vV wR)],[bx 1 [(0,some [.val wl])],bx 66 [(2,some [vI 0, .lst true true 27 [],vI 0,vI 0,vI 0,vI 0,vI 0, .lst true true 9 []])]],KK⟩)
theorem Qln (lb n:Nat) (w9:Int) (wR wl:CV) :
 Qhr lb n w9 wR wl =
 optO (CV.asS wl) fun gW =>
 optO (CV.asN wR) fun oR =>
 chkO (decide ((0:Int) ≤ oR ∧ oR ≤ (gW.length:Int))) (
 optO (C lb n QcE [.str ((gW.take oR.toNat).drop 0), .str [32]]) fun sN =>
 optO (CV.asS wl) fun oK =>
 optO (CV.asN wR) fun oV =>
 chkO (decide ((0:Int) ≤ oV ∧ oV ≤ (oK.length:Int))) (
 panO (LE lb n sN) fun qN =>
 optO (CV.asA qN) fun yJ =>
 chkO (yJ.length == 8) (
 optO (yJ[0]?) fun zu =>
 optO (yJ[1]?) fun zh =>
 optO (yJ[2]?) fun qE =>
 optO (yJ[3]?) fun zw =>
 optO (yJ[4]?) fun qq =>
 optO (yJ[5]?) fun sG =>
 optO (yJ[6]?) fun ze =>
 optO (yJ[7]?) fun qd =>
 some (.tup [.agg [zu,zh,qE,zw,qq,sG,ze,qd], .str ((oK.take ((oK.length:Int).toNat)).drop oV.toNat)])))) := (Qac _).trans (by kernel_rfl)
theorem Qlj (lb n:Nat) (w9:Int) (wl:CV) :
 Qe4 lb n w9 wl =
 optO (C lb n Qat [wl, .str [44,41]]) fun wR =>
 optO (CV.asI .i64 wR) fun pS =>
 bif (decide (pS < 0)) then
 (optO (CV.asS wl) fun qr =>
 Qhu lb n w9 wl wR (qr.length:Int))
 else
 (Qhr lb n w9 wR wl ) := (Qac _).trans (by kernel_rfl)
theorem Qcu (lb n ju:Nat) (jy:Int) (kg:CV) :
 cond_reader_part_L1 lb n (ju + 1) jy kg =
 bif (decide (jy ≤ 4)) then
 (optO (C lb n Qax [.int .i64 jy]) fun pt =>
 optO (CV.asA pt) fun yz =>
 chkO (yz.length == 9) (
 optO (yz[0]?) fun ql =>
 optO (yz[1]?) fun rG =>
 optO (yz[2]?) fun rK =>
 optO (yz[3]?) fun rF =>
 optO (yz[4]?) fun rC =>
 optO (yz[5]?) fun rD =>
 optO (yz[6]?) fun rH =>
 optO (yz[7]?) fun rM =>
 optO (yz[8]?) fun rN =>
 optO (CV.asS ql) fun ni =>
 chkO (decide (ni.length + [40].length ≤ 9223372036854775807)) (
 optO (C lb n Qbv [kg, .str (ni ++ [40])]) fun gS =>
 optO (CV.asT gS) fun pK =>
 optO (pK[0]?) fun oL =>
 optO (CV.asT gS) fun pw =>
 optO (pw[1]?) fun sC =>
 chkO (CV.isCell oL) (
 optO (CV.asB sC) fun qa =>
 bif (!qa) then
 (Qhw lb n ju jy oL)
 else
 (optO (CV.asS oL) fun qf =>
 panP (PE lb n qf) fun wj vF =>
 optO (CV.asA wj) fun yL =>
 chkO (yL.length == 8) (
 optO (yL[0]?) fun jP =>
 optO (yL[1]?) fun jR =>
 optO (yL[2]?) fun jO =>
 optO (yL[3]?) fun jT =>
 optO (yL[4]?) fun jS =>
 optO (yL[5]?) fun jV =>
 optO (yL[6]?) fun jN =>
 optO (yL[7]?) fun jU =>
 Qe8 lb n n ju jy wj jP jR jO jT jS jV jN jU vF ))))))
 else
 (Qe4 lb n  jy kg) := (Qac _).trans (by kernel_rfl)
theorem Qni (lb n:Nat) (a1:LB) :
 PT lb n a1 =
 cond_reader_part_L1 lb n n  2 (.str a1) := by kernel_rfl
end Go.Proofs.K4
