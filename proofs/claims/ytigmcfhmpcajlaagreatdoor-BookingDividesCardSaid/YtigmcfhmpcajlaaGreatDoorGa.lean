/- Equations of functions, printed by program. Conditions: none. -/
import Derived.Test.YtigmcfhmpcajlaaGreatDoorEv
namespace Go.Proofs
open Go.Am
set_option maxRecDepth 100000
set_option linter.unusedVariables false
theorem QpP (lb n) (a1 : Int) :
 top lb n QhO [.int .i64 a1] =
 bif (decide (a1 < 1)) then
 (some (.tup [.str [], .int .i64 8]))
 else
 (bif (decide (a1 > 7)) then
 (some (.tup [.str [], .int .i64 8]))
 else
 (chkO (decide ((0 : Int) ≤ (IntKind.wrap .i64 (2 * a1)) ∧ (IntKind.wrap .i64 (2 * a1)) ≤ 14)) (
 chkO (decide ((0 : Int) ≤ (IntKind.wrap .i64 ((IntKind.wrap .i64 (2 * a1)) - 2)) ∧ (IntKind.wrap .i64 ((IntKind.wrap .i64 (2 * a1)) - 2)) ≤ (IntKind.wrap .i64 (2 * a1)))) (
 some (.tup [.str ((([72,75,72,76,75,76,84,75,85,78,85,67,88,88] : LB).take ((IntKind.wrap .i64 (2 * a1)).toNat)).drop ((IntKind.wrap .i64 ((IntKind.wrap .i64 (2 * a1)) - 2)).toNat)), .int .i64 0]))))) := by kernel_rfl
noncomputable def marry_Check_L1 :=
 fun lb n (kk : Nat) (jk : Bool) (a2 : LL) i6 =>
 hold (Qav (E0 lb n 0 995) 0 (Qag (sub (B QaM) [1,0,1,0,0]) ++ [4]) [] (sub (B QaM) [1,0,1,0,0]) (Qak 0 (seqK (E0 lb n 0 998) (sub (B QaM) [1,0]) (sub (B QaM) [1,1]) (retK Tryz.prog (R QaM) 0 (outK (Qad Tryz.prog QaM))))) kk ⟨fr 51 [(0, .val (.list jk a2)),(2,vI 0),(8, .val (.list jk a2)),(9, .val (.int .i64 (a2.length : Int))),(10,vI i6)],[bx 51 []],KK⟩)
noncomputable def Qkd (lb n : Nat) (jk : Bool) (a2 : LL) : Option CV :=
 hold (E0 lb n 0 998 (sub (B QaM) [1,1]) (retK Tryz.prog (R QaM) 0 (outK (Qad Tryz.prog QaM))) ⟨fr 51 [(0, .val (.list jk a2)),(2,vI 0)],[bx 51 []],KK⟩)
noncomputable def Qc7 (lb n nE : Nat) (jk : Bool) (a2 : LL) (oL : CV) (gg : Bool × LL) (yv : Int) : Option CV :=
 hold (Qav (E0 lb n 0 994) 0 (Qag (sub (B QaM) [1,1,0,1,0,0]) ++ [6,7]) [] (sub (B QaM) [1,1,0,1,0,0]) (Qak 2 (seqK (E0 lb n 0 997) (sub (B QaM) [1,1,0]) (sub (B QaM) [1,1,1]) (retK Tryz.prog (R QaM) 0 (outK (Qad Tryz.prog QaM))))) nE ⟨fr 51 [(0, .val (.list jk a2)),(2,vI 0),(17, .val (.list jk a2)),(18,vV oL),(19, .val (.int .i64 (gg.2.length : Int))),(20,vI yv)],[bx 51 []],KK⟩)
noncomputable def Qkc (lb n : Nat) (jk : Bool) (a2 : LL) : Option CV :=
 hold (E0 lb n 0 997 (sub (B QaM) [1,1,1]) (retK Tryz.prog (R QaM) 0 (outK (Qad Tryz.prog QaM))) ⟨fr 51 [(0, .val (.list jk a2)),(2,vI 0)],[bx 51 []],KK⟩)
theorem Qnj (lb n : Nat) (jk : Bool) (a2 : LL) :
 Qkc lb n jk a2 =
 some (.int .i64 0) := (Qac _).trans (by kernel_rfl)
theorem QgA (lb n nE : Nat) (jk : Bool) (a2 : LL) (oL : CV) (gg : Bool × LL) (yv : Int) :
 Qc7 lb n (nE + 1) jk a2 oL gg yv =
 bif (decide (yv < (gg.2.length : Int))) then
 (optO (CV.asL oL) fun p58 =>
 optO (atL p58.2 yv) fun zh =>
 chkO (zh.length == 1) (
 optO (zh[0]?) fun wz =>
 optO (CV.asL wz) fun u6 =>
 optO (atL u6.2 0) fun oR =>
 chkO (oR.length == 1) (
 optO (oR[0]?) fun wx =>
 optO (CV.asN wx) fun ui =>
 optO (atL a2 ui) fun zb =>
 chkO (zb.length == 1) (
 optO (zb[0]?) fun s4 =>
 optO (CV.asI .i64 s4) fun o9 =>
 bif (decide (o9 > 0)) then
 (optO (CV.asL wz) fun uX =>
 bif ((uX.2.length : Int) == 1) then
 (some (.int .i64 18))
 else
 (optO (CV.asL wz) fun p70 =>
 optO (CV.asL wz) fun p71 =>
 optO (atL p71.2 (IntKind.wrap .i64 ((p70.2.length : Int) - 1))) fun ze =>
 chkO (ze.length == 1) (
 optO (ze[0]?) fun qP =>
 optO (CV.asI .i64 qP) fun qw =>
 chkO (a2.all (·.length == 1)) (
 chkO (decide ((0 : Int) ≤ (IntKind.wrap .i64 (qw + 1)) ∧ (IntKind.wrap .i64 (qw + 1)) ≤ (a2.length : Int))) (
 optO (C lb n Qbo [.list jk ((a2.take ((a2.length : Int).toNat)).drop ((IntKind.wrap .i64 (qw + 1)).toNat)),s4]) fun qT =>
 optO (CV.asB qT) fun sG =>
 bif sG then
 (some (.int .i64 18))
 else
 (Qc7 lb n nE jk a2 oL gg (IntKind.wrap .i64 (yv + 1))))))))
 else
 (Qc7 lb n nE jk a2 oL gg (IntKind.wrap .i64 (yv + 1)))))))
 else
 (Qkc lb n jk a2 ) := (Qac _).trans (by kernel_rfl)
theorem Qne (lb n : Nat) (jk : Bool) (a2 : LL) :
 Qkd lb n jk a2 =
 optO (C lb n Qe2 [.list jk a2]) fun oL =>
 optO (CV.asL oL) fun gg =>
 Qc7 lb n n jk a2 oL gg 0 := (Qac _).trans (by kernel_rfl)
theorem Qgz (lb n kk : Nat) (jk : Bool) (a2 : LL) (i6 : Int) :
 marry_Check_L1 lb n (kk + 1) jk a2 i6 =
 bif (decide (i6 < (a2.length : Int))) then
 (optO (atL a2 i6) fun gS =>
 chkO (gS.length == 1) (
 optO (gS[0]?) fun ni =>
 optO (CV.asI .i64 ni) fun v8 =>
 bif (decide (v8 < 0)) then
 (some (.int .i64 2))
 else
 (marry_Check_L1 lb n kk jk a2 (IntKind.wrap .i64 (i6 + 1)))))
 else
 (Qkd lb n jk a2 ) := (Qac _).trans (by kernel_rfl)
theorem Qp8 (lb n : Nat) (jk : Bool) (a2 : LL) :
 top lb n QaM [.list jk a2] =
 marry_Check_L1 lb n n jk a2 0 := by kernel_rfl
theorem QjJ (lb n : Nat) (jk : Bool) (a2 : LL) (b3 : Int) :
 top lb n Qbo [.list jk a2, .int .i64 b3] =
 optO (C lb n QaU [.list jk a2, .int .i64 b3]) fun r4 =>
 optO (CV.asI .i64 r4) fun i5 =>
 some (.bool (decide (i5 ≥ 0))) := by kernel_rfl
noncomputable def Qdk (lb n qa : Nat) (jk : Bool) (a2 : LL) (b3 i7 : Int) : Option CV :=
 hold (Qav (E0 lb n 0 995) 0 (Qag (sub (B QaU) [1,0,1,0,0]) ++ [5]) [] (sub (B QaU) [1,0,1,0,0]) (Qak 0 (seqK (E0 lb n 0 998) (sub (B QaU) [1,0]) (sub (B QaU) [1,1]) (retK Tryz.prog (R QaU) 0 (outK (Qad Tryz.prog QaU))))) qa ⟨fr 19 [(0, .val (.list jk a2)),(1,vI b3),(4,vI 0),(6, .val (.list jk a2)),(7, .val (.int .i64 (a2.length : Int))),(8,vI i7)],[bx 19 []],KK⟩)
noncomputable def QgG (lb n : Nat) (jk : Bool) (a2 : LL) (b3 : Int) : Option CV :=
 hold (E0 lb n 0 998 (sub (B QaU) [1,1]) (retK Tryz.prog (R QaU) 0 (outK (Qad Tryz.prog QaU))) ⟨fr 19 [(0, .val (.list jk a2)),(1,vI b3),(4,vI 0)],[bx 19 []],KK⟩)
theorem QjI (lb n : Nat) (jk : Bool) (a2 : LL) (b3 : Int) :
 QgG lb n jk a2 b3 =
 some (.int .i64 (-1)) := (Qac _).trans (by kernel_rfl)
theorem QeE (lb n qa : Nat) (jk : Bool) (a2 : LL) (b3 i7 : Int) :
 Qdk lb n (qa + 1) jk a2 b3 i7 =
 bif (decide (i7 < (a2.length : Int))) then
 (optO (atL a2 i7) fun jp =>
 chkO (jp.length == 1) (
 optO (jp[0]?) fun nC =>
 optO (CV.asI .i64 nC) fun ww =>
 bif (b3 == ww) then
 (some (.int .i64 i7))
 else
 (Qdk lb n qa jk a2 b3 (IntKind.wrap .i64 (i7 + 1)))))
 else
 (QgG lb n jk a2 b3 ) := (Qac _).trans (by kernel_rfl)
theorem QlG (lb n : Nat) (jk : Bool) (a2 : LL) (b3 : Int) :
 top lb n QaU [.list jk a2, .int .i64 b3] =
 Qdk lb n n jk a2 b3 0 := by kernel_rfl
noncomputable def QcW (lb n qe : Nat) (jk : Bool) (a2 yn : LL) (yq : Int) : Option CV :=
 hold (Qav (E0 lb n 0 994) 0 (Qag (sub (B QaP) [1,1,0,1,0,0]) ++ []) [5] (sub (B QaP) [1,1,0,1,0,0]) (Qak 0 (seqK (E0 lb n 0 997) (sub (B QaP) [1,1,0]) (sub (B QaP) [1,1,1]) (retK Tryz.prog (R QaP) 0 (outK (Qad Tryz.prog QaP))))) qe ⟨fr 22 [(0, .val (.list jk a2)),(2, .lst true true 3 []),(3, .lst true false 3 yn),(6, .val (.list jk a2)),(7, .val (.int .i64 (a2.length : Int))),(8, .val (.list false [])),(9, .val (.list jk a2)),(10, .val (.int .i64 (a2.length : Int))),(11,vI yq)],[bx 22 []],KK⟩)
noncomputable def Qgf (lb n : Nat) (jk : Bool) (a2 : LL) (pQ : Bool) (pV : LL) : Option CV :=
 hold (E0 lb n 0 997 (sub (B QaP) [1,1,1]) (retK Tryz.prog (R QaP) 0 (outK (Qad Tryz.prog QaP))) ⟨fr 22 [(0, .val (.list jk a2)),(2, .lst true true 3 []),(3, .lst true pQ 3 pV),(6, .val (.list jk a2)),(7, .val (.int .i64 (a2.length : Int))),(8, .val (.list false []))],[bx 22 []],KK⟩)
theorem QiZ (lb n : Nat) (jk : Bool) (a2 : LL) (pQ : Bool) (pV : LL) :
 Qgf lb n jk a2 pQ pV =
 some (.list pQ pV) := (Qac _).trans (by kernel_rfl)
theorem Qel (lb n qe : Nat) (jk : Bool) (a2 yn : LL) (yq : Int) :
 QcW lb n (qe + 1) jk a2 yn yq =
 bif (decide (yq < (a2.length : Int))) then
 (optO (atL a2 yq) fun kY =>
 chkO (kY.length == 10) (
 optO (kY[0]?) fun wj =>
 optO (kY[1]?) fun wd =>
 optO (kY[2]?) fun kQ =>
 optO (kY[3]?) fun gc =>
 optO (kY[4]?) fun go =>
 optO (kY[5]?) fun oQ =>
 optO (kY[6]?) fun pU =>
 optO (kY[7]?) fun gN =>
 optO (kY[8]?) fun gi =>
 optO (kY[9]?) fun oS =>
 chkO (CV.isCell oS) (
 chkO (room (yn.length + 1) 8) (
 QcW lb n qe jk a2 (yn ++ [[oS]]) (IntKind.wrap .i64 (yq + 1))))))
 else
 (Qgf lb n jk a2 false yn) := (Qac _).trans (by kernel_rfl)
theorem Qlb (lb n : Nat) (jk : Bool) (a2 : LL) :
 top lb n QaP [.list jk a2] =
 chkO (decide (0 ≤ (0 : Int)) && decide ((0 : Int) ≤ ((a2.length : Int) : Int)) && decide (((a2.length : Int) : Int) * 8 ≤ 140737488355328) && decide (((a2.length : Int) : Int) ≤ 140737488355328)) (
 QcW lb n n jk a2 [] 0) := by kernel_rfl
theorem Qmz (lb n : Nat) (a1 : LB) :
 top lb n QcR [.str a1] =
 optO (C lb n Qed [.str a1, .int .i64 6, .int .i64 6]) fun r2 =>
 some (r2) := by kernel_rfl
noncomputable def Qc5 (lb n : Nat) (awansegcar1 : LB) (awansegnum2 awansegday3 : Int) (awansegfro4 jo : LB) (awansegdep6 awansegarr7 : Int) (jz : LB) (jD jE : Int) (vH : Bool) (yn : LL) : Option CV :=
 hold (E0 lb n 0 996 (sub (B Qbe) [1,1,1,1]) (retK Tryz.prog (R Qbe) 0 (outK (Qad Tryz.prog Qbe))) ⟨fr 67 [(0, .val (.agg [.str awansegcar1, .int .i64 awansegnum2, .int .i64 awansegday3, .str awansegfro4, .str jo, .int .i64 awansegdep6, .int .i64 awansegarr7, .str jz, .int .i64 jD, .int .i64 jE])),(1, .ptr 0 1 0),(2, .lst true true 31 []),(3, .lst true vH 31 yn),(4, .ptr 0 4 0),(7, .ptr 0 1 0),(8, .ptr 0 1 0),(9, .val (.agg [.str awansegcar1, .int .i64 awansegnum2, .int .i64 awansegday3, .str awansegfro4, .str jo, .int .i64 awansegdep6, .int .i64 awansegarr7]))],[bx 67 [(1,some [vS awansegcar1,vI awansegnum2,vI awansegday3,vS awansegfro4,vS jo,vI awansegdep6,vI awansegarr7,vS jz,vI jD,vI jE]),(4,some [vS awansegcar1,vI awansegnum2,vI awansegday3,vS awansegfro4,vS jo,vI awansegdep6,vI awansegarr7])]],KK⟩)
noncomputable def Qc4 (lb n : Nat) (awansegcar1 : LB) (awansegnum2 awansegday3 : Int) (awansegfro4 jo : LB) (awansegdep6 awansegarr7 : Int) (jz : LB) (jD jE : Int) (oe : Bool) (vh : LL) : Option CV :=
 hold (E0 lb n 0 995 (sub (B Qbe) [1,1,1,1,1]) (retK Tryz.prog (R Qbe) 0 (outK (Qad Tryz.prog Qbe))) ⟨fr 67 [(0, .val (.agg [.str awansegcar1, .int .i64 awansegnum2, .int .i64 awansegday3, .str awansegfro4, .str jo, .int .i64 awansegdep6, .int .i64 awansegarr7, .str jz, .int .i64 jD, .int .i64 jE])),(1, .ptr 0 1 0),(2, .lst true true 31 []),(3, .lst true oe 31 vh),(4, .ptr 0 4 0),(7, .ptr 0 1 0),(8, .ptr 0 1 0),(9, .val (.agg [.str awansegcar1, .int .i64 awansegnum2, .int .i64 awansegday3, .str awansegfro4, .str jo, .int .i64 awansegdep6, .int .i64 awansegarr7]))],[bx 67 [(1,some [vS awansegcar1,vI awansegnum2,vI awansegday3,vS awansegfro4,vS jo,vI awansegdep6,vI awansegarr7,vS jz,vI jD,vI jE]),(4,some [vS awansegcar1,vI awansegnum2,vI awansegday3,vS awansegfro4,vS jo,vI awansegdep6,vI awansegarr7])]],KK⟩)
noncomputable def QeP (lb n : Nat) (awansegcar1 : LB) (awansegnum2 awansegday3 : Int) (awansegfro4 jo : LB) (awansegdep6 awansegarr7 : Int) (jz : LB) (jD jE : Int) (kB : Bool) (kF : LL) : Option CV :=
 hold (E0 lb n 0 994 (sub (B Qbe) [1,1,1,1,1,1]) (retK Tryz.prog (R Qbe) 0 (outK (Qad Tryz.prog Qbe))) ⟨fr 67 [(0, .val (.agg [.str awansegcar1, .int .i64 awansegnum2, .int .i64 awansegday3, .str awansegfro4, .str jo, .int .i64 awansegdep6, .int .i64 awansegarr7, .str jz, .int .i64 jD, .int .i64 jE])),(1, .ptr 0 1 0),(2, .lst true true 31 []),(3, .lst true kB 31 kF),(4, .ptr 0 4 0),(7, .ptr 0 1 0),(8, .ptr 0 1 0),(9, .val (.agg [.str awansegcar1, .int .i64 awansegnum2, .int .i64 awansegday3, .str awansegfro4, .str jo, .int .i64 awansegdep6, .int .i64 awansegarr7]))],[bx 67 [(1,some [vS awansegcar1,vI awansegnum2,vI awansegday3,vS awansegfro4,vS jo,vI awansegdep6,vI awansegarr7,vS jz,vI jD,vI jE]),(4,some [vS awansegcar1,vI awansegnum2,vI awansegday3,vS awansegfro4,vS jo,vI awansegdep6,vI awansegarr7])]],KK⟩)
theorem Qm4 (lb n : Nat) (awansegcar1 : LB) (awansegnum2 awansegday3 : Int) (awansegfro4 jo : LB) (awansegdep6 awansegarr7 : Int) (jz : LB) (jD jE : Int) (kB : Bool) (kF : LL) :
 QeP lb n awansegcar1 awansegnum2 awansegday3 awansegfro4 jo awansegdep6 awansegarr7 jz jD jE kB kF =
 optO (C lb n QhO [.int .i64 jD]) fun jx =>
 optO (CV.asT jx) fun nB =>
 optO (nB[0]?) fun jO =>
 optO (CV.asT jx) fun sA =>
 optO (sA[1]?) fun wh =>
 optO (CV.asI .i64 wh) fun kX =>
 bif (kX != 0) then
 (chkO (room (kF.length + 1) 8) (
 some (.list (kB && false) (kF ++ [[CV.int .i64 10]]))))
 else
 (some (.list kB kF)) := (Qac _).trans (by kernel_rfl)
theorem Qm6 (lb n : Nat) (awansegcar1 : LB) (awansegnum2 awansegday3 : Int) (awansegfro4 jo : LB) (awansegdep6 awansegarr7 : Int) (jz : LB) (jD jE : Int) (oe : Bool) (vh : LL) :
 Qc4 lb n awansegcar1 awansegnum2 awansegday3 awansegfro4 jo awansegdep6 awansegarr7 jz jD jE oe vh =
 optO (C lb n Qim [.str jz]) fun jJ =>
 optO (CV.asB jJ) fun ke =>
 bif (!ke) then
 (chkO (room (vh.length + 1) 8) (
 QeP lb n awansegcar1 awansegnum2 awansegday3 awansegfro4 jo awansegdep6 awansegarr7 jz jD jE (oe && false) (vh ++ [[CV.int .i64 16]])))
 else
 (QeP lb n awansegcar1 awansegnum2 awansegday3 awansegfro4 jo awansegdep6 awansegarr7 jz jD jE oe vh) := (Qac _).trans (by kernel_rfl)
theorem QmZ (lb n : Nat) (awansegcar1 : LB) (awansegnum2 awansegday3 : Int) (awansegfro4 jo : LB) (awansegdep6 awansegarr7 : Int) (jz : LB) (jD jE : Int) (vH : Bool) (yn : LL) :
 Qc5 lb n awansegcar1 awansegnum2 awansegday3 awansegfro4 jo awansegdep6 awansegarr7 jz jD jE vH yn =
 bif (decide (awansegdep6 < 0)) then
 (chkO (room (yn.length + 1) 8) (
 Qc4 lb n awansegcar1 awansegnum2 awansegday3 awansegfro4 jo awansegdep6 awansegarr7 jz jD jE (vH && false) (yn ++ [[CV.int .i64 13]])))
 else
 (bif (decide (awansegdep6 ≥ awansegarr7)) then
 (chkO (room (yn.length + 1) 8) (
 Qc4 lb n awansegcar1 awansegnum2 awansegday3 awansegfro4 jo awansegdep6 awansegarr7 jz jD jE (vH && false) (yn ++ [[CV.int .i64 13]])))
 else
 (bif (decide (awansegarr7 ≥ 52596000)) then
 (chkO (room (yn.length + 1) 8) (
 Qc4 lb n awansegcar1 awansegnum2 awansegday3 awansegfro4 jo awansegdep6 awansegarr7 jz jD jE (vH && false) (yn ++ [[CV.int .i64 13]])))
 else
 (Qc4 lb n awansegcar1 awansegnum2 awansegday3 awansegfro4 jo awansegdep6 awansegarr7 jz jD jE vH yn))) := (Qac _).trans (by kernel_rfl)
theorem QpL (lb n : Nat) (awansegcar1 : LB) (awansegnum2 awansegday3 : Int) (awansegfro4 jo : LB) (awansegdep6 awansegarr7 : Int) (jz : LB) (jD jE : Int) :
 top lb n Qbe [.agg [.str awansegcar1, .int .i64 awansegnum2, .int .i64 awansegday3, .str awansegfro4, .str jo, .int .i64 awansegdep6, .int .i64 awansegarr7, .str jz, .int .i64 jD, .int .i64 jE]] =
 optO (C lb n QgQ [.str awansegcar1]) fun kV =>
 optO (CV.asB kV) fun yL =>
 bif (!yL) then
 (Qc5 lb n awansegcar1 awansegnum2 awansegday3 awansegfro4 jo awansegdep6 awansegarr7 jz jD jE false [[CV.int .i64 5]])
 else
 (optO (C lb n QeR [.str awansegfro4]) fun sV =>
 optO (CV.asB sV) fun sD =>
 bif (!sD) then
 (Qc5 lb n awansegcar1 awansegnum2 awansegday3 awansegfro4 jo awansegdep6 awansegarr7 jz jD jE false [[CV.int .i64 5]])
 else
 (optO (C lb n QeR [.str jo]) fun sq =>
 optO (CV.asB sq) fun qm =>
 bif (!qm) then
 (Qc5 lb n awansegcar1 awansegnum2 awansegday3 awansegfro4 jo awansegdep6 awansegarr7 jz jD jE false [[CV.int .i64 5]])
 else
 (Qc5 lb n awansegcar1 awansegnum2 awansegday3 awansegfro4 jo awansegdep6 awansegarr7 jz jD jE true []))) := by kernel_rfl
end Go.Proofs
