/- Equations of functions, printed by program. Conditions: none. -/
import Derived.Test.YtbdclhadjcfadaaGreatDoorEv
namespace Go.Proofs
open Go.Am
set_option maxRecDepth 100000
set_option linter.unusedVariables false
theorem QoT (lb n) (a1:LB) :
 top lb n QeE [.str a1] =
 bif ((a1.length:Int) != 10) then
 (some (.tup [.int .i64 0, .int .i64 3]))
 else
 (optO (atS a1 4) fun c2 =>
 bif ((c2.toNat:Int) != 45) then
 (some (.tup [.int .i64 0, .int .i64 3]))
 else
 (optO (atS a1 7) fun c3 =>
 bif ((c3.toNat:Int) != 45) then
 (some (.tup [.int .i64 0, .int .i64 3]))
 else
 (chkO (decide ((0:Int) ≤ 4 ∧ 4 ≤ (a1.length:Int))) (
 optO (C lb n QaK [.str ((a1.take 4).drop 0)]) fun r4 =>
 optO (CV.asT r4) fun t5 =>
 optO (t5[0]?) fun x6 =>
 optO (CV.asT r4) fun t7 =>
 optO (t7[1]?) fun x9 =>
 chkO (decide ((0:Int) ≤ 7 ∧ 7 ≤ (a1.length:Int))) (
 optO (C lb n QaK [.str ((a1.take 7).drop 5)]) fun nX =>
 optO (CV.asT nX) fun oh =>
 optO (oh[0]?) fun jE =>
 optO (CV.asT nX) fun rd =>
 optO (rd[1]?) fun y6 =>
 chkO (decide ((0:Int) ≤ 8 ∧ 8 ≤ (a1.length:Int))) (
 optO (C lb n QaK [.str ((a1.take ((a1.length:Int).toNat)).drop 8)]) fun yk =>
 optO (CV.asT yk) fun oe =>
 optO (oe[0]?) fun oz =>
 optO (CV.asT yk) fun y0 =>
 optO (y0[1]?) fun jq =>
 optO (CV.asB x9) fun yN =>
 bif (!yN) then
 (some (.tup [.int .i64 0, .int .i64 3]))
 else
 (optO (CV.asB y6) fun yY =>
 bif (!yY) then
 (some (.tup [.int .i64 0, .int .i64 3]))
 else
 (optO (CV.asB jq) fun nC =>
 bif (!nC) then
 (some (.tup [.int .i64 0, .int .i64 3]))
 else
 (optO (C lb n Qbo [x6,jE,oz]) fun ol =>
 optO (CV.asT ol) fun ld =>
 optO (ld[0]?) fun oG =>
 optO (CV.asT ol) fun zI =>
 optO (zI[1]?) fun np =>
 some (.tup [oG,np])))))))))) := by kernel_rfl
noncomputable def calendar_digits_L1 :=
 fun lb n (ya:Nat) a1 i5 i6 =>
 hold (Qau (E0 lb n 0 994) 0 (Qah (sub (B QaK) [1,1,0,1,0,0]) ++ [5]) [] (sub (B QaK) [1,1,0,1,0,0]) (Qak 0 (seqK (E0 lb n 0 997) (sub (B QaK) [1,1,0]) (sub (B QaK) [1,1,1]) (retK Tryz.prog (R QaK) 0 (outK (Qag Tryz.prog QaK))))) ya ⟨fr 31 [(0,vS a1),(2,vI 0),(3,vB false),(4,vI i5),(6,vS a1),(7, .val (.int .i64 (a1.length:Int))),(8,vI i6)],[bx 31 []],KK⟩)
noncomputable def Qij (lb n:Nat) (a1:LB) (we:Int):Option CV :=
 hold (E0 lb n 0 997 (sub (B QaK) [1,1,1]) (retK Tryz.prog (R QaK) 0 (outK (Qag Tryz.prog QaK))) ⟨fr 31 [(0,vS a1),(2,vI 0),(3,vB false),(4,vI we)],[bx 31 []],KK⟩)
theorem QlO (lb n:Nat) (a1:LB) (we:Int) :
 Qij lb n a1 we =
 some (.tup [.int .i64 we, .bool true]) := (Qac _).trans (by kernel_rfl)
theorem QfL (lb n ya:Nat) (a1:LB) (i5 i6:Int) :
 calendar_digits_L1 lb n (ya + 1) a1 i5 i6 =
 bif (decide (i6 < (a1.length:Int))) then
 (optO (atS a1 i6) fun oD =>
 bif (decide ((oD.toNat:Int) < 48)) then
 (some (.tup [.int .i64 0, .bool false]))
 else
 (optO (atS a1 i6) fun j8 =>
 bif (decide ((j8.toNat:Int) > 57)) then
 (some (.tup [.int .i64 0, .bool false]))
 else
 (optO (atS a1 i6) fun js =>
 calendar_digits_L1 lb n ya a1 (IntKind.wrap .i64 ((IntKind.wrap .i64 (10 * i5)) + (IntKind.wrap .i64 (IntKind.wrap .u8 ((js.toNat:Int) - 48))))) (IntKind.wrap .i64 (i6 + 1)))))
 else
 (Qij lb n a1 i5) := (Qac _).trans (by kernel_rfl)
theorem Qoc (lb n:Nat) (a1:LB) :
 top lb n QaK [.str a1] =
 calendar_digits_L1 lb n n a1 0 0 := by kernel_rfl
noncomputable def Qfd (lb n gC:Nat) (a1 b2 c3:Int) (r6:CV) (i7 wa wu:Int):Option CV :=
 hold (Qau (E0 lb n 0 993) 0 (Qah (sub (B Qbo) [1,1,1,0,1,0,0]) ++ [9]) [] (sub (B Qbo) [1,1,1,0,1,0,0]) (Qak 0 (seqK (E0 lb n 0 996) (sub (B Qbo) [1,1,1,0]) (sub (B Qbo) [1,1,1,1]) (retK Tryz.prog (R Qbo) 0 (outK (Qag Tryz.prog Qbo))))) gC ⟨fr 53 [(0,vI a1),(1,vI b2),(2,vI c3),(6,vI 0),(7,vI 0),(8,vI wa),(35,vI a1),(36,vV r6),(37,vI c3),(38, .val (.int .i64 (IntKind.wrap .i64 (i7 + c3)))),(39, .val (.int .i64 (IntKind.wrap .i64 ((IntKind.wrap .i64 (i7 + c3)) - 1)))),(40,vI b2),(41, .val (.int .i64 (IntKind.wrap .i64 (b2 - 1)))),(42,vI wu)],[bx 53 []],KK⟩)
noncomputable def QkR (lb n:Nat) (a1 b2 c3:Int) (r6:CV) (i7 jY:Int):Option CV :=
 hold (E0 lb n 0 996 (sub (B Qbo) [1,1,1,1]) (retK Tryz.prog (R Qbo) 0 (outK (Qag Tryz.prog Qbo))) ⟨fr 53 [(0,vI a1),(1,vI b2),(2,vI c3),(6,vI 0),(7,vI 0),(8,vI jY),(35,vI a1),(36,vV r6),(37,vI c3),(38, .val (.int .i64 (IntKind.wrap .i64 (i7 + c3)))),(39, .val (.int .i64 (IntKind.wrap .i64 ((IntKind.wrap .i64 (i7 + c3)) - 1))))],[bx 53 []],KK⟩)
theorem Qn5 (lb n:Nat) (a1 b2 c3:Int) (r6:CV) (i7 jY:Int) :
 QkR lb n a1 b2 c3 r6 i7 jY =
 some (.tup [.int .i64 jY, .int .i64 0]) := (Qac _).trans (by kernel_rfl)
theorem Qg2 (lb n gC:Nat) (a1 b2 c3:Int) (r6:CV) (i7 wa wu:Int) :
 Qfd lb n (gC + 1) a1 b2 c3 r6 i7 wa wu =
 bif (decide (wu < (IntKind.wrap .i64 (b2 - 1)))) then
 (optO (C lb n QbK [.int .i64 a1, .int .i64 (IntKind.wrap .i64 (wu + 1))]) fun wi =>
 optO (CV.asI .i64 wi) fun jC =>
 Qfd lb n gC a1 b2 c3 r6 i7 (IntKind.wrap .i64 (wa + jC)) (IntKind.wrap .i64 (wu + 1)))
 else
 (QkR lb n a1 b2 c3 r6 i7 wa) := (Qac _).trans (by kernel_rfl)
theorem Qq4 (lb n:Nat) (a1 b2 c3:Int) :
 top lb n Qbo [.int .i64 a1, .int .i64 b2, .int .i64 c3] =
 bif (decide (a1 < 2000)) then
 (some (.tup [.int .i64 0, .int .i64 12]))
 else
 (bif (decide (a1 > 2099)) then
 (some (.tup [.int .i64 0, .int .i64 12]))
 else
 (bif (decide (b2 < 1)) then
 (some (.tup [.int .i64 0, .int .i64 12]))
 else
 (bif (decide (b2 > 12)) then
 (some (.tup [.int .i64 0, .int .i64 12]))
 else
 (bif (decide (c3 < 1)) then
 (some (.tup [.int .i64 0, .int .i64 12]))
 else
 (optO (C lb n QbK [.int .i64 a1, .int .i64 b2]) fun r4 =>
 optO (CV.asI .i64 r4) fun i5 =>
 bif (decide (c3 > i5)) then
 (some (.tup [.int .i64 0, .int .i64 12]))
 else
 (optO (C lb n QdP [.int .i64 a1]) fun r6 =>
 optO (CV.asI .i64 r6) fun i7 =>
 Qfd lb n n a1 b2 c3 r6 i7 (IntKind.wrap .i64 ((IntKind.wrap .i64 (i7 + c3)) - 1)) 0)))))) := by kernel_rfl
theorem QuE (lb n:Nat) (a1:LB) :
 top lb n Qh0 [.str a1] =
 bif ((a1.length:Int) != 10) then
 (some (.tup [.int .i64 0, .int .i64 3]))
 else
 (optO (atS a1 4) fun c2 =>
 bif ((c2.toNat:Int) != 45) then
 (some (.tup [.int .i64 0, .int .i64 3]))
 else
 (optO (atS a1 7) fun c3 =>
 bif ((c3.toNat:Int) != 45) then
 (some (.tup [.int .i64 0, .int .i64 3]))
 else
 (optO (C lb n Qa3 [.str a1, .int .i64 0, .int .i64 4]) fun r4 =>
 optO (C lb n Qa3 [.str a1, .int .i64 5, .int .i64 2]) fun r5 =>
 optO (C lb n Qa3 [.str a1, .int .i64 8, .int .i64 2]) fun r6 =>
 optO (CV.asI .i64 r4) fun i7 =>
 bif (decide (i7 < 0)) then
 (some (.tup [.int .i64 0, .int .i64 3]))
 else
 (optO (CV.asI .i64 r5) fun i9 =>
 bif (decide (i9 < 0)) then
 (some (.tup [.int .i64 0, .int .i64 3]))
 else
 (optO (CV.asI .i64 r6) fun jv =>
 bif (decide (jv < 0)) then
 (some (.tup [.int .i64 0, .int .i64 3]))
 else
 (optO (C lb n Qay [r4,r5,r6]) fun nM =>
 optO (CV.asT nM) fun kf =>
 optO (kf[0]?) fun yR =>
 optO (CV.asT nM) fun rm =>
 optO (rm[1]?) fun jn =>
 some (.tup [yR,jn]))))))) := by kernel_rfl
noncomputable def Qgg (lb n ye:Nat) (a1:LB) (b2 c3 i7 i9:Int):Option CV :=
 hold (Qau (E0 lb n 0 994) 0 (Qah (sub (B Qa3) [1,1,0,1,0,0]) ++ []) [] (sub (B Qa3) [1,1,0,1,0,0]) (Qak 0 (seqK (E0 lb n 0 997) (sub (B Qa3) [1,1,0]) (sub (B Qa3) [1,1,1]) (retK Tryz.prog (R Qa3) 0 (outK (Qag Tryz.prog Qa3))))) ye ⟨fr 36 [(0,vS a1),(1,vI b2),(2,vI c3),(6,vI 0),(7,vI i7),(8,vI i9),(9,vI b2)],[bx 36 []],KK⟩)
noncomputable def QmX (lb n:Nat) (a1:LB) (b2 c3 jC jY:Int):Option CV :=
 hold (E0 lb n 0 997 (sub (B Qa3) [1,1,1]) (retK Tryz.prog (R Qa3) 0 (outK (Qag Tryz.prog Qa3))) ⟨fr 36 [(0,vS a1),(1,vI b2),(2,vI c3),(6,vI 0),(7,vI jC),(8,vI jY)],[bx 36 []],KK⟩)
theorem Qp3 (lb n:Nat) (a1:LB) (b2 c3 jC jY:Int) :
 QmX lb n a1 b2 c3 jC jY =
 some (.int .i64 jC) := (Qac _).trans (by kernel_rfl)
theorem Qio (lb n ye:Nat) (a1:LB) (b2 c3 i7 i9:Int) :
 Qgg lb n (ye + 1) a1 b2 c3 i7 i9 =
 bif (decide (i9 < (IntKind.wrap .i64 (b2 + c3)))) then
 (optO (atS a1 i9) fun js =>
 bif (decide ((js.toNat:Int) < 48)) then
 (some (.int .i64 (-1)))
 else
 (optO (atS a1 i9) fun jI =>
 bif (decide ((jI.toNat:Int) > 57)) then
 (some (.int .i64 (-1)))
 else
 (optO (atS a1 i9) fun lJ =>
 Qgg lb n ye a1 b2 c3 (IntKind.wrap .i64 ((IntKind.wrap .i64 (10 * i7)) + (IntKind.wrap .i64 (IntKind.wrap .u8 ((lJ.toNat:Int) - 48))))) (IntKind.wrap .i64 (i9 + 1)))))
 else
 (QmX lb n a1 b2 c3 i7 i9) := (Qac _).trans (by kernel_rfl)
theorem Qul (lb n:Nat) (a1:LB) (b2 c3:Int) :
 top lb n Qa3 [.str a1, .int .i64 b2, .int .i64 c3] =
 Qgg lb n n a1 b2 c3 0 b2 := by kernel_rfl
noncomputable def Qg7 (lb n yp:Nat) (a1 b2 c3 we jB:Int):Option CV :=
 hold (Qau (E0 lb n 0 993) 0 (Qah (sub (B Qay) [1,1,1,0,1,0,0]) ++ [10,10]) [] (sub (B Qay) [1,1,1,0,1,0,0]) (Qak 0 (seqK (E0 lb n 0 996) (sub (B Qay) [1,1,1,0]) (sub (B Qay) [1,1,1,1]) (retK Tryz.prog (R Qay) 0 (outK (Qag Tryz.prog Qay))))) yp ⟨fr 64 [(0,vI a1),(1,vI b2),(2,vI c3),(6,vI 0),(7,vI 0),(8,vI we),(9,vI jB),(37,vI c3),(38, .val (.int .i64 (IntKind.wrap .i64 (c3 - 1))))],[bx 64 []],KK⟩)
noncomputable def Qjb (lb n gI yp:Nat) (a1 b2 c3 jB y9 wx:Int):Option CV :=
 hold (Qau (E0 lb n 0 987) 0 (Qah (sub (B Qay) [1,1,1,0,1,0,0,1,0,0,1,0,0]) ++ []) [] (sub (B Qay) [1,1,1,0,1,0,0,1,0,0,1,0,0]) (Qak 2 (Qak 1 (seqK (E0 lb n 0 991) (sub (B Qay) [1,1,1,0,1,0,0,1,0]) (sub (B Qay) [1,1,1,0,1,0,0,1,1]) (Qde 0 (Qah (sub (B Qay) [1,1,1,0,1,0,0]) ++ [10,10]) [] (Qau (E0 lb n 0 993) 0 (Qah (sub (B Qay) [1,1,1,0,1,0,0]) ++ [10,10]) [] (sub (B Qay) [1,1,1,0,1,0,0]) (Qak 0 (seqK (E0 lb n 0 996) (sub (B Qay) [1,1,1,0]) (sub (B Qay) [1,1,1,1]) (retK Tryz.prog (R Qay) 0 (outK (Qag Tryz.prog Qay))))) yp) (Qak 0 (seqK (E0 lb n 0 996) (sub (B Qay) [1,1,1,0]) (sub (B Qay) [1,1,1,1]) (retK Tryz.prog (R Qay) 0 (outK (Qag Tryz.prog Qay))))))))) gI ⟨fr 64 [(0,vI a1),(1,vI b2),(2,vI c3),(6,vI 0),(7,vI 0),(8,vI y9),(9,vI jB),(10,vI wx),(37,vI c3),(38, .val (.int .i64 (IntKind.wrap .i64 (c3 - 1))))],[bx 64 []],KK⟩)
noncomputable def Qrb (lb n yp:Nat) (a1 b2 c3 jB i37 y7:Int):Option CV :=
 hold (E0 lb n 0 991 (sub (B Qay) [1,1,1,0,1,0,0,1,1]) (Qde 0 (Qah (sub (B Qay) [1,1,1,0,1,0,0]) ++ [10,10]) [] (Qau (E0 lb n 0 993) 0 (Qah (sub (B Qay) [1,1,1,0,1,0,0]) ++ [10,10]) [] (sub (B Qay) [1,1,1,0,1,0,0]) (Qak 0 (seqK (E0 lb n 0 996) (sub (B Qay) [1,1,1,0]) (sub (B Qay) [1,1,1,1]) (retK Tryz.prog (R Qay) 0 (outK (Qag Tryz.prog Qay))))) yp) (Qak 0 (seqK (E0 lb n 0 996) (sub (B Qay) [1,1,1,0]) (sub (B Qay) [1,1,1,1]) (retK Tryz.prog (R Qay) 0 (outK (Qag Tryz.prog Qay)))))) ⟨fr 64 [(0,vI a1),(1,vI b2),(2,vI c3),(6,vI 0),(7,vI 0),(8,vI i37),(9,vI jB),(10,vI y7),(37,vI c3),(38, .val (.int .i64 (IntKind.wrap .i64 (c3 - 1))))],[bx 64 []],KK⟩)
theorem Que (lb n yp:Nat) (a1 b2 c3 jB i37 y7:Int) :
 Qrb lb n yp a1 b2 c3 jB i37 y7 =
 Qg7 lb n yp a1 b2 c3 i37 (IntKind.wrap .i64 (jB + 1)) := (Qac _).trans (by kernel_rfl)
theorem QkL (lb n gI yp:Nat) (a1 b2 c3 jB y9 wx:Int) :
 Qjb lb n (gI + 1) yp a1 b2 c3 jB y9 wx =
 bif (decide (wx ≤ 12)) then
 (optO (C lb n Qbb [.int .i64 jB, .int .i64 wx]) fun oo =>
 optO (CV.asI .i64 oo) fun wq =>
 Qjb lb n gI yp a1 b2 c3 jB (IntKind.wrap .i64 (y9 + wq)) (IntKind.wrap .i64 (wx + 1)))
 else
 (Qrb lb n yp a1 b2 c3 jB y9 wx) := (Qac _).trans (by kernel_rfl)
noncomputable def QqD (lb n:Nat) (a1 b2 c3 wc j0:Int):Option CV :=
 hold (E0 lb n 0 996 (sub (B Qay) [1,1,1,1]) (retK Tryz.prog (R Qay) 0 (outK (Qag Tryz.prog Qay))) ⟨fr 64 [(0,vI a1),(1,vI b2),(2,vI c3),(6,vI 0),(7,vI 0),(8,vI wc),(9,vI j0),(37,vI c3),(38, .val (.int .i64 (IntKind.wrap .i64 (c3 - 1))))],[bx 64 []],KK⟩)
noncomputable def Qjh (lb n vu:Nat) (a1 b2 c3 j0 ke ki:Int):Option CV :=
 hold (Qau (E0 lb n 0 992) 0 (Qah (sub (B Qay) [1,1,1,1,0,1,0,0]) ++ []) [] (sub (B Qay) [1,1,1,1,0,1,0,0]) (Qak 4 (seqK (E0 lb n 0 995) (sub (B Qay) [1,1,1,1,0]) (sub (B Qay) [1,1,1,1,1]) (retK Tryz.prog (R Qay) 0 (outK (Qag Tryz.prog Qay))))) vu ⟨fr 64 [(0,vI a1),(1,vI b2),(2,vI c3),(6,vI 0),(7,vI 0),(8,vI ke),(9,vI j0),(11,vI ki),(37,vI c3),(38, .val (.int .i64 (IntKind.wrap .i64 (c3 - 1))))],[bx 64 []],KK⟩)
noncomputable def Qre (lb n:Nat) (a1 b2 c3 j0 wm i51:Int):Option CV :=
 hold (E0 lb n 0 995 (sub (B Qay) [1,1,1,1,1]) (retK Tryz.prog (R Qay) 0 (outK (Qag Tryz.prog Qay))) ⟨fr 64 [(0,vI a1),(1,vI b2),(2,vI c3),(6,vI 0),(7,vI 0),(8,vI wm),(9,vI j0),(11,vI i51),(37,vI c3),(38, .val (.int .i64 (IntKind.wrap .i64 (c3 - 1))))],[bx 64 []],KK⟩)
theorem QtH (lb n:Nat) (a1 b2 c3 j0 wm i51:Int) :
 Qre lb n a1 b2 c3 j0 wm i51 =
 some (.tup [.int .i64 wm, .int .i64 0]) := (Qac _).trans (by kernel_rfl)
theorem Qkx (lb n vu:Nat) (a1 b2 c3 j0 ke ki:Int) :
 Qjh lb n (vu + 1) a1 b2 c3 j0 ke ki =
 bif (decide (ki < b2)) then
 (optO (C lb n Qbb [.int .i64 a1, .int .i64 ki]) fun yW =>
 optO (CV.asI .i64 yW) fun ym =>
 Qjh lb n vu a1 b2 c3 j0 (IntKind.wrap .i64 (ke + ym)) (IntKind.wrap .i64 (ki + 1)))
 else
 (Qre lb n a1 b2 c3 j0 ke ki) := (Qac _).trans (by kernel_rfl)
theorem Qt8 (lb n:Nat) (a1 b2 c3 wc j0:Int) :
 QqD lb n a1 b2 c3 wc j0 =
 Qjh lb n n a1 b2 c3 j0 wc 1 := (Qac _).trans (by kernel_rfl)
theorem Qkv (lb n yp:Nat) (a1 b2 c3 we jB:Int) :
 Qg7 lb n (yp + 1) a1 b2 c3 we jB =
 bif (decide (jB < a1)) then
 (Qjb lb n n yp a1 b2 c3 jB we 1)
 else
 (QqD lb n a1 b2 c3 we jB) := (Qac _).trans (by kernel_rfl)
theorem Qyc (lb n:Nat) (a1 b2 c3:Int) :
 top lb n Qay [.int .i64 a1, .int .i64 b2, .int .i64 c3] =
 bif (decide (a1 < 2000)) then
 (some (.tup [.int .i64 0, .int .i64 12]))
 else
 (bif (decide (a1 > 2099)) then
 (some (.tup [.int .i64 0, .int .i64 12]))
 else
 (bif (decide (b2 < 1)) then
 (some (.tup [.int .i64 0, .int .i64 12]))
 else
 (bif (decide (b2 > 12)) then
 (some (.tup [.int .i64 0, .int .i64 12]))
 else
 (bif (decide (c3 < 1)) then
 (some (.tup [.int .i64 0, .int .i64 12]))
 else
 (optO (C lb n Qbb [.int .i64 a1, .int .i64 b2]) fun r4 =>
 optO (CV.asI .i64 r4) fun i5 =>
 bif (decide (c3 > i5)) then
 (some (.tup [.int .i64 0, .int .i64 12]))
 else
 (Qg7 lb n n a1 b2 c3 (IntKind.wrap .i64 (c3 - 1)) 2000)))))) := by kernel_rfl
theorem QrC (lb n:Nat) (a1:LB) :
 top lb n Qek [.str a1] =
 optO (C lb n QcE [.str a1, .str [47]]) fun r2 =>
 optO (CV.asL r2) fun p3 =>
 bif ((p3.2.length:Int) != 3) then
 (some (.tup [.agg [.int .i64 0, .int .i64 0, .int .i64 0], .int .i64 3]))
 else
 (optO (CV.asL r2) fun p4 =>
 optO (atL p4.2 0) fun c5 =>
 chkO (c5.length == 1) (
 optO (c5[0]?) fun x6 =>
 optO (C lb n QeE [x6]) fun r7 =>
 optO (CV.asT r7) fun t9 =>
 optO (t9[0]?) fun jt =>
 optO (CV.asT r7) fun oh =>
 optO (oh[1]?) fun jE =>
 optO (CV.asI .i64 jE) fun jm =>
 bif (jm != 0) then
 (some (.tup [.agg [.int .i64 0, .int .i64 0, .int .i64 0],jE]))
 else
 (optO (CV.asL r2) fun nA =>
 optO (atL nA.2 1) fun jI =>
 chkO (jI.length == 1) (
 optO (jI[0]?) fun jJ =>
 optO (C lb n QeE [jJ]) fun jA =>
 optO (CV.asT jA) fun y0 =>
 optO (y0[0]?) fun jq =>
 optO (CV.asT jA) fun t21 =>
 optO (t21[1]?) fun jH =>
 optO (CV.asI .i64 jH) fun vT =>
 bif (vT != 0) then
 (some (.tup [.agg [.int .i64 0, .int .i64 0, .int .i64 0],jH]))
 else
 (optO (CV.asL r2) fun rk =>
 optO (atL rk.2 2) fun nH =>
 chkO (nH.length == 1) (
 optO (nH[0]?) fun oG =>
 optO (C lb n Qa5 [oG]) fun ku =>
 optO (CV.asT ku) fun rn =>
 optO (rn[0]?) fun kb =>
 optO (CV.asT ku) fun lB =>
 optO (lB[1]?) fun oa =>
 optO (CV.asB oa) fun gU =>
 bif (!gU) then
 (some (.tup [.agg [.int .i64 0, .int .i64 0, .int .i64 0], .int .i64 3]))
 else
 (chkO (CV.isCell jt) (
 chkO (CV.isCell jq) (
 chkO (CV.isCell kb) (
 optO (C lb n Qcl [.agg [jt,jq,kb]]) fun gA =>
 optO (CV.asI .i64 gA) fun yQ =>
 bif (yQ != 0) then
 (some (.tup [.agg [.int .i64 0, .int .i64 0, .int .i64 0],gA]))
 else
 (some (.tup [.agg [jt,jq,kb], .int .i64 0])))))))))))) := by kernel_rfl
noncomputable def Qd8 (lb n k7:Nat) (a1:LB) (i3 i4 i5:Int):Option CV :=
 hold (Qau (E0 lb n 0 994) 0 (Qah (sub (B Qa5) [1,1,0,1,0,0]) ++ [6,7]) [] (sub (B Qa5) [1,1,0,1,0,0]) (Qak 0 (seqK (E0 lb n 0 997) (sub (B Qa5) [1,1,0]) (sub (B Qa5) [1,1,1]) (retK Tryz.prog (R Qa5) 0 (outK (Qag Tryz.prog Qa5))))) k7 ⟨fr 34 [(0,vS a1),(2,vI 0),(3,vB false),(4,vI i3),(5,vI i4),(8,vS a1),(9, .val (.int .i64 (a1.length:Int))),(10,vI i5)],[bx 34 []],KK⟩)
noncomputable def Qim (lb n:Nat) (a1:LB) (jv wa:Int):Option CV :=
 hold (E0 lb n 0 997 (sub (B Qa5) [1,1,1]) (retK Tryz.prog (R Qa5) 0 (outK (Qag Tryz.prog Qa5))) ⟨fr 34 [(0,vS a1),(2,vI 0),(3,vB false),(4,vI jv),(5,vI wa)],[bx 34 []],KK⟩)
theorem QlA (lb n:Nat) (a1:LB) (jv wa:Int) :
 Qim lb n a1 jv wa =
 some (.tup [.int .i64 jv, .bool (decide (jv > 0))]) := (Qac _).trans (by kernel_rfl)
theorem QfM (lb n k7:Nat) (a1:LB) (i3 i4 i5:Int) :
 Qd8 lb n (k7 + 1) a1 i3 i4 i5 =
 bif (decide (i5 < (a1.length:Int))) then
 (optO (atS a1 i5) fun c9 =>
 bif (decide ((IntKind.wrap .i64 ((IntKind.wrap .i64 ((c9.toNat:Int))) - 49)) ≤ i4)) then
 (some (.tup [.int .i64 0, .bool false]))
 else
 (bif (decide ((IntKind.wrap .i64 ((IntKind.wrap .i64 ((c9.toNat:Int))) - 49)) > 6)) then
 (some (.tup [.int .i64 0, .bool false]))
 else
 (chkO (decide (0 ≤ (IntKind.wrap .i64 ((IntKind.wrap .i64 ((c9.toNat:Int))) - 49)))) (
 Qd8 lb n k7 a1 (IntKind.wrap .i64 ((BitVec.ofInt 64 i3 ||| BitVec.ofInt 64 (IntKind.wrap .i64 (1 * 2 ^ (min ((IntKind.wrap .i64 ((IntKind.wrap .i64 ((c9.toNat:Int))) - 49))).toNat 64)))).toNat)) (IntKind.wrap .i64 ((IntKind.wrap .i64 ((c9.toNat:Int))) - 49)) (IntKind.wrap .i64 (i5 + 1))))))
 else
 (Qim lb n a1 i3 i4) := (Qac _).trans (by kernel_rfl)
theorem Qnt (lb n:Nat) (a1:LB) :
 top lb n Qa5 [.str a1] =
 Qd8 lb n n a1 0 (-1) 0 := by kernel_rfl
noncomputable def Qd1 (lb n wz:Nat) (jo jx jp:Int) (s9:LB) (jv:Int):Option CV :=
 hold (Qau (E0 lb n 0 993) 0 (Qah (sub (B Qbf) [1,1,1,0,1,0,0]) ++ [4]) [] (sub (B Qbf) [1,1,1,0,1,0,0]) (Qak 0 (seqK (E0 lb n 0 996) (sub (B Qbf) [1,1,1,0]) (sub (B Qbf) [1,1,1,1]) (retK Tryz.prog (R Qbf) 0 (outK (Qag Tryz.prog Qbf))))) wz ⟨fr 34 [(0, .val (.agg [.int .i64 jo, .int .i64 jx, .int .i64 jp])),(1, .ptr 0 1 0),(2, .val (.str [])),(3,vS s9),(8,vI jv)],[bx 34 [(1,some [vI jo,vI jx,vI jp])]],KK⟩)
noncomputable def QgN (lb n:Nat) (jo jx jp:Int) (kZ:LB):Option CV :=
 hold (E0 lb n 0 996 (sub (B Qbf) [1,1,1,1]) (retK Tryz.prog (R Qbf) 0 (outK (Qag Tryz.prog Qbf))) ⟨fr 34 [(0, .val (.agg [.int .i64 jo, .int .i64 jx, .int .i64 jp])),(1, .ptr 0 1 0),(2, .val (.str [])),(3,vS kZ)],[bx 34 [(1,some [vI jo,vI jx,vI jp])]],KK⟩)
theorem Qn8 (lb n:Nat) (jo jx jp:Int) (kZ:LB) :
 QgN lb n jo jx jp kZ =
 optO (C lb n Qey [.int .i64 jo]) fun yk =>
 optO (CV.asS yk) fun wp =>
 chkO (decide (wp.length + [47].length ≤ 9223372036854775807)) (
 optO (C lb n Qey [.int .i64 jx]) fun jA =>
 optO (CV.asS jA) fun yy =>
 chkO (decide ((wp ++ [47]).length + yy.length ≤ 9223372036854775807)) (
 chkO (decide (((wp ++ [47]) ++ yy).length + [47].length ≤ 9223372036854775807)) (
 chkO (decide ((((wp ++ [47]) ++ yy) ++ [47]).length + kZ.length ≤ 9223372036854775807)) (
 some (.str ((((wp ++ [47]) ++ yy) ++ [47]) ++ kZ)))))) := (Qac _).trans (by kernel_rfl)
theorem Qhg (lb n wz:Nat) (jo jx jp:Int) (s9:LB) (jv:Int) :
 Qd1 lb n (wz + 1) jo jx jp s9 jv =
 bif (decide (jv < 7)) then
 (chkO (decide (0 ≤ jv)) (
 bif ((IntKind.wrap .i64 ((BitVec.ofInt 64 (Int.fdiv jp (2 ^ (min (jv).toNat 64))) &&& BitVec.ofInt 64 1).toNat)) == 1) then
 (optO (atS [49,50,51,52,53,54,55] jv) fun j8 =>
 chkO (decide (s9.length + ((Utf8.encode (j8.toNat:Int)).data.toList).length ≤ 9223372036854775807)) (
 Qd1 lb n wz jo jx jp (s9 ++ ((Utf8.encode (j8.toNat:Int)).data.toList)) (IntKind.wrap .i64 (jv + 1))))
 else
 (Qd1 lb n wz jo jx jp s9 (IntKind.wrap .i64 (jv + 1)))))
 else
 (QgN lb n jo jx jp s9) := (Qac _).trans (by kernel_rfl)
theorem Qrq (lb n:Nat) (jo jx jp:Int) :
 top lb n Qbf [.agg [.int .i64 jo, .int .i64 jx, .int .i64 jp]] =
 optO (C lb n Qcl [.agg [.int .i64 jo, .int .i64 jx, .int .i64 jp]]) fun r4 =>
 optO (CV.asI .i64 r4) fun i5 =>
 bif (i5 != 0) then
 (some (.str []))
 else
 (Qd1 lb n n jo jx jp [] 0) := by kernel_rfl
noncomputable def Qfv (lb n wy:Nat) (a1:LB) (r2 jt jE jq jH r7:CV) (c5:List CV) (x6 jA:CV) (jI:List CV) (jJ:CV) (wq i37 y7 wc j0:Int):Option CV :=
 hold (Qau (E0 lb n 0 986) 0 (Qah (sub (B Qal) [1,1,1,1,1,1,1,1,1,1,0,1,0,0]) ++ [14]) [] (sub (B Qal) [1,1,1,1,1,1,1,1,1,1,0,1,0,0]) (Qak 0 (seqK (E0 lb n 0 989) (sub (B Qal) [1,1,1,1,1,1,1,1,1,1,0]) (sub (B Qal) [1,1,1,1,1,1,1,1,1,1,1]) (retK Tryz.prog (R Qal) 0 (outK (Qag Tryz.prog Qal))))) wy ⟨fr 92 [(0,vS a1),(2, .ptr 0 2 0),(3,vI 0),(4,vV r2),(5,vV jt),(6,vV jE),(7,vV jq),(8,vV jH),(9, .ptr 0 9 0),(10,vI wq),(11,vI i37),(12,vI y7),(13,vI wc),(15,vS a1),(16,vV r2),(21,vV r7),(22,vV r2),(23, .cptr c5 0),(24,vV x6),(25,vV r7),(26,vV jt),(27,vV jE),(32,vV jA),(33,vV r2),(34, .cptr jI 0),(35,vV jJ),(36,vV jA),(37,vV jq),(38,vV jH),(43,vV jt),(44,vV jq),(45, .val (.agg [jt,jq, .int .i64 0]))],[bx 92 [(2,some [vI 0,vI 0,vI 0]),(9,some [.val jt, .val jq,vI j0])]],KK⟩)
noncomputable def Qhn (lb n gq wy:Nat) (a1:LB) (r2 jt jE jq jH:CV) (wq wc:Int) (wJ:UInt8) (r7:CV) (c5:List CV) (x6 jA:CV) (jI:List CV) (jJ:CV) (yn:List CV) (wF:CV) (j0 ka vb:Int):Option CV :=
 hold (Qau (E0 lb n 0 978) 0 (Qah (sub (B Qal) [1,1,1,1,1,1,1,1,1,1,0,1,0,0,1,0,0,1,1,0,0,0]) ++ []) [] (sub (B Qal) [1,1,1,1,1,1,1,1,1,1,0,1,0,0,1,0,0,1,1,0,0,0]) (Qak 2 (seqK (E0 lb n 0 980) (sub (B Qal) [1,1,1,1,1,1,1,1,1,1,0,1,0,0,1,0,0,1,1,0]) (sub (B Qal) [1,1,1,1,1,1,1,1,1,1,0,1,0,0,1,0,0,1,1,1]) (Qak 1 (seqK (E0 lb n 0 984) (sub (B Qal) [1,1,1,1,1,1,1,1,1,1,0,1,0,0,1,0]) (sub (B Qal) [1,1,1,1,1,1,1,1,1,1,0,1,0,0,1,1]) (Qde 0 (Qah (sub (B Qal) [1,1,1,1,1,1,1,1,1,1,0,1,0,0]) ++ [14]) [] (Qau (E0 lb n 0 986) 0 (Qah (sub (B Qal) [1,1,1,1,1,1,1,1,1,1,0,1,0,0]) ++ [14]) [] (sub (B Qal) [1,1,1,1,1,1,1,1,1,1,0,1,0,0]) (Qak 0 (seqK (E0 lb n 0 989) (sub (B Qal) [1,1,1,1,1,1,1,1,1,1,0]) (sub (B Qal) [1,1,1,1,1,1,1,1,1,1,1]) (retK Tryz.prog (R Qal) 0 (outK (Qag Tryz.prog Qal))))) wy) (Qak 0 (seqK (E0 lb n 0 989) (sub (B Qal) [1,1,1,1,1,1,1,1,1,1,0]) (sub (B Qal) [1,1,1,1,1,1,1,1,1,1,1]) (retK Tryz.prog (R Qal) 0 (outK (Qag Tryz.prog Qal)))))))))) gq ⟨fr 92 [(0,vS a1),(2, .ptr 0 2 0),(3,vI 0),(4,vV r2),(5,vV jt),(6,vV jE),(7,vV jq),(8,vV jH),(9, .ptr 0 9 0),(10,vI wq),(11,vI ka),(12,vI vb),(13,vI wc),(14, .val (.int .i64 (IntKind.wrap .i64 ((IntKind.wrap .i64 ((wJ.toNat:Int))) - 48)))),(15,vS a1),(16,vV r2),(21,vV r7),(22,vV r2),(23, .cptr c5 0),(24,vV x6),(25,vV r7),(26,vV jt),(27,vV jE),(32,vV jA),(33,vV r2),(34, .cptr jI 0),(35,vV jJ),(36,vV jA),(37,vV jq),(38,vV jH),(43,vV jt),(44,vV jq),(45, .val (.agg [jt,jq, .int .i64 0])),(54,vV r2),(55, .cptr yn 0),(56,vV wF),(57,vI wc),(58, .val (.int .u8 (wJ.toNat:Int))),(59, .val (.int .i64 (IntKind.wrap .i64 ((wJ.toNat:Int))))),(60, .val (.int .i64 (IntKind.wrap .i64 ((IntKind.wrap .i64 ((wJ.toNat:Int))) - 48))))],[bx 92 [(2,some [vI 0,vI 0,vI 0]),(9,some [.val jt, .val jq,vI j0])]],KK⟩)
noncomputable def Qn1 (lb n wy:Nat) (a1:LB) (r2 jt jE jq jH:CV) (wq wc:Int) (wJ:UInt8) (r7:CV) (c5:List CV) (x6 jA:CV) (jI:List CV) (jJ:CV) (yn:List CV) (wF:CV) (j0 vz y5:Int):Option CV :=
 hold (E0 lb n 0 980 (sub (B Qal) [1,1,1,1,1,1,1,1,1,1,0,1,0,0,1,0,0,1,1,1]) (Qak 1 (seqK (E0 lb n 0 984) (sub (B Qal) [1,1,1,1,1,1,1,1,1,1,0,1,0,0,1,0]) (sub (B Qal) [1,1,1,1,1,1,1,1,1,1,0,1,0,0,1,1]) (Qde 0 (Qah (sub (B Qal) [1,1,1,1,1,1,1,1,1,1,0,1,0,0]) ++ [14]) [] (Qau (E0 lb n 0 986) 0 (Qah (sub (B Qal) [1,1,1,1,1,1,1,1,1,1,0,1,0,0]) ++ [14]) [] (sub (B Qal) [1,1,1,1,1,1,1,1,1,1,0,1,0,0]) (Qak 0 (seqK (E0 lb n 0 989) (sub (B Qal) [1,1,1,1,1,1,1,1,1,1,0]) (sub (B Qal) [1,1,1,1,1,1,1,1,1,1,1]) (retK Tryz.prog (R Qal) 0 (outK (Qag Tryz.prog Qal))))) wy) (Qak 0 (seqK (E0 lb n 0 989) (sub (B Qal) [1,1,1,1,1,1,1,1,1,1,0]) (sub (B Qal) [1,1,1,1,1,1,1,1,1,1,1]) (retK Tryz.prog (R Qal) 0 (outK (Qag Tryz.prog Qal)))))))) ⟨fr 92 [(0,vS a1),(2, .ptr 0 2 0),(3,vI 0),(4,vV r2),(5,vV jt),(6,vV jE),(7,vV jq),(8,vV jH),(9, .ptr 0 9 0),(10,vI wq),(11,vI vz),(12,vI y5),(13,vI wc),(14, .val (.int .i64 (IntKind.wrap .i64 ((IntKind.wrap .i64 ((wJ.toNat:Int))) - 48)))),(15,vS a1),(16,vV r2),(21,vV r7),(22,vV r2),(23, .cptr c5 0),(24,vV x6),(25,vV r7),(26,vV jt),(27,vV jE),(32,vV jA),(33,vV r2),(34, .cptr jI 0),(35,vV jJ),(36,vV jA),(37,vV jq),(38,vV jH),(43,vV jt),(44,vV jq),(45, .val (.agg [jt,jq, .int .i64 0])),(54,vV r2),(55, .cptr yn 0),(56,vV wF),(57,vI wc),(58, .val (.int .u8 (wJ.toNat:Int))),(59, .val (.int .i64 (IntKind.wrap .i64 ((wJ.toNat:Int))))),(60, .val (.int .i64 (IntKind.wrap .i64 ((IntKind.wrap .i64 ((wJ.toNat:Int))) - 48))))],[bx 92 [(2,some [vI 0,vI 0,vI 0]),(9,some [.val jt, .val jq,vI j0])]],KK⟩)
noncomputable def Qon (lb n wy:Nat) (a1:LB) (r2 jt jE jq jH:CV) (wc:Int) (r7:CV) (c5:List CV) (x6 jA:CV) (jI:List CV) (jJ:CV) (wo va yV kh vO:Int):Option CV :=
 hold (E0 lb n 0 984 (sub (B Qal) [1,1,1,1,1,1,1,1,1,1,0,1,0,0,1,1]) (Qde 0 (Qah (sub (B Qal) [1,1,1,1,1,1,1,1,1,1,0,1,0,0]) ++ [14]) [] (Qau (E0 lb n 0 986) 0 (Qah (sub (B Qal) [1,1,1,1,1,1,1,1,1,1,0,1,0,0]) ++ [14]) [] (sub (B Qal) [1,1,1,1,1,1,1,1,1,1,0,1,0,0]) (Qak 0 (seqK (E0 lb n 0 989) (sub (B Qal) [1,1,1,1,1,1,1,1,1,1,0]) (sub (B Qal) [1,1,1,1,1,1,1,1,1,1,1]) (retK Tryz.prog (R Qal) 0 (outK (Qag Tryz.prog Qal))))) wy) (Qak 0 (seqK (E0 lb n 0 989) (sub (B Qal) [1,1,1,1,1,1,1,1,1,1,0]) (sub (B Qal) [1,1,1,1,1,1,1,1,1,1,1]) (retK Tryz.prog (R Qal) 0 (outK (Qag Tryz.prog Qal)))))) ⟨fr 92 [(0,vS a1),(2, .ptr 0 2 0),(3,vI 0),(4,vV r2),(5,vV jt),(6,vV jE),(7,vV jq),(8,vV jH),(9, .ptr 0 9 0),(10,vI wo),(11,vI va),(12,vI yV),(13,vI wc),(14,vI kh),(15,vS a1),(16,vV r2),(21,vV r7),(22,vV r2),(23, .cptr c5 0),(24,vV x6),(25,vV r7),(26,vV jt),(27,vV jE),(32,vV jA),(33,vV r2),(34, .cptr jI 0),(35,vV jJ),(36,vV jA),(37,vV jq),(38,vV jH),(43,vV jt),(44,vV jq),(45, .val (.agg [jt,jq, .int .i64 0]))],[bx 92 [(2,some [vI 0,vI 0,vI 0]),(9,some [.val jt, .val jq,vI vO])]],KK⟩)
theorem Qrw (lb n wy:Nat) (a1:LB) (r2 jt jE jq jH:CV) (wc:Int) (r7:CV) (c5:List CV) (x6 jA:CV) (jI:List CV) (jJ:CV) (wo va yV kh vO:Int) :
 Qon lb n wy a1 r2 jt jE jq jH wc r7 c5 x6 jA jI jJ wo va yV kh vO =
 Qfv lb n wy a1 r2 jt jE jq jH r7 c5 x6 jA jI jJ wo va yV (IntKind.wrap .i64 (wc + 1)) vO := (Qac _).trans (by kernel_rfl)
theorem QqO (lb n wy:Nat) (a1:LB) (r2 jt jE jq jH:CV) (wq wc:Int) (wJ:UInt8) (r7:CV) (c5:List CV) (x6 jA:CV) (jI:List CV) (jJ:CV) (yn:List CV) (wF:CV) (j0 vz y5:Int) :
 Qn1 lb n wy a1 r2 jt jE jq jH wq wc wJ r7 c5 x6 jA jI jJ yn wF j0 vz y5 =
 Qon lb n wy a1 r2 jt jE jq jH wc r7 c5 x6 jA jI jJ (IntKind.wrap .i64 ((IntKind.wrap .i64 ((wJ.toNat:Int))) - 48)) vz y5 (IntKind.wrap .i64 ((IntKind.wrap .i64 ((wJ.toNat:Int))) - 48)) (IntKind.wrap .i64 (j0 + vz)) := (Qac _).trans (by kernel_rfl)
theorem Qi7 (lb n gq wy:Nat) (a1:LB) (r2 jt jE jq jH:CV) (wq wc:Int) (wJ:UInt8) (r7:CV) (c5:List CV) (x6 jA:CV) (jI:List CV) (jJ:CV) (yn:List CV) (wF:CV) (j0 ka vb:Int) :
 Qhn lb n (gq + 1) wy a1 r2 jt jE jq jH wq wc wJ r7 c5 x6 jA jI jJ yn wF j0 ka vb =
 bif (decide (vb < (IntKind.wrap .i64 ((IntKind.wrap .i64 ((wJ.toNat:Int))) - 48)))) then
 (Qhn lb n gq wy a1 r2 jt jE jq jH wq wc wJ r7 c5 x6 jA jI jJ yn wF j0 (IntKind.wrap .i64 (2 * ka)) (IntKind.wrap .i64 (vb + 1)))
 else
 (Qn1 lb n wy a1 r2 jt jE jq jH wq wc wJ r7 c5 x6 jA jI jJ yn wF j0 ka vb) := (Qac _).trans (by kernel_rfl)
noncomputable def Qoi (lb n:Nat) (a1:LB) (r2 jt jE jq jH r7:CV) (c5:List CV) (x6 jA:CV) (jI:List CV) (jJ:CV) (gm oF mI wV i75:Int):Option CV :=
 hold (E0 lb n 0 989 (sub (B Qal) [1,1,1,1,1,1,1,1,1,1,1]) (retK Tryz.prog (R Qal) 0 (outK (Qag Tryz.prog Qal))) ⟨fr 92 [(0,vS a1),(2, .ptr 0 2 0),(3,vI 0),(4,vV r2),(5,vV jt),(6,vV jE),(7,vV jq),(8,vV jH),(9, .ptr 0 9 0),(10,vI gm),(11,vI oF),(12,vI mI),(13,vI wV),(15,vS a1),(16,vV r2),(21,vV r7),(22,vV r2),(23, .cptr c5 0),(24,vV x6),(25,vV r7),(26,vV jt),(27,vV jE),(32,vV jA),(33,vV r2),(34, .cptr jI 0),(35,vV jJ),(36,vV jA),(37,vV jq),(38,vV jH),(43,vV jt),(44,vV jq),(45, .val (.agg [jt,jq, .int .i64 0]))],[bx 92 [(2,some [vI 0,vI 0,vI 0]),(9,some [.val jt, .val jq,vI i75])]],KK⟩)
theorem Qqz (lb n:Nat) (a1:LB) (r2 jt jE jq jH r7:CV) (c5:List CV) (x6 jA:CV) (jI:List CV) (jJ:CV) (gm oF mI wV i75:Int) :
 Qoi lb n a1 r2 jt jE jq jH r7 c5 x6 jA jI jJ gm oF mI wV i75 =
 bif (gm == 0) then
 (some (.tup [.agg [.int .i64 0, .int .i64 0, .int .i64 0], .int .i64 3]))
 else
 (optO (C lb n Qdy [.agg [jt,jq, .int .i64 i75]]) fun rx =>
 optO (CV.asI .i64 rx) fun lg =>
 bif (lg != 0) then
 (optO (C lb n Qdy [.agg [jt,jq, .int .i64 i75]]) fun lj =>
 some (.tup [.agg [.int .i64 0, .int .i64 0, .int .i64 0],lj]))
 else
 (some (.tup [.agg [jt,jq, .int .i64 i75], .int .i64 0]))) := (Qac _).trans (by kernel_rfl)
theorem Qi2 (lb n wy:Nat) (a1:LB) (r2 jt jE jq jH r7:CV) (c5:List CV) (x6 jA:CV) (jI:List CV) (jJ:CV) (wq i37 y7 wc j0:Int) :
 Qfv lb n (wy + 1) a1 r2 jt jE jq jH r7 c5 x6 jA jI jJ wq i37 y7 wc j0 =
 optO (CV.asL r2) fun lU =>
 optO (atL lU.2 2) fun yT =>
 chkO (yT.length == 1) (
 optO (yT[0]?) fun yA =>
 optO (CV.asS yA) fun li =>
 bif (decide (wc < (li.length:Int))) then
 (optO (CV.asL r2) fun zH =>
 optO (atL zH.2 2) fun yn =>
 chkO (yn.length == 1) (
 optO (yn[0]?) fun wF =>
 optO (CV.asS wF) fun mL =>
 optO (atS mL wc) fun wJ =>
 bif (decide ((IntKind.wrap .i64 ((IntKind.wrap .i64 ((wJ.toNat:Int))) - 48)) ≤ wq)) then
 (some (.tup [.agg [.int .i64 0, .int .i64 0, .int .i64 0], .int .i64 3]))
 else
 (bif (decide ((IntKind.wrap .i64 ((IntKind.wrap .i64 ((wJ.toNat:Int))) - 48)) > 7)) then
 (some (.tup [.agg [.int .i64 0, .int .i64 0, .int .i64 0], .int .i64 3]))
 else
 (Qhn lb n n wy a1 r2 jt jE jq jH wq wc wJ r7 c5 x6 jA jI jJ yn wF j0 i37 y7))))
 else
 (Qoi lb n a1 r2 jt jE jq jH r7 c5 x6 jA jI jJ wq i37 y7 wc j0)) := (Qac _).trans (by kernel_rfl)
theorem QvA (lb n:Nat) (a1:LB) :
 top lb n Qal [.str a1] =
 optO (C lb n QcL [.str a1, .int .u8 47]) fun r2 =>
 optO (CV.asL r2) fun p3 =>
 bif ((p3.2.length:Int) != 3) then
 (some (.tup [.agg [.int .i64 0, .int .i64 0, .int .i64 0], .int .i64 3]))
 else
 (optO (CV.asL r2) fun p4 =>
 optO (atL p4.2 0) fun c5 =>
 chkO (c5.length == 1) (
 optO (c5[0]?) fun x6 =>
 optO (C lb n Qh0 [x6]) fun r7 =>
 optO (CV.asT r7) fun t9 =>
 optO (t9[0]?) fun jt =>
 optO (CV.asT r7) fun oh =>
 optO (oh[1]?) fun jE =>
 optO (CV.asI .i64 jE) fun jm =>
 bif (jm != 0) then
 (some (.tup [.agg [.int .i64 0, .int .i64 0, .int .i64 0],jE]))
 else
 (optO (CV.asL r2) fun nA =>
 optO (atL nA.2 1) fun jI =>
 chkO (jI.length == 1) (
 optO (jI[0]?) fun jJ =>
 optO (C lb n Qh0 [jJ]) fun jA =>
 optO (CV.asT jA) fun y0 =>
 optO (y0[0]?) fun jq =>
 optO (CV.asT jA) fun t21 =>
 optO (t21[1]?) fun jH =>
 optO (CV.asI .i64 jH) fun vT =>
 bif (vT != 0) then
 (some (.tup [.agg [.int .i64 0, .int .i64 0, .int .i64 0],jH]))
 else
 (chkO (CV.isCell jt) (
 chkO (CV.isCell jq) (
 Qfv lb n n a1 r2 jt jE jq jH r7 c5 x6 jA jI jJ 0 1 1 0 0))))))) := by kernel_rfl
noncomputable def QfI (lb n yX:Nat) (a1:LB) (b2:Int) (jz:Bool) (vr:LL) (we jB:Int):Option CV :=
 hold (Qau (E0 lb n 0 993) 0 (Qah (sub (B QcL) [1,1,1,0,1,0,0]) ++ []) [] (sub (B QcL) [1,1,1,0,1,0,0]) (Qak 0 (seqK (E0 lb n 0 996) (sub (B QcL) [1,1,1,0]) (sub (B QcL) [1,1,1,1]) (retK Tryz.prog (R QcL) 0 (outK (Qag Tryz.prog QcL))))) yX ⟨fr 35 [(0,vS a1),(1, .val (.int .u8 b2)),(4, .lst true true 9 []),(5, .lst true jz 9 vr),(6,vI we),(7,vI jB)],[bx 35 []],KK⟩)
noncomputable def Qrm (lb n:Nat) (a1:LB) (b2:Int) (yN:Bool) (gB:LL) (vT jZ:Int):Option CV :=
 hold (E0 lb n 0 996 (sub (B QcL) [1,1,1,1]) (retK Tryz.prog (R QcL) 0 (outK (Qag Tryz.prog QcL))) ⟨fr 35 [(0,vS a1),(1, .val (.int .u8 b2)),(4, .lst true true 9 []),(5, .lst true yN 9 gB),(6,vI vT),(7,vI jZ)],[bx 35 []],KK⟩)
theorem QtS (lb n:Nat) (a1:LB) (b2:Int) (yN:Bool) (gB:LL) (vT jZ:Int) :
 Qrm lb n a1 b2 yN gB vT jZ =
 some (.list yN gB) := (Qac _).trans (by kernel_rfl)
theorem Qg6 (lb n yX:Nat) (a1:LB) (b2:Int) (jz:Bool) (vr:LL) (we jB:Int) :
 QfI lb n (yX + 1) a1 b2 jz vr we jB =
 bif (decide (jB ≤ (a1.length:Int))) then
 (bif (jB == (a1.length:Int)) then
 (chkO (decide ((0:Int) ≤ jB ∧ jB ≤ (a1.length:Int))) (
 chkO (decide ((0:Int) ≤ we ∧ we ≤ jB)) (
 chkO (room (vr.length + 1) 16) (
 QfI lb n yX a1 b2 (jz && false) (vr ++ [[CV.str ((a1.take jB.toNat).drop we.toNat)]]) (IntKind.wrap .i64 (jB + 1)) (IntKind.wrap .i64 (jB + 1))))))
 else
 (optO (atS a1 jB) fun c20 =>
 bif ((c20.toNat:Int) == b2) then
 (chkO (decide ((0:Int) ≤ jB ∧ jB ≤ (a1.length:Int))) (
 chkO (decide ((0:Int) ≤ we ∧ we ≤ jB)) (
 chkO (room (vr.length + 1) 16) (
 QfI lb n yX a1 b2 (jz && false) (vr ++ [[CV.str ((a1.take jB.toNat).drop we.toNat)]]) (IntKind.wrap .i64 (jB + 1)) (IntKind.wrap .i64 (jB + 1))))))
 else
 (QfI lb n yX a1 b2 jz vr we (IntKind.wrap .i64 (jB + 1)))))
 else
 (Qrm lb n a1 b2 jz vr we jB) := (Qac _).trans (by kernel_rfl)
theorem QxK (lb n:Nat) (a1:LB) (b2:Int) :
 top lb n QcL [.str a1, .int .u8 b2] =
 QfI lb n n a1 b2 true [] 0 0 := by kernel_rfl
noncomputable def Qft (lb n oI:Nat) (jo jx jp:Int) (r6:CV) (s7:LB) (r9:CV) (wU wp:LB) (jC jY:Int):Option CV :=
 hold (Qau (E0 lb n 0 992) 0 (Qah (sub (B QbY) [1,1,1,1,0,1,0,0]) ++ []) [] (sub (B QbY) [1,1,1,1,0,1,0,0]) (Qak 0 (seqK (E0 lb n 0 995) (sub (B QbY) [1,1,1,1,0]) (sub (B QbY) [1,1,1,1,1]) (retK Tryz.prog (R QbY) 0 (outK (Qag Tryz.prog QbY))))) oI ⟨fr 34 [(0, .val (.agg [.int .i64 jo, .int .i64 jx, .int .i64 jp])),(1, .ptr 0 1 0),(2, .val (.str [])),(3,vS wp),(4,vI jC),(5,vI jY),(9, .ptr 0 1 0),(10,vI jo),(11,vV r6),(12, .val (.str (s7 ++ [47]))),(13, .ptr 0 1 1),(14,vI jx),(15,vV r9),(16, .val (.str ((s7 ++ [47]) ++ wU))),(17, .val (.str (((s7 ++ [47]) ++ wU) ++ [47]))),(18, .ptr 0 1 2),(19,vI jp)],[bx 34 [(1,some [vI jo,vI jx,vI jp])]],KK⟩)
noncomputable def QnB (lb n:Nat) (jo jx jp:Int) (r6:CV) (s7:LB) (r9:CV) (wU y8:LB) (jX yc:Int):Option CV :=
 hold (E0 lb n 0 995 (sub (B QbY) [1,1,1,1,1]) (retK Tryz.prog (R QbY) 0 (outK (Qag Tryz.prog QbY))) ⟨fr 34 [(0, .val (.agg [.int .i64 jo, .int .i64 jx, .int .i64 jp])),(1, .ptr 0 1 0),(2, .val (.str [])),(3,vS y8),(4,vI jX),(5,vI yc),(9, .ptr 0 1 0),(10,vI jo),(11,vV r6),(12, .val (.str (s7 ++ [47]))),(13, .ptr 0 1 1),(14,vI jx),(15,vV r9),(16, .val (.str ((s7 ++ [47]) ++ wU))),(17, .val (.str (((s7 ++ [47]) ++ wU) ++ [47]))),(18, .ptr 0 1 2),(19,vI jp)],[bx 34 [(1,some [vI jo,vI jx,vI jp])]],KK⟩)
theorem QrM (lb n:Nat) (jo jx jp:Int) (r6:CV) (s7:LB) (r9:CV) (wU y8:LB) (jX yc:Int) :
 QnB lb n jo jx jp r6 s7 r9 wU y8 jX yc =
 some (.str y8) := (Qac _).trans (by kernel_rfl)
theorem Qi6 (lb n oI:Nat) (jo jx jp:Int) (r6:CV) (s7:LB) (r9:CV) (wU wp:LB) (jC jY:Int) :
 Qft lb n (oI + 1) jo jx jp r6 s7 r9 wU wp jC jY =
 bif (decide (jY ≤ 7)) then
 (bif ((Int.tmod jC 2) == 1) then
 (optO (C lb n QcP [.int .i64 jY]) fun yd =>
 optO (CV.asS yd) fun nT =>
 chkO (decide (wp.length + nT.length ≤ 9223372036854775807)) (
 Qft lb n oI jo jx jp r6 s7 r9 wU (wp ++ nT) (IntKind.wrap .i64 (Int.tdiv jC 2)) (IntKind.wrap .i64 (jY + 1))))
 else
 (Qft lb n oI jo jx jp r6 s7 r9 wU wp (IntKind.wrap .i64 (Int.tdiv jC 2)) (IntKind.wrap .i64 (jY + 1))))
 else
 (QnB lb n jo jx jp r6 s7 r9 wU wp jC jY) := (Qac _).trans (by kernel_rfl)
theorem Qvu (lb n:Nat) (jo jx jp:Int) :
 top lb n QbY [.agg [.int .i64 jo, .int .i64 jx, .int .i64 jp]] =
 optO (C lb n Qdy [.agg [.int .i64 jo, .int .i64 jx, .int .i64 jp]]) fun r4 =>
 optO (CV.asI .i64 r4) fun i5 =>
 bif (i5 != 0) then
 (some (.str []))
 else
 (optO (C lb n Qig [.int .i64 jo]) fun r6 =>
 optO (CV.asS r6) fun s7 =>
 chkO (decide (s7.length + [47].length ≤ 9223372036854775807)) (
 optO (C lb n Qig [.int .i64 jx]) fun r9 =>
 optO (CV.asS r9) fun wU =>
 chkO (decide ((s7 ++ [47]).length + wU.length ≤ 9223372036854775807)) (
 chkO (decide (((s7 ++ [47]) ++ wU).length + [47].length ≤ 9223372036854775807)) (
 Qft lb n n jo jx jp r6 s7 r9 wU (((s7 ++ [47]) ++ wU) ++ [47]) jp 1)))) := by kernel_rfl
end Go.Proofs
