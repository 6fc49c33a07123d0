/- Equations of functions, printed by program. Conditions: none. -/
import Derived.Test.YtbdclhadjcfadaaGreatDoorEv
namespace Go.Proofs
open Go.Am
set_option maxRecDepth 100000
set_option linter.unusedVariables false
theorem QoV (lb n) (a1:Int) :
 top lb n Qey [.int .i64 a1] =
 optO (C lb n QaH [.int .i64 a1]) fun r2 =>
 optO (CV.asT r2) fun t3 =>
 optO (t3[0]?) fun x4 =>
 optO (CV.asT r2) fun t5 =>
 optO (t5[1]?) fun x6 =>
 optO (CV.asT r2) fun t7 =>
 optO (t7[2]?) fun x9 =>
 optO (CV.asI .i64 x4) fun jv =>
 bif (jv == 0) then
 (some (.str []))
 else
 (optO (CV.asI .i64 x4) fun wa =>
 optO (C lb n Qcm [.int .i64 (IntKind.wrap .i64 (Int.tdiv wa 100))]) fun jk =>
 optO (CV.asI .i64 x4) fun jm =>
 optO (C lb n Qcm [.int .i64 (Int.tmod jm 100)]) fun jr =>
 optO (CV.asS jk) fun wH =>
 optO (CV.asS jr) fun wp =>
 chkO (decide (wH.length + wp.length ≤ 9223372036854775807)) (
 chkO (decide ((wH ++ wp).length + [45].length ≤ 9223372036854775807)) (
 optO (C lb n Qcm [x6]) fun jA =>
 optO (CV.asS jA) fun yy =>
 chkO (decide (((wH ++ wp) ++ [45]).length + yy.length ≤ 9223372036854775807)) (
 chkO (decide ((((wH ++ wp) ++ [45]) ++ yy).length + [45].length ≤ 9223372036854775807)) (
 optO (C lb n Qcm [x9]) fun kl =>
 optO (CV.asS kl) fun kX =>
 chkO (decide (((((wH ++ wp) ++ [45]) ++ yy) ++ [45]).length + kX.length ≤ 9223372036854775807)) (
 some (.str (((((wH ++ wp) ++ [45]) ++ yy) ++ [45]) ++ kX)))))))) := by kernel_rfl
noncomputable def calendar_Date_L1 :=
 fun lb n (k7:Nat) a1 i4 =>
 hold (Qau (E0 lb n 0 994) 0 (Qah (sub (B QaH) [1,1,1,0,0,0]) ++ []) [] (sub (B QaH) [1,1,1,0,0,0]) (Qak 0 (seqK (E0 lb n 0 996) (sub (B QaH) [1,1,1,0]) (sub (B QaH) [1,1,1,1]) (retK Tryz.prog (R QaH) 0 (outK (Qag Tryz.prog QaH))))) k7 ⟨fr 48 [(0,vI a1),(2,vI 0),(3,vI 0),(4,vI 0),(5,vI i4),(15,vI a1),(16, .val (.int .i64 (IntKind.wrap .i64 (Int.tdiv a1 366)))),(17, .val (.int .i64 (IntKind.wrap .i64 (2000 + (IntKind.wrap .i64 (Int.tdiv a1 366))))))],[bx 48 []],KK⟩)
noncomputable def QjK (lb n:Nat) (a1 wa:Int):Option CV :=
 hold (E0 lb n 0 996 (sub (B QaH) [1,1,1,1]) (retK Tryz.prog (R QaH) 0 (outK (Qag Tryz.prog QaH))) ⟨fr 48 [(0,vI a1),(2,vI 0),(3,vI 0),(4,vI 0),(5,vI wa),(15,vI a1),(16, .val (.int .i64 (IntKind.wrap .i64 (Int.tdiv a1 366)))),(17, .val (.int .i64 (IntKind.wrap .i64 (2000 + (IntKind.wrap .i64 (Int.tdiv a1 366))))))],[bx 48 []],KK⟩)
noncomputable def Qez (lb n vA:Nat) (a1 wa:Int) (jk:CV) (jm jC jY:Int):Option CV :=
 hold (Qau (E0 lb n 0 991) 0 (Qah (sub (B QaH) [1,1,1,1,1,0,1,0,0]) ++ [7,8]) [] (sub (B QaH) [1,1,1,1,1,0,1,0,0]) (Qak 2 (seqK (E0 lb n 0 994) (sub (B QaH) [1,1,1,1,1,0]) (sub (B QaH) [1,1,1,1,1,1]) (retK Tryz.prog (R QaH) 0 (outK (Qag Tryz.prog QaH))))) vA ⟨fr 48 [(0,vI a1),(2,vI 0),(3,vI 0),(4,vI 0),(5,vI wa),(6,vI jC),(15,vI a1),(16, .val (.int .i64 (IntKind.wrap .i64 (Int.tdiv a1 366)))),(17, .val (.int .i64 (IntKind.wrap .i64 (2000 + (IntKind.wrap .i64 (Int.tdiv a1 366)))))),(25,vI a1),(26,vI wa),(27,vV jk),(28, .val (.int .i64 (IntKind.wrap .i64 (a1 - jm)))),(29,vI jY)],[bx 48 []],KK⟩)
noncomputable def Qql (lb n:Nat) (a1 wa:Int) (jk:CV) (jm yc:Int):Option CV :=
 hold (E0 lb n 0 994 (sub (B QaH) [1,1,1,1,1,1]) (retK Tryz.prog (R QaH) 0 (outK (Qag Tryz.prog QaH))) ⟨fr 48 [(0,vI a1),(2,vI 0),(3,vI 0),(4,vI 0),(5,vI wa),(6,vI yc),(15,vI a1),(16, .val (.int .i64 (IntKind.wrap .i64 (Int.tdiv a1 366)))),(17, .val (.int .i64 (IntKind.wrap .i64 (2000 + (IntKind.wrap .i64 (Int.tdiv a1 366)))))),(25,vI a1),(26,vI wa),(27,vV jk),(28, .val (.int .i64 (IntKind.wrap .i64 (a1 - jm))))],[bx 48 []],KK⟩)
theorem QgJ (lb n vA:Nat) (a1 wa:Int) (jk:CV) (jm jC jY:Int) :
 Qez lb n (vA + 1) a1 wa jk jm jC jY =
 bif (decide (jY < 12)) then
 (optO (C lb n QbK [.int .i64 wa, .int .i64 (IntKind.wrap .i64 (jY + 1))]) fun ol =>
 optO (CV.asI .i64 ol) fun jL =>
 bif (decide (jC < jL)) then
 (some (.tup [.int .i64 wa, .int .i64 (IntKind.wrap .i64 (jY + 1)), .int .i64 (IntKind.wrap .i64 (jC + 1))]))
 else
 (optO (CV.asI .i64 ol) fun jX =>
 Qez lb n vA a1 wa jk jm (IntKind.wrap .i64 (jC - jX)) (IntKind.wrap .i64 (jY + 1))))
 else
 (Qql lb n a1 wa jk jm jC) := (Qac _).trans (by kernel_rfl)
theorem Qng (lb n:Nat) (a1 wa:Int) :
 QjK lb n a1 wa =
 optO (C lb n QdP [.int .i64 wa]) fun jk =>
 optO (CV.asI .i64 jk) fun jm =>
 Qez lb n n a1 wa jk jm (IntKind.wrap .i64 (a1 - jm)) 0 := (Qac _).trans (by kernel_rfl)
theorem QgI (lb n k7:Nat) (a1 i4:Int) :
 calendar_Date_L1 lb n (k7 + 1) a1 i4 =
 optO (C lb n QdP [.int .i64 (IntKind.wrap .i64 (i4 + 1))]) fun r9 =>
 optO (CV.asI .i64 r9) fun jv =>
 bif (decide (jv ≤ a1)) then
 (calendar_Date_L1 lb n k7 a1 (IntKind.wrap .i64 (i4 + 1)))
 else
 (QjK lb n a1 i4) := (Qac _).trans (by kernel_rfl)
theorem Qqo (lb n:Nat) (a1:Int) :
 top lb n QaH [.int .i64 a1] =
 bif (decide (a1 < 0)) then
 (some (.tup [.int .i64 0, .int .i64 0, .int .i64 0]))
 else
 (bif (decide (a1 ≥ 36525)) then
 (some (.tup [.int .i64 0, .int .i64 0, .int .i64 0]))
 else
 (calendar_Date_L1 lb n n a1 (IntKind.wrap .i64 (2000 + (IntKind.wrap .i64 (Int.tdiv a1 366)))))) := by kernel_rfl
theorem QrA (lb n:Nat) (a1:Int) :
 top lb n Qcm [.int .i64 a1] =
 optO (bytesOf [[CV.int .u8 (IntKind.wrap .u8 (IntKind.wrap .i64 (48 + (IntKind.wrap .i64 (Int.tdiv a1 10)))))],[CV.int .u8 (IntKind.wrap .u8 (IntKind.wrap .i64 (48 + (Int.tmod a1 10))))]]) fun s2 =>
 some (.str s2) := by kernel_rfl
theorem QoR (lb n:Nat) (a1:Int) :
 top lb n QdP [.int .i64 a1] =
 some (.int .i64 (IntKind.wrap .i64 ((IntKind.wrap .i64 (365 * (IntKind.wrap .i64 (a1 - 2000)))) + (IntKind.wrap .i64 (Int.tdiv (IntKind.wrap .i64 ((IntKind.wrap .i64 (a1 - 2000)) + 3)) 4))))) := by kernel_rfl
theorem QuL (lb n:Nat) (a1:Int) :
 top lb n Qig [.int .i64 a1] =
 optO (C lb n Qci [.int .i64 a1]) fun r2 =>
 optO (CV.asT r2) fun t3 =>
 optO (t3[0]?) fun x4 =>
 optO (CV.asT r2) fun t5 =>
 optO (t5[1]?) fun x6 =>
 optO (CV.asT r2) fun t7 =>
 optO (t7[2]?) fun x9 =>
 optO (CV.asI .i64 x4) fun jv =>
 bif (jv == 0) then
 (some (.str []))
 else
 (optO (CV.asI .i64 x4) fun wa =>
 optO (C lb n Qeu [.int .i64 (IntKind.wrap .i64 (Int.tdiv wa 100))]) fun jk =>
 optO (CV.asI .i64 x4) fun jm =>
 optO (C lb n Qeu [.int .i64 (Int.tmod jm 100)]) fun jr =>
 optO (CV.asS jk) fun wH =>
 optO (CV.asS jr) fun wp =>
 chkO (decide (wH.length + wp.length ≤ 9223372036854775807)) (
 chkO (decide ((wH ++ wp).length + [45].length ≤ 9223372036854775807)) (
 optO (C lb n Qeu [x6]) fun jA =>
 optO (CV.asS jA) fun yy =>
 chkO (decide (((wH ++ wp) ++ [45]).length + yy.length ≤ 9223372036854775807)) (
 chkO (decide ((((wH ++ wp) ++ [45]) ++ yy).length + [45].length ≤ 9223372036854775807)) (
 optO (C lb n Qeu [x9]) fun kl =>
 optO (CV.asS kl) fun kX =>
 chkO (decide (((((wH ++ wp) ++ [45]) ++ yy) ++ [45]).length + kX.length ≤ 9223372036854775807)) (
 some (.str (((((wH ++ wp) ++ [45]) ++ yy) ++ [45]) ++ kX)))))))) := by kernel_rfl
noncomputable def QfT (lb n oc:Nat) (jB jC jY:Int):Option CV :=
 hold (Qau (E0 lb n 0 994) 0 (Qah (sub (B Qci) [1,1,1,0,0,0]) ++ []) [] (sub (B Qci) [1,1,1,0,0,0]) (Qak 0 (seqK (E0 lb n 0 996) (sub (B Qci) [1,1,1,0]) (sub (B Qci) [1,1,1,1]) (retK Tryz.prog (R Qci) 0 (outK (Qag Tryz.prog Qci))))) oc ⟨fr 33 [(0,vI jB),(2,vI 0),(3,vI 0),(4,vI 0),(5,vI jC),(6,vI jY)],[bx 33 []],KK⟩)
noncomputable def Qpz (lb n:Nat) (y9 wx gx:Int):Option CV :=
 hold (E0 lb n 0 996 (sub (B Qci) [1,1,1,1]) (retK Tryz.prog (R Qci) 0 (outK (Qag Tryz.prog Qci))) ⟨fr 33 [(0,vI y9),(2,vI 0),(3,vI 0),(4,vI 0),(5,vI wx),(6,vI gx)],[bx 33 []],KK⟩)
theorem QrP (lb n:Nat) (y9 wx gx:Int) :
 Qpz lb n y9 wx gx =
 some (.tup [.int .i64 wx, .int .i64 gx, .int .i64 (IntKind.wrap .i64 (y9 + 1))]) := (Qac _).trans (by kernel_rfl)
theorem Qgy (lb n oc:Nat) (jB jC jY:Int) :
 QfT lb n (oc + 1) jB jC jY =
 optO (C lb n Qbb [.int .i64 jC, .int .i64 jY]) fun od =>
 optO (CV.asI .i64 od) fun jX =>
 bif (decide (jB ≥ jX)) then
 (optO (C lb n Qbb [.int .i64 jC, .int .i64 jY]) fun ku =>
 optO (CV.asI .i64 ku) fun gE =>
 bif ((IntKind.wrap .i64 (jY + 1)) == 13) then
 (QfT lb n oc  (IntKind.wrap .i64 (jB - gE)) (IntKind.wrap .i64 (jC + 1)) 1)
 else
 (QfT lb n oc  (IntKind.wrap .i64 (jB - gE)) jC (IntKind.wrap .i64 (jY + 1))))
 else
 (Qpz lb n  jB jC jY) := (Qac _).trans (by kernel_rfl)
theorem QwZ (lb n:Nat) (a1:Int) :
 top lb n Qci [.int .i64 a1] =
 bif (decide (a1 < 0)) then
 (some (.tup [.int .i64 0, .int .i64 0, .int .i64 0]))
 else
 (bif (decide (a1 ≥ 36525)) then
 (some (.tup [.int .i64 0, .int .i64 0, .int .i64 0]))
 else
 (QfT lb n n  a1 2000 1)) := by kernel_rfl
theorem Qyi (lb n:Nat) (a1:Int) :
 top lb n Qeu [.int .i64 a1] =
 optO (bytesOf [[CV.int .u8 (IntKind.wrap .u8 (IntKind.wrap .i64 (48 + (IntKind.wrap .i64 (Int.tdiv a1 10)))))],[CV.int .u8 (IntKind.wrap .u8 (IntKind.wrap .i64 (48 + (Int.tmod a1 10))))]]) fun s2 =>
 some (.str s2) := by kernel_rfl
noncomputable def QeM (lb n:Nat) (a1 b2:Int) (b3:Bool):Option CV :=
 hold (E0 lb n 0 995 (sub (B Qbb) [1,0,1,0,1]) (Qak 0 (seqK (E0 lb n 0 998) (sub (B Qbb) [1,0]) (sub (B Qbb) [1,1]) (retK Tryz.prog (R Qbb) 0 (outK (Qag Tryz.prog Qbb))))) ⟨fr 16 [(0,vI a1),(1,vI b2),(4,vI 0),(5,vI b2),(6,vB b3)],[bx 16 []],KK⟩)
theorem Qqs (lb n:Nat) (a1 b2:Int) (b3:Bool) :
 QeM lb n a1 b2 b3 =
 bif b3 then
 (some (.int .i64 30))
 else
 (bif (b2 == 2) then
 (bif ((Int.tmod a1 4) == 0) then
 (some (.int .i64 29))
 else
 (some (.int .i64 28)))
 else
 (some (.int .i64 31))) := (Qac _).trans (by kernel_rfl)
theorem QtP (lb n:Nat) (a1 b2:Int) :
 top lb n Qbb [.int .i64 a1, .int .i64 b2] =
 bif (b2 == 4) then
 (QeM lb n a1 b2 (b2 == 4))
 else
 (bif (b2 == 6) then
 (QeM lb n a1 b2 (b2 == 6))
 else
 (bif (b2 == 9) then
 (QeM lb n a1 b2 (b2 == 9))
 else
 (QeM lb n a1 b2 (b2 == 11)))) := by kernel_rfl
end Go.Proofs
