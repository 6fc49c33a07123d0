/- Equations of functions, printed by program. Conditions: none. -/
import Derived.Test.YtbdclhadjcfadaaGreatDoorEv
namespace Go.Proofs.K5
open Go.Am
set_option maxRecDepth 100000
set_option linter.unusedVariables false
noncomputable def strings_IndexAny_J1 :=
 fun lb n a1 b2 =>
 hold (E0 lb n 0 996 (sub (B Qat) [1,1,1,1]) (retK Tryz.prog (R Qat) 0 (outK (Qag Tryz.prog Qat))) ⟨fr 55 [(0,vS a1),(1,vS b2),(4,vI 0)],[bx 55 []],KK⟩)
noncomputable def QdQ (lb n yr:Nat) (a1 b2:LB) (vN:Nat):Option CV :=
 hold (Qau (E0 lb n 0 992) 0 (Qah (sub (B Qat) [1,1,1,1,0,1,0,0]) ++ [9,10]) [] (sub (B Qat) [1,1,1,1,0,1,0,0]) (Qak 2 (seqK (E0 lb n 0 995) (sub (B Qat) [1,1,1,1,0]) (sub (B Qat) [1,1,1,1,1]) (retK Tryz.prog (R Qat) 0 (outK (Qag Tryz.prog Qat))))) yr ⟨fr 55 [(0,vS a1),(1,vS b2),(4,vI 0),(44,vS a1),(45, .siter a1 vN)],[bx 55 []],KK⟩)
noncomputable def Qhs (lb n:Nat) (a1 b2:LB):Option CV :=
 hold (E0 lb n 0 995 (sub (B Qat) [1,1,1,1,1]) (retK Tryz.prog (R Qat) 0 (outK (Qag Tryz.prog Qat))) ⟨fr 55 [(0,vS a1),(1,vS b2),(4,vI 0)],[bx 55 []],KK⟩)
theorem Qf5 (lb n:Nat) (a1 b2:LB) :
 Qhs lb n a1 b2 =
 some (.int .i64 (-1)) := (Qac _).trans (by kernel_rfl)
theorem Qfi (lb n yr:Nat) (a1 b2:LB) (vN:Nat) :
 QdQ lb n (yr + 1) a1 b2 vN =
 bif (decide (vN < a1.length)) then
 (optO (C lb n Qaa [.str b2, .int .i32 (((Utf8.decode ⟨a1.toArray⟩ vN).1:Nat):Int)]) fun vt =>
 optO (CV.asI .i64 vt) fun mu =>
 bif (decide (mu ≥ 0)) then
 (some (.int .i64 ((vN:Nat):Int)))
 else
 (QdQ lb n yr a1 b2 (vN + (Utf8.decode ⟨a1.toArray⟩ vN).2)))
 else
 (Qhs lb n a1 b2 ) := (Qac _).trans (by kernel_rfl)
theorem Qk8 (lb n:Nat) (a1 b2:LB) :
 strings_IndexAny_J1 lb n a1 b2 =
 QdQ lb n n a1 b2 0 := (Qac _).trans (by kernel_rfl)
theorem Qnk (lb n:Nat) (a1 b2:LB) :
 top lb n Qat [.str a1, .str b2] =
 bif (b2 == []) then
 (some (.int .i64 (-1)))
 else
 (bif ((b2.length:Int) == 1) then
 (optO (atS b2 0) fun c3 =>
 bif (decide ((IntKind.wrap .i32 ((c3.toNat:Int))) ≥ 128)) then
 (optO (C lb n Qaa [.str a1, .int .i32 65533]) fun r4 =>
 some (r4))
 else
 (optO (C lb n Qaa [.str a1, .int .i32 (IntKind.wrap .i32 ((c3.toNat:Int)))]) fun r5 =>
 some (r5)))
 else
 (optO (C lb n Qdc [.int .i64 (a1.length:Int)]) fun r6 =>
 optO (CV.asB r6) fun b7 =>
 bif b7 then
 (optO (C lb n Qli [.str b2]) fun r9 =>
 optO (CV.asT r9) fun kY =>
 optO (kY[0]?) fun y4 =>
 optO (CV.asT r9) fun kf =>
 optO (kf[1]?) fun yR =>
 none)
 else
 (strings_IndexAny_J1 lb n a1 b2 ))) := by kernel_rfl
noncomputable def Qct (lb n k5:Nat) (a1:LB) (b2:Int) (p4:Nat):Option CV :=
 hold (Qau (E0 lb n 0 990) 0 (Qah (sub (B Qaa) [1,0,1,1,1,0,0,1,0,0]) ++ [5,6]) [] (sub (B Qaa) [1,0,1,1,1,0,0,1,0,0]) (Qak 9 (seqK (E0 lb n 0 993) (sub (B Qaa) [1,0,1,1,1,0,0]) (sub (B Qaa) [1,0,1,1,1,0,1]) (QaS (sub (B Qaa) [1,0,1,1,1,0]) (sub (B Qaa) [1,0,1,1,1,1]) (QaS (sub (B Qaa) [1,0,1,0]) (sub (B Qaa) [1,0,1,1]) (Qak 0 (retK Tryz.prog (R Qaa) 0 (outK (Qag Tryz.prog Qaa)))))))) k5 ⟨fr 187 [(0,vS a1),(1, .val (.int .i32 b2)),(4,vI 0),(160, .val (.bool (decide (b2 < 128)))),(161, .val (.int .i32 b2)),(162, .val (.bool (decide ((0:Int) ≤ b2)))),(163,vB true),(164, .val (.int .i32 b2)),(165, .val (.bool (decide (b2 < 128)))),(166, .val (.bool (decide (b2 < 128)))),(171, .val (.bool (b2 == 65533))),(172, .val (.int .i32 b2)),(173, .val (.bool (b2 == 65533))),(174,vS a1),(175, .siter a1 p4)],[bx 187 []],KK⟩)
noncomputable def QgX (lb n:Nat) (a1:LB) (b2:Int):Option CV :=
 hold (E0 lb n 0 993 (sub (B Qaa) [1,0,1,1,1,0,1]) (QaS (sub (B Qaa) [1,0,1,1,1,0]) (sub (B Qaa) [1,0,1,1,1,1]) (QaS (sub (B Qaa) [1,0,1,0]) (sub (B Qaa) [1,0,1,1]) (Qak 0 (retK Tryz.prog (R Qaa) 0 (outK (Qag Tryz.prog Qaa)))))) ⟨fr 187 [(0,vS a1),(1, .val (.int .i32 b2)),(4,vI 0),(160, .val (.bool (decide (b2 < 128)))),(161, .val (.int .i32 b2)),(162, .val (.bool (decide ((0:Int) ≤ b2)))),(163,vB true),(164, .val (.int .i32 b2)),(165, .val (.bool (decide (b2 < 128)))),(166, .val (.bool (decide (b2 < 128)))),(171, .val (.bool (b2 == 65533))),(172, .val (.int .i32 b2)),(173, .val (.bool (b2 == 65533)))],[bx 187 []],KK⟩)
theorem Qko (lb n:Nat) (a1:LB) (b2:Int) :
 QgX lb n a1 b2 =
 some (.int .i64 (-1)) := (Qac _).trans (by kernel_rfl)
theorem Qdt (lb n k5:Nat) (a1:LB) (b2:Int) (p4:Nat) :
 Qct lb n (k5 + 1) a1 b2 p4 =
 bif (decide (p4 < a1.length)) then
 (bif ((((Utf8.decode ⟨a1.toArray⟩ p4).1:Nat):Int) == 65533) then
 (some (.int .i64 ((p4:Nat):Int)))
 else
 (Qct lb n k5 a1 b2 (p4 + (Utf8.decode ⟨a1.toArray⟩ p4).2)))
 else
 (QgX lb n a1 b2 ) := (Qac _).trans (by kernel_rfl)
noncomputable def Qhj (lb n vq:Nat) (a1:LB) (b2:Int) (b7:Bool) (r6:CV):Option CV :=
 hold (Qau (E0 lb n 0 984) 0 (Qah (sub (B Qaa) [1,0,1,1,1,1,1,1,0,1,1,1,1,0,0,0]) ++ [11,12,12]) [] (sub (B Qaa) [1,0,1,1,1,1,1,1,0,1,1,1,1,0,0,0]) (Qak 1 (seqK (E0 lb n 0 986) (sub (B Qaa) [1,0,1,1,1,1,1,1,0,1,1,1,1,0]) (sub (B Qaa) [1,0,1,1,1,1,1,1,0,1,1,1,1,1]) (QaS (sub (B Qaa) [1,0,1,1,1,1,1,0]) (sub (B Qaa) [1,0,1,1,1,1,1,1]) (QaS (sub (B Qaa) [1,0,1,1,1,0]) (sub (B Qaa) [1,0,1,1,1,1]) (QaS (sub (B Qaa) [1,0,1,0]) (sub (B Qaa) [1,0,1,1]) (Qak 0 (retK Tryz.prog (R Qaa) 0 (outK (Qag Tryz.prog Qaa))))))))) vq ⟨fr 187 [(0,vS a1),(1, .val (.int .i32 b2)),(4,vI 0),(7, .val (.str ((Utf8.encode b2).data.toList))),(8, .val (.int .i64 (IntKind.wrap .i64 ((((Utf8.encode b2).data.toList).length:Int) - 1)))),(9, .val (.int .i64 (IntKind.wrap .i64 ((((Utf8.encode b2).data.toList).length:Int) - 1)))),(10,vI 0),(17, .val (.int .i32 b2)),(18, .val (.str ((Utf8.encode b2).data.toList))),(19, .val (.str ((Utf8.encode b2).data.toList))),(20, .val (.int .i64 (((Utf8.encode b2).data.toList).length:Int))),(21, .val (.int .i64 (IntKind.wrap .i64 ((((Utf8.encode b2).data.toList).length:Int) - 1)))),(22, .val (.int .i64 (IntKind.wrap .i64 ((((Utf8.encode b2).data.toList).length:Int) - 1)))),(160, .val (.bool (decide (b2 < 128)))),(161, .val (.int .i32 b2)),(162, .val (.bool (decide ((0:Int) ≤ b2)))),(163,vB true),(164, .val (.int .i32 b2)),(165, .val (.bool (decide (b2 < 128)))),(166, .val (.bool (decide (b2 < 128)))),(171, .val (.bool (b2 == 65533))),(172, .val (.int .i32 b2)),(173, .val (.bool (b2 == 65533))),(183, .val (.bool (!b7))),(184, .val (.int .i32 b2)),(185,vV r6),(186, .val (.bool (!b7)))],[bx 187 []],KK⟩)
noncomputable def Qme (lb n vq:Nat) (a1:LB) (b2:Int) (b7:Bool) (r6:CV) (y7:Int) (z6:CV):Option CV :=
 hold (E0 lb n 0 980 (sub (B Qaa) [1,0,1,1,1,1,1,1,0,1,1,1,1,0,0,0,1,0,0,1]) (Qak 2 (Qde 0 (Qah (sub (B Qaa) [1,0,1,1,1,1,1,1,0,1,1,1,1,0,0,0]) ++ [11,12,12]) [] (Qau (E0 lb n 0 984) 0 (Qah (sub (B Qaa) [1,0,1,1,1,1,1,1,0,1,1,1,1,0,0,0]) ++ [11,12,12]) [] (sub (B Qaa) [1,0,1,1,1,1,1,1,0,1,1,1,1,0,0,0]) (Qak 1 (seqK (E0 lb n 0 986) (sub (B Qaa) [1,0,1,1,1,1,1,1,0,1,1,1,1,0]) (sub (B Qaa) [1,0,1,1,1,1,1,1,0,1,1,1,1,1]) (QaS (sub (B Qaa) [1,0,1,1,1,1,1,0]) (sub (B Qaa) [1,0,1,1,1,1,1,1]) (QaS (sub (B Qaa) [1,0,1,1,1,0]) (sub (B Qaa) [1,0,1,1,1,1]) (QaS (sub (B Qaa) [1,0,1,0]) (sub (B Qaa) [1,0,1,1]) (Qak 0 (retK Tryz.prog (R Qaa) 0 (outK (Qag Tryz.prog Qaa))))))))) vq) (Qak 1 (seqK (E0 lb n 0 986) (sub (B Qaa) [1,0,1,1,1,1,1,1,0,1,1,1,1,0]) (sub (B Qaa) [1,0,1,1,1,1,1,1,0,1,1,1,1,1]) (QaS (sub (B Qaa) [1,0,1,1,1,1,1,0]) (sub (B Qaa) [1,0,1,1,1,1,1,1]) (QaS (sub (B Qaa) [1,0,1,1,1,0]) (sub (B Qaa) [1,0,1,1,1,1]) (QaS (sub (B Qaa) [1,0,1,0]) (sub (B Qaa) [1,0,1,1]) (Qak 0 (retK Tryz.prog (R Qaa) 0 (outK (Qag Tryz.prog Qaa))))))))))) ⟨fr 187 [(0,vS a1),(1, .val (.int .i32 b2)),(4,vI 0),(7, .val (.str ((Utf8.encode b2).data.toList))),(8, .val (.int .i64 (IntKind.wrap .i64 ((((Utf8.encode b2).data.toList).length:Int) - 1)))),(9,vI y7),(10,vI 0),(11,vV z6),(17, .val (.int .i32 b2)),(18, .val (.str ((Utf8.encode b2).data.toList))),(19, .val (.str ((Utf8.encode b2).data.toList))),(20, .val (.int .i64 (((Utf8.encode b2).data.toList).length:Int))),(21, .val (.int .i64 (IntKind.wrap .i64 ((((Utf8.encode b2).data.toList).length:Int) - 1)))),(22, .val (.int .i64 (IntKind.wrap .i64 ((((Utf8.encode b2).data.toList).length:Int) - 1)))),(160, .val (.bool (decide (b2 < 128)))),(161, .val (.int .i32 b2)),(162, .val (.bool (decide ((0:Int) ≤ b2)))),(163,vB true),(164, .val (.int .i32 b2)),(165, .val (.bool (decide (b2 < 128)))),(166, .val (.bool (decide (b2 < 128)))),(171, .val (.bool (b2 == 65533))),(172, .val (.int .i32 b2)),(173, .val (.bool (b2 == 65533))),(183, .val (.bool (!b7))),(184, .val (.int .i32 b2)),(185,vV r6),(186, .val (.bool (!b7)))],[bx 187 []],KK⟩)
noncomputable def QmC (lb n vq:Nat) (a1:LB) (b2:Int) (b7:Bool) (r6:CV):Option CV :=
 hold (E0 lb n 0 980 (sub (B Qaa) [1,0,1,1,1,1,1,1,0,1,1,1,1,0,0,0,1,0,0,1]) (Qak 2 (Qde 0 (Qah (sub (B Qaa) [1,0,1,1,1,1,1,1,0,1,1,1,1,0,0,0]) ++ [11,12,12]) [] (Qau (E0 lb n 0 984) 0 (Qah (sub (B Qaa) [1,0,1,1,1,1,1,1,0,1,1,1,1,0,0,0]) ++ [11,12,12]) [] (sub (B Qaa) [1,0,1,1,1,1,1,1,0,1,1,1,1,0,0,0]) (Qak 1 (seqK (E0 lb n 0 986) (sub (B Qaa) [1,0,1,1,1,1,1,1,0,1,1,1,1,0]) (sub (B Qaa) [1,0,1,1,1,1,1,1,0,1,1,1,1,1]) (QaS (sub (B Qaa) [1,0,1,1,1,1,1,0]) (sub (B Qaa) [1,0,1,1,1,1,1,1]) (QaS (sub (B Qaa) [1,0,1,1,1,0]) (sub (B Qaa) [1,0,1,1,1,1]) (QaS (sub (B Qaa) [1,0,1,0]) (sub (B Qaa) [1,0,1,1]) (Qak 0 (retK Tryz.prog (R Qaa) 0 (outK (Qag Tryz.prog Qaa))))))))) vq) (Qak 1 (seqK (E0 lb n 0 986) (sub (B Qaa) [1,0,1,1,1,1,1,1,0,1,1,1,1,0]) (sub (B Qaa) [1,0,1,1,1,1,1,1,0,1,1,1,1,1]) (QaS (sub (B Qaa) [1,0,1,1,1,1,1,0]) (sub (B Qaa) [1,0,1,1,1,1,1,1]) (QaS (sub (B Qaa) [1,0,1,1,1,0]) (sub (B Qaa) [1,0,1,1,1,1]) (QaS (sub (B Qaa) [1,0,1,0]) (sub (B Qaa) [1,0,1,1]) (Qak 0 (retK Tryz.prog (R Qaa) 0 (outK (Qag Tryz.prog Qaa))))))))))) ⟨fr 187 [(0,vS a1),(1, .val (.int .i32 b2)),(4,vI 0),(7, .val (.str ((Utf8.encode b2).data.toList))),(8, .val (.int .i64 (IntKind.wrap .i64 ((((Utf8.encode b2).data.toList).length:Int) - 1)))),(9, .val (.int .i64 (IntKind.wrap .i64 ((((Utf8.encode b2).data.toList).length:Int) - 1)))),(10,vI 0),(17, .val (.int .i32 b2)),(18, .val (.str ((Utf8.encode b2).data.toList))),(19, .val (.str ((Utf8.encode b2).data.toList))),(20, .val (.int .i64 (((Utf8.encode b2).data.toList).length:Int))),(21, .val (.int .i64 (IntKind.wrap .i64 ((((Utf8.encode b2).data.toList).length:Int) - 1)))),(22, .val (.int .i64 (IntKind.wrap .i64 ((((Utf8.encode b2).data.toList).length:Int) - 1)))),(160, .val (.bool (decide (b2 < 128)))),(161, .val (.int .i32 b2)),(162, .val (.bool (decide ((0:Int) ≤ b2)))),(163,vB true),(164, .val (.int .i32 b2)),(165, .val (.bool (decide (b2 < 128)))),(166, .val (.bool (decide (b2 < 128)))),(171, .val (.bool (b2 == 65533))),(172, .val (.int .i32 b2)),(173, .val (.bool (b2 == 65533))),(183, .val (.bool (!b7))),(184, .val (.int .i32 b2)),(185,vV r6),(186, .val (.bool (!b7)))],[bx 187 []],KK⟩)
noncomputable def QgB (lb n:Nat) (a1:LB) (b2:Int) (b7:Bool) (r6:CV):Option CV :=
 hold (E0 lb n 0 986 (sub (B Qaa) [1,0,1,1,1,1,1,1,0,1,1,1,1,1]) (QaS (sub (B Qaa) [1,0,1,1,1,1,1,0]) (sub (B Qaa) [1,0,1,1,1,1,1,1]) (QaS (sub (B Qaa) [1,0,1,1,1,0]) (sub (B Qaa) [1,0,1,1,1,1]) (QaS (sub (B Qaa) [1,0,1,0]) (sub (B Qaa) [1,0,1,1]) (Qak 0 (retK Tryz.prog (R Qaa) 0 (outK (Qag Tryz.prog Qaa))))))) ⟨fr 187 [(0,vS a1),(1, .val (.int .i32 b2)),(4,vI 0),(7, .val (.str ((Utf8.encode b2).data.toList))),(8, .val (.int .i64 (IntKind.wrap .i64 ((((Utf8.encode b2).data.toList).length:Int) - 1)))),(9, .val (.int .i64 (IntKind.wrap .i64 ((((Utf8.encode b2).data.toList).length:Int) - 1)))),(10,vI 0),(17, .val (.int .i32 b2)),(18, .val (.str ((Utf8.encode b2).data.toList))),(19, .val (.str ((Utf8.encode b2).data.toList))),(20, .val (.int .i64 (((Utf8.encode b2).data.toList).length:Int))),(21, .val (.int .i64 (IntKind.wrap .i64 ((((Utf8.encode b2).data.toList).length:Int) - 1)))),(22, .val (.int .i64 (IntKind.wrap .i64 ((((Utf8.encode b2).data.toList).length:Int) - 1)))),(160, .val (.bool (decide (b2 < 128)))),(161, .val (.int .i32 b2)),(162, .val (.bool (decide ((0:Int) ≤ b2)))),(163,vB true),(164, .val (.int .i32 b2)),(165, .val (.bool (decide (b2 < 128)))),(166, .val (.bool (decide (b2 < 128)))),(171, .val (.bool (b2 == 65533))),(172, .val (.int .i32 b2)),(173, .val (.bool (b2 == 65533))),(183, .val (.bool (!b7))),(184, .val (.int .i32 b2)),(185,vV r6),(186, .val (.bool (!b7)))],[bx 187 []],KK⟩)
theorem QjZ (lb n:Nat) (a1:LB) (b2:Int) (b7:Bool) (r6:CV) :
 QgB lb n a1 b2 b7 r6 =
 some (.int .i64 (-1)) := (Qac _).trans (by kernel_rfl)
theorem Qfa (lb n vq:Nat) (a1:LB) (b2:Int) (b7:Bool) (r6:CV) :
 Qhj lb n (vq + 1) a1 b2 b7 r6 =
 bif (decide ((IntKind.wrap .i64 ((((Utf8.encode b2).data.toList).length:Int) - 1)) < (a1.length:Int))) then
 (optO (atS a1 (IntKind.wrap .i64 ((((Utf8.encode b2).data.toList).length:Int) - 1))) fun lO =>
 optO (atS ((Utf8.encode b2).data.toList) (IntKind.wrap .i64 ((((Utf8.encode b2).data.toList).length:Int) - 1))) fun lH =>
 bif ((lO.toNat:Int) != (lH.toNat:Int)) then
 (chkO (decide ((0:Int) ≤ (IntKind.wrap .i64 ((IntKind.wrap .i64 ((((Utf8.encode b2).data.toList).length:Int) - 1)) + 1)) ∧ (IntKind.wrap .i64 ((IntKind.wrap .i64 ((((Utf8.encode b2).data.toList).length:Int) - 1)) + 1)) ≤ (a1.length:Int))) (
 optO (atS ((Utf8.encode b2).data.toList) (IntKind.wrap .i64 ((((Utf8.encode b2).data.toList).length:Int) - 1))) fun yU =>
 optO (C lb n QcS [.str ((a1.take ((a1.length:Int).toNat)).drop ((IntKind.wrap .i64 ((IntKind.wrap .i64 ((((Utf8.encode b2).data.toList).length:Int) - 1)) + 1)).toNat)), .int .u8 (yU.toNat:Int)]) fun oo =>
 optO (CV.asI .i64 oo) fun wq =>
 bif (decide (wq < 0)) then
 (some (.int .i64 (-1)))
 else
 (optO (CV.asI .i64 oo) fun i37 =>
 Qme lb n vq a1 b2 b7 r6 (IntKind.wrap .i64 ((IntKind.wrap .i64 ((((Utf8.encode b2).data.toList).length:Int) - 1)) + (IntKind.wrap .i64 (i37 + 1)))) oo)))
 else
 (QmC lb n vq a1 b2 b7 r6 ))
 else
 (QgB lb n a1 b2 b7 r6 ) := (Qac _).trans (by kernel_rfl)
noncomputable def QlZ (lb n lR:Nat) (a1:LB) (b2:Int) (lK:Nat):Option CV :=
 hold (Qau (E0 lb n 0 990) 0 (Qah (sub (B Qaa) [1,0,1,1,1,0,0,1,0,0]) ++ [5,6]) [] (sub (B Qaa) [1,0,1,1,1,0,0,1,0,0]) (Qak 9 (seqK (E0 lb n 0 993) (sub (B Qaa) [1,0,1,1,1,0,0]) (sub (B Qaa) [1,0,1,1,1,0,1]) (QaS (sub (B Qaa) [1,0,1,1,1,0]) (sub (B Qaa) [1,0,1,1,1,1]) (QaS (sub (B Qaa) [1,0,1,0]) (sub (B Qaa) [1,0,1,1]) (Qak 0 (retK Tryz.prog (R Qaa) 0 (outK (Qag Tryz.prog Qaa)))))))) lR ⟨fr 187 [(0,vS a1),(1, .val (.int .i32 b2)),(4,vI 0),(160,vB false),(161, .val (.int .i32 b2)),(162, .val (.bool (decide ((0:Int) ≤ b2)))),(163,vB false),(164, .undef),(165, .undef),(166,vB false),(171, .val (.bool (b2 == 65533))),(172, .val (.int .i32 b2)),(173, .val (.bool (b2 == 65533))),(174,vS a1),(175, .siter a1 lK)],[bx 187 []],KK⟩)
noncomputable def QlK (lb n lS:Nat) (a1:LB) (b2:Int) (ow:Bool) (vM:CV):Option CV :=
 hold (Qau (E0 lb n 0 984) 0 (Qah (sub (B Qaa) [1,0,1,1,1,1,1,1,0,1,1,1,1,0,0,0]) ++ [11,12,12]) [] (sub (B Qaa) [1,0,1,1,1,1,1,1,0,1,1,1,1,0,0,0]) (Qak 1 (seqK (E0 lb n 0 986) (sub (B Qaa) [1,0,1,1,1,1,1,1,0,1,1,1,1,0]) (sub (B Qaa) [1,0,1,1,1,1,1,1,0,1,1,1,1,1]) (QaS (sub (B Qaa) [1,0,1,1,1,1,1,0]) (sub (B Qaa) [1,0,1,1,1,1,1,1]) (QaS (sub (B Qaa) [1,0,1,1,1,0]) (sub (B Qaa) [1,0,1,1,1,1]) (QaS (sub (B Qaa) [1,0,1,0]) (sub (B Qaa) [1,0,1,1]) (Qak 0 (retK Tryz.prog (R Qaa) 0 (outK (Qag Tryz.prog Qaa))))))))) lS ⟨fr 187 [(0,vS a1),(1, .val (.int .i32 b2)),(4,vI 0),(7, .val (.str ((Utf8.encode b2).data.toList))),(8, .val (.int .i64 (IntKind.wrap .i64 ((((Utf8.encode b2).data.toList).length:Int) - 1)))),(9, .val (.int .i64 (IntKind.wrap .i64 ((((Utf8.encode b2).data.toList).length:Int) - 1)))),(10,vI 0),(17, .val (.int .i32 b2)),(18, .val (.str ((Utf8.encode b2).data.toList))),(19, .val (.str ((Utf8.encode b2).data.toList))),(20, .val (.int .i64 (((Utf8.encode b2).data.toList).length:Int))),(21, .val (.int .i64 (IntKind.wrap .i64 ((((Utf8.encode b2).data.toList).length:Int) - 1)))),(22, .val (.int .i64 (IntKind.wrap .i64 ((((Utf8.encode b2).data.toList).length:Int) - 1)))),(160,vB false),(161, .val (.int .i32 b2)),(162, .val (.bool (decide ((0:Int) ≤ b2)))),(163,vB false),(164, .undef),(165, .undef),(166,vB false),(171, .val (.bool (b2 == 65533))),(172, .val (.int .i32 b2)),(173, .val (.bool (b2 == 65533))),(183, .val (.bool (!ow))),(184, .val (.int .i32 b2)),(185,vV vM),(186, .val (.bool (!ow)))],[bx 187 []],KK⟩)
theorem Qdu (lb n:Nat) (a1:LB) (b2:Int) :
 top lb n Qaa [.str a1, .int .i32 b2] =
 bif (decide ((0:Int) ≤ b2)) then
 (bif (decide (b2 < 128)) then
 (optO (C lb n QcS [.str a1, .int .u8 (IntKind.wrap .u8 (b2))]) fun r3 =>
 some (r3))
 else
 (bif (b2 == 65533) then
 (Qct lb n n a1 b2 0)
 else
 (optO (C lb n QcF [.int .i32 b2]) fun r6 =>
 optO (CV.asB r6) fun b7 =>
 bif (!b7) then
 (some (.int .i64 (-1)))
 else
 (Qhj lb n n a1 b2 b7 r6 ))))
 else
 (bif (b2 == 65533) then
 (QlZ lb n n a1 b2 0)
 else
 (optO (C lb n QcF [.int .i32 b2]) fun vM =>
 optO (CV.asB vM) fun ow =>
 bif (!ow) then
 (some (.int .i64 (-1)))
 else
 (QlK lb n n a1 b2 ow vM ))) := by kernel_rfl
theorem Qcq (lb n:Nat) (a1:Int) :
 top lb n QcF [.int .i32 a1] =
 bif (decide ((0:Int) ≤ a1)) then
 (bif (decide (a1 < 55296)) then
 (some (.bool true))
 else
 (bif (decide ((57343:Int) < a1)) then
 (bif (decide (a1 ≤ 1114111)) then
 (some (.bool true))
 else
 (some (.bool false)))
 else
 (some (.bool false))))
 else
 (bif (decide ((57343:Int) < a1)) then
 (bif (decide (a1 ≤ 1114111)) then
 (some (.bool true))
 else
 (some (.bool false)))
 else
 (some (.bool false))) := by kernel_rfl
theorem QhN (lb n:Nat) (a1:Int) :
 top lb n Qdc [.int .i64 a1] =
 some (.bool (decide (a1 > 8))) := by kernel_rfl
end Go.Proofs.K5
