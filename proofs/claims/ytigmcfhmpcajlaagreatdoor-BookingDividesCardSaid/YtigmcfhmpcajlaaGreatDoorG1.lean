/- Equations of functions, printed by program. Conditions: none. -/
import Derived.Test.YtigmcfhmpcajlaaGreatDoorEv
namespace Go.Proofs
open Go.Am
set_option maxRecDepth 100000
set_option linter.unusedVariables false
theorem Qpp (lb n) (a1 : Int) :
 top lb n Qc1 [.int .i64 a1] =
 optO (C lb n Qg1 [.int .i64 a1]) fun r2 =>
 some (r2) := by kernel_rfl
theorem Qsc (lb n) (a1 : LB) (b2 c3 : Int) :
 top lb n Qed [.str a1, .int .i64 b2, .int .i64 c3] =
 bif (decide ((a1.length : Int) ≥ b2)) then
 (bif (decide ((a1.length : Int) ≤ c3)) then
 (optO (C lb n Qam [.str a1, .fn Qcq]) fun r4 =>
 some (r4))
 else
 (some (.bool false)))
 else
 (some (.bool false)) := by kernel_rfl
theorem QpG (lb n) (a1 : Int) :
 top lb n Qdn [.int .i64 a1] =
 bif (decide (a1 < 0)) then
 (optO (C lb n Qey [.int .u64 (IntKind.wrap .u64 ((IntKind.wrap .u64 (IntKind.wrap .i64 (0 - (IntKind.wrap .i64 (a1 + 1))))) + 1))]) fun r2 =>
 optO (CV.asS r2) fun s3 =>
 chkO (decide (([45] : LB).length + s3.length ≤ 9223372036854775807)) (
 some (.str (([45] : LB) ++ s3))))
 else
 (optO (C lb n Qey [.int .u64 (IntKind.wrap .u64 (a1))]) fun r4 =>
 some (r4)) := by kernel_rfl
noncomputable def r01_Code_L1 :=
 fun lb n (ol : Nat) a1 b2 c3 vq =>
 hold (Qav (E0 lb n 0 995) 0 (Qag (sub (B Qbx) [1,0,1,0,0]) ++ []) [] (sub (B Qbx) [1,0,1,0,0]) (Qak 0 (seqK (E0 lb n 0 998) (sub (B Qbx) [1,0]) (sub (B Qbx) [1,1]) (retK Tryz.prog (R Qbx) 0 (outK (Qad Tryz.prog Qbx))))) ol ⟨fr 36 [(0,vS a1),(1,vI b2),(2,vI c3),(6,vB false),(7,vI vq)],[bx 36 []],KK⟩)
noncomputable def Qnu (lb n : Nat) (a1 : LB) (b2 c3 wT : Int) : Option CV :=
 hold (E0 lb n 0 998 (sub (B Qbx) [1,1]) (retK Tryz.prog (R Qbx) 0 (outK (Qad Tryz.prog Qbx))) ⟨fr 36 [(0,vS a1),(1,vI b2),(2,vI c3),(6,vB false),(7,vI wT)],[bx 36 []],KK⟩)
theorem QpN (lb n : Nat) (a1 : LB) (b2 c3 wT : Int) :
 Qnu lb n a1 b2 c3 wT =
 bif (decide ((a1.length : Int) ≥ b2)) then
 (some (.bool (decide ((a1.length : Int) ≤ c3))))
 else
 (some (.bool false)) := (Qac _).trans (by kernel_rfl)
theorem Qiw (lb n ol : Nat) (a1 : LB) (b2 c3 vq : Int) :
 r01_Code_L1 lb n (ol + 1) a1 b2 c3 vq =
 bif (decide (vq < (a1.length : Int))) then
 (optO (atS a1 vq) fun c21 =>
 optO (C lb n QdF [.int .u8 (c21.toNat : Int)]) fun jA =>
 optO (CV.asB jA) fun ug =>
 bif (!ug) then
 (optO (atS a1 vq) fun pX =>
 optO (C lb n QjH [.int .u8 (pX.toNat : Int)]) fun nq =>
 optO (CV.asB nq) fun wV =>
 bif (!wV) then
 (some (.bool false))
 else
 (r01_Code_L1 lb n ol a1 b2 c3 (IntKind.wrap .i64 (vq + 1))))
 else
 (r01_Code_L1 lb n ol a1 b2 c3 (IntKind.wrap .i64 (vq + 1))))
 else
 (Qnu lb n a1 b2 c3 vq) := (Qac _).trans (by kernel_rfl)
theorem Qtj (lb n : Nat) (a1 : LB) (b2 c3 : Int) :
 top lb n Qbx [.str a1, .int .i64 b2, .int .i64 c3] =
 r01_Code_L1 lb n n a1 b2 c3 0 := by kernel_rfl
theorem Qoq (lb n : Nat) (a1 : LB) :
 top lb n QgQ [.str a1] =
 optO (C lb n Qed [.str a1, .int .i64 2, .int .i64 2]) fun r2 =>
 optO (CV.asB r2) fun b3 =>
 bif b3 then
 (optO (C lb n Qam [.str a1, .fn Qck]) fun r4 =>
 optO (CV.asB r4) fun b5 =>
 some (.bool (!b5)))
 else
 (some (.bool false)) := by kernel_rfl
theorem QoP (lb n : Nat) (a1 : LB) :
 top lb n QeR [.str a1] =
 bif ((a1.length : Int) == 3) then
 (optO (C lb n Qam [.str a1, .fn Qbq]) fun r2 =>
 some (r2))
 else
 (some (.bool false)) := by kernel_rfl
theorem QqX (lb n : Nat) (a1 : LB) :
 top lb n Qim [.str a1] =
 bif ((a1.length : Int) == 1) then
 (optO (atS a1 0) fun c2 =>
 optO (C lb n Qbq [.int .u8 (c2.toNat : Int)]) fun r3 =>
 some (r3))
 else
 (some (.bool false)) := by kernel_rfl
theorem QpK (lb n : Nat) (a1 : Int) :
 top lb n Qcq [.int .u8 a1] =
 optO (C lb n Qbq [.int .u8 a1]) fun r2 =>
 optO (CV.asB r2) fun b3 =>
 bif b3 then
 (some (.bool true))
 else
 (optO (C lb n Qck [.int .u8 a1]) fun r4 =>
 some (r4)) := by kernel_rfl
theorem QpA (lb n : Nat) (a1 : Int) :
 top lb n Qbq [.int .u8 a1] =
 bif (decide (a1 ≥ 65)) then
 (some (.bool (decide (a1 ≤ 90))))
 else
 (some (.bool false)) := by kernel_rfl
theorem Qq5 (lb n : Nat) (a1 : Int) :
 top lb n Qck [.int .u8 a1] =
 bif (decide (a1 ≥ 48)) then
 (some (.bool (decide (a1 ≤ 57))))
 else
 (some (.bool false)) := by kernel_rfl
theorem QpZ (lb n : Nat) (a1 : LB) :
 top lb n QhN [.str a1] =
 optO (C lb n Qbx [.str a1, .int .i64 2, .int .i64 2]) fun r2 =>
 optO (CV.asB r2) fun b3 =>
 bif b3 then
 (optO (atS a1 0) fun c4 =>
 optO (C lb n QdF [.int .u8 (c4.toNat : Int)]) fun r5 =>
 optO (CV.asB r5) fun b6 =>
 bif b6 then
 (some (.bool true))
 else
 (optO (atS a1 1) fun c7 =>
 optO (C lb n QdF [.int .u8 (c7.toNat : Int)]) fun r9 =>
 some (r9)))
 else
 (some (.bool false)) := by kernel_rfl
theorem QpO (lb n : Nat) (a1 : LB) :
 top lb n QfB [.str a1] =
 optO (C lb n Qbd [.str a1, .int .i64 3]) fun r2 =>
 some (r2) := by kernel_rfl
theorem Qsh (lb n : Nat) (a1 : LB) :
 top lb n QjD [.str a1] =
 optO (C lb n Qbd [.str a1, .int .i64 1]) fun r2 =>
 some (r2) := by kernel_rfl
theorem Qlr (lb n : Nat) (a1 : Int) :
 top lb n Qey [.int .u64 a1] =
 bif (decide (a1 < 10)) then
 (chkO (decide ((0 : Int) ≤ (IntKind.wrap .u64 (a1 + 1)) ∧ (IntKind.wrap .u64 (a1 + 1)) ≤ 10)) (
 chkO (decide ((0 : Int) ≤ a1 ∧ a1 ≤ (IntKind.wrap .u64 (a1 + 1)))) (
 some (.str ((([48,49,50,51,52,53,54,55,56,57] : LB).take ((IntKind.wrap .u64 (a1 + 1)).toNat)).drop a1.toNat)))))
 else
 (optO (C lb n Qey [.int .u64 (IntKind.wrap .u64 (Int.tdiv a1 10))]) fun r2 =>
 chkO (decide ((0 : Int) ≤ (IntKind.wrap .u64 ((Int.tmod a1 10) + 1)) ∧ (IntKind.wrap .u64 ((Int.tmod a1 10) + 1)) ≤ 10)) (
 chkO (decide ((0 : Int) ≤ (Int.tmod a1 10) ∧ (Int.tmod a1 10) ≤ (IntKind.wrap .u64 ((Int.tmod a1 10) + 1)))) (
 optO (CV.asS r2) fun s3 =>
 chkO (decide (s3.length + ((([48,49,50,51,52,53,54,55,56,57] : LB).take ((IntKind.wrap .u64 ((Int.tmod a1 10) + 1)).toNat)).drop ((Int.tmod a1 10).toNat)).length ≤ 9223372036854775807)) (
 some (.str (s3 ++ ((([48,49,50,51,52,53,54,55,56,57] : LB).take ((IntKind.wrap .u64 ((Int.tmod a1 10) + 1)).toNat)).drop ((Int.tmod a1 10).toNat)))))))) := by kernel_rfl
theorem QsF (lb n : Nat) (a1 : Int) :
 top lb n QdF [.int .u8 a1] =
 bif (decide (a1 ≥ 65)) then
 (some (.bool (decide (a1 ≤ 90))))
 else
 (some (.bool false)) := by kernel_rfl
theorem Qsa (lb n : Nat) (a1 : Int) :
 top lb n QjH [.int .u8 a1] =
 bif (decide (a1 ≥ 48)) then
 (some (.bool (decide (a1 ≤ 57))))
 else
 (some (.bool false)) := by kernel_rfl
noncomputable def Qd8 (lb n kC : Nat) (a1 : LB) (x4 x6 r2 : CV) (p9 : Bool × LL) (gb : Bool × LL) (o7 : LL) (kX : Int) : Option CV :=
 hold (Qav (E0 lb n 0 991) 0 (Qag (sub (B QaR) [1,1,1,1,1,0,1,0,0]) ++ [8,9,10,8]) [] (sub (B QaR) [1,1,1,1,1,0,1,0,0]) (Qak 0 (seqK (E0 lb n 0 994) (sub (B QaR) [1,1,1,1,1,0]) (sub (B QaR) [1,1,1,1,1,1]) (retK Tryz.prog (R QaR) 0 (outK (Qad Tryz.prog QaR))))) kC ⟨fr 50 [(0,vS a1),(2, .lst true true 9 []),(3,vI 0),(4,vV x4),(5,vV x6),(6, .lst true false 9 o7),(13,vV r2),(14,vS a1),(15,vV r2),(16,vV x4),(17,vV x6),(20,vV x4),(21, .val (.int .i64 (p9.2.length : Int))),(22, .val (.list false [])),(23,vV x4),(24, .val (.int .i64 (gb.2.length : Int))),(25,vI kX)],[bx 50 []],KK⟩)
noncomputable def Qlp (lb n : Nat) (a1 : LB) (x4 x6 r2 : CV) (p9 : Bool × LL) (yu : Bool) (yw : LL) : Option CV :=
 hold (E0 lb n 0 994 (sub (B QaR) [1,1,1,1,1,1]) (retK Tryz.prog (R QaR) 0 (outK (Qad Tryz.prog QaR))) ⟨fr 50 [(0,vS a1),(2, .lst true true 9 []),(3,vI 0),(4,vV x4),(5,vV x6),(6, .lst true yu 9 yw),(13,vV r2),(14,vS a1),(15,vV r2),(16,vV x4),(17,vV x6),(20,vV x4),(21, .val (.int .i64 (p9.2.length : Int))),(22, .val (.list false []))],[bx 50 []],KK⟩)
theorem Qn7 (lb n : Nat) (a1 : LB) (x4 x6 r2 : CV) (p9 : Bool × LL) (yu : Bool) (yw : LL) :
 Qlp lb n a1 x4 x6 r2 p9 yu yw =
 some (.tup [.list yu yw, .int .i64 0]) := (Qac _).trans (by kernel_rfl)
theorem QcF (lb n kC : Nat) (a1 : LB) (x4 x6 r2 : CV) (p9 : Bool × LL) (gb : Bool × LL) (o7 : LL) (kX : Int) :
 Qd8 lb n (kC + 1) a1 x4 x6 r2 p9 gb o7 kX =
 bif (decide (kX < (gb.2.length : Int))) then
 (optO (CV.asL x4) fun p44 =>
 optO (atL p44.2 kX) fun sZ =>
 chkO (sZ.length == 1) (
 optO (sZ[0]?) fun kP =>
 optO (C lb n Qgq [kP]) fun uq =>
 optO (CV.asB uq) fun um =>
 bif (!um) then
 (optO (C lb n Qbc [kP]) fun wC =>
 optO (CV.asT wC) fun uF =>
 optO (uF[0]?) fun sd =>
 optO (CV.asT wC) fun t52 =>
 optO (t52[1]?) fun gU =>
 optO (CV.asI .i64 gU) fun wP =>
 bif (wP != 0) then
 (some (.tup [.list true [], .int .i64 3]))
 else
 (optO (C lb n Qgq [sd]) fun r55 =>
 optO (CV.asB r55) fun gk =>
 bif gk then
 (some (.tup [.list true [], .int .i64 3]))
 else
 (chkO (CV.isCell sd) (
 chkO (room (o7.length + 1) 16) (
 Qd8 lb n kC a1 x4 x6 r2 p9 gb (o7 ++ [[sd]]) (IntKind.wrap .i64 (kX + 1)))))))
 else
 (chkO (CV.isCell kP) (
 chkO (room (o7.length + 1) 16) (
 Qd8 lb n kC a1 x4 x6 r2 p9 gb (o7 ++ [[kP]]) (IntKind.wrap .i64 (kX + 1)))))))
 else
 (Qlp lb n a1 x4 x6 r2 p9 false o7) := (Qac _).trans (by kernel_rfl)
theorem Qq8 (lb n : Nat) (a1 : LB) :
 top lb n QaR [.str a1] =
 bif (a1 == []) then
 (some (.tup [.list true [], .int .i64 0]))
 else
 (optO (C lb n QbY [.str a1]) fun r2 =>
 optO (CV.asT r2) fun t3 =>
 optO (t3[0]?) fun x4 =>
 optO (CV.asT r2) fun t5 =>
 optO (t5[1]?) fun x6 =>
 optO (CV.asB x6) fun b7 =>
 bif (!b7) then
 (some (.tup [.list true [], .int .i64 3]))
 else
 (optO (CV.asL x4) fun p9 =>
 chkO (decide (0 ≤ (0 : Int)) && decide ((0 : Int) ≤ ((p9.2.length : Int) : Int)) && decide (((p9.2.length : Int) : Int) * 16 ≤ 140737488355328) && decide (((p9.2.length : Int) : Int) ≤ 140737488355328)) (
 optO (CV.asL x4) fun gb =>
 Qd8 lb n n a1 x4 x6 r2 p9 gb [] 0))) := by kernel_rfl
noncomputable def Qgm (lb n oP : Nat) (a1 : LB) (r2 : CV) (p3 : Bool × LL) (vF : Int) : Option CV :=
 hold (Qav (E0 lb n 0 994) 0 (Qag (sub (B Qbt) [1,1,0,1,0,0]) ++ [4]) [] (sub (B Qbt) [1,1,0,1,0,0]) (Qak 0 (seqK (E0 lb n 0 997) (sub (B Qbt) [1,1,0]) (sub (B Qbt) [1,1,1]) (retK Tryz.prog (R Qbt) 0 (outK (Qad Tryz.prog Qbt))))) oP ⟨fr 23 [(0,vS a1),(2,vB false),(8,vS a1),(9,vV r2),(10, .val (.int .i64 (p3.2.length : Int))),(11,vI vF)],[bx 23 []],KK⟩)
noncomputable def Qmn (lb n : Nat) (a1 : LB) : Option CV :=
 hold (E0 lb n 0 997 (sub (B Qbt) [1,1,1]) (retK Tryz.prog (R Qbt) 0 (outK (Qad Tryz.prog Qbt))) ⟨fr 23 [(0,vS a1),(2,vB false)],[bx 23 []],KK⟩)
theorem Qpi (lb n : Nat) (a1 : LB) :
 Qmn lb n a1 =
 some (.bool true) := (Qac _).trans (by kernel_rfl)
theorem Qh5 (lb n oP : Nat) (a1 : LB) (r2 : CV) (p3 : Bool × LL) (vF : Int) :
 Qgm lb n (oP + 1) a1 r2 p3 vF =
 bif (decide (vF < (p3.2.length : Int))) then
 (optO (CV.asL r2) fun qg =>
 optO (atL qg.2 vF) fun c21 =>
 chkO (c21.length == 1) (
 optO (c21[0]?) fun pN =>
 optO (CV.asS pN) fun uf =>
 bif (uf == []) then
 (some (.bool false))
 else
 (optO (C lb n Qam [pN, .fn Qbq]) fun r24 =>
 optO (CV.asB r24) fun k8 =>
 bif (!k8) then
 (some (.bool false))
 else
 (Qgm lb n oP a1 r2 p3 (IntKind.wrap .i64 (vF + 1))))))
 else
 (Qmn lb n a1 ) := (Qac _).trans (by kernel_rfl)
theorem Ql8 (lb n : Nat) (a1 : LB) :
 top lb n Qbt [.str a1] =
 bif (decide ((a1.length : Int) > 30)) then
 (some (.bool false))
 else
 (optO (C lb n Qem [.str a1, .str [32]]) fun r2 =>
 optO (CV.asL r2) fun p3 =>
 Qgm lb n n a1 r2 p3 0) := by kernel_rfl
noncomputable def Qfq (lb n nD : Nat) (a1 : LB) (vF : Int) : Option CV :=
 hold (Qav (E0 lb n 0 994) 0 (Qag (sub (B QbN) [1,1,0,1,0,0]) ++ []) [] (sub (B QbN) [1,1,0,1,0,0]) (Qak 0 (seqK (E0 lb n 0 997) (sub (B QbN) [1,1,0]) (sub (B QbN) [1,1,1]) (retK Tryz.prog (R QbN) 0 (outK (Qad Tryz.prog QbN))))) nD ⟨fr 49 [(0,vS a1),(2,vB false),(3,vI vF)],[bx 49 []],KK⟩)
noncomputable def QnB (lb n : Nat) (a1 : LB) (kS : Int) : Option CV :=
 hold (E0 lb n 0 997 (sub (B QbN) [1,1,1]) (retK Tryz.prog (R QbN) 0 (outK (Qad Tryz.prog QbN))) ⟨fr 49 [(0,vS a1),(2,vB false),(3,vI kS)],[bx 49 []],KK⟩)
theorem Qp0 (lb n : Nat) (a1 : LB) (kS : Int) :
 QnB lb n a1 kS =
 some (.bool true) := (Qac _).trans (by kernel_rfl)
theorem QfN (lb n nD : Nat) (a1 : LB) (vF : Int) :
 Qfq lb n (nD + 1) a1 vF =
 bif (decide (vF < (a1.length : Int))) then
 (optO (atS a1 vF) fun c19 =>
 optO (C lb n QdF [.int .u8 (c19.toNat : Int)]) fun r20 =>
 optO (CV.asB r20) fun kB =>
 bif (!kB) then
 (optO (atS a1 vF) fun c22 =>
 bif ((c22.toNat : Int) != 32) then
 (some (.bool false))
 else
 (optO (atS a1 (IntKind.wrap .i64 (vF - 1))) fun mj =>
 bif ((mj.toNat : Int) == 32) then
 (some (.bool false))
 else
 (Qfq lb n nD a1 (IntKind.wrap .i64 (vF + 1)))))
 else
 (Qfq lb n nD a1 (IntKind.wrap .i64 (vF + 1))))
 else
 (QnB lb n a1 vF) := (Qac _).trans (by kernel_rfl)
theorem Qth (lb n : Nat) (a1 : LB) :
 top lb n QbN [.str a1] =
 bif (decide ((a1.length : Int) < 1)) then
 (some (.bool false))
 else
 (bif (decide ((a1.length : Int) > 30)) then
 (some (.bool false))
 else
 (optO (atS a1 0) fun c2 =>
 bif ((c2.toNat : Int) == 32) then
 (some (.bool false))
 else
 (optO (atS a1 (IntKind.wrap .i64 ((a1.length : Int) - 1))) fun c3 =>
 bif ((c3.toNat : Int) == 32) then
 (some (.bool false))
 else
 (Qfq lb n n a1 0)))) := by kernel_rfl
noncomputable def Qe5 (lb n kk : Nat) (a1 : LB) (b2 i6 : Int) : Option CV :=
 hold (Qav (E0 lb n 0 995) 0 (Qag (sub (B Qbd) [1,0,1,0,0]) ++ []) [] (sub (B Qbd) [1,0,1,0,0]) (Qak 0 (seqK (E0 lb n 0 998) (sub (B Qbd) [1,0]) (sub (B Qbd) [1,1]) (retK Tryz.prog (R Qbd) 0 (outK (Qad Tryz.prog Qbd))))) kk ⟨fr 21 [(0,vS a1),(1,vI b2),(4,vB false),(5,vI i6)],[bx 21 []],KK⟩)
noncomputable def Qkr (lb n : Nat) (a1 : LB) (b2 ww : Int) : Option CV :=
 hold (E0 lb n 0 998 (sub (B Qbd) [1,1]) (retK Tryz.prog (R Qbd) 0 (outK (Qad Tryz.prog Qbd))) ⟨fr 21 [(0,vS a1),(1,vI b2),(4,vB false),(5,vI ww)],[bx 21 []],KK⟩)
theorem Qm0 (lb n : Nat) (a1 : LB) (b2 ww : Int) :
 Qkr lb n a1 b2 ww =
 some (.bool ((a1.length : Int) == b2)) := (Qac _).trans (by kernel_rfl)
theorem QgD (lb n kk : Nat) (a1 : LB) (b2 i6 : Int) :
 Qe5 lb n (kk + 1) a1 b2 i6 =
 bif (decide (i6 < (a1.length : Int))) then
 (optO (atS a1 i6) fun gS =>
 optO (C lb n QdF [.int .u8 (gS.toNat : Int)]) fun r13 =>
 optO (CV.asB r13) fun vH =>
 bif (!vH) then
 (some (.bool false))
 else
 (Qe5 lb n kk a1 b2 (IntKind.wrap .i64 (i6 + 1))))
 else
 (Qkr lb n a1 b2 i6) := (Qac _).trans (by kernel_rfl)
theorem Qql (lb n : Nat) (a1 : LB) (b2 : Int) :
 top lb n Qbd [.str a1, .int .i64 b2] =
 Qe5 lb n n a1 b2 0 := by kernel_rfl
theorem Qrf (lb n : Nat) (a1 : LB) :
 top lb n Qgq [.str a1] =
 bif (!(a1 == [])) then
 (optO (C lb n Qam [.str a1, .fn Qb4]) fun r2 =>
 some (r2))
 else
 (some (.bool false)) := by kernel_rfl
noncomputable def Qa6 (lb n kE : Nat) (a1 : LB) (yr : Bool) (wW : LL) (yH : Int) (vg kh : Bool) (w9 : Nat) : Option CV :=
 hold (Qav (E0 lb n 0 991) 0 (Qag (sub (B QbY) [1,0,1,1,1,0,1,0,0]) ++ [8,9,16,23,25,31,36]) [] (sub (B QbY) [1,0,1,1,1,0,1,0,0]) (Qak 0 (seqK (E0 lb n 0 994) (sub (B QbY) [1,0,1,1,1,0]) (sub (B QbY) [1,0,1,1,1,1]) (retK Tryz.prog (R QbY) 0 (outK (Qad Tryz.prog QbY))))) kE ⟨fr 58 [(0,vS a1),(2, .lst true true 9 []),(3,vB false),(4, .lst true yr 9 wW),(5,vI yH),(6,vB vg),(7,vB kh),(10,vS a1),(11, .siter a1 w9)],[bx 58 []],KK⟩)
noncomputable def QnL (lb n : Nat) (a1 : LB) (qc : Bool) (nw : LL) (o9 : Int) (kG sb : Bool) : Option CV :=
 hold (E0 lb n 0 994 (sub (B QbY) [1,0,1,1,1,1]) (retK Tryz.prog (R QbY) 0 (outK (Qad Tryz.prog QbY))) ⟨fr 58 [(0,vS a1),(2, .lst true true 9 []),(3,vB false),(4, .lst true qc 9 nw),(5,vI o9),(6,vB kG),(7,vB sb)],[bx 58 []],KK⟩)
theorem QpE (lb n : Nat) (a1 : LB) (qc : Bool) (nw : LL) (o9 : Int) (kG sb : Bool) :
 QnL lb n a1 qc nw o9 kG sb =
 chkO (decide ((0 : Int) ≤ o9 ∧ o9 ≤ (a1.length : Int))) (
 chkO (room (nw.length + 1) 16) (
 some (.tup [.list (qc && false) (nw ++ [[CV.str ((a1.take ((a1.length : Int).toNat)).drop o9.toNat)]]), .bool true]))) := (Qac _).trans (by kernel_rfl)
theorem Qb2 (lb n kE : Nat) (a1 : LB) (yr : Bool) (wW : LL) (yH : Int) (vg kh : Bool) (w9 : Nat) :
 Qa6 lb n (kE + 1) a1 yr wW yH vg kh w9 =
 bif (decide (w9 < a1.length)) then
 (bif (decide ((((Utf8.decode ⟨a1.toArray⟩ w9).1 : Nat) : Int) < 32)) then
 (some (.tup [.list true [], .bool false]))
 else
 (bif (decide ((((Utf8.decode ⟨a1.toArray⟩ w9).1 : Nat) : Int) > 126)) then
 (some (.tup [.list true [], .bool false]))
 else
 (bif kh then
 (Qa6 lb n kE a1 yr wW yH vg false (w9 + (Utf8.decode ⟨a1.toArray⟩ w9).2))
 else
 (bif vg then
 (bif ((((Utf8.decode ⟨a1.toArray⟩ w9).1 : Nat) : Int) == 92) then
 (Qa6 lb n kE a1 yr wW yH vg true (w9 + (Utf8.decode ⟨a1.toArray⟩ w9).2))
 else
 (bif ((((Utf8.decode ⟨a1.toArray⟩ w9).1 : Nat) : Int) == 34) then
 (Qa6 lb n kE a1 yr wW yH (!vg) kh (w9 + (Utf8.decode ⟨a1.toArray⟩ w9).2))
 else
 (bif ((((Utf8.decode ⟨a1.toArray⟩ w9).1 : Nat) : Int) == 32) then
 (bif (!vg) then
 (chkO (decide ((0 : Int) ≤ ((w9 : Nat) : Int) ∧ ((w9 : Nat) : Int) ≤ (a1.length : Int))) (
 chkO (decide ((0 : Int) ≤ yH ∧ yH ≤ ((w9 : Nat) : Int))) (
 chkO (room (wW.length + 1) 16) (
 Qa6 lb n kE a1 (yr && false) (wW ++ [[CV.str ((a1.take (((w9 : Nat) : Int).toNat)).drop yH.toNat)]]) (IntKind.wrap .i64 (((w9 : Nat) : Int) + 1)) vg kh (w9 + (Utf8.decode ⟨a1.toArray⟩ w9).2)))))
 else
 (Qa6 lb n kE a1 yr wW yH vg kh (w9 + (Utf8.decode ⟨a1.toArray⟩ w9).2)))
 else
 (Qa6 lb n kE a1 yr wW yH vg kh (w9 + (Utf8.decode ⟨a1.toArray⟩ w9).2)))))
 else
 (bif ((((Utf8.decode ⟨a1.toArray⟩ w9).1 : Nat) : Int) == 34) then
 (Qa6 lb n kE a1 yr wW yH (!vg) kh (w9 + (Utf8.decode ⟨a1.toArray⟩ w9).2))
 else
 (bif ((((Utf8.decode ⟨a1.toArray⟩ w9).1 : Nat) : Int) == 32) then
 (bif (!vg) then
 (chkO (decide ((0 : Int) ≤ ((w9 : Nat) : Int) ∧ ((w9 : Nat) : Int) ≤ (a1.length : Int))) (
 chkO (decide ((0 : Int) ≤ yH ∧ yH ≤ ((w9 : Nat) : Int))) (
 chkO (room (wW.length + 1) 16) (
 Qa6 lb n kE a1 (yr && false) (wW ++ [[CV.str ((a1.take (((w9 : Nat) : Int).toNat)).drop yH.toNat)]]) (IntKind.wrap .i64 (((w9 : Nat) : Int) + 1)) vg kh (w9 + (Utf8.decode ⟨a1.toArray⟩ w9).2)))))
 else
 (Qa6 lb n kE a1 yr wW yH vg kh (w9 + (Utf8.decode ⟨a1.toArray⟩ w9).2)))
 else
 (Qa6 lb n kE a1 yr wW yH vg kh (w9 + (Utf8.decode ⟨a1.toArray⟩ w9).2))))))))
 else
 (QnL lb n a1 yr wW yH vg kh) := (Qac _).trans (by kernel_rfl)
theorem Qtu (lb n : Nat) (a1 : LB) :
 top lb n QbY [.str a1] =
 Qa6 lb n n a1 true [] 0 false false 0 := by kernel_rfl
noncomputable def QdC (lb n nu : Nat) (a1 : LB) (yn : LL) (yq : Int) : Option CV :=
 hold (Qav (E0 lb n 0 992) 0 (Qag (sub (B Qbc) [1,1,1,1,0,1,0,0]) ++ [7,8,9,7]) [] (sub (B Qbc) [1,1,1,1,0,1,0,0]) (Qak 0 (seqK (E0 lb n 0 995) (sub (B Qbc) [1,1,1,1,0]) (sub (B Qbc) [1,1,1,1,1]) (retK Tryz.prog (R Qbc) 0 (outK (Qad Tryz.prog Qbc))))) nu ⟨fr 75 [(0,vS a1),(2, .val (.str [])),(3,vI 0),(4, .val (.str ((a1.take ((IntKind.wrap .i64 ((a1.length : Int) - 1)).toNat)).drop 1))),(5, .lst true false 5 yn),(6,vI yq),(26,vS a1),(27,vS a1),(28, .val (.int .i64 (a1.length : Int))),(29, .val (.int .i64 (IntKind.wrap .i64 ((a1.length : Int) - 1)))),(30, .val (.str ((a1.take ((IntKind.wrap .i64 ((a1.length : Int) - 1)).toNat)).drop 1))),(31, .val (.str ((a1.take ((IntKind.wrap .i64 ((a1.length : Int) - 1)).toNat)).drop 1))),(32, .val (.int .i64 (((a1.take ((IntKind.wrap .i64 ((a1.length : Int) - 1)).toNat)).drop 1).length : Int))),(33, .val (.list false []))],[bx 75 []],KK⟩)
noncomputable def Qi7 (lb n : Nat) (a1 : LB) (oi : Bool) (kO : LL) (yv : Int) : Option CV :=
 hold (E0 lb n 0 995 (sub (B Qbc) [1,1,1,1,1]) (retK Tryz.prog (R Qbc) 0 (outK (Qad Tryz.prog Qbc))) ⟨fr 75 [(0,vS a1),(2, .val (.str [])),(3,vI 0),(4, .val (.str ((a1.take ((IntKind.wrap .i64 ((a1.length : Int) - 1)).toNat)).drop 1))),(5, .lst true oi 5 kO),(6,vI yv),(26,vS a1),(27,vS a1),(28, .val (.int .i64 (a1.length : Int))),(29, .val (.int .i64 (IntKind.wrap .i64 ((a1.length : Int) - 1)))),(30, .val (.str ((a1.take ((IntKind.wrap .i64 ((a1.length : Int) - 1)).toNat)).drop 1))),(31, .val (.str ((a1.take ((IntKind.wrap .i64 ((a1.length : Int) - 1)).toNat)).drop 1))),(32, .val (.int .i64 (((a1.take ((IntKind.wrap .i64 ((a1.length : Int) - 1)).toNat)).drop 1).length : Int))),(33, .val (.list false []))],[bx 75 []],KK⟩)
theorem Qma (lb n : Nat) (a1 : LB) (oi : Bool) (kO : LL) (yv : Int) :
 Qi7 lb n a1 oi kO yv =
 optO (bytesOf kO) fun uT =>
 some (.tup [.str uT, .int .i64 0]) := (Qac _).trans (by kernel_rfl)
theorem Qcg (lb n nu : Nat) (a1 : LB) (yn : LL) (yq : Int) :
 QdC lb n (nu + 1) a1 yn yq =
 bif (decide (yq < (((a1.take ((IntKind.wrap .i64 ((a1.length : Int) - 1)).toNat)).drop 1).length : Int))) then
 (optO (atS ((a1.take ((IntKind.wrap .i64 ((a1.length : Int) - 1)).toNat)).drop 1) yq) fun nm =>
 bif ((nm.toNat : Int) == 34) then
 (some (.tup [.str [], .int .i64 3]))
 else
 (bif (decide ((nm.toNat : Int) < 32)) then
 (some (.tup [.str [], .int .i64 3]))
 else
 (bif (decide ((nm.toNat : Int) > 126)) then
 (some (.tup [.str [], .int .i64 3]))
 else
 (bif ((nm.toNat : Int) == 92) then
 (chkO (decide ((0 : Int) ≤ (IntKind.wrap .i64 (yq + 1)) ∧ (IntKind.wrap .i64 (yq + 1)) ≤ (((a1.take ((IntKind.wrap .i64 ((a1.length : Int) - 1)).toNat)).drop 1).length : Int))) (
 optO (C lb n QhL [.str ((((a1.take ((IntKind.wrap .i64 ((a1.length : Int) - 1)).toNat)).drop 1).take ((((a1.take ((IntKind.wrap .i64 ((a1.length : Int) - 1)).toNat)).drop 1).length : Int).toNat)).drop ((IntKind.wrap .i64 (yq + 1)).toNat))]) fun s8 =>
 optO (CV.asT s8) fun uc =>
 optO (uc[0]?) fun wc =>
 optO (CV.asT s8) fun t31 =>
 optO (t31[1]?) fun wd =>
 optO (CV.asI .i64 wd) fun mh =>
 bif (mh == 0) then
 (some (.tup [.str [], .int .i64 3]))
 else
 (optO (CV.asI .i64 wd) fun gp =>
 chkO (CV.isCell wc) (
 chkO (room (yn.length + 1) 1) (
 QdC lb n nu a1 (yn ++ [[wc]]) (IntKind.wrap .i64 ((IntKind.wrap .i64 (yq + gp)) + 1)))))))
 else
 (chkO (room (yn.length + 1) 1) (
 QdC lb n nu a1 (yn ++ [[CV.int .u8 (nm.toNat : Int)]]) (IntKind.wrap .i64 (yq + 1))))))))
 else
 (Qi7 lb n a1 false yn yq) := (Qac _).trans (by kernel_rfl)
theorem Qot (lb n : Nat) (a1 : LB) :
 top lb n Qbc [.str a1] =
 bif (decide ((a1.length : Int) < 2)) then
 (some (.tup [.str [], .int .i64 3]))
 else
 (optO (atS a1 0) fun c2 =>
 bif ((c2.toNat : Int) != 34) then
 (some (.tup [.str [], .int .i64 3]))
 else
 (optO (atS a1 (IntKind.wrap .i64 ((a1.length : Int) - 1))) fun c3 =>
 bif ((c3.toNat : Int) != 34) then
 (some (.tup [.str [], .int .i64 3]))
 else
 (chkO (decide ((0 : Int) ≤ (IntKind.wrap .i64 ((a1.length : Int) - 1)) ∧ (IntKind.wrap .i64 ((a1.length : Int) - 1)) ≤ (a1.length : Int))) (
 chkO (decide ((0 : Int) ≤ 1 ∧ 1 ≤ (IntKind.wrap .i64 ((a1.length : Int) - 1)))) (
 chkO (decide (0 ≤ (0 : Int)) && decide ((0 : Int) ≤ ((((a1.take ((IntKind.wrap .i64 ((a1.length : Int) - 1)).toNat)).drop 1).length : Int) : Int)) && decide (((((a1.take ((IntKind.wrap .i64 ((a1.length : Int) - 1)).toNat)).drop 1).length : Int) : Int) * 1 ≤ 140737488355328) && decide (((((a1.take ((IntKind.wrap .i64 ((a1.length : Int) - 1)).toNat)).drop 1).length : Int) : Int) ≤ 140737488355328)) (
 QdC lb n n a1 [] 0)))))) := by kernel_rfl
theorem QoK (lb n : Nat) (a1 : Int) :
 top lb n Qb4 [.int .u8 a1] =
 bif (decide (a1 > 32)) then
 (bif (decide (a1 ≤ 126)) then
 (some (.bool (a1 != 34)))
 else
 (some (.bool false)))
 else
 (some (.bool false)) := by kernel_rfl
theorem Qqn (lb n : Nat) (a1 : LB) :
 top lb n QhL [.str a1] =
 bif (a1 == []) then
 (some (.tup [.int .u8 0, .int .i64 0]))
 else
 (optO (atS a1 0) fun c2 =>
 bif ((c2.toNat : Int) == 34) then
 (optO (atS a1 0) fun c3 =>
 some (.tup [.int .u8 (c3.toNat : Int), .int .i64 1]))
 else
 (optO (atS a1 0) fun c4 =>
 bif ((c4.toNat : Int) == 92) then
 (optO (atS a1 0) fun c5 =>
 some (.tup [.int .u8 (c5.toNat : Int), .int .i64 1]))
 else
 (optO (atS a1 0) fun c6 =>
 bif ((c6.toNat : Int) != 120) then
 (some (.tup [.int .u8 0, .int .i64 0]))
 else
 (bif (decide ((a1.length : Int) < 3)) then
 (some (.tup [.int .u8 0, .int .i64 0]))
 else
 (optO (atS a1 1) fun c7 =>
 optO (C lb n Qcu [.str [48,49,50,51,52,53,54,55,56,57,97,98,99,100,101,102], .int .u8 (c7.toNat : Int)]) fun r9 =>
 optO (atS a1 2) fun oT =>
 optO (C lb n Qcu [.str [48,49,50,51,52,53,54,55,56,57,97,98,99,100,101,102], .int .u8 (oT.toNat : Int)]) fun gh =>
 optO (CV.asI .i64 r9) fun vq =>
 bif (decide (vq < 0)) then
 (some (.tup [.int .u8 0, .int .i64 0]))
 else
 (optO (CV.asI .i64 gh) fun gj =>
 bif (decide (gj < 0)) then
 (some (.tup [.int .u8 0, .int .i64 0]))
 else
 (optO (CV.asI .i64 r9) fun v8 =>
 optO (CV.asI .i64 gh) fun ww =>
 bif (decide ((IntKind.wrap .u8 (IntKind.wrap .i64 ((BitVec.ofInt 64 (IntKind.wrap .i64 (v8 * 2 ^ 4)) ||| BitVec.ofInt 64 ww).toNat))) ≥ 32)) then
 (bif (decide ((IntKind.wrap .u8 (IntKind.wrap .i64 ((BitVec.ofInt 64 (IntKind.wrap .i64 (v8 * 2 ^ 4)) ||| BitVec.ofInt 64 ww).toNat))) ≤ 126)) then
 (some (.tup [.int .u8 0, .int .i64 0]))
 else
 (some (.tup [.int .u8 (IntKind.wrap .u8 (IntKind.wrap .i64 ((BitVec.ofInt 64 (IntKind.wrap .i64 (v8 * 2 ^ 4)) ||| BitVec.ofInt 64 ww).toNat))), .int .i64 3])))
 else
 (some (.tup [.int .u8 (IntKind.wrap .u8 (IntKind.wrap .i64 ((BitVec.ofInt 64 (IntKind.wrap .i64 (v8 * 2 ^ 4)) ||| BitVec.ofInt 64 ww).toNat))), .int .i64 3]))))))))) := by kernel_rfl
noncomputable def Qci (lb n vw : Nat) (a1 : LB) (i5 : Int) : Option CV :=
 hold (Qav (E0 lb n 0 995) 0 (Qag (sub (B Qam) [1,0,1,0,0]) ++ [5]) [] (sub (B Qam) [1,0,1,0,0]) (Qak 0 (seqK (E0 lb n 0 998) (sub (B Qam) [1,0]) (sub (B Qam) [1,1]) (retK Tryz.prog (R Qam) 0 (outK (Qad Tryz.prog Qam))))) vw ⟨fr 18 [(0,vS a1),(1, .val (.fn Qck)),(4,vB false),(6,vS a1),(7, .val (.int .i64 (a1.length : Int))),(8,vI i5)],[bx 18 []],KK⟩)
noncomputable def QeI (lb n : Nat) (a1 : LB) : Option CV :=
 hold (E0 lb n 0 998 (sub (B Qam) [1,1]) (retK Tryz.prog (R Qam) 0 (outK (Qad Tryz.prog Qam))) ⟨fr 18 [(0,vS a1),(1, .val (.fn Qck)),(4,vB false)],[bx 18 []],KK⟩)
theorem QhC (lb n : Nat) (a1 : LB) :
 QeI lb n a1 =
 some (.bool true) := (Qac _).trans (by kernel_rfl)
theorem QdH (lb n vw : Nat) (a1 : LB) (i5 : Int) :
 Qci lb n (vw + 1) a1 i5 =
 bif (decide (i5 < (a1.length : Int))) then
 (optO (atS a1 i5) fun ot =>
 optO (C lb n Qck [.int .u8 (ot.toNat : Int)]) fun kV =>
 optO (CV.asB kV) fun yL =>
 bif (!yL) then
 (some (.bool false))
 else
 (Qci lb n vw a1 (IntKind.wrap .i64 (i5 + 1))))
 else
 (QeI lb n a1 ) := (Qac _).trans (by kernel_rfl)
theorem Qip (lb n : Nat) (a1 : LB) :
 top lb n Qam [.str a1, .fn Qck] =
 Qci lb n n a1 0 := by kernel_rfl
noncomputable def Qb0 (lb n vw : Nat) (a1 : LB) (i5 : Int) : Option CV :=
 hold (Qav (E0 lb n 0 995) 0 (Qag (sub (B Qam) [1,0,1,0,0]) ++ [5]) [] (sub (B Qam) [1,0,1,0,0]) (Qak 0 (seqK (E0 lb n 0 998) (sub (B Qam) [1,0]) (sub (B Qam) [1,1]) (retK Tryz.prog (R Qam) 0 (outK (Qad Tryz.prog Qam))))) vw ⟨fr 18 [(0,vS a1),(1, .val (.fn Qbq)),(4,vB false),(6,vS a1),(7, .val (.int .i64 (a1.length : Int))),(8,vI i5)],[bx 18 []],KK⟩)
noncomputable def Qd7 (lb n : Nat) (a1 : LB) : Option CV :=
 hold (E0 lb n 0 998 (sub (B Qam) [1,1]) (retK Tryz.prog (R Qam) 0 (outK (Qad Tryz.prog Qam))) ⟨fr 18 [(0,vS a1),(1, .val (.fn Qbq)),(4,vB false)],[bx 18 []],KK⟩)
theorem Qgv (lb n : Nat) (a1 : LB) :
 Qd7 lb n a1 =
 some (.bool true) := (Qac _).trans (by kernel_rfl)
theorem Qdl (lb n vw : Nat) (a1 : LB) (i5 : Int) :
 Qb0 lb n (vw + 1) a1 i5 =
 bif (decide (i5 < (a1.length : Int))) then
 (optO (atS a1 i5) fun ot =>
 optO (C lb n Qbq [.int .u8 (ot.toNat : Int)]) fun kV =>
 optO (CV.asB kV) fun yL =>
 bif (!yL) then
 (some (.bool false))
 else
 (Qb0 lb n vw a1 (IntKind.wrap .i64 (i5 + 1))))
 else
 (Qd7 lb n a1 ) := (Qac _).trans (by kernel_rfl)
theorem QhJ (lb n : Nat) (a1 : LB) :
 top lb n Qam [.str a1, .fn Qbq] =
 Qb0 lb n n a1 0 := by kernel_rfl
noncomputable def Qb9 (lb n vw : Nat) (a1 : LB) (i5 : Int) : Option CV :=
 hold (Qav (E0 lb n 0 995) 0 (Qag (sub (B Qam) [1,0,1,0,0]) ++ [5]) [] (sub (B Qam) [1,0,1,0,0]) (Qak 0 (seqK (E0 lb n 0 998) (sub (B Qam) [1,0]) (sub (B Qam) [1,1]) (retK Tryz.prog (R Qam) 0 (outK (Qad Tryz.prog Qam))))) vw ⟨fr 18 [(0,vS a1),(1, .val (.fn Qcq)),(4,vB false),(6,vS a1),(7, .val (.int .i64 (a1.length : Int))),(8,vI i5)],[bx 18 []],KK⟩)
noncomputable def Qeo (lb n : Nat) (a1 : LB) : Option CV :=
 hold (E0 lb n 0 998 (sub (B Qam) [1,1]) (retK Tryz.prog (R Qam) 0 (outK (Qad Tryz.prog Qam))) ⟨fr 18 [(0,vS a1),(1, .val (.fn Qcq)),(4,vB false)],[bx 18 []],KK⟩)
theorem Qg9 (lb n : Nat) (a1 : LB) :
 Qeo lb n a1 =
 some (.bool true) := (Qac _).trans (by kernel_rfl)
theorem Qds (lb n vw : Nat) (a1 : LB) (i5 : Int) :
 Qb9 lb n (vw + 1) a1 i5 =
 bif (decide (i5 < (a1.length : Int))) then
 (optO (atS a1 i5) fun ot =>
 optO (C lb n Qcq [.int .u8 (ot.toNat : Int)]) fun kV =>
 optO (CV.asB kV) fun yL =>
 bif (!yL) then
 (some (.bool false))
 else
 (Qb9 lb n vw a1 (IntKind.wrap .i64 (i5 + 1))))
 else
 (Qeo lb n a1 ) := (Qac _).trans (by kernel_rfl)
theorem Qic (lb n : Nat) (a1 : LB) :
 top lb n Qam [.str a1, .fn Qcq] =
 Qb9 lb n n a1 0 := by kernel_rfl
noncomputable def QbX (lb n vw : Nat) (a1 : LB) (i5 : Int) : Option CV :=
 hold (Qav (E0 lb n 0 995) 0 (Qag (sub (B Qam) [1,0,1,0,0]) ++ [5]) [] (sub (B Qam) [1,0,1,0,0]) (Qak 0 (seqK (E0 lb n 0 998) (sub (B Qam) [1,0]) (sub (B Qam) [1,1]) (retK Tryz.prog (R Qam) 0 (outK (Qad Tryz.prog Qam))))) vw ⟨fr 18 [(0,vS a1),(1, .val (.fn Qb4)),(4,vB false),(6,vS a1),(7, .val (.int .i64 (a1.length : Int))),(8,vI i5)],[bx 18 []],KK⟩)
noncomputable def Qd6 (lb n : Nat) (a1 : LB) : Option CV :=
 hold (E0 lb n 0 998 (sub (B Qam) [1,1]) (retK Tryz.prog (R Qam) 0 (outK (Qad Tryz.prog Qam))) ⟨fr 18 [(0,vS a1),(1, .val (.fn Qb4)),(4,vB false)],[bx 18 []],KK⟩)
theorem Qgu (lb n : Nat) (a1 : LB) :
 Qd6 lb n a1 =
 some (.bool true) := (Qac _).trans (by kernel_rfl)
theorem Qdm (lb n vw : Nat) (a1 : LB) (i5 : Int) :
 QbX lb n (vw + 1) a1 i5 =
 bif (decide (i5 < (a1.length : Int))) then
 (optO (atS a1 i5) fun ot =>
 optO (C lb n Qb4 [.int .u8 (ot.toNat : Int)]) fun kV =>
 optO (CV.asB kV) fun yL =>
 bif (!yL) then
 (some (.bool false))
 else
 (QbX lb n vw a1 (IntKind.wrap .i64 (i5 + 1))))
 else
 (Qd6 lb n a1 ) := (Qac _).trans (by kernel_rfl)
theorem QhP (lb n : Nat) (a1 : LB) :
 top lb n Qam [.str a1, .fn Qb4] =
 QbX lb n n a1 0 := by kernel_rfl
end Go.Proofs
