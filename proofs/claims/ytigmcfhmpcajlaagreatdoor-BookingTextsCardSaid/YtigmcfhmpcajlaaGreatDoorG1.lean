/- Equations of functions, printed by program. Conditions: none. -/
import Derived.Test.YtigmcfhmpcajlaaGreatDoorEv
namespace Go.Proofs
open Go.Am
set_option maxRecDepth 100000
set_option linter.unusedVariables false
theorem QqQ (lb n) (a1 : Int) :
 top lb n Qba [.int .i64 a1] =
 optO (C lb n QhF [.int .i64 a1]) fun r2 =>
 some (r2) := by kernel_rfl
theorem Qt9 (lb n) (a1 : LB) (b2 c3 : Int) :
 top lb n QeS [.str a1, .int .i64 b2, .int .i64 c3] =
 bif (decide ((a1.length : Int) ≥ b2)) then
 (bif (decide ((a1.length : Int) ≤ c3)) then
 (optO (C lb n Qai [.str a1, .fn QcR]) fun r4 =>
 some (r4))
 else
 (some (.bool false)))
 else
 (some (.bool false)) := by kernel_rfl
theorem Qrt (lb n) (a1 : Int) :
 top lb n Qdn [.int .i64 a1] =
 bif (decide (a1 < 0)) then
 (optO (C lb n QfA [.int .u64 (IntKind.wrap .u64 ((IntKind.wrap .u64 (IntKind.wrap .i64 (0 - (IntKind.wrap .i64 (a1 + 1))))) + 1))]) fun r2 =>
 optO (CV.asS r2) fun s3 =>
 chkO (decide (([45] : LB).length + s3.length ≤ 9223372036854775807)) (
 some (.str (([45] : LB) ++ s3))))
 else
 (optO (C lb n QfA [.int .u64 (IntKind.wrap .u64 (a1))]) fun r4 =>
 some (r4)) := by kernel_rfl
noncomputable def r01_Code_L1 :=
 fun lb n (mz : Nat) a1 b2 c3 yx =>
 hold (Qaw (E0 lb n 0 995) 0 (Qah (sub (B QbL) [1,0,1,0,0]) ++ []) [] (sub (B QbL) [1,0,1,0,0]) (Qap 0 (seqK (E0 lb n 0 998) (sub (B QbL) [1,0]) (sub (B QbL) [1,1]) (retK Tryz.prog (R QbL) 0 (outK (Qad Tryz.prog QbL))))) mz ⟨fr 36 [(0,vS a1),(1,vI b2),(2,vI c3),(6,vB false),(7,vI yx)],[bx 36 []],KK⟩)
noncomputable def Qox (lb n : Nat) (a1 : LB) (b2 c3 vd : Int) : Option CV :=
 hold (E0 lb n 0 998 (sub (B QbL) [1,1]) (retK Tryz.prog (R QbL) 0 (outK (Qad Tryz.prog QbL))) ⟨fr 36 [(0,vS a1),(1,vI b2),(2,vI c3),(6,vB false),(7,vI vd)],[bx 36 []],KK⟩)
theorem QrB (lb n : Nat) (a1 : LB) (b2 c3 vd : Int) :
 Qox lb n a1 b2 c3 vd =
 bif (decide ((a1.length : Int) ≥ b2)) then
 (some (.bool (decide ((a1.length : Int) ≤ c3))))
 else
 (some (.bool false)) := (Qab _).trans (by kernel_rfl)
theorem QjP (lb n mz : Nat) (a1 : LB) (b2 c3 yx : Int) :
 r01_Code_L1 lb n (mz + 1) a1 b2 c3 yx =
 bif (decide (yx < (a1.length : Int))) then
 (optO (atS a1 yx) fun c21 =>
 optO (C lb n Qef [.int .u8 (c21.toNat : Int)]) fun js =>
 optO (CV.asB js) fun pP =>
 bif (!pP) then
 (optO (atS a1 yx) fun ur =>
 optO (C lb n Qkv [.int .u8 (ur.toNat : Int)]) fun uu =>
 optO (CV.asB uu) fun oJ =>
 bif (!oJ) then
 (some (.bool false))
 else
 (r01_Code_L1 lb n mz a1 b2 c3 (IntKind.wrap .i64 (yx + 1))))
 else
 (r01_Code_L1 lb n mz a1 b2 c3 (IntKind.wrap .i64 (yx + 1))))
 else
 (Qox lb n a1 b2 c3 yx) := (Qab _).trans (by kernel_rfl)
theorem Qu7 (lb n : Nat) (a1 : LB) (b2 c3 : Int) :
 top lb n QbL [.str a1, .int .i64 b2, .int .i64 c3] =
 r01_Code_L1 lb n n a1 b2 c3 0 := by kernel_rfl
noncomputable def QeV (lb n yN : Nat) (jk : Bool) (a2 : LL) (yA : Bool) (wL : LL) (wO : Int) : Option CV :=
 hold (Qaw (E0 lb n 0 994) 0 (Qah (sub (B QaQ) [1,1,0,1,0,0]) ++ [5,5]) [] (sub (B QaQ) [1,1,0,1,0,0]) (Qap 0 (seqK (E0 lb n 0 997) (sub (B QaQ) [1,1,0]) (sub (B QaQ) [1,1,1]) (retK Tryz.prog (R QaQ) 0 (outK (Qad Tryz.prog QaQ))))) yN ⟨fr 31 [(0, .val (.list jk a2)),(2, .val (.str [])),(3, .lst true yA 5 wL),(4,vI wO)],[bx 31 []],KK⟩)
noncomputable def Qh1 (lb n yN : Nat) (jk : Bool) (a2 : LL) (wO : Int) (kB : Bool) (vY : LL) : Option CV :=
 hold (E0 lb n 0 990 (sub (B QaQ) [1,1,0,1,0,0,1,0,0,1]) (Qap 1 (seqK (E0 lb n 0 992) (sub (B QaQ) [1,1,0,1,0,0,1,0]) (sub (B QaQ) [1,1,0,1,0,0,1,1]) (Qdv 0 (Qah (sub (B QaQ) [1,1,0,1,0,0]) ++ [5,5]) [] (Qaw (E0 lb n 0 994) 0 (Qah (sub (B QaQ) [1,1,0,1,0,0]) ++ [5,5]) [] (sub (B QaQ) [1,1,0,1,0,0]) (Qap 0 (seqK (E0 lb n 0 997) (sub (B QaQ) [1,1,0]) (sub (B QaQ) [1,1,1]) (retK Tryz.prog (R QaQ) 0 (outK (Qad Tryz.prog QaQ))))) yN) (Qap 0 (seqK (E0 lb n 0 997) (sub (B QaQ) [1,1,0]) (sub (B QaQ) [1,1,1]) (retK Tryz.prog (R QaQ) 0 (outK (Qad Tryz.prog QaQ)))))))) ⟨fr 31 [(0, .val (.list jk a2)),(2, .val (.str [])),(3, .lst true kB 5 vY),(4,vI wO)],[bx 31 []],KK⟩)
theorem Qry (lb n yN : Nat) (jk : Bool) (a2 : LL) (wO : Int) (kB : Bool) (vY : LL) :
 Qh1 lb n yN jk a2 wO kB vY =
 optO (atL a2 wO) fun kt =>
 chkO (kt.length == 1) (
 optO (kt[0]?) fun vk =>
 optO (C lb n Qb4 [vk]) fun pu =>
 optO (CV.asB pu) fun pq =>
 bif (!pq) then
 (optO (C lb n Qb3 [vk]) fun ml =>
 optO (CV.asS ml) fun vU =>
 chkO ((vU.map fun c => [CV.int .u8 c.toNat]).all (·.length == 1)) (
 chkO (room (vY.length + (vU.map fun c => [CV.int .u8 c.toNat]).length) 1) (
 QeV lb n yN jk a2 (kB && ((vU.map fun c => [CV.int .u8 c.toNat]).isEmpty)) (vY ++ (vU.map fun c => [CV.int .u8 c.toNat])) (IntKind.wrap .i64 (wO + 1)))))
 else
 (optO (CV.asS vk) fun nV =>
 chkO ((nV.map fun c => [CV.int .u8 c.toNat]).all (·.length == 1)) (
 chkO (room (vY.length + (nV.map fun c => [CV.int .u8 c.toNat]).length) 1) (
 QeV lb n yN jk a2 (kB && ((nV.map fun c => [CV.int .u8 c.toNat]).isEmpty)) (vY ++ (nV.map fun c => [CV.int .u8 c.toNat])) (IntKind.wrap .i64 (wO + 1)))))) := (Qab _).trans (by kernel_rfl)
noncomputable def QoK (lb n : Nat) (jk : Bool) (a2 : LL) (mB : Bool) (nN : LL) (qz : Int) : Option CV :=
 hold (E0 lb n 0 997 (sub (B QaQ) [1,1,1]) (retK Tryz.prog (R QaQ) 0 (outK (Qad Tryz.prog QaQ))) ⟨fr 31 [(0, .val (.list jk a2)),(2, .val (.str [])),(3, .lst true mB 5 nN),(4,vI qz)],[bx 31 []],KK⟩)
theorem QrH (lb n : Nat) (jk : Bool) (a2 : LL) (mB : Bool) (nN : LL) (qz : Int) :
 QoK lb n jk a2 mB nN qz =
 optO (bytesOf nN) fun ug =>
 some (.str ug) := (Qab _).trans (by kernel_rfl)
theorem Qjq (lb n yN : Nat) (jk : Bool) (a2 : LL) (yA : Bool) (wL : LL) (wO : Int) :
 QeV lb n (yN + 1) jk a2 yA wL wO =
 bif (decide (wO < (a2.length : Int))) then
 (bif (decide (wO > 0)) then
 (chkO (room (wL.length + 1) 1) (
 Qh1 lb n yN jk a2 wO (yA && false) (wL ++ [[CV.int .u8 32]])))
 else
 (Qh1 lb n yN jk a2 wO yA wL))
 else
 (QoK lb n jk a2 yA wL wO) := (Qab _).trans (by kernel_rfl)
theorem QuZ (lb n : Nat) (jk : Bool) (a2 : LL) :
 top lb n QaQ [.list jk a2] =
 QeV lb n n jk a2 true [] 0 := by kernel_rfl
theorem Qpn (lb n : Nat) (a1 : LB) :
 top lb n Qhx [.str a1] =
 optO (C lb n QeS [.str a1, .int .i64 2, .int .i64 2]) fun r2 =>
 optO (CV.asB r2) fun b3 =>
 bif b3 then
 (optO (C lb n Qai [.str a1, .fn Qcj]) fun r4 =>
 optO (CV.asB r4) fun b5 =>
 some (.bool (!b5)))
 else
 (some (.bool false)) := by kernel_rfl
theorem QpP (lb n : Nat) (a1 : LB) :
 top lb n QfK [.str a1] =
 bif ((a1.length : Int) == 3) then
 (optO (C lb n Qai [.str a1, .fn QbE]) fun r2 =>
 some (r2))
 else
 (some (.bool false)) := by kernel_rfl
theorem QsJ (lb n : Nat) (a1 : LB) :
 top lb n QjC [.str a1] =
 bif ((a1.length : Int) == 1) then
 (optO (atS a1 0) fun c2 =>
 optO (C lb n QbE [.int .u8 (c2.toNat : Int)]) fun r3 =>
 some (r3))
 else
 (some (.bool false)) := by kernel_rfl
theorem QqU (lb n : Nat) (a1 : Int) :
 top lb n QcR [.int .u8 a1] =
 optO (C lb n QbE [.int .u8 a1]) fun r2 =>
 optO (CV.asB r2) fun b3 =>
 bif b3 then
 (some (.bool true))
 else
 (optO (C lb n Qcj [.int .u8 a1]) fun r4 =>
 some (r4)) := by kernel_rfl
theorem QqF (lb n : Nat) (a1 : Int) :
 top lb n QbE [.int .u8 a1] =
 bif (decide (a1 ≥ 65)) then
 (some (.bool (decide (a1 ≤ 90))))
 else
 (some (.bool false)) := by kernel_rfl
theorem QsE (lb n : Nat) (a1 : Int) :
 top lb n Qcj [.int .u8 a1] =
 bif (decide (a1 ≥ 48)) then
 (some (.bool (decide (a1 ≤ 57))))
 else
 (some (.bool false)) := by kernel_rfl
theorem Qq4 (lb n : Nat) (a1 : LB) :
 top lb n QiJ [.str a1] =
 optO (C lb n QbL [.str a1, .int .i64 2, .int .i64 2]) fun r2 =>
 optO (CV.asB r2) fun b3 =>
 bif b3 then
 (optO (atS a1 0) fun c4 =>
 optO (C lb n Qef [.int .u8 (c4.toNat : Int)]) fun r5 =>
 optO (CV.asB r5) fun b6 =>
 bif b6 then
 (some (.bool true))
 else
 (optO (atS a1 1) fun c7 =>
 optO (C lb n Qef [.int .u8 (c7.toNat : Int)]) fun r9 =>
 some (r9)))
 else
 (some (.bool false)) := by kernel_rfl
theorem QrA (lb n : Nat) (a1 : LB) :
 top lb n Qgd [.str a1] =
 optO (C lb n Qbr [.str a1, .int .i64 3]) fun r2 =>
 some (r2) := by kernel_rfl
theorem Quv (lb n : Nat) (a1 : LB) :
 top lb n Qkw [.str a1] =
 optO (C lb n Qbr [.str a1, .int .i64 1]) fun r2 =>
 some (r2) := by kernel_rfl
theorem Qma (lb n : Nat) (a1 : Int) :
 top lb n QfA [.int .u64 a1] =
 bif (decide (a1 < 10)) then
 (chkO (decide ((0 : Int) ≤ (IntKind.wrap .u64 (a1 + 1)) ∧ (IntKind.wrap .u64 (a1 + 1)) ≤ 10)) (
 chkO (decide ((0 : Int) ≤ a1 ∧ a1 ≤ (IntKind.wrap .u64 (a1 + 1)))) (
 some (.str ((([48,49,50,51,52,53,54,55,56,57] : LB).take ((IntKind.wrap .u64 (a1 + 1)).toNat)).drop a1.toNat)))))
 else
 (optO (C lb n QfA [.int .u64 (IntKind.wrap .u64 (Int.tdiv a1 10))]) fun r2 =>
 chkO (decide ((0 : Int) ≤ (IntKind.wrap .u64 ((Int.tmod a1 10) + 1)) ∧ (IntKind.wrap .u64 ((Int.tmod a1 10) + 1)) ≤ 10)) (
 chkO (decide ((0 : Int) ≤ (Int.tmod a1 10) ∧ (Int.tmod a1 10) ≤ (IntKind.wrap .u64 ((Int.tmod a1 10) + 1)))) (
 optO (CV.asS r2) fun s3 =>
 chkO (decide (s3.length + ((([48,49,50,51,52,53,54,55,56,57] : LB).take ((IntKind.wrap .u64 ((Int.tmod a1 10) + 1)).toNat)).drop ((Int.tmod a1 10).toNat)).length ≤ 9223372036854775807)) (
 some (.str (s3 ++ ((([48,49,50,51,52,53,54,55,56,57] : LB).take ((IntKind.wrap .u64 ((Int.tmod a1 10) + 1)).toNat)).drop ((Int.tmod a1 10).toNat)))))))) := by kernel_rfl
theorem Qth (lb n : Nat) (a1 : Int) :
 top lb n Qef [.int .u8 a1] =
 bif (decide (a1 ≥ 65)) then
 (some (.bool (decide (a1 ≤ 90))))
 else
 (some (.bool false)) := by kernel_rfl
theorem QtB (lb n : Nat) (a1 : Int) :
 top lb n Qkv [.int .u8 a1] =
 bif (decide (a1 ≥ 48)) then
 (some (.bool (decide (a1 ≤ 57))))
 else
 (some (.bool false)) := by kernel_rfl
noncomputable def Qel (lb n vh : Nat) (jk : Bool) (a2 oo : LL) (yx : Int) : Option CV :=
 hold (Qaw (E0 lb n 0 994) 0 (Qah (sub (B QbA) [1,1,0,1,0,0]) ++ [5,5]) [] (sub (B QbA) [1,1,0,1,0,0]) (Qap 0 (seqK (E0 lb n 0 997) (sub (B QbA) [1,1,0]) (sub (B QbA) [1,1,1]) (retK Tryz.prog (R QbA) 0 (outK (Qad Tryz.prog QbA))))) vh ⟨fr 27 [(0, .val (.list jk a2)),(2, .val (.str [])),(3, .lst true false 9 oo),(6, .val (.list jk a2)),(7, .val (.int .i64 (a2.length : Int))),(8, .val (.list false [])),(9, .val (.list jk a2)),(10, .val (.int .i64 (a2.length : Int))),(11,vI yx)],[bx 27 []],KK⟩)
noncomputable def Qg2 (lb n : Nat) (jk : Bool) (a2 : LL) (vc : Bool) (vp : LL) : Option CV :=
 hold (E0 lb n 0 997 (sub (B QbA) [1,1,1]) (retK Tryz.prog (R QbA) 0 (outK (Qad Tryz.prog QbA))) ⟨fr 27 [(0, .val (.list jk a2)),(2, .val (.str [])),(3, .lst true vc 9 vp),(6, .val (.list jk a2)),(7, .val (.int .i64 (a2.length : Int))),(8, .val (.list false []))],[bx 27 []],KK⟩)
theorem QpT (lb n : Nat) (jk : Bool) (a2 : LL) (vc : Bool) (vp : LL) :
 Qg2 lb n jk a2 vc vp =
 optO (C lb n QfG [.list vc vp, .str [32]]) fun nC =>
 some (nC) := (Qab _).trans (by kernel_rfl)
theorem QiZ (lb n vh : Nat) (jk : Bool) (a2 oo : LL) (yx : Int) :
 Qel lb n (vh + 1) jk a2 oo yx =
 bif (decide (yx < (a2.length : Int))) then
 (optO (atL a2 yx) fun c20 =>
 chkO (c20.length == 1) (
 optO (c20[0]?) fun jV =>
 optO (C lb n Qfz [jV]) fun js =>
 optO (CV.asB js) fun pP =>
 bif (!pP) then
 (optO (C lb n QbN [jV]) fun nO =>
 chkO (CV.isCell nO) (
 chkO (room (oo.length + 1) 16) (
 Qel lb n vh jk a2 (oo ++ [[nO]]) (IntKind.wrap .i64 (yx + 1)))))
 else
 (chkO (CV.isCell jV) (
 chkO (room (oo.length + 1) 16) (
 Qel lb n vh jk a2 (oo ++ [[jV]]) (IntKind.wrap .i64 (yx + 1)))))))
 else
 (Qg2 lb n jk a2 false oo) := (Qab _).trans (by kernel_rfl)
theorem QtL (lb n : Nat) (jk : Bool) (a2 : LL) :
 top lb n QbA [.list jk a2] =
 chkO (decide (0 ≤ (0 : Int)) && decide ((0 : Int) ≤ ((a2.length : Int) : Int)) && decide (((a2.length : Int) : Int) * 16 ≤ 140737488355328) && decide (((a2.length : Int) : Int) ≤ 140737488355328)) (
 Qel lb n n jk a2 [] 0) := by kernel_rfl
noncomputable def Qhb (lb n yz : Nat) (a1 : LB) (i5 : Int) : Option CV :=
 hold (Qaw (E0 lb n 0 995) 0 (Qah (sub (B Qb4) [1,0,1,0,0]) ++ []) [] (sub (B Qb4) [1,0,1,0,0]) (Qap 0 (seqK (E0 lb n 0 998) (sub (B Qb4) [1,0]) (sub (B Qb4) [1,1]) (retK Tryz.prog (R Qb4) 0 (outK (Qad Tryz.prog Qb4))))) yz ⟨fr 28 [(0,vS a1),(2,vB false),(3,vI i5)],[bx 28 []],KK⟩)
noncomputable def Qni (lb n : Nat) (a1 : LB) (yO : Int) : Option CV :=
 hold (E0 lb n 0 998 (sub (B Qb4) [1,1]) (retK Tryz.prog (R Qb4) 0 (outK (Qad Tryz.prog Qb4))) ⟨fr 28 [(0,vS a1),(2,vB false),(3,vI yO)],[bx 28 []],KK⟩)
theorem Qp3 (lb n : Nat) (a1 : LB) (yO : Int) :
 Qni lb n a1 yO =
 some (.bool (!(a1 == []))) := (Qab _).trans (by kernel_rfl)
theorem Qi1 (lb n yz : Nat) (a1 : LB) (i5 : Int) :
 Qhb lb n (yz + 1) a1 i5 =
 bif (decide (i5 < (a1.length : Int))) then
 (optO (atS a1 i5) fun vW =>
 bif (decide ((vW.toNat : Int) < 33)) then
 (some (.bool false))
 else
 (optO (atS a1 i5) fun vZ =>
 bif (decide ((vZ.toNat : Int) > 126)) then
 (some (.bool false))
 else
 (optO (atS a1 i5) fun kv =>
 bif ((kv.toNat : Int) == 34) then
 (some (.bool false))
 else
 (Qhb lb n yz a1 (IntKind.wrap .i64 (i5 + 1))))))
 else
 (Qni lb n a1 i5) := (Qab _).trans (by kernel_rfl)
theorem Qtv (lb n : Nat) (a1 : LB) :
 top lb n Qb4 [.str a1] =
 Qhb lb n n a1 0 := by kernel_rfl
noncomputable def Qdf (lb n yE : Nat) (a1 : LB) (jn : LL) (w8 : Int) : Option CV :=
 hold (Qaw (E0 lb n 0 994) 0 (Qah (sub (B Qb3) [1,1,0,1,0,0]) ++ [5]) [] (sub (B Qb3) [1,1,0,1,0,0]) (Qap 0 (seqK (E0 lb n 0 997) (sub (B Qb3) [1,1,0]) (sub (B Qb3) [1,1,1]) (retK Tryz.prog (R Qb3) 0 (outK (Qad Tryz.prog Qb3))))) yE ⟨fr 48 [(0,vS a1),(2, .val (.str [])),(3, .lst true false 5 jn),(4,vI w8),(6, .val (.list false [[CV.int .u8 34]]))],[bx 48 []],KK⟩)
noncomputable def QmR (lb n : Nat) (a1 : LB) (ki : Bool) (kd : LL) (kw : Int) : Option CV :=
 hold (E0 lb n 0 997 (sub (B Qb3) [1,1,1]) (retK Tryz.prog (R Qb3) 0 (outK (Qad Tryz.prog Qb3))) ⟨fr 48 [(0,vS a1),(2, .val (.str [])),(3, .lst true ki 5 kd),(4,vI kw),(6, .val (.list false [[CV.int .u8 34]]))],[bx 48 []],KK⟩)
theorem QpU (lb n : Nat) (a1 : LB) (ki : Bool) (kd : LL) (kw : Int) :
 QmR lb n a1 ki kd kw =
 chkO (room (kd.length + 1) 1) (
 optO (bytesOf (kd ++ [[CV.int .u8 34]])) fun rz =>
 some (.str rz)) := (Qab _).trans (by kernel_rfl)
theorem QiV (lb n yE : Nat) (a1 : LB) (jn : LL) (w8 : Int) :
 Qdf lb n (yE + 1) a1 jn w8 =
 bif (decide (w8 < (a1.length : Int))) then
 (optO (atS a1 w8) fun yq =>
 bif (decide ((yq.toNat : Int) < 32)) then
 (optO (atS [48,49,50,51,52,53,54,55,56,57,97,98,99,100,101,102] (IntKind.wrap .u8 (Int.tdiv (yq.toNat : Int) 16))) fun vt =>
 optO (atS [48,49,50,51,52,53,54,55,56,57,97,98,99,100,101,102] (Int.tmod (yq.toNat : Int) 16)) fun kY =>
 chkO (room (jn.length + 4) 1) (
 Qdf lb n yE a1 (jn ++ [[CV.int .u8 92],[CV.int .u8 120],[CV.int .u8 (vt.toNat : Int)],[CV.int .u8 (kY.toNat : Int)]]) (IntKind.wrap .i64 (w8 + 1))))
 else
 (bif (decide ((yq.toNat : Int) > 126)) then
 (optO (atS [48,49,50,51,52,53,54,55,56,57,97,98,99,100,101,102] (IntKind.wrap .u8 (Int.tdiv (yq.toNat : Int) 16))) fun gh =>
 optO (atS [48,49,50,51,52,53,54,55,56,57,97,98,99,100,101,102] (Int.tmod (yq.toNat : Int) 16)) fun gA =>
 chkO (room (jn.length + 4) 1) (
 Qdf lb n yE a1 (jn ++ [[CV.int .u8 92],[CV.int .u8 120],[CV.int .u8 (gh.toNat : Int)],[CV.int .u8 (gA.toNat : Int)]]) (IntKind.wrap .i64 (w8 + 1))))
 else
 (bif ((yq.toNat : Int) == 34) then
 (chkO (room (jn.length + 1) 1) (
 chkO (room ((jn ++ [[CV.int .u8 92]]).length + 1) 1) (
 Qdf lb n yE a1 ((jn ++ [[CV.int .u8 92]]) ++ [[CV.int .u8 (yq.toNat : Int)]]) (IntKind.wrap .i64 (w8 + 1)))))
 else
 (bif ((yq.toNat : Int) == 92) then
 (chkO (room (jn.length + 1) 1) (
 chkO (room ((jn ++ [[CV.int .u8 92]]).length + 1) 1) (
 Qdf lb n yE a1 ((jn ++ [[CV.int .u8 92]]) ++ [[CV.int .u8 (yq.toNat : Int)]]) (IntKind.wrap .i64 (w8 + 1)))))
 else
 (chkO (room (jn.length + 1) 1) (
 Qdf lb n yE a1 (jn ++ [[CV.int .u8 (yq.toNat : Int)]]) (IntKind.wrap .i64 (w8 + 1))))))))
 else
 (QmR lb n a1 false jn w8) := (Qab _).trans (by kernel_rfl)
theorem QtW (lb n : Nat) (a1 : LB) :
 top lb n Qb3 [.str a1] =
 Qdf lb n n a1 [[CV.int .u8 34]] 0 := by kernel_rfl
noncomputable def QeH (lb n vL : Nat) (a1 : LB) (x4 x6 r2 : CV) (p9 : Bool × LL) (om : Bool × LL) (vf : LL) (vN : Int) : Option CV :=
 hold (Qaw (E0 lb n 0 991) 0 (Qah (sub (B Qa4) [1,1,1,1,1,0,1,0,0]) ++ [8,9,10,8]) [] (sub (B Qa4) [1,1,1,1,1,0,1,0,0]) (Qap 0 (seqK (E0 lb n 0 994) (sub (B Qa4) [1,1,1,1,1,0]) (sub (B Qa4) [1,1,1,1,1,1]) (retK Tryz.prog (R Qa4) 0 (outK (Qad Tryz.prog Qa4))))) vL ⟨fr 50 [(0,vS a1),(2, .lst true true 9 []),(3,vI 0),(4,vV x4),(5,vV x6),(6, .lst true false 9 vf),(13,vV r2),(14,vS a1),(15,vV r2),(16,vV x4),(17,vV x6),(20,vV x4),(21, .val (.int .i64 (p9.2.length : Int))),(22, .val (.list false [])),(23,vV x4),(24, .val (.int .i64 (om.2.length : Int))),(25,vI vN)],[bx 50 []],KK⟩)
noncomputable def Ql9 (lb n : Nat) (a1 : LB) (x4 x6 r2 : CV) (p9 : Bool × LL) (nW : Bool) (nB : LL) : Option CV :=
 hold (E0 lb n 0 994 (sub (B Qa4) [1,1,1,1,1,1]) (retK Tryz.prog (R Qa4) 0 (outK (Qad Tryz.prog Qa4))) ⟨fr 50 [(0,vS a1),(2, .lst true true 9 []),(3,vI 0),(4,vV x4),(5,vV x6),(6, .lst true nW 9 nB),(13,vV r2),(14,vS a1),(15,vV r2),(16,vV x4),(17,vV x6),(20,vV x4),(21, .val (.int .i64 (p9.2.length : Int))),(22, .val (.list false []))],[bx 50 []],KK⟩)
theorem Qpd (lb n : Nat) (a1 : LB) (x4 x6 r2 : CV) (p9 : Bool × LL) (nW : Bool) (nB : LL) :
 Ql9 lb n a1 x4 x6 r2 p9 nW nB =
 some (.tup [.list nW nB, .int .i64 0]) := (Qab _).trans (by kernel_rfl)
theorem Qdc (lb n vL : Nat) (a1 : LB) (x4 x6 r2 : CV) (p9 : Bool × LL) (om : Bool × LL) (vf : LL) (vN : Int) :
 QeH lb n (vL + 1) a1 x4 x6 r2 p9 om vf vN =
 bif (decide (vN < (om.2.length : Int))) then
 (optO (CV.asL x4) fun qo =>
 optO (atL qo.2 vN) fun mh =>
 chkO (mh.length == 1) (
 optO (mh[0]?) fun vF =>
 optO (C lb n Qfz [vF]) fun rE =>
 optO (CV.asB rE) fun rW =>
 bif (!rW) then
 (optO (C lb n Qbq [vF]) fun wo =>
 optO (CV.asT wo) fun tw =>
 optO (tw[0]?) fun gk =>
 optO (CV.asT wo) fun qp =>
 optO (qp[1]?) fun gm =>
 optO (CV.asI .i64 gm) fun tj =>
 bif (tj != 0) then
 (some (.tup [.list true [], .int .i64 3]))
 else
 (optO (C lb n Qfz [gk]) fun tA =>
 optO (CV.asB tA) fun ou =>
 bif ou then
 (some (.tup [.list true [], .int .i64 3]))
 else
 (chkO (CV.isCell gk) (
 chkO (room (vf.length + 1) 16) (
 QeH lb n vL a1 x4 x6 r2 p9 om (vf ++ [[gk]]) (IntKind.wrap .i64 (vN + 1)))))))
 else
 (chkO (CV.isCell vF) (
 chkO (room (vf.length + 1) 16) (
 QeH lb n vL a1 x4 x6 r2 p9 om (vf ++ [[vF]]) (IntKind.wrap .i64 (vN + 1)))))))
 else
 (Ql9 lb n a1 x4 x6 r2 p9 false vf) := (Qab _).trans (by kernel_rfl)
theorem QsZ (lb n : Nat) (a1 : LB) :
 top lb n Qa4 [.str a1] =
 bif (a1 == []) then
 (some (.tup [.list true [], .int .i64 0]))
 else
 (optO (C lb n Qck [.str a1]) fun r2 =>
 optO (CV.asT r2) fun t3 =>
 optO (t3[0]?) fun x4 =>
 optO (CV.asT r2) fun t5 =>
 optO (t5[1]?) fun x6 =>
 optO (CV.asB x6) fun b7 =>
 bif (!b7) then
 (some (.tup [.list true [], .int .i64 3]))
 else
 (optO (CV.asL x4) fun p9 =>
 chkO (decide (0 ≤ (0 : Int)) && decide ((0 : Int) ≤ ((p9.2.length : Int) : Int)) && decide (((p9.2.length : Int) : Int) * 16 ≤ 140737488355328) && decide (((p9.2.length : Int) : Int) ≤ 140737488355328)) (
 optO (CV.asL x4) fun om =>
 QeH lb n n a1 x4 x6 r2 p9 om [] 0))) := by kernel_rfl
noncomputable def Qhk (lb n vh : Nat) (a1 : LB) (r2 : CV) (p3 : Bool × LL) (yF : Int) : Option CV :=
 hold (Qaw (E0 lb n 0 994) 0 (Qah (sub (B QbH) [1,1,0,1,0,0]) ++ [4]) [] (sub (B QbH) [1,1,0,1,0,0]) (Qap 0 (seqK (E0 lb n 0 997) (sub (B QbH) [1,1,0]) (sub (B QbH) [1,1,1]) (retK Tryz.prog (R QbH) 0 (outK (Qad Tryz.prog QbH))))) vh ⟨fr 23 [(0,vS a1),(2,vB false),(8,vS a1),(9,vV r2),(10, .val (.int .i64 (p3.2.length : Int))),(11,vI yF)],[bx 23 []],KK⟩)
noncomputable def QmV (lb n : Nat) (a1 : LB) : Option CV :=
 hold (E0 lb n 0 997 (sub (B QbH) [1,1,1]) (retK Tryz.prog (R QbH) 0 (outK (Qad Tryz.prog QbH))) ⟨fr 23 [(0,vS a1),(2,vB false)],[bx 23 []],KK⟩)
theorem QpQ (lb n : Nat) (a1 : LB) :
 QmV lb n a1 =
 some (.bool true) := (Qab _).trans (by kernel_rfl)
theorem QiS (lb n vh : Nat) (a1 : LB) (r2 : CV) (p3 : Bool × LL) (yF : Int) :
 Qhk lb n (vh + 1) a1 r2 p3 yF =
 bif (decide (yF < (p3.2.length : Int))) then
 (optO (CV.asL r2) fun ro =>
 optO (atL ro.2 yF) fun c21 =>
 chkO (c21.length == 1) (
 optO (c21[0]?) fun gy =>
 optO (CV.asS gy) fun td =>
 bif (td == []) then
 (some (.bool false))
 else
 (optO (C lb n Qai [gy, .fn QbE]) fun nO =>
 optO (CV.asB nO) fun vc =>
 bif (!vc) then
 (some (.bool false))
 else
 (Qhk lb n vh a1 r2 p3 (IntKind.wrap .i64 (yF + 1))))))
 else
 (QmV lb n a1 ) := (Qab _).trans (by kernel_rfl)
theorem Qnd (lb n : Nat) (a1 : LB) :
 top lb n QbH [.str a1] =
 bif (decide ((a1.length : Int) > 30)) then
 (some (.bool false))
 else
 (optO (C lb n Qe4 [.str a1, .str [32]]) fun r2 =>
 optO (CV.asL r2) fun p3 =>
 Qhk lb n n a1 r2 p3 0) := by kernel_rfl
noncomputable def QfZ (lb n mE : Nat) (a1 : LB) (yF : Int) : Option CV :=
 hold (Qaw (E0 lb n 0 994) 0 (Qah (sub (B Qb5) [1,1,0,1,0,0]) ++ []) [] (sub (B Qb5) [1,1,0,1,0,0]) (Qap 0 (seqK (E0 lb n 0 997) (sub (B Qb5) [1,1,0]) (sub (B Qb5) [1,1,1]) (retK Tryz.prog (R Qb5) 0 (outK (Qad Tryz.prog Qb5))))) mE ⟨fr 49 [(0,vS a1),(2,vB false),(3,vI yF)],[bx 49 []],KK⟩)
noncomputable def Qom (lb n : Nat) (a1 : LB) (ks : Int) : Option CV :=
 hold (E0 lb n 0 997 (sub (B Qb5) [1,1,1]) (retK Tryz.prog (R Qb5) 0 (outK (Qad Tryz.prog Qb5))) ⟨fr 49 [(0,vS a1),(2,vB false),(3,vI ks)],[bx 49 []],KK⟩)
theorem Qrh (lb n : Nat) (a1 : LB) (ks : Int) :
 Qom lb n a1 ks =
 some (.bool true) := (Qab _).trans (by kernel_rfl)
theorem Qgw (lb n mE : Nat) (a1 : LB) (yF : Int) :
 QfZ lb n (mE + 1) a1 yF =
 bif (decide (yF < (a1.length : Int))) then
 (optO (atS a1 yF) fun tQ =>
 optO (C lb n Qef [.int .u8 (tQ.toNat : Int)]) fun kA =>
 optO (CV.asB kA) fun vH =>
 bif (!vH) then
 (optO (atS a1 yF) fun rp =>
 bif ((rp.toNat : Int) != 32) then
 (some (.bool false))
 else
 (optO (atS a1 (IntKind.wrap .i64 (yF - 1))) fun rM =>
 bif ((rM.toNat : Int) == 32) then
 (some (.bool false))
 else
 (QfZ lb n mE a1 (IntKind.wrap .i64 (yF + 1)))))
 else
 (QfZ lb n mE a1 (IntKind.wrap .i64 (yF + 1))))
 else
 (Qom lb n a1 yF) := (Qab _).trans (by kernel_rfl)
theorem Qu6 (lb n : Nat) (a1 : LB) :
 top lb n Qb5 [.str a1] =
 bif (decide ((a1.length : Int) < 1)) then
 (some (.bool false))
 else
 (bif (decide ((a1.length : Int) > 30)) then
 (some (.bool false))
 else
 (optO (atS a1 0) fun c2 =>
 bif ((c2.toNat : Int) == 32) then
 (some (.bool false))
 else
 (optO (atS a1 (IntKind.wrap .i64 ((a1.length : Int) - 1))) fun c3 =>
 bif ((c3.toNat : Int) == 32) then
 (some (.bool false))
 else
 (QfZ lb n n a1 0)))) := by kernel_rfl
noncomputable def QfS (lb n vr : Nat) (a1 : LB) (b2 i6 : Int) : Option CV :=
 hold (Qaw (E0 lb n 0 995) 0 (Qah (sub (B Qbr) [1,0,1,0,0]) ++ []) [] (sub (B Qbr) [1,0,1,0,0]) (Qap 0 (seqK (E0 lb n 0 998) (sub (B Qbr) [1,0]) (sub (B Qbr) [1,1]) (retK Tryz.prog (R Qbr) 0 (outK (Qad Tryz.prog Qbr))))) vr ⟨fr 21 [(0,vS a1),(1,vI b2),(4,vB false),(5,vI i6)],[bx 21 []],KK⟩)
noncomputable def QkQ (lb n : Nat) (a1 : LB) (b2 wk : Int) : Option CV :=
 hold (E0 lb n 0 998 (sub (B Qbr) [1,1]) (retK Tryz.prog (R Qbr) 0 (outK (Qad Tryz.prog Qbr))) ⟨fr 21 [(0,vS a1),(1,vI b2),(4,vB false),(5,vI wk)],[bx 21 []],KK⟩)
theorem Qn6 (lb n : Nat) (a1 : LB) (b2 wk : Int) :
 QkQ lb n a1 b2 wk =
 some (.bool ((a1.length : Int) == b2)) := (Qab _).trans (by kernel_rfl)
theorem Qhq (lb n vr : Nat) (a1 : LB) (b2 i6 : Int) :
 QfS lb n (vr + 1) a1 b2 i6 =
 bif (decide (i6 < (a1.length : Int))) then
 (optO (atS a1 i6) fun vZ =>
 optO (C lb n Qef [.int .u8 (vZ.toNat : Int)]) fun mG =>
 optO (CV.asB mG) fun yA =>
 bif (!yA) then
 (some (.bool false))
 else
 (QfS lb n vr a1 b2 (IntKind.wrap .i64 (i6 + 1))))
 else
 (QkQ lb n a1 b2 i6) := (Qab _).trans (by kernel_rfl)
theorem Qra (lb n : Nat) (a1 : LB) (b2 : Int) :
 top lb n Qbr [.str a1, .int .i64 b2] =
 QfS lb n n a1 b2 0 := by kernel_rfl
theorem Qsy (lb n : Nat) (a1 : LB) :
 top lb n Qfz [.str a1] =
 bif (!(a1 == [])) then
 (optO (C lb n Qai [.str a1, .fn Qcy]) fun r2 =>
 some (r2))
 else
 (some (.bool false)) := by kernel_rfl
noncomputable def QcS (lb n yE : Nat) (a1 : LB) (jn : LL) (w8 : Int) : Option CV :=
 hold (Qaw (E0 lb n 0 993) 0 (Qah (sub (B QbN) [1,1,1,0,1,0,0]) ++ [4,5,25,36]) [] (sub (B QbN) [1,1,1,0,1,0,0]) (Qap 0 (seqK (E0 lb n 0 996) (sub (B QbN) [1,1,1,0]) (sub (B QbN) [1,1,1,1]) (retK Tryz.prog (R QbN) 0 (outK (Qad Tryz.prog QbN))))) yE ⟨fr 57 [(0,vS a1),(2, .val (.str [])),(3, .lst true false 5 jn),(6,vS a1),(7, .val (.int .i64 (a1.length : Int))),(8, .val (.int .i64 (IntKind.wrap .i64 ((a1.length : Int) + 2)))),(9, .val (.list false [])),(10, .val (.list false [])),(11, .lst true false 5 [[CV.int .u8 34]]),(12, .val (.list false [[CV.int .u8 34]])),(13,vS a1),(14, .val (.int .i64 (a1.length : Int))),(15,vI w8)],[bx 57 []],KK⟩)
noncomputable def Ql1 (lb n : Nat) (a1 : LB) (ki : Bool) (kd : LL) : Option CV :=
 hold (E0 lb n 0 996 (sub (B QbN) [1,1,1,1]) (retK Tryz.prog (R QbN) 0 (outK (Qad Tryz.prog QbN))) ⟨fr 57 [(0,vS a1),(2, .val (.str [])),(3, .lst true ki 5 kd),(6,vS a1),(7, .val (.int .i64 (a1.length : Int))),(8, .val (.int .i64 (IntKind.wrap .i64 ((a1.length : Int) + 2)))),(9, .val (.list false [])),(10, .val (.list false [])),(11, .lst true false 5 [[CV.int .u8 34]]),(12, .val (.list false [[CV.int .u8 34]]))],[bx 57 []],KK⟩)
theorem QoP (lb n : Nat) (a1 : LB) (ki : Bool) (kd : LL) :
 Ql1 lb n a1 ki kd =
 chkO (room (kd.length + 1) 1) (
 optO (bytesOf (kd ++ [[CV.int .u8 34]])) fun kU =>
 some (.str kU)) := (Qab _).trans (by kernel_rfl)
theorem Qiy (lb n yE : Nat) (a1 : LB) (jn : LL) (w8 : Int) :
 QcS lb n (yE + 1) a1 jn w8 =
 bif (decide (w8 < (a1.length : Int))) then
 (optO (atS a1 w8) fun yq =>
 bif ((yq.toNat : Int) == 34) then
 (chkO (room (jn.length + 2) 1) (
 QcS lb n yE a1 (jn ++ [[CV.int .u8 92],[CV.int .u8 (yq.toNat : Int)]]) (IntKind.wrap .i64 (w8 + 1))))
 else
 (bif ((yq.toNat : Int) == 92) then
 (chkO (room (jn.length + 2) 1) (
 QcS lb n yE a1 (jn ++ [[CV.int .u8 92],[CV.int .u8 (yq.toNat : Int)]]) (IntKind.wrap .i64 (w8 + 1))))
 else
 (bif (decide ((yq.toNat : Int) < 32)) then
 (optO (atS [48,49,50,51,52,53,54,55,56,57,97,98,99,100,101,102] (Int.fdiv (yq.toNat : Int) (2 ^ 4))) fun vt =>
 optO (atS [48,49,50,51,52,53,54,55,56,57,97,98,99,100,101,102] (IntKind.wrap .u8 ((BitVec.ofInt 8 (yq.toNat : Int) &&& BitVec.ofInt 8 15).toNat))) fun kY =>
 chkO (room (jn.length + 4) 1) (
 QcS lb n yE a1 (jn ++ [[CV.int .u8 92],[CV.int .u8 120],[CV.int .u8 (vt.toNat : Int)],[CV.int .u8 (kY.toNat : Int)]]) (IntKind.wrap .i64 (w8 + 1))))
 else
 (bif (decide ((yq.toNat : Int) > 126)) then
 (optO (atS [48,49,50,51,52,53,54,55,56,57,97,98,99,100,101,102] (Int.fdiv (yq.toNat : Int) (2 ^ 4))) fun gh =>
 optO (atS [48,49,50,51,52,53,54,55,56,57,97,98,99,100,101,102] (IntKind.wrap .u8 ((BitVec.ofInt 8 (yq.toNat : Int) &&& BitVec.ofInt 8 15).toNat))) fun gA =>
 chkO (room (jn.length + 4) 1) (
 QcS lb n yE a1 (jn ++ [[CV.int .u8 92],[CV.int .u8 120],[CV.int .u8 (gh.toNat : Int)],[CV.int .u8 (gA.toNat : Int)]]) (IntKind.wrap .i64 (w8 + 1))))
 else
 (chkO (room (jn.length + 1) 1) (
 QcS lb n yE a1 (jn ++ [[CV.int .u8 (yq.toNat : Int)]]) (IntKind.wrap .i64 (w8 + 1))))))))
 else
 (Ql1 lb n a1 false jn) := (Qab _).trans (by kernel_rfl)
theorem QsR (lb n : Nat) (a1 : LB) :
 top lb n QbN [.str a1] =
 chkO (decide (0 ≤ (0 : Int)) && decide ((0 : Int) ≤ ((IntKind.wrap .i64 ((a1.length : Int) + 2)) : Int)) && decide (((IntKind.wrap .i64 ((a1.length : Int) + 2)) : Int) * 1 ≤ 140737488355328) && decide (((IntKind.wrap .i64 ((a1.length : Int) + 2)) : Int) ≤ 140737488355328)) (
 QcS lb n n a1 [[CV.int .u8 34]] 0) := by kernel_rfl
noncomputable def Qbo (lb n vP : Nat) (a1 : LB) (wR : Bool) (wB : LL) (yp : Int) (yB vi : Bool) (wS : Nat) : Option CV :=
 hold (Qaw (E0 lb n 0 991) 0 (Qah (sub (B Qck) [1,0,1,1,1,0,1,0,0]) ++ [8,9,16,23,25,31,36]) [] (sub (B Qck) [1,0,1,1,1,0,1,0,0]) (Qap 0 (seqK (E0 lb n 0 994) (sub (B Qck) [1,0,1,1,1,0]) (sub (B Qck) [1,0,1,1,1,1]) (retK Tryz.prog (R Qck) 0 (outK (Qad Tryz.prog Qck))))) vP ⟨fr 58 [(0,vS a1),(2, .lst true true 9 []),(3,vB false),(4, .lst true wR 9 wB),(5,vI yp),(6,vB yB),(7,vB vi),(10,vS a1),(11, .siter a1 wS)],[bx 58 []],KK⟩)
noncomputable def QoN (lb n : Nat) (a1 : LB) (nG : Bool) (mj : LL) (oq : Int) (kk pR : Bool) : Option CV :=
 hold (E0 lb n 0 994 (sub (B Qck) [1,0,1,1,1,1]) (retK Tryz.prog (R Qck) 0 (outK (Qad Tryz.prog Qck))) ⟨fr 58 [(0,vS a1),(2, .lst true true 9 []),(3,vB false),(4, .lst true nG 9 mj),(5,vI oq),(6,vB kk),(7,vB pR)],[bx 58 []],KK⟩)
theorem Qrz (lb n : Nat) (a1 : LB) (nG : Bool) (mj : LL) (oq : Int) (kk pR : Bool) :
 QoN lb n a1 nG mj oq kk pR =
 chkO (decide ((0 : Int) ≤ oq ∧ oq ≤ (a1.length : Int))) (
 chkO (room (mj.length + 1) 16) (
 some (.tup [.list (nG && false) (mj ++ [[CV.str ((a1.take ((a1.length : Int).toNat)).drop oq.toNat)]]), .bool true]))) := (Qab _).trans (by kernel_rfl)
theorem Qcs (lb n vP : Nat) (a1 : LB) (wR : Bool) (wB : LL) (yp : Int) (yB vi : Bool) (wS : Nat) :
 Qbo lb n (vP + 1) a1 wR wB yp yB vi wS =
 bif (decide (wS < a1.length)) then
 (bif (decide ((((Utf8.decode ⟨a1.toArray⟩ wS).1 : Nat) : Int) < 32)) then
 (some (.tup [.list true [], .bool false]))
 else
 (bif (decide ((((Utf8.decode ⟨a1.toArray⟩ wS).1 : Nat) : Int) > 126)) then
 (some (.tup [.list true [], .bool false]))
 else
 (bif vi then
 (Qbo lb n vP a1 wR wB yp yB false (wS + (Utf8.decode ⟨a1.toArray⟩ wS).2))
 else
 (bif yB then
 (bif ((((Utf8.decode ⟨a1.toArray⟩ wS).1 : Nat) : Int) == 92) then
 (Qbo lb n vP a1 wR wB yp yB true (wS + (Utf8.decode ⟨a1.toArray⟩ wS).2))
 else
 (bif ((((Utf8.decode ⟨a1.toArray⟩ wS).1 : Nat) : Int) == 34) then
 (Qbo lb n vP a1 wR wB yp (!yB) vi (wS + (Utf8.decode ⟨a1.toArray⟩ wS).2))
 else
 (bif ((((Utf8.decode ⟨a1.toArray⟩ wS).1 : Nat) : Int) == 32) then
 (bif (!yB) then
 (chkO (decide ((0 : Int) ≤ ((wS : Nat) : Int) ∧ ((wS : Nat) : Int) ≤ (a1.length : Int))) (
 chkO (decide ((0 : Int) ≤ yp ∧ yp ≤ ((wS : Nat) : Int))) (
 chkO (room (wB.length + 1) 16) (
 Qbo lb n vP a1 (wR && false) (wB ++ [[CV.str ((a1.take (((wS : Nat) : Int).toNat)).drop yp.toNat)]]) (IntKind.wrap .i64 (((wS : Nat) : Int) + 1)) yB vi (wS + (Utf8.decode ⟨a1.toArray⟩ wS).2)))))
 else
 (Qbo lb n vP a1 wR wB yp yB vi (wS + (Utf8.decode ⟨a1.toArray⟩ wS).2)))
 else
 (Qbo lb n vP a1 wR wB yp yB vi (wS + (Utf8.decode ⟨a1.toArray⟩ wS).2)))))
 else
 (bif ((((Utf8.decode ⟨a1.toArray⟩ wS).1 : Nat) : Int) == 34) then
 (Qbo lb n vP a1 wR wB yp (!yB) vi (wS + (Utf8.decode ⟨a1.toArray⟩ wS).2))
 else
 (bif ((((Utf8.decode ⟨a1.toArray⟩ wS).1 : Nat) : Int) == 32) then
 (bif (!yB) then
 (chkO (decide ((0 : Int) ≤ ((wS : Nat) : Int) ∧ ((wS : Nat) : Int) ≤ (a1.length : Int))) (
 chkO (decide ((0 : Int) ≤ yp ∧ yp ≤ ((wS : Nat) : Int))) (
 chkO (room (wB.length + 1) 16) (
 Qbo lb n vP a1 (wR && false) (wB ++ [[CV.str ((a1.take (((wS : Nat) : Int).toNat)).drop yp.toNat)]]) (IntKind.wrap .i64 (((wS : Nat) : Int) + 1)) yB vi (wS + (Utf8.decode ⟨a1.toArray⟩ wS).2)))))
 else
 (Qbo lb n vP a1 wR wB yp yB vi (wS + (Utf8.decode ⟨a1.toArray⟩ wS).2)))
 else
 (Qbo lb n vP a1 wR wB yp yB vi (wS + (Utf8.decode ⟨a1.toArray⟩ wS).2))))))))
 else
 (QoN lb n a1 wR wB yp yB vi) := (Qab _).trans (by kernel_rfl)
theorem Qu3 (lb n : Nat) (a1 : LB) :
 top lb n Qck [.str a1] =
 Qbo lb n n a1 true [] 0 false false 0 := by kernel_rfl
noncomputable def Qea (lb n mD : Nat) (a1 : LB) (wL : LL) (wO : Int) : Option CV :=
 hold (Qaw (E0 lb n 0 992) 0 (Qah (sub (B Qbq) [1,1,1,1,0,1,0,0]) ++ [7,8,9,7]) [] (sub (B Qbq) [1,1,1,1,0,1,0,0]) (Qap 0 (seqK (E0 lb n 0 995) (sub (B Qbq) [1,1,1,1,0]) (sub (B Qbq) [1,1,1,1,1]) (retK Tryz.prog (R Qbq) 0 (outK (Qad Tryz.prog Qbq))))) mD ⟨fr 75 [(0,vS a1),(2, .val (.str [])),(3,vI 0),(4, .val (.str ((a1.take ((IntKind.wrap .i64 ((a1.length : Int) - 1)).toNat)).drop 1))),(5, .lst true false 5 wL),(6,vI wO),(26,vS a1),(27,vS a1),(28, .val (.int .i64 (a1.length : Int))),(29, .val (.int .i64 (IntKind.wrap .i64 ((a1.length : Int) - 1)))),(30, .val (.str ((a1.take ((IntKind.wrap .i64 ((a1.length : Int) - 1)).toNat)).drop 1))),(31, .val (.str ((a1.take ((IntKind.wrap .i64 ((a1.length : Int) - 1)).toNat)).drop 1))),(32, .val (.int .i64 (((a1.take ((IntKind.wrap .i64 ((a1.length : Int) - 1)).toNat)).drop 1).length : Int))),(33, .val (.list false []))],[bx 75 []],KK⟩)
noncomputable def Qki (lb n : Nat) (a1 : LB) (kx : Bool) (vT : LL) (ym : Int) : Option CV :=
 hold (E0 lb n 0 995 (sub (B Qbq) [1,1,1,1,1]) (retK Tryz.prog (R Qbq) 0 (outK (Qad Tryz.prog Qbq))) ⟨fr 75 [(0,vS a1),(2, .val (.str [])),(3,vI 0),(4, .val (.str ((a1.take ((IntKind.wrap .i64 ((a1.length : Int) - 1)).toNat)).drop 1))),(5, .lst true kx 5 vT),(6,vI ym),(26,vS a1),(27,vS a1),(28, .val (.int .i64 (a1.length : Int))),(29, .val (.int .i64 (IntKind.wrap .i64 ((a1.length : Int) - 1)))),(30, .val (.str ((a1.take ((IntKind.wrap .i64 ((a1.length : Int) - 1)).toNat)).drop 1))),(31, .val (.str ((a1.take ((IntKind.wrap .i64 ((a1.length : Int) - 1)).toNat)).drop 1))),(32, .val (.int .i64 (((a1.take ((IntKind.wrap .i64 ((a1.length : Int) - 1)).toNat)).drop 1).length : Int))),(33, .val (.list false []))],[bx 75 []],KK⟩)
theorem Qnn (lb n : Nat) (a1 : LB) (kx : Bool) (vT : LL) (ym : Int) :
 Qki lb n a1 kx vT ym =
 optO (bytesOf vT) fun tL =>
 some (.tup [.str tL, .int .i64 0]) := (Qab _).trans (by kernel_rfl)
theorem QcF (lb n mD : Nat) (a1 : LB) (wL : LL) (wO : Int) :
 Qea lb n (mD + 1) a1 wL wO =
 bif (decide (wO < (((a1.take ((IntKind.wrap .i64 ((a1.length : Int) - 1)).toNat)).drop 1).length : Int))) then
 (optO (atS ((a1.take ((IntKind.wrap .i64 ((a1.length : Int) - 1)).toNat)).drop 1) wO) fun kY =>
 bif ((kY.toNat : Int) == 34) then
 (some (.tup [.str [], .int .i64 3]))
 else
 (bif (decide ((kY.toNat : Int) < 32)) then
 (some (.tup [.str [], .int .i64 3]))
 else
 (bif (decide ((kY.toNat : Int) > 126)) then
 (some (.tup [.str [], .int .i64 3]))
 else
 (bif ((kY.toNat : Int) == 92) then
 (chkO (decide ((0 : Int) ≤ (IntKind.wrap .i64 (wO + 1)) ∧ (IntKind.wrap .i64 (wO + 1)) ≤ (((a1.take ((IntKind.wrap .i64 ((a1.length : Int) - 1)).toNat)).drop 1).length : Int))) (
 optO (C lb n QiA [.str ((((a1.take ((IntKind.wrap .i64 ((a1.length : Int) - 1)).toNat)).drop 1).take ((((a1.take ((IntKind.wrap .i64 ((a1.length : Int) - 1)).toNat)).drop 1).length : Int).toNat)).drop ((IntKind.wrap .i64 (wO + 1)).toNat))]) fun qX =>
 optO (CV.asT qX) fun uj =>
 optO (uj[0]?) fun j6 =>
 optO (CV.asT qX) fun t31 =>
 optO (t31[1]?) fun jY =>
 optO (CV.asI .i64 jY) fun vo =>
 bif (vo == 0) then
 (some (.tup [.str [], .int .i64 3]))
 else
 (optO (CV.asI .i64 jY) fun mi =>
 chkO (CV.isCell j6) (
 chkO (room (wL.length + 1) 1) (
 Qea lb n mD a1 (wL ++ [[j6]]) (IntKind.wrap .i64 ((IntKind.wrap .i64 (wO + mi)) + 1)))))))
 else
 (chkO (room (wL.length + 1) 1) (
 Qea lb n mD a1 (wL ++ [[CV.int .u8 (kY.toNat : Int)]]) (IntKind.wrap .i64 (wO + 1))))))))
 else
 (Qki lb n a1 false wL wO) := (Qab _).trans (by kernel_rfl)
theorem QpR (lb n : Nat) (a1 : LB) :
 top lb n Qbq [.str a1] =
 bif (decide ((a1.length : Int) < 2)) then
 (some (.tup [.str [], .int .i64 3]))
 else
 (optO (atS a1 0) fun c2 =>
 bif ((c2.toNat : Int) != 34) then
 (some (.tup [.str [], .int .i64 3]))
 else
 (optO (atS a1 (IntKind.wrap .i64 ((a1.length : Int) - 1))) fun c3 =>
 bif ((c3.toNat : Int) != 34) then
 (some (.tup [.str [], .int .i64 3]))
 else
 (chkO (decide ((0 : Int) ≤ (IntKind.wrap .i64 ((a1.length : Int) - 1)) ∧ (IntKind.wrap .i64 ((a1.length : Int) - 1)) ≤ (a1.length : Int))) (
 chkO (decide ((0 : Int) ≤ 1 ∧ 1 ≤ (IntKind.wrap .i64 ((a1.length : Int) - 1)))) (
 chkO (decide (0 ≤ (0 : Int)) && decide ((0 : Int) ≤ ((((a1.take ((IntKind.wrap .i64 ((a1.length : Int) - 1)).toNat)).drop 1).length : Int) : Int)) && decide (((((a1.take ((IntKind.wrap .i64 ((a1.length : Int) - 1)).toNat)).drop 1).length : Int) : Int) * 1 ≤ 140737488355328) && decide (((((a1.take ((IntKind.wrap .i64 ((a1.length : Int) - 1)).toNat)).drop 1).length : Int) : Int) ≤ 140737488355328)) (
 Qea lb n n a1 [] 0)))))) := by kernel_rfl
theorem QqW (lb n : Nat) (a1 : LB) :
 top lb n QiD [.str a1] =
 optO (C lb n Qdx [.str a1, .str [45]]) fun r2 =>
 optO (CV.asS r2) fun s3 =>
 bif (s3 == []) then
 (some (.tup [.int .i64 0, .int .i64 3]))
 else
 (optO (C lb n Qai [r2, .fn Qcj]) fun r4 =>
 optO (CV.asB r4) fun b5 =>
 bif (!b5) then
 (some (.tup [.int .i64 0, .int .i64 3]))
 else
 (optO (CV.asS r2) fun s6 =>
 optO (atS s6 0) fun c7 =>
 bif ((c7.toNat : Int) == 48) then
 (bif (!(a1 == [48])) then
 (some (.tup [.int .i64 0, .int .i64 3]))
 else
 (optO (C lb n QdF [.str a1]) fun r9 =>
 optO (CV.asT r9) fun rr =>
 optO (rr[0]?) fun gw =>
 optO (CV.asT r9) fun rC =>
 optO (rC[1]?) fun ky =>
 optO (CV.asE ky) fun uv =>
 bif (!uv) then
 (some (.tup [.int .i64 0, .int .i64 4]))
 else
 (some (.tup [gw, .int .i64 0]))))
 else
 (optO (C lb n QdF [.str a1]) fun vm =>
 optO (CV.asT vm) fun pI =>
 optO (pI[0]?) fun p8 =>
 optO (CV.asT vm) fun pU =>
 optO (pU[1]?) fun qE =>
 optO (CV.asE qE) fun qJ =>
 bif (!qJ) then
 (some (.tup [.int .i64 0, .int .i64 4]))
 else
 (some (.tup [p8, .int .i64 0]))))) := by kernel_rfl
theorem QpM (lb n : Nat) (a1 : Int) :
 top lb n Qcy [.int .u8 a1] =
 bif (decide (a1 > 32)) then
 (bif (decide (a1 ≤ 126)) then
 (some (.bool (a1 != 34)))
 else
 (some (.bool false)))
 else
 (some (.bool false)) := by kernel_rfl
theorem Qrq (lb n : Nat) (a1 : LB) :
 top lb n QiA [.str a1] =
 bif (a1 == []) then
 (some (.tup [.int .u8 0, .int .i64 0]))
 else
 (optO (atS a1 0) fun c2 =>
 bif ((c2.toNat : Int) == 34) then
 (optO (atS a1 0) fun c3 =>
 some (.tup [.int .u8 (c3.toNat : Int), .int .i64 1]))
 else
 (optO (atS a1 0) fun c4 =>
 bif ((c4.toNat : Int) == 92) then
 (optO (atS a1 0) fun c5 =>
 some (.tup [.int .u8 (c5.toNat : Int), .int .i64 1]))
 else
 (optO (atS a1 0) fun c6 =>
 bif ((c6.toNat : Int) != 120) then
 (some (.tup [.int .u8 0, .int .i64 0]))
 else
 (bif (decide ((a1.length : Int) < 3)) then
 (some (.tup [.int .u8 0, .int .i64 0]))
 else
 (optO (atS a1 1) fun c7 =>
 optO (C lb n QbO [.str [48,49,50,51,52,53,54,55,56,57,97,98,99,100,101,102], .int .u8 (c7.toNat : Int)]) fun r9 =>
 optO (atS a1 2) fun v6 =>
 optO (C lb n QbO [.str [48,49,50,51,52,53,54,55,56,57,97,98,99,100,101,102], .int .u8 (v6.toNat : Int)]) fun jx =>
 optO (CV.asI .i64 r9) fun yx =>
 bif (decide (yx < 0)) then
 (some (.tup [.int .u8 0, .int .i64 0]))
 else
 (optO (CV.asI .i64 jx) fun gt =>
 bif (decide (gt < 0)) then
 (some (.tup [.int .u8 0, .int .i64 0]))
 else
 (optO (CV.asI .i64 r9) fun yO =>
 optO (CV.asI .i64 jx) fun wk =>
 bif (decide ((IntKind.wrap .u8 (IntKind.wrap .i64 ((BitVec.ofInt 64 (IntKind.wrap .i64 (yO * 2 ^ 4)) ||| BitVec.ofInt 64 wk).toNat))) ≥ 32)) then
 (bif (decide ((IntKind.wrap .u8 (IntKind.wrap .i64 ((BitVec.ofInt 64 (IntKind.wrap .i64 (yO * 2 ^ 4)) ||| BitVec.ofInt 64 wk).toNat))) ≤ 126)) then
 (some (.tup [.int .u8 0, .int .i64 0]))
 else
 (some (.tup [.int .u8 (IntKind.wrap .u8 (IntKind.wrap .i64 ((BitVec.ofInt 64 (IntKind.wrap .i64 (yO * 2 ^ 4)) ||| BitVec.ofInt 64 wk).toNat))), .int .i64 3])))
 else
 (some (.tup [.int .u8 (IntKind.wrap .u8 (IntKind.wrap .i64 ((BitVec.ofInt 64 (IntKind.wrap .i64 (yO * 2 ^ 4)) ||| BitVec.ofInt 64 wk).toNat))), .int .i64 3]))))))))) := by kernel_rfl
noncomputable def QcC (lb n yz : Nat) (a1 : LB) (i5 : Int) : Option CV :=
 hold (Qaw (E0 lb n 0 995) 0 (Qah (sub (B Qai) [1,0,1,0,0]) ++ [5]) [] (sub (B Qai) [1,0,1,0,0]) (Qap 0 (seqK (E0 lb n 0 998) (sub (B Qai) [1,0]) (sub (B Qai) [1,1]) (retK Tryz.prog (R Qai) 0 (outK (Qad Tryz.prog Qai))))) yz ⟨fr 18 [(0,vS a1),(1, .val (.fn Qcj)),(4,vB false),(6,vS a1),(7, .val (.int .i64 (a1.length : Int))),(8,vI i5)],[bx 18 []],KK⟩)
noncomputable def Qfp (lb n : Nat) (a1 : LB) : Option CV :=
 hold (E0 lb n 0 998 (sub (B Qai) [1,1]) (retK Tryz.prog (R Qai) 0 (outK (Qad Tryz.prog Qai))) ⟨fr 18 [(0,vS a1),(1, .val (.fn Qcj)),(4,vB false)],[bx 18 []],KK⟩)
theorem Qiu (lb n : Nat) (a1 : LB) :
 Qfp lb n a1 =
 some (.bool true) := (Qab _).trans (by kernel_rfl)
theorem Qeg (lb n yz : Nat) (a1 : LB) (i5 : Int) :
 QcC lb n (yz + 1) a1 i5 =
 bif (decide (i5 < (a1.length : Int))) then
 (optO (atS a1 i5) fun vW =>
 optO (C lb n Qcj [.int .u8 (vW.toNat : Int)]) fun yL =>
 optO (CV.asB yL) fun yd =>
 bif (!yd) then
 (some (.bool false))
 else
 (QcC lb n yz a1 (IntKind.wrap .i64 (i5 + 1))))
 else
 (Qfp lb n a1 ) := (Qab _).trans (by kernel_rfl)
theorem QjM (lb n : Nat) (a1 : LB) :
 top lb n Qai [.str a1, .fn Qcj] =
 QcC lb n n a1 0 := by kernel_rfl
noncomputable def Qcl (lb n yz : Nat) (a1 : LB) (i5 : Int) : Option CV :=
 hold (Qaw (E0 lb n 0 995) 0 (Qah (sub (B Qai) [1,0,1,0,0]) ++ [5]) [] (sub (B Qai) [1,0,1,0,0]) (Qap 0 (seqK (E0 lb n 0 998) (sub (B Qai) [1,0]) (sub (B Qai) [1,1]) (retK Tryz.prog (R Qai) 0 (outK (Qad Tryz.prog Qai))))) yz ⟨fr 18 [(0,vS a1),(1, .val (.fn QbE)),(4,vB false),(6,vS a1),(7, .val (.int .i64 (a1.length : Int))),(8,vI i5)],[bx 18 []],KK⟩)
noncomputable def QeK (lb n : Nat) (a1 : LB) : Option CV :=
 hold (E0 lb n 0 998 (sub (B Qai) [1,1]) (retK Tryz.prog (R Qai) 0 (outK (Qad Tryz.prog Qai))) ⟨fr 18 [(0,vS a1),(1, .val (.fn QbE)),(4,vB false)],[bx 18 []],KK⟩)
theorem Qhn (lb n : Nat) (a1 : LB) :
 QeK lb n a1 =
 some (.bool true) := (Qab _).trans (by kernel_rfl)
theorem QdZ (lb n yz : Nat) (a1 : LB) (i5 : Int) :
 Qcl lb n (yz + 1) a1 i5 =
 bif (decide (i5 < (a1.length : Int))) then
 (optO (atS a1 i5) fun vW =>
 optO (C lb n QbE [.int .u8 (vW.toNat : Int)]) fun yL =>
 optO (CV.asB yL) fun yd =>
 bif (!yd) then
 (some (.bool false))
 else
 (Qcl lb n yz a1 (IntKind.wrap .i64 (i5 + 1))))
 else
 (QeK lb n a1 ) := (Qab _).trans (by kernel_rfl)
theorem QiE (lb n : Nat) (a1 : LB) :
 top lb n Qai [.str a1, .fn QbE] =
 Qcl lb n n a1 0 := by kernel_rfl
noncomputable def Qcz (lb n yz : Nat) (a1 : LB) (i5 : Int) : Option CV :=
 hold (Qaw (E0 lb n 0 995) 0 (Qah (sub (B Qai) [1,0,1,0,0]) ++ [5]) [] (sub (B Qai) [1,0,1,0,0]) (Qap 0 (seqK (E0 lb n 0 998) (sub (B Qai) [1,0]) (sub (B Qai) [1,1]) (retK Tryz.prog (R Qai) 0 (outK (Qad Tryz.prog Qai))))) yz ⟨fr 18 [(0,vS a1),(1, .val (.fn QcR)),(4,vB false),(6,vS a1),(7, .val (.int .i64 (a1.length : Int))),(8,vI i5)],[bx 18 []],KK⟩)
noncomputable def Qe8 (lb n : Nat) (a1 : LB) : Option CV :=
 hold (E0 lb n 0 998 (sub (B Qai) [1,1]) (retK Tryz.prog (R Qai) 0 (outK (Qad Tryz.prog Qai))) ⟨fr 18 [(0,vS a1),(1, .val (.fn QcR)),(4,vB false)],[bx 18 []],KK⟩)
theorem QhD (lb n : Nat) (a1 : LB) :
 Qe8 lb n a1 =
 some (.bool true) := (Qab _).trans (by kernel_rfl)
theorem Qd9 (lb n yz : Nat) (a1 : LB) (i5 : Int) :
 Qcz lb n (yz + 1) a1 i5 =
 bif (decide (i5 < (a1.length : Int))) then
 (optO (atS a1 i5) fun vW =>
 optO (C lb n QcR [.int .u8 (vW.toNat : Int)]) fun yL =>
 optO (CV.asB yL) fun yd =>
 bif (!yd) then
 (some (.bool false))
 else
 (Qcz lb n yz a1 (IntKind.wrap .i64 (i5 + 1))))
 else
 (Qe8 lb n a1 ) := (Qab _).trans (by kernel_rfl)
theorem Qje (lb n : Nat) (a1 : LB) :
 top lb n Qai [.str a1, .fn QcR] =
 Qcz lb n n a1 0 := by kernel_rfl
noncomputable def Qcn (lb n yz : Nat) (a1 : LB) (i5 : Int) : Option CV :=
 hold (Qaw (E0 lb n 0 995) 0 (Qah (sub (B Qai) [1,0,1,0,0]) ++ [5]) [] (sub (B Qai) [1,0,1,0,0]) (Qap 0 (seqK (E0 lb n 0 998) (sub (B Qai) [1,0]) (sub (B Qai) [1,1]) (retK Tryz.prog (R Qai) 0 (outK (Qad Tryz.prog Qai))))) yz ⟨fr 18 [(0,vS a1),(1, .val (.fn Qcy)),(4,vB false),(6,vS a1),(7, .val (.int .i64 (a1.length : Int))),(8,vI i5)],[bx 18 []],KK⟩)
noncomputable def QeL (lb n : Nat) (a1 : LB) : Option CV :=
 hold (E0 lb n 0 998 (sub (B Qai) [1,1]) (retK Tryz.prog (R Qai) 0 (outK (Qad Tryz.prog Qai))) ⟨fr 18 [(0,vS a1),(1, .val (.fn Qcy)),(4,vB false)],[bx 18 []],KK⟩)
theorem Qho (lb n : Nat) (a1 : LB) :
 QeL lb n a1 =
 some (.bool true) := (Qab _).trans (by kernel_rfl)
theorem QdY (lb n yz : Nat) (a1 : LB) (i5 : Int) :
 Qcn lb n (yz + 1) a1 i5 =
 bif (decide (i5 < (a1.length : Int))) then
 (optO (atS a1 i5) fun vW =>
 optO (C lb n Qcy [.int .u8 (vW.toNat : Int)]) fun yL =>
 optO (CV.asB yL) fun yd =>
 bif (!yd) then
 (some (.bool false))
 else
 (Qcn lb n yz a1 (IntKind.wrap .i64 (i5 + 1))))
 else
 (QeL lb n a1 ) := (Qab _).trans (by kernel_rfl)
theorem QiF (lb n : Nat) (a1 : LB) :
 top lb n Qai [.str a1, .fn Qcy] =
 Qcn lb n n a1 0 := by kernel_rfl
end Go.Proofs
