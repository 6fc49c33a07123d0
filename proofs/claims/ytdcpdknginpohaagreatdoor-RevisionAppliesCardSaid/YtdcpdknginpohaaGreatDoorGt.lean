/- Equations of functions, printed by program. Conditions: none. -/
import Derived.Test.YtdcpdknginpohaaGreatDoorEv
namespace Go.Proofs
open Go.Am
set_option maxRecDepth 100000
set_option linter.unusedVariables false
noncomputable def period_Normal_L1 :=
 fun lb n (nA : Nat) ju jG jv (l4 : LL) (kM : Nat) nz pn kh kN =>
 hold (QbY (X0 lb n 1 993) 1 (sub (B Qbe) [1, 1, 1, 0, 1, 0, 0]) (sub (B Qbe) [1, 1, 1, 0, 1, 0, 1]) [9] (fr 25 [(0, .val (.agg [.int .i64 ju, .int .i64 jG, .int .i64 jv])), (1, .ptr 0 1 0), (2, .ptr 0 2 0), (3, vB false), (4, .ptr 0 4 0), (5, .ptr 0 5 0), (7, .val (.agg [.int .i64 ju, .int .i64 jG, .int .i64 jv]))]) KK l4 (QcQ (Qak 0 (seqK (E0 lb n 0 996) (sub (B Qbe) [1, 1, 1, 0]) (sub (B Qbe) [1, 1, 1, 1]) (retK Tryz.prog (R Qbe) 0 (outK (Qaf Tryz.prog Qbe))))) (fr 25 [(0, .val (.agg [.int .i64 ju, .int .i64 jG, .int .i64 jv])), (1, .ptr 0 1 0), (2, .ptr 0 2 0), (3, vB false), (4, .ptr 0 4 0), (5, .ptr 0 5 0), (7, .val (.agg [.int .i64 ju, .int .i64 jG, .int .i64 jv]))]) KK) nA kM [bx 26 [(1, some [vI ju, vI jG, vI jv]), (2, some [vI 0, vI 0, vI 0]), (4, some [.val nz, .val pn, vI kh]), (5, some [vB kN])]])
noncomputable def Qji (lb n : Nat) (ju jG jv : Int) (pW pR : CV) (vd : Int) (ov : Bool) : Option CV :=
 hold (E0 lb n 0 996 (sub (B Qbe) [1, 1, 1, 1]) (retK Tryz.prog (R Qbe) 0 (outK (Qaf Tryz.prog Qbe))) ⟨fr 25 [(0, .val (.agg [.int .i64 ju, .int .i64 jG, .int .i64 jv])), (1, .ptr 0 1 0), (2, .ptr 0 2 0), (3, vB false), (4, .ptr 0 4 0), (5, .ptr 0 5 0)], [bx 26 [(1, some [vI ju, vI jG, vI jv]), (2, some [vI 0, vI 0, vI 0]), (4, some [.val pW, .val pR, vI vd]), (5, some [vB ov])]], KK⟩)
theorem Qmm (lb n : Nat) (ju jG jv : Int) (pW pR : CV) (vd : Int) (ov : Bool) :
 Qji lb n ju jG jv pW pR vd ov =
 some (.tup [.agg [pW, pR, .int .i64 vd], .bool ov]) := (Qac _).trans (by kernel_rfl)
theorem QgD (lb n nA : Nat) (ju jG jv : Int) (l4 : LL) (kM : Nat) (nz pn : CV) (kh : Int) (kN : Bool) :
 period_Normal_L1 lb n (nA + 1) ju jG jv l4 kM nz pn kh kN =
 bif (decide (kM < l4.length)) then
 (optO (l4[kM]?) fun x23 =>
 optO (x23.head?) fun c24 =>
 bif (!kN) then
 (chkO (CV.isCell c24) (
 chkO (CV.isCell c24) (
 optO (C lb n Qd6 [c24]) fun gE =>
 optO (CV.asI .i64 gE) fun kU =>
 chkO (decide (0 ≤ kU)) (
 period_Normal_L1 lb n nA ju jG jv l4 (kM + 1) c24 c24 (IntKind.wrap .i64 ((BitVec.ofInt 64 kh ||| BitVec.ofInt 64 (IntKind.wrap .i64 (1 * 2 ^ (min (kU).toNat 64)))).toNat)) true))))
 else
 (chkO (CV.isCell c24) (
 optO (C lb n Qd6 [c24]) fun yV =>
 optO (CV.asI .i64 yV) fun nE =>
 chkO (decide (0 ≤ nE)) (
 period_Normal_L1 lb n nA ju jG jv l4 (kM + 1) nz c24 (IntKind.wrap .i64 ((BitVec.ofInt 64 kh ||| BitVec.ofInt 64 (IntKind.wrap .i64 (1 * 2 ^ (min (nE).toNat 64)))).toNat)) true))))
 else
 (Qji lb n ju jG jv nz pn kh kN) := (Qac _).trans (by kernel_rfl)
theorem Qo7 (lb n : Nat) (ju jG jv : Int) :
 top lb n Qbe [.agg [.int .i64 ju, .int .i64 jG, .int .i64 jv]] =
 optO (itEach [[.int .i64 ju, .int .i64 jG, .int .i64 jv]]) fun l4 =>
 chkO (l4.all fun x => x.length == 1) (
 period_Normal_L1 lb n n ju jG jv l4 0 (.int .i64 0) (.int .i64 0) 0 false) := by kernel_rfl
theorem Qpn (lb n : Nat) (ju jG jv b4 c5 d6 : Int) :
 top lb n Qbp [.agg [.int .i64 ju, .int .i64 jG, .int .i64 jv], .int .i64 b4, .int .i64 c5, .int .i64 d6] =
 optO (C lb n Qbe [.agg [.int .i64 (if b4 > ju then b4 else ju), .int .i64 (if c5 < jG then c5 else jG), .int .i64 (IntKind.wrap .i64 ((BitVec.ofInt 64 jv &&& BitVec.ofInt 64 d6).toNat))]]) fun r7 =>
 optO (CV.asT r7) fun t9 =>
 optO (t9[0]?) fun we =>
 optO (CV.asT r7) fun ru =>
 optO (ru[1]?) fun wH =>
 optO (CV.asA we) fun c13 =>
 chkO (c13.length == 3) (
 optO (c13[0]?) fun yM =>
 optO (c13[1]?) fun ym =>
 optO (c13[2]?) fun gN =>
 some (.tup [.agg [yM, ym, gN], wH])) := by kernel_rfl
theorem QrG (lb n : Nat) (ju jG jv wo wD wx : Int) :
 top lb n Qgi [.agg [.int .i64 ju, .int .i64 jG, .int .i64 jv], .agg [.int .i64 wo, .int .i64 wD, .int .i64 wx]] =
 optO (C lb n Qbz [.agg [.int .i64 ju, .int .i64 jG, .int .i64 jv]]) fun r7 =>
 optO (CV.asI .i64 r7) fun i9 =>
 bif (i9 != 0) then
 (some (.tup [.agg [.int .i64 0, .int .i64 0, .int .i64 0], .bool false]))
 else
 (optO (C lb n Qbz [.agg [.int .i64 wo, .int .i64 wD, .int .i64 wx]]) fun gS =>
 optO (CV.asI .i64 gS) fun vo =>
 bif (vo != 0) then
 (some (.tup [.agg [.int .i64 0, .int .i64 0, .int .i64 0], .bool false]))
 else
 (optO (C lb n Qbp [.agg [.int .i64 ju, .int .i64 jG, .int .i64 jv], .int .i64 wo, .int .i64 wD, .int .i64 wx]) fun yN =>
 optO (CV.asT yN) fun nV =>
 optO (nV[0]?) fun yM =>
 optO (CV.asT yN) fun nF =>
 optO (nF[1]?) fun gN =>
 optO (CV.asA yM) fun c18 =>
 chkO (c18.length == 3) (
 optO (c18[0]?) fun yk =>
 optO (c18[1]?) fun wV =>
 optO (c18[2]?) fun yq =>
 some (.tup [.agg [yk, wV, yq], gN])))) := by kernel_rfl
noncomputable def Qh9 (lb n ot : Nat) (wb : Bool) (a2 : LL) (c3 : List CV) (x4 : CV) (c5 : List CV) (x6 : CV) (vr i20 : Int) : Option CV :=
 hold (Qas (E0 lb n 0 993) 0 (Qad (sub (B Qc7) [1, 1, 1, 0, 1, 0, 0]) ++ []) [] (sub (B Qc7) [1, 1, 1, 0, 1, 0, 0]) (Qak 0 (seqK (E0 lb n 0 996) (sub (B Qc7) [1, 1, 1, 0]) (sub (B Qc7) [1, 1, 1, 1]) (retK Tryz.prog (R Qc7) 0 (outK (Qaf Tryz.prog Qc7))))) ot ⟨fr 46 [(0, .val (.list wb a2)), (2, .ptr 0 2 0), (3, vB false), (4, .ptr 0 4 0), (5, vI vr), (10, .val (.list wb a2)), (11, .cptr c3 0), (12, vV x4), (13, .val (.list wb a2)), (14, .val (.list wb a2)), (15, .val (.int .i64 (a2.length : Int))), (16, .val (.int .i64 (IntKind.wrap .i64 ((a2.length : Int) - 1)))), (17, .cptr c5 0), (18, vV x6), (19, .val (.agg [x4, x6, .int .i64 0]))], [bx 46 [(2, some [vI 0, vI 0, vI 0]), (4, some [.val x4, .val x6, vI i20])]], KK⟩)
noncomputable def Qsg (lb n : Nat) (wb : Bool) (a2 : LL) (c3 : List CV) (x4 : CV) (c5 : List CV) (x6 : CV) (oa pq : Int) : Option CV :=
 hold (E0 lb n 0 996 (sub (B Qc7) [1, 1, 1, 1]) (retK Tryz.prog (R Qc7) 0 (outK (Qaf Tryz.prog Qc7))) ⟨fr 46 [(0, .val (.list wb a2)), (2, .ptr 0 2 0), (3, vB false), (4, .ptr 0 4 0), (5, vI oa), (10, .val (.list wb a2)), (11, .cptr c3 0), (12, vV x4), (13, .val (.list wb a2)), (14, .val (.list wb a2)), (15, .val (.int .i64 (a2.length : Int))), (16, .val (.int .i64 (IntKind.wrap .i64 ((a2.length : Int) - 1)))), (17, .cptr c5 0), (18, vV x6), (19, .val (.agg [x4, x6, .int .i64 0]))], [bx 46 [(2, some [vI 0, vI 0, vI 0]), (4, some [.val x4, .val x6, vI pq])]], KK⟩)
theorem Qut (lb n : Nat) (wb : Bool) (a2 : LL) (c3 : List CV) (x4 : CV) (c5 : List CV) (x6 : CV) (oa pq : Int) :
 Qsg lb n wb a2 c3 x4 c5 x6 oa pq =
 some (.tup [.agg [x4, x6, .int .i64 pq], .bool true]) := (Qac _).trans (by kernel_rfl)
theorem Qk7 (lb n ot : Nat) (wb : Bool) (a2 : LL) (c3 : List CV) (x4 : CV) (c5 : List CV) (x6 : CV) (vr i20 : Int) :
 Qh9 lb n (ot + 1) wb a2 c3 x4 c5 x6 vr i20 =
 bif (decide (vr < (a2.length : Int))) then
 (optO (atL a2 vr) fun c30 =>
 chkO (c30.length == 1) (
 optO (c30[0]?) fun wN =>
 optO (C lb n Qcu [wN]) fun rk =>
 optO (CV.asI .i64 rk) fun vA =>
 chkO (vA != 0) (
 bif ((Int.tmod (IntKind.wrap .i64 (Int.tdiv i20 vA)) 2) == 0) then
 (optO (atL a2 vr) fun c35 =>
 chkO (c35.length == 1) (
 optO (c35[0]?) fun yL =>
 optO (C lb n Qcu [yL]) fun nS =>
 optO (CV.asI .i64 nS) fun kc =>
 Qh9 lb n ot wb a2 c3 x4 c5 x6 (IntKind.wrap .i64 (vr + 1)) (IntKind.wrap .i64 (i20 + kc))))
 else
 (Qh9 lb n ot wb a2 c3 x4 c5 x6 (IntKind.wrap .i64 (vr + 1)) i20))))
 else
 (Qsg lb n wb a2 c3 x4 c5 x6 vr i20) := (Qac _).trans (by kernel_rfl)
theorem QwV (lb n : Nat) (wb : Bool) (a2 : LL) :
 top lb n Qc7 [.list wb a2] =
 bif ((a2.length : Int) == 0) then
 (some (.tup [.agg [.int .i64 0, .int .i64 0, .int .i64 0], .bool false]))
 else
 (optO (atL a2 0) fun c3 =>
 chkO (c3.length == 1) (
 optO (c3[0]?) fun x4 =>
 optO (atL a2 (IntKind.wrap .i64 ((a2.length : Int) - 1))) fun c5 =>
 chkO (c5.length == 1) (
 optO (c5[0]?) fun x6 =>
 chkO (CV.isCell x4) (
 chkO (CV.isCell x6) (
 Qh9 lb n n wb a2 c3 x4 c5 x6 0 0))))) := by kernel_rfl
noncomputable def Qf9 (lb n k4 : Nat) (ju jG jv wo wD wx : Int) (r7 : CV) (gL : Bool) (l23 : LL) (ve : Int) : Option CV :=
 hold (Qas (E0 lb n 0 993) 0 (Qad (sub (B Qb2) [1, 1, 1, 0, 1, 0, 0]) ++ []) [] (sub (B Qb2) [1, 1, 1, 0, 1, 0, 0]) (Qak 0 (seqK (E0 lb n 0 996) (sub (B Qb2) [1, 1, 1, 0]) (sub (B Qb2) [1, 1, 1, 1]) (retK Tryz.prog (R Qb2) 0 (outK (Qaf Tryz.prog Qb2))))) k4 ⟨fr 34 [(0, .val (.agg [.int .i64 ju, .int .i64 jG, .int .i64 jv])), (1, .val (.agg [.int .i64 wo, .int .i64 wD, .int .i64 wx])), (2, .ptr 0 2 0), (3, .ptr 0 3 0), (4, .ptr 0 4 0), (5, vB false), (6, vV r7), (7, .lst true gL 3 l23), (8, vI ve), (9, .val (.agg [.int .i64 ju, .int .i64 jG, .int .i64 jv])), (10, vV r7)], [bx 34 [(2, some [vI ju, vI jG, vI jv]), (3, some [vI wo, vI wD, vI wx]), (4, some [vI 0, vI 0, vI 0])]], KK⟩)
noncomputable def Qkp (lb n : Nat) (ju jG jv wo wD wx : Int) (r7 : CV) (gB : Bool) (l46 : LL) (qo : Int) : Option CV :=
 hold (E0 lb n 0 996 (sub (B Qb2) [1, 1, 1, 1]) (retK Tryz.prog (R Qb2) 0 (outK (Qaf Tryz.prog Qb2))) ⟨fr 34 [(0, .val (.agg [.int .i64 ju, .int .i64 jG, .int .i64 jv])), (1, .val (.agg [.int .i64 wo, .int .i64 wD, .int .i64 wx])), (2, .ptr 0 2 0), (3, .ptr 0 3 0), (4, .ptr 0 4 0), (5, vB false), (6, vV r7), (7, .lst true gB 3 l46), (8, vI qo), (9, .val (.agg [.int .i64 ju, .int .i64 jG, .int .i64 jv])), (10, vV r7)], [bx 34 [(2, some [vI ju, vI jG, vI jv]), (3, some [vI wo, vI wD, vI wx]), (4, some [vI 0, vI 0, vI 0])]], KK⟩)
theorem Qru (lb n : Nat) (ju jG jv wo wD wx : Int) (r7 : CV) (gB : Bool) (l46 : LL) (qo : Int) :
 Qkp lb n ju jG jv wo wD wx r7 gB l46 qo =
 optO (C lb n Qc7 [.list gB l46]) fun gH =>
 optO (CV.asT gH) fun nI =>
 optO (nI[0]?) fun oZ =>
 optO (CV.asT gH) fun t51 =>
 optO (t51[1]?) fun oU =>
 optO (CV.asA oZ) fun c53 =>
 chkO (c53.length == 3) (
 optO (c53[0]?) fun ke =>
 optO (c53[1]?) fun vc =>
 optO (c53[2]?) fun vu =>
 some (.tup [.agg [ke, vc, vu], oU])) := (Qac _).trans (by kernel_rfl)
theorem Qjo (lb n k4 : Nat) (ju jG jv wo wD wx : Int) (r7 : CV) (gL : Bool) (l23 : LL) (ve : Int) :
 Qf9 lb n (k4 + 1) ju jG jv wo wD wx r7 gL l23 ve =
 optO (CV.asL r7) fun rV =>
 bif (decide (ve < (rV.2.length : Int))) then
 (optO (CV.asL r7) fun ta =>
 optO (atL ta.2 ve) fun c38 =>
 chkO (c38.length == 1) (
 optO (c38[0]?) fun mt =>
 optO (C lb n Qh5 [.agg [.int .i64 wo, .int .i64 wD, .int .i64 wx], mt]) fun nU =>
 optO (CV.asB nU) fun oX =>
 bif oX then
 (optO (CV.asL r7) fun ti =>
 optO (atL ti.2 ve) fun c43 =>
 chkO (c43.length == 1) (
 optO (c43[0]?) fun oG =>
 chkO (CV.isCell oG) (
 chkO (room (l23.length + 1) 8) (
 Qf9 lb n k4 ju jG jv wo wD wx r7 (gL && false) (l23 ++ [[oG]]) (IntKind.wrap .i64 (ve + 1))))))
 else
 (Qf9 lb n k4 ju jG jv wo wD wx r7 gL l23 (IntKind.wrap .i64 (ve + 1)))))
 else
 (Qkp lb n ju jG jv wo wD wx r7 gL l23 ve) := (Qac _).trans (by kernel_rfl)
theorem QuN (lb n : Nat) (ju jG jv wo wD wx : Int) :
 top lb n Qb2 [.agg [.int .i64 ju, .int .i64 jG, .int .i64 jv], .agg [.int .i64 wo, .int .i64 wD, .int .i64 wx]] =
 optO (C lb n Qb3 [.agg [.int .i64 ju, .int .i64 jG, .int .i64 jv]]) fun r7 =>
 Qf9 lb n n ju jG jv wo wD wx r7 true [] 0 := by kernel_rfl
noncomputable def QdD (lb n mc : Nat) (wb : Bool) (a2 : LL) (b3 c4 va vE vb : Int) (gF : Bool) (l33 : LL) (vA : Int) : Option CV :=
 hold (Qas (E0 lb n 0 994) 0 (Qad (sub (B Qb4) [1, 1, 0, 1, 0, 0]) ++ []) [] (sub (B Qb4) [1, 1, 0, 1, 0, 0]) (Qak 0 (seqK (E0 lb n 0 997) (sub (B Qb4) [1, 1, 0]) (sub (B Qb4) [1, 1, 1]) (retK Tryz.prog (R Qb4) 0 (outK (Qaf Tryz.prog Qb4))))) mc ⟨fr 48 [(0, .val (.list wb a2)), (1, vI b3), (2, vI c4), (3, .val (.agg [.int .i64 va, .int .i64 vE, .int .i64 vb])), (7, .ptr 0 7 0), (8, .lst true true 3 []), (9, .lst true gF 3 l33), (10, vI vA)], [bx 48 [(7, some [vI va, vI vE, vI vb])]], KK⟩)
noncomputable def Qo2 (lb n : Nat) (wb : Bool) (a2 : LL) (b3 c4 va vE vb : Int) (mq : Bool) (pU : LL) (gb : Int) : Option CV :=
 hold (E0 lb n 0 997 (sub (B Qb4) [1, 1, 1]) (retK Tryz.prog (R Qb4) 0 (outK (Qaf Tryz.prog Qb4))) ⟨fr 48 [(0, .val (.list wb a2)), (1, vI b3), (2, vI c4), (3, .val (.agg [.int .i64 va, .int .i64 vE, .int .i64 vb])), (7, .ptr 0 7 0), (8, .lst true true 3 []), (9, .lst true mq 3 pU), (10, vI gb)], [bx 48 [(7, some [vI va, vI vE, vI vb])]], KK⟩)
theorem Qq7 (lb n : Nat) (wb : Bool) (a2 : LL) (b3 c4 va vE vb : Int) (mq : Bool) (pU : LL) (gb : Int) :
 Qo2 lb n wb a2 b3 c4 va vE vb mq pU gb =
 some (.list mq pU) := (Qac _).trans (by kernel_rfl)
theorem Qi1 (lb n mc : Nat) (wb : Bool) (a2 : LL) (b3 c4 va vE vb : Int) (gF : Bool) (l33 : LL) (vA : Int) :
 QdD lb n (mc + 1) wb a2 b3 c4 va vE vb gF l33 vA =
 bif (decide (vA < (a2.length : Int))) then
 (optO (atL a2 vA) fun c48 =>
 chkO (c48.length == 1) (
 optO (c48[0]?) fun rL =>
 optO (CV.asI .i64 rL) fun rB =>
 bif (decide (rB ≥ b3)) then
 (optO (atL a2 vA) fun c51 =>
 chkO (c51.length == 1) (
 optO (c51[0]?) fun oU =>
 optO (CV.asI .i64 oU) fun i53 =>
 bif (decide (i53 ≤ c4)) then
 (optO (atL a2 vA) fun c54 =>
 chkO (c54.length == 1) (
 optO (c54[0]?) fun vc =>
 optO (C lb n Qh5 [.agg [.int .i64 va, .int .i64 vE, .int .i64 vb], vc]) fun og =>
 optO (CV.asB og) fun nT =>
 bif (!nT) then
 (optO (atL a2 vA) fun c58 =>
 chkO (c58.length == 1) (
 optO (c58[0]?) fun gD =>
 chkO (CV.isCell gD) (
 chkO (room (l33.length + 1) 8) (
 QdD lb n mc wb a2 b3 c4 va vE vb (gF && false) (l33 ++ [[gD]]) (IntKind.wrap .i64 (vA + 1))))))
 else
 (QdD lb n mc wb a2 b3 c4 va vE vb gF l33 (IntKind.wrap .i64 (vA + 1)))))
 else
 (QdD lb n mc wb a2 b3 c4 va vE vb gF l33 (IntKind.wrap .i64 (vA + 1)))))
 else
 (QdD lb n mc wb a2 b3 c4 va vE vb gF l33 (IntKind.wrap .i64 (vA + 1)))))
 else
 (Qo2 lb n wb a2 b3 c4 va vE vb gF l33 vA) := (Qac _).trans (by kernel_rfl)
theorem QuO (lb n : Nat) (wb : Bool) (a2 : LL) (b3 c4 va vE vb : Int) :
 top lb n Qb4 [.list wb a2, .int .i64 b3, .int .i64 c4, .agg [.int .i64 va, .int .i64 vE, .int .i64 vb]] =
 QdD lb n n wb a2 b3 c4 va vE vb true [] 0 := by kernel_rfl
noncomputable def QhJ (lb n : Nat) (ju jG jv wo wD wx : Int) (r7 : CV) (kf : Bool) (l15 : LL) : Option CV :=
 hold (E0 lb n 0 996 (sub (B Qbi) [1, 1, 1, 1]) (retK Tryz.prog (R Qbi) 0 (outK (Qaf Tryz.prog Qbi))) ⟨fr 58 [(0, .val (.agg [.int .i64 ju, .int .i64 jG, .int .i64 jv])), (1, .val (.agg [.int .i64 wo, .int .i64 wD, .int .i64 wx])), (2, .ptr 0 2 0), (3, .ptr 0 3 0), (4, .lst true true 28 []), (5, vV r7), (6, .lst true kf 39 l15), (11, .val (.agg [.int .i64 ju, .int .i64 jG, .int .i64 jv])), (12, vV r7), (13, vV r7), (14, .val (.list false [[r7]]))], [bx 58 [(2, some [vI ju, vI jG, vI jv]), (3, some [vI wo, vI wD, vI wx])]], KK⟩)
noncomputable def Qew (lb n nK : Nat) (ju jG jv wo wD wx : Int) (r7 : CV) (kf : Bool) (l15 : LL) (ov : Bool) (l34 : LL) (kQ : Int) : Option CV :=
 hold (Qas (E0 lb n 0 991) 0 (Qad (sub (B Qbi) [1, 1, 1, 1, 1, 0, 1, 0, 0]) ++ [10]) [9] (sub (B Qbi) [1, 1, 1, 1, 1, 0, 1, 0, 0]) (Qak 0 (seqK (E0 lb n 0 994) (sub (B Qbi) [1, 1, 1, 1, 1, 0]) (sub (B Qbi) [1, 1, 1, 1, 1, 1]) (retK Tryz.prog (R Qbi) 0 (outK (Qaf Tryz.prog Qbi))))) nK ⟨fr 58 [(0, .val (.agg [.int .i64 ju, .int .i64 jG, .int .i64 jv])), (1, .val (.agg [.int .i64 wo, .int .i64 wD, .int .i64 wx])), (2, .ptr 0 2 0), (3, .ptr 0 3 0), (4, .lst true true 28 []), (5, vV r7), (6, .lst true kf 39 l15), (7, .lst true ov 28 l34), (8, vI kQ), (11, .val (.agg [.int .i64 ju, .int .i64 jG, .int .i64 jv])), (12, vV r7), (13, vV r7), (14, .val (.list false [[r7]]))], [bx 58 [(2, some [vI ju, vI jG, vI jv]), (3, some [vI wo, vI wD, vI wx])]], KK⟩)
noncomputable def QkR (lb n : Nat) (ju jG jv wo wD wx : Int) (r7 : CV) (kf : Bool) (l15 : LL) (pF : Bool) (pM : LL) (kp : Int) : Option CV :=
 hold (E0 lb n 0 994 (sub (B Qbi) [1, 1, 1, 1, 1, 1]) (retK Tryz.prog (R Qbi) 0 (outK (Qaf Tryz.prog Qbi))) ⟨fr 58 [(0, .val (.agg [.int .i64 ju, .int .i64 jG, .int .i64 jv])), (1, .val (.agg [.int .i64 wo, .int .i64 wD, .int .i64 wx])), (2, .ptr 0 2 0), (3, .ptr 0 3 0), (4, .lst true true 28 []), (5, vV r7), (6, .lst true kf 39 l15), (7, .lst true pF 28 pM), (8, vI kp), (11, .val (.agg [.int .i64 ju, .int .i64 jG, .int .i64 jv])), (12, vV r7), (13, vV r7), (14, .val (.list false [[r7]]))], [bx 58 [(2, some [vI ju, vI jG, vI jv]), (3, some [vI wo, vI wD, vI wx])]], KK⟩)
theorem Qn0 (lb n : Nat) (ju jG jv wo wD wx : Int) (r7 : CV) (kf : Bool) (l15 : LL) (pF : Bool) (pM : LL) (kp : Int) :
 QkR lb n ju jG jv wo wD wx r7 kf l15 pF pM kp =
 some (.list pF pM) := (Qac _).trans (by kernel_rfl)
theorem Qhh (lb n nK : Nat) (ju jG jv wo wD wx : Int) (r7 : CV) (kf : Bool) (l15 : LL) (ov : Bool) (l34 : LL) (kQ : Int) :
 Qew lb n (nK + 1) ju jG jv wo wD wx r7 kf l15 ov l34 kQ =
 bif (decide (kQ < (l15.length : Int))) then
 (optO (atL l15 kQ) fun c49 =>
 chkO (c49.length == 1) (
 optO (c49[0]?) fun oZ =>
 optO (C lb n Qc7 [oZ]) fun qE =>
 optO (CV.asT qE) fun rh =>
 optO (rh[0]?) fun qw =>
 optO (CV.asT qE) fun rY =>
 optO (rY[1]?) fun vc =>
 optO (CV.asA qw) fun c56 =>
 chkO (c56.length == 3) (
 optO (c56[0]?) fun ka =>
 optO (c56[1]?) fun kJ =>
 optO (c56[2]?) fun gD =>
 optO (CV.asB vc) fun mq =>
 bif mq then
 (chkO (room (l34.length + 1) 24) (
 Qew lb n nK ju jG jv wo wD wx r7 kf l15 (ov && false) (l34 ++ [[ka, kJ, gD]]) (IntKind.wrap .i64 (kQ + 1))))
 else
 (Qew lb n nK ju jG jv wo wD wx r7 kf l15 ov l34 (IntKind.wrap .i64 (kQ + 1))))))
 else
 (QkR lb n ju jG jv wo wD wx r7 kf l15 ov l34 kQ) := (Qac _).trans (by kernel_rfl)
theorem Qiy (lb n : Nat) (ju jG jv wo wD wx : Int) (r7 : CV) (kf : Bool) (l15 : LL) :
 QhJ lb n ju jG jv wo wD wx r7 kf l15 =
 Qew lb n n ju jG jv wo wD wx r7 kf l15 true [] 0 := (Qac _).trans (by kernel_rfl)
theorem Qre (lb n : Nat) (ju jG jv wo wD wx : Int) :
 top lb n Qbi [.agg [.int .i64 ju, .int .i64 jG, .int .i64 jv], .agg [.int .i64 wo, .int .i64 wD, .int .i64 wx]] =
 optO (C lb n Qb3 [.agg [.int .i64 ju, .int .i64 jG, .int .i64 jv]]) fun r7 =>
 chkO (CV.isCell r7) (
 optO (C lb n Qdb [.agg [.int .i64 wo, .int .i64 wD, .int .i64 wx]]) fun r9 =>
 optO (CV.asI .i64 r9) fun ko =>
 bif (ko == 0) then
 (optO (C lb n Qb4 [r7, .int .i64 0, .int .i64 (IntKind.wrap .i64 (wo - 1)), .agg [.int .i64 wo, .int .i64 wD, .int .i64 wx]]) fun yl =>
 optO (C lb n Qb4 [r7, .int .i64 wo, .int .i64 wD, .agg [.int .i64 wo, .int .i64 wD, .int .i64 wx]]) fun yN =>
 optO (C lb n Qb4 [r7, .int .i64 (IntKind.wrap .i64 (wD + 1)), .int .i64 36525, .agg [.int .i64 wo, .int .i64 wD, .int .i64 wx]]) fun o4 =>
 chkO (CV.isCell yl) (
 chkO (CV.isCell yN) (
 chkO (CV.isCell o4) (
 QhJ lb n ju jG jv wo wD wx r7 false [[yl], [yN], [o4]]))))
 else
 (QhJ lb n ju jG jv wo wD wx r7 false [[r7]])) := by kernel_rfl
noncomputable def Qeh (lb n : Nat) (ju jG jv wo wD wx : Int) (oK : Bool) (l35 : LL) : Option CV :=
 hold (E0 lb n 0 994 (sub (B Qbq) [1, 1, 1, 1, 1, 1]) (retK Tryz.prog (R Qbq) 0 (outK (Qaf Tryz.prog Qbq))) ⟨fr 57 [(0, .val (.agg [.int .i64 ju, .int .i64 jG, .int .i64 jv])), (1, .val (.agg [.int .i64 wo, .int .i64 wD, .int .i64 wx])), (2, .ptr 0 2 0), (3, .ptr 0 3 0), (4, .lst true true 28 []), (5, .ptr 0 5 0), (6, .clo Qd5 [.ptr 0 5 0]), (7, .clo Qd5 [.ptr 0 5 0])], [bx 57 [(2, some [vI ju, vI jG, vI jv]), (3, some [vI wo, vI wD, vI wx]), (5, some [.lst true oK 28 l35])]], KK⟩)
noncomputable def Qdw (lb n : Nat) (ju jG jv wo wD wx : Int) (gP : Bool) (l47 : LL) : Option CV :=
 hold (E0 lb n 0 993 (sub (B Qbq) [1, 1, 1, 1, 1, 1, 1]) (retK Tryz.prog (R Qbq) 0 (outK (Qaf Tryz.prog Qbq))) ⟨fr 57 [(0, .val (.agg [.int .i64 ju, .int .i64 jG, .int .i64 jv])), (1, .val (.agg [.int .i64 wo, .int .i64 wD, .int .i64 wx])), (2, .ptr 0 2 0), (3, .ptr 0 3 0), (4, .lst true true 28 []), (5, .ptr 0 5 0), (6, .clo Qd5 [.ptr 0 5 0]), (7, .clo Qd5 [.ptr 0 5 0])], [bx 57 [(2, some [vI ju, vI jG, vI jv]), (3, some [vI wo, vI wD, vI wx]), (5, some [.lst true gP 28 l47])]], KK⟩)
theorem QlP (lb n : Nat) (ju jG jv wo wD wx : Int) (gP : Bool) (l47 : LL) :
 Qdw lb n ju jG jv wo wD wx gP l47 =
 optO (C lb n Qbp [.agg [.int .i64 ju, .int .i64 jG, .int .i64 jv], .int .i64 (IntKind.wrap .i64 (wD + 1)), .int .i64 jG, .int .i64 127]) fun gH =>
 optO (CV.asT gH) fun nI =>
 optO (nI[0]?) fun oZ =>
 optO (CV.asT gH) fun t51 =>
 optO (t51[1]?) fun oU =>
 optO (CV.asA oZ) fun c53 =>
 chkO (c53.length == 3) (
 optO (c53[0]?) fun ke =>
 optO (c53[1]?) fun vc =>
 optO (c53[2]?) fun vu =>
 optO (CV.asB oU) fun nT =>
 bif nT then
 (chkO (room (l47.length + 1) 24) (
 some (.list (gP && false) (l47 ++ [[ke, vc, vu]]))))
 else
 (some (.list gP l47))) := (Qac _).trans (by kernel_rfl)
theorem Qlq (lb n : Nat) (ju jG jv wo wD wx : Int) (oK : Bool) (l35 : LL) :
 Qeh lb n ju jG jv wo wD wx oK l35 =
 optO (C lb n Qbp [.agg [.int .i64 ju, .int .i64 jG, .int .i64 jv], .int .i64 wo, .int .i64 wD, .int .i64 (IntKind.wrap .i64 ((BitVec.ofInt 64 127 &&& ~~~BitVec.ofInt 64 wx).toNat))]) fun mo =>
 optO (CV.asT mo) fun t37 =>
 optO (t37[0]?) fun yR =>
 optO (CV.asT mo) fun p8 =>
 optO (p8[1]?) fun oY =>
 optO (CV.asA yR) fun c41 =>
 chkO (c41.length == 3) (
 optO (c41[0]?) fun gR =>
 optO (c41[1]?) fun oM =>
 optO (c41[2]?) fun oG =>
 optO (CV.asB oY) fun gB =>
 bif gB then
 (chkO (room (l35.length + 1) 24) (
 Qdw lb n ju jG jv wo wD wx (oK && false) (l35 ++ [[gR, oM, oG]])))
 else
 (Qdw lb n ju jG jv wo wD wx oK l35)) := (Qac _).trans (by kernel_rfl)
theorem QfX (lb n : Nat) (ju jG jv wo wD wx : Int) :
 top lb n Qbq [.agg [.int .i64 ju, .int .i64 jG, .int .i64 jv], .agg [.int .i64 wo, .int .i64 wD, .int .i64 wx]] =
 optO (C lb n Qbz [.agg [.int .i64 ju, .int .i64 jG, .int .i64 jv]]) fun r7 =>
 optO (CV.asI .i64 r7) fun i9 =>
 bif (i9 != 0) then
 (some (.list true []))
 else
 (optO (C lb n Qbz [.agg [.int .i64 wo, .int .i64 wD, .int .i64 wx]]) fun gS =>
 optO (CV.asI .i64 gS) fun vo =>
 bif (vo != 0) then
 (optO (C lb n Qbe [.agg [.int .i64 ju, .int .i64 jG, .int .i64 jv]]) fun yN =>
 optO (CV.asT yN) fun nV =>
 optO (nV[0]?) fun yM =>
 optO (CV.asT yN) fun nF =>
 optO (nF[1]?) fun gN =>
 optO (CV.asA yM) fun c18 =>
 chkO (c18.length == 3) (
 optO (c18[0]?) fun yk =>
 optO (c18[1]?) fun wV =>
 optO (c18[2]?) fun yq =>
 optO (CV.asB gN) fun gL =>
 bif gL then
 (some (.list false [[yk, wV, yq]]))
 else
 (some (.list true []))))
 else
 (optO (C lb n Qbp [.agg [.int .i64 ju, .int .i64 jG, .int .i64 jv], .int .i64 ju, .int .i64 (IntKind.wrap .i64 (wo - 1)), .int .i64 127]) fun yh =>
 optO (CV.asT yh) fun nL =>
 optO (nL[0]?) fun wn =>
 optO (CV.asT yh) fun nB =>
 optO (nB[1]?) fun wA =>
 optO (CV.asA wn) fun c28 =>
 chkO (c28.length == 3) (
 optO (c28[0]?) fun wz =>
 optO (c28[1]?) fun yn =>
 optO (c28[2]?) fun wN =>
 optO (CV.asB wA) fun ov =>
 bif ov then
 (Qeh lb n ju jG jv wo wD wx false [[wz, yn, wN]])
 else
 (Qeh lb n ju jG jv wo wD wx true [])))) := by kernel_rfl
end Go.Proofs
