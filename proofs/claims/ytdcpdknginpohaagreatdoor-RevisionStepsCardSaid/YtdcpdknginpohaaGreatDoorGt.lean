/- Equations of functions, printed by program. Conditions: none. -/
import Derived.Test.YtdcpdknginpohaaGreatDoorEv
namespace Go.Proofs
open Go.Am
set_option maxRecDepth 100000
set_option linter.unusedVariables false
noncomputable def period_Normal_L1 :=
 fun lb n (nW : Nat) ju jG jv (l4 : LL) (kN : Nat) n8 qg kh kU =>
 hold (Qb0 (X0 lb n 1 993) 1 (sub (B Qbf) [1, 1, 1, 0, 1, 0, 0]) (sub (B Qbf) [1, 1, 1, 0, 1, 0, 1]) [9] (fr 25 [(0, .val (.agg [.int .i64 ju, .int .i64 jG, .int .i64 jv])), (1, .ptr 0 1 0), (2, .ptr 0 2 0), (3, vB false), (4, .ptr 0 4 0), (5, .ptr 0 5 0), (7, .val (.agg [.int .i64 ju, .int .i64 jG, .int .i64 jv]))]) KK l4 (QcP (Qaj 0 (seqK (E0 lb n 0 996) (sub (B Qbf) [1, 1, 1, 0]) (sub (B Qbf) [1, 1, 1, 1]) (retK Tryz.prog (R Qbf) 0 (outK (Qaf Tryz.prog Qbf))))) (fr 25 [(0, .val (.agg [.int .i64 ju, .int .i64 jG, .int .i64 jv])), (1, .ptr 0 1 0), (2, .ptr 0 2 0), (3, vB false), (4, .ptr 0 4 0), (5, .ptr 0 5 0), (7, .val (.agg [.int .i64 ju, .int .i64 jG, .int .i64 jv]))]) KK) nW kN [bx 26 [(1, some [vI ju, vI jG, vI jv]), (2, some [vI 0, vI 0, vI 0]), (4, some [.val n8, .val qg, vI kh]), (5, some [vB kU])]])
noncomputable def QjF (lb n : Nat) (ju jG jv : Int) (pW pT : CV) (vg : Int) (oA : Bool) : Option CV :=
 hold (E0 lb n 0 996 (sub (B Qbf) [1, 1, 1, 1]) (retK Tryz.prog (R Qbf) 0 (outK (Qaf Tryz.prog Qbf))) ⟨fr 25 [(0, .val (.agg [.int .i64 ju, .int .i64 jG, .int .i64 jv])), (1, .ptr 0 1 0), (2, .ptr 0 2 0), (3, vB false), (4, .ptr 0 4 0), (5, .ptr 0 5 0)], [bx 26 [(1, some [vI ju, vI jG, vI jv]), (2, some [vI 0, vI 0, vI 0]), (4, some [.val pW, .val pT, vI vg]), (5, some [vB oA])]], KK⟩)
theorem Qmu (lb n : Nat) (ju jG jv : Int) (pW pT : CV) (vg : Int) (oA : Bool) :
 QjF lb n ju jG jv pW pT vg oA =
 some (.tup [.agg [pW, pT, .int .i64 vg], .bool oA]) := (Qac _).trans (by kernel_rfl)
theorem QgI (lb n nW : Nat) (ju jG jv : Int) (l4 : LL) (kN : Nat) (n8 qg : CV) (kh : Int) (kU : Bool) :
 period_Normal_L1 lb n (nW + 1) ju jG jv l4 kN n8 qg kh kU =
 bif (decide (kN < l4.length)) then
 (optO (l4[kN]?) fun x23 =>
 optO (x23.head?) fun c24 =>
 bif (!kU) then
 (chkO (CV.isCell c24) (
 chkO (CV.isCell c24) (
 optO (C lb n Qed [c24]) fun n4 =>
 optO (CV.asI .i64 n4) fun kX =>
 chkO (decide (0 ≤ kX)) (
 period_Normal_L1 lb n nW ju jG jv l4 (kN + 1) c24 c24 (IntKind.wrap .i64 ((BitVec.ofInt 64 kh ||| BitVec.ofInt 64 (IntKind.wrap .i64 (1 * 2 ^ (min (kX).toNat 64)))).toNat)) true))))
 else
 (chkO (CV.isCell c24) (
 optO (C lb n Qed [c24]) fun yW =>
 optO (CV.asI .i64 yW) fun vf =>
 chkO (decide (0 ≤ vf)) (
 period_Normal_L1 lb n nW ju jG jv l4 (kN + 1) n8 c24 (IntKind.wrap .i64 ((BitVec.ofInt 64 kh ||| BitVec.ofInt 64 (IntKind.wrap .i64 (1 * 2 ^ (min (vf).toNat 64)))).toNat)) true))))
 else
 (QjF lb n ju jG jv n8 qg kh kU) := (Qac _).trans (by kernel_rfl)
theorem QpD (lb n : Nat) (ju jG jv : Int) :
 top lb n Qbf [.agg [.int .i64 ju, .int .i64 jG, .int .i64 jv]] =
 optO (itEach [[.int .i64 ju, .int .i64 jG, .int .i64 jv]]) fun l4 =>
 chkO (l4.all fun x => x.length == 1) (
 period_Normal_L1 lb n n ju jG jv l4 0 (.int .i64 0) (.int .i64 0) 0 false) := by kernel_rfl
theorem Qpz (lb n : Nat) (ju jG jv b4 c5 d6 : Int) :
 top lb n Qbq [.agg [.int .i64 ju, .int .i64 jG, .int .i64 jv], .int .i64 b4, .int .i64 c5, .int .i64 d6] =
 optO (C lb n Qbf [.agg [.int .i64 (if b4 > ju then b4 else ju), .int .i64 (if c5 < jG then c5 else jG), .int .i64 (IntKind.wrap .i64 ((BitVec.ofInt 64 jv &&& BitVec.ofInt 64 d6).toNat))]]) fun r7 =>
 optO (CV.asT r7) fun t9 =>
 optO (t9[0]?) fun we =>
 optO (CV.asT r7) fun rY =>
 optO (rY[1]?) fun wH =>
 optO (CV.asA we) fun c13 =>
 chkO (c13.length == 3) (
 optO (c13[0]?) fun yO =>
 optO (c13[1]?) fun ym =>
 optO (c13[2]?) fun gY =>
 some (.tup [.agg [yO, ym, gY], wH])) := by kernel_rfl
theorem Qrq (lb n : Nat) (ju jG jv wo wD wx : Int) :
 top lb n Qgr [.agg [.int .i64 ju, .int .i64 jG, .int .i64 jv], .agg [.int .i64 wo, .int .i64 wD, .int .i64 wx]] =
 optO (C lb n QbA [.agg [.int .i64 ju, .int .i64 jG, .int .i64 jv]]) fun r7 =>
 optO (CV.asI .i64 r7) fun i9 =>
 bif (i9 != 0) then
 (some (.tup [.agg [.int .i64 0, .int .i64 0, .int .i64 0], .bool false]))
 else
 (optO (C lb n QbA [.agg [.int .i64 wo, .int .i64 wD, .int .i64 wx]]) fun gj =>
 optO (CV.asI .i64 gj) fun vt =>
 bif (vt != 0) then
 (some (.tup [.agg [.int .i64 0, .int .i64 0, .int .i64 0], .bool false]))
 else
 (optO (C lb n Qbq [.agg [.int .i64 ju, .int .i64 jG, .int .i64 jv], .int .i64 wo, .int .i64 wD, .int .i64 wx]) fun yJ =>
 optO (CV.asT yJ) fun nU =>
 optO (nU[0]?) fun yO =>
 optO (CV.asT yJ) fun nT =>
 optO (nT[1]?) fun gY =>
 optO (CV.asA yO) fun c18 =>
 chkO (c18.length == 3) (
 optO (c18[0]?) fun yl =>
 optO (c18[1]?) fun wV =>
 optO (c18[2]?) fun yq =>
 some (.tup [.agg [yl, wV, yq], gY])))) := by kernel_rfl
noncomputable def Qig (lb n ou : Nat) (wb : Bool) (a2 : LL) (c3 : List CV) (x4 : CV) (c5 : List CV) (x6 : CV) (vA i20 : Int) : Option CV :=
 hold (Qar (E0 lb n 0 993) 0 (Qad (sub (B Qdc) [1, 1, 1, 0, 1, 0, 0]) ++ []) [] (sub (B Qdc) [1, 1, 1, 0, 1, 0, 0]) (Qaj 0 (seqK (E0 lb n 0 996) (sub (B Qdc) [1, 1, 1, 0]) (sub (B Qdc) [1, 1, 1, 1]) (retK Tryz.prog (R Qdc) 0 (outK (Qaf Tryz.prog Qdc))))) ou ⟨fr 46 [(0, .val (.list wb a2)), (2, .ptr 0 2 0), (3, vB false), (4, .ptr 0 4 0), (5, vI vA), (10, .val (.list wb a2)), (11, .cptr c3 0), (12, vV x4), (13, .val (.list wb a2)), (14, .val (.list wb a2)), (15, .val (.int .i64 (a2.length : Int))), (16, .val (.int .i64 (IntKind.wrap .i64 ((a2.length : Int) - 1)))), (17, .cptr c5 0), (18, vV x6), (19, .val (.agg [x4, x6, .int .i64 0]))], [bx 46 [(2, some [vI 0, vI 0, vI 0]), (4, some [.val x4, .val x6, vI i20])]], KK⟩)
noncomputable def Qss (lb n : Nat) (wb : Bool) (a2 : LL) (c3 : List CV) (x4 : CV) (c5 : List CV) (x6 : CV) (oC pV : Int) : Option CV :=
 hold (E0 lb n 0 996 (sub (B Qdc) [1, 1, 1, 1]) (retK Tryz.prog (R Qdc) 0 (outK (Qaf Tryz.prog Qdc))) ⟨fr 46 [(0, .val (.list wb a2)), (2, .ptr 0 2 0), (3, vB false), (4, .ptr 0 4 0), (5, vI oC), (10, .val (.list wb a2)), (11, .cptr c3 0), (12, vV x4), (13, .val (.list wb a2)), (14, .val (.list wb a2)), (15, .val (.int .i64 (a2.length : Int))), (16, .val (.int .i64 (IntKind.wrap .i64 ((a2.length : Int) - 1)))), (17, .cptr c5 0), (18, vV x6), (19, .val (.agg [x4, x6, .int .i64 0]))], [bx 46 [(2, some [vI 0, vI 0, vI 0]), (4, some [.val x4, .val x6, vI pV])]], KK⟩)
theorem Qt7 (lb n : Nat) (wb : Bool) (a2 : LL) (c3 : List CV) (x4 : CV) (c5 : List CV) (x6 : CV) (oC pV : Int) :
 Qss lb n wb a2 c3 x4 c5 x6 oC pV =
 some (.tup [.agg [x4, x6, .int .i64 pV], .bool true]) := (Qac _).trans (by kernel_rfl)
theorem Qll (lb n ou : Nat) (wb : Bool) (a2 : LL) (c3 : List CV) (x4 : CV) (c5 : List CV) (x6 : CV) (vA i20 : Int) :
 Qig lb n (ou + 1) wb a2 c3 x4 c5 x6 vA i20 =
 bif (decide (vA < (a2.length : Int))) then
 (optO (atL a2 vA) fun c30 =>
 chkO (c30.length == 1) (
 optO (c30[0]?) fun wN =>
 optO (C lb n Qcu [wN]) fun re =>
 optO (CV.asI .i64 re) fun vE =>
 chkO (vE != 0) (
 bif ((Int.tmod (IntKind.wrap .i64 (Int.tdiv i20 vE)) 2) == 0) then
 (optO (atL a2 vA) fun c35 =>
 chkO (c35.length == 1) (
 optO (c35[0]?) fun yN =>
 optO (C lb n Qcu [yN]) fun n0 =>
 optO (CV.asI .i64 n0) fun kv =>
 Qig lb n ou wb a2 c3 x4 c5 x6 (IntKind.wrap .i64 (vA + 1)) (IntKind.wrap .i64 (i20 + kv))))
 else
 (Qig lb n ou wb a2 c3 x4 c5 x6 (IntKind.wrap .i64 (vA + 1)) i20))))
 else
 (Qss lb n wb a2 c3 x4 c5 x6 vA i20) := (Qac _).trans (by kernel_rfl)
theorem Qxv (lb n : Nat) (wb : Bool) (a2 : LL) :
 top lb n Qdc [.list wb a2] =
 bif ((a2.length : Int) == 0) then
 (some (.tup [.agg [.int .i64 0, .int .i64 0, .int .i64 0], .bool false]))
 else
 (optO (atL a2 0) fun c3 =>
 chkO (c3.length == 1) (
 optO (c3[0]?) fun x4 =>
 optO (atL a2 (IntKind.wrap .i64 ((a2.length : Int) - 1))) fun c5 =>
 chkO (c5.length == 1) (
 optO (c5[0]?) fun x6 =>
 chkO (CV.isCell x4) (
 chkO (CV.isCell x6) (
 Qig lb n n wb a2 c3 x4 c5 x6 0 0))))) := by kernel_rfl
noncomputable def Qgg (lb n oc : Nat) (ju jG jv wo wD wx : Int) (r7 : CV) (gP : Bool) (l23 : LL) (vh : Int) : Option CV :=
 hold (Qar (E0 lb n 0 993) 0 (Qad (sub (B Qb6) [1, 1, 1, 0, 1, 0, 0]) ++ []) [] (sub (B Qb6) [1, 1, 1, 0, 1, 0, 0]) (Qaj 0 (seqK (E0 lb n 0 996) (sub (B Qb6) [1, 1, 1, 0]) (sub (B Qb6) [1, 1, 1, 1]) (retK Tryz.prog (R Qb6) 0 (outK (Qaf Tryz.prog Qb6))))) oc ⟨fr 34 [(0, .val (.agg [.int .i64 ju, .int .i64 jG, .int .i64 jv])), (1, .val (.agg [.int .i64 wo, .int .i64 wD, .int .i64 wx])), (2, .ptr 0 2 0), (3, .ptr 0 3 0), (4, .ptr 0 4 0), (5, vB false), (6, vV r7), (7, .lst true gP 3 l23), (8, vI vh), (9, .val (.agg [.int .i64 ju, .int .i64 jG, .int .i64 jv])), (10, vV r7)], [bx 34 [(2, some [vI ju, vI jG, vI jv]), (3, some [vI wo, vI wD, vI wx]), (4, some [vI 0, vI 0, vI 0])]], KK⟩)
noncomputable def Qkq (lb n : Nat) (ju jG jv wo wD wx : Int) (r7 : CV) (gN : Bool) (l46 : LL) (qN : Int) : Option CV :=
 hold (E0 lb n 0 996 (sub (B Qb6) [1, 1, 1, 1]) (retK Tryz.prog (R Qb6) 0 (outK (Qaf Tryz.prog Qb6))) ⟨fr 34 [(0, .val (.agg [.int .i64 ju, .int .i64 jG, .int .i64 jv])), (1, .val (.agg [.int .i64 wo, .int .i64 wD, .int .i64 wx])), (2, .ptr 0 2 0), (3, .ptr 0 3 0), (4, .ptr 0 4 0), (5, vB false), (6, vV r7), (7, .lst true gN 3 l46), (8, vI qN), (9, .val (.agg [.int .i64 ju, .int .i64 jG, .int .i64 jv])), (10, vV r7)], [bx 34 [(2, some [vI ju, vI jG, vI jv]), (3, some [vI wo, vI wD, vI wx]), (4, some [vI 0, vI 0, vI 0])]], KK⟩)
theorem QrU (lb n : Nat) (ju jG jv wo wD wx : Int) (r7 : CV) (gN : Bool) (l46 : LL) (qN : Int) :
 Qkq lb n ju jG jv wo wD wx r7 gN l46 qN =
 optO (C lb n Qdc [.list gN l46]) fun gM =>
 optO (CV.asT gM) fun nR =>
 optO (nR[0]?) fun k5 =>
 optO (CV.asT gM) fun t51 =>
 optO (t51[1]?) fun kO =>
 optO (CV.asA k5) fun c53 =>
 chkO (c53.length == 3) (
 optO (c53[0]?) fun vz =>
 optO (c53[1]?) fun yX =>
 optO (c53[2]?) fun ve =>
 some (.tup [.agg [vz, yX, ve], kO])) := (Qac _).trans (by kernel_rfl)
theorem Qjg (lb n oc : Nat) (ju jG jv wo wD wx : Int) (r7 : CV) (gP : Bool) (l23 : LL) (vh : Int) :
 Qgg lb n (oc + 1) ju jG jv wo wD wx r7 gP l23 vh =
 optO (CV.asL r7) fun lK =>
 bif (decide (vh < (lK.2.length : Int))) then
 (optO (CV.asL r7) fun tE =>
 optO (atL tE.2 vh) fun c38 =>
 chkO (c38.length == 1) (
 optO (c38[0]?) fun mE =>
 optO (C lb n Qie [.agg [.int .i64 wo, .int .i64 wD, .int .i64 wx], mE]) fun qK =>
 optO (CV.asB qK) fun o6 =>
 bif o6 then
 (optO (CV.asL r7) fun tp =>
 optO (atL tp.2 vh) fun c43 =>
 chkO (c43.length == 1) (
 optO (c43[0]?) fun oN =>
 chkO (CV.isCell oN) (
 chkO (room (l23.length + 1) 8) (
 Qgg lb n oc ju jG jv wo wD wx r7 (gP && false) (l23 ++ [[oN]]) (IntKind.wrap .i64 (vh + 1))))))
 else
 (Qgg lb n oc ju jG jv wo wD wx r7 gP l23 (IntKind.wrap .i64 (vh + 1)))))
 else
 (Qkq lb n ju jG jv wo wD wx r7 gP l23 vh) := (Qac _).trans (by kernel_rfl)
theorem Qvd (lb n : Nat) (ju jG jv wo wD wx : Int) :
 top lb n Qb6 [.agg [.int .i64 ju, .int .i64 jG, .int .i64 jv], .agg [.int .i64 wo, .int .i64 wD, .int .i64 wx]] =
 optO (C lb n Qb5 [.agg [.int .i64 ju, .int .i64 jG, .int .i64 jv]]) fun r7 =>
 Qgg lb n n ju jG jv wo wD wx r7 true [] 0 := by kernel_rfl
noncomputable def QdL (lb n mg : Nat) (wb : Bool) (a2 : LL) (b3 c4 vc vH vd : Int) (gR : Bool) (l33 : LL) (vE : Int) : Option CV :=
 hold (Qar (E0 lb n 0 994) 0 (Qad (sub (B Qb3) [1, 1, 0, 1, 0, 0]) ++ []) [] (sub (B Qb3) [1, 1, 0, 1, 0, 0]) (Qaj 0 (seqK (E0 lb n 0 997) (sub (B Qb3) [1, 1, 0]) (sub (B Qb3) [1, 1, 1]) (retK Tryz.prog (R Qb3) 0 (outK (Qaf Tryz.prog Qb3))))) mg ⟨fr 48 [(0, .val (.list wb a2)), (1, vI b3), (2, vI c4), (3, .val (.agg [.int .i64 vc, .int .i64 vH, .int .i64 vd])), (7, .ptr 0 7 0), (8, .lst true true 3 []), (9, .lst true gR 3 l33), (10, vI vE)], [bx 48 [(7, some [vI vc, vI vH, vI vd])]], KK⟩)
noncomputable def Qo6 (lb n : Nat) (wb : Bool) (a2 : LL) (b3 c4 vc vH vd : Int) (mF : Bool) (qf : LL) (oq : Int) : Option CV :=
 hold (E0 lb n 0 997 (sub (B Qb3) [1, 1, 1]) (retK Tryz.prog (R Qb3) 0 (outK (Qaf Tryz.prog Qb3))) ⟨fr 48 [(0, .val (.list wb a2)), (1, vI b3), (2, vI c4), (3, .val (.agg [.int .i64 vc, .int .i64 vH, .int .i64 vd])), (7, .ptr 0 7 0), (8, .lst true true 3 []), (9, .lst true mF 3 qf), (10, vI oq)], [bx 48 [(7, some [vI vc, vI vH, vI vd])]], KK⟩)
theorem Qrz (lb n : Nat) (wb : Bool) (a2 : LL) (b3 c4 vc vH vd : Int) (mF : Bool) (qf : LL) (oq : Int) :
 Qo6 lb n wb a2 b3 c4 vc vH vd mF qf oq =
 some (.list mF qf) := (Qac _).trans (by kernel_rfl)
theorem Qja (lb n mg : Nat) (wb : Bool) (a2 : LL) (b3 c4 vc vH vd : Int) (gR : Bool) (l33 : LL) (vE : Int) :
 QdL lb n (mg + 1) wb a2 b3 c4 vc vH vd gR l33 vE =
 bif (decide (vE < (a2.length : Int))) then
 (optO (atL a2 vE) fun c48 =>
 chkO (c48.length == 1) (
 optO (c48[0]?) fun mf =>
 optO (CV.asI .i64 mf) fun rF =>
 bif (decide (rF ≥ b3)) then
 (optO (atL a2 vE) fun c51 =>
 chkO (c51.length == 1) (
 optO (c51[0]?) fun kO =>
 optO (CV.asI .i64 kO) fun i53 =>
 bif (decide (i53 ≤ c4)) then
 (optO (atL a2 vE) fun c54 =>
 chkO (c54.length == 1) (
 optO (c54[0]?) fun yX =>
 optO (C lb n Qie [.agg [.int .i64 vc, .int .i64 vH, .int .i64 vd], yX]) fun kV =>
 optO (CV.asB kV) fun n5 =>
 bif (!n5) then
 (optO (atL a2 vE) fun c58 =>
 chkO (c58.length == 1) (
 optO (c58[0]?) fun oP =>
 chkO (CV.isCell oP) (
 chkO (room (l33.length + 1) 8) (
 QdL lb n mg wb a2 b3 c4 vc vH vd (gR && false) (l33 ++ [[oP]]) (IntKind.wrap .i64 (vE + 1))))))
 else
 (QdL lb n mg wb a2 b3 c4 vc vH vd gR l33 (IntKind.wrap .i64 (vE + 1)))))
 else
 (QdL lb n mg wb a2 b3 c4 vc vH vd gR l33 (IntKind.wrap .i64 (vE + 1)))))
 else
 (QdL lb n mg wb a2 b3 c4 vc vH vd gR l33 (IntKind.wrap .i64 (vE + 1)))))
 else
 (Qo6 lb n wb a2 b3 c4 vc vH vd gR l33 vE) := (Qac _).trans (by kernel_rfl)
theorem Qvx (lb n : Nat) (wb : Bool) (a2 : LL) (b3 c4 vc vH vd : Int) :
 top lb n Qb3 [.list wb a2, .int .i64 b3, .int .i64 c4, .agg [.int .i64 vc, .int .i64 vH, .int .i64 vd]] =
 QdL lb n n wb a2 b3 c4 vc vH vd true [] 0 := by kernel_rfl
noncomputable def QhQ (lb n : Nat) (ju jG jv wo wD wx : Int) (r7 : CV) (kg : Bool) (l15 : LL) : Option CV :=
 hold (E0 lb n 0 996 (sub (B Qbj) [1, 1, 1, 1]) (retK Tryz.prog (R Qbj) 0 (outK (Qaf Tryz.prog Qbj))) ⟨fr 58 [(0, .val (.agg [.int .i64 ju, .int .i64 jG, .int .i64 jv])), (1, .val (.agg [.int .i64 wo, .int .i64 wD, .int .i64 wx])), (2, .ptr 0 2 0), (3, .ptr 0 3 0), (4, .lst true true 28 []), (5, vV r7), (6, .lst true kg 39 l15), (11, .val (.agg [.int .i64 ju, .int .i64 jG, .int .i64 jv])), (12, vV r7), (13, vV r7), (14, .val (.list false [[r7]]))], [bx 58 [(2, some [vI ju, vI jG, vI jv]), (3, some [vI wo, vI wD, vI wx])]], KK⟩)
noncomputable def QeA (lb n nV : Nat) (ju jG jv wo wD wx : Int) (r7 : CV) (kg : Bool) (l15 : LL) (oA : Bool) (l34 : LL) (kR : Int) : Option CV :=
 hold (Qar (E0 lb n 0 991) 0 (Qad (sub (B Qbj) [1, 1, 1, 1, 1, 0, 1, 0, 0]) ++ [10]) [9] (sub (B Qbj) [1, 1, 1, 1, 1, 0, 1, 0, 0]) (Qaj 0 (seqK (E0 lb n 0 994) (sub (B Qbj) [1, 1, 1, 1, 1, 0]) (sub (B Qbj) [1, 1, 1, 1, 1, 1]) (retK Tryz.prog (R Qbj) 0 (outK (Qaf Tryz.prog Qbj))))) nV ⟨fr 58 [(0, .val (.agg [.int .i64 ju, .int .i64 jG, .int .i64 jv])), (1, .val (.agg [.int .i64 wo, .int .i64 wD, .int .i64 wx])), (2, .ptr 0 2 0), (3, .ptr 0 3 0), (4, .lst true true 28 []), (5, vV r7), (6, .lst true kg 39 l15), (7, .lst true oA 28 l34), (8, vI kR), (11, .val (.agg [.int .i64 ju, .int .i64 jG, .int .i64 jv])), (12, vV r7), (13, vV r7), (14, .val (.list false [[r7]]))], [bx 58 [(2, some [vI ju, vI jG, vI jv]), (3, some [vI wo, vI wD, vI wx])]], KK⟩)
noncomputable def Qk3 (lb n : Nat) (ju jG jv wo wD wx : Int) (r7 : CV) (kg : Bool) (l15 : LL) (pK : Bool) (pE : LL) (ku : Int) : Option CV :=
 hold (E0 lb n 0 994 (sub (B Qbj) [1, 1, 1, 1, 1, 1]) (retK Tryz.prog (R Qbj) 0 (outK (Qaf Tryz.prog Qbj))) ⟨fr 58 [(0, .val (.agg [.int .i64 ju, .int .i64 jG, .int .i64 jv])), (1, .val (.agg [.int .i64 wo, .int .i64 wD, .int .i64 wx])), (2, .ptr 0 2 0), (3, .ptr 0 3 0), (4, .lst true true 28 []), (5, vV r7), (6, .lst true kg 39 l15), (7, .lst true pK 28 pE), (8, vI ku), (11, .val (.agg [.int .i64 ju, .int .i64 jG, .int .i64 jv])), (12, vV r7), (13, vV r7), (14, .val (.list false [[r7]]))], [bx 58 [(2, some [vI ju, vI jG, vI jv]), (3, some [vI wo, vI wD, vI wx])]], KK⟩)
theorem Qoe (lb n : Nat) (ju jG jv wo wD wx : Int) (r7 : CV) (kg : Bool) (l15 : LL) (pK : Bool) (pE : LL) (ku : Int) :
 Qk3 lb n ju jG jv wo wD wx r7 kg l15 pK pE ku =
 some (.list pK pE) := (Qac _).trans (by kernel_rfl)
theorem Qhm (lb n nV : Nat) (ju jG jv wo wD wx : Int) (r7 : CV) (kg : Bool) (l15 : LL) (oA : Bool) (l34 : LL) (kR : Int) :
 QeA lb n (nV + 1) ju jG jv wo wD wx r7 kg l15 oA l34 kR =
 bif (decide (kR < (l15.length : Int))) then
 (optO (atL l15 kR) fun c49 =>
 chkO (c49.length == 1) (
 optO (c49[0]?) fun k5 =>
 optO (C lb n Qdc [k5]) fun qV =>
 optO (CV.asT qV) fun rW =>
 optO (rW[0]?) fun gm =>
 optO (CV.asT qV) fun ta =>
 optO (ta[1]?) fun yX =>
 optO (CV.asA gm) fun c56 =>
 chkO (c56.length == 3) (
 optO (c56[0]?) fun kc =>
 optO (c56[1]?) fun kL =>
 optO (c56[2]?) fun oP =>
 optO (CV.asB yX) fun mF =>
 bif mF then
 (chkO (room (l34.length + 1) 24) (
 QeA lb n nV ju jG jv wo wD wx r7 kg l15 (oA && false) (l34 ++ [[kc, kL, oP]]) (IntKind.wrap .i64 (kR + 1))))
 else
 (QeA lb n nV ju jG jv wo wD wx r7 kg l15 oA l34 (IntKind.wrap .i64 (kR + 1))))))
 else
 (Qk3 lb n ju jG jv wo wD wx r7 kg l15 oA l34 kR) := (Qac _).trans (by kernel_rfl)
theorem QiE (lb n : Nat) (ju jG jv wo wD wx : Int) (r7 : CV) (kg : Bool) (l15 : LL) :
 QhQ lb n ju jG jv wo wD wx r7 kg l15 =
 QeA lb n n ju jG jv wo wD wx r7 kg l15 true [] 0 := (Qac _).trans (by kernel_rfl)
theorem Qrj (lb n : Nat) (ju jG jv wo wD wx : Int) :
 top lb n Qbj [.agg [.int .i64 ju, .int .i64 jG, .int .i64 jv], .agg [.int .i64 wo, .int .i64 wD, .int .i64 wx]] =
 optO (C lb n Qb5 [.agg [.int .i64 ju, .int .i64 jG, .int .i64 jv]]) fun r7 =>
 chkO (CV.isCell r7) (
 optO (C lb n Qdk [.agg [.int .i64 wo, .int .i64 wD, .int .i64 wx]]) fun r9 =>
 optO (CV.asI .i64 r9) fun kp =>
 bif (kp == 0) then
 (optO (C lb n Qb3 [r7, .int .i64 0, .int .i64 (IntKind.wrap .i64 (wo - 1)), .agg [.int .i64 wo, .int .i64 wD, .int .i64 wx]]) fun yk =>
 optO (C lb n Qb3 [r7, .int .i64 wo, .int .i64 wD, .agg [.int .i64 wo, .int .i64 wD, .int .i64 wx]]) fun yJ =>
 optO (C lb n Qb3 [r7, .int .i64 (IntKind.wrap .i64 (wD + 1)), .int .i64 36525, .agg [.int .i64 wo, .int .i64 wD, .int .i64 wx]]) fun oM =>
 chkO (CV.isCell yk) (
 chkO (CV.isCell yJ) (
 chkO (CV.isCell oM) (
 QhQ lb n ju jG jv wo wD wx r7 false [[yk], [yJ], [oM]]))))
 else
 (QhQ lb n ju jG jv wo wD wx r7 false [[r7]])) := by kernel_rfl
noncomputable def Qeu (lb n : Nat) (ju jG jv wo wD wx : Int) (oZ : Bool) (l35 : LL) : Option CV :=
 hold (E0 lb n 0 994 (sub (B Qbs) [1, 1, 1, 1, 1, 1]) (retK Tryz.prog (R Qbs) 0 (outK (Qaf Tryz.prog Qbs))) ⟨fr 57 [(0, .val (.agg [.int .i64 ju, .int .i64 jG, .int .i64 jv])), (1, .val (.agg [.int .i64 wo, .int .i64 wD, .int .i64 wx])), (2, .ptr 0 2 0), (3, .ptr 0 3 0), (4, .lst true true 28 []), (5, .ptr 0 5 0), (6, .clo Qd7 [.ptr 0 5 0]), (7, .clo Qd7 [.ptr 0 5 0])], [bx 57 [(2, some [vI ju, vI jG, vI jv]), (3, some [vI wo, vI wD, vI wx]), (5, some [.lst true oZ 28 l35])]], KK⟩)
noncomputable def QdB (lb n : Nat) (ju jG jv wo wD wx : Int) (gW : Bool) (l47 : LL) : Option CV :=
 hold (E0 lb n 0 993 (sub (B Qbs) [1, 1, 1, 1, 1, 1, 1]) (retK Tryz.prog (R Qbs) 0 (outK (Qaf Tryz.prog Qbs))) ⟨fr 57 [(0, .val (.agg [.int .i64 ju, .int .i64 jG, .int .i64 jv])), (1, .val (.agg [.int .i64 wo, .int .i64 wD, .int .i64 wx])), (2, .ptr 0 2 0), (3, .ptr 0 3 0), (4, .lst true true 28 []), (5, .ptr 0 5 0), (6, .clo Qd7 [.ptr 0 5 0]), (7, .clo Qd7 [.ptr 0 5 0])], [bx 57 [(2, some [vI ju, vI jG, vI jv]), (3, some [vI wo, vI wD, vI wx]), (5, some [.lst true gW 28 l47])]], KK⟩)
theorem QlN (lb n : Nat) (ju jG jv wo wD wx : Int) (gW : Bool) (l47 : LL) :
 QdB lb n ju jG jv wo wD wx gW l47 =
 optO (C lb n Qbq [.agg [.int .i64 ju, .int .i64 jG, .int .i64 jv], .int .i64 (IntKind.wrap .i64 (wD + 1)), .int .i64 jG, .int .i64 127]) fun gM =>
 optO (CV.asT gM) fun nR =>
 optO (nR[0]?) fun k5 =>
 optO (CV.asT gM) fun t51 =>
 optO (t51[1]?) fun kO =>
 optO (CV.asA k5) fun c53 =>
 chkO (c53.length == 3) (
 optO (c53[0]?) fun vz =>
 optO (c53[1]?) fun yX =>
 optO (c53[2]?) fun ve =>
 optO (CV.asB kO) fun n5 =>
 bif n5 then
 (chkO (room (l47.length + 1) 24) (
 some (.list (gW && false) (l47 ++ [[vz, yX, ve]]))))
 else
 (some (.list gW l47))) := (Qac _).trans (by kernel_rfl)
theorem Ql6 (lb n : Nat) (ju jG jv wo wD wx : Int) (oZ : Bool) (l35 : LL) :
 Qeu lb n ju jG jv wo wD wx oZ l35 =
 optO (C lb n Qbq [.agg [.int .i64 ju, .int .i64 jG, .int .i64 jv], .int .i64 wo, .int .i64 wD, .int .i64 (IntKind.wrap .i64 ((BitVec.ofInt 64 127 &&& ~~~BitVec.ofInt 64 wx).toNat))]) fun qh =>
 optO (CV.asT qh) fun t37 =>
 optO (t37[0]?) fun yU =>
 optO (CV.asT qh) fun qy =>
 optO (qy[1]?) fun o5 =>
 optO (CV.asA yU) fun c41 =>
 chkO (c41.length == 3) (
 optO (c41[0]?) fun mw =>
 optO (c41[1]?) fun oW =>
 optO (c41[2]?) fun oN =>
 optO (CV.asB o5) fun gN =>
 bif gN then
 (chkO (room (l35.length + 1) 24) (
 QdB lb n ju jG jv wo wD wx (oZ && false) (l35 ++ [[mw, oW, oN]])))
 else
 (QdB lb n ju jG jv wo wD wx oZ l35)) := (Qac _).trans (by kernel_rfl)
theorem Qf6 (lb n : Nat) (ju jG jv wo wD wx : Int) :
 top lb n Qbs [.agg [.int .i64 ju, .int .i64 jG, .int .i64 jv], .agg [.int .i64 wo, .int .i64 wD, .int .i64 wx]] =
 optO (C lb n QbA [.agg [.int .i64 ju, .int .i64 jG, .int .i64 jv]]) fun r7 =>
 optO (CV.asI .i64 r7) fun i9 =>
 bif (i9 != 0) then
 (some (.list true []))
 else
 (optO (C lb n QbA [.agg [.int .i64 wo, .int .i64 wD, .int .i64 wx]]) fun gj =>
 optO (CV.asI .i64 gj) fun vt =>
 bif (vt != 0) then
 (optO (C lb n Qbf [.agg [.int .i64 ju, .int .i64 jG, .int .i64 jv]]) fun yJ =>
 optO (CV.asT yJ) fun nU =>
 optO (nU[0]?) fun yO =>
 optO (CV.asT yJ) fun nT =>
 optO (nT[1]?) fun gY =>
 optO (CV.asA yO) fun c18 =>
 chkO (c18.length == 3) (
 optO (c18[0]?) fun yl =>
 optO (c18[1]?) fun wV =>
 optO (c18[2]?) fun yq =>
 optO (CV.asB gY) fun gP =>
 bif gP then
 (some (.list false [[yl, wV, yq]]))
 else
 (some (.list true []))))
 else
 (optO (C lb n Qbq [.agg [.int .i64 ju, .int .i64 jG, .int .i64 jv], .int .i64 ju, .int .i64 (IntKind.wrap .i64 (wo - 1)), .int .i64 127]) fun yg =>
 optO (CV.asT yg) fun nQ =>
 optO (nQ[0]?) fun wn =>
 optO (CV.asT yg) fun qF =>
 optO (qF[1]?) fun wA =>
 optO (CV.asA wn) fun c28 =>
 chkO (c28.length == 3) (
 optO (c28[0]?) fun wz =>
 optO (c28[1]?) fun yp =>
 optO (c28[2]?) fun wN =>
 optO (CV.asB wA) fun oA =>
 bif oA then
 (Qeu lb n ju jG jv wo wD wx false [[wz, yp, wN]])
 else
 (Qeu lb n ju jG jv wo wD wx true [])))) := by kernel_rfl
end Go.Proofs
