/- Equations of functions, printed by program. Conditions: none. -/
import Derived.Test.YtdcpdknginpohaaGreatDoorEv
namespace Go.Proofs
open Go.Am
set_option maxRecDepth 100000
set_option linter.unusedVariables false
theorem QqH (lb n) (a1 : Int) :
 top lb n QaR [.int .i64 a1] =
 bif (decide (a1 < 0)) then
 (optO (C lb n QeV [.int .u64 (IntKind.wrap .u64 ((IntKind.wrap .u64 (IntKind.wrap .i64 (0 - (IntKind.wrap .i64 (a1 + 1))))) + 1))]) fun r2 =>
 optO (CV.asS r2) fun s3 =>
 chkO (decide (([45] : LB).length + s3.length ≤ 9223372036854775807)) (
 some (.str (([45] : LB) ++ s3))))
 else
 (optO (C lb n QeV [.int .u64 (IntKind.wrap .u64 (a1))]) fun r4 =>
 some (r4)) := by kernel_rfl
theorem Qp3 (lb n) (a1 : Int) :
 top lb n QaP [.int .i64 a1] =
 optO (C lb n QgS [.int .i64 a1]) fun r2 =>
 some (r2) := by kernel_rfl
noncomputable def text_Join_L1 :=
 fun lb n (wo : Nat) (jr : Bool) (a2 l11 : LL) jP =>
 hold (QaB (E0 lb n 0 994) 0 (Qaj (sub (B QaH) [1, 1, 0, 1, 0, 0]) ++ [5, 5]) [] (sub (B QaH) [1, 1, 0, 1, 0, 0]) (Qat 0 (seqK (E0 lb n 0 997) (sub (B QaH) [1, 1, 0]) (sub (B QaH) [1, 1, 1]) (retK Tryz.prog (R QaH) 0 (outK (Qad Tryz.prog QaH))))) wo ⟨fr 27 [(0, .val (.list jr a2)), (2, .val (.str [])), (3, .lst true false 9 l11), (6, .val (.list jr a2)), (7, .val (.int .i64 (a2.length : Int))), (8, .val (.list false [])), (9, .val (.list jr a2)), (10, .val (.int .i64 (a2.length : Int))), (11, vI jP)], [bx 27 []], KK⟩)
noncomputable def Qgu (lb n : Nat) (jr : Bool) (a2 : LL) (om : Bool) (oI : LL) : Option CV :=
 hold (E0 lb n 0 997 (sub (B QaH) [1, 1, 1]) (retK Tryz.prog (R QaH) 0 (outK (Qad Tryz.prog QaH))) ⟨fr 27 [(0, .val (.list jr a2)), (2, .val (.str [])), (3, .lst true om 9 oI), (6, .val (.list jr a2)), (7, .val (.int .i64 (a2.length : Int))), (8, .val (.list false []))], [bx 27 []], KK⟩)
theorem Qp4 (lb n : Nat) (jr : Bool) (a2 : LL) (om : Bool) (oI : LL) :
 Qgu lb n jr a2 om oI =
 optO (C lb n Qfg [.list om oI, .str [32]]) fun yC =>
 some (yC) := (Qab _).trans (by kernel_rfl)
theorem Qid (lb n wo : Nat) (jr : Bool) (a2 l11 : LL) (jP : Int) :
 text_Join_L1 lb n (wo + 1) jr a2 l11 jP =
 bif (decide (jP < (a2.length : Int))) then
 (optO (atL a2 jP) fun c20 =>
 chkO (c20.length == 1) (
 optO (c20[0]?) fun yb =>
 optO (C lb n QeX [yb]) fun gG =>
 optO (CV.asB gG) fun kf =>
 bif (!kf) then
 (optO (C lb n QbK [yb]) fun j8 =>
 chkO (CV.isCell j8) (
 chkO (room (l11.length + 1) 16) (
 text_Join_L1 lb n wo jr a2 (l11 ++ [[j8]]) (IntKind.wrap .i64 (jP + 1)))))
 else
 (chkO (CV.isCell yb) (
 chkO (room (l11.length + 1) 16) (
 text_Join_L1 lb n wo jr a2 (l11 ++ [[yb]]) (IntKind.wrap .i64 (jP + 1)))))))
 else
 (Qgu lb n jr a2 false l11) := (Qab _).trans (by kernel_rfl)
theorem Qr9 (lb n : Nat) (jr : Bool) (a2 : LL) :
 top lb n QaH [.list jr a2] =
 chkO (decide (0 ≤ (0 : Int)) && decide ((0 : Int) ≤ ((a2.length : Int) : Int)) && decide (((a2.length : Int) : Int) * 16 ≤ 140737488355328) && decide (((a2.length : Int) : Int) ≤ 140737488355328)) (
 text_Join_L1 lb n n jr a2 [] 0) := by kernel_rfl
theorem Qqt (lb n : Nat) (a1 : LB) :
 top lb n Qb6 [.str a1] =
 optO (C lb n QbA [.str a1, .int .i64 3]) fun r2 =>
 some (r2) := by kernel_rfl
noncomputable def Qfx (lb n kx : Nat) (a1 : LB) (b2 c3 jP : Int) : Option CV :=
 hold (QaB (E0 lb n 0 995) 0 (Qaj (sub (B Qbb) [1, 0, 1, 0, 0]) ++ []) [] (sub (B Qbb) [1, 0, 1, 0, 0]) (Qat 0 (seqK (E0 lb n 0 998) (sub (B Qbb) [1, 0]) (sub (B Qbb) [1, 1]) (retK Tryz.prog (R Qbb) 0 (outK (Qad Tryz.prog Qbb))))) kx ⟨fr 36 [(0, vS a1), (1, vI b2), (2, vI c3), (6, vB false), (7, vI jP)], [bx 36 []], KK⟩)
noncomputable def QnX (lb n : Nat) (a1 : LB) (b2 c3 yR : Int) : Option CV :=
 hold (E0 lb n 0 998 (sub (B Qbb) [1, 1]) (retK Tryz.prog (R Qbb) 0 (outK (Qad Tryz.prog Qbb))) ⟨fr 36 [(0, vS a1), (1, vI b2), (2, vI c3), (6, vB false), (7, vI yR)], [bx 36 []], KK⟩)
theorem QqE (lb n : Nat) (a1 : LB) (b2 c3 yR : Int) :
 QnX lb n a1 b2 c3 yR =
 bif (decide ((a1.length : Int) ≥ b2)) then
 (some (.bool (decide ((a1.length : Int) ≤ c3))))
 else
 (some (.bool false)) := (Qab _).trans (by kernel_rfl)
theorem Qjc (lb n kx : Nat) (a1 : LB) (b2 c3 jP : Int) :
 Qfx lb n (kx + 1) a1 b2 c3 jP =
 bif (decide (jP < (a1.length : Int))) then
 (optO (atS a1 jP) fun c21 =>
 optO (C lb n Qey [.int .u8 (c21.toNat : Int)]) fun gG =>
 optO (CV.asB gG) fun kf =>
 bif (!kf) then
 (optO (atS a1 jP) fun c24 =>
 optO (C lb n Qhh [.int .u8 (c24.toNat : Int)]) fun gj =>
 optO (CV.asB gj) fun yS =>
 bif (!yS) then
 (some (.bool false))
 else
 (Qfx lb n kx a1 b2 c3 (IntKind.wrap .i64 (jP + 1))))
 else
 (Qfx lb n kx a1 b2 c3 (IntKind.wrap .i64 (jP + 1))))
 else
 (QnX lb n a1 b2 c3 jP) := (Qab _).trans (by kernel_rfl)
theorem QtI (lb n : Nat) (a1 : LB) (b2 c3 : Int) :
 top lb n Qbb [.str a1, .int .i64 b2, .int .i64 c3] =
 Qfx lb n n a1 b2 c3 0 := by kernel_rfl
noncomputable def Qex (lb n w8 : Nat) (jr : Bool) (a2 : LL) (yJ : Bool) (l15 : LL) (i17 : Int) : Option CV :=
 hold (QaB (E0 lb n 0 994) 0 (Qaj (sub (B Qap) [1, 1, 0, 1, 0, 0]) ++ [5, 5]) [] (sub (B Qap) [1, 1, 0, 1, 0, 0]) (Qat 0 (seqK (E0 lb n 0 997) (sub (B Qap) [1, 1, 0]) (sub (B Qap) [1, 1, 1]) (retK Tryz.prog (R Qap) 0 (outK (Qad Tryz.prog Qap))))) w8 ⟨fr 31 [(0, .val (.list jr a2)), (2, .val (.str [])), (3, .lst true yJ 5 l15), (4, vI i17)], [bx 31 []], KK⟩)
noncomputable def Qhu (lb n w8 : Nat) (jr : Bool) (a2 : LL) (i17 : Int) (vr : Bool) (l35 : LL) : Option CV :=
 hold (E0 lb n 0 990 (sub (B Qap) [1, 1, 0, 1, 0, 0, 1, 0, 0, 1]) (Qat 1 (seqK (E0 lb n 0 992) (sub (B Qap) [1, 1, 0, 1, 0, 0, 1, 0]) (sub (B Qap) [1, 1, 0, 1, 0, 0, 1, 1]) (Qed 0 (Qaj (sub (B Qap) [1, 1, 0, 1, 0, 0]) ++ [5, 5]) [] (QaB (E0 lb n 0 994) 0 (Qaj (sub (B Qap) [1, 1, 0, 1, 0, 0]) ++ [5, 5]) [] (sub (B Qap) [1, 1, 0, 1, 0, 0]) (Qat 0 (seqK (E0 lb n 0 997) (sub (B Qap) [1, 1, 0]) (sub (B Qap) [1, 1, 1]) (retK Tryz.prog (R Qap) 0 (outK (Qad Tryz.prog Qap))))) w8) (Qat 0 (seqK (E0 lb n 0 997) (sub (B Qap) [1, 1, 0]) (sub (B Qap) [1, 1, 1]) (retK Tryz.prog (R Qap) 0 (outK (Qad Tryz.prog Qap)))))))) ⟨fr 31 [(0, .val (.list jr a2)), (2, .val (.str [])), (3, .lst true vr 5 l35), (4, vI i17)], [bx 31 []], KK⟩)
theorem Qqq (lb n w8 : Nat) (jr : Bool) (a2 : LL) (i17 : Int) (vr : Bool) (l35 : LL) :
 Qhu lb n w8 jr a2 i17 vr l35 =
 optO (atL a2 i17) fun c36 =>
 chkO (c36.length == 1) (
 optO (c36[0]?) fun jM =>
 optO (C lb n Qb4 [jM]) fun pF =>
 optO (CV.asB pF) fun pm =>
 bif (!pm) then
 (optO (C lb n QbL [jM]) fun yo =>
 optO (CV.asS yo) fun s41 =>
 chkO ((s41.map fun c => [CV.int .u8 c.toNat]).all (·.length == 1)) (
 chkO (room (l35.length + (s41.map fun c => [CV.int .u8 c.toNat]).length) 1) (
 Qex lb n w8 jr a2 (vr && ((s41.map fun c => [CV.int .u8 c.toNat]).isEmpty)) (l35 ++ (s41.map fun c => [CV.int .u8 c.toNat])) (IntKind.wrap .i64 (i17 + 1)))))
 else
 (optO (CV.asS jM) fun s42 =>
 chkO ((s42.map fun c => [CV.int .u8 c.toNat]).all (·.length == 1)) (
 chkO (room (l35.length + (s42.map fun c => [CV.int .u8 c.toNat]).length) 1) (
 Qex lb n w8 jr a2 (vr && ((s42.map fun c => [CV.int .u8 c.toNat]).isEmpty)) (l35 ++ (s42.map fun c => [CV.int .u8 c.toNat])) (IntKind.wrap .i64 (i17 + 1)))))) := (Qab _).trans (by kernel_rfl)
noncomputable def QnC (lb n : Nat) (jr : Bool) (a2 : LL) (kC : Bool) (oj : LL) (y6 : Int) : Option CV :=
 hold (E0 lb n 0 997 (sub (B Qap) [1, 1, 1]) (retK Tryz.prog (R Qap) 0 (outK (Qad Tryz.prog Qap))) ⟨fr 31 [(0, .val (.list jr a2)), (2, .val (.str [])), (3, .lst true kC 5 oj), (4, vI y6)], [bx 31 []], KK⟩)
theorem Qqn (lb n : Nat) (jr : Bool) (a2 : LL) (kC : Bool) (oj : LL) (y6 : Int) :
 QnC lb n jr a2 kC oj y6 =
 optO (bytesOf oj) fun nk =>
 some (.str nk) := (Qab _).trans (by kernel_rfl)
theorem Qjk (lb n w8 : Nat) (jr : Bool) (a2 : LL) (yJ : Bool) (l15 : LL) (i17 : Int) :
 Qex lb n (w8 + 1) jr a2 yJ l15 i17 =
 bif (decide (i17 < (a2.length : Int))) then
 (bif (decide (i17 > 0)) then
 (chkO (room (l15.length + 1) 1) (
 Qhu lb n w8 jr a2 i17 (yJ && false) (l15 ++ [[CV.int .u8 32]])))
 else
 (Qhu lb n w8 jr a2 i17 yJ l15))
 else
 (QnC lb n jr a2 yJ l15 i17) := (Qab _).trans (by kernel_rfl)
theorem QtY (lb n : Nat) (jr : Bool) (a2 : LL) :
 top lb n Qap [.list jr a2] =
 Qex lb n n jr a2 true [] 0 := by kernel_rfl
noncomputable def Qeq (lb n kL : Nat) (a1 : LB) (x4 x6 r2 : CV) (p9 : Bool × LL) (jW : Bool × LL) (l27 : LL) (j3 : Int) : Option CV :=
 hold (QaB (E0 lb n 0 991) 0 (Qaj (sub (B QbC) [1, 1, 1, 1, 1, 0, 1, 0, 0]) ++ [8, 9, 10, 8]) [] (sub (B QbC) [1, 1, 1, 1, 1, 0, 1, 0, 0]) (Qat 0 (seqK (E0 lb n 0 994) (sub (B QbC) [1, 1, 1, 1, 1, 0]) (sub (B QbC) [1, 1, 1, 1, 1, 1]) (retK Tryz.prog (R QbC) 0 (outK (Qad Tryz.prog QbC))))) kL ⟨fr 50 [(0, vS a1), (2, .lst true true 9 []), (3, vI 0), (4, vV x4), (5, vV x6), (6, .lst true false 9 l27), (13, vV r2), (14, vS a1), (15, vV r2), (16, vV x4), (17, vV x6), (20, vV x4), (21, .val (.int .i64 (p9.2.length : Int))), (22, .val (.list false [])), (23, vV x4), (24, .val (.int .i64 (jW.2.length : Int))), (25, vI j3)], [bx 50 []], KK⟩)
noncomputable def QlL (lb n : Nat) (a1 : LB) (x4 x6 r2 : CV) (p9 : Bool × LL) (ou : Bool) (oM : LL) : Option CV :=
 hold (E0 lb n 0 994 (sub (B QbC) [1, 1, 1, 1, 1, 1]) (retK Tryz.prog (R QbC) 0 (outK (Qad Tryz.prog QbC))) ⟨fr 50 [(0, vS a1), (2, .lst true true 9 []), (3, vI 0), (4, vV x4), (5, vV x6), (6, .lst true ou 9 oM), (13, vV r2), (14, vS a1), (15, vV r2), (16, vV x4), (17, vV x6), (20, vV x4), (21, .val (.int .i64 (p9.2.length : Int))), (22, .val (.list false []))], [bx 50 []], KK⟩)
theorem Qoe (lb n : Nat) (a1 : LB) (x4 x6 r2 : CV) (p9 : Bool × LL) (ou : Bool) (oM : LL) :
 QlL lb n a1 x4 x6 r2 p9 ou oM =
 some (.tup [.list ou oM, .int .i64 0]) := (Qab _).trans (by kernel_rfl)
theorem Qc3 (lb n kL : Nat) (a1 : LB) (x4 x6 r2 : CV) (p9 : Bool × LL) (jW : Bool × LL) (l27 : LL) (j3 : Int) :
 Qeq lb n (kL + 1) a1 x4 x6 r2 p9 jW l27 j3 =
 bif (decide (j3 < (jW.2.length : Int))) then
 (optO (CV.asL x4) fun nL =>
 optO (atL nL.2 j3) fun c45 =>
 chkO (c45.length == 1) (
 optO (c45[0]?) fun wu =>
 optO (C lb n QeX [wu]) fun kN =>
 optO (CV.asB kN) fun ky =>
 bif (!ky) then
 (optO (C lb n Qbm [wu]) fun vP =>
 optO (CV.asT vP) fun nH =>
 optO (nH[0]?) fun wO =>
 optO (CV.asT vP) fun pX =>
 optO (pX[1]?) fun wz =>
 optO (CV.asI .i64 wz) fun pG =>
 bif (pG != 0) then
 (some (.tup [.list true [], .int .i64 3]))
 else
 (optO (C lb n QeX [wO]) fun yp =>
 optO (CV.asB yp) fun kl =>
 bif kl then
 (some (.tup [.list true [], .int .i64 3]))
 else
 (chkO (CV.isCell wO) (
 chkO (room (l27.length + 1) 16) (
 Qeq lb n kL a1 x4 x6 r2 p9 jW (l27 ++ [[wO]]) (IntKind.wrap .i64 (j3 + 1)))))))
 else
 (chkO (CV.isCell wu) (
 chkO (room (l27.length + 1) 16) (
 Qeq lb n kL a1 x4 x6 r2 p9 jW (l27 ++ [[wu]]) (IntKind.wrap .i64 (j3 + 1)))))))
 else
 (QlL lb n a1 x4 x6 r2 p9 false l27) := (Qab _).trans (by kernel_rfl)
theorem QrO (lb n : Nat) (a1 : LB) :
 top lb n QbC [.str a1] =
 bif (a1 == []) then
 (some (.tup [.list true [], .int .i64 0]))
 else
 (optO (C lb n Qcl [.str a1]) fun r2 =>
 optO (CV.asT r2) fun t3 =>
 optO (t3[0]?) fun x4 =>
 optO (CV.asT r2) fun t5 =>
 optO (t5[1]?) fun x6 =>
 optO (CV.asB x6) fun b7 =>
 bif (!b7) then
 (some (.tup [.list true [], .int .i64 3]))
 else
 (optO (CV.asL x4) fun p9 =>
 chkO (decide (0 ≤ (0 : Int)) && decide ((0 : Int) ≤ ((p9.2.length : Int) : Int)) && decide (((p9.2.length : Int) : Int) * 16 ≤ 140737488355328) && decide (((p9.2.length : Int) : Int) ≤ 140737488355328)) (
 optO (CV.asL x4) fun jW =>
 Qeq lb n n a1 x4 x6 r2 p9 jW [] 0))) := by kernel_rfl
theorem QqD (lb n : Nat) (a1 : LB) :
 top lb n Qb2 [.str a1] =
 optO (C lb n Qdf [.str a1, .str [45]]) fun r2 =>
 optO (CV.asS r2) fun s3 =>
 bif (s3 == []) then
 (some (.tup [.int .i64 0, .int .i64 3]))
 else
 (optO (C lb n Qai [r2, .fn Qcd]) fun r4 =>
 optO (CV.asB r4) fun b5 =>
 bif (!b5) then
 (some (.tup [.int .i64 0, .int .i64 3]))
 else
 (optO (CV.asS r2) fun s6 =>
 optO (atS s6 0) fun c7 =>
 bif ((c7.toNat : Int) == 48) then
 (bif (!(a1 == [48])) then
 (some (.tup [.int .i64 0, .int .i64 3]))
 else
 (optO (C lb n Qdm [.str a1]) fun r9 =>
 optO (CV.asT r9) fun gz =>
 optO (gz[0]?) fun yP =>
 optO (CV.asT r9) fun vn =>
 optO (vn[1]?) fun jB =>
 optO (CV.asE jB) fun pH =>
 bif (!pH) then
 (some (.tup [.int .i64 0, .int .i64 4]))
 else
 (some (.tup [yP, .int .i64 0]))))
 else
 (optO (C lb n Qdm [.str a1]) fun w5 =>
 optO (CV.asT w5) fun kw =>
 optO (kw[0]?) fun jO =>
 optO (CV.asT w5) fun yj =>
 optO (yj[1]?) fun jp =>
 optO (CV.asE jp) fun gv =>
 bif (!gv) then
 (some (.tup [.int .i64 0, .int .i64 4]))
 else
 (some (.tup [jO, .int .i64 0]))))) := by kernel_rfl
noncomputable def Qbt (lb n vL : Nat) (a1 : LB) (yF : Bool) (l23 : LL) (i24 : Int) : Option CV :=
 hold (QaB (E0 lb n 0 994) 0 (Qaj (sub (B QbE) [1, 1, 0, 1, 0, 0]) ++ [6, 7, 8, 9, 7]) [] (sub (B QbE) [1, 1, 0, 1, 0, 0]) (Qat 0 (seqK (E0 lb n 0 997) (sub (B QbE) [1, 1, 0]) (sub (B QbE) [1, 1, 1]) (retK Tryz.prog (R QbE) 0 (outK (Qad Tryz.prog QbE))))) vL ⟨fr 49 [(0, vS a1), (2, .lst true true 9 []), (3, vI 0), (4, .lst true yF 9 l23), (5, vI i24)], [bx 49 []], KK⟩)
noncomputable def Qmj (lb n : Nat) (a1 : LB) (vo : Bool) (kK : LL) (i53 : Int) : Option CV :=
 hold (E0 lb n 0 997 (sub (B QbE) [1, 1, 1]) (retK Tryz.prog (R QbE) 0 (outK (Qad Tryz.prog QbE))) ⟨fr 49 [(0, vS a1), (2, .lst true true 9 []), (3, vI 0), (4, .lst true vo 9 kK), (5, vI i53)], [bx 49 []], KK⟩)
theorem Qpt (lb n : Nat) (a1 : LB) (vo : Bool) (kK : LL) (i53 : Int) :
 Qmj lb n a1 vo kK i53 =
 optO (C lb n Qap [.list vo kK]) fun y9 =>
 optO (CV.asS y9) fun n9 =>
 bif (!(n9 == a1)) then
 (some (.tup [.list true [], .int .i64 3]))
 else
 (some (.tup [.list vo kK, .int .i64 0])) := (Qab _).trans (by kernel_rfl)
theorem Qh9 (lb n vL : Nat) (a1 : LB) (yF : Bool) (l23 : LL) (i24 : Int) :
 Qbt lb n (vL + 1) a1 yF l23 i24 =
 bif (decide (i24 < (a1.length : Int))) then
 (optO (C lb n QaI [.str a1, .int .i64 i24]) fun vE =>
 optO (CV.asN vE) fun i40 =>
 chkO (decide ((0 : Int) ≤ i40 ∧ i40 ≤ (a1.length : Int))) (
 chkO (decide ((0 : Int) ≤ i24 ∧ i24 ≤ i40)) (
 bif (decide ((((a1.take i40.toNat).drop i24.toNat).length : Int) > 0)) then
 (optO (atS ((a1.take i40.toNat).drop i24.toNat) 0) fun c41 =>
 bif ((c41.toNat : Int) == 34) then
 (optO (C lb n Qbk [.str ((a1.take i40.toNat).drop i24.toNat)]) fun ym =>
 optO (CV.asT ym) fun ko =>
 optO (ko[0]?) fun yO =>
 optO (CV.asT ym) fun kH =>
 optO (kH[1]?) fun wu =>
 optO (CV.asI .i64 wu) fun gh =>
 bif (gh != 0) then
 (some (.tup [.list true [], wu]))
 else
 (chkO (CV.isCell yO) (
 chkO (room (l23.length + 1) 16) (
 optO (CV.asI .i64 vE) fun nF =>
 Qbt lb n vL a1 (yF && false) (l23 ++ [[yO]]) (IntKind.wrap .i64 (nF + 1))))))
 else
 (chkO (room (l23.length + 1) 16) (
 optO (CV.asI .i64 vE) fun gg =>
 Qbt lb n vL a1 (yF && false) (l23 ++ [[CV.str ((a1.take i40.toNat).drop i24.toNat)]]) (IntKind.wrap .i64 (gg + 1)))))
 else
 (chkO (room (l23.length + 1) 16) (
 optO (CV.asI .i64 vE) fun vX =>
 Qbt lb n vL a1 (yF && false) (l23 ++ [[CV.str ((a1.take i40.toNat).drop i24.toNat)]]) (IntKind.wrap .i64 (vX + 1)))))))
 else
 (Qmj lb n a1 yF l23 i24) := (Qab _).trans (by kernel_rfl)
theorem Qta (lb n : Nat) (a1 : LB) :
 top lb n QbE [.str a1] =
 Qbt lb n n a1 true [] 0 := by kernel_rfl
noncomputable def QfM (lb n : Nat) (a1 : LB) (c2 : UInt8) (s3 : LB) : Option CV :=
 hold (E0 lb n 0 996 (sub (B Qan) [1, 1, 1, 1]) (retK Tryz.prog (R Qan) 0 (outK (Qad Tryz.prog Qan))) ⟨fr 81 [(0, vS a1), (2, vI 0), (3, vI 0), (4, .val (.bool ((c2.toNat : Int) == 45))), (5, vS s3), (9, vS a1), (10, .val (.int .i64 (a1.length : Int))), (11, .val (.bool (decide ((a1.length : Int) > 0)))), (12, vB true), (13, vS a1), (14, .val (.int .u8 (c2.toNat : Int))), (15, .val (.bool ((c2.toNat : Int) == 45))), (16, .val (.bool ((c2.toNat : Int) == 45))), (17, vS a1)], [bx 81 []], KK⟩)
noncomputable def Qdc (lb n yY : Nat) (a1 : LB) (c2 : UInt8) (s3 : LB) (i9 : Int) : Option CV :=
 hold (QaB (E0 lb n 0 991) 0 (Qaj (sub (B Qan) [1, 1, 1, 1, 1, 0, 1, 0, 0]) ++ []) [] (sub (B Qan) [1, 1, 1, 1, 1, 0, 1, 0, 0]) (Qat 0 (seqK (E0 lb n 0 994) (sub (B Qan) [1, 1, 1, 1, 1, 0]) (sub (B Qan) [1, 1, 1, 1, 1, 1]) (retK Tryz.prog (R Qan) 0 (outK (Qad Tryz.prog Qan))))) yY ⟨fr 81 [(0, vS a1), (2, vI 0), (3, vI 0), (4, .val (.bool ((c2.toNat : Int) == 45))), (5, vS s3), (6, vI i9), (9, vS a1), (10, .val (.int .i64 (a1.length : Int))), (11, .val (.bool (decide ((a1.length : Int) > 0)))), (12, vB true), (13, vS a1), (14, .val (.int .u8 (c2.toNat : Int))), (15, .val (.bool ((c2.toNat : Int) == 45))), (16, .val (.bool ((c2.toNat : Int) == 45))), (17, vS a1)], [bx 81 []], KK⟩)
noncomputable def Qh6 (lb n : Nat) (a1 : LB) (c2 : UInt8) (s3 : LB) (jv : Int) : Option CV :=
 hold (E0 lb n 0 994 (sub (B Qan) [1, 1, 1, 1, 1, 1]) (retK Tryz.prog (R Qan) 0 (outK (Qad Tryz.prog Qan))) ⟨fr 81 [(0, vS a1), (2, vI 0), (3, vI 0), (4, .val (.bool ((c2.toNat : Int) == 45))), (5, vS s3), (6, vI jv), (9, vS a1), (10, .val (.int .i64 (a1.length : Int))), (11, .val (.bool (decide ((a1.length : Int) > 0)))), (12, vB true), (13, vS a1), (14, .val (.int .u8 (c2.toNat : Int))), (15, .val (.bool ((c2.toNat : Int) == 45))), (16, .val (.bool ((c2.toNat : Int) == 45))), (17, vS a1)], [bx 81 []], KK⟩)
noncomputable def Qen (lb n yU : Nat) (a1 : LB) (c2 : UInt8) (s3 : LB) (jv i20 i21 : Int) : Option CV :=
 hold (QaB (E0 lb n 0 988) 0 (Qaj (sub (B Qan) [1, 1, 1, 1, 1, 1, 1, 1, 0, 1, 0, 0]) ++ []) [] (sub (B Qan) [1, 1, 1, 1, 1, 1, 1, 1, 0, 1, 0, 0]) (Qat 2 (seqK (E0 lb n 0 991) (sub (B Qan) [1, 1, 1, 1, 1, 1, 1, 1, 0]) (sub (B Qan) [1, 1, 1, 1, 1, 1, 1, 1, 1]) (retK Tryz.prog (R Qan) 0 (outK (Qad Tryz.prog Qan))))) yU ⟨fr 81 [(0, vS a1), (2, vI 0), (3, vI 0), (4, .val (.bool ((c2.toNat : Int) == 45))), (5, vS s3), (6, vI jv), (7, .val (.int .u64 i20)), (8, vI i21), (9, vS a1), (10, .val (.int .i64 (a1.length : Int))), (11, .val (.bool (decide ((a1.length : Int) > 0)))), (12, vB true), (13, vS a1), (14, .val (.int .u8 (c2.toNat : Int))), (15, .val (.bool ((c2.toNat : Int) == 45))), (16, .val (.bool ((c2.toNat : Int) == 45))), (17, vS a1)], [bx 81 []], KK⟩)
noncomputable def QhX (lb n : Nat) (a1 : LB) (c2 : UInt8) (s3 : LB) (jv ww wT : Int) : Option CV :=
 hold (E0 lb n 0 991 (sub (B Qan) [1, 1, 1, 1, 1, 1, 1, 1, 1]) (retK Tryz.prog (R Qan) 0 (outK (Qad Tryz.prog Qan))) ⟨fr 81 [(0, vS a1), (2, vI 0), (3, vI 0), (4, .val (.bool ((c2.toNat : Int) == 45))), (5, vS s3), (6, vI jv), (7, .val (.int .u64 ww)), (8, vI wT), (9, vS a1), (10, .val (.int .i64 (a1.length : Int))), (11, .val (.bool (decide ((a1.length : Int) > 0)))), (12, vB true), (13, vS a1), (14, .val (.int .u8 (c2.toNat : Int))), (15, .val (.bool ((c2.toNat : Int) == 45))), (16, .val (.bool ((c2.toNat : Int) == 45))), (17, vS a1)], [bx 81 []], KK⟩)
theorem Qoq (lb n : Nat) (a1 : LB) (c2 : UInt8) (s3 : LB) (jv ww wT : Int) :
 QhX lb n a1 c2 s3 jv ww wT =
 bif ((c2.toNat : Int) == 45) then
 (bif (decide (ww ≤ 9223372036854775808)) then
 (some (.tup [.int .i64 (IntKind.wrap .i64 ((IntKind.wrap .i64 (0 - (IntKind.wrap .i64 (IntKind.wrap .u64 (ww - 1))))) - 1)), .int .i64 0]))
 else
 (bif ((c2.toNat : Int) == 45) then
 (some (.tup [.int .i64 0, .int .i64 4]))
 else
 (bif (decide (ww ≥ 9223372036854775808)) then
 (some (.tup [.int .i64 0, .int .i64 4]))
 else
 (some (.tup [.int .i64 (IntKind.wrap .i64 (ww)), .int .i64 0])))))
 else
 (bif ((c2.toNat : Int) == 45) then
 (some (.tup [.int .i64 0, .int .i64 4]))
 else
 (bif (decide (ww ≥ 9223372036854775808)) then
 (some (.tup [.int .i64 0, .int .i64 4]))
 else
 (some (.tup [.int .i64 (IntKind.wrap .i64 (ww)), .int .i64 0])))) := (Qab _).trans (by kernel_rfl)
theorem QhV (lb n yU : Nat) (a1 : LB) (c2 : UInt8) (s3 : LB) (jv i20 i21 : Int) :
 Qen lb n (yU + 1) a1 c2 s3 jv i20 i21 =
 bif (decide (i21 < (s3.length : Int))) then
 (optO (atS s3 i21) fun c24 =>
 Qen lb n yU a1 c2 s3 jv (IntKind.wrap .u64 ((IntKind.wrap .u64 (10 * i20)) + (IntKind.wrap .u64 (IntKind.wrap .u8 ((c24.toNat : Int) - 48))))) (IntKind.wrap .i64 (i21 + 1)))
 else
 (QhX lb n a1 c2 s3 jv i20 i21) := (Qab _).trans (by kernel_rfl)
theorem Qoj (lb n : Nat) (a1 : LB) (c2 : UInt8) (s3 : LB) (jv : Int) :
 Qh6 lb n a1 c2 s3 jv =
 bif (decide ((s3.length : Int) > 19)) then
 (some (.tup [.int .i64 0, .int .i64 4]))
 else
 (Qen lb n n a1 c2 s3 jv 0 0) := (Qab _).trans (by kernel_rfl)
theorem Qe6 (lb n yY : Nat) (a1 : LB) (c2 : UInt8) (s3 : LB) (i9 : Int) :
 Qdc lb n (yY + 1) a1 c2 s3 i9 =
 bif (decide (i9 < (s3.length : Int))) then
 (optO (atS s3 i9) fun c14 =>
 optO (C lb n Qhh [.int .u8 (c14.toNat : Int)]) fun w5 =>
 optO (CV.asB w5) fun pL =>
 bif (!pL) then
 (some (.tup [.int .i64 0, .int .i64 3]))
 else
 (Qdc lb n yY a1 c2 s3 (IntKind.wrap .i64 (i9 + 1))))
 else
 (Qh6 lb n a1 c2 s3 i9) := (Qab _).trans (by kernel_rfl)
theorem Qoa (lb n : Nat) (a1 : LB) (c2 : UInt8) (s3 : LB) :
 QfM lb n a1 c2 s3 =
 bif (s3 == []) then
 (some (.tup [.int .i64 0, .int .i64 3]))
 else
 (optO (atS s3 0) fun c4 =>
 bif ((c4.toNat : Int) == 48) then
 (bif ((c2.toNat : Int) == 45) then
 (some (.tup [.int .i64 0, .int .i64 3]))
 else
 (bif (decide ((s3.length : Int) > 1)) then
 (some (.tup [.int .i64 0, .int .i64 3]))
 else
 (Qdc lb n n a1 c2 s3 0)))
 else
 (Qdc lb n n a1 c2 s3 0)) := (Qab _).trans (by kernel_rfl)
noncomputable def QlD (lb n : Nat) (a1 : LB) : Option CV :=
 hold (E0 lb n 0 996 (sub (B Qan) [1, 1, 1, 1]) (retK Tryz.prog (R Qan) 0 (outK (Qad Tryz.prog Qan))) ⟨fr 81 [(0, vS a1), (2, vI 0), (3, vI 0), (4, vB false), (5, vS a1), (9, vS a1), (10, .val (.int .i64 (a1.length : Int))), (11, .val (.bool (decide ((a1.length : Int) > 0)))), (12, vB false), (13, .undef), (14, .undef), (15, .undef), (16, vB false), (17, vS a1)], [bx 81 []], KK⟩)
noncomputable def Ql0 (lb n pi : Nat) (a1 : LB) (i40 : Int) : Option CV :=
 hold (QaB (E0 lb n 0 991) 0 (Qaj (sub (B Qan) [1, 1, 1, 1, 1, 0, 1, 0, 0]) ++ []) [] (sub (B Qan) [1, 1, 1, 1, 1, 0, 1, 0, 0]) (Qat 0 (seqK (E0 lb n 0 994) (sub (B Qan) [1, 1, 1, 1, 1, 0]) (sub (B Qan) [1, 1, 1, 1, 1, 1]) (retK Tryz.prog (R Qan) 0 (outK (Qad Tryz.prog Qan))))) pi ⟨fr 81 [(0, vS a1), (2, vI 0), (3, vI 0), (4, vB false), (5, vS a1), (6, vI i40), (9, vS a1), (10, .val (.int .i64 (a1.length : Int))), (11, .val (.bool (decide ((a1.length : Int) > 0)))), (12, vB false), (13, .undef), (14, .undef), (15, .undef), (16, vB false), (17, vS a1)], [bx 81 []], KK⟩)
theorem Qoy (lb n : Nat) (a1 : LB) :
 QlD lb n a1 =
 bif (a1 == []) then
 (some (.tup [.int .i64 0, .int .i64 3]))
 else
 (optO (atS a1 0) fun c36 =>
 bif ((c36.toNat : Int) == 48) then
 (bif (decide ((a1.length : Int) > 1)) then
 (some (.tup [.int .i64 0, .int .i64 3]))
 else
 (Ql0 lb n n a1 0))
 else
 (Ql0 lb n n a1 0)) := (Qab _).trans (by kernel_rfl)
theorem QrA (lb n : Nat) (a1 : LB) :
 top lb n Qan [.str a1] =
 bif (decide ((a1.length : Int) > 0)) then
 (optO (atS a1 0) fun c2 =>
 bif ((c2.toNat : Int) == 45) then
 (chkO (decide ((0 : Int) ≤ 1 ∧ 1 ≤ (a1.length : Int))) (
 QfM lb n a1 c2 ((a1.take ((a1.length : Int).toNat)).drop 1)))
 else
 (QfM lb n a1 c2 a1))
 else
 (QlD lb n a1 ) := by kernel_rfl
theorem QpJ (lb n : Nat) (a1 : LB) :
 top lb n Qfh [.str a1] =
 optO (C lb n QcT [.str a1, .int .i64 2, .int .i64 2]) fun r2 =>
 optO (CV.asB r2) fun b3 =>
 bif b3 then
 (optO (C lb n Qai [.str a1, .fn Qcd]) fun r4 =>
 optO (CV.asB r4) fun b5 =>
 some (.bool (!b5)))
 else
 (some (.bool false)) := by kernel_rfl
theorem QsK (lb n : Nat) (a1 : LB) (b2 c3 : Int) :
 top lb n QcT [.str a1, .int .i64 b2, .int .i64 c3] =
 bif (decide ((a1.length : Int) ≥ b2)) then
 (bif (decide ((a1.length : Int) ≤ c3)) then
 (optO (C lb n Qai [.str a1, .fn QcN]) fun r4 =>
 some (r4))
 else
 (some (.bool false)))
 else
 (some (.bool false)) := by kernel_rfl
theorem Qqe (lb n : Nat) (a1 : LB) :
 top lb n QfQ [.str a1] =
 optO (C lb n Qbb [.str a1, .int .i64 2, .int .i64 2]) fun r2 =>
 optO (CV.asB r2) fun b3 =>
 bif b3 then
 (optO (atS a1 0) fun c4 =>
 optO (C lb n Qey [.int .u8 (c4.toNat : Int)]) fun r5 =>
 optO (CV.asB r5) fun b6 =>
 bif b6 then
 (some (.bool true))
 else
 (optO (atS a1 1) fun c7 =>
 optO (C lb n Qey [.int .u8 (c7.toNat : Int)]) fun r9 =>
 some (r9)))
 else
 (some (.bool false)) := by kernel_rfl
theorem Ql1 (lb n : Nat) (a1 : Int) :
 top lb n QeV [.int .u64 a1] =
 bif (decide (a1 < 10)) then
 (chkO (decide ((0 : Int) ≤ (IntKind.wrap .u64 (a1 + 1)) ∧ (IntKind.wrap .u64 (a1 + 1)) ≤ 10)) (
 chkO (decide ((0 : Int) ≤ a1 ∧ a1 ≤ (IntKind.wrap .u64 (a1 + 1)))) (
 some (.str ((([48, 49, 50, 51, 52, 53, 54, 55, 56, 57] : LB).take ((IntKind.wrap .u64 (a1 + 1)).toNat)).drop a1.toNat)))))
 else
 (optO (C lb n QeV [.int .u64 (IntKind.wrap .u64 (Int.tdiv a1 10))]) fun r2 =>
 chkO (decide ((0 : Int) ≤ (IntKind.wrap .u64 ((Int.tmod a1 10) + 1)) ∧ (IntKind.wrap .u64 ((Int.tmod a1 10) + 1)) ≤ 10)) (
 chkO (decide ((0 : Int) ≤ (Int.tmod a1 10) ∧ (Int.tmod a1 10) ≤ (IntKind.wrap .u64 ((Int.tmod a1 10) + 1)))) (
 optO (CV.asS r2) fun s3 =>
 chkO (decide (s3.length + ((([48, 49, 50, 51, 52, 53, 54, 55, 56, 57] : LB).take ((IntKind.wrap .u64 ((Int.tmod a1 10) + 1)).toNat)).drop ((Int.tmod a1 10).toNat)).length ≤ 9223372036854775807)) (
 some (.str (s3 ++ ((([48, 49, 50, 51, 52, 53, 54, 55, 56, 57] : LB).take ((IntKind.wrap .u64 ((Int.tmod a1 10) + 1)).toNat)).drop ((Int.tmod a1 10).toNat)))))))) := by kernel_rfl
theorem QoY (lb n : Nat) (a1 : LB) :
 top lb n Qcq [.str a1] =
 bif ((a1.length : Int) == 3) then
 (optO (C lb n Qai [.str a1, .fn Qb7]) fun r2 =>
 some (r2))
 else
 (some (.bool false)) := by kernel_rfl
theorem Qru (lb n : Nat) (a1 : LB) :
 top lb n QeX [.str a1] =
 bif (!(a1 == [])) then
 (optO (C lb n Qai [.str a1, .fn Qct]) fun r2 =>
 some (r2))
 else
 (some (.bool false)) := by kernel_rfl
noncomputable def QcL (lb n wk : Nat) (a1 : LB) (l17 : LL) (jv : Int) : Option CV :=
 hold (QaB (E0 lb n 0 993) 0 (Qaj (sub (B QbK) [1, 1, 1, 0, 1, 0, 0]) ++ [4, 5, 25, 36]) [] (sub (B QbK) [1, 1, 1, 0, 1, 0, 0]) (Qat 0 (seqK (E0 lb n 0 996) (sub (B QbK) [1, 1, 1, 0]) (sub (B QbK) [1, 1, 1, 1]) (retK Tryz.prog (R QbK) 0 (outK (Qad Tryz.prog QbK))))) wk ⟨fr 57 [(0, vS a1), (2, .val (.str [])), (3, .lst true false 5 l17), (6, vS a1), (7, .val (.int .i64 (a1.length : Int))), (8, .val (.int .i64 (IntKind.wrap .i64 ((a1.length : Int) + 2)))), (9, .val (.list false [])), (10, .val (.list false [])), (11, .lst true false 5 [[CV.int .u8 34]]), (12, .val (.list false [[CV.int .u8 34]])), (13, vS a1), (14, .val (.int .i64 (a1.length : Int))), (15, vI jv)], [bx 57 []], KK⟩)
noncomputable def QlX (lb n : Nat) (a1 : LB) (vz : Bool) (l31 : LL) : Option CV :=
 hold (E0 lb n 0 996 (sub (B QbK) [1, 1, 1, 1]) (retK Tryz.prog (R QbK) 0 (outK (Qad Tryz.prog QbK))) ⟨fr 57 [(0, vS a1), (2, .val (.str [])), (3, .lst true vz 5 l31), (6, vS a1), (7, .val (.int .i64 (a1.length : Int))), (8, .val (.int .i64 (IntKind.wrap .i64 ((a1.length : Int) + 2)))), (9, .val (.list false [])), (10, .val (.list false [])), (11, .lst true false 5 [[CV.int .u8 34]]), (12, .val (.list false [[CV.int .u8 34]]))], [bx 57 []], KK⟩)
theorem QoE (lb n : Nat) (a1 : LB) (vz : Bool) (l31 : LL) :
 QlX lb n a1 vz l31 =
 chkO (room (l31.length + 1) 1) (
 optO (bytesOf (l31 ++ [[CV.int .u8 34]])) fun nV =>
 some (.str nV)) := (Qab _).trans (by kernel_rfl)
theorem QhB (lb n wk : Nat) (a1 : LB) (l17 : LL) (jv : Int) :
 QcL lb n (wk + 1) a1 l17 jv =
 bif (decide (jv < (a1.length : Int))) then
 (optO (atS a1 jv) fun c25 =>
 bif ((c25.toNat : Int) == 34) then
 (chkO (room (l17.length + 2) 1) (
 QcL lb n wk a1 (l17 ++ [[CV.int .u8 92], [CV.int .u8 (c25.toNat : Int)]]) (IntKind.wrap .i64 (jv + 1))))
 else
 (bif ((c25.toNat : Int) == 92) then
 (chkO (room (l17.length + 2) 1) (
 QcL lb n wk a1 (l17 ++ [[CV.int .u8 92], [CV.int .u8 (c25.toNat : Int)]]) (IntKind.wrap .i64 (jv + 1))))
 else
 (bif (decide ((c25.toNat : Int) < 32)) then
 (optO (atS [48, 49, 50, 51, 52, 53, 54, 55, 56, 57, 97, 98, 99, 100, 101, 102] (Int.fdiv (c25.toNat : Int) (2 ^ 4))) fun c26 =>
 optO (atS [48, 49, 50, 51, 52, 53, 54, 55, 56, 57, 97, 98, 99, 100, 101, 102] (IntKind.wrap .u8 ((BitVec.ofInt 8 (c25.toNat : Int) &&& BitVec.ofInt 8 15).toNat))) fun c27 =>
 chkO (room (l17.length + 4) 1) (
 QcL lb n wk a1 (l17 ++ [[CV.int .u8 92], [CV.int .u8 120], [CV.int .u8 (c26.toNat : Int)], [CV.int .u8 (c27.toNat : Int)]]) (IntKind.wrap .i64 (jv + 1))))
 else
 (bif (decide ((c25.toNat : Int) > 126)) then
 (optO (atS [48, 49, 50, 51, 52, 53, 54, 55, 56, 57, 97, 98, 99, 100, 101, 102] (Int.fdiv (c25.toNat : Int) (2 ^ 4))) fun c28 =>
 optO (atS [48, 49, 50, 51, 52, 53, 54, 55, 56, 57, 97, 98, 99, 100, 101, 102] (IntKind.wrap .u8 ((BitVec.ofInt 8 (c25.toNat : Int) &&& BitVec.ofInt 8 15).toNat))) fun c29 =>
 chkO (room (l17.length + 4) 1) (
 QcL lb n wk a1 (l17 ++ [[CV.int .u8 92], [CV.int .u8 120], [CV.int .u8 (c28.toNat : Int)], [CV.int .u8 (c29.toNat : Int)]]) (IntKind.wrap .i64 (jv + 1))))
 else
 (chkO (room (l17.length + 1) 1) (
 QcL lb n wk a1 (l17 ++ [[CV.int .u8 (c25.toNat : Int)]]) (IntKind.wrap .i64 (jv + 1))))))))
 else
 (QlX lb n a1 false l17) := (Qab _).trans (by kernel_rfl)
theorem QrP (lb n : Nat) (a1 : LB) :
 top lb n QbK [.str a1] =
 chkO (decide (0 ≤ (0 : Int)) && decide ((0 : Int) ≤ ((IntKind.wrap .i64 ((a1.length : Int) + 2)) : Int)) && decide (((IntKind.wrap .i64 ((a1.length : Int) + 2)) : Int) * 1 ≤ 140737488355328) && decide (((IntKind.wrap .i64 ((a1.length : Int) + 2)) : Int) ≤ 140737488355328)) (
 QcL lb n n a1 [[CV.int .u8 34]] 0) := by kernel_rfl
noncomputable def Qfn (lb n w9 : Nat) (a1 : LB) (b2 i6 : Int) : Option CV :=
 hold (QaB (E0 lb n 0 995) 0 (Qaj (sub (B QbA) [1, 0, 1, 0, 0]) ++ []) [] (sub (B QbA) [1, 0, 1, 0, 0]) (Qat 0 (seqK (E0 lb n 0 998) (sub (B QbA) [1, 0]) (sub (B QbA) [1, 1]) (retK Tryz.prog (R QbA) 0 (outK (Qad Tryz.prog QbA))))) w9 ⟨fr 21 [(0, vS a1), (1, vI b2), (4, vB false), (5, vI i6)], [bx 21 []], KK⟩)
noncomputable def Qkr (lb n : Nat) (a1 : LB) (b2 i15 : Int) : Option CV :=
 hold (E0 lb n 0 998 (sub (B QbA) [1, 1]) (retK Tryz.prog (R QbA) 0 (outK (Qad Tryz.prog QbA))) ⟨fr 21 [(0, vS a1), (1, vI b2), (4, vB false), (5, vI i15)], [bx 21 []], KK⟩)
theorem Qnx (lb n : Nat) (a1 : LB) (b2 i15 : Int) :
 Qkr lb n a1 b2 i15 =
 some (.bool ((a1.length : Int) == b2)) := (Qab _).trans (by kernel_rfl)
theorem QgR (lb n w9 : Nat) (a1 : LB) (b2 i6 : Int) :
 Qfn lb n (w9 + 1) a1 b2 i6 =
 bif (decide (i6 < (a1.length : Int))) then
 (optO (atS a1 i6) fun c12 =>
 optO (C lb n Qey [.int .u8 (c12.toNat : Int)]) fun wi =>
 optO (CV.asB wi) fun yJ =>
 bif (!yJ) then
 (some (.bool false))
 else
 (Qfn lb n w9 a1 b2 (IntKind.wrap .i64 (i6 + 1))))
 else
 (Qkr lb n a1 b2 i6) := (Qab _).trans (by kernel_rfl)
theorem QqA (lb n : Nat) (a1 : LB) (b2 : Int) :
 top lb n QbA [.str a1, .int .i64 b2] =
 Qfn lb n n a1 b2 0 := by kernel_rfl
theorem Qtk (lb n : Nat) (a1 : Int) :
 top lb n Qey [.int .u8 a1] =
 bif (decide (a1 ≥ 65)) then
 (some (.bool (decide (a1 ≤ 90))))
 else
 (some (.bool false)) := by kernel_rfl
theorem Qs9 (lb n : Nat) (a1 : Int) :
 top lb n Qhh [.int .u8 a1] =
 bif (decide (a1 ≥ 48)) then
 (some (.bool (decide (a1 ≤ 57))))
 else
 (some (.bool false)) := by kernel_rfl
noncomputable def QgK (lb n wh : Nat) (a1 : LB) (i5 : Int) : Option CV :=
 hold (QaB (E0 lb n 0 995) 0 (Qaj (sub (B Qb4) [1, 0, 1, 0, 0]) ++ []) [] (sub (B Qb4) [1, 0, 1, 0, 0]) (Qat 0 (seqK (E0 lb n 0 998) (sub (B Qb4) [1, 0]) (sub (B Qb4) [1, 1]) (retK Tryz.prog (R Qb4) 0 (outK (Qad Tryz.prog Qb4))))) wh ⟨fr 28 [(0, vS a1), (2, vB false), (3, vI i5)], [bx 28 []], KK⟩)
noncomputable def Qmu (lb n : Nat) (a1 : LB) (wY : Int) : Option CV :=
 hold (E0 lb n 0 998 (sub (B Qb4) [1, 1]) (retK Tryz.prog (R Qb4) 0 (outK (Qad Tryz.prog Qb4))) ⟨fr 28 [(0, vS a1), (2, vB false), (3, vI wY)], [bx 28 []], KK⟩)
theorem Qp1 (lb n : Nat) (a1 : LB) (wY : Int) :
 Qmu lb n a1 wY =
 some (.bool (!(a1 == []))) := (Qab _).trans (by kernel_rfl)
theorem Qii (lb n wh : Nat) (a1 : LB) (i5 : Int) :
 QgK lb n (wh + 1) a1 i5 =
 bif (decide (i5 < (a1.length : Int))) then
 (optO (atS a1 i5) fun c11 =>
 bif (decide ((c11.toNat : Int) < 33)) then
 (some (.bool false))
 else
 (optO (atS a1 i5) fun c12 =>
 bif (decide ((c12.toNat : Int) > 126)) then
 (some (.bool false))
 else
 (optO (atS a1 i5) fun c13 =>
 bif ((c13.toNat : Int) == 34) then
 (some (.bool false))
 else
 (QgK lb n wh a1 (IntKind.wrap .i64 (i5 + 1))))))
 else
 (Qmu lb n a1 i5) := (Qab _).trans (by kernel_rfl)
theorem Qsj (lb n : Nat) (a1 : LB) :
 top lb n Qb4 [.str a1] =
 QgK lb n n a1 0 := by kernel_rfl
noncomputable def Qc4 (lb n wk : Nat) (a1 : LB) (l17 : LL) (jv : Int) : Option CV :=
 hold (QaB (E0 lb n 0 994) 0 (Qaj (sub (B QbL) [1, 1, 0, 1, 0, 0]) ++ [5]) [] (sub (B QbL) [1, 1, 0, 1, 0, 0]) (Qat 0 (seqK (E0 lb n 0 997) (sub (B QbL) [1, 1, 0]) (sub (B QbL) [1, 1, 1]) (retK Tryz.prog (R QbL) 0 (outK (Qad Tryz.prog QbL))))) wk ⟨fr 48 [(0, vS a1), (2, .val (.str [])), (3, .lst true false 5 l17), (4, vI jv), (6, .val (.list false [[CV.int .u8 34]]))], [bx 48 []], KK⟩)
noncomputable def Qms (lb n : Nat) (a1 : LB) (vz : Bool) (l31 : LL) (vC : Int) : Option CV :=
 hold (E0 lb n 0 997 (sub (B QbL) [1, 1, 1]) (retK Tryz.prog (R QbL) 0 (outK (Qad Tryz.prog QbL))) ⟨fr 48 [(0, vS a1), (2, .val (.str [])), (3, .lst true vz 5 l31), (4, vI vC), (6, .val (.list false [[CV.int .u8 34]]))], [bx 48 []], KK⟩)
theorem QpE (lb n : Nat) (a1 : LB) (vz : Bool) (l31 : LL) (vC : Int) :
 Qms lb n a1 vz l31 vC =
 chkO (room (l31.length + 1) 1) (
 optO (bytesOf (l31 ++ [[CV.int .u8 34]])) fun pK =>
 some (.str pK)) := (Qab _).trans (by kernel_rfl)
theorem Qih (lb n wk : Nat) (a1 : LB) (l17 : LL) (jv : Int) :
 Qc4 lb n (wk + 1) a1 l17 jv =
 bif (decide (jv < (a1.length : Int))) then
 (optO (atS a1 jv) fun c25 =>
 bif (decide ((c25.toNat : Int) < 32)) then
 (optO (atS [48, 49, 50, 51, 52, 53, 54, 55, 56, 57, 97, 98, 99, 100, 101, 102] (IntKind.wrap .u8 (Int.tdiv (c25.toNat : Int) 16))) fun c26 =>
 optO (atS [48, 49, 50, 51, 52, 53, 54, 55, 56, 57, 97, 98, 99, 100, 101, 102] (Int.tmod (c25.toNat : Int) 16)) fun c27 =>
 chkO (room (l17.length + 4) 1) (
 Qc4 lb n wk a1 (l17 ++ [[CV.int .u8 92], [CV.int .u8 120], [CV.int .u8 (c26.toNat : Int)], [CV.int .u8 (c27.toNat : Int)]]) (IntKind.wrap .i64 (jv + 1))))
 else
 (bif (decide ((c25.toNat : Int) > 126)) then
 (optO (atS [48, 49, 50, 51, 52, 53, 54, 55, 56, 57, 97, 98, 99, 100, 101, 102] (IntKind.wrap .u8 (Int.tdiv (c25.toNat : Int) 16))) fun c28 =>
 optO (atS [48, 49, 50, 51, 52, 53, 54, 55, 56, 57, 97, 98, 99, 100, 101, 102] (Int.tmod (c25.toNat : Int) 16)) fun c29 =>
 chkO (room (l17.length + 4) 1) (
 Qc4 lb n wk a1 (l17 ++ [[CV.int .u8 92], [CV.int .u8 120], [CV.int .u8 (c28.toNat : Int)], [CV.int .u8 (c29.toNat : Int)]]) (IntKind.wrap .i64 (jv + 1))))
 else
 (bif ((c25.toNat : Int) == 34) then
 (chkO (room (l17.length + 1) 1) (
 chkO (room ((l17 ++ [[CV.int .u8 92]]).length + 1) 1) (
 Qc4 lb n wk a1 ((l17 ++ [[CV.int .u8 92]]) ++ [[CV.int .u8 (c25.toNat : Int)]]) (IntKind.wrap .i64 (jv + 1)))))
 else
 (bif ((c25.toNat : Int) == 92) then
 (chkO (room (l17.length + 1) 1) (
 chkO (room ((l17 ++ [[CV.int .u8 92]]).length + 1) 1) (
 Qc4 lb n wk a1 ((l17 ++ [[CV.int .u8 92]]) ++ [[CV.int .u8 (c25.toNat : Int)]]) (IntKind.wrap .i64 (jv + 1)))))
 else
 (chkO (room (l17.length + 1) 1) (
 Qc4 lb n wk a1 (l17 ++ [[CV.int .u8 (c25.toNat : Int)]]) (IntKind.wrap .i64 (jv + 1))))))))
 else
 (Qms lb n a1 false l17 jv) := (Qab _).trans (by kernel_rfl)
theorem Qtg (lb n : Nat) (a1 : LB) :
 top lb n QbL [.str a1] =
 Qc4 lb n n a1 [[CV.int .u8 34]] 0 := by kernel_rfl
noncomputable def Qbi (lb n yk : Nat) (a1 : LB) (w7 : Bool) (l59 : LL) (i60 : Int) (wJ wQ : Bool) (jL : Nat) : Option CV :=
 hold (QaB (E0 lb n 0 991) 0 (Qaj (sub (B Qcl) [1, 0, 1, 1, 1, 0, 1, 0, 0]) ++ [8, 9, 16, 23, 25, 31, 36]) [] (sub (B Qcl) [1, 0, 1, 1, 1, 0, 1, 0, 0]) (Qat 0 (seqK (E0 lb n 0 994) (sub (B Qcl) [1, 0, 1, 1, 1, 0]) (sub (B Qcl) [1, 0, 1, 1, 1, 1]) (retK Tryz.prog (R Qcl) 0 (outK (Qad Tryz.prog Qcl))))) yk ⟨fr 58 [(0, vS a1), (2, .lst true true 9 []), (3, vB false), (4, .lst true w7 9 l59), (5, vI i60), (6, vB wJ), (7, vB wQ), (10, vS a1), (11, .siter a1 jL)], [bx 58 []], KK⟩)
noncomputable def QnN (lb n : Nat) (a1 : LB) (vM : Bool) (l67 : LL) (i68 : Int) (gc vk : Bool) : Option CV :=
 hold (E0 lb n 0 994 (sub (B Qcl) [1, 0, 1, 1, 1, 1]) (retK Tryz.prog (R Qcl) 0 (outK (Qad Tryz.prog Qcl))) ⟨fr 58 [(0, vS a1), (2, .lst true true 9 []), (3, vB false), (4, .lst true vM 9 l67), (5, vI i68), (6, vB gc), (7, vB vk)], [bx 58 []], KK⟩)
theorem Qqj (lb n : Nat) (a1 : LB) (vM : Bool) (l67 : LL) (i68 : Int) (gc vk : Bool) :
 QnN lb n a1 vM l67 i68 gc vk =
 chkO (decide ((0 : Int) ≤ i68 ∧ i68 ≤ (a1.length : Int))) (
 chkO (room (l67.length + 1) 16) (
 some (.tup [.list (vM && false) (l67 ++ [[CV.str ((a1.take ((a1.length : Int).toNat)).drop i68.toNat)]]), .bool true]))) := (Qab _).trans (by kernel_rfl)
theorem Qcn (lb n yk : Nat) (a1 : LB) (w7 : Bool) (l59 : LL) (i60 : Int) (wJ wQ : Bool) (jL : Nat) :
 Qbi lb n (yk + 1) a1 w7 l59 i60 wJ wQ jL =
 bif (decide (jL < a1.length)) then
 (bif (decide ((((Utf8.decode ⟨a1.toArray⟩ jL).1 : Nat) : Int) < 32)) then
 (some (.tup [.list true [], .bool false]))
 else
 (bif (decide ((((Utf8.decode ⟨a1.toArray⟩ jL).1 : Nat) : Int) > 126)) then
 (some (.tup [.list true [], .bool false]))
 else
 (bif wQ then
 (Qbi lb n yk a1 w7 l59 i60 wJ false (jL + (Utf8.decode ⟨a1.toArray⟩ jL).2))
 else
 (bif wJ then
 (bif ((((Utf8.decode ⟨a1.toArray⟩ jL).1 : Nat) : Int) == 92) then
 (Qbi lb n yk a1 w7 l59 i60 wJ true (jL + (Utf8.decode ⟨a1.toArray⟩ jL).2))
 else
 (bif ((((Utf8.decode ⟨a1.toArray⟩ jL).1 : Nat) : Int) == 34) then
 (Qbi lb n yk a1 w7 l59 i60 (!wJ) wQ (jL + (Utf8.decode ⟨a1.toArray⟩ jL).2))
 else
 (bif ((((Utf8.decode ⟨a1.toArray⟩ jL).1 : Nat) : Int) == 32) then
 (bif (!wJ) then
 (chkO (decide ((0 : Int) ≤ ((jL : Nat) : Int) ∧ ((jL : Nat) : Int) ≤ (a1.length : Int))) (
 chkO (decide ((0 : Int) ≤ i60 ∧ i60 ≤ ((jL : Nat) : Int))) (
 chkO (room (l59.length + 1) 16) (
 Qbi lb n yk a1 (w7 && false) (l59 ++ [[CV.str ((a1.take (((jL : Nat) : Int).toNat)).drop i60.toNat)]]) (IntKind.wrap .i64 (((jL : Nat) : Int) + 1)) wJ wQ (jL + (Utf8.decode ⟨a1.toArray⟩ jL).2)))))
 else
 (Qbi lb n yk a1 w7 l59 i60 wJ wQ (jL + (Utf8.decode ⟨a1.toArray⟩ jL).2)))
 else
 (Qbi lb n yk a1 w7 l59 i60 wJ wQ (jL + (Utf8.decode ⟨a1.toArray⟩ jL).2)))))
 else
 (bif ((((Utf8.decode ⟨a1.toArray⟩ jL).1 : Nat) : Int) == 34) then
 (Qbi lb n yk a1 w7 l59 i60 (!wJ) wQ (jL + (Utf8.decode ⟨a1.toArray⟩ jL).2))
 else
 (bif ((((Utf8.decode ⟨a1.toArray⟩ jL).1 : Nat) : Int) == 32) then
 (bif (!wJ) then
 (chkO (decide ((0 : Int) ≤ ((jL : Nat) : Int) ∧ ((jL : Nat) : Int) ≤ (a1.length : Int))) (
 chkO (decide ((0 : Int) ≤ i60 ∧ i60 ≤ ((jL : Nat) : Int))) (
 chkO (room (l59.length + 1) 16) (
 Qbi lb n yk a1 (w7 && false) (l59 ++ [[CV.str ((a1.take (((jL : Nat) : Int).toNat)).drop i60.toNat)]]) (IntKind.wrap .i64 (((jL : Nat) : Int) + 1)) wJ wQ (jL + (Utf8.decode ⟨a1.toArray⟩ jL).2)))))
 else
 (Qbi lb n yk a1 w7 l59 i60 wJ wQ (jL + (Utf8.decode ⟨a1.toArray⟩ jL).2)))
 else
 (Qbi lb n yk a1 w7 l59 i60 wJ wQ (jL + (Utf8.decode ⟨a1.toArray⟩ jL).2))))))))
 else
 (QnN lb n a1 w7 l59 i60 wJ wQ) := (Qab _).trans (by kernel_rfl)
theorem Qt1 (lb n : Nat) (a1 : LB) :
 top lb n Qcl [.str a1] =
 Qbi lb n n a1 true [] 0 false false 0 := by kernel_rfl
noncomputable def QdL (lb n wv : Nat) (a1 : LB) (l15 : LL) (i17 : Int) : Option CV :=
 hold (QaB (E0 lb n 0 992) 0 (Qaj (sub (B Qbm) [1, 1, 1, 1, 0, 1, 0, 0]) ++ [7, 8, 9, 7]) [] (sub (B Qbm) [1, 1, 1, 1, 0, 1, 0, 0]) (Qat 0 (seqK (E0 lb n 0 995) (sub (B Qbm) [1, 1, 1, 1, 0]) (sub (B Qbm) [1, 1, 1, 1, 1]) (retK Tryz.prog (R Qbm) 0 (outK (Qad Tryz.prog Qbm))))) wv ⟨fr 75 [(0, vS a1), (2, .val (.str [])), (3, vI 0), (4, .val (.str ((a1.take ((IntKind.wrap .i64 ((a1.length : Int) - 1)).toNat)).drop 1))), (5, .lst true false 5 l15), (6, vI i17), (26, vS a1), (27, vS a1), (28, .val (.int .i64 (a1.length : Int))), (29, .val (.int .i64 (IntKind.wrap .i64 ((a1.length : Int) - 1)))), (30, .val (.str ((a1.take ((IntKind.wrap .i64 ((a1.length : Int) - 1)).toNat)).drop 1))), (31, .val (.str ((a1.take ((IntKind.wrap .i64 ((a1.length : Int) - 1)).toNat)).drop 1))), (32, .val (.int .i64 (((a1.take ((IntKind.wrap .i64 ((a1.length : Int) - 1)).toNat)).drop 1).length : Int))), (33, .val (.list false []))], [bx 75 []], KK⟩)
noncomputable def QjT (lb n : Nat) (a1 : LB) (vg : Bool) (oP : LL) (yh : Int) : Option CV :=
 hold (E0 lb n 0 995 (sub (B Qbm) [1, 1, 1, 1, 1]) (retK Tryz.prog (R Qbm) 0 (outK (Qad Tryz.prog Qbm))) ⟨fr 75 [(0, vS a1), (2, .val (.str [])), (3, vI 0), (4, .val (.str ((a1.take ((IntKind.wrap .i64 ((a1.length : Int) - 1)).toNat)).drop 1))), (5, .lst true vg 5 oP), (6, vI yh), (26, vS a1), (27, vS a1), (28, .val (.int .i64 (a1.length : Int))), (29, .val (.int .i64 (IntKind.wrap .i64 ((a1.length : Int) - 1)))), (30, .val (.str ((a1.take ((IntKind.wrap .i64 ((a1.length : Int) - 1)).toNat)).drop 1))), (31, .val (.str ((a1.take ((IntKind.wrap .i64 ((a1.length : Int) - 1)).toNat)).drop 1))), (32, .val (.int .i64 (((a1.take ((IntKind.wrap .i64 ((a1.length : Int) - 1)).toNat)).drop 1).length : Int))), (33, .val (.list false []))], [bx 75 []], KK⟩)
theorem Qmg (lb n : Nat) (a1 : LB) (vg : Bool) (oP : LL) (yh : Int) :
 QjT lb n a1 vg oP yh =
 optO (bytesOf oP) fun s39 =>
 some (.tup [.str s39, .int .i64 0]) := (Qab _).trans (by kernel_rfl)
theorem Qcy (lb n wv : Nat) (a1 : LB) (l15 : LL) (i17 : Int) :
 QdL lb n (wv + 1) a1 l15 i17 =
 bif (decide (i17 < (((a1.take ((IntKind.wrap .i64 ((a1.length : Int) - 1)).toNat)).drop 1).length : Int))) then
 (optO (atS ((a1.take ((IntKind.wrap .i64 ((a1.length : Int) - 1)).toNat)).drop 1) i17) fun c27 =>
 bif ((c27.toNat : Int) == 34) then
 (some (.tup [.str [], .int .i64 3]))
 else
 (bif (decide ((c27.toNat : Int) < 32)) then
 (some (.tup [.str [], .int .i64 3]))
 else
 (bif (decide ((c27.toNat : Int) > 126)) then
 (some (.tup [.str [], .int .i64 3]))
 else
 (bif ((c27.toNat : Int) == 92) then
 (chkO (decide ((0 : Int) ≤ (IntKind.wrap .i64 (i17 + 1)) ∧ (IntKind.wrap .i64 (i17 + 1)) ≤ (((a1.take ((IntKind.wrap .i64 ((a1.length : Int) - 1)).toNat)).drop 1).length : Int))) (
 optO (C lb n QhZ [.str ((((a1.take ((IntKind.wrap .i64 ((a1.length : Int) - 1)).toNat)).drop 1).take ((((a1.take ((IntKind.wrap .i64 ((a1.length : Int) - 1)).toNat)).drop 1).length : Int).toNat)).drop ((IntKind.wrap .i64 (i17 + 1)).toNat))]) fun wU =>
 optO (CV.asT wU) fun kD =>
 optO (kD[0]?) fun jI =>
 optO (CV.asT wU) fun t31 =>
 optO (t31[1]?) fun jN =>
 optO (CV.asI .i64 jN) fun o8 =>
 bif (o8 == 0) then
 (some (.tup [.str [], .int .i64 3]))
 else
 (optO (CV.asI .i64 jN) fun gu =>
 chkO (CV.isCell jI) (
 chkO (room (l15.length + 1) 1) (
 QdL lb n wv a1 (l15 ++ [[jI]]) (IntKind.wrap .i64 ((IntKind.wrap .i64 (i17 + gu)) + 1)))))))
 else
 (chkO (room (l15.length + 1) 1) (
 QdL lb n wv a1 (l15 ++ [[CV.int .u8 (c27.toNat : Int)]]) (IntKind.wrap .i64 (i17 + 1))))))))
 else
 (QjT lb n a1 false l15 i17) := (Qab _).trans (by kernel_rfl)
theorem QpA (lb n : Nat) (a1 : LB) :
 top lb n Qbm [.str a1] =
 bif (decide ((a1.length : Int) < 2)) then
 (some (.tup [.str [], .int .i64 3]))
 else
 (optO (atS a1 0) fun c2 =>
 bif ((c2.toNat : Int) != 34) then
 (some (.tup [.str [], .int .i64 3]))
 else
 (optO (atS a1 (IntKind.wrap .i64 ((a1.length : Int) - 1))) fun c3 =>
 bif ((c3.toNat : Int) != 34) then
 (some (.tup [.str [], .int .i64 3]))
 else
 (chkO (decide ((0 : Int) ≤ (IntKind.wrap .i64 ((a1.length : Int) - 1)) ∧ (IntKind.wrap .i64 ((a1.length : Int) - 1)) ≤ (a1.length : Int))) (
 chkO (decide ((0 : Int) ≤ 1 ∧ 1 ≤ (IntKind.wrap .i64 ((a1.length : Int) - 1)))) (
 chkO (decide (0 ≤ (0 : Int)) && decide ((0 : Int) ≤ ((((a1.take ((IntKind.wrap .i64 ((a1.length : Int) - 1)).toNat)).drop 1).length : Int) : Int)) && decide (((((a1.take ((IntKind.wrap .i64 ((a1.length : Int) - 1)).toNat)).drop 1).length : Int) : Int) * 1 ≤ 140737488355328) && decide (((((a1.take ((IntKind.wrap .i64 ((a1.length : Int) - 1)).toNat)).drop 1).length : Int) : Int) ≤ 140737488355328)) (
 QdL lb n n a1 [] 0)))))) := by kernel_rfl
theorem Qrw (lb n : Nat) (a1 : Int) :
 top lb n Qcd [.int .u8 a1] =
 bif (decide (a1 ≥ 48)) then
 (some (.bool (decide (a1 ≤ 57))))
 else
 (some (.bool false)) := by kernel_rfl
noncomputable def Qgt (lb n w9 : Nat) (a1 : LB) (b2 : Int) (c3 : UInt8) (i7 : Int) : Option CV :=
 hold (QaB (E0 lb n 0 991) 0 (Qaj (sub (B QaI) [1, 1, 0, 1, 0, 1, 0, 0, 0]) ++ []) [] (sub (B QaI) [1, 1, 0, 1, 0, 1, 0, 0, 0]) (Qat 0 (seqK (E0 lb n 0 993) (sub (B QaI) [1, 1, 0, 1, 0, 1, 0]) (sub (B QaI) [1, 1, 0, 1, 0, 1, 1]) (Qem (sub (B QaI) [1, 1, 0, 1, 0]) (sub (B QaI) [1, 1, 0, 1, 1]) (seqK (E0 lb n 0 997) (sub (B QaI) [1, 1, 0]) (sub (B QaI) [1, 1, 1]) (retK Tryz.prog (R QaI) 0 (outK (Qad Tryz.prog QaI))))))) w9 ⟨fr 58 [(0, vS a1), (1, vI b2), (4, vI 0), (5, vI i7), (6, vI b2), (7, vI b2), (8, vS a1), (9, .val (.int .i64 (a1.length : Int))), (10, .val (.bool (decide (b2 < (a1.length : Int))))), (11, vB true), (12, vS a1), (13, vI b2), (14, .val (.int .u8 (c3.toNat : Int))), (15, .val (.bool ((c3.toNat : Int) == 34))), (16, .val (.bool ((c3.toNat : Int) == 34))), (17, vI b2), (18, .val (.int .i64 (IntKind.wrap .i64 (b2 + 1))))], [bx 58 []], KK⟩)
noncomputable def Qln (lb n : Nat) (a1 : LB) (b2 : Int) (c3 : UInt8) (wY : Int) : Option CV :=
 hold (E0 lb n 0 993 (sub (B QaI) [1, 1, 0, 1, 0, 1, 1]) (Qem (sub (B QaI) [1, 1, 0, 1, 0]) (sub (B QaI) [1, 1, 0, 1, 1]) (seqK (E0 lb n 0 997) (sub (B QaI) [1, 1, 0]) (sub (B QaI) [1, 1, 1]) (retK Tryz.prog (R QaI) 0 (outK (Qad Tryz.prog QaI))))) ⟨fr 58 [(0, vS a1), (1, vI b2), (4, vI 0), (5, vI wY), (6, vI b2), (7, vI b2), (8, vS a1), (9, .val (.int .i64 (a1.length : Int))), (10, .val (.bool (decide (b2 < (a1.length : Int))))), (11, vB true), (12, vS a1), (13, vI b2), (14, .val (.int .u8 (c3.toNat : Int))), (15, .val (.bool ((c3.toNat : Int) == 34))), (16, .val (.bool ((c3.toNat : Int) == 34))), (17, vI b2), (18, .val (.int .i64 (IntKind.wrap .i64 (b2 + 1))))], [bx 58 []], KK⟩)
theorem Qh0 (lb n : Nat) (a1 : LB) (b2 : Int) (c3 : UInt8) (wY : Int) :
 Qln lb n a1 b2 c3 wY =
 bif (decide (wY ≥ (a1.length : Int))) then
 (some (.int .i64 (a1.length : Int)))
 else
 (some (.int .i64 (IntKind.wrap .i64 (wY + 1)))) := (Qab _).trans (by kernel_rfl)
theorem Qc5 (lb n w9 : Nat) (a1 : LB) (b2 : Int) (c3 : UInt8) (i7 : Int) :
 Qgt lb n (w9 + 1) a1 b2 c3 i7 =
 bif (decide (i7 < (a1.length : Int))) then
 (optO (atS a1 i7) fun c12 =>
 bif ((c12.toNat : Int) != 34) then
 (optO (atS a1 i7) fun c13 =>
 bif ((c13.toNat : Int) == 92) then
 (Qgt lb n w9 a1 b2 c3 (IntKind.wrap .i64 ((IntKind.wrap .i64 (i7 + 1)) + 1)))
 else
 (Qgt lb n w9 a1 b2 c3 (IntKind.wrap .i64 (i7 + 1))))
 else
 (Qln lb n a1 b2 c3 i7))
 else
 (Qln lb n a1 b2 c3 i7) := (Qab _).trans (by kernel_rfl)
noncomputable def Qll (lb n : Nat) (a1 : LB) (b2 : Int) : Option CV :=
 hold (E0 lb n 0 997 (sub (B QaI) [1, 1, 1]) (retK Tryz.prog (R QaI) 0 (outK (Qad Tryz.prog QaI))) ⟨fr 58 [(0, vS a1), (1, vI b2), (4, vI 0), (5, vI b2), (6, vI b2)], [bx 58 []], KK⟩)
noncomputable def Qiq (lb n wo : Nat) (a1 : LB) (b2 i17 : Int) : Option CV :=
 hold (QaB (E0 lb n 0 994) 0 (Qaj (sub (B QaI) [1, 1, 1, 0, 0, 0]) ++ []) [] (sub (B QaI) [1, 1, 1, 0, 0, 0]) (Qat 2 (seqK (E0 lb n 0 996) (sub (B QaI) [1, 1, 1, 0]) (sub (B QaI) [1, 1, 1, 1]) (retK Tryz.prog (R QaI) 0 (outK (Qad Tryz.prog QaI))))) wo ⟨fr 58 [(0, vS a1), (1, vI b2), (4, vI 0), (5, vI i17), (6, vI b2)], [bx 58 []], KK⟩)
noncomputable def Qlp (lb n : Nat) (a1 : LB) (b2 i21 : Int) : Option CV :=
 hold (E0 lb n 0 996 (sub (B QaI) [1, 1, 1, 1]) (retK Tryz.prog (R QaI) 0 (outK (Qad Tryz.prog QaI))) ⟨fr 58 [(0, vS a1), (1, vI b2), (4, vI 0), (5, vI i21), (6, vI b2)], [bx 58 []], KK⟩)
theorem QlK (lb n : Nat) (a1 : LB) (b2 i21 : Int) :
 Qlp lb n a1 b2 i21 =
 some (.int .i64 i21) := (Qab _).trans (by kernel_rfl)
theorem Qjv (lb n wo : Nat) (a1 : LB) (b2 i17 : Int) :
 Qiq lb n (wo + 1) a1 b2 i17 =
 bif (decide (i17 < (a1.length : Int))) then
 (optO (atS a1 i17) fun c20 =>
 bif ((c20.toNat : Int) != 32) then
 (Qiq lb n wo a1 b2 (IntKind.wrap .i64 (i17 + 1)))
 else
 (Qlp lb n a1 b2 i17))
 else
 (Qlp lb n a1 b2 i17) := (Qab _).trans (by kernel_rfl)
theorem QlB (lb n : Nat) (a1 : LB) (b2 : Int) :
 Qll lb n a1 b2 =
 Qiq lb n n a1 b2 b2 := (Qab _).trans (by kernel_rfl)
theorem Qvr (lb n : Nat) (a1 : LB) (b2 : Int) :
 top lb n QaI [.str a1, .int .i64 b2] =
 bif (decide (b2 < (a1.length : Int))) then
 (optO (atS a1 b2) fun c3 =>
 bif ((c3.toNat : Int) == 34) then
 (Qgt lb n n a1 b2 c3 (IntKind.wrap .i64 (b2 + 1)))
 else
 (Qll lb n a1 b2 ))
 else
 (Qll lb n a1 b2 ) := by kernel_rfl
noncomputable def Qcs (lb n vN : Nat) (a1 : LB) (yS : Bool) (l27 : LL) (j3 : Int) : Option CV :=
 hold (QaB (E0 lb n 0 994) 0 (Qaj (sub (B Qbk) [1, 1, 0, 1, 0, 0]) ++ []) [] (sub (B Qbk) [1, 1, 0, 1, 0, 0]) (Qat 0 (seqK (E0 lb n 0 997) (sub (B Qbk) [1, 1, 0]) (sub (B Qbk) [1, 1, 1]) (retK Tryz.prog (R Qbk) 0 (outK (Qad Tryz.prog Qbk))))) vN ⟨fr 81 [(0, vS a1), (2, .val (.str [])), (3, vI 0), (4, .lst true yS 5 l27), (5, vI j3)], [bx 81 []], KK⟩)
noncomputable def QkC (lb n : Nat) (a1 : LB) (kt : Bool) (kp : LL) (yI : Int) : Option CV :=
 hold (E0 lb n 0 997 (sub (B Qbk) [1, 1, 1]) (retK Tryz.prog (R Qbk) 0 (outK (Qad Tryz.prog Qbk))) ⟨fr 81 [(0, vS a1), (2, .val (.str [])), (3, vI 0), (4, .lst true kt 5 kp), (5, vI yI)], [bx 81 []], KK⟩)
theorem Qnp (lb n : Nat) (a1 : LB) (kt : Bool) (kp : LL) (yI : Int) :
 QkC lb n a1 kt kp yI =
 optO (bytesOf kp) fun o7 =>
 optO (C lb n QbL [.str o7]) fun oZ =>
 optO (CV.asS oZ) fun s69 =>
 bif (!(s69 == a1)) then
 (some (.tup [.str [], .int .i64 3]))
 else
 (optO (bytesOf kp) fun gK =>
 some (.tup [.str gK, .int .i64 0])) := (Qab _).trans (by kernel_rfl)
theorem Qbw (lb n vN : Nat) (a1 : LB) (yS : Bool) (l27 : LL) (j3 : Int) :
 Qcs lb n (vN + 1) a1 yS l27 j3 =
 bif (decide (j3 < (IntKind.wrap .i64 ((a1.length : Int) - 1)))) then
 (optO (atS a1 j3) fun c47 =>
 bif ((c47.toNat : Int) != 92) then
 (optO (atS a1 j3) fun c48 =>
 chkO (room (l27.length + 1) 1) (
 Qcs lb n vN a1 (yS && false) (l27 ++ [[CV.int .u8 (c48.toNat : Int)]]) (IntKind.wrap .i64 (j3 + 1))))
 else
 (optO (atS a1 (IntKind.wrap .i64 (j3 + 1))) fun c49 =>
 bif ((c49.toNat : Int) != 120) then
 (optO (atS a1 (IntKind.wrap .i64 (j3 + 1))) fun c50 =>
 chkO (room (l27.length + 1) 1) (
 Qcs lb n vN a1 (yS && false) (l27 ++ [[CV.int .u8 (c50.toNat : Int)]]) (IntKind.wrap .i64 ((IntKind.wrap .i64 (j3 + 1)) + 1))))
 else
 (bif (decide ((IntKind.wrap .i64 ((IntKind.wrap .i64 (j3 + 1)) + 2)) ≥ (a1.length : Int))) then
 (some (.tup [.str [], .int .i64 3]))
 else
 (optO (atS a1 (IntKind.wrap .i64 ((IntKind.wrap .i64 (j3 + 1)) + 1))) fun c51 =>
 optO (C lb n QbW [.int .u8 (c51.toNat : Int)]) fun vG =>
 optO (CV.asI .i64 vG) fun i53 =>
 bif (decide (i53 < 0)) then
 (some (.tup [.str [], .int .i64 3]))
 else
 (optO (atS a1 (IntKind.wrap .i64 ((IntKind.wrap .i64 (j3 + 1)) + 2))) fun c54 =>
 optO (C lb n QbW [.int .u8 (c54.toNat : Int)]) fun yp =>
 optO (CV.asI .i64 yp) fun nM =>
 bif (decide (nM < 0)) then
 (some (.tup [.str [], .int .i64 3]))
 else
 (optO (atS a1 (IntKind.wrap .i64 ((IntKind.wrap .i64 (j3 + 1)) + 1))) fun c57 =>
 optO (C lb n QbW [.int .u8 (c57.toNat : Int)]) fun kr =>
 optO (CV.asI .i64 kr) fun mQ =>
 optO (atS a1 (IntKind.wrap .i64 ((IntKind.wrap .i64 (j3 + 1)) + 2))) fun c60 =>
 optO (C lb n QbW [.int .u8 (c60.toNat : Int)]) fun kG =>
 optO (CV.asI .i64 kG) fun gm =>
 chkO (room (l27.length + 1) 1) (
 Qcs lb n vN a1 (yS && false) (l27 ++ [[CV.int .u8 (IntKind.wrap .u8 (IntKind.wrap .i64 ((IntKind.wrap .i64 (16 * mQ)) + gm)))]]) (IntKind.wrap .i64 ((IntKind.wrap .i64 ((IntKind.wrap .i64 (j3 + 1)) + 2)) + 1)))))))))
 else
 (QkC lb n a1 yS l27 j3) := (Qab _).trans (by kernel_rfl)
theorem Qql (lb n : Nat) (a1 : LB) :
 top lb n Qbk [.str a1] =
 Qcs lb n n a1 true [] 1 := by kernel_rfl
theorem Qp7 (lb n : Nat) (a1 : Int) :
 top lb n QcN [.int .u8 a1] =
 optO (C lb n Qb7 [.int .u8 a1]) fun r2 =>
 optO (CV.asB r2) fun b3 =>
 bif b3 then
 (some (.bool true))
 else
 (optO (C lb n Qcd [.int .u8 a1]) fun r4 =>
 some (r4)) := by kernel_rfl
theorem QoS (lb n : Nat) (a1 : Int) :
 top lb n Qb7 [.int .u8 a1] =
 bif (decide (a1 ≥ 65)) then
 (some (.bool (decide (a1 ≤ 90))))
 else
 (some (.bool false)) := by kernel_rfl
theorem QpI (lb n : Nat) (a1 : Int) :
 top lb n Qct [.int .u8 a1] =
 bif (decide (a1 > 32)) then
 (bif (decide (a1 ≤ 126)) then
 (some (.bool (a1 != 34)))
 else
 (some (.bool false)))
 else
 (some (.bool false)) := by kernel_rfl
theorem QqC (lb n : Nat) (a1 : LB) :
 top lb n QhZ [.str a1] =
 bif (a1 == []) then
 (some (.tup [.int .u8 0, .int .i64 0]))
 else
 (optO (atS a1 0) fun c2 =>
 bif ((c2.toNat : Int) == 34) then
 (optO (atS a1 0) fun c3 =>
 some (.tup [.int .u8 (c3.toNat : Int), .int .i64 1]))
 else
 (optO (atS a1 0) fun c4 =>
 bif ((c4.toNat : Int) == 92) then
 (optO (atS a1 0) fun c5 =>
 some (.tup [.int .u8 (c5.toNat : Int), .int .i64 1]))
 else
 (optO (atS a1 0) fun c6 =>
 bif ((c6.toNat : Int) != 120) then
 (some (.tup [.int .u8 0, .int .i64 0]))
 else
 (bif (decide ((a1.length : Int) < 3)) then
 (some (.tup [.int .u8 0, .int .i64 0]))
 else
 (optO (atS a1 1) fun c7 =>
 optO (C lb n QcQ [.str [48, 49, 50, 51, 52, 53, 54, 55, 56, 57, 97, 98, 99, 100, 101, 102], .int .u8 (c7.toNat : Int)]) fun r9 =>
 optO (atS a1 2) fun c10 =>
 optO (C lb n QcQ [.str [48, 49, 50, 51, 52, 53, 54, 55, 56, 57, 97, 98, 99, 100, 101, 102], .int .u8 (c10.toNat : Int)]) fun jE =>
 optO (CV.asI .i64 r9) fun jP =>
 bif (decide (jP < 0)) then
 (some (.tup [.int .u8 0, .int .i64 0]))
 else
 (optO (CV.asI .i64 jE) fun wq =>
 bif (decide (wq < 0)) then
 (some (.tup [.int .u8 0, .int .i64 0]))
 else
 (optO (CV.asI .i64 r9) fun wY =>
 optO (CV.asI .i64 jE) fun i15 =>
 bif (decide ((IntKind.wrap .u8 (IntKind.wrap .i64 ((BitVec.ofInt 64 (IntKind.wrap .i64 (wY * 2 ^ 4)) ||| BitVec.ofInt 64 i15).toNat))) ≥ 32)) then
 (bif (decide ((IntKind.wrap .u8 (IntKind.wrap .i64 ((BitVec.ofInt 64 (IntKind.wrap .i64 (wY * 2 ^ 4)) ||| BitVec.ofInt 64 i15).toNat))) ≤ 126)) then
 (some (.tup [.int .u8 0, .int .i64 0]))
 else
 (some (.tup [.int .u8 (IntKind.wrap .u8 (IntKind.wrap .i64 ((BitVec.ofInt 64 (IntKind.wrap .i64 (wY * 2 ^ 4)) ||| BitVec.ofInt 64 i15).toNat))), .int .i64 3])))
 else
 (some (.tup [.int .u8 (IntKind.wrap .u8 (IntKind.wrap .i64 ((BitVec.ofInt 64 (IntKind.wrap .i64 (wY * 2 ^ 4)) ||| BitVec.ofInt 64 i15).toNat))), .int .i64 3]))))))))) := by kernel_rfl
noncomputable def Qik (lb n k4 : Nat) (a1 i2 : Int) : Option CV :=
 hold (QaB (E0 lb n 0 995) 0 (Qaj (sub (B QbW) [1, 0, 1, 0, 0]) ++ []) [] (sub (B QbW) [1, 0, 1, 0, 0]) (Qat 0 (seqK (E0 lb n 0 998) (sub (B QbW) [1, 0]) (sub (B QbW) [1, 1]) (retK Tryz.prog (R QbW) 0 (outK (Qad Tryz.prog QbW))))) k4 ⟨fr 13 [(0, .val (.int .u8 a1)), (2, vI 0), (3, vI i2)], [bx 13 []], KK⟩)
noncomputable def Qpy (lb n : Nat) (a1 i6 : Int) : Option CV :=
 hold (E0 lb n 0 998 (sub (B QbW) [1, 1]) (retK Tryz.prog (R QbW) 0 (outK (Qad Tryz.prog QbW))) ⟨fr 13 [(0, .val (.int .u8 a1)), (2, vI 0), (3, vI i6)], [bx 13 []], KK⟩)
theorem QrG (lb n : Nat) (a1 i6 : Int) :
 Qpy lb n a1 i6 =
 some (.int .i64 (-1)) := (Qab _).trans (by kernel_rfl)
theorem Qgi (lb n k4 : Nat) (a1 i2 : Int) :
 Qik lb n (k4 + 1) a1 i2 =
 bif (decide (i2 < 16)) then
 (optO (atS [48, 49, 50, 51, 52, 53, 54, 55, 56, 57, 97, 98, 99, 100, 101, 102] i2) fun c5 =>
 bif ((c5.toNat : Int) == a1) then
 (some (.int .i64 i2))
 else
 (Qik lb n k4 a1 (IntKind.wrap .i64 (i2 + 1))))
 else
 (Qpy lb n a1 i2) := (Qab _).trans (by kernel_rfl)
theorem Qvf (lb n : Nat) (a1 : Int) :
 top lb n QbW [.int .u8 a1] =
 Qik lb n n a1 0 := by kernel_rfl
noncomputable def QcE (lb n wh : Nat) (a1 : LB) (i5 : Int) : Option CV :=
 hold (QaB (E0 lb n 0 995) 0 (Qaj (sub (B Qai) [1, 0, 1, 0, 0]) ++ [5]) [] (sub (B Qai) [1, 0, 1, 0, 0]) (Qat 0 (seqK (E0 lb n 0 998) (sub (B Qai) [1, 0]) (sub (B Qai) [1, 1]) (retK Tryz.prog (R Qai) 0 (outK (Qad Tryz.prog Qai))))) wh ⟨fr 18 [(0, vS a1), (1, .val (.fn Qcd)), (4, vB false), (6, vS a1), (7, .val (.int .i64 (a1.length : Int))), (8, vI i5)], [bx 18 []], KK⟩)
noncomputable def QeW (lb n : Nat) (a1 : LB) : Option CV :=
 hold (E0 lb n 0 998 (sub (B Qai) [1, 1]) (retK Tryz.prog (R Qai) 0 (outK (Qad Tryz.prog Qai))) ⟨fr 18 [(0, vS a1), (1, .val (.fn Qcd)), (4, vB false)], [bx 18 []], KK⟩)
theorem QhL (lb n : Nat) (a1 : LB) :
 QeW lb n a1 =
 some (.bool true) := (Qab _).trans (by kernel_rfl)
theorem QdR (lb n wh : Nat) (a1 : LB) (i5 : Int) :
 QcE lb n (wh + 1) a1 i5 =
 bif (decide (i5 < (a1.length : Int))) then
 (optO (atS a1 i5) fun c11 =>
 optO (C lb n Qcd [.int .u8 (c11.toNat : Int)]) fun jC =>
 optO (CV.asB jC) fun j9 =>
 bif (!j9) then
 (some (.bool false))
 else
 (QcE lb n wh a1 (IntKind.wrap .i64 (i5 + 1))))
 else
 (QeW lb n a1 ) := (Qab _).trans (by kernel_rfl)
theorem QiL (lb n : Nat) (a1 : LB) :
 top lb n Qai [.str a1, .fn Qcd] =
 QcE lb n n a1 0 := by kernel_rfl
noncomputable def Qcm (lb n wh : Nat) (a1 : LB) (i5 : Int) : Option CV :=
 hold (QaB (E0 lb n 0 995) 0 (Qaj (sub (B Qai) [1, 0, 1, 0, 0]) ++ [5]) [] (sub (B Qai) [1, 0, 1, 0, 0]) (Qat 0 (seqK (E0 lb n 0 998) (sub (B Qai) [1, 0]) (sub (B Qai) [1, 1]) (retK Tryz.prog (R Qai) 0 (outK (Qad Tryz.prog Qai))))) wh ⟨fr 18 [(0, vS a1), (1, .val (.fn Qb7)), (4, vB false), (6, vS a1), (7, .val (.int .i64 (a1.length : Int))), (8, vI i5)], [bx 18 []], KK⟩)
noncomputable def Qer (lb n : Nat) (a1 : LB) : Option CV :=
 hold (E0 lb n 0 998 (sub (B Qai) [1, 1]) (retK Tryz.prog (R Qai) 0 (outK (Qad Tryz.prog Qai))) ⟨fr 18 [(0, vS a1), (1, .val (.fn Qb7)), (4, vB false)], [bx 18 []], KK⟩)
theorem QgQ (lb n : Nat) (a1 : LB) :
 Qer lb n a1 =
 some (.bool true) := (Qab _).trans (by kernel_rfl)
theorem QdA (lb n wh : Nat) (a1 : LB) (i5 : Int) :
 Qcm lb n (wh + 1) a1 i5 =
 bif (decide (i5 < (a1.length : Int))) then
 (optO (atS a1 i5) fun c11 =>
 optO (C lb n Qb7 [.int .u8 (c11.toNat : Int)]) fun jC =>
 optO (CV.asB jC) fun j9 =>
 bif (!j9) then
 (some (.bool false))
 else
 (Qcm lb n wh a1 (IntKind.wrap .i64 (i5 + 1))))
 else
 (Qer lb n a1 ) := (Qab _).trans (by kernel_rfl)
theorem Qh7 (lb n : Nat) (a1 : LB) :
 top lb n Qai [.str a1, .fn Qb7] =
 Qcm lb n n a1 0 := by kernel_rfl
noncomputable def Qcv (lb n wh : Nat) (a1 : LB) (i5 : Int) : Option CV :=
 hold (QaB (E0 lb n 0 995) 0 (Qaj (sub (B Qai) [1, 0, 1, 0, 0]) ++ [5]) [] (sub (B Qai) [1, 0, 1, 0, 0]) (Qat 0 (seqK (E0 lb n 0 998) (sub (B Qai) [1, 0]) (sub (B Qai) [1, 1]) (retK Tryz.prog (R Qai) 0 (outK (Qad Tryz.prog Qai))))) wh ⟨fr 18 [(0, vS a1), (1, .val (.fn QcN)), (4, vB false), (6, vS a1), (7, .val (.int .i64 (a1.length : Int))), (8, vI i5)], [bx 18 []], KK⟩)
noncomputable def QeP (lb n : Nat) (a1 : LB) : Option CV :=
 hold (E0 lb n 0 998 (sub (B Qai) [1, 1]) (retK Tryz.prog (R Qai) 0 (outK (Qad Tryz.prog Qai))) ⟨fr 18 [(0, vS a1), (1, .val (.fn QcN)), (4, vB false)], [bx 18 []], KK⟩)
theorem QgZ (lb n : Nat) (a1 : LB) :
 QeP lb n a1 =
 some (.bool true) := (Qab _).trans (by kernel_rfl)
theorem QdG (lb n wh : Nat) (a1 : LB) (i5 : Int) :
 Qcv lb n (wh + 1) a1 i5 =
 bif (decide (i5 < (a1.length : Int))) then
 (optO (atS a1 i5) fun c11 =>
 optO (C lb n QcN [.int .u8 (c11.toNat : Int)]) fun jC =>
 optO (CV.asB jC) fun j9 =>
 bif (!j9) then
 (some (.bool false))
 else
 (Qcv lb n wh a1 (IntKind.wrap .i64 (i5 + 1))))
 else
 (QeP lb n a1 ) := (Qab _).trans (by kernel_rfl)
theorem Qis (lb n : Nat) (a1 : LB) :
 top lb n Qai [.str a1, .fn QcN] =
 Qcv lb n n a1 0 := by kernel_rfl
noncomputable def Qcj (lb n wh : Nat) (a1 : LB) (i5 : Int) : Option CV :=
 hold (QaB (E0 lb n 0 995) 0 (Qaj (sub (B Qai) [1, 0, 1, 0, 0]) ++ [5]) [] (sub (B Qai) [1, 0, 1, 0, 0]) (Qat 0 (seqK (E0 lb n 0 998) (sub (B Qai) [1, 0]) (sub (B Qai) [1, 1]) (retK Tryz.prog (R Qai) 0 (outK (Qad Tryz.prog Qai))))) wh ⟨fr 18 [(0, vS a1), (1, .val (.fn Qct)), (4, vB false), (6, vS a1), (7, .val (.int .i64 (a1.length : Int))), (8, vI i5)], [bx 18 []], KK⟩)
noncomputable def Qes (lb n : Nat) (a1 : LB) : Option CV :=
 hold (E0 lb n 0 998 (sub (B Qai) [1, 1]) (retK Tryz.prog (R Qai) 0 (outK (Qad Tryz.prog Qai))) ⟨fr 18 [(0, vS a1), (1, .val (.fn Qct)), (4, vB false)], [bx 18 []], KK⟩)
theorem QgP (lb n : Nat) (a1 : LB) :
 Qes lb n a1 =
 some (.bool true) := (Qab _).trans (by kernel_rfl)
theorem Qdz (lb n wh : Nat) (a1 : LB) (i5 : Int) :
 Qcj lb n (wh + 1) a1 i5 =
 bif (decide (i5 < (a1.length : Int))) then
 (optO (atS a1 i5) fun c11 =>
 optO (C lb n Qct [.int .u8 (c11.toNat : Int)]) fun jC =>
 optO (CV.asB jC) fun j9 =>
 bif (!j9) then
 (some (.bool false))
 else
 (Qcj lb n wh a1 (IntKind.wrap .i64 (i5 + 1))))
 else
 (Qes lb n a1 ) := (Qab _).trans (by kernel_rfl)
theorem Qh5 (lb n : Nat) (a1 : LB) :
 top lb n Qai [.str a1, .fn Qct] =
 Qcj lb n n a1 0 := by kernel_rfl
end Go.Proofs
