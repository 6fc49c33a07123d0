/- Equations of functions, printed by program. Conditions: none. -/
import Derived.Test.YtigmcfhmpcajlaaGreatDoorEv
namespace Go.Proofs
open Go.Am
set_option maxRecDepth 100000
set_option linter.unusedVariables false
theorem QaL (lb n : Nat) {m : Nat} {c a b : Code} {k : Ex → St → Option CV} {σ : St} (h : c = .seq a b) : E0 lb n 0 (m + 1) c k σ = E0 lb n 0 m a (seqK (E0 lb n 0 m) a b k) σ := by
 subst h
 rfl
theorem QaM {ev : Code → (Ex → St → Option CV) → St → Option CV} {a b : Code} {k : Ex → St → Option CV} (h : Qjs a b = false) (h2 : QiB a = false) : seqK ev a b k .normal = ev b k := by
 funext σ
 unfold seqK tidy
 rw [h, h2]
noncomputable def l35_awake_J1 :=
 fun lb n =>
 E0 lb n 0 1000 (sub (B Qac) []) (retK Tryz.prog (R Qac) 0 (outK (Qan Tryz.prog Qac))) ⟨fr 207 [], [bx 207 []], KK⟩
theorem QkO (lb n : Nat) (K : Ex → St → Option CV) (K' : St → Option CV) (hK : K .normal = K')  :
 E0 lb n 0 999 (sub (B Qac) [0]) K ⟨fr 207 [], [bx 207 []], KK⟩ =
 K' ⟨fr 207 [(0, vB false)], [bx 207 []], KK⟩ := by
 subst hK
 kernel_rfl
noncomputable def Qhg (lb n : Nat)  : Option CV :=
 E0 lb n 0 999 (sub (B Qac) [1]) (retK Tryz.prog (R Qac) 0 (outK (Qan Tryz.prog Qac))) ⟨fr 207 [(0, vB false)], [bx 207 []], KK⟩
theorem QkW (lb n : Nat) (K : Ex → St → Option CV) (K' : St → Option CV) (hK : K .normal = K')  :
 E0 lb n 0 998 (sub (B Qac) [1, 0]) K ⟨fr 207 [(0, vB false)], [bx 207 []], KK⟩ =
 optO (C lb n QaI []) fun r1 =>
 optO (C lb n Qa2 [r1, .int .i64 1, .int .i64 8]) fun r2 =>
 optO (CV.asT r2) fun t3 =>
 optO (t3[0]?) fun x4 =>
 optO (CV.asT r2) fun t5 =>
 optO (t5[1]?) fun x6 =>
 optO (CV.asT r2) fun t7 =>
 optO (t7[2]?) fun x9 =>
 optO (CV.asA x4) fun c10 =>
 chkO (c10.length == 6) (
 optO (c10[0]?) fun nX =>
 optO (c10[1]?) fun mM =>
 optO (c10[2]?) fun nC =>
 optO (c10[3]?) fun m7 =>
 optO (c10[4]?) fun mH =>
 optO (c10[5]?) fun mX =>
 K' ⟨fr 207 [(0, vB false), (1, .ptr 0 1 0), (2, vV x6), (3, vV x9), (19, vV r2), (20, vV r1), (21, vV r2), (22, vV x4), (23, vV x6), (24, vV x9)], [bx 207 [(1, some [.val nX, .val mM, .val nC, .val m7, .val mH, .val mX])]], KK⟩) := by
 subst hK
 kernel_rfl
noncomputable def QgX (lb n : Nat) (jo jn jm jI jB jJ jM jL jx jK jy : CV) : Option CV :=
 E0 lb n 0 998 (sub (B Qac) [1, 1]) (retK Tryz.prog (R Qac) 0 (outK (Qan Tryz.prog Qac))) ⟨fr 207 [(0, vB false), (1, .ptr 0 1 0), (2, vV jo), (3, vV jn), (19, vV jm), (20, vV jI), (21, vV jm), (22, vV jB), (23, vV jo), (24, vV jn)], [bx 207 [(1, some [.val jJ, .val jM, .val jL, .val jx, .val jK, .val jy])]], KK⟩
theorem QlK (lb n : Nat) (K : Ex → St → Option CV) (K' : St → Option CV) (hK : K .normal = K') (jo jn jm jI jB jJ jM jL jx jK jy : CV) :
 E0 lb n 0 997 (sub (B Qac) [1, 1, 0]) K ⟨fr 207 [(0, vB false), (1, .ptr 0 1 0), (2, vV jo), (3, vV jn), (19, vV jm), (20, vV jI), (21, vV jm), (22, vV jB), (23, vV jo), (24, vV jn)], [bx 207 [(1, some [.val jJ, .val jM, .val jL, .val jx, .val jK, .val jy])]], KK⟩ =
 optO (C lb n QaI []) fun vp =>
 optO (C lb n Qa2 [vp, .int .i64 0, .int .i64 6]) fun yn =>
 optO (CV.asT yn) fun nx =>
 optO (nx[0]?) fun vr =>
 optO (CV.asT yn) fun nq =>
 optO (nq[1]?) fun yy =>
 optO (CV.asT yn) fun nf =>
 optO (nf[2]?) fun yA =>
 optO (CV.asA vr) fun c42 =>
 chkO (c42.length == 6) (
 optO (c42[0]?) fun yM =>
 optO (c42[1]?) fun yQ =>
 optO (c42[2]?) fun yK =>
 optO (c42[3]?) fun yz =>
 optO (c42[4]?) fun mR =>
 optO (c42[5]?) fun nb =>
 K' ⟨fr 207 [(0, vB false), (1, .ptr 0 1 0), (2, vV jo), (3, vV jn), (4, .ptr 0 4 0), (5, vV yy), (6, vV yA), (19, vV jm), (20, vV jI), (21, vV jm), (22, vV jB), (23, vV jo), (24, vV jn), (25, vV yn), (26, vV vp), (27, vV yn), (28, vV vr), (29, vV yy), (30, vV yA)], [bx 207 [(1, some [.val jJ, .val jM, .val jL, .val jx, .val jK, .val jy]), (4, some [.val yM, .val yQ, .val yK, .val yz, .val mR, .val nb])]], KK⟩) := by
 subst hK
 kernel_rfl
noncomputable def Qg0 (lb n : Nat) (jo jn jr js jm jI jB jq jP jS jJ jM jL jx jK jy jR jQ jV jW jU jX : CV) : Option CV :=
 E0 lb n 0 997 (sub (B Qac) [1, 1, 1]) (retK Tryz.prog (R Qac) 0 (outK (Qan Tryz.prog Qac))) ⟨fr 207 [(0, vB false), (1, .ptr 0 1 0), (2, vV jo), (3, vV jn), (4, .ptr 0 4 0), (5, vV jr), (6, vV js), (19, vV jm), (20, vV jI), (21, vV jm), (22, vV jB), (23, vV jo), (24, vV jn), (25, vV jq), (26, vV jP), (27, vV jq), (28, vV jS), (29, vV jr), (30, vV js)], [bx 207 [(1, some [.val jJ, .val jM, .val jL, .val jx, .val jK, .val jy]), (4, some [.val jR, .val jQ, .val jV, .val jW, .val jU, .val jX])]], KK⟩
theorem QlC (lb n : Nat) (K : Ex → St → Option CV) (K' : St → Option CV) (hK : K .normal = K') (jo jn jr js jm jI jB jq jP jS jJ jM jL jx jK jy jR jQ jV jW jU jX : CV) :
 E0 lb n 0 996 (sub (B Qac) [1, 1, 1, 0]) K ⟨fr 207 [(0, vB false), (1, .ptr 0 1 0), (2, vV jo), (3, vV jn), (4, .ptr 0 4 0), (5, vV jr), (6, vV js), (19, vV jm), (20, vV jI), (21, vV jm), (22, vV jB), (23, vV jo), (24, vV jn), (25, vV jq), (26, vV jP), (27, vV jq), (28, vV jS), (29, vV jr), (30, vV js)], [bx 207 [(1, some [.val jJ, .val jM, .val jL, .val jx, .val jK, .val jy]), (4, some [.val jR, .val jQ, .val jV, .val jW, .val jU, .val jX])]], KK⟩ =
 optO (C lb n QaI []) fun kE =>
 optO (C lb n Qco [kE, .list false [[CV.int .i64 1]], .str [88, 89, 90, 57, 57, 57]]) fun yL =>
 optO (CV.asT yL) fun nR =>
 optO (nR[0]?) fun kD =>
 optO (CV.asT yL) fun nr =>
 optO (nr[1]?) fun kB =>
 optO (CV.asT yL) fun nE =>
 optO (nE[2]?) fun kx =>
 optO (CV.asA kD) fun c73 =>
 chkO (c73.length == 6) (
 optO (c73[0]?) fun ne =>
 optO (c73[1]?) fun ks =>
 optO (c73[2]?) fun kA =>
 optO (c73[3]?) fun kC =>
 optO (c73[4]?) fun ki =>
 optO (c73[5]?) fun vX =>
 optO (CV.asA kB) fun c80 =>
 chkO (c80.length == 6) (
 optO (c80[0]?) fun ky =>
 optO (c80[1]?) fun nA =>
 optO (c80[2]?) fun nG =>
 optO (c80[3]?) fun nD =>
 optO (c80[4]?) fun nS =>
 optO (c80[5]?) fun vE =>
 K' ⟨fr 207 [(0, vB false), (1, .ptr 0 1 0), (2, vV jo), (3, vV jn), (4, .ptr 0 4 0), (5, vV jr), (6, vV js), (7, .ptr 0 7 0), (8, .ptr 0 8 0), (9, vV kx), (19, vV jm), (20, vV jI), (21, vV jm), (22, vV jB), (23, vV jo), (24, vV jn), (25, vV jq), (26, vV jP), (27, vV jq), (28, vV jS), (29, vV jr), (30, vV js), (31, vV yL), (32, vV kE), (33, .lst true false 3 [[CV.int .i64 1]]), (34, vV yL), (35, vV kD), (36, vV kB), (37, vV kx)], [bx 207 [(1, some [.val jJ, .val jM, .val jL, .val jx, .val jK, .val jy]), (4, some [.val jR, .val jQ, .val jV, .val jW, .val jU, .val jX]), (7, some [.val ne, .val ks, .val kA, .val kC, .val ki, .val vX]), (8, some [.val ky, .val nA, .val nG, .val nD, .val nS, .val vE])]], KK⟩)) := by
 subst hK
 kernel_rfl
noncomputable def Qhl (lb n : Nat) (jo jn jr js jO jm jI jB jq jP jS jH j7 j8 j6 jJ jM jL jx jK jy jR jQ jV jW jU jX j3 j4 j2 j5 jD jA jG jC jF jN jz jE : CV) : Option CV :=
 E0 lb n 0 996 (sub (B Qac) [1, 1, 1, 1]) (retK Tryz.prog (R Qac) 0 (outK (Qan Tryz.prog Qac))) ⟨fr 207 [(0, vB false), (1, .ptr 0 1 0), (2, vV jo), (3, vV jn), (4, .ptr 0 4 0), (5, vV jr), (6, vV js), (7, .ptr 0 7 0), (8, .ptr 0 8 0), (9, vV jO), (19, vV jm), (20, vV jI), (21, vV jm), (22, vV jB), (23, vV jo), (24, vV jn), (25, vV jq), (26, vV jP), (27, vV jq), (28, vV jS), (29, vV jr), (30, vV js), (31, vV jH), (32, vV j7), (33, .lst true false 3 [[CV.int .i64 1]]), (34, vV jH), (35, vV j8), (36, vV j6), (37, vV jO)], [bx 207 [(1, some [.val jJ, .val jM, .val jL, .val jx, .val jK, .val jy]), (4, some [.val jR, .val jQ, .val jV, .val jW, .val jU, .val jX]), (7, some [.val j3, .val j4, .val j2, .val j5, .val jD, .val jA]), (8, some [.val jG, .val jC, .val jF, .val jN, .val jz, .val jE])]], KK⟩
theorem QlM (lb n : Nat) (K : Ex → St → Option CV) (K' : St → Option CV) (hK : K .normal = K') (jo jn jr js jO jm jI jB jq jP jS jH j7 j8 j6 jJ jM jL jx jK jy jR jQ jV jW jU jX j3 j4 j2 j5 jD jA jG jC jF jN jz jE : CV) :
 E0 lb n 0 995 (sub (B Qac) [1, 1, 1, 1, 0]) K ⟨fr 207 [(0, vB false), (1, .ptr 0 1 0), (2, vV jo), (3, vV jn), (4, .ptr 0 4 0), (5, vV jr), (6, vV js), (7, .ptr 0 7 0), (8, .ptr 0 8 0), (9, vV jO), (19, vV jm), (20, vV jI), (21, vV jm), (22, vV jB), (23, vV jo), (24, vV jn), (25, vV jq), (26, vV jP), (27, vV jq), (28, vV jS), (29, vV jr), (30, vV js), (31, vV jH), (32, vV j7), (33, .lst true false 3 [[CV.int .i64 1]]), (34, vV jH), (35, vV j8), (36, vV j6), (37, vV jO)], [bx 207 [(1, some [.val jJ, .val jM, .val jL, .val jx, .val jK, .val jy]), (4, some [.val jR, .val jQ, .val jV, .val jW, .val jU, .val jX]), (7, some [.val j3, .val j4, .val j2, .val j5, .val jD, .val jA]), (8, some [.val jG, .val jC, .val jF, .val jN, .val jz, .val jE])]], KK⟩ =
 optO (C lb n QaI []) fun vz =>
 optO (C lb n QcF [vz]) fun yE =>
 optO (CV.asT yE) fun gE =>
 optO (gE[0]?) fun yF =>
 optO (CV.asT yE) fun md =>
 optO (md[1]?) fun yH =>
 K' ⟨fr 207 [(0, vB false), (1, .ptr 0 1 0), (2, vV jo), (3, vV jn), (4, .ptr 0 4 0), (5, vV jr), (6, vV js), (7, .ptr 0 7 0), (8, .ptr 0 8 0), (9, vV jO), (10, vV yF), (11, vV yH), (19, vV jm), (20, vV jI), (21, vV jm), (22, vV jB), (23, vV jo), (24, vV jn), (25, vV jq), (26, vV jP), (27, vV jq), (28, vV jS), (29, vV jr), (30, vV js), (31, vV jH), (32, vV j7), (33, .lst true false 3 [[CV.int .i64 1]]), (34, vV jH), (35, vV j8), (36, vV j6), (37, vV jO), (38, vV yE), (39, vV vz), (40, vV yE), (41, vV yF), (42, vV yH)], [bx 207 [(1, some [.val jJ, .val jM, .val jL, .val jx, .val jK, .val jy]), (4, some [.val jR, .val jQ, .val jV, .val jW, .val jU, .val jX]), (7, some [.val j3, .val j4, .val j2, .val j5, .val jD, .val jA]), (8, some [.val jG, .val jC, .val jF, .val jN, .val jz, .val jE])]], KK⟩ := by
 subst hK
 kernel_rfl
noncomputable def Qg7 (lb n : Nat) (jo jn jr js jO jp jv jm jI jB jq jP jS jH j7 j8 j6 jt jY jJ jM jL jx jK jy jR jQ jV jW jU jX j3 j4 j2 j5 jD jA jG jC jF jN jz jE : CV) : Option CV :=
 E0 lb n 0 995 (sub (B Qac) [1, 1, 1, 1, 1]) (retK Tryz.prog (R Qac) 0 (outK (Qan Tryz.prog Qac))) ⟨fr 207 [(0, vB false), (1, .ptr 0 1 0), (2, vV jo), (3, vV jn), (4, .ptr 0 4 0), (5, vV jr), (6, vV js), (7, .ptr 0 7 0), (8, .ptr 0 8 0), (9, vV jO), (10, vV jp), (11, vV jv), (19, vV jm), (20, vV jI), (21, vV jm), (22, vV jB), (23, vV jo), (24, vV jn), (25, vV jq), (26, vV jP), (27, vV jq), (28, vV jS), (29, vV jr), (30, vV js), (31, vV jH), (32, vV j7), (33, .lst true false 3 [[CV.int .i64 1]]), (34, vV jH), (35, vV j8), (36, vV j6), (37, vV jO), (38, vV jt), (39, vV jY), (40, vV jt), (41, vV jp), (42, vV jv)], [bx 207 [(1, some [.val jJ, .val jM, .val jL, .val jx, .val jK, .val jy]), (4, some [.val jR, .val jQ, .val jV, .val jW, .val jU, .val jX]), (7, some [.val j3, .val j4, .val j2, .val j5, .val jD, .val jA]), (8, some [.val jG, .val jC, .val jF, .val jN, .val jz, .val jE])]], KK⟩
theorem Qk3 (lb n : Nat) (K : Ex → St → Option CV) (K' : St → Option CV) (hK : K .normal = K') (jo jn jr js jO jp jv jm jI jB jq jP jS jH j7 j8 j6 jt jY jJ jM jL jx jK jy jR jQ jV jW jU jX j3 j4 j2 j5 jD jA jG jC jF jN jz jE : CV) :
 E0 lb n 0 994 (sub (B Qac) [1, 1, 1, 1, 1, 0]) K ⟨fr 207 [(0, vB false), (1, .ptr 0 1 0), (2, vV jo), (3, vV jn), (4, .ptr 0 4 0), (5, vV jr), (6, vV js), (7, .ptr 0 7 0), (8, .ptr 0 8 0), (9, vV jO), (10, vV jp), (11, vV jv), (19, vV jm), (20, vV jI), (21, vV jm), (22, vV jB), (23, vV jo), (24, vV jn), (25, vV jq), (26, vV jP), (27, vV jq), (28, vV jS), (29, vV jr), (30, vV js), (31, vV jH), (32, vV j7), (33, .lst true false 3 [[CV.int .i64 1]]), (34, vV jH), (35, vV j8), (36, vV j6), (37, vV jO), (38, vV jt), (39, vV jY), (40, vV jt), (41, vV jp), (42, vV jv)], [bx 207 [(1, some [.val jJ, .val jM, .val jL, .val jx, .val jK, .val jy]), (4, some [.val jR, .val jQ, .val jV, .val jW, .val jU, .val jX]), (7, some [.val j3, .val j4, .val j2, .val j5, .val jD, .val jA]), (8, some [.val jG, .val jC, .val jF, .val jN, .val jz, .val jE])]], KK⟩ =
 optO (C lb n Qau [jp]) fun yk =>
 optO (CV.asT yk) fun kQ =>
 optO (kQ[0]?) fun kd =>
 optO (CV.asT yk) fun oe =>
 optO (oe[1]?) fun ka =>
 optO (CV.asT yk) fun mA =>
 optO (mA[2]?) fun v6 =>
 optO (CV.asA kd) fun c128 =>
 chkO (c128.length == 6) (
 optO (c128[0]?) fun oL =>
 optO (c128[1]?) fun mq =>
 optO (c128[2]?) fun ow =>
 optO (c128[3]?) fun mf =>
 optO (c128[4]?) fun mu =>
 optO (c128[5]?) fun oF =>
 K' ⟨fr 207 [(0, vB false), (1, .ptr 0 1 0), (2, vV jo), (3, vV jn), (4, .ptr 0 4 0), (5, vV jr), (6, vV js), (7, .ptr 0 7 0), (8, .ptr 0 8 0), (9, vV jO), (10, vV jp), (11, vV jv), (12, .ptr 0 12 0), (13, vV ka), (14, vV v6), (19, vV jm), (20, vV jI), (21, vV jm), (22, vV jB), (23, vV jo), (24, vV jn), (25, vV jq), (26, vV jP), (27, vV jq), (28, vV jS), (29, vV jr), (30, vV js), (31, vV jH), (32, vV j7), (33, .lst true false 3 [[CV.int .i64 1]]), (34, vV jH), (35, vV j8), (36, vV j6), (37, vV jO), (38, vV jt), (39, vV jY), (40, vV jt), (41, vV jp), (42, vV jv), (43, vV yk), (44, vV jp), (45, vV yk), (46, vV kd), (47, vV ka), (48, vV v6)], [bx 207 [(1, some [.val jJ, .val jM, .val jL, .val jx, .val jK, .val jy]), (4, some [.val jR, .val jQ, .val jV, .val jW, .val jU, .val jX]), (7, some [.val j3, .val j4, .val j2, .val j5, .val jD, .val jA]), (8, some [.val jG, .val jC, .val jF, .val jN, .val jz, .val jE]), (12, some [.val oL, .val mq, .val ow, .val mf, .val mu, .val oF])]], KK⟩) := by
 subst hK
 kernel_rfl
noncomputable def Qg1 (lb n : Nat) (jo jn jr js jO jp jv j1 jZ jm jI jB jq jP jS jH j7 j8 j6 jt jY jT j9 jJ jM jL jx jK jy jR jQ jV jW jU jX j3 j4 j2 j5 jD jA jG jC jF jN jz jE wg wj wh we wd wi : CV) : Option CV :=
 E0 lb n 0 994 (sub (B Qac) [1, 1, 1, 1, 1, 1]) (retK Tryz.prog (R Qac) 0 (outK (Qan Tryz.prog Qac))) ⟨fr 207 [(0, vB false), (1, .ptr 0 1 0), (2, vV jo), (3, vV jn), (4, .ptr 0 4 0), (5, vV jr), (6, vV js), (7, .ptr 0 7 0), (8, .ptr 0 8 0), (9, vV jO), (10, vV jp), (11, vV jv), (12, .ptr 0 12 0), (13, vV j1), (14, vV jZ), (19, vV jm), (20, vV jI), (21, vV jm), (22, vV jB), (23, vV jo), (24, vV jn), (25, vV jq), (26, vV jP), (27, vV jq), (28, vV jS), (29, vV jr), (30, vV js), (31, vV jH), (32, vV j7), (33, .lst true false 3 [[CV.int .i64 1]]), (34, vV jH), (35, vV j8), (36, vV j6), (37, vV jO), (38, vV jt), (39, vV jY), (40, vV jt), (41, vV jp), (42, vV jv), (43, vV jT), (44, vV jp), (45, vV jT), (46, vV j9), (47, vV j1), (48, vV jZ)], [bx 207 [(1, some [.val jJ, .val jM, .val jL, .val jx, .val jK, .val jy]), (4, some [.val jR, .val jQ, .val jV, .val jW, .val jU, .val jX]), (7, some [.val j3, .val j4, .val j2, .val j5, .val jD, .val jA]), (8, some [.val jG, .val jC, .val jF, .val jN, .val jz, .val jE]), (12, some [.val wg, .val wj, .val wh, .val we, .val wd, .val wi])]], KK⟩
theorem QlI (lb n : Nat) (K : Ex → St → Option CV) (K' : St → Option CV) (hK : K .normal = K') (jo jn jr js jO jp jv j1 jZ jm jI jB jq jP jS jH j7 j8 j6 jt jY jT j9 jJ jM jL jx jK jy jR jQ jV jW jU jX j3 j4 j2 j5 jD jA jG jC jF jN jz jE wg wj wh we wd wi : CV) :
 E0 lb n 0 993 (sub (B Qac) [1, 1, 1, 1, 1, 1, 0]) K ⟨fr 207 [(0, vB false), (1, .ptr 0 1 0), (2, vV jo), (3, vV jn), (4, .ptr 0 4 0), (5, vV jr), (6, vV js), (7, .ptr 0 7 0), (8, .ptr 0 8 0), (9, vV jO), (10, vV jp), (11, vV jv), (12, .ptr 0 12 0), (13, vV j1), (14, vV jZ), (19, vV jm), (20, vV jI), (21, vV jm), (22, vV jB), (23, vV jo), (24, vV jn), (25, vV jq), (26, vV jP), (27, vV jq), (28, vV jS), (29, vV jr), (30, vV js), (31, vV jH), (32, vV j7), (33, .lst true false 3 [[CV.int .i64 1]]), (34, vV jH), (35, vV j8), (36, vV j6), (37, vV jO), (38, vV jt), (39, vV jY), (40, vV jt), (41, vV jp), (42, vV jv), (43, vV jT), (44, vV jp), (45, vV jT), (46, vV j9), (47, vV j1), (48, vV jZ)], [bx 207 [(1, some [.val jJ, .val jM, .val jL, .val jx, .val jK, .val jy]), (4, some [.val jR, .val jQ, .val jV, .val jW, .val jU, .val jX]), (7, some [.val j3, .val j4, .val j2, .val j5, .val jD, .val jA]), (8, some [.val jG, .val jC, .val jF, .val jN, .val jz, .val jE]), (12, some [.val wg, .val wj, .val wh, .val we, .val wd, .val wi])]], KK⟩ =
 optO (C lb n Qau [.str [115, 101, 103, 10]]) fun yf =>
 optO (CV.asT yf) fun o8 =>
 optO (o8[0]?) fun ko =>
 optO (CV.asT yf) fun ov =>
 optO (ov[1]?) fun kk =>
 optO (CV.asT yf) fun gg =>
 optO (gg[2]?) fun yD =>
 optO (CV.asA ko) fun c156 =>
 chkO (c156.length == 6) (
 optO (c156[0]?) fun yS =>
 optO (c156[1]?) fun yU =>
 optO (c156[2]?) fun yX =>
 optO (c156[3]?) fun y9 =>
 optO (c156[4]?) fun vd =>
 optO (c156[5]?) fun y7 =>
 K' ⟨fr 207 [(0, vB false), (1, .ptr 0 1 0), (2, vV jo), (3, vV jn), (4, .ptr 0 4 0), (5, vV jr), (6, vV js), (7, .ptr 0 7 0), (8, .ptr 0 8 0), (9, vV jO), (10, vV jp), (11, vV jv), (12, .ptr 0 12 0), (13, vV j1), (14, vV jZ), (15, .ptr 0 15 0), (16, vV kk), (17, vV yD), (19, vV jm), (20, vV jI), (21, vV jm), (22, vV jB), (23, vV jo), (24, vV jn), (25, vV jq), (26, vV jP), (27, vV jq), (28, vV jS), (29, vV jr), (30, vV js), (31, vV jH), (32, vV j7), (33, .lst true false 3 [[CV.int .i64 1]]), (34, vV jH), (35, vV j8), (36, vV j6), (37, vV jO), (38, vV jt), (39, vV jY), (40, vV jt), (41, vV jp), (42, vV jv), (43, vV jT), (44, vV jp), (45, vV jT), (46, vV j9), (47, vV j1), (48, vV jZ), (49, vV yf), (50, vV yf), (51, vV ko), (52, vV kk), (53, vV yD)], [bx 207 [(1, some [.val jJ, .val jM, .val jL, .val jx, .val jK, .val jy]), (4, some [.val jR, .val jQ, .val jV, .val jW, .val jU, .val jX]), (7, some [.val j3, .val j4, .val j2, .val j5, .val jD, .val jA]), (8, some [.val jG, .val jC, .val jF, .val jN, .val jz, .val jE]), (12, some [.val wg, .val wj, .val wh, .val we, .val wd, .val wi]), (15, some [.val yS, .val yU, .val yX, .val y9, .val vd, .val y7])]], KK⟩) := by
 subst hK
 kernel_rfl
noncomputable def QgM (lb n : Nat) (jo jn jr js jO jp jv j1 jZ wk wc jm jI jB jq jP jS jH j7 j8 j6 jt jY jT j9 wa ww jJ jM jL jx jK jy jR jQ jV jW jU jX j3 j4 j2 j5 jD jA jG jC jF jN jz jE wg wj wh we wd wi wv wp wo wq wu wx : CV) : Option CV :=
 E0 lb n 0 993 (sub (B Qac) [1, 1, 1, 1, 1, 1, 1]) (retK Tryz.prog (R Qac) 0 (outK (Qan Tryz.prog Qac))) ⟨fr 207 [(0, vB false), (1, .ptr 0 1 0), (2, vV jo), (3, vV jn), (4, .ptr 0 4 0), (5, vV jr), (6, vV js), (7, .ptr 0 7 0), (8, .ptr 0 8 0), (9, vV jO), (10, vV jp), (11, vV jv), (12, .ptr 0 12 0), (13, vV j1), (14, vV jZ), (15, .ptr 0 15 0), (16, vV wk), (17, vV wc), (19, vV jm), (20, vV jI), (21, vV jm), (22, vV jB), (23, vV jo), (24, vV jn), (25, vV jq), (26, vV jP), (27, vV jq), (28, vV jS), (29, vV jr), (30, vV js), (31, vV jH), (32, vV j7), (33, .lst true false 3 [[CV.int .i64 1]]), (34, vV jH), (35, vV j8), (36, vV j6), (37, vV jO), (38, vV jt), (39, vV jY), (40, vV jt), (41, vV jp), (42, vV jv), (43, vV jT), (44, vV jp), (45, vV jT), (46, vV j9), (47, vV j1), (48, vV jZ), (49, vV wa), (50, vV wa), (51, vV ww), (52, vV wk), (53, vV wc)], [bx 207 [(1, some [.val jJ, .val jM, .val jL, .val jx, .val jK, .val jy]), (4, some [.val jR, .val jQ, .val jV, .val jW, .val jU, .val jX]), (7, some [.val j3, .val j4, .val j2, .val j5, .val jD, .val jA]), (8, some [.val jG, .val jC, .val jF, .val jN, .val jz, .val jE]), (12, some [.val wg, .val wj, .val wh, .val we, .val wd, .val wi]), (15, some [.val wv, .val wp, .val wo, .val wq, .val wu, .val wx])]], KK⟩
theorem Qk4 (lb n : Nat) (K : Ex → St → Option CV) (K' : St → Option CV) (hK : K .normal = K') (jo jn jr js jO jp jv j1 jZ wk wc jm jI jB jq jP jS jH j7 j8 j6 jt jY jT j9 wa ww jJ jM jL jx jK jy jR jQ jV jW jU jX j3 j4 j2 j5 jD jA jG jC jF jN jz jE wg wj wh we wd wi wv wp wo wq wu wx : CV) :
 E0 lb n 0 992 (sub (B Qac) [1, 1, 1, 1, 1, 1, 1, 0]) K ⟨fr 207 [(0, vB false), (1, .ptr 0 1 0), (2, vV jo), (3, vV jn), (4, .ptr 0 4 0), (5, vV jr), (6, vV js), (7, .ptr 0 7 0), (8, .ptr 0 8 0), (9, vV jO), (10, vV jp), (11, vV jv), (12, .ptr 0 12 0), (13, vV j1), (14, vV jZ), (15, .ptr 0 15 0), (16, vV wk), (17, vV wc), (19, vV jm), (20, vV jI), (21, vV jm), (22, vV jB), (23, vV jo), (24, vV jn), (25, vV jq), (26, vV jP), (27, vV jq), (28, vV jS), (29, vV jr), (30, vV js), (31, vV jH), (32, vV j7), (33, .lst true false 3 [[CV.int .i64 1]]), (34, vV jH), (35, vV j8), (36, vV j6), (37, vV jO), (38, vV jt), (39, vV jY), (40, vV jt), (41, vV jp), (42, vV jv), (43, vV jT), (44, vV jp), (45, vV jT), (46, vV j9), (47, vV j1), (48, vV jZ), (49, vV wa), (50, vV wa), (51, vV ww), (52, vV wk), (53, vV wc)], [bx 207 [(1, some [.val jJ, .val jM, .val jL, .val jx, .val jK, .val jy]), (4, some [.val jR, .val jQ, .val jV, .val jW, .val jU, .val jX]), (7, some [.val j3, .val j4, .val j2, .val j5, .val jD, .val jA]), (8, some [.val jG, .val jC, .val jF, .val jN, .val jz, .val jE]), (12, some [.val wg, .val wj, .val wh, .val we, .val wd, .val wi]), (15, some [.val wv, .val wp, .val wo, .val wq, .val wu, .val wx])]], KK⟩ =
 optO (C lb n QaI []) fun kp =>
 optO (CV.asA kp) fun c178 =>
 chkO (c178.length == 6) (
 optO (c178[0]?) fun ml =>
 optO (c178[1]?) fun gJ =>
 optO (c178[2]?) fun gP =>
 optO (c178[3]?) fun oG =>
 optO (c178[4]?) fun oJ =>
 optO (c178[5]?) fun oo =>
 K' ⟨fr 207 [(0, vB false), (1, .ptr 0 1 0), (2, vV jo), (3, vV jn), (4, .ptr 0 4 0), (5, vV jr), (6, vV js), (7, .ptr 0 7 0), (8, .ptr 0 8 0), (9, vV jO), (10, vV jp), (11, vV jv), (12, .ptr 0 12 0), (13, vV j1), (14, vV jZ), (15, .ptr 0 15 0), (16, vV wk), (17, vV wc), (18, .ptr 0 18 0), (19, vV jm), (20, vV jI), (21, vV jm), (22, vV jB), (23, vV jo), (24, vV jn), (25, vV jq), (26, vV jP), (27, vV jq), (28, vV jS), (29, vV jr), (30, vV js), (31, vV jH), (32, vV j7), (33, .lst true false 3 [[CV.int .i64 1]]), (34, vV jH), (35, vV j8), (36, vV j6), (37, vV jO), (38, vV jt), (39, vV jY), (40, vV jt), (41, vV jp), (42, vV jv), (43, vV jT), (44, vV jp), (45, vV jT), (46, vV j9), (47, vV j1), (48, vV jZ), (49, vV wa), (50, vV wa), (51, vV ww), (52, vV wk), (53, vV wc), (54, vV kp)], [bx 207 [(1, some [.val jJ, .val jM, .val jL, .val jx, .val jK, .val jy]), (4, some [.val jR, .val jQ, .val jV, .val jW, .val jU, .val jX]), (7, some [.val j3, .val j4, .val j2, .val j5, .val jD, .val jA]), (8, some [.val jG, .val jC, .val jF, .val jN, .val jz, .val jE]), (12, some [.val wg, .val wj, .val wh, .val we, .val wd, .val wi]), (15, some [.val wv, .val wp, .val wo, .val wq, .val wu, .val wx]), (18, some [.val ml, .val gJ, .val gP, .val oG, .val oJ, .val oo])]], KK⟩) := by
 subst hK
 kernel_rfl
noncomputable def Qhz (lb n : Nat) (jo jn jr js jO jp jv j1 jZ wk wc jm jI jB jq jP jS jH j7 j8 j6 jt jY jT j9 wa ww wC jJ jM jL jx jK jy jR jQ jV jW jU jX j3 j4 j2 j5 jD jA jG jC jF jN jz jE wg wj wh we wd wi wv wp wo wq wu wx wH wB wK wY wG wF : CV) : Option CV :=
 E0 lb n 0 992 (sub (B Qac) [1, 1, 1, 1, 1, 1, 1, 1]) (retK Tryz.prog (R Qac) 0 (outK (Qan Tryz.prog Qac))) ⟨fr 207 [(0, vB false), (1, .ptr 0 1 0), (2, vV jo), (3, vV jn), (4, .ptr 0 4 0), (5, vV jr), (6, vV js), (7, .ptr 0 7 0), (8, .ptr 0 8 0), (9, vV jO), (10, vV jp), (11, vV jv), (12, .ptr 0 12 0), (13, vV j1), (14, vV jZ), (15, .ptr 0 15 0), (16, vV wk), (17, vV wc), (18, .ptr 0 18 0), (19, vV jm), (20, vV jI), (21, vV jm), (22, vV jB), (23, vV jo), (24, vV jn), (25, vV jq), (26, vV jP), (27, vV jq), (28, vV jS), (29, vV jr), (30, vV js), (31, vV jH), (32, vV j7), (33, .lst true false 3 [[CV.int .i64 1]]), (34, vV jH), (35, vV j8), (36, vV j6), (37, vV jO), (38, vV jt), (39, vV jY), (40, vV jt), (41, vV jp), (42, vV jv), (43, vV jT), (44, vV jp), (45, vV jT), (46, vV j9), (47, vV j1), (48, vV jZ), (49, vV wa), (50, vV wa), (51, vV ww), (52, vV wk), (53, vV wc), (54, vV wC)], [bx 207 [(1, some [.val jJ, .val jM, .val jL, .val jx, .val jK, .val jy]), (4, some [.val jR, .val jQ, .val jV, .val jW, .val jU, .val jX]), (7, some [.val j3, .val j4, .val j2, .val j5, .val jD, .val jA]), (8, some [.val jG, .val jC, .val jF, .val jN, .val jz, .val jE]), (12, some [.val wg, .val wj, .val wh, .val we, .val wd, .val wi]), (15, some [.val wv, .val wp, .val wo, .val wq, .val wu, .val wx]), (18, some [.val wH, .val wB, .val wK, .val wY, .val wG, .val wF])]], KK⟩
theorem Qk0 (lb n : Nat) (K : Ex → St → Option CV) (K' : St → Option CV) (hK : K .normal = K') (jo jn jr js jO jp jv j1 jZ wk wc jm jI jB jq jP jS jH j7 j8 j6 jt jY jT j9 wa ww wC jJ jM jL jx jK jy jR jQ jV jW jU jX j3 j4 j2 j5 jD jA jG jC jF jN jz jE wg wj wh we wd wi wv wp wo wq wu wx wH wB wK wY wG wF : CV) :
 E0 lb n 0 991 (sub (B Qac) [1, 1, 1, 1, 1, 1, 1, 1, 0]) K ⟨fr 207 [(0, vB false), (1, .ptr 0 1 0), (2, vV jo), (3, vV jn), (4, .ptr 0 4 0), (5, vV jr), (6, vV js), (7, .ptr 0 7 0), (8, .ptr 0 8 0), (9, vV jO), (10, vV jp), (11, vV jv), (12, .ptr 0 12 0), (13, vV j1), (14, vV jZ), (15, .ptr 0 15 0), (16, vV wk), (17, vV wc), (18, .ptr 0 18 0), (19, vV jm), (20, vV jI), (21, vV jm), (22, vV jB), (23, vV jo), (24, vV jn), (25, vV jq), (26, vV jP), (27, vV jq), (28, vV jS), (29, vV jr), (30, vV js), (31, vV jH), (32, vV j7), (33, .lst true false 3 [[CV.int .i64 1]]), (34, vV jH), (35, vV j8), (36, vV j6), (37, vV jO), (38, vV jt), (39, vV jY), (40, vV jt), (41, vV jp), (42, vV jv), (43, vV jT), (44, vV jp), (45, vV jT), (46, vV j9), (47, vV j1), (48, vV jZ), (49, vV wa), (50, vV wa), (51, vV ww), (52, vV wk), (53, vV wc), (54, vV wC)], [bx 207 [(1, some [.val jJ, .val jM, .val jL, .val jx, .val jK, .val jy]), (4, some [.val jR, .val jQ, .val jV, .val jW, .val jU, .val jX]), (7, some [.val j3, .val j4, .val j2, .val j5, .val jD, .val jA]), (8, some [.val jG, .val jC, .val jF, .val jN, .val jz, .val jE]), (12, some [.val wg, .val wj, .val wh, .val we, .val wd, .val wi]), (15, some [.val wv, .val wp, .val wo, .val wq, .val wu, .val wx]), (18, some [.val wH, .val wB, .val wK, .val wY, .val wG, .val wF])]], KK⟩ =
 optO (CV.asL wB) fun ya =>
 chkO (ya.2.all (·.length == 3)) (
 chkO (decide ((0 : Int) ≤ 1 ∧ 1 ≤ (ya.2.length : Int))) (
 K' ⟨fr 207 [(0, vB false), (1, .ptr 0 1 0), (2, vV jo), (3, vV jn), (4, .ptr 0 4 0), (5, vV jr), (6, vV js), (7, .ptr 0 7 0), (8, .ptr 0 8 0), (9, vV jO), (10, vV jp), (11, vV jv), (12, .ptr 0 12 0), (13, vV j1), (14, vV jZ), (15, .ptr 0 15 0), (16, vV wk), (17, vV wc), (18, .ptr 0 18 0), (19, vV jm), (20, vV jI), (21, vV jm), (22, vV jB), (23, vV jo), (24, vV jn), (25, vV jq), (26, vV jP), (27, vV jq), (28, vV jS), (29, vV jr), (30, vV js), (31, vV jH), (32, vV j7), (33, .lst true false 3 [[CV.int .i64 1]]), (34, vV jH), (35, vV j8), (36, vV j6), (37, vV jO), (38, vV jt), (39, vV jY), (40, vV jt), (41, vV jp), (42, vV jv), (43, vV jT), (44, vV jp), (45, vV jT), (46, vV j9), (47, vV j1), (48, vV jZ), (49, vV wa), (50, vV wa), (51, vV ww), (52, vV wk), (53, vV wc), (54, vV wC), (55, .ptr 0 18 1), (56, vV wB), (57, .val (.list ya.1 ((ya.2.take 1).drop 0))), (58, .ptr 0 18 3), (59, .ptr 0 18 1)], [bx 207 [(1, some [.val jJ, .val jM, .val jL, .val jx, .val jK, .val jy]), (4, some [.val jR, .val jQ, .val jV, .val jW, .val jU, .val jX]), (7, some [.val j3, .val j4, .val j2, .val j5, .val jD, .val jA]), (8, some [.val jG, .val jC, .val jF, .val jN, .val jz, .val jE]), (12, some [.val wg, .val wj, .val wh, .val we, .val wd, .val wi]), (15, some [.val wv, .val wp, .val wo, .val wq, .val wu, .val wx]), (18, some [.val wH, .val (.list ya.1 ((ya.2.take 1).drop 0)), .val wK, .lst true true 39 [], .val wG, .val wF])]], KK⟩)) := by
 subst hK
 kernel_rfl
noncomputable def QgH (lb n : Nat) (jo jn jr js jO jp jv j1 jZ wk wc jm jI jB jq jP jS jH j7 j8 j6 jt jY jT j9 wa ww wC wB : CV) (wZ : Bool × LL) (jJ jM jL jx jK jy jR jQ jV jW jU jX j3 j4 j2 j5 jD jA jG jC jF jN jz jE wg wj wh we wd wi wv wp wo wq wu wx wH wK wG wF : CV) : Option CV :=
 E0 lb n 0 991 (sub (B Qac) [1, 1, 1, 1, 1, 1, 1, 1, 1]) (retK Tryz.prog (R Qac) 0 (outK (Qan Tryz.prog Qac))) ⟨fr 207 [(0, vB false), (1, .ptr 0 1 0), (2, vV jo), (3, vV jn), (4, .ptr 0 4 0), (5, vV jr), (6, vV js), (7, .ptr 0 7 0), (8, .ptr 0 8 0), (9, vV jO), (10, vV jp), (11, vV jv), (12, .ptr 0 12 0), (13, vV j1), (14, vV jZ), (15, .ptr 0 15 0), (16, vV wk), (17, vV wc), (18, .ptr 0 18 0), (19, vV jm), (20, vV jI), (21, vV jm), (22, vV jB), (23, vV jo), (24, vV jn), (25, vV jq), (26, vV jP), (27, vV jq), (28, vV jS), (29, vV jr), (30, vV js), (31, vV jH), (32, vV j7), (33, .lst true false 3 [[CV.int .i64 1]]), (34, vV jH), (35, vV j8), (36, vV j6), (37, vV jO), (38, vV jt), (39, vV jY), (40, vV jt), (41, vV jp), (42, vV jv), (43, vV jT), (44, vV jp), (45, vV jT), (46, vV j9), (47, vV j1), (48, vV jZ), (49, vV wa), (50, vV wa), (51, vV ww), (52, vV wk), (53, vV wc), (54, vV wC), (55, .ptr 0 18 1), (56, vV wB), (57, .val (.list wZ.1 ((wZ.2.take 1).drop 0))), (58, .ptr 0 18 3), (59, .ptr 0 18 1)], [bx 207 [(1, some [.val jJ, .val jM, .val jL, .val jx, .val jK, .val jy]), (4, some [.val jR, .val jQ, .val jV, .val jW, .val jU, .val jX]), (7, some [.val j3, .val j4, .val j2, .val j5, .val jD, .val jA]), (8, some [.val jG, .val jC, .val jF, .val jN, .val jz, .val jE]), (12, some [.val wg, .val wj, .val wh, .val we, .val wd, .val wi]), (15, some [.val wv, .val wp, .val wo, .val wq, .val wu, .val wx]), (18, some [.val wH, .val (.list wZ.1 ((wZ.2.take 1).drop 0)), .val wK, .lst true true 39 [], .val wG, .val wF])]], KK⟩
theorem Qi1 (lb n : Nat) (jo jn jr js jO jp jv j1 jZ wk wc jm jI jB jq jP jS jH j7 j8 j6 jt jY jT j9 wa ww wC jJ jM jL jx jK jy jR jQ jV jW jU jX j3 j4 j2 j5 jD jA jG jC jF jN jz jE wg wj wh we wd wi wv wp wo wq wu wx wH wB wK wY wG wF : CV) :
 Qhz lb n jo jn jr js jO jp jv j1 jZ wk wc jm jI jB jq jP jS jH j7 j8 j6 jt jY jT j9 wa ww wC jJ jM jL jx jK jy jR jQ jV jW jU jX j3 j4 j2 j5 jD jA jG jC jF jN jz jE wg wj wh we wd wi wv wp wo wq wu wx wH wB wK wY wG wF =
 optO (CV.asL wB) fun wZ =>
 chkO (wZ.2.all (·.length == 3)) (
 chkO (decide ((0 : Int) ≤ 1 ∧ 1 ≤ (wZ.2.length : Int))) (
 QgH lb n jo jn jr js jO jp jv j1 jZ wk wc jm jI jB jq jP jS jH j7 j8 j6 jt jY jT j9 wa ww wC wB wZ jJ jM jL jx jK jy jR jQ jV jW jU jX j3 j4 j2 j5 jD jA jG jC jF jN jz jE wg wj wh we wd wi wv wp wo wq wu wx wH wK wG wF)) :=
 (QaL lb n (m := 991) (b := (sub (B Qac) [1, 1, 1, 1, 1, 1, 1, 1, 1])) (by kernel_rfl)).trans (Qk0 lb n _ _ (QaM (by kernel_rfl) (by kernel_rfl)) jo jn jr js jO jp jv j1 jZ wk wc jm jI jB jq jP jS jH j7 j8 j6 jt jY jT j9 wa ww wC jJ jM jL jx jK jy jR jQ jV jW jU jX j3 j4 j2 j5 jD jA jG jC jF jN jz jE wg wj wh we wd wi wv wp wo wq wu wx wH wB wK wY wG wF)
theorem QiX (lb n : Nat) (jo jn jr js jO jp jv j1 jZ wk wc jm jI jB jq jP jS jH j7 j8 j6 jt jY jT j9 wa ww jJ jM jL jx jK jy jR jQ jV jW jU jX j3 j4 j2 j5 jD jA jG jC jF jN jz jE wg wj wh we wd wi wv wp wo wq wu wx : CV) :
 QgM lb n jo jn jr js jO jp jv j1 jZ wk wc jm jI jB jq jP jS jH j7 j8 j6 jt jY jT j9 wa ww jJ jM jL jx jK jy jR jQ jV jW jU jX j3 j4 j2 j5 jD jA jG jC jF jN jz jE wg wj wh we wd wi wv wp wo wq wu wx =
 optO (C lb n QaI []) fun wC =>
 optO (CV.asA wC) fun c186 =>
 chkO (c186.length == 6) (
 optO (c186[0]?) fun wH =>
 optO (c186[1]?) fun wB =>
 optO (c186[2]?) fun wK =>
 optO (c186[3]?) fun wY =>
 optO (c186[4]?) fun wG =>
 optO (c186[5]?) fun wF =>
 Qhz lb n jo jn jr js jO jp jv j1 jZ wk wc jm jI jB jq jP jS jH j7 j8 j6 jt jY jT j9 wa ww wC jJ jM jL jx jK jy jR jQ jV jW jU jX j3 j4 j2 j5 jD jA jG jC jF jN jz jE wg wj wh we wd wi wv wp wo wq wu wx wH wB wK wY wG wF) :=
 (QaL lb n (m := 992) (b := (sub (B Qac) [1, 1, 1, 1, 1, 1, 1, 1])) (by kernel_rfl)).trans (Qk4 lb n _ _ (QaM (by kernel_rfl) (by kernel_rfl)) jo jn jr js jO jp jv j1 jZ wk wc jm jI jB jq jP jS jH j7 j8 j6 jt jY jT j9 wa ww jJ jM jL jx jK jy jR jQ jV jW jU jX j3 j4 j2 j5 jD jA jG jC jF jN jz jE wg wj wh we wd wi wv wp wo wq wu wx)
theorem QiC (lb n : Nat) (jo jn jr js jO jp jv j1 jZ jm jI jB jq jP jS jH j7 j8 j6 jt jY jT j9 jJ jM jL jx jK jy jR jQ jV jW jU jX j3 j4 j2 j5 jD jA jG jC jF jN jz jE wg wj wh we wd wi : CV) :
 Qg1 lb n jo jn jr js jO jp jv j1 jZ jm jI jB jq jP jS jH j7 j8 j6 jt jY jT j9 jJ jM jL jx jK jy jR jQ jV jW jU jX j3 j4 j2 j5 jD jA jG jC jF jN jz jE wg wj wh we wd wi =
 optO (C lb n Qau [.str [115, 101, 103, 10]]) fun wa =>
 optO (CV.asT wa) fun t164 =>
 optO (t164[0]?) fun ww =>
 optO (CV.asT wa) fun gp =>
 optO (gp[1]?) fun wk =>
 optO (CV.asT wa) fun t168 =>
 optO (t168[2]?) fun wc =>
 optO (CV.asA ww) fun c170 =>
 chkO (c170.length == 6) (
 optO (c170[0]?) fun wv =>
 optO (c170[1]?) fun wp =>
 optO (c170[2]?) fun wo =>
 optO (c170[3]?) fun wq =>
 optO (c170[4]?) fun wu =>
 optO (c170[5]?) fun wx =>
 QgM lb n jo jn jr js jO jp jv j1 jZ wk wc jm jI jB jq jP jS jH j7 j8 j6 jt jY jT j9 wa ww jJ jM jL jx jK jy jR jQ jV jW jU jX j3 j4 j2 j5 jD jA jG jC jF jN jz jE wg wj wh we wd wi wv wp wo wq wu wx) :=
 (QaL lb n (m := 993) (b := (sub (B Qac) [1, 1, 1, 1, 1, 1, 1])) (by kernel_rfl)).trans (QlI lb n _ _ (QaM (by kernel_rfl) (by kernel_rfl)) jo jn jr js jO jp jv j1 jZ jm jI jB jq jP jS jH j7 j8 j6 jt jY jT j9 jJ jM jL jx jK jy jR jQ jV jW jU jX j3 j4 j2 j5 jD jA jG jC jF jN jz jE wg wj wh we wd wi)
theorem QiS (lb n : Nat) (jo jn jr js jO jp jv jm jI jB jq jP jS jH j7 j8 j6 jt jY jJ jM jL jx jK jy jR jQ jV jW jU jX j3 j4 j2 j5 jD jA jG jC jF jN jz jE : CV) :
 Qg7 lb n jo jn jr js jO jp jv jm jI jB jq jP jS jH j7 j8 j6 jt jY jJ jM jL jx jK jy jR jQ jV jW jU jX j3 j4 j2 j5 jD jA jG jC jF jN jz jE =
 optO (C lb n Qau [jp]) fun jT =>
 optO (CV.asT jT) fun om =>
 optO (om[0]?) fun j9 =>
 optO (CV.asT jT) fun t138 =>
 optO (t138[1]?) fun j1 =>
 optO (CV.asT jT) fun kS =>
 optO (kS[2]?) fun jZ =>
 optO (CV.asA j9) fun c142 =>
 chkO (c142.length == 6) (
 optO (c142[0]?) fun wg =>
 optO (c142[1]?) fun wj =>
 optO (c142[2]?) fun wh =>
 optO (c142[3]?) fun we =>
 optO (c142[4]?) fun wd =>
 optO (c142[5]?) fun wi =>
 Qg1 lb n jo jn jr js jO jp jv j1 jZ jm jI jB jq jP jS jH j7 j8 j6 jt jY jT j9 jJ jM jL jx jK jy jR jQ jV jW jU jX j3 j4 j2 j5 jD jA jG jC jF jN jz jE wg wj wh we wd wi) :=
 (QaL lb n (m := 994) (b := (sub (B Qac) [1, 1, 1, 1, 1, 1])) (by kernel_rfl)).trans (Qk3 lb n _ _ (QaM (by kernel_rfl) (by kernel_rfl)) jo jn jr js jO jp jv jm jI jB jq jP jS jH j7 j8 j6 jt jY jJ jM jL jx jK jy jR jQ jV jW jU jX j3 j4 j2 j5 jD jA jG jC jF jN jz jE)
theorem QiP (lb n : Nat) (jo jn jr js jO jm jI jB jq jP jS jH j7 j8 j6 jJ jM jL jx jK jy jR jQ jV jW jU jX j3 j4 j2 j5 jD jA jG jC jF jN jz jE : CV) :
 Qhl lb n jo jn jr js jO jm jI jB jq jP jS jH j7 j8 j6 jJ jM jL jx jK jy jR jQ jV jW jU jX j3 j4 j2 j5 jD jA jG jC jF jN jz jE =
 optO (C lb n QaI []) fun jY =>
 optO (C lb n QcF [jY]) fun jt =>
 optO (CV.asT jt) fun mz =>
 optO (mz[0]?) fun jp =>
 optO (CV.asT jt) fun t119 =>
 optO (t119[1]?) fun jv =>
 Qg7 lb n jo jn jr js jO jp jv jm jI jB jq jP jS jH j7 j8 j6 jt jY jJ jM jL jx jK jy jR jQ jV jW jU jX j3 j4 j2 j5 jD jA jG jC jF jN jz jE :=
 (QaL lb n (m := 995) (b := (sub (B Qac) [1, 1, 1, 1, 1])) (by kernel_rfl)).trans (QlM lb n _ _ (QaM (by kernel_rfl) (by kernel_rfl)) jo jn jr js jO jm jI jB jq jP jS jH j7 j8 j6 jJ jM jL jx jK jy jR jQ jV jW jU jX j3 j4 j2 j5 jD jA jG jC jF jN jz jE)
theorem QiJ (lb n : Nat) (jo jn jr js jm jI jB jq jP jS jJ jM jL jx jK jy jR jQ jV jW jU jX : CV) :
 Qg0 lb n jo jn jr js jm jI jB jq jP jS jJ jM jL jx jK jy jR jQ jV jW jU jX =
 optO (C lb n QaI []) fun j7 =>
 optO (C lb n Qco [j7, .list false [[CV.int .i64 1]], .str [88, 89, 90, 57, 57, 57]]) fun jH =>
 optO (CV.asT jH) fun mT =>
 optO (mT[0]?) fun j8 =>
 optO (CV.asT jH) fun nI =>
 optO (nI[1]?) fun j6 =>
 optO (CV.asT jH) fun mZ =>
 optO (mZ[2]?) fun jO =>
 optO (CV.asA j8) fun c95 =>
 chkO (c95.length == 6) (
 optO (c95[0]?) fun j3 =>
 optO (c95[1]?) fun j4 =>
 optO (c95[2]?) fun j2 =>
 optO (c95[3]?) fun j5 =>
 optO (c95[4]?) fun jD =>
 optO (c95[5]?) fun jA =>
 optO (CV.asA j6) fun c102 =>
 chkO (c102.length == 6) (
 optO (c102[0]?) fun jG =>
 optO (c102[1]?) fun jC =>
 optO (c102[2]?) fun jF =>
 optO (c102[3]?) fun jN =>
 optO (c102[4]?) fun jz =>
 optO (c102[5]?) fun jE =>
 Qhl lb n jo jn jr js jO jm jI jB jq jP jS jH j7 j8 j6 jJ jM jL jx jK jy jR jQ jV jW jU jX j3 j4 j2 j5 jD jA jG jC jF jN jz jE)) :=
 (QaL lb n (m := 996) (b := (sub (B Qac) [1, 1, 1, 1])) (by kernel_rfl)).trans (QlC lb n _ _ (QaM (by kernel_rfl) (by kernel_rfl)) jo jn jr js jm jI jB jq jP jS jJ jM jL jx jK jy jR jQ jV jW jU jX)
theorem QiL (lb n : Nat) (jo jn jm jI jB jJ jM jL jx jK jy : CV) :
 QgX lb n jo jn jm jI jB jJ jM jL jx jK jy =
 optO (C lb n QaI []) fun jP =>
 optO (C lb n Qa2 [jP, .int .i64 0, .int .i64 6]) fun jq =>
 optO (CV.asT jq) fun t51 =>
 optO (t51[0]?) fun jS =>
 optO (CV.asT jq) fun t53 =>
 optO (t53[1]?) fun jr =>
 optO (CV.asT jq) fun nM =>
 optO (nM[2]?) fun js =>
 optO (CV.asA jS) fun c57 =>
 chkO (c57.length == 6) (
 optO (c57[0]?) fun jR =>
 optO (c57[1]?) fun jQ =>
 optO (c57[2]?) fun jV =>
 optO (c57[3]?) fun jW =>
 optO (c57[4]?) fun jU =>
 optO (c57[5]?) fun jX =>
 Qg0 lb n jo jn jr js jm jI jB jq jP jS jJ jM jL jx jK jy jR jQ jV jW jU jX) :=
 (QaL lb n (m := 997) (b := (sub (B Qac) [1, 1, 1])) (by kernel_rfl)).trans (QlK lb n _ _ (QaM (by kernel_rfl) (by kernel_rfl)) jo jn jm jI jB jJ jM jL jx jK jy)
theorem Qjg (lb n : Nat)  :
 Qhg lb n  =
 optO (C lb n QaI []) fun jI =>
 optO (C lb n Qa2 [jI, .int .i64 1, .int .i64 8]) fun jm =>
 optO (CV.asT jm) fun t20 =>
 optO (t20[0]?) fun jB =>
 optO (CV.asT jm) fun mJ =>
 optO (mJ[1]?) fun jo =>
 optO (CV.asT jm) fun nF =>
 optO (nF[2]?) fun jn =>
 optO (CV.asA jB) fun c26 =>
 chkO (c26.length == 6) (
 optO (c26[0]?) fun jJ =>
 optO (c26[1]?) fun jM =>
 optO (c26[2]?) fun jL =>
 optO (c26[3]?) fun jx =>
 optO (c26[4]?) fun jK =>
 optO (c26[5]?) fun jy =>
 QgX lb n jo jn jm jI jB jJ jM jL jx jK jy) :=
 (QaL lb n (m := 998) (b := (sub (B Qac) [1, 1])) (by kernel_rfl)).trans (QkW lb n _ _ (QaM (by kernel_rfl) (by kernel_rfl)) )
theorem Qjb (lb n : Nat)  :
 l35_awake_J1 lb n  =
 Qhg lb n  :=
 (QaL lb n (m := 999) (b := (sub (B Qac) [1])) (by kernel_rfl)).trans (QkO lb n _ _ (QaM (by kernel_rfl) (by kernel_rfl)) )
theorem Qk2 (lb n : Nat)  :
 top lb n Qac [] =
 l35_awake_J1 lb n  := by kernel_rfl
end Go.Proofs
