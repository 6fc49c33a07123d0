/- Equations of functions, printed by program. Conditions: none. -/
import Derived.Test.YtigmcfhmpcajlaaGreatDoorEv
namespace Go.Proofs
open Go.Am
set_option maxRecDepth 100000
set_option linter.unusedVariables false
theorem Qbc (lb n : Nat) {m : Nat} {c a b : Code} {k : Ex → St → Option CV} {σ : St} (h : c = .seq a b) : E0 lb n 0 (m + 1) c k σ = E0 lb n 0 m a (seqK (E0 lb n 0 m) a b k) σ := by
 subst h
 rfl
theorem Qbd {ev : Code → (Ex → St → Option CV) → St → Option CV} {a b : Code} {k : Ex → St → Option CV} (h : Qnz a b = false) (h2 : Ql8 a = false) : seqK ev a b k .normal = ev b k := by
 funext σ
 unfold seqK tidy
 rw [h, h2]
noncomputable def l35_awake_J1 :=
 fun lb n =>
 E0 lb n 0 1000 (sub (B Qah) []) (retK Tryz.prog (R Qah) 0 (outK (Qaf Tryz.prog Qah))) ⟨fr 207 [], [bx 207 []], KK⟩
theorem Qpo (lb n : Nat) (K : Ex → St → Option CV) (K' : St → Option CV) (hK : K .normal = K')  :
 E0 lb n 0 999 (sub (B Qah) [0]) K ⟨fr 207 [], [bx 207 []], KK⟩ =
 K' ⟨fr 207 [(0, vB false)], [bx 207 []], KK⟩ := by
 subst hK
 kernel_rfl
noncomputable def Qj4 (lb n : Nat)  : Option CV :=
 E0 lb n 0 999 (sub (B Qah) [1]) (retK Tryz.prog (R Qah) 0 (outK (Qaf Tryz.prog Qah))) ⟨fr 207 [(0, vB false)], [bx 207 []], KK⟩
theorem QpW (lb n : Nat) (K : Ex → St → Option CV) (K' : St → Option CV) (hK : K .normal = K')  :
 E0 lb n 0 998 (sub (B Qah) [1, 0]) K ⟨fr 207 [(0, vB false)], [bx 207 []], KK⟩ =
 optO (C lb n Qa8 []) fun r1 =>
 optO (C lb n Qbt [r1, .int .i64 1, .int .i64 8]) fun r2 =>
 optO (CV.asT r2) fun t3 =>
 optO (t3[0]?) fun x4 =>
 optO (CV.asT r2) fun t5 =>
 optO (t5[1]?) fun x6 =>
 optO (CV.asT r2) fun t7 =>
 optO (t7[2]?) fun x9 =>
 optO (CV.asA x4) fun c10 =>
 chkO (c10.length == 6) (
 optO (c10[0]?) fun qu =>
 optO (c10[1]?) fun oB =>
 optO (c10[2]?) fun ko =>
 optO (c10[3]?) fun ku =>
 optO (c10[4]?) fun pc =>
 optO (c10[5]?) fun qq =>
 K' ⟨fr 207 [(0, vB false), (1, .ptr 0 1 0), (2, vV x6), (3, vV x9), (19, vV r2), (20, vV r1), (21, vV r2), (22, vV x4), (23, vV x6), (24, vV x9)], [bx 207 [(1, some [.val qu, .val oB, .val ko, .val ku, .val pc, .val qq])]], KK⟩) := by
 subst hK
 kernel_rfl
noncomputable def QkB (lb n : Nat) (jy jx jv jg jI jJ jR jQ jG jN jK : CV) : Option CV :=
 E0 lb n 0 998 (sub (B Qah) [1, 1]) (retK Tryz.prog (R Qah) 0 (outK (Qaf Tryz.prog Qah))) ⟨fr 207 [(0, vB false), (1, .ptr 0 1 0), (2, vV jy), (3, vV jx), (19, vV jv), (20, vV jg), (21, vV jv), (22, vV jI), (23, vV jy), (24, vV jx)], [bx 207 [(1, some [.val jJ, .val jR, .val jQ, .val jG, .val jN, .val jK])]], KK⟩
theorem Qqc (lb n : Nat) (K : Ex → St → Option CV) (K' : St → Option CV) (hK : K .normal = K') (jy jx jv jg jI jJ jR jQ jG jN jK : CV) :
 E0 lb n 0 997 (sub (B Qah) [1, 1, 0]) K ⟨fr 207 [(0, vB false), (1, .ptr 0 1 0), (2, vV jy), (3, vV jx), (19, vV jv), (20, vV jg), (21, vV jv), (22, vV jI), (23, vV jy), (24, vV jx)], [bx 207 [(1, some [.val jJ, .val jR, .val jQ, .val jG, .val jN, .val jK])]], KK⟩ =
 optO (C lb n Qa8 []) fun gE =>
 optO (C lb n Qbt [gE, .int .i64 0, .int .i64 6]) fun ke =>
 optO (CV.asT ke) fun pw =>
 optO (pw[0]?) fun y6 =>
 optO (CV.asT ke) fun pu =>
 optO (pu[1]?) fun gq =>
 optO (CV.asT ke) fun qx =>
 optO (qx[2]?) fun kx =>
 optO (CV.asA y6) fun c42 =>
 chkO (c42.length == 6) (
 optO (c42[0]?) fun pY =>
 optO (c42[1]?) fun p8 =>
 optO (c42[2]?) fun kl =>
 optO (c42[3]?) fun y0 =>
 optO (c42[4]?) fun kg =>
 optO (c42[5]?) fun pM =>
 K' ⟨fr 207 [(0, vB false), (1, .ptr 0 1 0), (2, vV jy), (3, vV jx), (4, .ptr 0 4 0), (5, vV gq), (6, vV kx), (19, vV jv), (20, vV jg), (21, vV jv), (22, vV jI), (23, vV jy), (24, vV jx), (25, vV ke), (26, vV gE), (27, vV ke), (28, vV y6), (29, vV gq), (30, vV kx)], [bx 207 [(1, some [.val jJ, .val jR, .val jQ, .val jG, .val jN, .val jK]), (4, some [.val pY, .val p8, .val kl, .val y0, .val kg, .val pM])]], KK⟩) := by
 subst hK
 kernel_rfl
noncomputable def QkT (lb n : Nat) (jy jx jF jE jv jg jI jD jY j5 jJ jR jQ jG jN jK j8 j9 jX j7 wb jZ : CV) : Option CV :=
 E0 lb n 0 997 (sub (B Qah) [1, 1, 1]) (retK Tryz.prog (R Qah) 0 (outK (Qaf Tryz.prog Qah))) ⟨fr 207 [(0, vB false), (1, .ptr 0 1 0), (2, vV jy), (3, vV jx), (4, .ptr 0 4 0), (5, vV jF), (6, vV jE), (19, vV jv), (20, vV jg), (21, vV jv), (22, vV jI), (23, vV jy), (24, vV jx), (25, vV jD), (26, vV jY), (27, vV jD), (28, vV j5), (29, vV jF), (30, vV jE)], [bx 207 [(1, some [.val jJ, .val jR, .val jQ, .val jG, .val jN, .val jK]), (4, some [.val j8, .val j9, .val jX, .val j7, .val wb, .val jZ])]], KK⟩
theorem QpX (lb n : Nat) (K : Ex → St → Option CV) (K' : St → Option CV) (hK : K .normal = K') (jy jx jF jE jv jg jI jD jY j5 jJ jR jQ jG jN jK j8 j9 jX j7 wb jZ : CV) :
 E0 lb n 0 996 (sub (B Qah) [1, 1, 1, 0]) K ⟨fr 207 [(0, vB false), (1, .ptr 0 1 0), (2, vV jy), (3, vV jx), (4, .ptr 0 4 0), (5, vV jF), (6, vV jE), (19, vV jv), (20, vV jg), (21, vV jv), (22, vV jI), (23, vV jy), (24, vV jx), (25, vV jD), (26, vV jY), (27, vV jD), (28, vV j5), (29, vV jF), (30, vV jE)], [bx 207 [(1, some [.val jJ, .val jR, .val jQ, .val jG, .val jN, .val jK]), (4, some [.val j8, .val j9, .val jX, .val j7, .val wb, .val jZ])]], KK⟩ =
 optO (C lb n Qa8 []) fun gI =>
 optO (C lb n Qdz [gI, .list false [[CV.int .i64 1]], .str [88, 89, 90, 57, 57, 57]]) fun vn =>
 optO (CV.asT vn) fun pm =>
 optO (pm[0]?) fun gF =>
 optO (CV.asT vn) fun qF =>
 optO (qF[1]?) fun gD =>
 optO (CV.asT vn) fun pK =>
 optO (pK[2]?) fun oo =>
 optO (CV.asA gF) fun c73 =>
 chkO (c73.length == 6) (
 optO (c73[0]?) fun oG =>
 optO (c73[1]?) fun ow =>
 optO (c73[2]?) fun gG =>
 optO (c73[3]?) fun gJ =>
 optO (c73[4]?) fun ga =>
 optO (c73[5]?) fun oQ =>
 optO (CV.asA gD) fun c80 =>
 chkO (c80.length == 6) (
 optO (c80[0]?) fun gB =>
 optO (c80[1]?) fun pT =>
 optO (c80[2]?) fun pi =>
 optO (c80[3]?) fun qJ =>
 optO (c80[4]?) fun qm =>
 optO (c80[5]?) fun oO =>
 K' ⟨fr 207 [(0, vB false), (1, .ptr 0 1 0), (2, vV jy), (3, vV jx), (4, .ptr 0 4 0), (5, vV jF), (6, vV jE), (7, .ptr 0 7 0), (8, .ptr 0 8 0), (9, vV oo), (19, vV jv), (20, vV jg), (21, vV jv), (22, vV jI), (23, vV jy), (24, vV jx), (25, vV jD), (26, vV jY), (27, vV jD), (28, vV j5), (29, vV jF), (30, vV jE), (31, vV vn), (32, vV gI), (33, .lst true false 3 [[CV.int .i64 1]]), (34, vV vn), (35, vV gF), (36, vV gD), (37, vV oo)], [bx 207 [(1, some [.val jJ, .val jR, .val jQ, .val jG, .val jN, .val jK]), (4, some [.val j8, .val j9, .val jX, .val j7, .val wb, .val jZ]), (7, some [.val oG, .val ow, .val gG, .val gJ, .val ga, .val oQ]), (8, some [.val gB, .val pT, .val pi, .val qJ, .val qm, .val oO])]], KK⟩)) := by
 subst hK
 kernel_rfl
noncomputable def Qkt (lb n : Nat) (jy jx jF jE jU jv jg jI jD jY j5 jO wg wh wj jJ jR jQ jG jN jK j8 j9 jX j7 wb jZ jV jT jP jW jq jt jr js ju jB jC jA : CV) : Option CV :=
 E0 lb n 0 996 (sub (B Qah) [1, 1, 1, 1]) (retK Tryz.prog (R Qah) 0 (outK (Qaf Tryz.prog Qah))) ⟨fr 207 [(0, vB false), (1, .ptr 0 1 0), (2, vV jy), (3, vV jx), (4, .ptr 0 4 0), (5, vV jF), (6, vV jE), (7, .ptr 0 7 0), (8, .ptr 0 8 0), (9, vV jU), (19, vV jv), (20, vV jg), (21, vV jv), (22, vV jI), (23, vV jy), (24, vV jx), (25, vV jD), (26, vV jY), (27, vV jD), (28, vV j5), (29, vV jF), (30, vV jE), (31, vV jO), (32, vV wg), (33, .lst true false 3 [[CV.int .i64 1]]), (34, vV jO), (35, vV wh), (36, vV wj), (37, vV jU)], [bx 207 [(1, some [.val jJ, .val jR, .val jQ, .val jG, .val jN, .val jK]), (4, some [.val j8, .val j9, .val jX, .val j7, .val wb, .val jZ]), (7, some [.val jV, .val jT, .val jP, .val jW, .val jq, .val jt]), (8, some [.val jr, .val js, .val ju, .val jB, .val jC, .val jA])]], KK⟩
theorem Qpl (lb n : Nat) (K : Ex → St → Option CV) (K' : St → Option CV) (hK : K .normal = K') (jy jx jF jE jU jv jg jI jD jY j5 jO wg wh wj jJ jR jQ jG jN jK j8 j9 jX j7 wb jZ jV jT jP jW jq jt jr js ju jB jC jA : CV) :
 E0 lb n 0 995 (sub (B Qah) [1, 1, 1, 1, 0]) K ⟨fr 207 [(0, vB false), (1, .ptr 0 1 0), (2, vV jy), (3, vV jx), (4, .ptr 0 4 0), (5, vV jF), (6, vV jE), (7, .ptr 0 7 0), (8, .ptr 0 8 0), (9, vV jU), (19, vV jv), (20, vV jg), (21, vV jv), (22, vV jI), (23, vV jy), (24, vV jx), (25, vV jD), (26, vV jY), (27, vV jD), (28, vV j5), (29, vV jF), (30, vV jE), (31, vV jO), (32, vV wg), (33, .lst true false 3 [[CV.int .i64 1]]), (34, vV jO), (35, vV wh), (36, vV wj), (37, vV jU)], [bx 207 [(1, some [.val jJ, .val jR, .val jQ, .val jG, .val jN, .val jK]), (4, some [.val j8, .val j9, .val jX, .val j7, .val wb, .val jZ]), (7, some [.val jV, .val jT, .val jP, .val jW, .val jq, .val jt]), (8, some [.val jr, .val js, .val ju, .val jB, .val jC, .val jA])]], KK⟩ =
 optO (C lb n Qa8 []) fun oH =>
 optO (C lb n QdS [oH]) fun wU =>
 optO (CV.asT wU) fun gY =>
 optO (gY[0]?) fun gw =>
 optO (CV.asT wU) fun mU =>
 optO (mU[1]?) fun gm =>
 K' ⟨fr 207 [(0, vB false), (1, .ptr 0 1 0), (2, vV jy), (3, vV jx), (4, .ptr 0 4 0), (5, vV jF), (6, vV jE), (7, .ptr 0 7 0), (8, .ptr 0 8 0), (9, vV jU), (10, vV gw), (11, vV gm), (19, vV jv), (20, vV jg), (21, vV jv), (22, vV jI), (23, vV jy), (24, vV jx), (25, vV jD), (26, vV jY), (27, vV jD), (28, vV j5), (29, vV jF), (30, vV jE), (31, vV jO), (32, vV wg), (33, .lst true false 3 [[CV.int .i64 1]]), (34, vV jO), (35, vV wh), (36, vV wj), (37, vV jU), (38, vV wU), (39, vV oH), (40, vV wU), (41, vV gw), (42, vV gm)], [bx 207 [(1, some [.val jJ, .val jR, .val jQ, .val jG, .val jN, .val jK]), (4, some [.val j8, .val j9, .val jX, .val j7, .val wb, .val jZ]), (7, some [.val jV, .val jT, .val jP, .val jW, .val jq, .val jt]), (8, some [.val jr, .val js, .val ju, .val jB, .val jC, .val jA])]], KK⟩ := by
 subst hK
 kernel_rfl
noncomputable def Qkl (lb n : Nat) (jy jx jF jE jU jz jM jv jg jI jD jY j5 jO wg wh wj jH wd jJ jR jQ jG jN jK j8 j9 jX j7 wb jZ jV jT jP jW jq jt jr js ju jB jC jA : CV) : Option CV :=
 E0 lb n 0 995 (sub (B Qah) [1, 1, 1, 1, 1]) (retK Tryz.prog (R Qah) 0 (outK (Qaf Tryz.prog Qah))) ⟨fr 207 [(0, vB false), (1, .ptr 0 1 0), (2, vV jy), (3, vV jx), (4, .ptr 0 4 0), (5, vV jF), (6, vV jE), (7, .ptr 0 7 0), (8, .ptr 0 8 0), (9, vV jU), (10, vV jz), (11, vV jM), (19, vV jv), (20, vV jg), (21, vV jv), (22, vV jI), (23, vV jy), (24, vV jx), (25, vV jD), (26, vV jY), (27, vV jD), (28, vV j5), (29, vV jF), (30, vV jE), (31, vV jO), (32, vV wg), (33, .lst true false 3 [[CV.int .i64 1]]), (34, vV jO), (35, vV wh), (36, vV wj), (37, vV jU), (38, vV jH), (39, vV wd), (40, vV jH), (41, vV jz), (42, vV jM)], [bx 207 [(1, some [.val jJ, .val jR, .val jQ, .val jG, .val jN, .val jK]), (4, some [.val j8, .val j9, .val jX, .val j7, .val wb, .val jZ]), (7, some [.val jV, .val jT, .val jP, .val jW, .val jq, .val jt]), (8, some [.val jr, .val js, .val ju, .val jB, .val jC, .val jA])]], KK⟩
theorem QpU (lb n : Nat) (K : Ex → St → Option CV) (K' : St → Option CV) (hK : K .normal = K') (jy jx jF jE jU jz jM jv jg jI jD jY j5 jO wg wh wj jH wd jJ jR jQ jG jN jK j8 j9 jX j7 wb jZ jV jT jP jW jq jt jr js ju jB jC jA : CV) :
 E0 lb n 0 994 (sub (B Qah) [1, 1, 1, 1, 1, 0]) K ⟨fr 207 [(0, vB false), (1, .ptr 0 1 0), (2, vV jy), (3, vV jx), (4, .ptr 0 4 0), (5, vV jF), (6, vV jE), (7, .ptr 0 7 0), (8, .ptr 0 8 0), (9, vV jU), (10, vV jz), (11, vV jM), (19, vV jv), (20, vV jg), (21, vV jv), (22, vV jI), (23, vV jy), (24, vV jx), (25, vV jD), (26, vV jY), (27, vV jD), (28, vV j5), (29, vV jF), (30, vV jE), (31, vV jO), (32, vV wg), (33, .lst true false 3 [[CV.int .i64 1]]), (34, vV jO), (35, vV wh), (36, vV wj), (37, vV jU), (38, vV jH), (39, vV wd), (40, vV jH), (41, vV jz), (42, vV jM)], [bx 207 [(1, some [.val jJ, .val jR, .val jQ, .val jG, .val jN, .val jK]), (4, some [.val j8, .val j9, .val jX, .val j7, .val wb, .val jZ]), (7, some [.val jV, .val jT, .val jP, .val jW, .val jq, .val jt]), (8, some [.val jr, .val js, .val ju, .val jB, .val jC, .val jA])]], KK⟩ =
 optO (C lb n QaF [jz]) fun vo =>
 optO (CV.asT vo) fun nW =>
 optO (nW[0]?) fun oL =>
 optO (CV.asT vo) fun mQ =>
 optO (mQ[1]?) fun o6 =>
 optO (CV.asT vo) fun nP =>
 optO (nP[2]?) fun gv =>
 optO (CV.asA oL) fun c128 =>
 chkO (c128.length == 6) (
 optO (c128[0]?) fun nA =>
 optO (c128[1]?) fun v8 =>
 optO (c128[2]?) fun mN =>
 optO (c128[3]?) fun mf =>
 optO (c128[4]?) fun nC =>
 optO (c128[5]?) fun gU =>
 K' ⟨fr 207 [(0, vB false), (1, .ptr 0 1 0), (2, vV jy), (3, vV jx), (4, .ptr 0 4 0), (5, vV jF), (6, vV jE), (7, .ptr 0 7 0), (8, .ptr 0 8 0), (9, vV jU), (10, vV jz), (11, vV jM), (12, .ptr 0 12 0), (13, vV o6), (14, vV gv), (19, vV jv), (20, vV jg), (21, vV jv), (22, vV jI), (23, vV jy), (24, vV jx), (25, vV jD), (26, vV jY), (27, vV jD), (28, vV j5), (29, vV jF), (30, vV jE), (31, vV jO), (32, vV wg), (33, .lst true false 3 [[CV.int .i64 1]]), (34, vV jO), (35, vV wh), (36, vV wj), (37, vV jU), (38, vV jH), (39, vV wd), (40, vV jH), (41, vV jz), (42, vV jM), (43, vV vo), (44, vV jz), (45, vV vo), (46, vV oL), (47, vV o6), (48, vV gv)], [bx 207 [(1, some [.val jJ, .val jR, .val jQ, .val jG, .val jN, .val jK]), (4, some [.val j8, .val j9, .val jX, .val j7, .val wb, .val jZ]), (7, some [.val jV, .val jT, .val jP, .val jW, .val jq, .val jt]), (8, some [.val jr, .val js, .val ju, .val jB, .val jC, .val jA]), (12, some [.val nA, .val v8, .val mN, .val mf, .val nC, .val gU])]], KK⟩) := by
 subst hK
 kernel_rfl
noncomputable def QkS (lb n : Nat) (jy jx jF jE jU jz jM we wc jv jg jI jD jY j5 jO wg wh wj jH wd j6 wl jJ jR jQ jG jN jK j8 j9 jX j7 wb jZ jV jT jP jW jq jt jr js ju jB jC jA wo wq wu wp ww wv : CV) : Option CV :=
 E0 lb n 0 994 (sub (B Qah) [1, 1, 1, 1, 1, 1]) (retK Tryz.prog (R Qah) 0 (outK (Qaf Tryz.prog Qah))) ⟨fr 207 [(0, vB false), (1, .ptr 0 1 0), (2, vV jy), (3, vV jx), (4, .ptr 0 4 0), (5, vV jF), (6, vV jE), (7, .ptr 0 7 0), (8, .ptr 0 8 0), (9, vV jU), (10, vV jz), (11, vV jM), (12, .ptr 0 12 0), (13, vV we), (14, vV wc), (19, vV jv), (20, vV jg), (21, vV jv), (22, vV jI), (23, vV jy), (24, vV jx), (25, vV jD), (26, vV jY), (27, vV jD), (28, vV j5), (29, vV jF), (30, vV jE), (31, vV jO), (32, vV wg), (33, .lst true false 3 [[CV.int .i64 1]]), (34, vV jO), (35, vV wh), (36, vV wj), (37, vV jU), (38, vV jH), (39, vV wd), (40, vV jH), (41, vV jz), (42, vV jM), (43, vV j6), (44, vV jz), (45, vV j6), (46, vV wl), (47, vV we), (48, vV wc)], [bx 207 [(1, some [.val jJ, .val jR, .val jQ, .val jG, .val jN, .val jK]), (4, some [.val j8, .val j9, .val jX, .val j7, .val wb, .val jZ]), (7, some [.val jV, .val jT, .val jP, .val jW, .val jq, .val jt]), (8, some [.val jr, .val js, .val ju, .val jB, .val jC, .val jA]), (12, some [.val wo, .val wq, .val wu, .val wp, .val ww, .val wv])]], KK⟩
theorem QpA (lb n : Nat) (K : Ex → St → Option CV) (K' : St → Option CV) (hK : K .normal = K') (jy jx jF jE jU jz jM we wc jv jg jI jD jY j5 jO wg wh wj jH wd j6 wl jJ jR jQ jG jN jK j8 j9 jX j7 wb jZ jV jT jP jW jq jt jr js ju jB jC jA wo wq wu wp ww wv : CV) :
 E0 lb n 0 993 (sub (B Qah) [1, 1, 1, 1, 1, 1, 0]) K ⟨fr 207 [(0, vB false), (1, .ptr 0 1 0), (2, vV jy), (3, vV jx), (4, .ptr 0 4 0), (5, vV jF), (6, vV jE), (7, .ptr 0 7 0), (8, .ptr 0 8 0), (9, vV jU), (10, vV jz), (11, vV jM), (12, .ptr 0 12 0), (13, vV we), (14, vV wc), (19, vV jv), (20, vV jg), (21, vV jv), (22, vV jI), (23, vV jy), (24, vV jx), (25, vV jD), (26, vV jY), (27, vV jD), (28, vV j5), (29, vV jF), (30, vV jE), (31, vV jO), (32, vV wg), (33, .lst true false 3 [[CV.int .i64 1]]), (34, vV jO), (35, vV wh), (36, vV wj), (37, vV jU), (38, vV jH), (39, vV wd), (40, vV jH), (41, vV jz), (42, vV jM), (43, vV j6), (44, vV jz), (45, vV j6), (46, vV wl), (47, vV we), (48, vV wc)], [bx 207 [(1, some [.val jJ, .val jR, .val jQ, .val jG, .val jN, .val jK]), (4, some [.val j8, .val j9, .val jX, .val j7, .val wb, .val jZ]), (7, some [.val jV, .val jT, .val jP, .val jW, .val jq, .val jt]), (8, some [.val jr, .val js, .val ju, .val jB, .val jC, .val jA]), (12, some [.val wo, .val wq, .val wu, .val wp, .val ww, .val wv])]], KK⟩ =
 optO (C lb n QaF [.str [115, 101, 103, 10]]) fun vE =>
 optO (CV.asT vE) fun me =>
 optO (me[0]?) fun oC =>
 optO (CV.asT vE) fun nf =>
 optO (nf[1]?) fun gc =>
 optO (CV.asT vE) fun mX =>
 optO (mX[2]?) fun oM =>
 optO (CV.asA oC) fun c156 =>
 chkO (c156.length == 6) (
 optO (c156[0]?) fun nG =>
 optO (c156[1]?) fun mM =>
 optO (c156[2]?) fun mA =>
 optO (c156[3]?) fun nX =>
 optO (c156[4]?) fun mY =>
 optO (c156[5]?) fun nI =>
 K' ⟨fr 207 [(0, vB false), (1, .ptr 0 1 0), (2, vV jy), (3, vV jx), (4, .ptr 0 4 0), (5, vV jF), (6, vV jE), (7, .ptr 0 7 0), (8, .ptr 0 8 0), (9, vV jU), (10, vV jz), (11, vV jM), (12, .ptr 0 12 0), (13, vV we), (14, vV wc), (15, .ptr 0 15 0), (16, vV gc), (17, vV oM), (19, vV jv), (20, vV jg), (21, vV jv), (22, vV jI), (23, vV jy), (24, vV jx), (25, vV jD), (26, vV jY), (27, vV jD), (28, vV j5), (29, vV jF), (30, vV jE), (31, vV jO), (32, vV wg), (33, .lst true false 3 [[CV.int .i64 1]]), (34, vV jO), (35, vV wh), (36, vV wj), (37, vV jU), (38, vV jH), (39, vV wd), (40, vV jH), (41, vV jz), (42, vV jM), (43, vV j6), (44, vV jz), (45, vV j6), (46, vV wl), (47, vV we), (48, vV wc), (49, vV vE), (50, vV vE), (51, vV oC), (52, vV gc), (53, vV oM)], [bx 207 [(1, some [.val jJ, .val jR, .val jQ, .val jG, .val jN, .val jK]), (4, some [.val j8, .val j9, .val jX, .val j7, .val wb, .val jZ]), (7, some [.val jV, .val jT, .val jP, .val jW, .val jq, .val jt]), (8, some [.val jr, .val js, .val ju, .val jB, .val jC, .val jA]), (12, some [.val wo, .val wq, .val wu, .val wp, .val ww, .val wv]), (15, some [.val nG, .val mM, .val mA, .val nX, .val mY, .val nI])]], KK⟩) := by
 subst hK
 kernel_rfl
noncomputable def Qkh (lb n : Nat) (jy jx jF jE jU jz jM we wc wz wy jv jg jI jD jY j5 jO wg wh wj jH wd j6 wl wm wI jJ jR jQ jG jN jK j8 j9 jX j7 wb jZ jV jT jP jW jq jt jr js ju jB jC jA wo wq wu wp ww wv wO wQ wR wP wL wN : CV) : Option CV :=
 E0 lb n 0 993 (sub (B Qah) [1, 1, 1, 1, 1, 1, 1]) (retK Tryz.prog (R Qah) 0 (outK (Qaf Tryz.prog Qah))) ⟨fr 207 [(0, vB false), (1, .ptr 0 1 0), (2, vV jy), (3, vV jx), (4, .ptr 0 4 0), (5, vV jF), (6, vV jE), (7, .ptr 0 7 0), (8, .ptr 0 8 0), (9, vV jU), (10, vV jz), (11, vV jM), (12, .ptr 0 12 0), (13, vV we), (14, vV wc), (15, .ptr 0 15 0), (16, vV wz), (17, vV wy), (19, vV jv), (20, vV jg), (21, vV jv), (22, vV jI), (23, vV jy), (24, vV jx), (25, vV jD), (26, vV jY), (27, vV jD), (28, vV j5), (29, vV jF), (30, vV jE), (31, vV jO), (32, vV wg), (33, .lst true false 3 [[CV.int .i64 1]]), (34, vV jO), (35, vV wh), (36, vV wj), (37, vV jU), (38, vV jH), (39, vV wd), (40, vV jH), (41, vV jz), (42, vV jM), (43, vV j6), (44, vV jz), (45, vV j6), (46, vV wl), (47, vV we), (48, vV wc), (49, vV wm), (50, vV wm), (51, vV wI), (52, vV wz), (53, vV wy)], [bx 207 [(1, some [.val jJ, .val jR, .val jQ, .val jG, .val jN, .val jK]), (4, some [.val j8, .val j9, .val jX, .val j7, .val wb, .val jZ]), (7, some [.val jV, .val jT, .val jP, .val jW, .val jq, .val jt]), (8, some [.val jr, .val js, .val ju, .val jB, .val jC, .val jA]), (12, some [.val wo, .val wq, .val wu, .val wp, .val ww, .val wv]), (15, some [.val wO, .val wQ, .val wR, .val wP, .val wL, .val wN])]], KK⟩
theorem Qpu (lb n : Nat) (K : Ex → St → Option CV) (K' : St → Option CV) (hK : K .normal = K') (jy jx jF jE jU jz jM we wc wz wy jv jg jI jD jY j5 jO wg wh wj jH wd j6 wl wm wI jJ jR jQ jG jN jK j8 j9 jX j7 wb jZ jV jT jP jW jq jt jr js ju jB jC jA wo wq wu wp ww wv wO wQ wR wP wL wN : CV) :
 E0 lb n 0 992 (sub (B Qah) [1, 1, 1, 1, 1, 1, 1, 0]) K ⟨fr 207 [(0, vB false), (1, .ptr 0 1 0), (2, vV jy), (3, vV jx), (4, .ptr 0 4 0), (5, vV jF), (6, vV jE), (7, .ptr 0 7 0), (8, .ptr 0 8 0), (9, vV jU), (10, vV jz), (11, vV jM), (12, .ptr 0 12 0), (13, vV we), (14, vV wc), (15, .ptr 0 15 0), (16, vV wz), (17, vV wy), (19, vV jv), (20, vV jg), (21, vV jv), (22, vV jI), (23, vV jy), (24, vV jx), (25, vV jD), (26, vV jY), (27, vV jD), (28, vV j5), (29, vV jF), (30, vV jE), (31, vV jO), (32, vV wg), (33, .lst true false 3 [[CV.int .i64 1]]), (34, vV jO), (35, vV wh), (36, vV wj), (37, vV jU), (38, vV jH), (39, vV wd), (40, vV jH), (41, vV jz), (42, vV jM), (43, vV j6), (44, vV jz), (45, vV j6), (46, vV wl), (47, vV we), (48, vV wc), (49, vV wm), (50, vV wm), (51, vV wI), (52, vV wz), (53, vV wy)], [bx 207 [(1, some [.val jJ, .val jR, .val jQ, .val jG, .val jN, .val jK]), (4, some [.val j8, .val j9, .val jX, .val j7, .val wb, .val jZ]), (7, some [.val jV, .val jT, .val jP, .val jW, .val jq, .val jt]), (8, some [.val jr, .val js, .val ju, .val jB, .val jC, .val jA]), (12, some [.val wo, .val wq, .val wu, .val wp, .val ww, .val wv]), (15, some [.val wO, .val wQ, .val wR, .val wP, .val wL, .val wN])]], KK⟩ =
 optO (C lb n Qa8 []) fun o9 =>
 optO (CV.asA o9) fun c178 =>
 chkO (c178.length == 6) (
 optO (c178[0]?) fun mn =>
 optO (c178[1]?) fun nO =>
 optO (c178[2]?) fun mi =>
 optO (c178[3]?) fun nT =>
 optO (c178[4]?) fun n6 =>
 optO (c178[5]?) fun nR =>
 K' ⟨fr 207 [(0, vB false), (1, .ptr 0 1 0), (2, vV jy), (3, vV jx), (4, .ptr 0 4 0), (5, vV jF), (6, vV jE), (7, .ptr 0 7 0), (8, .ptr 0 8 0), (9, vV jU), (10, vV jz), (11, vV jM), (12, .ptr 0 12 0), (13, vV we), (14, vV wc), (15, .ptr 0 15 0), (16, vV wz), (17, vV wy), (18, .ptr 0 18 0), (19, vV jv), (20, vV jg), (21, vV jv), (22, vV jI), (23, vV jy), (24, vV jx), (25, vV jD), (26, vV jY), (27, vV jD), (28, vV j5), (29, vV jF), (30, vV jE), (31, vV jO), (32, vV wg), (33, .lst true false 3 [[CV.int .i64 1]]), (34, vV jO), (35, vV wh), (36, vV wj), (37, vV jU), (38, vV jH), (39, vV wd), (40, vV jH), (41, vV jz), (42, vV jM), (43, vV j6), (44, vV jz), (45, vV j6), (46, vV wl), (47, vV we), (48, vV wc), (49, vV wm), (50, vV wm), (51, vV wI), (52, vV wz), (53, vV wy), (54, vV o9)], [bx 207 [(1, some [.val jJ, .val jR, .val jQ, .val jG, .val jN, .val jK]), (4, some [.val j8, .val j9, .val jX, .val j7, .val wb, .val jZ]), (7, some [.val jV, .val jT, .val jP, .val jW, .val jq, .val jt]), (8, some [.val jr, .val js, .val ju, .val jB, .val jC, .val jA]), (12, some [.val wo, .val wq, .val wu, .val wp, .val ww, .val wv]), (15, some [.val wO, .val wQ, .val wR, .val wP, .val wL, .val wN]), (18, some [.val mn, .val nO, .val mi, .val nT, .val n6, .val nR])]], KK⟩) := by
 subst hK
 kernel_rfl
noncomputable def Qkp (lb n : Nat) (jy jx jF jE jU jz jM we wc wz wy jv jg jI jD jY j5 jO wg wh wj jH wd j6 wl wm wI yd jJ jR jQ jG jN jK j8 j9 jX j7 wb jZ jV jT jP jW jq jt jr js ju jB jC jA wo wq wu wp ww wv wO wQ wR wP wL wN yi ya yp yW ym yg : CV) : Option CV :=
 E0 lb n 0 992 (sub (B Qah) [1, 1, 1, 1, 1, 1, 1, 1]) (retK Tryz.prog (R Qah) 0 (outK (Qaf Tryz.prog Qah))) ⟨fr 207 [(0, vB false), (1, .ptr 0 1 0), (2, vV jy), (3, vV jx), (4, .ptr 0 4 0), (5, vV jF), (6, vV jE), (7, .ptr 0 7 0), (8, .ptr 0 8 0), (9, vV jU), (10, vV jz), (11, vV jM), (12, .ptr 0 12 0), (13, vV we), (14, vV wc), (15, .ptr 0 15 0), (16, vV wz), (17, vV wy), (18, .ptr 0 18 0), (19, vV jv), (20, vV jg), (21, vV jv), (22, vV jI), (23, vV jy), (24, vV jx), (25, vV jD), (26, vV jY), (27, vV jD), (28, vV j5), (29, vV jF), (30, vV jE), (31, vV jO), (32, vV wg), (33, .lst true false 3 [[CV.int .i64 1]]), (34, vV jO), (35, vV wh), (36, vV wj), (37, vV jU), (38, vV jH), (39, vV wd), (40, vV jH), (41, vV jz), (42, vV jM), (43, vV j6), (44, vV jz), (45, vV j6), (46, vV wl), (47, vV we), (48, vV wc), (49, vV wm), (50, vV wm), (51, vV wI), (52, vV wz), (53, vV wy), (54, vV yd)], [bx 207 [(1, some [.val jJ, .val jR, .val jQ, .val jG, .val jN, .val jK]), (4, some [.val j8, .val j9, .val jX, .val j7, .val wb, .val jZ]), (7, some [.val jV, .val jT, .val jP, .val jW, .val jq, .val jt]), (8, some [.val jr, .val js, .val ju, .val jB, .val jC, .val jA]), (12, some [.val wo, .val wq, .val wu, .val wp, .val ww, .val wv]), (15, some [.val wO, .val wQ, .val wR, .val wP, .val wL, .val wN]), (18, some [.val yi, .val ya, .val yp, .val yW, .val ym, .val yg])]], KK⟩
theorem QqC (lb n : Nat) (K : Ex → St → Option CV) (K' : St → Option CV) (hK : K .normal = K') (jy jx jF jE jU jz jM we wc wz wy jv jg jI jD jY j5 jO wg wh wj jH wd j6 wl wm wI yd jJ jR jQ jG jN jK j8 j9 jX j7 wb jZ jV jT jP jW jq jt jr js ju jB jC jA wo wq wu wp ww wv wO wQ wR wP wL wN yi ya yp yW ym yg : CV) :
 E0 lb n 0 991 (sub (B Qah) [1, 1, 1, 1, 1, 1, 1, 1, 0]) K ⟨fr 207 [(0, vB false), (1, .ptr 0 1 0), (2, vV jy), (3, vV jx), (4, .ptr 0 4 0), (5, vV jF), (6, vV jE), (7, .ptr 0 7 0), (8, .ptr 0 8 0), (9, vV jU), (10, vV jz), (11, vV jM), (12, .ptr 0 12 0), (13, vV we), (14, vV wc), (15, .ptr 0 15 0), (16, vV wz), (17, vV wy), (18, .ptr 0 18 0), (19, vV jv), (20, vV jg), (21, vV jv), (22, vV jI), (23, vV jy), (24, vV jx), (25, vV jD), (26, vV jY), (27, vV jD), (28, vV j5), (29, vV jF), (30, vV jE), (31, vV jO), (32, vV wg), (33, .lst true false 3 [[CV.int .i64 1]]), (34, vV jO), (35, vV wh), (36, vV wj), (37, vV jU), (38, vV jH), (39, vV wd), (40, vV jH), (41, vV jz), (42, vV jM), (43, vV j6), (44, vV jz), (45, vV j6), (46, vV wl), (47, vV we), (48, vV wc), (49, vV wm), (50, vV wm), (51, vV wI), (52, vV wz), (53, vV wy), (54, vV yd)], [bx 207 [(1, some [.val jJ, .val jR, .val jQ, .val jG, .val jN, .val jK]), (4, some [.val j8, .val j9, .val jX, .val j7, .val wb, .val jZ]), (7, some [.val jV, .val jT, .val jP, .val jW, .val jq, .val jt]), (8, some [.val jr, .val js, .val ju, .val jB, .val jC, .val jA]), (12, some [.val wo, .val wq, .val wu, .val wp, .val ww, .val wv]), (15, some [.val wO, .val wQ, .val wR, .val wP, .val wL, .val wN]), (18, some [.val yi, .val ya, .val yp, .val yW, .val ym, .val yg])]], KK⟩ =
 optO (CV.asL ya) fun vd =>
 chkO (vd.2.all (·.length == 3)) (
 chkO (decide ((0 : Int) ≤ 1 ∧ 1 ≤ (vd.2.length : Int))) (
 K' ⟨fr 207 [(0, vB false), (1, .ptr 0 1 0), (2, vV jy), (3, vV jx), (4, .ptr 0 4 0), (5, vV jF), (6, vV jE), (7, .ptr 0 7 0), (8, .ptr 0 8 0), (9, vV jU), (10, vV jz), (11, vV jM), (12, .ptr 0 12 0), (13, vV we), (14, vV wc), (15, .ptr 0 15 0), (16, vV wz), (17, vV wy), (18, .ptr 0 18 0), (19, vV jv), (20, vV jg), (21, vV jv), (22, vV jI), (23, vV jy), (24, vV jx), (25, vV jD), (26, vV jY), (27, vV jD), (28, vV j5), (29, vV jF), (30, vV jE), (31, vV jO), (32, vV wg), (33, .lst true false 3 [[CV.int .i64 1]]), (34, vV jO), (35, vV wh), (36, vV wj), (37, vV jU), (38, vV jH), (39, vV wd), (40, vV jH), (41, vV jz), (42, vV jM), (43, vV j6), (44, vV jz), (45, vV j6), (46, vV wl), (47, vV we), (48, vV wc), (49, vV wm), (50, vV wm), (51, vV wI), (52, vV wz), (53, vV wy), (54, vV yd), (55, .ptr 0 18 1), (56, vV ya), (57, .val (.list vd.1 ((vd.2.take 1).drop 0))), (58, .ptr 0 18 3), (59, .ptr 0 18 1)], [bx 207 [(1, some [.val jJ, .val jR, .val jQ, .val jG, .val jN, .val jK]), (4, some [.val j8, .val j9, .val jX, .val j7, .val wb, .val jZ]), (7, some [.val jV, .val jT, .val jP, .val jW, .val jq, .val jt]), (8, some [.val jr, .val js, .val ju, .val jB, .val jC, .val jA]), (12, some [.val wo, .val wq, .val wu, .val wp, .val ww, .val wv]), (15, some [.val wO, .val wQ, .val wR, .val wP, .val wL, .val wN]), (18, some [.val yi, .val (.list vd.1 ((vd.2.take 1).drop 0)), .val yp, .lst true true 39 [], .val ym, .val yg])]], KK⟩)) := by
 subst hK
 kernel_rfl
noncomputable def QjF (lb n : Nat) (jy jx jF jE jU jz jM we wc wz wy jv jg jI jD jY j5 jO wg wh wj jH wd j6 wl wm wI yd ya : CV) (yX : Bool × LL) (jJ jR jQ jG jN jK j8 j9 jX j7 wb jZ jV jT jP jW jq jt jr js ju jB jC jA wo wq wu wp ww wv wO wQ wR wP wL wN yi yp ym yg : CV) : Option CV :=
 E0 lb n 0 991 (sub (B Qah) [1, 1, 1, 1, 1, 1, 1, 1, 1]) (retK Tryz.prog (R Qah) 0 (outK (Qaf Tryz.prog Qah))) ⟨fr 207 [(0, vB false), (1, .ptr 0 1 0), (2, vV jy), (3, vV jx), (4, .ptr 0 4 0), (5, vV jF), (6, vV jE), (7, .ptr 0 7 0), (8, .ptr 0 8 0), (9, vV jU), (10, vV jz), (11, vV jM), (12, .ptr 0 12 0), (13, vV we), (14, vV wc), (15, .ptr 0 15 0), (16, vV wz), (17, vV wy), (18, .ptr 0 18 0), (19, vV jv), (20, vV jg), (21, vV jv), (22, vV jI), (23, vV jy), (24, vV jx), (25, vV jD), (26, vV jY), (27, vV jD), (28, vV j5), (29, vV jF), (30, vV jE), (31, vV jO), (32, vV wg), (33, .lst true false 3 [[CV.int .i64 1]]), (34, vV jO), (35, vV wh), (36, vV wj), (37, vV jU), (38, vV jH), (39, vV wd), (40, vV jH), (41, vV jz), (42, vV jM), (43, vV j6), (44, vV jz), (45, vV j6), (46, vV wl), (47, vV we), (48, vV wc), (49, vV wm), (50, vV wm), (51, vV wI), (52, vV wz), (53, vV wy), (54, vV yd), (55, .ptr 0 18 1), (56, vV ya), (57, .val (.list yX.1 ((yX.2.take 1).drop 0))), (58, .ptr 0 18 3), (59, .ptr 0 18 1)], [bx 207 [(1, some [.val jJ, .val jR, .val jQ, .val jG, .val jN, .val jK]), (4, some [.val j8, .val j9, .val jX, .val j7, .val wb, .val jZ]), (7, some [.val jV, .val jT, .val jP, .val jW, .val jq, .val jt]), (8, some [.val jr, .val js, .val ju, .val jB, .val jC, .val jA]), (12, some [.val wo, .val wq, .val wu, .val wp, .val ww, .val wv]), (15, some [.val wO, .val wQ, .val wR, .val wP, .val wL, .val wN]), (18, some [.val yi, .val (.list yX.1 ((yX.2.take 1).drop 0)), .val yp, .lst true true 39 [], .val ym, .val yg])]], KK⟩
theorem Qm2 (lb n : Nat) (jy jx jF jE jU jz jM we wc wz wy jv jg jI jD jY j5 jO wg wh wj jH wd j6 wl wm wI yd jJ jR jQ jG jN jK j8 j9 jX j7 wb jZ jV jT jP jW jq jt jr js ju jB jC jA wo wq wu wp ww wv wO wQ wR wP wL wN yi ya yp yW ym yg : CV) :
 Qkp lb n jy jx jF jE jU jz jM we wc wz wy jv jg jI jD jY j5 jO wg wh wj jH wd j6 wl wm wI yd jJ jR jQ jG jN jK j8 j9 jX j7 wb jZ jV jT jP jW jq jt jr js ju jB jC jA wo wq wu wp ww wv wO wQ wR wP wL wN yi ya yp yW ym yg =
 optO (CV.asL ya) fun yX =>
 chkO (yX.2.all (·.length == 3)) (
 chkO (decide ((0 : Int) ≤ 1 ∧ 1 ≤ (yX.2.length : Int))) (
 QjF lb n jy jx jF jE jU jz jM we wc wz wy jv jg jI jD jY j5 jO wg wh wj jH wd j6 wl wm wI yd ya yX jJ jR jQ jG jN jK j8 j9 jX j7 wb jZ jV jT jP jW jq jt jr js ju jB jC jA wo wq wu wp ww wv wO wQ wR wP wL wN yi yp ym yg)) :=
 (Qbc lb n (m := 991) (b := (sub (B Qah) [1, 1, 1, 1, 1, 1, 1, 1, 1])) (by kernel_rfl)).trans (QqC lb n _ _ (Qbd (by kernel_rfl) (by kernel_rfl)) jy jx jF jE jU jz jM we wc wz wy jv jg jI jD jY j5 jO wg wh wj jH wd j6 wl wm wI yd jJ jR jQ jG jN jK j8 j9 jX j7 wb jZ jV jT jP jW jq jt jr js ju jB jC jA wo wq wu wp ww wv wO wQ wR wP wL wN yi ya yp yW ym yg)
theorem Qmz (lb n : Nat) (jy jx jF jE jU jz jM we wc wz wy jv jg jI jD jY j5 jO wg wh wj jH wd j6 wl wm wI jJ jR jQ jG jN jK j8 j9 jX j7 wb jZ jV jT jP jW jq jt jr js ju jB jC jA wo wq wu wp ww wv wO wQ wR wP wL wN : CV) :
 Qkh lb n jy jx jF jE jU jz jM we wc wz wy jv jg jI jD jY j5 jO wg wh wj jH wd j6 wl wm wI jJ jR jQ jG jN jK j8 j9 jX j7 wb jZ jV jT jP jW jq jt jr js ju jB jC jA wo wq wu wp ww wv wO wQ wR wP wL wN =
 optO (C lb n Qa8 []) fun yd =>
 optO (CV.asA yd) fun c186 =>
 chkO (c186.length == 6) (
 optO (c186[0]?) fun yi =>
 optO (c186[1]?) fun ya =>
 optO (c186[2]?) fun yp =>
 optO (c186[3]?) fun yW =>
 optO (c186[4]?) fun ym =>
 optO (c186[5]?) fun yg =>
 Qkp lb n jy jx jF jE jU jz jM we wc wz wy jv jg jI jD jY j5 jO wg wh wj jH wd j6 wl wm wI yd jJ jR jQ jG jN jK j8 j9 jX j7 wb jZ jV jT jP jW jq jt jr js ju jB jC jA wo wq wu wp ww wv wO wQ wR wP wL wN yi ya yp yW ym yg) :=
 (Qbc lb n (m := 992) (b := (sub (B Qah) [1, 1, 1, 1, 1, 1, 1, 1])) (by kernel_rfl)).trans (Qpu lb n _ _ (Qbd (by kernel_rfl) (by kernel_rfl)) jy jx jF jE jU jz jM we wc wz wy jv jg jI jD jY j5 jO wg wh wj jH wd j6 wl wm wI jJ jR jQ jG jN jK j8 j9 jX j7 wb jZ jV jT jP jW jq jt jr js ju jB jC jA wo wq wu wp ww wv wO wQ wR wP wL wN)
theorem Qnm (lb n : Nat) (jy jx jF jE jU jz jM we wc jv jg jI jD jY j5 jO wg wh wj jH wd j6 wl jJ jR jQ jG jN jK j8 j9 jX j7 wb jZ jV jT jP jW jq jt jr js ju jB jC jA wo wq wu wp ww wv : CV) :
 QkS lb n jy jx jF jE jU jz jM we wc jv jg jI jD jY j5 jO wg wh wj jH wd j6 wl jJ jR jQ jG jN jK j8 j9 jX j7 wb jZ jV jT jP jW jq jt jr js ju jB jC jA wo wq wu wp ww wv =
 optO (C lb n QaF [.str [115, 101, 103, 10]]) fun wm =>
 optO (CV.asT wm) fun t164 =>
 optO (t164[0]?) fun wI =>
 optO (CV.asT wm) fun nJ =>
 optO (nJ[1]?) fun wz =>
 optO (CV.asT wm) fun t168 =>
 optO (t168[2]?) fun wy =>
 optO (CV.asA wI) fun c170 =>
 chkO (c170.length == 6) (
 optO (c170[0]?) fun wO =>
 optO (c170[1]?) fun wQ =>
 optO (c170[2]?) fun wR =>
 optO (c170[3]?) fun wP =>
 optO (c170[4]?) fun wL =>
 optO (c170[5]?) fun wN =>
 Qkh lb n jy jx jF jE jU jz jM we wc wz wy jv jg jI jD jY j5 jO wg wh wj jH wd j6 wl wm wI jJ jR jQ jG jN jK j8 j9 jX j7 wb jZ jV jT jP jW jq jt jr js ju jB jC jA wo wq wu wp ww wv wO wQ wR wP wL wN) :=
 (Qbc lb n (m := 993) (b := (sub (B Qah) [1, 1, 1, 1, 1, 1, 1])) (by kernel_rfl)).trans (QpA lb n _ _ (Qbd (by kernel_rfl) (by kernel_rfl)) jy jx jF jE jU jz jM we wc jv jg jI jD jY j5 jO wg wh wj jH wd j6 wl jJ jR jQ jG jN jK j8 j9 jX j7 wb jZ jV jT jP jW jq jt jr js ju jB jC jA wo wq wu wp ww wv)
theorem QnB (lb n : Nat) (jy jx jF jE jU jz jM jv jg jI jD jY j5 jO wg wh wj jH wd jJ jR jQ jG jN jK j8 j9 jX j7 wb jZ jV jT jP jW jq jt jr js ju jB jC jA : CV) :
 Qkl lb n jy jx jF jE jU jz jM jv jg jI jD jY j5 jO wg wh wj jH wd jJ jR jQ jG jN jK j8 j9 jX j7 wb jZ jV jT jP jW jq jt jr js ju jB jC jA =
 optO (C lb n QaF [jz]) fun j6 =>
 optO (CV.asT j6) fun na =>
 optO (na[0]?) fun wl =>
 optO (CV.asT j6) fun t138 =>
 optO (t138[1]?) fun we =>
 optO (CV.asT j6) fun nw =>
 optO (nw[2]?) fun wc =>
 optO (CV.asA wl) fun c142 =>
 chkO (c142.length == 6) (
 optO (c142[0]?) fun wo =>
 optO (c142[1]?) fun wq =>
 optO (c142[2]?) fun wu =>
 optO (c142[3]?) fun wp =>
 optO (c142[4]?) fun ww =>
 optO (c142[5]?) fun wv =>
 QkS lb n jy jx jF jE jU jz jM we wc jv jg jI jD jY j5 jO wg wh wj jH wd j6 wl jJ jR jQ jG jN jK j8 j9 jX j7 wb jZ jV jT jP jW jq jt jr js ju jB jC jA wo wq wu wp ww wv) :=
 (Qbc lb n (m := 994) (b := (sub (B Qah) [1, 1, 1, 1, 1, 1])) (by kernel_rfl)).trans (QpU lb n _ _ (Qbd (by kernel_rfl) (by kernel_rfl)) jy jx jF jE jU jz jM jv jg jI jD jY j5 jO wg wh wj jH wd jJ jR jQ jG jN jK j8 j9 jX j7 wb jZ jV jT jP jW jq jt jr js ju jB jC jA)
theorem Qnd (lb n : Nat) (jy jx jF jE jU jv jg jI jD jY j5 jO wg wh wj jJ jR jQ jG jN jK j8 j9 jX j7 wb jZ jV jT jP jW jq jt jr js ju jB jC jA : CV) :
 Qkt lb n jy jx jF jE jU jv jg jI jD jY j5 jO wg wh wj jJ jR jQ jG jN jK j8 j9 jX j7 wb jZ jV jT jP jW jq jt jr js ju jB jC jA =
 optO (C lb n Qa8 []) fun wd =>
 optO (C lb n QdS [wd]) fun jH =>
 optO (CV.asT jH) fun nz =>
 optO (nz[0]?) fun jz =>
 optO (CV.asT jH) fun t119 =>
 optO (t119[1]?) fun jM =>
 Qkl lb n jy jx jF jE jU jz jM jv jg jI jD jY j5 jO wg wh wj jH wd jJ jR jQ jG jN jK j8 j9 jX j7 wb jZ jV jT jP jW jq jt jr js ju jB jC jA :=
 (Qbc lb n (m := 995) (b := (sub (B Qah) [1, 1, 1, 1, 1])) (by kernel_rfl)).trans (Qpl lb n _ _ (Qbd (by kernel_rfl) (by kernel_rfl)) jy jx jF jE jU jv jg jI jD jY j5 jO wg wh wj jJ jR jQ jG jN jK j8 j9 jX j7 wb jZ jV jT jP jW jq jt jr js ju jB jC jA)
theorem Qnv (lb n : Nat) (jy jx jF jE jv jg jI jD jY j5 jJ jR jQ jG jN jK j8 j9 jX j7 wb jZ : CV) :
 QkT lb n jy jx jF jE jv jg jI jD jY j5 jJ jR jQ jG jN jK j8 j9 jX j7 wb jZ =
 optO (C lb n Qa8 []) fun wg =>
 optO (C lb n Qdz [wg, .list false [[CV.int .i64 1]], .str [88, 89, 90, 57, 57, 57]]) fun jO =>
 optO (CV.asT jO) fun qB =>
 optO (qB[0]?) fun wh =>
 optO (CV.asT jO) fun qC =>
 optO (qC[1]?) fun wj =>
 optO (CV.asT jO) fun pB =>
 optO (pB[2]?) fun jU =>
 optO (CV.asA wh) fun c95 =>
 chkO (c95.length == 6) (
 optO (c95[0]?) fun jV =>
 optO (c95[1]?) fun jT =>
 optO (c95[2]?) fun jP =>
 optO (c95[3]?) fun jW =>
 optO (c95[4]?) fun jq =>
 optO (c95[5]?) fun jt =>
 optO (CV.asA wj) fun c102 =>
 chkO (c102.length == 6) (
 optO (c102[0]?) fun jr =>
 optO (c102[1]?) fun js =>
 optO (c102[2]?) fun ju =>
 optO (c102[3]?) fun jB =>
 optO (c102[4]?) fun jC =>
 optO (c102[5]?) fun jA =>
 Qkt lb n jy jx jF jE jU jv jg jI jD jY j5 jO wg wh wj jJ jR jQ jG jN jK j8 j9 jX j7 wb jZ jV jT jP jW jq jt jr js ju jB jC jA)) :=
 (Qbc lb n (m := 996) (b := (sub (B Qah) [1, 1, 1, 1])) (by kernel_rfl)).trans (QpX lb n _ _ (Qbd (by kernel_rfl) (by kernel_rfl)) jy jx jF jE jv jg jI jD jY j5 jJ jR jQ jG jN jK j8 j9 jX j7 wb jZ)
theorem Qmy (lb n : Nat) (jy jx jv jg jI jJ jR jQ jG jN jK : CV) :
 QkB lb n jy jx jv jg jI jJ jR jQ jG jN jK =
 optO (C lb n Qa8 []) fun jY =>
 optO (C lb n Qbt [jY, .int .i64 0, .int .i64 6]) fun jD =>
 optO (CV.asT jD) fun t51 =>
 optO (t51[0]?) fun j5 =>
 optO (CV.asT jD) fun t53 =>
 optO (t53[1]?) fun jF =>
 optO (CV.asT jD) fun qD =>
 optO (qD[2]?) fun jE =>
 optO (CV.asA j5) fun c57 =>
 chkO (c57.length == 6) (
 optO (c57[0]?) fun j8 =>
 optO (c57[1]?) fun j9 =>
 optO (c57[2]?) fun jX =>
 optO (c57[3]?) fun j7 =>
 optO (c57[4]?) fun wb =>
 optO (c57[5]?) fun jZ =>
 QkT lb n jy jx jF jE jv jg jI jD jY j5 jJ jR jQ jG jN jK j8 j9 jX j7 wb jZ) :=
 (Qbc lb n (m := 997) (b := (sub (B Qah) [1, 1, 1])) (by kernel_rfl)).trans (Qqc lb n _ _ (Qbd (by kernel_rfl) (by kernel_rfl)) jy jx jv jg jI jJ jR jQ jG jN jK)
theorem Qnk (lb n : Nat)  :
 Qj4 lb n  =
 optO (C lb n Qa8 []) fun jg =>
 optO (C lb n Qbt [jg, .int .i64 1, .int .i64 8]) fun jv =>
 optO (CV.asT jv) fun t20 =>
 optO (t20[0]?) fun jI =>
 optO (CV.asT jv) fun qA =>
 optO (qA[1]?) fun jy =>
 optO (CV.asT jv) fun kk =>
 optO (kk[2]?) fun jx =>
 optO (CV.asA jI) fun c26 =>
 chkO (c26.length == 6) (
 optO (c26[0]?) fun jJ =>
 optO (c26[1]?) fun jR =>
 optO (c26[2]?) fun jQ =>
 optO (c26[3]?) fun jG =>
 optO (c26[4]?) fun jN =>
 optO (c26[5]?) fun jK =>
 QkB lb n jy jx jv jg jI jJ jR jQ jG jN jK) :=
 (Qbc lb n (m := 998) (b := (sub (B Qah) [1, 1])) (by kernel_rfl)).trans (QpW lb n _ _ (Qbd (by kernel_rfl) (by kernel_rfl)) )
theorem Qnw (lb n : Nat)  :
 l35_awake_J1 lb n  =
 Qj4 lb n  :=
 (Qbc lb n (m := 999) (b := (sub (B Qah) [1])) (by kernel_rfl)).trans (Qpo lb n _ _ (Qbd (by kernel_rfl) (by kernel_rfl)) )
theorem Qqd (lb n : Nat)  :
 top lb n Qah [] =
 l35_awake_J1 lb n  := by kernel_rfl
end Go.Proofs
