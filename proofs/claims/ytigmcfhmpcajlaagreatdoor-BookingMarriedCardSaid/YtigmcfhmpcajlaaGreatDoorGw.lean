/- Equations of functions, printed by program. Conditions: none. -/
import Derived.Test.YtigmcfhmpcajlaaGreatDoorEv
namespace Go.Proofs
open Go.Am
set_option maxRecDepth 100000
set_option linter.unusedVariables false
theorem Qbr (lb n : Nat) {m : Nat} {c a b : Code} {k : Ex → St → Option CV} {σ : St} (h : c = .seq a b) : E0 lb n 0 (m + 1) c k σ = E0 lb n 0 m a (seqK (E0 lb n 0 m) a b k) σ := by
 subst h
 rfl
theorem Qbq {ev : Code → (Ex → St → Option CV) → St → Option CV} {a b : Code} {k : Ex → St → Option CV} (h : Qpb a b = false) (h2 : QnM a = false) : seqK ev a b k .normal = ev b k := by
 funext σ
 unfold seqK tidy
 rw [h, h2]
noncomputable def l35_awake_J1 :=
 fun lb n =>
 E0 lb n 0 1000 (sub (B Qan) []) (retK Tryz.prog (R Qan) 0 (outK (Qae Tryz.prog Qan))) ⟨fr 207 [], [bx 207 []], KK⟩
theorem Qr7 (lb n : Nat) (K : Ex → St → Option CV) (K' : St → Option CV) (hK : K .normal = K')  :
 E0 lb n 0 999 (sub (B Qan) [0]) K ⟨fr 207 [], [bx 207 []], KK⟩ =
 K' ⟨fr 207 [(0, vB false)], [bx 207 []], KK⟩ := by
 subst hK
 kernel_rfl
noncomputable def QlP (lb n : Nat)  : Option CV :=
 E0 lb n 0 999 (sub (B Qan) [1]) (retK Tryz.prog (R Qan) 0 (outK (Qae Tryz.prog Qan))) ⟨fr 207 [(0, vB false)], [bx 207 []], KK⟩
theorem QrO (lb n : Nat) (K : Ex → St → Option CV) (K' : St → Option CV) (hK : K .normal = K')  :
 E0 lb n 0 998 (sub (B Qan) [1, 0]) K ⟨fr 207 [(0, vB false)], [bx 207 []], KK⟩ =
 optO (C lb n Qbk []) fun r1 =>
 optO (C lb n Qab [r1, .int .i64 1, .int .i64 8]) fun r2 =>
 optO (CV.asT r2) fun t3 =>
 optO (t3[0]?) fun x4 =>
 optO (CV.asT r2) fun t5 =>
 optO (t5[1]?) fun x6 =>
 optO (CV.asT r2) fun t7 =>
 optO (t7[2]?) fun x9 =>
 optO (CV.asA x4) fun c10 =>
 chkO (c10.length == 6) (
 optO (c10[0]?) fun sV =>
 optO (c10[1]?) fun g8 =>
 optO (c10[2]?) fun kA =>
 optO (c10[3]?) fun kE =>
 optO (c10[4]?) fun mL =>
 optO (c10[5]?) fun zx =>
 K' ⟨fr 207 [(0, vB false), (1, .ptr 0 1 0), (2, vV x6), (3, vV x9), (19, vV r2), (20, vV r1), (21, vV r2), (22, vV x4), (23, vV x6), (24, vV x9)], [bx 207 [(1, some [.val sV, .val g8, .val kA, .val kE, .val mL, .val zx])]], KK⟩) := by
 subst hK
 kernel_rfl
noncomputable def QlA (lb n : Nat) (jz jx jy jg jL jG jV jR jM jQ jN : CV) : Option CV :=
 E0 lb n 0 998 (sub (B Qan) [1, 1]) (retK Tryz.prog (R Qan) 0 (outK (Qae Tryz.prog Qan))) ⟨fr 207 [(0, vB false), (1, .ptr 0 1 0), (2, vV jz), (3, vV jx), (19, vV jy), (20, vV jg), (21, vV jy), (22, vV jL), (23, vV jz), (24, vV jx)], [bx 207 [(1, some [.val jG, .val jV, .val jR, .val jM, .val jQ, .val jN])]], KK⟩
theorem Qri (lb n : Nat) (K : Ex → St → Option CV) (K' : St → Option CV) (hK : K .normal = K') (jz jx jy jg jL jG jV jR jM jQ jN : CV) :
 E0 lb n 0 997 (sub (B Qan) [1, 1, 0]) K ⟨fr 207 [(0, vB false), (1, .ptr 0 1 0), (2, vV jz), (3, vV jx), (19, vV jy), (20, vV jg), (21, vV jy), (22, vV jL), (23, vV jz), (24, vV jx)], [bx 207 [(1, some [.val jG, .val jV, .val jR, .val jM, .val jQ, .val jN])]], KK⟩ =
 optO (C lb n Qbk []) fun nr =>
 optO (C lb n Qab [nr, .int .i64 0, .int .i64 6]) fun oH =>
 optO (CV.asT oH) fun sU =>
 optO (sU[0]?) fun vR =>
 optO (CV.asT oH) fun zd =>
 optO (zd[1]?) fun m7 =>
 optO (CV.asT oH) fun za =>
 optO (za[2]?) fun oB =>
 optO (CV.asA vR) fun c42 =>
 chkO (c42.length == 6) (
 optO (c42[0]?) fun lh =>
 optO (c42[1]?) fun mP =>
 optO (c42[2]?) fun oJ =>
 optO (c42[3]?) fun vH =>
 optO (c42[4]?) fun oE =>
 optO (c42[5]?) fun gU =>
 K' ⟨fr 207 [(0, vB false), (1, .ptr 0 1 0), (2, vV jz), (3, vV jx), (4, .ptr 0 4 0), (5, vV m7), (6, vV oB), (19, vV jy), (20, vV jg), (21, vV jy), (22, vV jL), (23, vV jz), (24, vV jx), (25, vV oH), (26, vV nr), (27, vV oH), (28, vV vR), (29, vV m7), (30, vV oB)], [bx 207 [(1, some [.val jG, .val jV, .val jR, .val jM, .val jQ, .val jN]), (4, some [.val lh, .val mP, .val oJ, .val vH, .val oE, .val gU])]], KK⟩) := by
 subst hK
 kernel_rfl
noncomputable def Ql4 (lb n : Nat) (jz jx jI jJ jy jg jL jF j9 wc jG jV jR jM jQ jN we wh j7 wg wb j8 : CV) : Option CV :=
 E0 lb n 0 997 (sub (B Qan) [1, 1, 1]) (retK Tryz.prog (R Qan) 0 (outK (Qae Tryz.prog Qan))) ⟨fr 207 [(0, vB false), (1, .ptr 0 1 0), (2, vV jz), (3, vV jx), (4, .ptr 0 4 0), (5, vV jI), (6, vV jJ), (19, vV jy), (20, vV jg), (21, vV jy), (22, vV jL), (23, vV jz), (24, vV jx), (25, vV jF), (26, vV j9), (27, vV jF), (28, vV wc), (29, vV jI), (30, vV jJ)], [bx 207 [(1, some [.val jG, .val jV, .val jR, .val jM, .val jQ, .val jN]), (4, some [.val we, .val wh, .val j7, .val wg, .val wb, .val j8])]], KK⟩
theorem QrU (lb n : Nat) (K : Ex → St → Option CV) (K' : St → Option CV) (hK : K .normal = K') (jz jx jI jJ jy jg jL jF j9 wc jG jV jR jM jQ jN we wh j7 wg wb j8 : CV) :
 E0 lb n 0 996 (sub (B Qan) [1, 1, 1, 0]) K ⟨fr 207 [(0, vB false), (1, .ptr 0 1 0), (2, vV jz), (3, vV jx), (4, .ptr 0 4 0), (5, vV jI), (6, vV jJ), (19, vV jy), (20, vV jg), (21, vV jy), (22, vV jL), (23, vV jz), (24, vV jx), (25, vV jF), (26, vV j9), (27, vV jF), (28, vV wc), (29, vV jI), (30, vV jJ)], [bx 207 [(1, some [.val jG, .val jV, .val jR, .val jM, .val jQ, .val jN]), (4, some [.val we, .val wh, .val j7, .val wg, .val wb, .val j8])]], KK⟩ =
 optO (C lb n Qbk []) fun nz =>
 optO (C lb n Qee [nz, .list false [[CV.int .i64 1]], .str [88, 89, 90, 57, 57, 57]]) fun kJ =>
 optO (CV.asT kJ) fun sL =>
 optO (sL[0]?) fun nq =>
 optO (CV.asT kJ) fun zV =>
 optO (zV[1]?) fun ny =>
 optO (CV.asT kJ) fun zP =>
 optO (zP[2]?) fun gF =>
 optO (CV.asA nq) fun c73 =>
 chkO (c73.length == 6) (
 optO (c73[0]?) fun md =>
 optO (c73[1]?) fun gE =>
 optO (c73[2]?) fun nB =>
 optO (c73[3]?) fun mt =>
 optO (c73[4]?) fun mG =>
 optO (c73[5]?) fun gX =>
 optO (CV.asA ny) fun c80 =>
 chkO (c80.length == 6) (
 optO (c80[0]?) fun nA =>
 optO (c80[1]?) fun z8 =>
 optO (c80[2]?) fun zU =>
 optO (c80[3]?) fun sG =>
 optO (c80[4]?) fun sS =>
 optO (c80[5]?) fun my =>
 K' ⟨fr 207 [(0, vB false), (1, .ptr 0 1 0), (2, vV jz), (3, vV jx), (4, .ptr 0 4 0), (5, vV jI), (6, vV jJ), (7, .ptr 0 7 0), (8, .ptr 0 8 0), (9, vV gF), (19, vV jy), (20, vV jg), (21, vV jy), (22, vV jL), (23, vV jz), (24, vV jx), (25, vV jF), (26, vV j9), (27, vV jF), (28, vV wc), (29, vV jI), (30, vV jJ), (31, vV kJ), (32, vV nz), (33, .lst true false 3 [[CV.int .i64 1]]), (34, vV kJ), (35, vV nq), (36, vV ny), (37, vV gF)], [bx 207 [(1, some [.val jG, .val jV, .val jR, .val jM, .val jQ, .val jN]), (4, some [.val we, .val wh, .val j7, .val wg, .val wb, .val j8]), (7, some [.val md, .val gE, .val nB, .val mt, .val mG, .val gX]), (8, some [.val nA, .val z8, .val zU, .val sG, .val sS, .val my])]], KK⟩)) := by
 subst hK
 kernel_rfl
noncomputable def QlX (lb n : Nat) (jz jx jI jJ jY jy jg jL jF j9 wc jS wm wo wn jG jV jR jM jQ jN we wh j7 wg wb j8 jX j5 jT jU jv jt ju jr js jD jC jB : CV) : Option CV :=
 E0 lb n 0 996 (sub (B Qan) [1, 1, 1, 1]) (retK Tryz.prog (R Qan) 0 (outK (Qae Tryz.prog Qan))) ⟨fr 207 [(0, vB false), (1, .ptr 0 1 0), (2, vV jz), (3, vV jx), (4, .ptr 0 4 0), (5, vV jI), (6, vV jJ), (7, .ptr 0 7 0), (8, .ptr 0 8 0), (9, vV jY), (19, vV jy), (20, vV jg), (21, vV jy), (22, vV jL), (23, vV jz), (24, vV jx), (25, vV jF), (26, vV j9), (27, vV jF), (28, vV wc), (29, vV jI), (30, vV jJ), (31, vV jS), (32, vV wm), (33, .lst true false 3 [[CV.int .i64 1]]), (34, vV jS), (35, vV wo), (36, vV wn), (37, vV jY)], [bx 207 [(1, some [.val jG, .val jV, .val jR, .val jM, .val jQ, .val jN]), (4, some [.val we, .val wh, .val j7, .val wg, .val wb, .val j8]), (7, some [.val jX, .val j5, .val jT, .val jU, .val jv, .val jt]), (8, some [.val ju, .val jr, .val js, .val jD, .val jC, .val jB])]], KK⟩
theorem QrE (lb n : Nat) (K : Ex → St → Option CV) (K' : St → Option CV) (hK : K .normal = K') (jz jx jI jJ jY jy jg jL jF j9 wc jS wm wo wn jG jV jR jM jQ jN we wh j7 wg wb j8 jX j5 jT jU jv jt ju jr js jD jC jB : CV) :
 E0 lb n 0 995 (sub (B Qan) [1, 1, 1, 1, 0]) K ⟨fr 207 [(0, vB false), (1, .ptr 0 1 0), (2, vV jz), (3, vV jx), (4, .ptr 0 4 0), (5, vV jI), (6, vV jJ), (7, .ptr 0 7 0), (8, .ptr 0 8 0), (9, vV jY), (19, vV jy), (20, vV jg), (21, vV jy), (22, vV jL), (23, vV jz), (24, vV jx), (25, vV jF), (26, vV j9), (27, vV jF), (28, vV wc), (29, vV jI), (30, vV jJ), (31, vV jS), (32, vV wm), (33, .lst true false 3 [[CV.int .i64 1]]), (34, vV jS), (35, vV wo), (36, vV wn), (37, vV jY)], [bx 207 [(1, some [.val jG, .val jV, .val jR, .val jM, .val jQ, .val jN]), (4, some [.val we, .val wh, .val j7, .val wg, .val wb, .val j8]), (7, some [.val jX, .val j5, .val jT, .val jU, .val jv, .val jt]), (8, some [.val ju, .val jr, .val js, .val jD, .val jC, .val jB])]], KK⟩ =
 optO (C lb n Qbk []) fun mD =>
 optO (C lb n QeE [mD]) fun yg =>
 optO (CV.asT yg) fun pW =>
 optO (pW[0]?) fun mY =>
 optO (CV.asT yg) fun qs =>
 optO (qs[1]?) fun mw =>
 K' ⟨fr 207 [(0, vB false), (1, .ptr 0 1 0), (2, vV jz), (3, vV jx), (4, .ptr 0 4 0), (5, vV jI), (6, vV jJ), (7, .ptr 0 7 0), (8, .ptr 0 8 0), (9, vV jY), (10, vV mY), (11, vV mw), (19, vV jy), (20, vV jg), (21, vV jy), (22, vV jL), (23, vV jz), (24, vV jx), (25, vV jF), (26, vV j9), (27, vV jF), (28, vV wc), (29, vV jI), (30, vV jJ), (31, vV jS), (32, vV wm), (33, .lst true false 3 [[CV.int .i64 1]]), (34, vV jS), (35, vV wo), (36, vV wn), (37, vV jY), (38, vV yg), (39, vV mD), (40, vV yg), (41, vV mY), (42, vV mw)], [bx 207 [(1, some [.val jG, .val jV, .val jR, .val jM, .val jQ, .val jN]), (4, some [.val we, .val wh, .val j7, .val wg, .val wb, .val j8]), (7, some [.val jX, .val j5, .val jT, .val jU, .val jv, .val jt]), (8, some [.val ju, .val jr, .val js, .val jD, .val jC, .val jB])]], KK⟩ := by
 subst hK
 kernel_rfl
noncomputable def QlN (lb n : Nat) (jz jx jI jJ jY jA jO jy jg jL jF j9 wc jS wm wo wn jK wk jG jV jR jM jQ jN we wh j7 wg wb j8 jX j5 jT jU jv jt ju jr js jD jC jB : CV) : Option CV :=
 E0 lb n 0 995 (sub (B Qan) [1, 1, 1, 1, 1]) (retK Tryz.prog (R Qan) 0 (outK (Qae Tryz.prog Qan))) ⟨fr 207 [(0, vB false), (1, .ptr 0 1 0), (2, vV jz), (3, vV jx), (4, .ptr 0 4 0), (5, vV jI), (6, vV jJ), (7, .ptr 0 7 0), (8, .ptr 0 8 0), (9, vV jY), (10, vV jA), (11, vV jO), (19, vV jy), (20, vV jg), (21, vV jy), (22, vV jL), (23, vV jz), (24, vV jx), (25, vV jF), (26, vV j9), (27, vV jF), (28, vV wc), (29, vV jI), (30, vV jJ), (31, vV jS), (32, vV wm), (33, .lst true false 3 [[CV.int .i64 1]]), (34, vV jS), (35, vV wo), (36, vV wn), (37, vV jY), (38, vV jK), (39, vV wk), (40, vV jK), (41, vV jA), (42, vV jO)], [bx 207 [(1, some [.val jG, .val jV, .val jR, .val jM, .val jQ, .val jN]), (4, some [.val we, .val wh, .val j7, .val wg, .val wb, .val j8]), (7, some [.val jX, .val j5, .val jT, .val jU, .val jv, .val jt]), (8, some [.val ju, .val jr, .val js, .val jD, .val jC, .val jB])]], KK⟩
theorem Qse (lb n : Nat) (K : Ex → St → Option CV) (K' : St → Option CV) (hK : K .normal = K') (jz jx jI jJ jY jA jO jy jg jL jF j9 wc jS wm wo wn jK wk jG jV jR jM jQ jN we wh j7 wg wb j8 jX j5 jT jU jv jt ju jr js jD jC jB : CV) :
 E0 lb n 0 994 (sub (B Qan) [1, 1, 1, 1, 1, 0]) K ⟨fr 207 [(0, vB false), (1, .ptr 0 1 0), (2, vV jz), (3, vV jx), (4, .ptr 0 4 0), (5, vV jI), (6, vV jJ), (7, .ptr 0 7 0), (8, .ptr 0 8 0), (9, vV jY), (10, vV jA), (11, vV jO), (19, vV jy), (20, vV jg), (21, vV jy), (22, vV jL), (23, vV jz), (24, vV jx), (25, vV jF), (26, vV j9), (27, vV jF), (28, vV wc), (29, vV jI), (30, vV jJ), (31, vV jS), (32, vV wm), (33, .lst true false 3 [[CV.int .i64 1]]), (34, vV jS), (35, vV wo), (36, vV wn), (37, vV jY), (38, vV jK), (39, vV wk), (40, vV jK), (41, vV jA), (42, vV jO)], [bx 207 [(1, some [.val jG, .val jV, .val jR, .val jM, .val jQ, .val jN]), (4, some [.val we, .val wh, .val j7, .val wg, .val wb, .val j8]), (7, some [.val jX, .val j5, .val jT, .val jU, .val jv, .val jt]), (8, some [.val ju, .val jr, .val js, .val jD, .val jC, .val jB])]], KK⟩ =
 optO (C lb n QaP [jA]) fun ks =>
 optO (CV.asT ks) fun nO =>
 optO (nO[0]?) fun ml =>
 optO (CV.asT ks) fun p8 =>
 optO (p8[1]?) fun og =>
 optO (CV.asT ks) fun qp =>
 optO (qp[2]?) fun me =>
 optO (CV.asA ml) fun c128 =>
 chkO (c128.length == 6) (
 optO (c128[0]?) fun nV =>
 optO (c128[1]?) fun y6 =>
 optO (c128[2]?) fun kG =>
 optO (c128[3]?) fun kI =>
 optO (c128[4]?) fun vZ =>
 optO (c128[5]?) fun kw =>
 K' ⟨fr 207 [(0, vB false), (1, .ptr 0 1 0), (2, vV jz), (3, vV jx), (4, .ptr 0 4 0), (5, vV jI), (6, vV jJ), (7, .ptr 0 7 0), (8, .ptr 0 8 0), (9, vV jY), (10, vV jA), (11, vV jO), (12, .ptr 0 12 0), (13, vV og), (14, vV me), (19, vV jy), (20, vV jg), (21, vV jy), (22, vV jL), (23, vV jz), (24, vV jx), (25, vV jF), (26, vV j9), (27, vV jF), (28, vV wc), (29, vV jI), (30, vV jJ), (31, vV jS), (32, vV wm), (33, .lst true false 3 [[CV.int .i64 1]]), (34, vV jS), (35, vV wo), (36, vV wn), (37, vV jY), (38, vV jK), (39, vV wk), (40, vV jK), (41, vV jA), (42, vV jO), (43, vV ks), (44, vV jA), (45, vV ks), (46, vV ml), (47, vV og), (48, vV me)], [bx 207 [(1, some [.val jG, .val jV, .val jR, .val jM, .val jQ, .val jN]), (4, some [.val we, .val wh, .val j7, .val wg, .val wb, .val j8]), (7, some [.val jX, .val j5, .val jT, .val jU, .val jv, .val jt]), (8, some [.val ju, .val jr, .val js, .val jD, .val jC, .val jB]), (12, some [.val nV, .val y6, .val kG, .val kI, .val vZ, .val kw])]], KK⟩) := by
 subst hK
 kernel_rfl
noncomputable def Ql6 (lb n : Nat) (jz jx jI jJ jY jA jO wj wl jy jg jL jF j9 wc jS wm wo wn jK wk wd wz jG jV jR jM jQ jN we wh j7 wg wb j8 jX j5 jT jU jv jt ju jr js jD jC jB wH wI wG wD wK wJ : CV) : Option CV :=
 E0 lb n 0 994 (sub (B Qan) [1, 1, 1, 1, 1, 1]) (retK Tryz.prog (R Qan) 0 (outK (Qae Tryz.prog Qan))) ⟨fr 207 [(0, vB false), (1, .ptr 0 1 0), (2, vV jz), (3, vV jx), (4, .ptr 0 4 0), (5, vV jI), (6, vV jJ), (7, .ptr 0 7 0), (8, .ptr 0 8 0), (9, vV jY), (10, vV jA), (11, vV jO), (12, .ptr 0 12 0), (13, vV wj), (14, vV wl), (19, vV jy), (20, vV jg), (21, vV jy), (22, vV jL), (23, vV jz), (24, vV jx), (25, vV jF), (26, vV j9), (27, vV jF), (28, vV wc), (29, vV jI), (30, vV jJ), (31, vV jS), (32, vV wm), (33, .lst true false 3 [[CV.int .i64 1]]), (34, vV jS), (35, vV wo), (36, vV wn), (37, vV jY), (38, vV jK), (39, vV wk), (40, vV jK), (41, vV jA), (42, vV jO), (43, vV wd), (44, vV jA), (45, vV wd), (46, vV wz), (47, vV wj), (48, vV wl)], [bx 207 [(1, some [.val jG, .val jV, .val jR, .val jM, .val jQ, .val jN]), (4, some [.val we, .val wh, .val j7, .val wg, .val wb, .val j8]), (7, some [.val jX, .val j5, .val jT, .val jU, .val jv, .val jt]), (8, some [.val ju, .val jr, .val js, .val jD, .val jC, .val jB]), (12, some [.val wH, .val wI, .val wG, .val wD, .val wK, .val wJ])]], KK⟩
theorem Qsb (lb n : Nat) (K : Ex → St → Option CV) (K' : St → Option CV) (hK : K .normal = K') (jz jx jI jJ jY jA jO wj wl jy jg jL jF j9 wc jS wm wo wn jK wk wd wz jG jV jR jM jQ jN we wh j7 wg wb j8 jX j5 jT jU jv jt ju jr js jD jC jB wH wI wG wD wK wJ : CV) :
 E0 lb n 0 993 (sub (B Qan) [1, 1, 1, 1, 1, 1, 0]) K ⟨fr 207 [(0, vB false), (1, .ptr 0 1 0), (2, vV jz), (3, vV jx), (4, .ptr 0 4 0), (5, vV jI), (6, vV jJ), (7, .ptr 0 7 0), (8, .ptr 0 8 0), (9, vV jY), (10, vV jA), (11, vV jO), (12, .ptr 0 12 0), (13, vV wj), (14, vV wl), (19, vV jy), (20, vV jg), (21, vV jy), (22, vV jL), (23, vV jz), (24, vV jx), (25, vV jF), (26, vV j9), (27, vV jF), (28, vV wc), (29, vV jI), (30, vV jJ), (31, vV jS), (32, vV wm), (33, .lst true false 3 [[CV.int .i64 1]]), (34, vV jS), (35, vV wo), (36, vV wn), (37, vV jY), (38, vV jK), (39, vV wk), (40, vV jK), (41, vV jA), (42, vV jO), (43, vV wd), (44, vV jA), (45, vV wd), (46, vV wz), (47, vV wj), (48, vV wl)], [bx 207 [(1, some [.val jG, .val jV, .val jR, .val jM, .val jQ, .val jN]), (4, some [.val we, .val wh, .val j7, .val wg, .val wb, .val j8]), (7, some [.val jX, .val j5, .val jT, .val jU, .val jv, .val jt]), (8, some [.val ju, .val jr, .val js, .val jD, .val jC, .val jB]), (12, some [.val wH, .val wI, .val wG, .val wD, .val wK, .val wJ])]], KK⟩ =
 optO (C lb n QaP [.str [115, 101, 103, 10]]) fun kv =>
 optO (CV.asT kv) fun sb =>
 optO (sb[0]?) fun mX =>
 optO (CV.asT kv) fun qD =>
 optO (qD[1]?) fun mB =>
 optO (CV.asT kv) fun pr =>
 optO (pr[2]?) fun mc =>
 optO (CV.asA mX) fun c156 =>
 chkO (c156.length == 6) (
 optO (c156[0]?) fun qR =>
 optO (c156[1]?) fun qc =>
 optO (c156[2]?) fun nU =>
 optO (c156[3]?) fun nJ =>
 optO (c156[4]?) fun qQ =>
 optO (c156[5]?) fun sn =>
 K' ⟨fr 207 [(0, vB false), (1, .ptr 0 1 0), (2, vV jz), (3, vV jx), (4, .ptr 0 4 0), (5, vV jI), (6, vV jJ), (7, .ptr 0 7 0), (8, .ptr 0 8 0), (9, vV jY), (10, vV jA), (11, vV jO), (12, .ptr 0 12 0), (13, vV wj), (14, vV wl), (15, .ptr 0 15 0), (16, vV mB), (17, vV mc), (19, vV jy), (20, vV jg), (21, vV jy), (22, vV jL), (23, vV jz), (24, vV jx), (25, vV jF), (26, vV j9), (27, vV jF), (28, vV wc), (29, vV jI), (30, vV jJ), (31, vV jS), (32, vV wm), (33, .lst true false 3 [[CV.int .i64 1]]), (34, vV jS), (35, vV wo), (36, vV wn), (37, vV jY), (38, vV jK), (39, vV wk), (40, vV jK), (41, vV jA), (42, vV jO), (43, vV wd), (44, vV jA), (45, vV wd), (46, vV wz), (47, vV wj), (48, vV wl), (49, vV kv), (50, vV kv), (51, vV mX), (52, vV mB), (53, vV mc)], [bx 207 [(1, some [.val jG, .val jV, .val jR, .val jM, .val jQ, .val jN]), (4, some [.val we, .val wh, .val j7, .val wg, .val wb, .val j8]), (7, some [.val jX, .val j5, .val jT, .val jU, .val jv, .val jt]), (8, some [.val ju, .val jr, .val js, .val jD, .val jC, .val jB]), (12, some [.val wH, .val wI, .val wG, .val wD, .val wK, .val wJ]), (15, some [.val qR, .val qc, .val nU, .val nJ, .val qQ, .val sn])]], KK⟩) := by
 subst hK
 kernel_rfl
noncomputable def QlM (lb n : Nat) (jz jx jI jJ jY jA jO wj wl wO wQ jy jg jL jF j9 wc jS wm wo wn jK wk wd wz wy wZ jG jV jR jM jQ jN we wh j7 wg wb j8 jX j5 jT jU jv jt ju jr js jD jC jB wH wI wG wD wK wJ w7 w8 yb ya yc w9 : CV) : Option CV :=
 E0 lb n 0 993 (sub (B Qan) [1, 1, 1, 1, 1, 1, 1]) (retK Tryz.prog (R Qan) 0 (outK (Qae Tryz.prog Qan))) ⟨fr 207 [(0, vB false), (1, .ptr 0 1 0), (2, vV jz), (3, vV jx), (4, .ptr 0 4 0), (5, vV jI), (6, vV jJ), (7, .ptr 0 7 0), (8, .ptr 0 8 0), (9, vV jY), (10, vV jA), (11, vV jO), (12, .ptr 0 12 0), (13, vV wj), (14, vV wl), (15, .ptr 0 15 0), (16, vV wO), (17, vV wQ), (19, vV jy), (20, vV jg), (21, vV jy), (22, vV jL), (23, vV jz), (24, vV jx), (25, vV jF), (26, vV j9), (27, vV jF), (28, vV wc), (29, vV jI), (30, vV jJ), (31, vV jS), (32, vV wm), (33, .lst true false 3 [[CV.int .i64 1]]), (34, vV jS), (35, vV wo), (36, vV wn), (37, vV jY), (38, vV jK), (39, vV wk), (40, vV jK), (41, vV jA), (42, vV jO), (43, vV wd), (44, vV jA), (45, vV wd), (46, vV wz), (47, vV wj), (48, vV wl), (49, vV wy), (50, vV wy), (51, vV wZ), (52, vV wO), (53, vV wQ)], [bx 207 [(1, some [.val jG, .val jV, .val jR, .val jM, .val jQ, .val jN]), (4, some [.val we, .val wh, .val j7, .val wg, .val wb, .val j8]), (7, some [.val jX, .val j5, .val jT, .val jU, .val jv, .val jt]), (8, some [.val ju, .val jr, .val js, .val jD, .val jC, .val jB]), (12, some [.val wH, .val wI, .val wG, .val wD, .val wK, .val wJ]), (15, some [.val w7, .val w8, .val yb, .val ya, .val yc, .val w9])]], KK⟩
theorem QrA (lb n : Nat) (K : Ex → St → Option CV) (K' : St → Option CV) (hK : K .normal = K') (jz jx jI jJ jY jA jO wj wl wO wQ jy jg jL jF j9 wc jS wm wo wn jK wk wd wz wy wZ jG jV jR jM jQ jN we wh j7 wg wb j8 jX j5 jT jU jv jt ju jr js jD jC jB wH wI wG wD wK wJ w7 w8 yb ya yc w9 : CV) :
 E0 lb n 0 992 (sub (B Qan) [1, 1, 1, 1, 1, 1, 1, 0]) K ⟨fr 207 [(0, vB false), (1, .ptr 0 1 0), (2, vV jz), (3, vV jx), (4, .ptr 0 4 0), (5, vV jI), (6, vV jJ), (7, .ptr 0 7 0), (8, .ptr 0 8 0), (9, vV jY), (10, vV jA), (11, vV jO), (12, .ptr 0 12 0), (13, vV wj), (14, vV wl), (15, .ptr 0 15 0), (16, vV wO), (17, vV wQ), (19, vV jy), (20, vV jg), (21, vV jy), (22, vV jL), (23, vV jz), (24, vV jx), (25, vV jF), (26, vV j9), (27, vV jF), (28, vV wc), (29, vV jI), (30, vV jJ), (31, vV jS), (32, vV wm), (33, .lst true false 3 [[CV.int .i64 1]]), (34, vV jS), (35, vV wo), (36, vV wn), (37, vV jY), (38, vV jK), (39, vV wk), (40, vV jK), (41, vV jA), (42, vV jO), (43, vV wd), (44, vV jA), (45, vV wd), (46, vV wz), (47, vV wj), (48, vV wl), (49, vV wy), (50, vV wy), (51, vV wZ), (52, vV wO), (53, vV wQ)], [bx 207 [(1, some [.val jG, .val jV, .val jR, .val jM, .val jQ, .val jN]), (4, some [.val we, .val wh, .val j7, .val wg, .val wb, .val j8]), (7, some [.val jX, .val j5, .val jT, .val jU, .val jv, .val jt]), (8, some [.val ju, .val jr, .val js, .val jD, .val jC, .val jB]), (12, some [.val wH, .val wI, .val wG, .val wD, .val wK, .val wJ]), (15, some [.val w7, .val w8, .val yb, .val ya, .val yc, .val w9])]], KK⟩ =
 optO (C lb n Qbk []) fun mz =>
 optO (CV.asA mz) fun c178 =>
 chkO (c178.length == 6) (
 optO (c178[0]?) fun pO =>
 optO (c178[1]?) fun nI =>
 optO (c178[2]?) fun qY =>
 optO (c178[3]?) fun n7 =>
 optO (c178[4]?) fun sc =>
 optO (c178[5]?) fun pT =>
 K' ⟨fr 207 [(0, vB false), (1, .ptr 0 1 0), (2, vV jz), (3, vV jx), (4, .ptr 0 4 0), (5, vV jI), (6, vV jJ), (7, .ptr 0 7 0), (8, .ptr 0 8 0), (9, vV jY), (10, vV jA), (11, vV jO), (12, .ptr 0 12 0), (13, vV wj), (14, vV wl), (15, .ptr 0 15 0), (16, vV wO), (17, vV wQ), (18, .ptr 0 18 0), (19, vV jy), (20, vV jg), (21, vV jy), (22, vV jL), (23, vV jz), (24, vV jx), (25, vV jF), (26, vV j9), (27, vV jF), (28, vV wc), (29, vV jI), (30, vV jJ), (31, vV jS), (32, vV wm), (33, .lst true false 3 [[CV.int .i64 1]]), (34, vV jS), (35, vV wo), (36, vV wn), (37, vV jY), (38, vV jK), (39, vV wk), (40, vV jK), (41, vV jA), (42, vV jO), (43, vV wd), (44, vV jA), (45, vV wd), (46, vV wz), (47, vV wj), (48, vV wl), (49, vV wy), (50, vV wy), (51, vV wZ), (52, vV wO), (53, vV wQ), (54, vV mz)], [bx 207 [(1, some [.val jG, .val jV, .val jR, .val jM, .val jQ, .val jN]), (4, some [.val we, .val wh, .val j7, .val wg, .val wb, .val j8]), (7, some [.val jX, .val j5, .val jT, .val jU, .val jv, .val jt]), (8, some [.val ju, .val jr, .val js, .val jD, .val jC, .val jB]), (12, some [.val wH, .val wI, .val wG, .val wD, .val wK, .val wJ]), (15, some [.val w7, .val w8, .val yb, .val ya, .val yc, .val w9]), (18, some [.val pO, .val nI, .val qY, .val n7, .val sc, .val pT])]], KK⟩) := by
 subst hK
 kernel_rfl
noncomputable def Qmd (lb n : Nat) (jz jx jI jJ jY jA jO wj wl wO wQ jy jg jL jF j9 wc jS wm wo wn jK wk wd wz wy wZ yF jG jV jR jM jQ jN we wh j7 wg wb j8 jX j5 jT jU jv jt ju jr js jD jC jB wH wI wG wD wK wJ w7 w8 yb ya yc w9 yR yC yJ vp yQ yT : CV) : Option CV :=
 E0 lb n 0 992 (sub (B Qan) [1, 1, 1, 1, 1, 1, 1, 1]) (retK Tryz.prog (R Qan) 0 (outK (Qae Tryz.prog Qan))) ⟨fr 207 [(0, vB false), (1, .ptr 0 1 0), (2, vV jz), (3, vV jx), (4, .ptr 0 4 0), (5, vV jI), (6, vV jJ), (7, .ptr 0 7 0), (8, .ptr 0 8 0), (9, vV jY), (10, vV jA), (11, vV jO), (12, .ptr 0 12 0), (13, vV wj), (14, vV wl), (15, .ptr 0 15 0), (16, vV wO), (17, vV wQ), (18, .ptr 0 18 0), (19, vV jy), (20, vV jg), (21, vV jy), (22, vV jL), (23, vV jz), (24, vV jx), (25, vV jF), (26, vV j9), (27, vV jF), (28, vV wc), (29, vV jI), (30, vV jJ), (31, vV jS), (32, vV wm), (33, .lst true false 3 [[CV.int .i64 1]]), (34, vV jS), (35, vV wo), (36, vV wn), (37, vV jY), (38, vV jK), (39, vV wk), (40, vV jK), (41, vV jA), (42, vV jO), (43, vV wd), (44, vV jA), (45, vV wd), (46, vV wz), (47, vV wj), (48, vV wl), (49, vV wy), (50, vV wy), (51, vV wZ), (52, vV wO), (53, vV wQ), (54, vV yF)], [bx 207 [(1, some [.val jG, .val jV, .val jR, .val jM, .val jQ, .val jN]), (4, some [.val we, .val wh, .val j7, .val wg, .val wb, .val j8]), (7, some [.val jX, .val j5, .val jT, .val jU, .val jv, .val jt]), (8, some [.val ju, .val jr, .val js, .val jD, .val jC, .val jB]), (12, some [.val wH, .val wI, .val wG, .val wD, .val wK, .val wJ]), (15, some [.val w7, .val w8, .val yb, .val ya, .val yc, .val w9]), (18, some [.val yR, .val yC, .val yJ, .val vp, .val yQ, .val yT])]], KK⟩
theorem Qru (lb n : Nat) (K : Ex → St → Option CV) (K' : St → Option CV) (hK : K .normal = K') (jz jx jI jJ jY jA jO wj wl wO wQ jy jg jL jF j9 wc jS wm wo wn jK wk wd wz wy wZ yF jG jV jR jM jQ jN we wh j7 wg wb j8 jX j5 jT jU jv jt ju jr js jD jC jB wH wI wG wD wK wJ w7 w8 yb ya yc w9 yR yC yJ vp yQ yT : CV) :
 E0 lb n 0 991 (sub (B Qan) [1, 1, 1, 1, 1, 1, 1, 1, 0]) K ⟨fr 207 [(0, vB false), (1, .ptr 0 1 0), (2, vV jz), (3, vV jx), (4, .ptr 0 4 0), (5, vV jI), (6, vV jJ), (7, .ptr 0 7 0), (8, .ptr 0 8 0), (9, vV jY), (10, vV jA), (11, vV jO), (12, .ptr 0 12 0), (13, vV wj), (14, vV wl), (15, .ptr 0 15 0), (16, vV wO), (17, vV wQ), (18, .ptr 0 18 0), (19, vV jy), (20, vV jg), (21, vV jy), (22, vV jL), (23, vV jz), (24, vV jx), (25, vV jF), (26, vV j9), (27, vV jF), (28, vV wc), (29, vV jI), (30, vV jJ), (31, vV jS), (32, vV wm), (33, .lst true false 3 [[CV.int .i64 1]]), (34, vV jS), (35, vV wo), (36, vV wn), (37, vV jY), (38, vV jK), (39, vV wk), (40, vV jK), (41, vV jA), (42, vV jO), (43, vV wd), (44, vV jA), (45, vV wd), (46, vV wz), (47, vV wj), (48, vV wl), (49, vV wy), (50, vV wy), (51, vV wZ), (52, vV wO), (53, vV wQ), (54, vV yF)], [bx 207 [(1, some [.val jG, .val jV, .val jR, .val jM, .val jQ, .val jN]), (4, some [.val we, .val wh, .val j7, .val wg, .val wb, .val j8]), (7, some [.val jX, .val j5, .val jT, .val jU, .val jv, .val jt]), (8, some [.val ju, .val jr, .val js, .val jD, .val jC, .val jB]), (12, some [.val wH, .val wI, .val wG, .val wD, .val wK, .val wJ]), (15, some [.val w7, .val w8, .val yb, .val ya, .val yc, .val w9]), (18, some [.val yR, .val yC, .val yJ, .val vp, .val yQ, .val yT])]], KK⟩ =
 optO (CV.asL yC) fun v8 =>
 chkO (v8.2.all (·.length == 3)) (
 chkO (decide ((0 : Int) ≤ 1 ∧ 1 ≤ (v8.2.length : Int))) (
 K' ⟨fr 207 [(0, vB false), (1, .ptr 0 1 0), (2, vV jz), (3, vV jx), (4, .ptr 0 4 0), (5, vV jI), (6, vV jJ), (7, .ptr 0 7 0), (8, .ptr 0 8 0), (9, vV jY), (10, vV jA), (11, vV jO), (12, .ptr 0 12 0), (13, vV wj), (14, vV wl), (15, .ptr 0 15 0), (16, vV wO), (17, vV wQ), (18, .ptr 0 18 0), (19, vV jy), (20, vV jg), (21, vV jy), (22, vV jL), (23, vV jz), (24, vV jx), (25, vV jF), (26, vV j9), (27, vV jF), (28, vV wc), (29, vV jI), (30, vV jJ), (31, vV jS), (32, vV wm), (33, .lst true false 3 [[CV.int .i64 1]]), (34, vV jS), (35, vV wo), (36, vV wn), (37, vV jY), (38, vV jK), (39, vV wk), (40, vV jK), (41, vV jA), (42, vV jO), (43, vV wd), (44, vV jA), (45, vV wd), (46, vV wz), (47, vV wj), (48, vV wl), (49, vV wy), (50, vV wy), (51, vV wZ), (52, vV wO), (53, vV wQ), (54, vV yF), (55, .ptr 0 18 1), (56, vV yC), (57, .val (.list v8.1 ((v8.2.take 1).drop 0))), (58, .ptr 0 18 3), (59, .ptr 0 18 1)], [bx 207 [(1, some [.val jG, .val jV, .val jR, .val jM, .val jQ, .val jN]), (4, some [.val we, .val wh, .val j7, .val wg, .val wb, .val j8]), (7, some [.val jX, .val j5, .val jT, .val jU, .val jv, .val jt]), (8, some [.val ju, .val jr, .val js, .val jD, .val jC, .val jB]), (12, some [.val wH, .val wI, .val wG, .val wD, .val wK, .val wJ]), (15, some [.val w7, .val w8, .val yb, .val ya, .val yc, .val w9]), (18, some [.val yR, .val (.list v8.1 ((v8.2.take 1).drop 0)), .val yJ, .lst true true 39 [], .val yQ, .val yT])]], KK⟩)) := by
 subst hK
 kernel_rfl
noncomputable def Qlf (lb n : Nat) (jz jx jI jJ jY jA jO wj wl wO wQ jy jg jL jF j9 wc jS wm wo wn jK wk wd wz wy wZ yF yC : CV) (vo : Bool × LL) (jG jV jR jM jQ jN we wh j7 wg wb j8 jX j5 jT jU jv jt ju jr js jD jC jB wH wI wG wD wK wJ w7 w8 yb ya yc w9 yR yJ yQ yT : CV) : Option CV :=
 E0 lb n 0 991 (sub (B Qan) [1, 1, 1, 1, 1, 1, 1, 1, 1]) (retK Tryz.prog (R Qan) 0 (outK (Qae Tryz.prog Qan))) ⟨fr 207 [(0, vB false), (1, .ptr 0 1 0), (2, vV jz), (3, vV jx), (4, .ptr 0 4 0), (5, vV jI), (6, vV jJ), (7, .ptr 0 7 0), (8, .ptr 0 8 0), (9, vV jY), (10, vV jA), (11, vV jO), (12, .ptr 0 12 0), (13, vV wj), (14, vV wl), (15, .ptr 0 15 0), (16, vV wO), (17, vV wQ), (18, .ptr 0 18 0), (19, vV jy), (20, vV jg), (21, vV jy), (22, vV jL), (23, vV jz), (24, vV jx), (25, vV jF), (26, vV j9), (27, vV jF), (28, vV wc), (29, vV jI), (30, vV jJ), (31, vV jS), (32, vV wm), (33, .lst true false 3 [[CV.int .i64 1]]), (34, vV jS), (35, vV wo), (36, vV wn), (37, vV jY), (38, vV jK), (39, vV wk), (40, vV jK), (41, vV jA), (42, vV jO), (43, vV wd), (44, vV jA), (45, vV wd), (46, vV wz), (47, vV wj), (48, vV wl), (49, vV wy), (50, vV wy), (51, vV wZ), (52, vV wO), (53, vV wQ), (54, vV yF), (55, .ptr 0 18 1), (56, vV yC), (57, .val (.list vo.1 ((vo.2.take 1).drop 0))), (58, .ptr 0 18 3), (59, .ptr 0 18 1)], [bx 207 [(1, some [.val jG, .val jV, .val jR, .val jM, .val jQ, .val jN]), (4, some [.val we, .val wh, .val j7, .val wg, .val wb, .val j8]), (7, some [.val jX, .val j5, .val jT, .val jU, .val jv, .val jt]), (8, some [.val ju, .val jr, .val js, .val jD, .val jC, .val jB]), (12, some [.val wH, .val wI, .val wG, .val wD, .val wK, .val wJ]), (15, some [.val w7, .val w8, .val yb, .val ya, .val yc, .val w9]), (18, some [.val yR, .val (.list vo.1 ((vo.2.take 1).drop 0)), .val yJ, .lst true true 39 [], .val yQ, .val yT])]], KK⟩
theorem Qod (lb n : Nat) (jz jx jI jJ jY jA jO wj wl wO wQ jy jg jL jF j9 wc jS wm wo wn jK wk wd wz wy wZ yF jG jV jR jM jQ jN we wh j7 wg wb j8 jX j5 jT jU jv jt ju jr js jD jC jB wH wI wG wD wK wJ w7 w8 yb ya yc w9 yR yC yJ vp yQ yT : CV) :
 Qmd lb n jz jx jI jJ jY jA jO wj wl wO wQ jy jg jL jF j9 wc jS wm wo wn jK wk wd wz wy wZ yF jG jV jR jM jQ jN we wh j7 wg wb j8 jX j5 jT jU jv jt ju jr js jD jC jB wH wI wG wD wK wJ w7 w8 yb ya yc w9 yR yC yJ vp yQ yT =
 optO (CV.asL yC) fun vo =>
 chkO (vo.2.all (·.length == 3)) (
 chkO (decide ((0 : Int) ≤ 1 ∧ 1 ≤ (vo.2.length : Int))) (
 Qlf lb n jz jx jI jJ jY jA jO wj wl wO wQ jy jg jL jF j9 wc jS wm wo wn jK wk wd wz wy wZ yF yC vo jG jV jR jM jQ jN we wh j7 wg wb j8 jX j5 jT jU jv jt ju jr js jD jC jB wH wI wG wD wK wJ w7 w8 yb ya yc w9 yR yJ yQ yT)) :=
 (Qbr lb n (m := 991) (b := (sub (B Qan) [1, 1, 1, 1, 1, 1, 1, 1, 1])) (by kernel_rfl)).trans (Qru lb n _ _ (Qbq (by kernel_rfl) (by kernel_rfl)) jz jx jI jJ jY jA jO wj wl wO wQ jy jg jL jF j9 wc jS wm wo wn jK wk wd wz wy wZ yF jG jV jR jM jQ jN we wh j7 wg wb j8 jX j5 jT jU jv jt ju jr js jD jC jB wH wI wG wD wK wJ w7 w8 yb ya yc w9 yR yC yJ vp yQ yT)
theorem Qps (lb n : Nat) (jz jx jI jJ jY jA jO wj wl wO wQ jy jg jL jF j9 wc jS wm wo wn jK wk wd wz wy wZ jG jV jR jM jQ jN we wh j7 wg wb j8 jX j5 jT jU jv jt ju jr js jD jC jB wH wI wG wD wK wJ w7 w8 yb ya yc w9 : CV) :
 QlM lb n jz jx jI jJ jY jA jO wj wl wO wQ jy jg jL jF j9 wc jS wm wo wn jK wk wd wz wy wZ jG jV jR jM jQ jN we wh j7 wg wb j8 jX j5 jT jU jv jt ju jr js jD jC jB wH wI wG wD wK wJ w7 w8 yb ya yc w9 =
 optO (C lb n Qbk []) fun yF =>
 optO (CV.asA yF) fun c186 =>
 chkO (c186.length == 6) (
 optO (c186[0]?) fun yR =>
 optO (c186[1]?) fun yC =>
 optO (c186[2]?) fun yJ =>
 optO (c186[3]?) fun vp =>
 optO (c186[4]?) fun yQ =>
 optO (c186[5]?) fun yT =>
 Qmd lb n jz jx jI jJ jY jA jO wj wl wO wQ jy jg jL jF j9 wc jS wm wo wn jK wk wd wz wy wZ yF jG jV jR jM jQ jN we wh j7 wg wb j8 jX j5 jT jU jv jt ju jr js jD jC jB wH wI wG wD wK wJ w7 w8 yb ya yc w9 yR yC yJ vp yQ yT) :=
 (Qbr lb n (m := 992) (b := (sub (B Qan) [1, 1, 1, 1, 1, 1, 1, 1])) (by kernel_rfl)).trans (QrA lb n _ _ (Qbq (by kernel_rfl) (by kernel_rfl)) jz jx jI jJ jY jA jO wj wl wO wQ jy jg jL jF j9 wc jS wm wo wn jK wk wd wz wy wZ jG jV jR jM jQ jN we wh j7 wg wb j8 jX j5 jT jU jv jt ju jr js jD jC jB wH wI wG wD wK wJ w7 w8 yb ya yc w9)
theorem Qoc (lb n : Nat) (jz jx jI jJ jY jA jO wj wl jy jg jL jF j9 wc jS wm wo wn jK wk wd wz jG jV jR jM jQ jN we wh j7 wg wb j8 jX j5 jT jU jv jt ju jr js jD jC jB wH wI wG wD wK wJ : CV) :
 Ql6 lb n jz jx jI jJ jY jA jO wj wl jy jg jL jF j9 wc jS wm wo wn jK wk wd wz jG jV jR jM jQ jN we wh j7 wg wb j8 jX j5 jT jU jv jt ju jr js jD jC jB wH wI wG wD wK wJ =
 optO (C lb n QaP [.str [115, 101, 103, 10]]) fun wy =>
 optO (CV.asT wy) fun t164 =>
 optO (t164[0]?) fun wZ =>
 optO (CV.asT wy) fun pG =>
 optO (pG[1]?) fun wO =>
 optO (CV.asT wy) fun t168 =>
 optO (t168[2]?) fun wQ =>
 optO (CV.asA wZ) fun c170 =>
 chkO (c170.length == 6) (
 optO (c170[0]?) fun w7 =>
 optO (c170[1]?) fun w8 =>
 optO (c170[2]?) fun yb =>
 optO (c170[3]?) fun ya =>
 optO (c170[4]?) fun yc =>
 optO (c170[5]?) fun w9 =>
 QlM lb n jz jx jI jJ jY jA jO wj wl wO wQ jy jg jL jF j9 wc jS wm wo wn jK wk wd wz wy wZ jG jV jR jM jQ jN we wh j7 wg wb j8 jX j5 jT jU jv jt ju jr js jD jC jB wH wI wG wD wK wJ w7 w8 yb ya yc w9) :=
 (Qbr lb n (m := 993) (b := (sub (B Qan) [1, 1, 1, 1, 1, 1, 1])) (by kernel_rfl)).trans (Qsb lb n _ _ (Qbq (by kernel_rfl) (by kernel_rfl)) jz jx jI jJ jY jA jO wj wl jy jg jL jF j9 wc jS wm wo wn jK wk wd wz jG jV jR jM jQ jN we wh j7 wg wb j8 jX j5 jT jU jv jt ju jr js jD jC jB wH wI wG wD wK wJ)
theorem QoG (lb n : Nat) (jz jx jI jJ jY jA jO jy jg jL jF j9 wc jS wm wo wn jK wk jG jV jR jM jQ jN we wh j7 wg wb j8 jX j5 jT jU jv jt ju jr js jD jC jB : CV) :
 QlN lb n jz jx jI jJ jY jA jO jy jg jL jF j9 wc jS wm wo wn jK wk jG jV jR jM jQ jN we wh j7 wg wb j8 jX j5 jT jU jv jt ju jr js jD jC jB =
 optO (C lb n QaP [jA]) fun wd =>
 optO (CV.asT wd) fun nS =>
 optO (nS[0]?) fun wz =>
 optO (CV.asT wd) fun t138 =>
 optO (t138[1]?) fun wj =>
 optO (CV.asT wd) fun pd =>
 optO (pd[2]?) fun wl =>
 optO (CV.asA wz) fun c142 =>
 chkO (c142.length == 6) (
 optO (c142[0]?) fun wH =>
 optO (c142[1]?) fun wI =>
 optO (c142[2]?) fun wG =>
 optO (c142[3]?) fun wD =>
 optO (c142[4]?) fun wK =>
 optO (c142[5]?) fun wJ =>
 Ql6 lb n jz jx jI jJ jY jA jO wj wl jy jg jL jF j9 wc jS wm wo wn jK wk wd wz jG jV jR jM jQ jN we wh j7 wg wb j8 jX j5 jT jU jv jt ju jr js jD jC jB wH wI wG wD wK wJ) :=
 (Qbr lb n (m := 994) (b := (sub (B Qan) [1, 1, 1, 1, 1, 1])) (by kernel_rfl)).trans (Qse lb n _ _ (Qbq (by kernel_rfl) (by kernel_rfl)) jz jx jI jJ jY jA jO jy jg jL jF j9 wc jS wm wo wn jK wk jG jV jR jM jQ jN we wh j7 wg wb j8 jX j5 jT jU jv jt ju jr js jD jC jB)
theorem Qo8 (lb n : Nat) (jz jx jI jJ jY jy jg jL jF j9 wc jS wm wo wn jG jV jR jM jQ jN we wh j7 wg wb j8 jX j5 jT jU jv jt ju jr js jD jC jB : CV) :
 QlX lb n jz jx jI jJ jY jy jg jL jF j9 wc jS wm wo wn jG jV jR jM jQ jN we wh j7 wg wb j8 jX j5 jT jU jv jt ju jr js jD jC jB =
 optO (C lb n Qbk []) fun wk =>
 optO (C lb n QeE [wk]) fun jK =>
 optO (CV.asT jK) fun pY =>
 optO (pY[0]?) fun jA =>
 optO (CV.asT jK) fun t119 =>
 optO (t119[1]?) fun jO =>
 QlN lb n jz jx jI jJ jY jA jO jy jg jL jF j9 wc jS wm wo wn jK wk jG jV jR jM jQ jN we wh j7 wg wb j8 jX j5 jT jU jv jt ju jr js jD jC jB :=
 (Qbr lb n (m := 995) (b := (sub (B Qan) [1, 1, 1, 1, 1])) (by kernel_rfl)).trans (QrE lb n _ _ (Qbq (by kernel_rfl) (by kernel_rfl)) jz jx jI jJ jY jy jg jL jF j9 wc jS wm wo wn jG jV jR jM jQ jN we wh j7 wg wb j8 jX j5 jT jU jv jt ju jr js jD jC jB)
theorem Qpt (lb n : Nat) (jz jx jI jJ jy jg jL jF j9 wc jG jV jR jM jQ jN we wh j7 wg wb j8 : CV) :
 Ql4 lb n jz jx jI jJ jy jg jL jF j9 wc jG jV jR jM jQ jN we wh j7 wg wb j8 =
 optO (C lb n Qbk []) fun wm =>
 optO (C lb n Qee [wm, .list false [[CV.int .i64 1]], .str [88, 89, 90, 57, 57, 57]]) fun jS =>
 optO (CV.asT jS) fun zQ =>
 optO (zQ[0]?) fun wo =>
 optO (CV.asT jS) fun zh =>
 optO (zh[1]?) fun wn =>
 optO (CV.asT jS) fun sK =>
 optO (sK[2]?) fun jY =>
 optO (CV.asA wo) fun c95 =>
 chkO (c95.length == 6) (
 optO (c95[0]?) fun jX =>
 optO (c95[1]?) fun j5 =>
 optO (c95[2]?) fun jT =>
 optO (c95[3]?) fun jU =>
 optO (c95[4]?) fun jv =>
 optO (c95[5]?) fun jt =>
 optO (CV.asA wn) fun c102 =>
 chkO (c102.length == 6) (
 optO (c102[0]?) fun ju =>
 optO (c102[1]?) fun jr =>
 optO (c102[2]?) fun js =>
 optO (c102[3]?) fun jD =>
 optO (c102[4]?) fun jC =>
 optO (c102[5]?) fun jB =>
 QlX lb n jz jx jI jJ jY jy jg jL jF j9 wc jS wm wo wn jG jV jR jM jQ jN we wh j7 wg wb j8 jX j5 jT jU jv jt ju jr js jD jC jB)) :=
 (Qbr lb n (m := 996) (b := (sub (B Qan) [1, 1, 1, 1])) (by kernel_rfl)).trans (QrU lb n _ _ (Qbq (by kernel_rfl) (by kernel_rfl)) jz jx jI jJ jy jg jL jF j9 wc jG jV jR jM jQ jN we wh j7 wg wb j8)
theorem Qo6 (lb n : Nat) (jz jx jy jg jL jG jV jR jM jQ jN : CV) :
 QlA lb n jz jx jy jg jL jG jV jR jM jQ jN =
 optO (C lb n Qbk []) fun j9 =>
 optO (C lb n Qab [j9, .int .i64 0, .int .i64 6]) fun jF =>
 optO (CV.asT jF) fun t51 =>
 optO (t51[0]?) fun wc =>
 optO (CV.asT jF) fun t53 =>
 optO (t53[1]?) fun jI =>
 optO (CV.asT jF) fun zX =>
 optO (zX[2]?) fun jJ =>
 optO (CV.asA wc) fun c57 =>
 chkO (c57.length == 6) (
 optO (c57[0]?) fun we =>
 optO (c57[1]?) fun wh =>
 optO (c57[2]?) fun j7 =>
 optO (c57[3]?) fun wg =>
 optO (c57[4]?) fun wb =>
 optO (c57[5]?) fun j8 =>
 Ql4 lb n jz jx jI jJ jy jg jL jF j9 wc jG jV jR jM jQ jN we wh j7 wg wb j8) :=
 (Qbr lb n (m := 997) (b := (sub (B Qan) [1, 1, 1])) (by kernel_rfl)).trans (Qri lb n _ _ (Qbq (by kernel_rfl) (by kernel_rfl)) jz jx jy jg jL jG jV jR jM jQ jN)
theorem QoD (lb n : Nat)  :
 QlP lb n  =
 optO (C lb n Qbk []) fun jg =>
 optO (C lb n Qab [jg, .int .i64 1, .int .i64 8]) fun jy =>
 optO (CV.asT jy) fun t20 =>
 optO (t20[0]?) fun jL =>
 optO (CV.asT jy) fun lj =>
 optO (lj[1]?) fun jz =>
 optO (CV.asT jy) fun kt =>
 optO (kt[2]?) fun jx =>
 optO (CV.asA jL) fun c26 =>
 chkO (c26.length == 6) (
 optO (c26[0]?) fun jG =>
 optO (c26[1]?) fun jV =>
 optO (c26[2]?) fun jR =>
 optO (c26[3]?) fun jM =>
 optO (c26[4]?) fun jQ =>
 optO (c26[5]?) fun jN =>
 QlA lb n jz jx jy jg jL jG jV jR jM jQ jN) :=
 (Qbr lb n (m := 998) (b := (sub (B Qan) [1, 1])) (by kernel_rfl)).trans (QrO lb n _ _ (Qbq (by kernel_rfl) (by kernel_rfl)) )
theorem QoW (lb n : Nat)  :
 l35_awake_J1 lb n  =
 QlP lb n  :=
 (Qbr lb n (m := 999) (b := (sub (B Qan) [1])) (by kernel_rfl)).trans (Qr7 lb n _ _ (Qbq (by kernel_rfl) (by kernel_rfl)) )
theorem QrX (lb n : Nat)  :
 top lb n Qan [] =
 l35_awake_J1 lb n  := by kernel_rfl
end Go.Proofs
