/- Equations of functions, printed by program. Conditions: none. -/
import Derived.Test.YtigmcfhmpcajlaaGreatDoorEv
namespace Go.Proofs
open Go.Am
set_option maxRecDepth 100000
set_option linter.unusedVariables false
theorem Qbk (lb n : Nat) {m : Nat} {c a b : Code} {k : Ex → St → Option CV} {σ : St} (h : c = .seq a b) : E0 lb n 0 (m + 1) c k σ = E0 lb n 0 m a (seqK (E0 lb n 0 m) a b k) σ := by
 subst h
 rfl
theorem Qbl {ev : Code → (Ex → St → Option CV) → St → Option CV} {a b : Code} {k : Ex → St → Option CV} (h : QoY a b = false) (h2 : QnX a = false) : seqK ev a b k .normal = ev b k := by
 funext σ
 unfold seqK tidy
 rw [h,h2]
noncomputable def l35_awake_J1 :=
 fun lb n =>
 E0 lb n 0 1000 (sub (B Qal) []) (retK Tryz.prog (R Qal) 0 (outK (Qad Tryz.prog Qal))) ⟨fr 207 [],[bx 207 []],KK⟩
theorem QsK (lb n : Nat) (K : Ex → St → Option CV) (K' : St → Option CV) (hK : K .normal = K')  :
 E0 lb n 0 999 (sub (B Qal) [0]) K ⟨fr 207 [],[bx 207 []],KK⟩ =
 K' ⟨fr 207 [(0,vB false)],[bx 207 []],KK⟩ := by
 subst hK
 kernel_rfl
noncomputable def Qmd (lb n : Nat)  : Option CV :=
 E0 lb n 0 999 (sub (B Qal) [1]) (retK Tryz.prog (R Qal) 0 (outK (Qad Tryz.prog Qal))) ⟨fr 207 [(0,vB false)],[bx 207 []],KK⟩
theorem QrS (lb n : Nat) (K : Ex → St → Option CV) (K' : St → Option CV) (hK : K .normal = K')  :
 E0 lb n 0 998 (sub (B Qal) [1,0]) K ⟨fr 207 [(0,vB false)],[bx 207 []],KK⟩ =
 optO (C lb n Qbg []) fun r1 =>
 optO (C lb n QbH [r1, .int .i64 1, .int .i64 8]) fun r2 =>
 optO (CV.asT r2) fun t3 =>
 optO (t3[0]?) fun x4 =>
 optO (CV.asT r2) fun t5 =>
 optO (t5[1]?) fun x6 =>
 optO (CV.asT r2) fun t7 =>
 optO (t7[2]?) fun x9 =>
 optO (CV.asA x4) fun oT =>
 chkO (oT.length == 6) (
 optO (oT[0]?) fun uw =>
 optO (oT[1]?) fun sn =>
 optO (oT[2]?) fun ni =>
 optO (oT[3]?) fun nC =>
 optO (oT[4]?) fun x15 =>
 optO (oT[5]?) fun jq =>
 K' ⟨fr 207 [(0,vB false),(1, .ptr 0 1 0),(2,vV x6),(3,vV x9),(19,vV r2),(20,vV r1),(21,vV r2),(22,vV x4),(23,vV x6),(24,vV x9)],[bx 207 [(1,some [.val uw, .val sn, .val ni, .val nC, .val x15, .val jq])]],KK⟩) := by
 subst hK
 kernel_rfl
noncomputable def Ql1 (lb n : Nat) (jQ jO jJ jl jm wh wo wu wc wj wd : CV) : Option CV :=
 E0 lb n 0 998 (sub (B Qal) [1,1]) (retK Tryz.prog (R Qal) 0 (outK (Qad Tryz.prog Qal))) ⟨fr 207 [(0,vB false),(1, .ptr 0 1 0),(2,vV jQ),(3,vV jO),(19,vV jJ),(20,vV jl),(21,vV jJ),(22,vV jm),(23,vV jQ),(24,vV jO)],[bx 207 [(1,some [.val wh, .val wo, .val wu, .val wc, .val wj, .val wd])]],KK⟩
theorem QsV (lb n : Nat) (K : Ex → St → Option CV) (K' : St → Option CV) (hK : K .normal = K') (jQ jO jJ jl jm wh wo wu wc wj wd : CV) :
 E0 lb n 0 997 (sub (B Qal) [1,1,0]) K ⟨fr 207 [(0,vB false),(1, .ptr 0 1 0),(2,vV jQ),(3,vV jO),(19,vV jJ),(20,vV jl),(21,vV jJ),(22,vV jm),(23,vV jQ),(24,vV jO)],[bx 207 [(1,some [.val wh, .val wo, .val wu, .val wc, .val wj, .val wd])]],KK⟩ =
 optO (C lb n Qbg []) fun zj =>
 optO (C lb n QbH [zj, .int .i64 0, .int .i64 6]) fun nv =>
 optO (CV.asT nv) fun ud =>
 optO (ud[0]?) fun oQ =>
 optO (CV.asT nv) fun t38 =>
 optO (t38[1]?) fun gN =>
 optO (CV.asT nv) fun t40 =>
 optO (t40[2]?) fun oS =>
 optO (CV.asA oQ) fun ou =>
 chkO (ou.length == 6) (
 optO (ou[0]?) fun nG =>
 optO (ou[1]?) fun x44 =>
 optO (ou[2]?) fun nf =>
 optO (ou[3]?) fun kP =>
 optO (ou[4]?) fun nx =>
 optO (ou[5]?) fun qR =>
 K' ⟨fr 207 [(0,vB false),(1, .ptr 0 1 0),(2,vV jQ),(3,vV jO),(4, .ptr 0 4 0),(5,vV gN),(6,vV oS),(19,vV jJ),(20,vV jl),(21,vV jJ),(22,vV jm),(23,vV jQ),(24,vV jO),(25,vV nv),(26,vV zj),(27,vV nv),(28,vV oQ),(29,vV gN),(30,vV oS)],[bx 207 [(1,some [.val wh, .val wo, .val wu, .val wc, .val wj, .val wd]),(4,some [.val nG, .val x44, .val nf, .val kP, .val nx, .val qR])]],KK⟩) := by
 subst hK
 kernel_rfl
noncomputable def Qmv (lb n : Nat) (jQ jO j9 wb jJ jl jm j7 wC wG wh wo wu wc wj wd wH wB wz wK wL wx : CV) : Option CV :=
 E0 lb n 0 997 (sub (B Qal) [1,1,1]) (retK Tryz.prog (R Qal) 0 (outK (Qad Tryz.prog Qal))) ⟨fr 207 [(0,vB false),(1, .ptr 0 1 0),(2,vV jQ),(3,vV jO),(4, .ptr 0 4 0),(5,vV j9),(6,vV wb),(19,vV jJ),(20,vV jl),(21,vV jJ),(22,vV jm),(23,vV jQ),(24,vV jO),(25,vV j7),(26,vV wC),(27,vV j7),(28,vV wG),(29,vV j9),(30,vV wb)],[bx 207 [(1,some [.val wh, .val wo, .val wu, .val wc, .val wj, .val wd]),(4,some [.val wH, .val wB, .val wz, .val wK, .val wL, .val wx])]],KK⟩
theorem QrF (lb n : Nat) (K : Ex → St → Option CV) (K' : St → Option CV) (hK : K .normal = K') (jQ jO j9 wb jJ jl jm j7 wC wG wh wo wu wc wj wd wH wB wz wK wL wx : CV) :
 E0 lb n 0 996 (sub (B Qal) [1,1,1,0]) K ⟨fr 207 [(0,vB false),(1, .ptr 0 1 0),(2,vV jQ),(3,vV jO),(4, .ptr 0 4 0),(5,vV j9),(6,vV wb),(19,vV jJ),(20,vV jl),(21,vV jJ),(22,vV jm),(23,vV jQ),(24,vV jO),(25,vV j7),(26,vV wC),(27,vV j7),(28,vV wG),(29,vV j9),(30,vV wb)],[bx 207 [(1,some [.val wh, .val wo, .val wu, .val wc, .val wj, .val wd]),(4,some [.val wH, .val wB, .val wz, .val wK, .val wL, .val wx])]],KK⟩ =
 optO (C lb n Qbg []) fun zi =>
 optO (C lb n Qaa [zi, .list false [[CV.int .i64 1]], .str [88,89,90,57,57,57]]) fun oO =>
 optO (CV.asT oO) fun uJ =>
 optO (uJ[0]?) fun zf =>
 optO (CV.asT oO) fun uE =>
 optO (uE[1]?) fun zg =>
 optO (CV.asT oO) fun t71 =>
 optO (t71[2]?) fun pY =>
 optO (CV.asA zf) fun gW =>
 chkO (gW.length == 6) (
 optO (gW[0]?) fun qx =>
 optO (gW[1]?) fun sX =>
 optO (gW[2]?) fun s5 =>
 optO (gW[3]?) fun s6 =>
 optO (gW[4]?) fun qG =>
 optO (gW[5]?) fun su =>
 optO (CV.asA zg) fun c80 =>
 chkO (c80.length == 6) (
 optO (c80[0]?) fun s7 =>
 optO (c80[1]?) fun x82 =>
 optO (c80[2]?) fun ux =>
 optO (c80[3]?) fun uk =>
 optO (c80[4]?) fun ve =>
 optO (c80[5]?) fun y6 =>
 K' ⟨fr 207 [(0,vB false),(1, .ptr 0 1 0),(2,vV jQ),(3,vV jO),(4, .ptr 0 4 0),(5,vV j9),(6,vV wb),(7, .ptr 0 7 0),(8, .ptr 0 8 0),(9,vV pY),(19,vV jJ),(20,vV jl),(21,vV jJ),(22,vV jm),(23,vV jQ),(24,vV jO),(25,vV j7),(26,vV wC),(27,vV j7),(28,vV wG),(29,vV j9),(30,vV wb),(31,vV oO),(32,vV zi),(33, .lst true false 3 [[CV.int .i64 1]]),(34,vV oO),(35,vV zf),(36,vV zg),(37,vV pY)],[bx 207 [(1,some [.val wh, .val wo, .val wu, .val wc, .val wj, .val wd]),(4,some [.val wH, .val wB, .val wz, .val wK, .val wL, .val wx]),(7,some [.val qx, .val sX, .val s5, .val s6, .val qG, .val su]),(8,some [.val s7, .val x82, .val ux, .val uk, .val ve, .val y6])]],KK⟩)) := by
 subst hK
 kernel_rfl
noncomputable def Qmx (lb n : Nat) (jQ jO j9 wb wy jJ jl jm j7 wC wG wq wR wS wU wh wo wu wc wj wd wH wB wz wK wL wx wA wv wl wp jC jH jI jG jF jW j6 j5 : CV) : Option CV :=
 E0 lb n 0 996 (sub (B Qal) [1,1,1,1]) (retK Tryz.prog (R Qal) 0 (outK (Qad Tryz.prog Qal))) ⟨fr 207 [(0,vB false),(1, .ptr 0 1 0),(2,vV jQ),(3,vV jO),(4, .ptr 0 4 0),(5,vV j9),(6,vV wb),(7, .ptr 0 7 0),(8, .ptr 0 8 0),(9,vV wy),(19,vV jJ),(20,vV jl),(21,vV jJ),(22,vV jm),(23,vV jQ),(24,vV jO),(25,vV j7),(26,vV wC),(27,vV j7),(28,vV wG),(29,vV j9),(30,vV wb),(31,vV wq),(32,vV wR),(33, .lst true false 3 [[CV.int .i64 1]]),(34,vV wq),(35,vV wS),(36,vV wU),(37,vV wy)],[bx 207 [(1,some [.val wh, .val wo, .val wu, .val wc, .val wj, .val wd]),(4,some [.val wH, .val wB, .val wz, .val wK, .val wL, .val wx]),(7,some [.val wA, .val wv, .val wl, .val wp, .val jC, .val jH]),(8,some [.val jI, .val jG, .val jF, .val jW, .val j6, .val j5])]],KK⟩
theorem Qrw (lb n : Nat) (K : Ex → St → Option CV) (K' : St → Option CV) (hK : K .normal = K') (jQ jO j9 wb wy jJ jl jm j7 wC wG wq wR wS wU wh wo wu wc wj wd wH wB wz wK wL wx wA wv wl wp jC jH jI jG jF jW j6 j5 : CV) :
 E0 lb n 0 995 (sub (B Qal) [1,1,1,1,0]) K ⟨fr 207 [(0,vB false),(1, .ptr 0 1 0),(2,vV jQ),(3,vV jO),(4, .ptr 0 4 0),(5,vV j9),(6,vV wb),(7, .ptr 0 7 0),(8, .ptr 0 8 0),(9,vV wy),(19,vV jJ),(20,vV jl),(21,vV jJ),(22,vV jm),(23,vV jQ),(24,vV jO),(25,vV j7),(26,vV wC),(27,vV j7),(28,vV wG),(29,vV j9),(30,vV wb),(31,vV wq),(32,vV wR),(33, .lst true false 3 [[CV.int .i64 1]]),(34,vV wq),(35,vV wS),(36,vV wU),(37,vV wy)],[bx 207 [(1,some [.val wh, .val wo, .val wu, .val wc, .val wj, .val wd]),(4,some [.val wH, .val wB, .val wz, .val wK, .val wL, .val wx]),(7,some [.val wA, .val wv, .val wl, .val wp, .val jC, .val jH]),(8,some [.val jI, .val jG, .val jF, .val jW, .val j6, .val j5])]],KK⟩ =
 optO (C lb n Qbg []) fun sR =>
 optO (C lb n Qep [sR]) fun y1 =>
 optO (CV.asT y1) fun tc =>
 optO (tc[0]?) fun sL =>
 optO (CV.asT y1) fun lL =>
 optO (lL[1]?) fun sP =>
 K' ⟨fr 207 [(0,vB false),(1, .ptr 0 1 0),(2,vV jQ),(3,vV jO),(4, .ptr 0 4 0),(5,vV j9),(6,vV wb),(7, .ptr 0 7 0),(8, .ptr 0 8 0),(9,vV wy),(10,vV sL),(11,vV sP),(19,vV jJ),(20,vV jl),(21,vV jJ),(22,vV jm),(23,vV jQ),(24,vV jO),(25,vV j7),(26,vV wC),(27,vV j7),(28,vV wG),(29,vV j9),(30,vV wb),(31,vV wq),(32,vV wR),(33, .lst true false 3 [[CV.int .i64 1]]),(34,vV wq),(35,vV wS),(36,vV wU),(37,vV wy),(38,vV y1),(39,vV sR),(40,vV y1),(41,vV sL),(42,vV sP)],[bx 207 [(1,some [.val wh, .val wo, .val wu, .val wc, .val wj, .val wd]),(4,some [.val wH, .val wB, .val wz, .val wK, .val wL, .val wx]),(7,some [.val wA, .val wv, .val wl, .val wp, .val jC, .val jH]),(8,some [.val jI, .val jG, .val jF, .val jW, .val j6, .val j5])]],KK⟩ := by
 subst hK
 kernel_rfl
noncomputable def Qmu (lb n : Nat) (jQ jO j9 wb wy jS wm jJ jl jm j7 wC wG wq wR wS wU we wQ wh wo wu wc wj wd wH wB wz wK wL wx wA wv wl wp jC jH jI jG jF jW j6 j5 : CV) : Option CV :=
 E0 lb n 0 995 (sub (B Qal) [1,1,1,1,1]) (retK Tryz.prog (R Qal) 0 (outK (Qad Tryz.prog Qal))) ⟨fr 207 [(0,vB false),(1, .ptr 0 1 0),(2,vV jQ),(3,vV jO),(4, .ptr 0 4 0),(5,vV j9),(6,vV wb),(7, .ptr 0 7 0),(8, .ptr 0 8 0),(9,vV wy),(10,vV jS),(11,vV wm),(19,vV jJ),(20,vV jl),(21,vV jJ),(22,vV jm),(23,vV jQ),(24,vV jO),(25,vV j7),(26,vV wC),(27,vV j7),(28,vV wG),(29,vV j9),(30,vV wb),(31,vV wq),(32,vV wR),(33, .lst true false 3 [[CV.int .i64 1]]),(34,vV wq),(35,vV wS),(36,vV wU),(37,vV wy),(38,vV we),(39,vV wQ),(40,vV we),(41,vV jS),(42,vV wm)],[bx 207 [(1,some [.val wh, .val wo, .val wu, .val wc, .val wj, .val wd]),(4,some [.val wH, .val wB, .val wz, .val wK, .val wL, .val wx]),(7,some [.val wA, .val wv, .val wl, .val wp, .val jC, .val jH]),(8,some [.val jI, .val jG, .val jF, .val jW, .val j6, .val j5])]],KK⟩
theorem QrN (lb n : Nat) (K : Ex → St → Option CV) (K' : St → Option CV) (hK : K .normal = K') (jQ jO j9 wb wy jS wm jJ jl jm j7 wC wG wq wR wS wU we wQ wh wo wu wc wj wd wH wB wz wK wL wx wA wv wl wp jC jH jI jG jF jW j6 j5 : CV) :
 E0 lb n 0 994 (sub (B Qal) [1,1,1,1,1,0]) K ⟨fr 207 [(0,vB false),(1, .ptr 0 1 0),(2,vV jQ),(3,vV jO),(4, .ptr 0 4 0),(5,vV j9),(6,vV wb),(7, .ptr 0 7 0),(8, .ptr 0 8 0),(9,vV wy),(10,vV jS),(11,vV wm),(19,vV jJ),(20,vV jl),(21,vV jJ),(22,vV jm),(23,vV jQ),(24,vV jO),(25,vV j7),(26,vV wC),(27,vV j7),(28,vV wG),(29,vV j9),(30,vV wb),(31,vV wq),(32,vV wR),(33, .lst true false 3 [[CV.int .i64 1]]),(34,vV wq),(35,vV wS),(36,vV wU),(37,vV wy),(38,vV we),(39,vV wQ),(40,vV we),(41,vV jS),(42,vV wm)],[bx 207 [(1,some [.val wh, .val wo, .val wu, .val wc, .val wj, .val wd]),(4,some [.val wH, .val wB, .val wz, .val wK, .val wL, .val wx]),(7,some [.val wA, .val wv, .val wl, .val wp, .val jC, .val jH]),(8,some [.val jI, .val jG, .val jF, .val jW, .val j6, .val j5])]],KK⟩ =
 optO (C lb n QaN [jS]) fun gQ =>
 optO (CV.asT gQ) fun l9 =>
 optO (l9[0]?) fun sO =>
 optO (CV.asT gQ) fun tT =>
 optO (tT[1]?) fun q9 =>
 optO (CV.asT gQ) fun zS =>
 optO (zS[2]?) fun qO =>
 optO (CV.asA sO) fun oK =>
 chkO (oK.length == 6) (
 optO (oK[0]?) fun ra =>
 optO (oK[1]?) fun m8 =>
 optO (oK[2]?) fun tI =>
 optO (oK[3]?) fun ls =>
 optO (oK[4]?) fun r8 =>
 optO (oK[5]?) fun yx =>
 K' ⟨fr 207 [(0,vB false),(1, .ptr 0 1 0),(2,vV jQ),(3,vV jO),(4, .ptr 0 4 0),(5,vV j9),(6,vV wb),(7, .ptr 0 7 0),(8, .ptr 0 8 0),(9,vV wy),(10,vV jS),(11,vV wm),(12, .ptr 0 12 0),(13,vV q9),(14,vV qO),(19,vV jJ),(20,vV jl),(21,vV jJ),(22,vV jm),(23,vV jQ),(24,vV jO),(25,vV j7),(26,vV wC),(27,vV j7),(28,vV wG),(29,vV j9),(30,vV wb),(31,vV wq),(32,vV wR),(33, .lst true false 3 [[CV.int .i64 1]]),(34,vV wq),(35,vV wS),(36,vV wU),(37,vV wy),(38,vV we),(39,vV wQ),(40,vV we),(41,vV jS),(42,vV wm),(43,vV gQ),(44,vV jS),(45,vV gQ),(46,vV sO),(47,vV q9),(48,vV qO)],[bx 207 [(1,some [.val wh, .val wo, .val wu, .val wc, .val wj, .val wd]),(4,some [.val wH, .val wB, .val wz, .val wK, .val wL, .val wx]),(7,some [.val wA, .val wv, .val wl, .val wp, .val jC, .val jH]),(8,some [.val jI, .val jG, .val jF, .val jW, .val j6, .val j5]),(12,some [.val ra, .val m8, .val tI, .val ls, .val r8, .val yx])]],KK⟩) := by
 subst hK
 kernel_rfl
noncomputable def Qme (lb n : Nat) (jQ jO j9 wb wy jS wm wN j8 jJ jl jm j7 wC wG wq wR wS wU we wQ wO wX wh wo wu wc wj wd wH wB wz wK wL wx wA wv wl wp jC jH jI jG jF jW j6 j5 yf ye yc yd yg yh : CV) : Option CV :=
 E0 lb n 0 994 (sub (B Qal) [1,1,1,1,1,1]) (retK Tryz.prog (R Qal) 0 (outK (Qad Tryz.prog Qal))) ⟨fr 207 [(0,vB false),(1, .ptr 0 1 0),(2,vV jQ),(3,vV jO),(4, .ptr 0 4 0),(5,vV j9),(6,vV wb),(7, .ptr 0 7 0),(8, .ptr 0 8 0),(9,vV wy),(10,vV jS),(11,vV wm),(12, .ptr 0 12 0),(13,vV wN),(14,vV j8),(19,vV jJ),(20,vV jl),(21,vV jJ),(22,vV jm),(23,vV jQ),(24,vV jO),(25,vV j7),(26,vV wC),(27,vV j7),(28,vV wG),(29,vV j9),(30,vV wb),(31,vV wq),(32,vV wR),(33, .lst true false 3 [[CV.int .i64 1]]),(34,vV wq),(35,vV wS),(36,vV wU),(37,vV wy),(38,vV we),(39,vV wQ),(40,vV we),(41,vV jS),(42,vV wm),(43,vV wO),(44,vV jS),(45,vV wO),(46,vV wX),(47,vV wN),(48,vV j8)],[bx 207 [(1,some [.val wh, .val wo, .val wu, .val wc, .val wj, .val wd]),(4,some [.val wH, .val wB, .val wz, .val wK, .val wL, .val wx]),(7,some [.val wA, .val wv, .val wl, .val wp, .val jC, .val jH]),(8,some [.val jI, .val jG, .val jF, .val jW, .val j6, .val j5]),(12,some [.val yf, .val ye, .val yc, .val yd, .val yg, .val yh])]],KK⟩
theorem Qr8 (lb n : Nat) (K : Ex → St → Option CV) (K' : St → Option CV) (hK : K .normal = K') (jQ jO j9 wb wy jS wm wN j8 jJ jl jm j7 wC wG wq wR wS wU we wQ wO wX wh wo wu wc wj wd wH wB wz wK wL wx wA wv wl wp jC jH jI jG jF jW j6 j5 yf ye yc yd yg yh : CV) :
 E0 lb n 0 993 (sub (B Qal) [1,1,1,1,1,1,0]) K ⟨fr 207 [(0,vB false),(1, .ptr 0 1 0),(2,vV jQ),(3,vV jO),(4, .ptr 0 4 0),(5,vV j9),(6,vV wb),(7, .ptr 0 7 0),(8, .ptr 0 8 0),(9,vV wy),(10,vV jS),(11,vV wm),(12, .ptr 0 12 0),(13,vV wN),(14,vV j8),(19,vV jJ),(20,vV jl),(21,vV jJ),(22,vV jm),(23,vV jQ),(24,vV jO),(25,vV j7),(26,vV wC),(27,vV j7),(28,vV wG),(29,vV j9),(30,vV wb),(31,vV wq),(32,vV wR),(33, .lst true false 3 [[CV.int .i64 1]]),(34,vV wq),(35,vV wS),(36,vV wU),(37,vV wy),(38,vV we),(39,vV wQ),(40,vV we),(41,vV jS),(42,vV wm),(43,vV wO),(44,vV jS),(45,vV wO),(46,vV wX),(47,vV wN),(48,vV j8)],[bx 207 [(1,some [.val wh, .val wo, .val wu, .val wc, .val wj, .val wd]),(4,some [.val wH, .val wB, .val wz, .val wK, .val wL, .val wx]),(7,some [.val wA, .val wv, .val wl, .val wp, .val jC, .val jH]),(8,some [.val jI, .val jG, .val jF, .val jW, .val j6, .val j5]),(12,some [.val yf, .val ye, .val yc, .val yd, .val yg, .val yh])]],KK⟩ =
 optO (C lb n QaN [.str [115,101,103,10]]) fun gv =>
 optO (CV.asT gv) fun zz =>
 optO (zz[0]?) fun qn =>
 optO (CV.asT gv) fun rX =>
 optO (rX[1]?) fun qE =>
 optO (CV.asT gv) fun ll =>
 optO (ll[2]?) fun mX =>
 optO (CV.asA qn) fun oA =>
 chkO (oA.length == 6) (
 optO (oA[0]?) fun pi =>
 optO (oA[1]?) fun pC =>
 optO (oA[2]?) fun pI =>
 optO (oA[3]?) fun nO =>
 optO (oA[4]?) fun pJ =>
 optO (oA[5]?) fun n5 =>
 K' ⟨fr 207 [(0,vB false),(1, .ptr 0 1 0),(2,vV jQ),(3,vV jO),(4, .ptr 0 4 0),(5,vV j9),(6,vV wb),(7, .ptr 0 7 0),(8, .ptr 0 8 0),(9,vV wy),(10,vV jS),(11,vV wm),(12, .ptr 0 12 0),(13,vV wN),(14,vV j8),(15, .ptr 0 15 0),(16,vV qE),(17,vV mX),(19,vV jJ),(20,vV jl),(21,vV jJ),(22,vV jm),(23,vV jQ),(24,vV jO),(25,vV j7),(26,vV wC),(27,vV j7),(28,vV wG),(29,vV j9),(30,vV wb),(31,vV wq),(32,vV wR),(33, .lst true false 3 [[CV.int .i64 1]]),(34,vV wq),(35,vV wS),(36,vV wU),(37,vV wy),(38,vV we),(39,vV wQ),(40,vV we),(41,vV jS),(42,vV wm),(43,vV wO),(44,vV jS),(45,vV wO),(46,vV wX),(47,vV wN),(48,vV j8),(49,vV gv),(50,vV gv),(51,vV qn),(52,vV qE),(53,vV mX)],[bx 207 [(1,some [.val wh, .val wo, .val wu, .val wc, .val wj, .val wd]),(4,some [.val wH, .val wB, .val wz, .val wK, .val wL, .val wx]),(7,some [.val wA, .val wv, .val wl, .val wp, .val jC, .val jH]),(8,some [.val jI, .val jG, .val jF, .val jW, .val j6, .val j5]),(12,some [.val yf, .val ye, .val yc, .val yd, .val yg, .val yh]),(15,some [.val pi, .val pC, .val pI, .val nO, .val pJ, .val n5])]],KK⟩) := by
 subst hK
 kernel_rfl
noncomputable def Ql6 (lb n : Nat) (jQ jO j9 wb wy jS wm wN j8 yi yb jJ jl jm j7 wC wG wq wR wS wU we wQ wO wX w8 yy wh wo wu wc wj wd wH wB wz wK wL wx wA wv wl wp jC jH jI jG jF jW j6 j5 yf ye yc yd yg yh yC yF yA yI yG yT : CV) : Option CV :=
 E0 lb n 0 993 (sub (B Qal) [1,1,1,1,1,1,1]) (retK Tryz.prog (R Qal) 0 (outK (Qad Tryz.prog Qal))) ⟨fr 207 [(0,vB false),(1, .ptr 0 1 0),(2,vV jQ),(3,vV jO),(4, .ptr 0 4 0),(5,vV j9),(6,vV wb),(7, .ptr 0 7 0),(8, .ptr 0 8 0),(9,vV wy),(10,vV jS),(11,vV wm),(12, .ptr 0 12 0),(13,vV wN),(14,vV j8),(15, .ptr 0 15 0),(16,vV yi),(17,vV yb),(19,vV jJ),(20,vV jl),(21,vV jJ),(22,vV jm),(23,vV jQ),(24,vV jO),(25,vV j7),(26,vV wC),(27,vV j7),(28,vV wG),(29,vV j9),(30,vV wb),(31,vV wq),(32,vV wR),(33, .lst true false 3 [[CV.int .i64 1]]),(34,vV wq),(35,vV wS),(36,vV wU),(37,vV wy),(38,vV we),(39,vV wQ),(40,vV we),(41,vV jS),(42,vV wm),(43,vV wO),(44,vV jS),(45,vV wO),(46,vV wX),(47,vV wN),(48,vV j8),(49,vV w8),(50,vV w8),(51,vV yy),(52,vV yi),(53,vV yb)],[bx 207 [(1,some [.val wh, .val wo, .val wu, .val wc, .val wj, .val wd]),(4,some [.val wH, .val wB, .val wz, .val wK, .val wL, .val wx]),(7,some [.val wA, .val wv, .val wl, .val wp, .val jC, .val jH]),(8,some [.val jI, .val jG, .val jF, .val jW, .val j6, .val j5]),(12,some [.val yf, .val ye, .val yc, .val yd, .val yg, .val yh]),(15,some [.val yC, .val yF, .val yA, .val yI, .val yG, .val yT])]],KK⟩
theorem QsS (lb n : Nat) (K : Ex → St → Option CV) (K' : St → Option CV) (hK : K .normal = K') (jQ jO j9 wb wy jS wm wN j8 yi yb jJ jl jm j7 wC wG wq wR wS wU we wQ wO wX w8 yy wh wo wu wc wj wd wH wB wz wK wL wx wA wv wl wp jC jH jI jG jF jW j6 j5 yf ye yc yd yg yh yC yF yA yI yG yT : CV) :
 E0 lb n 0 992 (sub (B Qal) [1,1,1,1,1,1,1,0]) K ⟨fr 207 [(0,vB false),(1, .ptr 0 1 0),(2,vV jQ),(3,vV jO),(4, .ptr 0 4 0),(5,vV j9),(6,vV wb),(7, .ptr 0 7 0),(8, .ptr 0 8 0),(9,vV wy),(10,vV jS),(11,vV wm),(12, .ptr 0 12 0),(13,vV wN),(14,vV j8),(15, .ptr 0 15 0),(16,vV yi),(17,vV yb),(19,vV jJ),(20,vV jl),(21,vV jJ),(22,vV jm),(23,vV jQ),(24,vV jO),(25,vV j7),(26,vV wC),(27,vV j7),(28,vV wG),(29,vV j9),(30,vV wb),(31,vV wq),(32,vV wR),(33, .lst true false 3 [[CV.int .i64 1]]),(34,vV wq),(35,vV wS),(36,vV wU),(37,vV wy),(38,vV we),(39,vV wQ),(40,vV we),(41,vV jS),(42,vV wm),(43,vV wO),(44,vV jS),(45,vV wO),(46,vV wX),(47,vV wN),(48,vV j8),(49,vV w8),(50,vV w8),(51,vV yy),(52,vV yi),(53,vV yb)],[bx 207 [(1,some [.val wh, .val wo, .val wu, .val wc, .val wj, .val wd]),(4,some [.val wH, .val wB, .val wz, .val wK, .val wL, .val wx]),(7,some [.val wA, .val wv, .val wl, .val wp, .val jC, .val jH]),(8,some [.val jI, .val jG, .val jF, .val jW, .val j6, .val j5]),(12,some [.val yf, .val ye, .val yc, .val yd, .val yg, .val yh]),(15,some [.val yC, .val yF, .val yA, .val yI, .val yG, .val yT])]],KK⟩ =
 optO (C lb n Qbg []) fun qI =>
 optO (CV.asA qI) fun oG =>
 chkO (oG.length == 6) (
 optO (oG[0]?) fun l5 =>
 optO (oG[1]?) fun lX =>
 optO (oG[2]?) fun rC =>
 optO (oG[3]?) fun rl =>
 optO (oG[4]?) fun tQ =>
 optO (oG[5]?) fun yz =>
 K' ⟨fr 207 [(0,vB false),(1, .ptr 0 1 0),(2,vV jQ),(3,vV jO),(4, .ptr 0 4 0),(5,vV j9),(6,vV wb),(7, .ptr 0 7 0),(8, .ptr 0 8 0),(9,vV wy),(10,vV jS),(11,vV wm),(12, .ptr 0 12 0),(13,vV wN),(14,vV j8),(15, .ptr 0 15 0),(16,vV yi),(17,vV yb),(18, .ptr 0 18 0),(19,vV jJ),(20,vV jl),(21,vV jJ),(22,vV jm),(23,vV jQ),(24,vV jO),(25,vV j7),(26,vV wC),(27,vV j7),(28,vV wG),(29,vV j9),(30,vV wb),(31,vV wq),(32,vV wR),(33, .lst true false 3 [[CV.int .i64 1]]),(34,vV wq),(35,vV wS),(36,vV wU),(37,vV wy),(38,vV we),(39,vV wQ),(40,vV we),(41,vV jS),(42,vV wm),(43,vV wO),(44,vV jS),(45,vV wO),(46,vV wX),(47,vV wN),(48,vV j8),(49,vV w8),(50,vV w8),(51,vV yy),(52,vV yi),(53,vV yb),(54,vV qI)],[bx 207 [(1,some [.val wh, .val wo, .val wu, .val wc, .val wj, .val wd]),(4,some [.val wH, .val wB, .val wz, .val wK, .val wL, .val wx]),(7,some [.val wA, .val wv, .val wl, .val wp, .val jC, .val jH]),(8,some [.val jI, .val jG, .val jF, .val jW, .val j6, .val j5]),(12,some [.val yf, .val ye, .val yc, .val yd, .val yg, .val yh]),(15,some [.val yC, .val yF, .val yA, .val yI, .val yG, .val yT]),(18,some [.val l5, .val lX, .val rC, .val rl, .val tQ, .val yz])]],KK⟩) := by
 subst hK
 kernel_rfl
noncomputable def Qms (lb n : Nat) (jQ jO j9 wb wy jS wm wN j8 yi yb jJ jl jm j7 wC wG wq wR wS wU we wQ wO wX w8 yy vE wh wo wu wc wj wd wH wB wz wK wL wx wA wv wl wp jC jH jI jG jF jW j6 j5 yf ye yc yd yg yh yC yF yA yI yG yT vK vt vW kZ vY vN : CV) : Option CV :=
 E0 lb n 0 992 (sub (B Qal) [1,1,1,1,1,1,1,1]) (retK Tryz.prog (R Qal) 0 (outK (Qad Tryz.prog Qal))) ⟨fr 207 [(0,vB false),(1, .ptr 0 1 0),(2,vV jQ),(3,vV jO),(4, .ptr 0 4 0),(5,vV j9),(6,vV wb),(7, .ptr 0 7 0),(8, .ptr 0 8 0),(9,vV wy),(10,vV jS),(11,vV wm),(12, .ptr 0 12 0),(13,vV wN),(14,vV j8),(15, .ptr 0 15 0),(16,vV yi),(17,vV yb),(18, .ptr 0 18 0),(19,vV jJ),(20,vV jl),(21,vV jJ),(22,vV jm),(23,vV jQ),(24,vV jO),(25,vV j7),(26,vV wC),(27,vV j7),(28,vV wG),(29,vV j9),(30,vV wb),(31,vV wq),(32,vV wR),(33, .lst true false 3 [[CV.int .i64 1]]),(34,vV wq),(35,vV wS),(36,vV wU),(37,vV wy),(38,vV we),(39,vV wQ),(40,vV we),(41,vV jS),(42,vV wm),(43,vV wO),(44,vV jS),(45,vV wO),(46,vV wX),(47,vV wN),(48,vV j8),(49,vV w8),(50,vV w8),(51,vV yy),(52,vV yi),(53,vV yb),(54,vV vE)],[bx 207 [(1,some [.val wh, .val wo, .val wu, .val wc, .val wj, .val wd]),(4,some [.val wH, .val wB, .val wz, .val wK, .val wL, .val wx]),(7,some [.val wA, .val wv, .val wl, .val wp, .val jC, .val jH]),(8,some [.val jI, .val jG, .val jF, .val jW, .val j6, .val j5]),(12,some [.val yf, .val ye, .val yc, .val yd, .val yg, .val yh]),(15,some [.val yC, .val yF, .val yA, .val yI, .val yG, .val yT]),(18,some [.val vK, .val vt, .val vW, .val kZ, .val vY, .val vN])]],KK⟩
theorem QrX (lb n : Nat) (K : Ex → St → Option CV) (K' : St → Option CV) (hK : K .normal = K') (jQ jO j9 wb wy jS wm wN j8 yi yb jJ jl jm j7 wC wG wq wR wS wU we wQ wO wX w8 yy vE wh wo wu wc wj wd wH wB wz wK wL wx wA wv wl wp jC jH jI jG jF jW j6 j5 yf ye yc yd yg yh yC yF yA yI yG yT vK vt vW kZ vY vN : CV) :
 E0 lb n 0 991 (sub (B Qal) [1,1,1,1,1,1,1,1,0]) K ⟨fr 207 [(0,vB false),(1, .ptr 0 1 0),(2,vV jQ),(3,vV jO),(4, .ptr 0 4 0),(5,vV j9),(6,vV wb),(7, .ptr 0 7 0),(8, .ptr 0 8 0),(9,vV wy),(10,vV jS),(11,vV wm),(12, .ptr 0 12 0),(13,vV wN),(14,vV j8),(15, .ptr 0 15 0),(16,vV yi),(17,vV yb),(18, .ptr 0 18 0),(19,vV jJ),(20,vV jl),(21,vV jJ),(22,vV jm),(23,vV jQ),(24,vV jO),(25,vV j7),(26,vV wC),(27,vV j7),(28,vV wG),(29,vV j9),(30,vV wb),(31,vV wq),(32,vV wR),(33, .lst true false 3 [[CV.int .i64 1]]),(34,vV wq),(35,vV wS),(36,vV wU),(37,vV wy),(38,vV we),(39,vV wQ),(40,vV we),(41,vV jS),(42,vV wm),(43,vV wO),(44,vV jS),(45,vV wO),(46,vV wX),(47,vV wN),(48,vV j8),(49,vV w8),(50,vV w8),(51,vV yy),(52,vV yi),(53,vV yb),(54,vV vE)],[bx 207 [(1,some [.val wh, .val wo, .val wu, .val wc, .val wj, .val wd]),(4,some [.val wH, .val wB, .val wz, .val wK, .val wL, .val wx]),(7,some [.val wA, .val wv, .val wl, .val wp, .val jC, .val jH]),(8,some [.val jI, .val jG, .val jF, .val jW, .val j6, .val j5]),(12,some [.val yf, .val ye, .val yc, .val yd, .val yg, .val yh]),(15,some [.val yC, .val yF, .val yA, .val yI, .val yG, .val yT]),(18,some [.val vK, .val vt, .val vW, .val kZ, .val vY, .val vN])]],KK⟩ =
 optO (CV.asL vt) fun oU =>
 chkO (oU.2.all (·.length == 3)) (
 chkO (decide ((0 : Int) ≤ 1 ∧ 1 ≤ (oU.2.length : Int))) (
 K' ⟨fr 207 [(0,vB false),(1, .ptr 0 1 0),(2,vV jQ),(3,vV jO),(4, .ptr 0 4 0),(5,vV j9),(6,vV wb),(7, .ptr 0 7 0),(8, .ptr 0 8 0),(9,vV wy),(10,vV jS),(11,vV wm),(12, .ptr 0 12 0),(13,vV wN),(14,vV j8),(15, .ptr 0 15 0),(16,vV yi),(17,vV yb),(18, .ptr 0 18 0),(19,vV jJ),(20,vV jl),(21,vV jJ),(22,vV jm),(23,vV jQ),(24,vV jO),(25,vV j7),(26,vV wC),(27,vV j7),(28,vV wG),(29,vV j9),(30,vV wb),(31,vV wq),(32,vV wR),(33, .lst true false 3 [[CV.int .i64 1]]),(34,vV wq),(35,vV wS),(36,vV wU),(37,vV wy),(38,vV we),(39,vV wQ),(40,vV we),(41,vV jS),(42,vV wm),(43,vV wO),(44,vV jS),(45,vV wO),(46,vV wX),(47,vV wN),(48,vV j8),(49,vV w8),(50,vV w8),(51,vV yy),(52,vV yi),(53,vV yb),(54,vV vE),(55, .ptr 0 18 1),(56,vV vt),(57, .val (.list oU.1 ((oU.2.take 1).drop 0))),(58, .ptr 0 18 3),(59, .ptr 0 18 1)],[bx 207 [(1,some [.val wh, .val wo, .val wu, .val wc, .val wj, .val wd]),(4,some [.val wH, .val wB, .val wz, .val wK, .val wL, .val wx]),(7,some [.val wA, .val wv, .val wl, .val wp, .val jC, .val jH]),(8,some [.val jI, .val jG, .val jF, .val jW, .val j6, .val j5]),(12,some [.val yf, .val ye, .val yc, .val yd, .val yg, .val yh]),(15,some [.val yC, .val yF, .val yA, .val yI, .val yG, .val yT]),(18,some [.val vK, .val (.list oU.1 ((oU.2.take 1).drop 0)), .val vW, .lst true true 39 [], .val vY, .val vN])]],KK⟩)) := by
 subst hK
 kernel_rfl
noncomputable def Qlk (lb n : Nat) (jQ jO j9 wb wy jS wm wN j8 yi yb jJ jl jm j7 wC wG wq wR wS wU we wQ wO wX w8 yy vE vt : CV) (kT : Bool × LL) (wh wo wu wc wj wd wH wB wz wK wL wx wA wv wl wp jC jH jI jG jF jW j6 j5 yf ye yc yd yg yh yC yF yA yI yG yT vK vW vY vN : CV) : Option CV :=
 E0 lb n 0 991 (sub (B Qal) [1,1,1,1,1,1,1,1,1]) (retK Tryz.prog (R Qal) 0 (outK (Qad Tryz.prog Qal))) ⟨fr 207 [(0,vB false),(1, .ptr 0 1 0),(2,vV jQ),(3,vV jO),(4, .ptr 0 4 0),(5,vV j9),(6,vV wb),(7, .ptr 0 7 0),(8, .ptr 0 8 0),(9,vV wy),(10,vV jS),(11,vV wm),(12, .ptr 0 12 0),(13,vV wN),(14,vV j8),(15, .ptr 0 15 0),(16,vV yi),(17,vV yb),(18, .ptr 0 18 0),(19,vV jJ),(20,vV jl),(21,vV jJ),(22,vV jm),(23,vV jQ),(24,vV jO),(25,vV j7),(26,vV wC),(27,vV j7),(28,vV wG),(29,vV j9),(30,vV wb),(31,vV wq),(32,vV wR),(33, .lst true false 3 [[CV.int .i64 1]]),(34,vV wq),(35,vV wS),(36,vV wU),(37,vV wy),(38,vV we),(39,vV wQ),(40,vV we),(41,vV jS),(42,vV wm),(43,vV wO),(44,vV jS),(45,vV wO),(46,vV wX),(47,vV wN),(48,vV j8),(49,vV w8),(50,vV w8),(51,vV yy),(52,vV yi),(53,vV yb),(54,vV vE),(55, .ptr 0 18 1),(56,vV vt),(57, .val (.list kT.1 ((kT.2.take 1).drop 0))),(58, .ptr 0 18 3),(59, .ptr 0 18 1)],[bx 207 [(1,some [.val wh, .val wo, .val wu, .val wc, .val wj, .val wd]),(4,some [.val wH, .val wB, .val wz, .val wK, .val wL, .val wx]),(7,some [.val wA, .val wv, .val wl, .val wp, .val jC, .val jH]),(8,some [.val jI, .val jG, .val jF, .val jW, .val j6, .val j5]),(12,some [.val yf, .val ye, .val yc, .val yd, .val yg, .val yh]),(15,some [.val yC, .val yF, .val yA, .val yI, .val yG, .val yT]),(18,some [.val vK, .val (.list kT.1 ((kT.2.take 1).drop 0)), .val vW, .lst true true 39 [], .val vY, .val vN])]],KK⟩
theorem QoD (lb n : Nat) (jQ jO j9 wb wy jS wm wN j8 yi yb jJ jl jm j7 wC wG wq wR wS wU we wQ wO wX w8 yy vE wh wo wu wc wj wd wH wB wz wK wL wx wA wv wl wp jC jH jI jG jF jW j6 j5 yf ye yc yd yg yh yC yF yA yI yG yT vK vt vW kZ vY vN : CV) :
 Qms lb n jQ jO j9 wb wy jS wm wN j8 yi yb jJ jl jm j7 wC wG wq wR wS wU we wQ wO wX w8 yy vE wh wo wu wc wj wd wH wB wz wK wL wx wA wv wl wp jC jH jI jG jF jW j6 j5 yf ye yc yd yg yh yC yF yA yI yG yT vK vt vW kZ vY vN =
 optO (CV.asL vt) fun kT =>
 chkO (kT.2.all (·.length == 3)) (
 chkO (decide ((0 : Int) ≤ 1 ∧ 1 ≤ (kT.2.length : Int))) (
 Qlk lb n jQ jO j9 wb wy jS wm wN j8 yi yb jJ jl jm j7 wC wG wq wR wS wU we wQ wO wX w8 yy vE vt kT wh wo wu wc wj wd wH wB wz wK wL wx wA wv wl wp jC jH jI jG jF jW j6 j5 yf ye yc yd yg yh yC yF yA yI yG yT vK vW vY vN)) :=
 (Qbk lb n (m := 991) (b := (sub (B Qal) [1,1,1,1,1,1,1,1,1])) (by kernel_rfl)).trans (QrX lb n _ _ (Qbl (by kernel_rfl) (by kernel_rfl)) jQ jO j9 wb wy jS wm wN j8 yi yb jJ jl jm j7 wC wG wq wR wS wU we wQ wO wX w8 yy vE wh wo wu wc wj wd wH wB wz wK wL wx wA wv wl wp jC jH jI jG jF jW j6 j5 yf ye yc yd yg yh yC yF yA yI yG yT vK vt vW kZ vY vN)
theorem Qpu (lb n : Nat) (jQ jO j9 wb wy jS wm wN j8 yi yb jJ jl jm j7 wC wG wq wR wS wU we wQ wO wX w8 yy wh wo wu wc wj wd wH wB wz wK wL wx wA wv wl wp jC jH jI jG jF jW j6 j5 yf ye yc yd yg yh yC yF yA yI yG yT : CV) :
 Ql6 lb n jQ jO j9 wb wy jS wm wN j8 yi yb jJ jl jm j7 wC wG wq wR wS wU we wQ wO wX w8 yy wh wo wu wc wj wd wH wB wz wK wL wx wA wv wl wp jC jH jI jG jF jW j6 j5 yf ye yc yd yg yh yC yF yA yI yG yT =
 optO (C lb n Qbg []) fun vE =>
 optO (CV.asA vE) fun oz =>
 chkO (oz.length == 6) (
 optO (oz[0]?) fun vK =>
 optO (oz[1]?) fun vt =>
 optO (oz[2]?) fun vW =>
 optO (oz[3]?) fun kZ =>
 optO (oz[4]?) fun vY =>
 optO (oz[5]?) fun vN =>
 Qms lb n jQ jO j9 wb wy jS wm wN j8 yi yb jJ jl jm j7 wC wG wq wR wS wU we wQ wO wX w8 yy vE wh wo wu wc wj wd wH wB wz wK wL wx wA wv wl wp jC jH jI jG jF jW j6 j5 yf ye yc yd yg yh yC yF yA yI yG yT vK vt vW kZ vY vN) :=
 (Qbk lb n (m := 992) (b := (sub (B Qal) [1,1,1,1,1,1,1,1])) (by kernel_rfl)).trans (QsS lb n _ _ (Qbl (by kernel_rfl) (by kernel_rfl)) jQ jO j9 wb wy jS wm wN j8 yi yb jJ jl jm j7 wC wG wq wR wS wU we wQ wO wX w8 yy wh wo wu wc wj wd wH wB wz wK wL wx wA wv wl wp jC jH jI jG jF jW j6 j5 yf ye yc yd yg yh yC yF yA yI yG yT)
theorem QoT (lb n : Nat) (jQ jO j9 wb wy jS wm wN j8 jJ jl jm j7 wC wG wq wR wS wU we wQ wO wX wh wo wu wc wj wd wH wB wz wK wL wx wA wv wl wp jC jH jI jG jF jW j6 j5 yf ye yc yd yg yh : CV) :
 Qme lb n jQ jO j9 wb wy jS wm wN j8 jJ jl jm j7 wC wG wq wR wS wU we wQ wO wX wh wo wu wc wj wd wH wB wz wK wL wx wA wv wl wp jC jH jI jG jF jW j6 j5 yf ye yc yd yg yh =
 optO (C lb n QaN [.str [115,101,103,10]]) fun w8 =>
 optO (CV.asT w8) fun t164 =>
 optO (t164[0]?) fun yy =>
 optO (CV.asT w8) fun tt =>
 optO (tt[1]?) fun yi =>
 optO (CV.asT w8) fun t168 =>
 optO (t168[2]?) fun yb =>
 optO (CV.asA yy) fun oJ =>
 chkO (oJ.length == 6) (
 optO (oJ[0]?) fun yC =>
 optO (oJ[1]?) fun yF =>
 optO (oJ[2]?) fun yA =>
 optO (oJ[3]?) fun yI =>
 optO (oJ[4]?) fun yG =>
 optO (oJ[5]?) fun yT =>
 Ql6 lb n jQ jO j9 wb wy jS wm wN j8 yi yb jJ jl jm j7 wC wG wq wR wS wU we wQ wO wX w8 yy wh wo wu wc wj wd wH wB wz wK wL wx wA wv wl wp jC jH jI jG jF jW j6 j5 yf ye yc yd yg yh yC yF yA yI yG yT) :=
 (Qbk lb n (m := 993) (b := (sub (B Qal) [1,1,1,1,1,1,1])) (by kernel_rfl)).trans (Qr8 lb n _ _ (Qbl (by kernel_rfl) (by kernel_rfl)) jQ jO j9 wb wy jS wm wN j8 jJ jl jm j7 wC wG wq wR wS wU we wQ wO wX wh wo wu wc wj wd wH wB wz wK wL wx wA wv wl wp jC jH jI jG jF jW j6 j5 yf ye yc yd yg yh)
theorem QoX (lb n : Nat) (jQ jO j9 wb wy jS wm jJ jl jm j7 wC wG wq wR wS wU we wQ wh wo wu wc wj wd wH wB wz wK wL wx wA wv wl wp jC jH jI jG jF jW j6 j5 : CV) :
 Qmu lb n jQ jO j9 wb wy jS wm jJ jl jm j7 wC wG wq wR wS wU we wQ wh wo wu wc wj wd wH wB wz wK wL wx wA wv wl wp jC jH jI jG jF jW j6 j5 =
 optO (C lb n QaN [jS]) fun wO =>
 optO (CV.asT wO) fun lz =>
 optO (lz[0]?) fun wX =>
 optO (CV.asT wO) fun t138 =>
 optO (t138[1]?) fun wN =>
 optO (CV.asT wO) fun rS =>
 optO (rS[2]?) fun j8 =>
 optO (CV.asA wX) fun oF =>
 chkO (oF.length == 6) (
 optO (oF[0]?) fun yf =>
 optO (oF[1]?) fun ye =>
 optO (oF[2]?) fun yc =>
 optO (oF[3]?) fun yd =>
 optO (oF[4]?) fun yg =>
 optO (oF[5]?) fun yh =>
 Qme lb n jQ jO j9 wb wy jS wm wN j8 jJ jl jm j7 wC wG wq wR wS wU we wQ wO wX wh wo wu wc wj wd wH wB wz wK wL wx wA wv wl wp jC jH jI jG jF jW j6 j5 yf ye yc yd yg yh) :=
 (Qbk lb n (m := 994) (b := (sub (B Qal) [1,1,1,1,1,1])) (by kernel_rfl)).trans (QrN lb n _ _ (Qbl (by kernel_rfl) (by kernel_rfl)) jQ jO j9 wb wy jS wm jJ jl jm j7 wC wG wq wR wS wU we wQ wh wo wu wc wj wd wH wB wz wK wL wx wA wv wl wp jC jH jI jG jF jW j6 j5)
theorem Qpd (lb n : Nat) (jQ jO j9 wb wy jJ jl jm j7 wC wG wq wR wS wU wh wo wu wc wj wd wH wB wz wK wL wx wA wv wl wp jC jH jI jG jF jW j6 j5 : CV) :
 Qmx lb n jQ jO j9 wb wy jJ jl jm j7 wC wG wq wR wS wU wh wo wu wc wj wd wH wB wz wK wL wx wA wv wl wp jC jH jI jG jF jW j6 j5 =
 optO (C lb n Qbg []) fun wQ =>
 optO (C lb n Qep [wQ]) fun we =>
 optO (CV.asT we) fun rz =>
 optO (rz[0]?) fun jS =>
 optO (CV.asT we) fun t119 =>
 optO (t119[1]?) fun wm =>
 Qmu lb n jQ jO j9 wb wy jS wm jJ jl jm j7 wC wG wq wR wS wU we wQ wh wo wu wc wj wd wH wB wz wK wL wx wA wv wl wp jC jH jI jG jF jW j6 j5 :=
 (Qbk lb n (m := 995) (b := (sub (B Qal) [1,1,1,1,1])) (by kernel_rfl)).trans (Qrw lb n _ _ (Qbl (by kernel_rfl) (by kernel_rfl)) jQ jO j9 wb wy jJ jl jm j7 wC wG wq wR wS wU wh wo wu wc wj wd wH wB wz wK wL wx wA wv wl wp jC jH jI jG jF jW j6 j5)
theorem Qov (lb n : Nat) (jQ jO j9 wb jJ jl jm j7 wC wG wh wo wu wc wj wd wH wB wz wK wL wx : CV) :
 Qmv lb n jQ jO j9 wb jJ jl jm j7 wC wG wh wo wu wc wj wd wH wB wz wK wL wx =
 optO (C lb n Qbg []) fun wR =>
 optO (C lb n Qaa [wR, .list false [[CV.int .i64 1]], .str [88,89,90,57,57,57]]) fun wq =>
 optO (CV.asT wq) fun uM =>
 optO (uM[0]?) fun wS =>
 optO (CV.asT wq) fun uP =>
 optO (uP[1]?) fun wU =>
 optO (CV.asT wq) fun uD =>
 optO (uD[2]?) fun wy =>
 optO (CV.asA wS) fun yM =>
 chkO (yM.length == 6) (
 optO (yM[0]?) fun wA =>
 optO (yM[1]?) fun wv =>
 optO (yM[2]?) fun wl =>
 optO (yM[3]?) fun wp =>
 optO (yM[4]?) fun jC =>
 optO (yM[5]?) fun jH =>
 optO (CV.asA wU) fun oI =>
 chkO (oI.length == 6) (
 optO (oI[0]?) fun jI =>
 optO (oI[1]?) fun jG =>
 optO (oI[2]?) fun jF =>
 optO (oI[3]?) fun jW =>
 optO (oI[4]?) fun j6 =>
 optO (oI[5]?) fun j5 =>
 Qmx lb n jQ jO j9 wb wy jJ jl jm j7 wC wG wq wR wS wU wh wo wu wc wj wd wH wB wz wK wL wx wA wv wl wp jC jH jI jG jF jW j6 j5)) :=
 (Qbk lb n (m := 996) (b := (sub (B Qal) [1,1,1,1])) (by kernel_rfl)).trans (QrF lb n _ _ (Qbl (by kernel_rfl) (by kernel_rfl)) jQ jO j9 wb jJ jl jm j7 wC wG wh wo wu wc wj wd wH wB wz wK wL wx)
theorem Qpm (lb n : Nat) (jQ jO jJ jl jm wh wo wu wc wj wd : CV) :
 Ql1 lb n jQ jO jJ jl jm wh wo wu wc wj wd =
 optO (C lb n Qbg []) fun wC =>
 optO (C lb n QbH [wC, .int .i64 0, .int .i64 6]) fun j7 =>
 optO (CV.asT j7) fun t51 =>
 optO (t51[0]?) fun wG =>
 optO (CV.asT j7) fun t53 =>
 optO (t53[1]?) fun j9 =>
 optO (CV.asT j7) fun t55 =>
 optO (t55[2]?) fun wb =>
 optO (CV.asA wG) fun gZ =>
 chkO (gZ.length == 6) (
 optO (gZ[0]?) fun wH =>
 optO (gZ[1]?) fun wB =>
 optO (gZ[2]?) fun wz =>
 optO (gZ[3]?) fun wK =>
 optO (gZ[4]?) fun wL =>
 optO (gZ[5]?) fun wx =>
 Qmv lb n jQ jO j9 wb jJ jl jm j7 wC wG wh wo wu wc wj wd wH wB wz wK wL wx) :=
 (Qbk lb n (m := 997) (b := (sub (B Qal) [1,1,1])) (by kernel_rfl)).trans (QsV lb n _ _ (Qbl (by kernel_rfl) (by kernel_rfl)) jQ jO jJ jl jm wh wo wu wc wj wd)
theorem Qo1 (lb n : Nat)  :
 Qmd lb n  =
 optO (C lb n Qbg []) fun jl =>
 optO (C lb n QbH [jl, .int .i64 1, .int .i64 8]) fun jJ =>
 optO (CV.asT jJ) fun t20 =>
 optO (t20[0]?) fun jm =>
 optO (CV.asT jJ) fun uo =>
 optO (uo[1]?) fun jQ =>
 optO (CV.asT jJ) fun nB =>
 optO (nB[2]?) fun jO =>
 optO (CV.asA jm) fun om =>
 chkO (om.length == 6) (
 optO (om[0]?) fun wh =>
 optO (om[1]?) fun wo =>
 optO (om[2]?) fun wu =>
 optO (om[3]?) fun wc =>
 optO (om[4]?) fun wj =>
 optO (om[5]?) fun wd =>
 Ql1 lb n jQ jO jJ jl jm wh wo wu wc wj wd) :=
 (Qbk lb n (m := 998) (b := (sub (B Qal) [1,1])) (by kernel_rfl)).trans (QrS lb n _ _ (Qbl (by kernel_rfl) (by kernel_rfl)) )
theorem QoG (lb n : Nat)  :
 l35_awake_J1 lb n  =
 Qmd lb n  :=
 (Qbk lb n (m := 999) (b := (sub (B Qal) [1])) (by kernel_rfl)).trans (QsK lb n _ _ (Qbl (by kernel_rfl) (by kernel_rfl)) )
theorem Qsn (lb n : Nat)  :
 top lb n Qal [] =
 l35_awake_J1 lb n  := by kernel_rfl
end Go.Proofs
