/- Equations of functions, printed by program. Conditions: none. -/
import Derived.Test.YtigmcfhmpcajlaaGreatDoorEv
namespace Go.Proofs
open Go.Am
set_option maxRecDepth 100000
set_option linter.unusedVariables false
theorem QbC (lb n : Nat) {m : Nat} {c a b : Code} {k : Ex → St → Option CV} {σ : St} (h : c = .seq a b) : E0 lb n 0 (m + 1) c k σ = E0 lb n 0 m a (seqK (E0 lb n 0 m) a b k) σ := by
 subst h
 rfl
theorem QbB {ev : Code → (Ex → St → Option CV) → St → Option CV} {a b : Code} {k : Ex → St → Option CV} (h : Qpr a b = false) (h2 : Qo6 a = false) : seqK ev a b k .normal = ev b k := by
 funext σ
 unfold seqK tidy
 rw [h,h2]
noncomputable def l35_awake_J1 :=
 fun lb n =>
 E0 lb n 0 1000 (sub (B Qaj) []) (retK Tryz.prog (R Qaj) 0 (outK (Qad Tryz.prog Qaj))) ⟨fr 207 [],[bx 207 []],KK⟩
theorem QtI (lb n : Nat) (K : Ex → St → Option CV) (K' : St → Option CV) (hK : K .normal = K')  :
 E0 lb n 0 999 (sub (B Qaj) [0]) K ⟨fr 207 [],[bx 207 []],KK⟩ =
 K' ⟨fr 207 [(0,vB false)],[bx 207 []],KK⟩ := by
 subst hK
 kernel_rfl
noncomputable def Qnx (lb n : Nat)  : Option CV :=
 E0 lb n 0 999 (sub (B Qaj) [1]) (retK Tryz.prog (R Qaj) 0 (outK (Qad Tryz.prog Qaj))) ⟨fr 207 [(0,vB false)],[bx 207 []],KK⟩
theorem Qt5 (lb n : Nat) (K : Ex → St → Option CV) (K' : St → Option CV) (hK : K .normal = K')  :
 E0 lb n 0 998 (sub (B Qaj) [1,0]) K ⟨fr 207 [(0,vB false)],[bx 207 []],KK⟩ =
 optO (C lb n Qbw []) fun r1 =>
 optO (C lb n QbW [r1, .int .i64 1, .int .i64 8]) fun r2 =>
 optO (CV.asT r2) fun t3 =>
 optO (t3[0]?) fun x4 =>
 optO (CV.asT r2) fun t5 =>
 optO (t5[1]?) fun x6 =>
 optO (CV.asT r2) fun t7 =>
 optO (t7[2]?) fun x9 =>
 optO (CV.asA x4) fun v6 =>
 chkO (v6.length == 6) (
 optO (v6[0]?) fun gw =>
 optO (v6[1]?) fun pw =>
 optO (v6[2]?) fun ky =>
 optO (v6[3]?) fun vG =>
 optO (v6[4]?) fun mo =>
 optO (v6[5]?) fun vK =>
 K' ⟨fr 207 [(0,vB false),(1, .ptr 0 1 0),(2,vV x6),(3,vV x9),(19,vV r2),(20,vV r1),(21,vV r2),(22,vV x4),(23,vV x6),(24,vV x9)],[bx 207 [(1,some [.val gw, .val pw, .val ky, .val vG, .val mo, .val vK])]],KK⟩) := by
 subst hK
 kernel_rfl
noncomputable def Qnk (lb n : Nat) (jI jH jt jl jV jX we j5 j6 j7 jY : CV) : Option CV :=
 E0 lb n 0 998 (sub (B Qaj) [1,1]) (retK Tryz.prog (R Qaj) 0 (outK (Qad Tryz.prog Qaj))) ⟨fr 207 [(0,vB false),(1, .ptr 0 1 0),(2,vV jI),(3,vV jH),(19,vV jt),(20,vV jl),(21,vV jt),(22,vV jV),(23,vV jI),(24,vV jH)],[bx 207 [(1,some [.val jX, .val we, .val j5, .val j6, .val j7, .val jY])]],KK⟩
theorem QtC (lb n : Nat) (K : Ex → St → Option CV) (K' : St → Option CV) (hK : K .normal = K') (jI jH jt jl jV jX we j5 j6 j7 jY : CV) :
 E0 lb n 0 997 (sub (B Qaj) [1,1,0]) K ⟨fr 207 [(0,vB false),(1, .ptr 0 1 0),(2,vV jI),(3,vV jH),(19,vV jt),(20,vV jl),(21,vV jt),(22,vV jV),(23,vV jI),(24,vV jH)],[bx 207 [(1,some [.val jX, .val we, .val j5, .val j6, .val j7, .val jY])]],KK⟩ =
 optO (C lb n Qbw []) fun q8 =>
 optO (C lb n QbW [q8, .int .i64 0, .int .i64 6]) fun mF =>
 optO (CV.asT mF) fun rS =>
 optO (rS[0]?) fun vk =>
 optO (CV.asT mF) fun ti =>
 optO (ti[1]?) fun oL =>
 optO (CV.asT mF) fun tk =>
 optO (tk[2]?) fun oO =>
 optO (CV.asA vk) fun ku =>
 chkO (ku.length == 6) (
 optO (ku[0]?) fun gg =>
 optO (ku[1]?) fun rK =>
 optO (ku[2]?) fun my =>
 optO (ku[3]?) fun vF =>
 optO (ku[4]?) fun mf =>
 optO (ku[5]?) fun gi =>
 K' ⟨fr 207 [(0,vB false),(1, .ptr 0 1 0),(2,vV jI),(3,vV jH),(4, .ptr 0 4 0),(5,vV oL),(6,vV oO),(19,vV jt),(20,vV jl),(21,vV jt),(22,vV jV),(23,vV jI),(24,vV jH),(25,vV mF),(26,vV q8),(27,vV mF),(28,vV vk),(29,vV oL),(30,vV oO)],[bx 207 [(1,some [.val jX, .val we, .val j5, .val j6, .val j7, .val jY]),(4,some [.val gg, .val rK, .val my, .val vF, .val mf, .val gi])]],KK⟩) := by
 subst hK
 kernel_rfl
noncomputable def Qnv (lb n : Nat) (jI jH jU jW jt jl jV jQ wo wv jX we j5 j6 j7 jY wp wu wm wz wy wn : CV) : Option CV :=
 E0 lb n 0 997 (sub (B Qaj) [1,1,1]) (retK Tryz.prog (R Qaj) 0 (outK (Qad Tryz.prog Qaj))) ⟨fr 207 [(0,vB false),(1, .ptr 0 1 0),(2,vV jI),(3,vV jH),(4, .ptr 0 4 0),(5,vV jU),(6,vV jW),(19,vV jt),(20,vV jl),(21,vV jt),(22,vV jV),(23,vV jI),(24,vV jH),(25,vV jQ),(26,vV wo),(27,vV jQ),(28,vV wv),(29,vV jU),(30,vV jW)],[bx 207 [(1,some [.val jX, .val we, .val j5, .val j6, .val j7, .val jY]),(4,some [.val wp, .val wu, .val wm, .val wz, .val wy, .val wn])]],KK⟩
theorem Qtq (lb n : Nat) (K : Ex → St → Option CV) (K' : St → Option CV) (hK : K .normal = K') (jI jH jU jW jt jl jV jQ wo wv jX we j5 j6 j7 jY wp wu wm wz wy wn : CV) :
 E0 lb n 0 996 (sub (B Qaj) [1,1,1,0]) K ⟨fr 207 [(0,vB false),(1, .ptr 0 1 0),(2,vV jI),(3,vV jH),(4, .ptr 0 4 0),(5,vV jU),(6,vV jW),(19,vV jt),(20,vV jl),(21,vV jt),(22,vV jV),(23,vV jI),(24,vV jH),(25,vV jQ),(26,vV wo),(27,vV jQ),(28,vV wv),(29,vV jU),(30,vV jW)],[bx 207 [(1,some [.val jX, .val we, .val j5, .val j6, .val j7, .val jY]),(4,some [.val wp, .val wu, .val wm, .val wz, .val wy, .val wn])]],KK⟩ =
 optO (C lb n Qbw []) fun sf =>
 optO (C lb n QeD [sf, .list false [[CV.int .i64 1]], .str [88,89,90,57,57,57]]) fun o5 =>
 optO (CV.asT o5) fun rt =>
 optO (rt[0]?) fun sd =>
 optO (CV.asT o5) fun rZ =>
 optO (rZ[1]?) fun sb =>
 optO (CV.asT o5) fun tu =>
 optO (tu[2]?) fun pc =>
 optO (CV.asA sd) fun o7 =>
 chkO (o7.length == 6) (
 optO (o7[0]?) fun pk =>
 optO (o7[1]?) fun qa =>
 optO (o7[2]?) fun nD =>
 optO (o7[3]?) fun nZ =>
 optO (o7[4]?) fun mn =>
 optO (o7[5]?) fun md =>
 optO (CV.asA sb) fun c80 =>
 chkO (c80.length == 6) (
 optO (c80[0]?) fun nX =>
 optO (c80[1]?) fun qg =>
 optO (c80[2]?) fun qC =>
 optO (c80[3]?) fun p7 =>
 optO (c80[4]?) fun pS =>
 optO (c80[5]?) fun qn =>
 K' ⟨fr 207 [(0,vB false),(1, .ptr 0 1 0),(2,vV jI),(3,vV jH),(4, .ptr 0 4 0),(5,vV jU),(6,vV jW),(7, .ptr 0 7 0),(8, .ptr 0 8 0),(9,vV pc),(19,vV jt),(20,vV jl),(21,vV jt),(22,vV jV),(23,vV jI),(24,vV jH),(25,vV jQ),(26,vV wo),(27,vV jQ),(28,vV wv),(29,vV jU),(30,vV jW),(31,vV o5),(32,vV sf),(33, .lst true false 3 [[CV.int .i64 1]]),(34,vV o5),(35,vV sd),(36,vV sb),(37,vV pc)],[bx 207 [(1,some [.val jX, .val we, .val j5, .val j6, .val j7, .val jY]),(4,some [.val wp, .val wu, .val wm, .val wz, .val wy, .val wn]),(7,some [.val pk, .val qa, .val nD, .val nZ, .val mn, .val md]),(8,some [.val nX, .val qg, .val qC, .val p7, .val pS, .val qn])]],KK⟩)) := by
 subst hK
 kernel_rfl
noncomputable def Qnb (lb n : Nat) (jI jH jU jW wd jt jl jV jQ wo wv wc wI wJ wH jX we j5 j6 j7 jY wp wu wm wz wy wn wg wh wb wj jy jz jC jB jA jT jO jN : CV) : Option CV :=
 E0 lb n 0 996 (sub (B Qaj) [1,1,1,1]) (retK Tryz.prog (R Qaj) 0 (outK (Qad Tryz.prog Qaj))) ⟨fr 207 [(0,vB false),(1, .ptr 0 1 0),(2,vV jI),(3,vV jH),(4, .ptr 0 4 0),(5,vV jU),(6,vV jW),(7, .ptr 0 7 0),(8, .ptr 0 8 0),(9,vV wd),(19,vV jt),(20,vV jl),(21,vV jt),(22,vV jV),(23,vV jI),(24,vV jH),(25,vV jQ),(26,vV wo),(27,vV jQ),(28,vV wv),(29,vV jU),(30,vV jW),(31,vV wc),(32,vV wI),(33, .lst true false 3 [[CV.int .i64 1]]),(34,vV wc),(35,vV wJ),(36,vV wH),(37,vV wd)],[bx 207 [(1,some [.val jX, .val we, .val j5, .val j6, .val j7, .val jY]),(4,some [.val wp, .val wu, .val wm, .val wz, .val wy, .val wn]),(7,some [.val wg, .val wh, .val wb, .val wj, .val jy, .val jz]),(8,some [.val jC, .val jB, .val jA, .val jT, .val jO, .val jN])]],KK⟩
theorem Quj (lb n : Nat) (K : Ex → St → Option CV) (K' : St → Option CV) (hK : K .normal = K') (jI jH jU jW wd jt jl jV jQ wo wv wc wI wJ wH jX we j5 j6 j7 jY wp wu wm wz wy wn wg wh wb wj jy jz jC jB jA jT jO jN : CV) :
 E0 lb n 0 995 (sub (B Qaj) [1,1,1,1,0]) K ⟨fr 207 [(0,vB false),(1, .ptr 0 1 0),(2,vV jI),(3,vV jH),(4, .ptr 0 4 0),(5,vV jU),(6,vV jW),(7, .ptr 0 7 0),(8, .ptr 0 8 0),(9,vV wd),(19,vV jt),(20,vV jl),(21,vV jt),(22,vV jV),(23,vV jI),(24,vV jH),(25,vV jQ),(26,vV wo),(27,vV jQ),(28,vV wv),(29,vV jU),(30,vV jW),(31,vV wc),(32,vV wI),(33, .lst true false 3 [[CV.int .i64 1]]),(34,vV wc),(35,vV wJ),(36,vV wH),(37,vV wd)],[bx 207 [(1,some [.val jX, .val we, .val j5, .val j6, .val j7, .val jY]),(4,some [.val wp, .val wu, .val wm, .val wz, .val wy, .val wn]),(7,some [.val wg, .val wh, .val wb, .val wj, .val jy, .val jz]),(8,some [.val jC, .val jB, .val jA, .val jT, .val jO, .val jN])]],KK⟩ =
 optO (C lb n Qbw []) fun qF =>
 optO (C lb n Qan [qF]) fun yj =>
 optO (CV.asT yj) fun zi =>
 optO (zi[0]?) fun pV =>
 optO (CV.asT yj) fun s8 =>
 optO (s8[1]?) fun qA =>
 K' ⟨fr 207 [(0,vB false),(1, .ptr 0 1 0),(2,vV jI),(3,vV jH),(4, .ptr 0 4 0),(5,vV jU),(6,vV jW),(7, .ptr 0 7 0),(8, .ptr 0 8 0),(9,vV wd),(10,vV pV),(11,vV qA),(19,vV jt),(20,vV jl),(21,vV jt),(22,vV jV),(23,vV jI),(24,vV jH),(25,vV jQ),(26,vV wo),(27,vV jQ),(28,vV wv),(29,vV jU),(30,vV jW),(31,vV wc),(32,vV wI),(33, .lst true false 3 [[CV.int .i64 1]]),(34,vV wc),(35,vV wJ),(36,vV wH),(37,vV wd),(38,vV yj),(39,vV qF),(40,vV yj),(41,vV pV),(42,vV qA)],[bx 207 [(1,some [.val jX, .val we, .val j5, .val j6, .val j7, .val jY]),(4,some [.val wp, .val wu, .val wm, .val wz, .val wy, .val wn]),(7,some [.val wg, .val wh, .val wb, .val wj, .val jy, .val jz]),(8,some [.val jC, .val jB, .val jA, .val jT, .val jO, .val jN])]],KK⟩ := by
 subst hK
 kernel_rfl
noncomputable def Qnz (lb n : Nat) (jI jH jU jW wd jJ j9 jt jl jV jQ wo wv wc wI wJ wH jZ wD jX we j5 j6 j7 jY wp wu wm wz wy wn wg wh wb wj jy jz jC jB jA jT jO jN : CV) : Option CV :=
 E0 lb n 0 995 (sub (B Qaj) [1,1,1,1,1]) (retK Tryz.prog (R Qaj) 0 (outK (Qad Tryz.prog Qaj))) ⟨fr 207 [(0,vB false),(1, .ptr 0 1 0),(2,vV jI),(3,vV jH),(4, .ptr 0 4 0),(5,vV jU),(6,vV jW),(7, .ptr 0 7 0),(8, .ptr 0 8 0),(9,vV wd),(10,vV jJ),(11,vV j9),(19,vV jt),(20,vV jl),(21,vV jt),(22,vV jV),(23,vV jI),(24,vV jH),(25,vV jQ),(26,vV wo),(27,vV jQ),(28,vV wv),(29,vV jU),(30,vV jW),(31,vV wc),(32,vV wI),(33, .lst true false 3 [[CV.int .i64 1]]),(34,vV wc),(35,vV wJ),(36,vV wH),(37,vV wd),(38,vV jZ),(39,vV wD),(40,vV jZ),(41,vV jJ),(42,vV j9)],[bx 207 [(1,some [.val jX, .val we, .val j5, .val j6, .val j7, .val jY]),(4,some [.val wp, .val wu, .val wm, .val wz, .val wy, .val wn]),(7,some [.val wg, .val wh, .val wb, .val wj, .val jy, .val jz]),(8,some [.val jC, .val jB, .val jA, .val jT, .val jO, .val jN])]],KK⟩
theorem Qtk (lb n : Nat) (K : Ex → St → Option CV) (K' : St → Option CV) (hK : K .normal = K') (jI jH jU jW wd jJ j9 jt jl jV jQ wo wv wc wI wJ wH jZ wD jX we j5 j6 j7 jY wp wu wm wz wy wn wg wh wb wj jy jz jC jB jA jT jO jN : CV) :
 E0 lb n 0 994 (sub (B Qaj) [1,1,1,1,1,0]) K ⟨fr 207 [(0,vB false),(1, .ptr 0 1 0),(2,vV jI),(3,vV jH),(4, .ptr 0 4 0),(5,vV jU),(6,vV jW),(7, .ptr 0 7 0),(8, .ptr 0 8 0),(9,vV wd),(10,vV jJ),(11,vV j9),(19,vV jt),(20,vV jl),(21,vV jt),(22,vV jV),(23,vV jI),(24,vV jH),(25,vV jQ),(26,vV wo),(27,vV jQ),(28,vV wv),(29,vV jU),(30,vV jW),(31,vV wc),(32,vV wI),(33, .lst true false 3 [[CV.int .i64 1]]),(34,vV wc),(35,vV wJ),(36,vV wH),(37,vV wd),(38,vV jZ),(39,vV wD),(40,vV jZ),(41,vV jJ),(42,vV j9)],[bx 207 [(1,some [.val jX, .val we, .val j5, .val j6, .val j7, .val jY]),(4,some [.val wp, .val wu, .val wm, .val wz, .val wy, .val wn]),(7,some [.val wg, .val wh, .val wb, .val wj, .val jy, .val jz]),(8,some [.val jC, .val jB, .val jA, .val jT, .val jO, .val jN])]],KK⟩ =
 optO (C lb n QaM [jJ]) fun oV =>
 optO (CV.asT oV) fun rj =>
 optO (rj[0]?) fun qm =>
 optO (CV.asT oV) fun le =>
 optO (le[1]?) fun oH =>
 optO (CV.asT oV) fun sn =>
 optO (sn[2]?) fun gH =>
 optO (CV.asA qm) fun kE =>
 chkO (kE.length == 6) (
 optO (kE[0]?) fun zu =>
 optO (kE[1]?) fun gR =>
 optO (kE[2]?) fun lC =>
 optO (kE[3]?) fun zb =>
 optO (kE[4]?) fun rl =>
 optO (kE[5]?) fun zR =>
 K' ⟨fr 207 [(0,vB false),(1, .ptr 0 1 0),(2,vV jI),(3,vV jH),(4, .ptr 0 4 0),(5,vV jU),(6,vV jW),(7, .ptr 0 7 0),(8, .ptr 0 8 0),(9,vV wd),(10,vV jJ),(11,vV j9),(12, .ptr 0 12 0),(13,vV oH),(14,vV gH),(19,vV jt),(20,vV jl),(21,vV jt),(22,vV jV),(23,vV jI),(24,vV jH),(25,vV jQ),(26,vV wo),(27,vV jQ),(28,vV wv),(29,vV jU),(30,vV jW),(31,vV wc),(32,vV wI),(33, .lst true false 3 [[CV.int .i64 1]]),(34,vV wc),(35,vV wJ),(36,vV wH),(37,vV wd),(38,vV jZ),(39,vV wD),(40,vV jZ),(41,vV jJ),(42,vV j9),(43,vV oV),(44,vV jJ),(45,vV oV),(46,vV qm),(47,vV oH),(48,vV gH)],[bx 207 [(1,some [.val jX, .val we, .val j5, .val j6, .val j7, .val jY]),(4,some [.val wp, .val wu, .val wm, .val wz, .val wy, .val wn]),(7,some [.val wg, .val wh, .val wb, .val wj, .val jy, .val jz]),(8,some [.val jC, .val jB, .val jA, .val jT, .val jO, .val jN]),(12,some [.val zu, .val gR, .val lC, .val zb, .val rl, .val zR])]],KK⟩) := by
 subst hK
 kernel_rfl
noncomputable def Qnr (lb n : Nat) (jI jH jU jW wd jJ j9 wF wC jt jl jV jQ wo wv wc wI wJ wH jZ wD wx wP jX we j5 j6 j7 jY wp wu wm wz wy wn wg wh wb wj jy jz jC jB jA jT jO jN wX wY wW wU w4 wZ : CV) : Option CV :=
 E0 lb n 0 994 (sub (B Qaj) [1,1,1,1,1,1]) (retK Tryz.prog (R Qaj) 0 (outK (Qad Tryz.prog Qaj))) ⟨fr 207 [(0,vB false),(1, .ptr 0 1 0),(2,vV jI),(3,vV jH),(4, .ptr 0 4 0),(5,vV jU),(6,vV jW),(7, .ptr 0 7 0),(8, .ptr 0 8 0),(9,vV wd),(10,vV jJ),(11,vV j9),(12, .ptr 0 12 0),(13,vV wF),(14,vV wC),(19,vV jt),(20,vV jl),(21,vV jt),(22,vV jV),(23,vV jI),(24,vV jH),(25,vV jQ),(26,vV wo),(27,vV jQ),(28,vV wv),(29,vV jU),(30,vV jW),(31,vV wc),(32,vV wI),(33, .lst true false 3 [[CV.int .i64 1]]),(34,vV wc),(35,vV wJ),(36,vV wH),(37,vV wd),(38,vV jZ),(39,vV wD),(40,vV jZ),(41,vV jJ),(42,vV j9),(43,vV wx),(44,vV jJ),(45,vV wx),(46,vV wP),(47,vV wF),(48,vV wC)],[bx 207 [(1,some [.val jX, .val we, .val j5, .val j6, .val j7, .val jY]),(4,some [.val wp, .val wu, .val wm, .val wz, .val wy, .val wn]),(7,some [.val wg, .val wh, .val wb, .val wj, .val jy, .val jz]),(8,some [.val jC, .val jB, .val jA, .val jT, .val jO, .val jN]),(12,some [.val wX, .val wY, .val wW, .val wU, .val w4, .val wZ])]],KK⟩
theorem Qtw (lb n : Nat) (K : Ex → St → Option CV) (K' : St → Option CV) (hK : K .normal = K') (jI jH jU jW wd jJ j9 wF wC jt jl jV jQ wo wv wc wI wJ wH jZ wD wx wP jX we j5 j6 j7 jY wp wu wm wz wy wn wg wh wb wj jy jz jC jB jA jT jO jN wX wY wW wU w4 wZ : CV) :
 E0 lb n 0 993 (sub (B Qaj) [1,1,1,1,1,1,0]) K ⟨fr 207 [(0,vB false),(1, .ptr 0 1 0),(2,vV jI),(3,vV jH),(4, .ptr 0 4 0),(5,vV jU),(6,vV jW),(7, .ptr 0 7 0),(8, .ptr 0 8 0),(9,vV wd),(10,vV jJ),(11,vV j9),(12, .ptr 0 12 0),(13,vV wF),(14,vV wC),(19,vV jt),(20,vV jl),(21,vV jt),(22,vV jV),(23,vV jI),(24,vV jH),(25,vV jQ),(26,vV wo),(27,vV jQ),(28,vV wv),(29,vV jU),(30,vV jW),(31,vV wc),(32,vV wI),(33, .lst true false 3 [[CV.int .i64 1]]),(34,vV wc),(35,vV wJ),(36,vV wH),(37,vV wd),(38,vV jZ),(39,vV wD),(40,vV jZ),(41,vV jJ),(42,vV j9),(43,vV wx),(44,vV jJ),(45,vV wx),(46,vV wP),(47,vV wF),(48,vV wC)],[bx 207 [(1,some [.val jX, .val we, .val j5, .val j6, .val j7, .val jY]),(4,some [.val wp, .val wu, .val wm, .val wz, .val wy, .val wn]),(7,some [.val wg, .val wh, .val wb, .val wj, .val jy, .val jz]),(8,some [.val jC, .val jB, .val jA, .val jT, .val jO, .val jN]),(12,some [.val wX, .val wY, .val wW, .val wU, .val w4, .val wZ])]],KK⟩ =
 optO (C lb n QaM [.str [115,101,103,10]]) fun oD =>
 optO (CV.asT oD) fun s4 =>
 optO (s4[0]?) fun pX =>
 optO (CV.asT oD) fun lq =>
 optO (lq[1]?) fun pM =>
 optO (CV.asT oD) fun ra =>
 optO (ra[2]?) fun gL =>
 optO (CV.asA pX) fun kN =>
 chkO (kN.length == 6) (
 optO (kN[0]?) fun nj =>
 optO (kN[1]?) fun mM =>
 optO (kN[2]?) fun nq =>
 optO (kN[3]?) fun mO =>
 optO (kN[4]?) fun nv =>
 optO (kN[5]?) fun mR =>
 K' ⟨fr 207 [(0,vB false),(1, .ptr 0 1 0),(2,vV jI),(3,vV jH),(4, .ptr 0 4 0),(5,vV jU),(6,vV jW),(7, .ptr 0 7 0),(8, .ptr 0 8 0),(9,vV wd),(10,vV jJ),(11,vV j9),(12, .ptr 0 12 0),(13,vV wF),(14,vV wC),(15, .ptr 0 15 0),(16,vV pM),(17,vV gL),(19,vV jt),(20,vV jl),(21,vV jt),(22,vV jV),(23,vV jI),(24,vV jH),(25,vV jQ),(26,vV wo),(27,vV jQ),(28,vV wv),(29,vV jU),(30,vV jW),(31,vV wc),(32,vV wI),(33, .lst true false 3 [[CV.int .i64 1]]),(34,vV wc),(35,vV wJ),(36,vV wH),(37,vV wd),(38,vV jZ),(39,vV wD),(40,vV jZ),(41,vV jJ),(42,vV j9),(43,vV wx),(44,vV jJ),(45,vV wx),(46,vV wP),(47,vV wF),(48,vV wC),(49,vV oD),(50,vV oD),(51,vV pX),(52,vV pM),(53,vV gL)],[bx 207 [(1,some [.val jX, .val we, .val j5, .val j6, .val j7, .val jY]),(4,some [.val wp, .val wu, .val wm, .val wz, .val wy, .val wn]),(7,some [.val wg, .val wh, .val wb, .val wj, .val jy, .val jz]),(8,some [.val jC, .val jB, .val jA, .val jT, .val jO, .val jN]),(12,some [.val wX, .val wY, .val wW, .val wU, .val w4, .val wZ]),(15,some [.val nj, .val mM, .val nq, .val mO, .val nv, .val mR])]],KK⟩) := by
 subst hK
 kernel_rfl
noncomputable def QnH (lb n : Nat) (jI jH jU jW wd jJ j9 wF wC wT wV jt jl jV jQ wo wv wc wI wJ wH jZ wD wx wP wQ yk jX we j5 j6 j7 jY wp wu wm wz wy wn wg wh wb wj jy jz jC jB jA jT jO jN wX wY wW wU w4 wZ yf yg ya yb yc yn : CV) : Option CV :=
 E0 lb n 0 993 (sub (B Qaj) [1,1,1,1,1,1,1]) (retK Tryz.prog (R Qaj) 0 (outK (Qad Tryz.prog Qaj))) ⟨fr 207 [(0,vB false),(1, .ptr 0 1 0),(2,vV jI),(3,vV jH),(4, .ptr 0 4 0),(5,vV jU),(6,vV jW),(7, .ptr 0 7 0),(8, .ptr 0 8 0),(9,vV wd),(10,vV jJ),(11,vV j9),(12, .ptr 0 12 0),(13,vV wF),(14,vV wC),(15, .ptr 0 15 0),(16,vV wT),(17,vV wV),(19,vV jt),(20,vV jl),(21,vV jt),(22,vV jV),(23,vV jI),(24,vV jH),(25,vV jQ),(26,vV wo),(27,vV jQ),(28,vV wv),(29,vV jU),(30,vV jW),(31,vV wc),(32,vV wI),(33, .lst true false 3 [[CV.int .i64 1]]),(34,vV wc),(35,vV wJ),(36,vV wH),(37,vV wd),(38,vV jZ),(39,vV wD),(40,vV jZ),(41,vV jJ),(42,vV j9),(43,vV wx),(44,vV jJ),(45,vV wx),(46,vV wP),(47,vV wF),(48,vV wC),(49,vV wQ),(50,vV wQ),(51,vV yk),(52,vV wT),(53,vV wV)],[bx 207 [(1,some [.val jX, .val we, .val j5, .val j6, .val j7, .val jY]),(4,some [.val wp, .val wu, .val wm, .val wz, .val wy, .val wn]),(7,some [.val wg, .val wh, .val wb, .val wj, .val jy, .val jz]),(8,some [.val jC, .val jB, .val jA, .val jT, .val jO, .val jN]),(12,some [.val wX, .val wY, .val wW, .val wU, .val w4, .val wZ]),(15,some [.val yf, .val yg, .val ya, .val yb, .val yc, .val yn])]],KK⟩
theorem QtP (lb n : Nat) (K : Ex → St → Option CV) (K' : St → Option CV) (hK : K .normal = K') (jI jH jU jW wd jJ j9 wF wC wT wV jt jl jV jQ wo wv wc wI wJ wH jZ wD wx wP wQ yk jX we j5 j6 j7 jY wp wu wm wz wy wn wg wh wb wj jy jz jC jB jA jT jO jN wX wY wW wU w4 wZ yf yg ya yb yc yn : CV) :
 E0 lb n 0 992 (sub (B Qaj) [1,1,1,1,1,1,1,0]) K ⟨fr 207 [(0,vB false),(1, .ptr 0 1 0),(2,vV jI),(3,vV jH),(4, .ptr 0 4 0),(5,vV jU),(6,vV jW),(7, .ptr 0 7 0),(8, .ptr 0 8 0),(9,vV wd),(10,vV jJ),(11,vV j9),(12, .ptr 0 12 0),(13,vV wF),(14,vV wC),(15, .ptr 0 15 0),(16,vV wT),(17,vV wV),(19,vV jt),(20,vV jl),(21,vV jt),(22,vV jV),(23,vV jI),(24,vV jH),(25,vV jQ),(26,vV wo),(27,vV jQ),(28,vV wv),(29,vV jU),(30,vV jW),(31,vV wc),(32,vV wI),(33, .lst true false 3 [[CV.int .i64 1]]),(34,vV wc),(35,vV wJ),(36,vV wH),(37,vV wd),(38,vV jZ),(39,vV wD),(40,vV jZ),(41,vV jJ),(42,vV j9),(43,vV wx),(44,vV jJ),(45,vV wx),(46,vV wP),(47,vV wF),(48,vV wC),(49,vV wQ),(50,vV wQ),(51,vV yk),(52,vV wT),(53,vV wV)],[bx 207 [(1,some [.val jX, .val we, .val j5, .val j6, .val j7, .val jY]),(4,some [.val wp, .val wu, .val wm, .val wz, .val wy, .val wn]),(7,some [.val wg, .val wh, .val wb, .val wj, .val jy, .val jz]),(8,some [.val jC, .val jB, .val jA, .val jT, .val jO, .val jN]),(12,some [.val wX, .val wY, .val wW, .val wU, .val w4, .val wZ]),(15,some [.val yf, .val yg, .val ya, .val yb, .val yc, .val yn])]],KK⟩ =
 optO (C lb n Qbw []) fun qc =>
 optO (CV.asA qc) fun kL =>
 chkO (kL.length == 6) (
 optO (kL[0]?) fun zF =>
 optO (kL[1]?) fun sP =>
 optO (kL[2]?) fun zz =>
 optO (kL[3]?) fun sF =>
 optO (kL[4]?) fun zB =>
 optO (kL[5]?) fun rm =>
 K' ⟨fr 207 [(0,vB false),(1, .ptr 0 1 0),(2,vV jI),(3,vV jH),(4, .ptr 0 4 0),(5,vV jU),(6,vV jW),(7, .ptr 0 7 0),(8, .ptr 0 8 0),(9,vV wd),(10,vV jJ),(11,vV j9),(12, .ptr 0 12 0),(13,vV wF),(14,vV wC),(15, .ptr 0 15 0),(16,vV wT),(17,vV wV),(18, .ptr 0 18 0),(19,vV jt),(20,vV jl),(21,vV jt),(22,vV jV),(23,vV jI),(24,vV jH),(25,vV jQ),(26,vV wo),(27,vV jQ),(28,vV wv),(29,vV jU),(30,vV jW),(31,vV wc),(32,vV wI),(33, .lst true false 3 [[CV.int .i64 1]]),(34,vV wc),(35,vV wJ),(36,vV wH),(37,vV wd),(38,vV jZ),(39,vV wD),(40,vV jZ),(41,vV jJ),(42,vV j9),(43,vV wx),(44,vV jJ),(45,vV wx),(46,vV wP),(47,vV wF),(48,vV wC),(49,vV wQ),(50,vV wQ),(51,vV yk),(52,vV wT),(53,vV wV),(54,vV qc)],[bx 207 [(1,some [.val jX, .val we, .val j5, .val j6, .val j7, .val jY]),(4,some [.val wp, .val wu, .val wm, .val wz, .val wy, .val wn]),(7,some [.val wg, .val wh, .val wb, .val wj, .val jy, .val jz]),(8,some [.val jC, .val jB, .val jA, .val jT, .val jO, .val jN]),(12,some [.val wX, .val wY, .val wW, .val wU, .val w4, .val wZ]),(15,some [.val yf, .val yg, .val ya, .val yb, .val yc, .val yn]),(18,some [.val zF, .val sP, .val zz, .val sF, .val zB, .val rm])]],KK⟩) := by
 subst hK
 kernel_rfl
noncomputable def QnA (lb n : Nat) (jI jH jU jW wd jJ j9 wF wC wT wV jt jl jV jQ wo wv wc wI wJ wH jZ wD wx wP wQ yk yR jX we j5 j6 j7 jY wp wu wm wz wy wn wg wh wb wj jy jz jC jB jA jT jO jN wX wY wW wU w4 wZ yf yg ya yb yc yn y4 yQ y9 kg va yY : CV) : Option CV :=
 E0 lb n 0 992 (sub (B Qaj) [1,1,1,1,1,1,1,1]) (retK Tryz.prog (R Qaj) 0 (outK (Qad Tryz.prog Qaj))) ⟨fr 207 [(0,vB false),(1, .ptr 0 1 0),(2,vV jI),(3,vV jH),(4, .ptr 0 4 0),(5,vV jU),(6,vV jW),(7, .ptr 0 7 0),(8, .ptr 0 8 0),(9,vV wd),(10,vV jJ),(11,vV j9),(12, .ptr 0 12 0),(13,vV wF),(14,vV wC),(15, .ptr 0 15 0),(16,vV wT),(17,vV wV),(18, .ptr 0 18 0),(19,vV jt),(20,vV jl),(21,vV jt),(22,vV jV),(23,vV jI),(24,vV jH),(25,vV jQ),(26,vV wo),(27,vV jQ),(28,vV wv),(29,vV jU),(30,vV jW),(31,vV wc),(32,vV wI),(33, .lst true false 3 [[CV.int .i64 1]]),(34,vV wc),(35,vV wJ),(36,vV wH),(37,vV wd),(38,vV jZ),(39,vV wD),(40,vV jZ),(41,vV jJ),(42,vV j9),(43,vV wx),(44,vV jJ),(45,vV wx),(46,vV wP),(47,vV wF),(48,vV wC),(49,vV wQ),(50,vV wQ),(51,vV yk),(52,vV wT),(53,vV wV),(54,vV yR)],[bx 207 [(1,some [.val jX, .val we, .val j5, .val j6, .val j7, .val jY]),(4,some [.val wp, .val wu, .val wm, .val wz, .val wy, .val wn]),(7,some [.val wg, .val wh, .val wb, .val wj, .val jy, .val jz]),(8,some [.val jC, .val jB, .val jA, .val jT, .val jO, .val jN]),(12,some [.val wX, .val wY, .val wW, .val wU, .val w4, .val wZ]),(15,some [.val yf, .val yg, .val ya, .val yb, .val yc, .val yn]),(18,some [.val y4, .val yQ, .val y9, .val kg, .val va, .val yY])]],KK⟩
theorem QtE (lb n : Nat) (K : Ex → St → Option CV) (K' : St → Option CV) (hK : K .normal = K') (jI jH jU jW wd jJ j9 wF wC wT wV jt jl jV jQ wo wv wc wI wJ wH jZ wD wx wP wQ yk yR jX we j5 j6 j7 jY wp wu wm wz wy wn wg wh wb wj jy jz jC jB jA jT jO jN wX wY wW wU w4 wZ yf yg ya yb yc yn y4 yQ y9 kg va yY : CV) :
 E0 lb n 0 991 (sub (B Qaj) [1,1,1,1,1,1,1,1,0]) K ⟨fr 207 [(0,vB false),(1, .ptr 0 1 0),(2,vV jI),(3,vV jH),(4, .ptr 0 4 0),(5,vV jU),(6,vV jW),(7, .ptr 0 7 0),(8, .ptr 0 8 0),(9,vV wd),(10,vV jJ),(11,vV j9),(12, .ptr 0 12 0),(13,vV wF),(14,vV wC),(15, .ptr 0 15 0),(16,vV wT),(17,vV wV),(18, .ptr 0 18 0),(19,vV jt),(20,vV jl),(21,vV jt),(22,vV jV),(23,vV jI),(24,vV jH),(25,vV jQ),(26,vV wo),(27,vV jQ),(28,vV wv),(29,vV jU),(30,vV jW),(31,vV wc),(32,vV wI),(33, .lst true false 3 [[CV.int .i64 1]]),(34,vV wc),(35,vV wJ),(36,vV wH),(37,vV wd),(38,vV jZ),(39,vV wD),(40,vV jZ),(41,vV jJ),(42,vV j9),(43,vV wx),(44,vV jJ),(45,vV wx),(46,vV wP),(47,vV wF),(48,vV wC),(49,vV wQ),(50,vV wQ),(51,vV yk),(52,vV wT),(53,vV wV),(54,vV yR)],[bx 207 [(1,some [.val jX, .val we, .val j5, .val j6, .val j7, .val jY]),(4,some [.val wp, .val wu, .val wm, .val wz, .val wy, .val wn]),(7,some [.val wg, .val wh, .val wb, .val wj, .val jy, .val jz]),(8,some [.val jC, .val jB, .val jA, .val jT, .val jO, .val jN]),(12,some [.val wX, .val wY, .val wW, .val wU, .val w4, .val wZ]),(15,some [.val yf, .val yg, .val ya, .val yb, .val yc, .val yn]),(18,some [.val y4, .val yQ, .val y9, .val kg, .val va, .val yY])]],KK⟩ =
 optO (CV.asL yQ) fun kZ =>
 chkO (kZ.2.all (·.length == 3)) (
 chkO (decide ((0 : Int) ≤ 1 ∧ 1 ≤ (kZ.2.length : Int))) (
 K' ⟨fr 207 [(0,vB false),(1, .ptr 0 1 0),(2,vV jI),(3,vV jH),(4, .ptr 0 4 0),(5,vV jU),(6,vV jW),(7, .ptr 0 7 0),(8, .ptr 0 8 0),(9,vV wd),(10,vV jJ),(11,vV j9),(12, .ptr 0 12 0),(13,vV wF),(14,vV wC),(15, .ptr 0 15 0),(16,vV wT),(17,vV wV),(18, .ptr 0 18 0),(19,vV jt),(20,vV jl),(21,vV jt),(22,vV jV),(23,vV jI),(24,vV jH),(25,vV jQ),(26,vV wo),(27,vV jQ),(28,vV wv),(29,vV jU),(30,vV jW),(31,vV wc),(32,vV wI),(33, .lst true false 3 [[CV.int .i64 1]]),(34,vV wc),(35,vV wJ),(36,vV wH),(37,vV wd),(38,vV jZ),(39,vV wD),(40,vV jZ),(41,vV jJ),(42,vV j9),(43,vV wx),(44,vV jJ),(45,vV wx),(46,vV wP),(47,vV wF),(48,vV wC),(49,vV wQ),(50,vV wQ),(51,vV yk),(52,vV wT),(53,vV wV),(54,vV yR),(55, .ptr 0 18 1),(56,vV yQ),(57, .val (.list kZ.1 ((kZ.2.take 1).drop 0))),(58, .ptr 0 18 3),(59, .ptr 0 18 1)],[bx 207 [(1,some [.val jX, .val we, .val j5, .val j6, .val j7, .val jY]),(4,some [.val wp, .val wu, .val wm, .val wz, .val wy, .val wn]),(7,some [.val wg, .val wh, .val wb, .val wj, .val jy, .val jz]),(8,some [.val jC, .val jB, .val jA, .val jT, .val jO, .val jN]),(12,some [.val wX, .val wY, .val wW, .val wU, .val w4, .val wZ]),(15,some [.val yf, .val yg, .val ya, .val yb, .val yc, .val yn]),(18,some [.val y4, .val (.list kZ.1 ((kZ.2.take 1).drop 0)), .val y9, .lst true true 39 [], .val va, .val yY])]],KK⟩)) := by
 subst hK
 kernel_rfl
noncomputable def QlY (lb n : Nat) (jI jH jU jW wd jJ j9 wF wC wT wV jt jl jV jQ wo wv wc wI wJ wH jZ wD wx wP wQ yk yR yQ : CV) (kb : Bool × LL) (jX we j5 j6 j7 jY wp wu wm wz wy wn wg wh wb wj jy jz jC jB jA jT jO jN wX wY wW wU w4 wZ yf yg ya yb yc yn y4 y9 va yY : CV) : Option CV :=
 E0 lb n 0 991 (sub (B Qaj) [1,1,1,1,1,1,1,1,1]) (retK Tryz.prog (R Qaj) 0 (outK (Qad Tryz.prog Qaj))) ⟨fr 207 [(0,vB false),(1, .ptr 0 1 0),(2,vV jI),(3,vV jH),(4, .ptr 0 4 0),(5,vV jU),(6,vV jW),(7, .ptr 0 7 0),(8, .ptr 0 8 0),(9,vV wd),(10,vV jJ),(11,vV j9),(12, .ptr 0 12 0),(13,vV wF),(14,vV wC),(15, .ptr 0 15 0),(16,vV wT),(17,vV wV),(18, .ptr 0 18 0),(19,vV jt),(20,vV jl),(21,vV jt),(22,vV jV),(23,vV jI),(24,vV jH),(25,vV jQ),(26,vV wo),(27,vV jQ),(28,vV wv),(29,vV jU),(30,vV jW),(31,vV wc),(32,vV wI),(33, .lst true false 3 [[CV.int .i64 1]]),(34,vV wc),(35,vV wJ),(36,vV wH),(37,vV wd),(38,vV jZ),(39,vV wD),(40,vV jZ),(41,vV jJ),(42,vV j9),(43,vV wx),(44,vV jJ),(45,vV wx),(46,vV wP),(47,vV wF),(48,vV wC),(49,vV wQ),(50,vV wQ),(51,vV yk),(52,vV wT),(53,vV wV),(54,vV yR),(55, .ptr 0 18 1),(56,vV yQ),(57, .val (.list kb.1 ((kb.2.take 1).drop 0))),(58, .ptr 0 18 3),(59, .ptr 0 18 1)],[bx 207 [(1,some [.val jX, .val we, .val j5, .val j6, .val j7, .val jY]),(4,some [.val wp, .val wu, .val wm, .val wz, .val wy, .val wn]),(7,some [.val wg, .val wh, .val wb, .val wj, .val jy, .val jz]),(8,some [.val jC, .val jB, .val jA, .val jT, .val jO, .val jN]),(12,some [.val wX, .val wY, .val wW, .val wU, .val w4, .val wZ]),(15,some [.val yf, .val yg, .val ya, .val yb, .val yc, .val yn]),(18,some [.val y4, .val (.list kb.1 ((kb.2.take 1).drop 0)), .val y9, .lst true true 39 [], .val va, .val yY])]],KK⟩
theorem QpY (lb n : Nat) (jI jH jU jW wd jJ j9 wF wC wT wV jt jl jV jQ wo wv wc wI wJ wH jZ wD wx wP wQ yk yR jX we j5 j6 j7 jY wp wu wm wz wy wn wg wh wb wj jy jz jC jB jA jT jO jN wX wY wW wU w4 wZ yf yg ya yb yc yn y4 yQ y9 kg va yY : CV) :
 QnA lb n jI jH jU jW wd jJ j9 wF wC wT wV jt jl jV jQ wo wv wc wI wJ wH jZ wD wx wP wQ yk yR jX we j5 j6 j7 jY wp wu wm wz wy wn wg wh wb wj jy jz jC jB jA jT jO jN wX wY wW wU w4 wZ yf yg ya yb yc yn y4 yQ y9 kg va yY =
 optO (CV.asL yQ) fun kb =>
 chkO (kb.2.all (·.length == 3)) (
 chkO (decide ((0 : Int) ≤ 1 ∧ 1 ≤ (kb.2.length : Int))) (
 QlY lb n jI jH jU jW wd jJ j9 wF wC wT wV jt jl jV jQ wo wv wc wI wJ wH jZ wD wx wP wQ yk yR yQ kb jX we j5 j6 j7 jY wp wu wm wz wy wn wg wh wb wj jy jz jC jB jA jT jO jN wX wY wW wU w4 wZ yf yg ya yb yc yn y4 y9 va yY)) :=
 (QbC lb n (m := 991) (b := (sub (B Qaj) [1,1,1,1,1,1,1,1,1])) (by kernel_rfl)).trans (QtE lb n _ _ (QbB (by kernel_rfl) (by kernel_rfl)) jI jH jU jW wd jJ j9 wF wC wT wV jt jl jV jQ wo wv wc wI wJ wH jZ wD wx wP wQ yk yR jX we j5 j6 j7 jY wp wu wm wz wy wn wg wh wb wj jy jz jC jB jA jT jO jN wX wY wW wU w4 wZ yf yg ya yb yc yn y4 yQ y9 kg va yY)
theorem QqC (lb n : Nat) (jI jH jU jW wd jJ j9 wF wC wT wV jt jl jV jQ wo wv wc wI wJ wH jZ wD wx wP wQ yk jX we j5 j6 j7 jY wp wu wm wz wy wn wg wh wb wj jy jz jC jB jA jT jO jN wX wY wW wU w4 wZ yf yg ya yb yc yn : CV) :
 QnH lb n jI jH jU jW wd jJ j9 wF wC wT wV jt jl jV jQ wo wv wc wI wJ wH jZ wD wx wP wQ yk jX we j5 j6 j7 jY wp wu wm wz wy wn wg wh wb wj jy jz jC jB jA jT jO jN wX wY wW wU w4 wZ yf yg ya yb yc yn =
 optO (C lb n Qbw []) fun yR =>
 optO (CV.asA yR) fun kF =>
 chkO (kF.length == 6) (
 optO (kF[0]?) fun y4 =>
 optO (kF[1]?) fun yQ =>
 optO (kF[2]?) fun y9 =>
 optO (kF[3]?) fun kg =>
 optO (kF[4]?) fun va =>
 optO (kF[5]?) fun yY =>
 QnA lb n jI jH jU jW wd jJ j9 wF wC wT wV jt jl jV jQ wo wv wc wI wJ wH jZ wD wx wP wQ yk yR jX we j5 j6 j7 jY wp wu wm wz wy wn wg wh wb wj jy jz jC jB jA jT jO jN wX wY wW wU w4 wZ yf yg ya yb yc yn y4 yQ y9 kg va yY) :=
 (QbC lb n (m := 992) (b := (sub (B Qaj) [1,1,1,1,1,1,1,1])) (by kernel_rfl)).trans (QtP lb n _ _ (QbB (by kernel_rfl) (by kernel_rfl)) jI jH jU jW wd jJ j9 wF wC wT wV jt jl jV jQ wo wv wc wI wJ wH jZ wD wx wP wQ yk jX we j5 j6 j7 jY wp wu wm wz wy wn wg wh wb wj jy jz jC jB jA jT jO jN wX wY wW wU w4 wZ yf yg ya yb yc yn)
theorem QpZ (lb n : Nat) (jI jH jU jW wd jJ j9 wF wC jt jl jV jQ wo wv wc wI wJ wH jZ wD wx wP jX we j5 j6 j7 jY wp wu wm wz wy wn wg wh wb wj jy jz jC jB jA jT jO jN wX wY wW wU w4 wZ : CV) :
 Qnr lb n jI jH jU jW wd jJ j9 wF wC jt jl jV jQ wo wv wc wI wJ wH jZ wD wx wP jX we j5 j6 j7 jY wp wu wm wz wy wn wg wh wb wj jy jz jC jB jA jT jO jN wX wY wW wU w4 wZ =
 optO (C lb n QaM [.str [115,101,103,10]]) fun wQ =>
 optO (CV.asT wQ) fun t164 =>
 optO (t164[0]?) fun yk =>
 optO (CV.asT wQ) fun lu =>
 optO (lu[1]?) fun wT =>
 optO (CV.asT wQ) fun t168 =>
 optO (t168[2]?) fun wV =>
 optO (CV.asA yk) fun kK =>
 chkO (kK.length == 6) (
 optO (kK[0]?) fun yf =>
 optO (kK[1]?) fun yg =>
 optO (kK[2]?) fun ya =>
 optO (kK[3]?) fun yb =>
 optO (kK[4]?) fun yc =>
 optO (kK[5]?) fun yn =>
 QnH lb n jI jH jU jW wd jJ j9 wF wC wT wV jt jl jV jQ wo wv wc wI wJ wH jZ wD wx wP wQ yk jX we j5 j6 j7 jY wp wu wm wz wy wn wg wh wb wj jy jz jC jB jA jT jO jN wX wY wW wU w4 wZ yf yg ya yb yc yn) :=
 (QbC lb n (m := 993) (b := (sub (B Qaj) [1,1,1,1,1,1,1])) (by kernel_rfl)).trans (Qtw lb n _ _ (QbB (by kernel_rfl) (by kernel_rfl)) jI jH jU jW wd jJ j9 wF wC jt jl jV jQ wo wv wc wI wJ wH jZ wD wx wP jX we j5 j6 j7 jY wp wu wm wz wy wn wg wh wb wj jy jz jC jB jA jT jO jN wX wY wW wU w4 wZ)
theorem Qqv (lb n : Nat) (jI jH jU jW wd jJ j9 jt jl jV jQ wo wv wc wI wJ wH jZ wD jX we j5 j6 j7 jY wp wu wm wz wy wn wg wh wb wj jy jz jC jB jA jT jO jN : CV) :
 Qnz lb n jI jH jU jW wd jJ j9 jt jl jV jQ wo wv wc wI wJ wH jZ wD jX we j5 j6 j7 jY wp wu wm wz wy wn wg wh wb wj jy jz jC jB jA jT jO jN =
 optO (C lb n QaM [jJ]) fun wx =>
 optO (CV.asT wx) fun sZ =>
 optO (sZ[0]?) fun wP =>
 optO (CV.asT wx) fun t138 =>
 optO (t138[1]?) fun wF =>
 optO (CV.asT wx) fun rd =>
 optO (rd[2]?) fun wC =>
 optO (CV.asA wP) fun kI =>
 chkO (kI.length == 6) (
 optO (kI[0]?) fun wX =>
 optO (kI[1]?) fun wY =>
 optO (kI[2]?) fun wW =>
 optO (kI[3]?) fun wU =>
 optO (kI[4]?) fun w4 =>
 optO (kI[5]?) fun wZ =>
 Qnr lb n jI jH jU jW wd jJ j9 wF wC jt jl jV jQ wo wv wc wI wJ wH jZ wD wx wP jX we j5 j6 j7 jY wp wu wm wz wy wn wg wh wb wj jy jz jC jB jA jT jO jN wX wY wW wU w4 wZ) :=
 (QbC lb n (m := 994) (b := (sub (B Qaj) [1,1,1,1,1,1])) (by kernel_rfl)).trans (Qtk lb n _ _ (QbB (by kernel_rfl) (by kernel_rfl)) jI jH jU jW wd jJ j9 jt jl jV jQ wo wv wc wI wJ wH jZ wD jX we j5 j6 j7 jY wp wu wm wz wy wn wg wh wb wj jy jz jC jB jA jT jO jN)
theorem Qp9 (lb n : Nat) (jI jH jU jW wd jt jl jV jQ wo wv wc wI wJ wH jX we j5 j6 j7 jY wp wu wm wz wy wn wg wh wb wj jy jz jC jB jA jT jO jN : CV) :
 Qnb lb n jI jH jU jW wd jt jl jV jQ wo wv wc wI wJ wH jX we j5 j6 j7 jY wp wu wm wz wy wn wg wh wb wj jy jz jC jB jA jT jO jN =
 optO (C lb n Qbw []) fun wD =>
 optO (C lb n Qan [wD]) fun jZ =>
 optO (CV.asT jZ) fun ri =>
 optO (ri[0]?) fun jJ =>
 optO (CV.asT jZ) fun t119 =>
 optO (t119[1]?) fun j9 =>
 Qnz lb n jI jH jU jW wd jJ j9 jt jl jV jQ wo wv wc wI wJ wH jZ wD jX we j5 j6 j7 jY wp wu wm wz wy wn wg wh wb wj jy jz jC jB jA jT jO jN :=
 (QbC lb n (m := 995) (b := (sub (B Qaj) [1,1,1,1,1])) (by kernel_rfl)).trans (Quj lb n _ _ (QbB (by kernel_rfl) (by kernel_rfl)) jI jH jU jW wd jt jl jV jQ wo wv wc wI wJ wH jX we j5 j6 j7 jY wp wu wm wz wy wn wg wh wb wj jy jz jC jB jA jT jO jN)
theorem Qp7 (lb n : Nat) (jI jH jU jW jt jl jV jQ wo wv jX we j5 j6 j7 jY wp wu wm wz wy wn : CV) :
 Qnv lb n jI jH jU jW jt jl jV jQ wo wv jX we j5 j6 j7 jY wp wu wm wz wy wn =
 optO (C lb n Qbw []) fun wI =>
 optO (C lb n QeD [wI, .list false [[CV.int .i64 1]], .str [88,89,90,57,57,57]]) fun wc =>
 optO (CV.asT wc) fun rP =>
 optO (rP[0]?) fun wJ =>
 optO (CV.asT wc) fun ui =>
 optO (ui[1]?) fun wH =>
 optO (CV.asT wc) fun rH =>
 optO (rH[2]?) fun wd =>
 optO (CV.asA wJ) fun yi =>
 chkO (yi.length == 6) (
 optO (yi[0]?) fun wg =>
 optO (yi[1]?) fun wh =>
 optO (yi[2]?) fun wb =>
 optO (yi[3]?) fun wj =>
 optO (yi[4]?) fun jy =>
 optO (yi[5]?) fun jz =>
 optO (CV.asA wH) fun kM =>
 chkO (kM.length == 6) (
 optO (kM[0]?) fun jC =>
 optO (kM[1]?) fun jB =>
 optO (kM[2]?) fun jA =>
 optO (kM[3]?) fun jT =>
 optO (kM[4]?) fun jO =>
 optO (kM[5]?) fun jN =>
 Qnb lb n jI jH jU jW wd jt jl jV jQ wo wv wc wI wJ wH jX we j5 j6 j7 jY wp wu wm wz wy wn wg wh wb wj jy jz jC jB jA jT jO jN)) :=
 (QbC lb n (m := 996) (b := (sub (B Qaj) [1,1,1,1])) (by kernel_rfl)).trans (Qtq lb n _ _ (QbB (by kernel_rfl) (by kernel_rfl)) jI jH jU jW jt jl jV jQ wo wv jX we j5 j6 j7 jY wp wu wm wz wy wn)
theorem QqA (lb n : Nat) (jI jH jt jl jV jX we j5 j6 j7 jY : CV) :
 Qnk lb n jI jH jt jl jV jX we j5 j6 j7 jY =
 optO (C lb n Qbw []) fun wo =>
 optO (C lb n QbW [wo, .int .i64 0, .int .i64 6]) fun jQ =>
 optO (CV.asT jQ) fun t51 =>
 optO (t51[0]?) fun wv =>
 optO (CV.asT jQ) fun t53 =>
 optO (t53[1]?) fun jU =>
 optO (CV.asT jQ) fun tO =>
 optO (tO[2]?) fun jW =>
 optO (CV.asA wv) fun oQ =>
 chkO (oQ.length == 6) (
 optO (oQ[0]?) fun wp =>
 optO (oQ[1]?) fun wu =>
 optO (oQ[2]?) fun wm =>
 optO (oQ[3]?) fun wz =>
 optO (oQ[4]?) fun wy =>
 optO (oQ[5]?) fun wn =>
 Qnv lb n jI jH jU jW jt jl jV jQ wo wv jX we j5 j6 j7 jY wp wu wm wz wy wn) :=
 (QbC lb n (m := 997) (b := (sub (B Qaj) [1,1,1])) (by kernel_rfl)).trans (QtC lb n _ _ (QbB (by kernel_rfl) (by kernel_rfl)) jI jH jt jl jV jX we j5 j6 j7 jY)
theorem QqD (lb n : Nat)  :
 Qnx lb n  =
 optO (C lb n Qbw []) fun jl =>
 optO (C lb n QbW [jl, .int .i64 1, .int .i64 8]) fun jt =>
 optO (CV.asT jt) fun t20 =>
 optO (t20[0]?) fun jV =>
 optO (CV.asT jt) fun rA =>
 optO (rA[1]?) fun jI =>
 optO (CV.asT jt) fun oB =>
 optO (oB[2]?) fun jH =>
 optO (CV.asA jV) fun vt =>
 chkO (vt.length == 6) (
 optO (vt[0]?) fun jX =>
 optO (vt[1]?) fun we =>
 optO (vt[2]?) fun j5 =>
 optO (vt[3]?) fun j6 =>
 optO (vt[4]?) fun j7 =>
 optO (vt[5]?) fun jY =>
 Qnk lb n jI jH jt jl jV jX we j5 j6 j7 jY) :=
 (QbC lb n (m := 998) (b := (sub (B Qaj) [1,1])) (by kernel_rfl)).trans (Qt5 lb n _ _ (QbB (by kernel_rfl) (by kernel_rfl)) )
theorem Qqb (lb n : Nat)  :
 l35_awake_J1 lb n  =
 Qnx lb n  :=
 (QbC lb n (m := 999) (b := (sub (B Qaj) [1])) (by kernel_rfl)).trans (QtI lb n _ _ (QbB (by kernel_rfl) (by kernel_rfl)) )
theorem Qtl (lb n : Nat)  :
 top lb n Qaj [] =
 l35_awake_J1 lb n  := by kernel_rfl
end Go.Proofs
