/- Equations of functions, printed by program. Conditions: none. -/
import Derived.Test.YtigmcfhmpcajlaaGreatDoorEv
namespace Go.Proofs
open Go.Am
set_option maxRecDepth 100000
set_option linter.unusedVariables false
theorem Qby (lb n:Nat) {m:Nat} {c a b:Code} {k:Ex→St→Option CV} {σ:St} (h:c= .seq a b):E0 lb n 0 (m+1) c k σ=E0 lb n 0 m a (seqK (E0 lb n 0 m) a b k) σ:=by
 subst h
 rfl
noncomputable def l35_awake_J1:=
 fun lb n=>
 E0 lb n 0 1000 (sub (B Qal) []) (retK Tryz.prog (R Qal) 0 (outK (Qae Tryz.prog Qal))) ⟨fr 207 [],[bx 207 []],KK⟩
theorem Qul (lb n:Nat) (K:Ex→St→Option CV)  :
 E0 lb n 0 999 (sub (B Qal) [0]) K ⟨fr 207 [],[bx 207 []],KK⟩=
 K .normal ⟨fr 207 [(0,vB false)],[bx 207 []],KK⟩:=by kernel_rfl
noncomputable def QnG (lb n:Nat)  :Option CV:=
 E0 lb n 0 999 (sub (B Qal) [1]) (retK Tryz.prog (R Qal) 0 (outK (Qae Tryz.prog Qal))) ⟨fr 207 [(0,vB false)],[bx 207 []],KK⟩
theorem Qtl (lb n:Nat) (K:Ex→St→Option CV)  :
 E0 lb n 0 998 (sub (B Qal) [1,0]) K ⟨fr 207 [(0,vB false)],[bx 207 []],KK⟩=
 optO (C lb n Qbu []) fun r1=>
 optO (C lb n Qav [r1, .int .i64 1, .int .i64 8]) fun r2=>
 optO (CV.asT r2) fun t3=>
 optO (t3[0]?) fun x4=>
 optO (CV.asT r2) fun t5=>
 optO (t5[1]?) fun x6=>
 optO (CV.asT r2) fun t7=>
 optO (t7[2]?) fun x9=>
 optO (CV.asA x4) fun oJ=>
 chkO (oJ.length==6) (
 optO (oJ[0]?) fun x11=>
 optO (oJ[1]?) fun sE=>
 optO (oJ[2]?) fun mg=>
 optO (oJ[3]?) fun wL=>
 optO (oJ[4]?) fun sy=>
 optO (oJ[5]?) fun x17=>
 K .normal ⟨fr 207 [(0,vB false),(1, .ptr 0 1 0),(2,vV x6),(3,vV x9),(19,vV r2),(20,vV r1),(21,vV r2),(22,vV x4),(23,vV x6),(24,vV x9)],[bx 207 [(1,some [.val x11, .val sE, .val mg, .val wL, .val sy, .val x17])]],KK⟩):=by kernel_rfl
noncomputable def Qm1 (lb n:Nat) (jJ jI jD jl j6 jV we j8 jY j7 j5:CV):Option CV:=
 E0 lb n 0 998 (sub (B Qal) [1,1]) (retK Tryz.prog (R Qal) 0 (outK (Qae Tryz.prog Qal))) ⟨fr 207 [(0,vB false),(1, .ptr 0 1 0),(2,vV jJ),(3,vV jI),(19,vV jD),(20,vV jl),(21,vV jD),(22,vV j6),(23,vV jJ),(24,vV jI)],[bx 207 [(1,some [.val jV, .val we, .val j8, .val jY, .val j7, .val j5])]],KK⟩
theorem Quh (lb n:Nat) (K:Ex→St→Option CV) (jJ jI jD jl j6 jV we j8 jY j7 j5:CV):
 E0 lb n 0 997 (sub (B Qal) [1,1,0]) K ⟨fr 207 [(0,vB false),(1, .ptr 0 1 0),(2,vV jJ),(3,vV jI),(19,vV jD),(20,vV jl),(21,vV jD),(22,vV j6),(23,vV jJ),(24,vV jI)],[bx 207 [(1,some [.val jV, .val we, .val j8, .val jY, .val j7, .val j5])]],KK⟩=
 optO (C lb n Qbu []) fun zI=>
 optO (C lb n Qav [zI, .int .i64 0, .int .i64 6]) fun gM=>
 optO (CV.asT gM) fun t36=>
 optO (t36[0]?) fun oK=>
 optO (CV.asT gM) fun t38=>
 optO (t38[1]?) fun sd=>
 optO (CV.asT gM) fun t40=>
 optO (t40[2]?) fun gu=>
 optO (CV.asA oK) fun gG=>
 chkO (gG.length==6) (
 optO (gG[0]?) fun x43=>
 optO (gG[1]?) fun nD=>
 optO (gG[2]?) fun gX=>
 optO (gG[3]?) fun kJ=>
 optO (gG[4]?) fun ma=>
 optO (gG[5]?) fun qP=>
 K .normal ⟨fr 207 [(0,vB false),(1, .ptr 0 1 0),(2,vV jJ),(3,vV jI),(4, .ptr 0 4 0),(5,vV sd),(6,vV gu),(19,vV jD),(20,vV jl),(21,vV jD),(22,vV j6),(23,vV jJ),(24,vV jI),(25,vV gM),(26,vV zI),(27,vV gM),(28,vV oK),(29,vV sd),(30,vV gu)],[bx 207 [(1,some [.val jV, .val we, .val j8, .val jY, .val j7, .val j5]),(4,some [.val x43, .val nD, .val gX, .val kJ, .val ma, .val qP])]],KK⟩):=by kernel_rfl
noncomputable def QmW (lb n:Nat) (jJ jI jU jW jD jl j6 jT ww wy jV we j8 jY j7 j5 wA wz wu wF wB wx:CV):Option CV:=
 E0 lb n 0 997 (sub (B Qal) [1,1,1]) (retK Tryz.prog (R Qal) 0 (outK (Qae Tryz.prog Qal))) ⟨fr 207 [(0,vB false),(1, .ptr 0 1 0),(2,vV jJ),(3,vV jI),(4, .ptr 0 4 0),(5,vV jU),(6,vV jW),(19,vV jD),(20,vV jl),(21,vV jD),(22,vV j6),(23,vV jJ),(24,vV jI),(25,vV jT),(26,vV ww),(27,vV jT),(28,vV wy),(29,vV jU),(30,vV jW)],[bx 207 [(1,some [.val jV, .val we, .val j8, .val jY, .val j7, .val j5]),(4,some [.val wA, .val wz, .val wu, .val wF, .val wB, .val wx])]],KK⟩
theorem Qtf (lb n:Nat) (K:Ex→St→Option CV) (jJ jI jU jW jD jl j6 jT ww wy jV we j8 jY j7 j5 wA wz wu wF wB wx:CV):
 E0 lb n 0 996 (sub (B Qal) [1,1,1,0]) K ⟨fr 207 [(0,vB false),(1, .ptr 0 1 0),(2,vV jJ),(3,vV jI),(4, .ptr 0 4 0),(5,vV jU),(6,vV jW),(19,vV jD),(20,vV jl),(21,vV jD),(22,vV j6),(23,vV jJ),(24,vV jI),(25,vV jT),(26,vV ww),(27,vV jT),(28,vV wy),(29,vV jU),(30,vV jW)],[bx 207 [(1,some [.val jV, .val we, .val j8, .val jY, .val j7, .val j5]),(4,some [.val wA, .val wz, .val wu, .val wF, .val wB, .val wx])]],KK⟩=
 optO (C lb n Qbu []) fun pX=>
 optO (C lb n QeD [pX, .list false [[CV.int .i64 1]], .str [88,89,90,57,57,57]]) fun mj=>
 optO (CV.asT mj) fun t67=>
 optO (t67[0]?) fun zH=>
 optO (CV.asT mj) fun qQ=>
 optO (qQ[1]?) fun wh=>
 optO (CV.asT mj) fun sb=>
 optO (sb[2]?) fun jX=>
 optO (CV.asA zH) fun gC=>
 chkO (gC.length==6) (
 optO (gC[0]?) fun qz=>
 optO (gC[1]?) fun pU=>
 optO (gC[2]?) fun me=>
 optO (gC[3]?) fun si=>
 optO (gC[4]?) fun oN=>
 optO (gC[5]?) fun qH=>
 optO (CV.asA wh) fun c80=>
 chkO (c80.length==6) (
 optO (c80[0]?) fun zE=>
 optO (c80[1]?) fun mz=>
 optO (c80[2]?) fun mA=>
 optO (c80[3]?) fun mr=>
 optO (c80[4]?) fun mC=>
 optO (c80[5]?) fun gp=>
 K .normal ⟨fr 207 [(0,vB false),(1, .ptr 0 1 0),(2,vV jJ),(3,vV jI),(4, .ptr 0 4 0),(5,vV jU),(6,vV jW),(7, .ptr 0 7 0),(8, .ptr 0 8 0),(9,vV jX),(19,vV jD),(20,vV jl),(21,vV jD),(22,vV j6),(23,vV jJ),(24,vV jI),(25,vV jT),(26,vV ww),(27,vV jT),(28,vV wy),(29,vV jU),(30,vV jW),(31,vV mj),(32,vV pX),(33, .lst true false 3 [[CV.int .i64 1]]),(34,vV mj),(35,vV zH),(36,vV wh),(37,vV jX)],[bx 207 [(1,some [.val jV, .val we, .val j8, .val jY, .val j7, .val j5]),(4,some [.val wA, .val wz, .val wu, .val wF, .val wB, .val wx]),(7,some [.val qz, .val pU, .val me, .val si, .val oN, .val qH]),(8,some [.val zE, .val mz, .val mA, .val mr, .val mC, .val gp])]],KK⟩)):=by kernel_rfl
noncomputable def Qnz (lb n:Nat) (jJ jI jU jW wl jD jl j6 jT ww wy wc wO wP wQ jV we j8 jY j7 j5 wA wz wu wF wB wx wp wk wg wn jy jz jC jA jB jS jR jE:CV):Option CV:=
 E0 lb n 0 996 (sub (B Qal) [1,1,1,1]) (retK Tryz.prog (R Qal) 0 (outK (Qae Tryz.prog Qal))) ⟨fr 207 [(0,vB false),(1, .ptr 0 1 0),(2,vV jJ),(3,vV jI),(4, .ptr 0 4 0),(5,vV jU),(6,vV jW),(7, .ptr 0 7 0),(8, .ptr 0 8 0),(9,vV wl),(19,vV jD),(20,vV jl),(21,vV jD),(22,vV j6),(23,vV jJ),(24,vV jI),(25,vV jT),(26,vV ww),(27,vV jT),(28,vV wy),(29,vV jU),(30,vV jW),(31,vV wc),(32,vV wO),(33, .lst true false 3 [[CV.int .i64 1]]),(34,vV wc),(35,vV wP),(36,vV wQ),(37,vV wl)],[bx 207 [(1,some [.val jV, .val we, .val j8, .val jY, .val j7, .val j5]),(4,some [.val wA, .val wz, .val wu, .val wF, .val wB, .val wx]),(7,some [.val wp, .val wk, .val wg, .val wn, .val jy, .val jz]),(8,some [.val jC, .val jA, .val jB, .val jS, .val jR, .val jE])]],KK⟩
theorem QtT (lb n:Nat) (K:Ex→St→Option CV) (jJ jI jU jW wl jD jl j6 jT ww wy wc wO wP wQ jV we j8 jY j7 j5 wA wz wu wF wB wx wp wk wg wn jy jz jC jA jB jS jR jE:CV):
 E0 lb n 0 995 (sub (B Qal) [1,1,1,1,0]) K ⟨fr 207 [(0,vB false),(1, .ptr 0 1 0),(2,vV jJ),(3,vV jI),(4, .ptr 0 4 0),(5,vV jU),(6,vV jW),(7, .ptr 0 7 0),(8, .ptr 0 8 0),(9,vV wl),(19,vV jD),(20,vV jl),(21,vV jD),(22,vV j6),(23,vV jJ),(24,vV jI),(25,vV jT),(26,vV ww),(27,vV jT),(28,vV wy),(29,vV jU),(30,vV jW),(31,vV wc),(32,vV wO),(33, .lst true false 3 [[CV.int .i64 1]]),(34,vV wc),(35,vV wP),(36,vV wQ),(37,vV wl)],[bx 207 [(1,some [.val jV, .val we, .val j8, .val jY, .val j7, .val j5]),(4,some [.val wA, .val wz, .val wu, .val wF, .val wB, .val wx]),(7,some [.val wp, .val wk, .val wg, .val wn, .val jy, .val jz]),(8,some [.val jC, .val jA, .val jB, .val jS, .val jR, .val jE])]],KK⟩=
 optO (C lb n Qbu []) fun qF=>
 optO (C lb n Qfd [qF]) fun yL=>
 optO (CV.asT yL) fun uJ=>
 optO (uJ[0]?) fun sM=>
 optO (CV.asT yL) fun lT=>
 optO (lT[1]?) fun sS=>
 K .normal ⟨fr 207 [(0,vB false),(1, .ptr 0 1 0),(2,vV jJ),(3,vV jI),(4, .ptr 0 4 0),(5,vV jU),(6,vV jW),(7, .ptr 0 7 0),(8, .ptr 0 8 0),(9,vV wl),(10,vV sM),(11,vV sS),(19,vV jD),(20,vV jl),(21,vV jD),(22,vV j6),(23,vV jJ),(24,vV jI),(25,vV jT),(26,vV ww),(27,vV jT),(28,vV wy),(29,vV jU),(30,vV jW),(31,vV wc),(32,vV wO),(33, .lst true false 3 [[CV.int .i64 1]]),(34,vV wc),(35,vV wP),(36,vV wQ),(37,vV wl),(38,vV yL),(39,vV qF),(40,vV yL),(41,vV sM),(42,vV sS)],[bx 207 [(1,some [.val jV, .val we, .val j8, .val jY, .val j7, .val j5]),(4,some [.val wA, .val wz, .val wu, .val wF, .val wB, .val wx]),(7,some [.val wp, .val wk, .val wg, .val wn, .val jy, .val jz]),(8,some [.val jC, .val jA, .val jB, .val jS, .val jR, .val jE])]],KK⟩:=by kernel_rfl
noncomputable def Qny (lb n:Nat) (jJ jI jU jW wl jK wb jD jl j6 jT ww wy wc wO wP wQ jZ wI jV we j8 jY j7 j5 wA wz wu wF wB wx wp wk wg wn jy jz jC jA jB jS jR jE:CV):Option CV:=
 E0 lb n 0 995 (sub (B Qal) [1,1,1,1,1]) (retK Tryz.prog (R Qal) 0 (outK (Qae Tryz.prog Qal))) ⟨fr 207 [(0,vB false),(1, .ptr 0 1 0),(2,vV jJ),(3,vV jI),(4, .ptr 0 4 0),(5,vV jU),(6,vV jW),(7, .ptr 0 7 0),(8, .ptr 0 8 0),(9,vV wl),(10,vV jK),(11,vV wb),(19,vV jD),(20,vV jl),(21,vV jD),(22,vV j6),(23,vV jJ),(24,vV jI),(25,vV jT),(26,vV ww),(27,vV jT),(28,vV wy),(29,vV jU),(30,vV jW),(31,vV wc),(32,vV wO),(33, .lst true false 3 [[CV.int .i64 1]]),(34,vV wc),(35,vV wP),(36,vV wQ),(37,vV wl),(38,vV jZ),(39,vV wI),(40,vV jZ),(41,vV jK),(42,vV wb)],[bx 207 [(1,some [.val jV, .val we, .val j8, .val jY, .val j7, .val j5]),(4,some [.val wA, .val wz, .val wu, .val wF, .val wB, .val wx]),(7,some [.val wp, .val wk, .val wg, .val wn, .val jy, .val jz]),(8,some [.val jC, .val jA, .val jB, .val jS, .val jR, .val jE])]],KK⟩
theorem Qte (lb n:Nat) (K:Ex→St→Option CV) (jJ jI jU jW wl jK wb jD jl j6 jT ww wy wc wO wP wQ jZ wI jV we j8 jY j7 j5 wA wz wu wF wB wx wp wk wg wn jy jz jC jA jB jS jR jE:CV):
 E0 lb n 0 994 (sub (B Qal) [1,1,1,1,1,0]) K ⟨fr 207 [(0,vB false),(1, .ptr 0 1 0),(2,vV jJ),(3,vV jI),(4, .ptr 0 4 0),(5,vV jU),(6,vV jW),(7, .ptr 0 7 0),(8, .ptr 0 8 0),(9,vV wl),(10,vV jK),(11,vV wb),(19,vV jD),(20,vV jl),(21,vV jD),(22,vV j6),(23,vV jJ),(24,vV jI),(25,vV jT),(26,vV ww),(27,vV jT),(28,vV wy),(29,vV jU),(30,vV jW),(31,vV wc),(32,vV wO),(33, .lst true false 3 [[CV.int .i64 1]]),(34,vV wc),(35,vV wP),(36,vV wQ),(37,vV wl),(38,vV jZ),(39,vV wI),(40,vV jZ),(41,vV jK),(42,vV wb)],[bx 207 [(1,some [.val jV, .val we, .val j8, .val jY, .val j7, .val j5]),(4,some [.val wA, .val wz, .val wu, .val wF, .val wB, .val wx]),(7,some [.val wp, .val wk, .val wg, .val wn, .val jy, .val jz]),(8,some [.val jC, .val jA, .val jB, .val jS, .val jR, .val jE])]],KK⟩=
 optO (C lb n QaR [jK]) fun mo=>
 optO (CV.asT mo) fun rI=>
 optO (rI[0]?) fun sL=>
 optO (CV.asT mo) fun tV=>
 optO (tV[1]?) fun nb=>
 optO (CV.asT mo) fun tF=>
 optO (tF[2]?) fun sB=>
 optO (CV.asA sL) fun ov=>
 chkO (ov.length==6) (
 optO (ov[0]?) fun lj=>
 optO (ov[1]?) fun mJ=>
 optO (ov[2]?) fun rL=>
 optO (ov[3]?) fun rJ=>
 optO (ov[4]?) fun u6=>
 optO (ov[5]?) fun un=>
 K .normal ⟨fr 207 [(0,vB false),(1, .ptr 0 1 0),(2,vV jJ),(3,vV jI),(4, .ptr 0 4 0),(5,vV jU),(6,vV jW),(7, .ptr 0 7 0),(8, .ptr 0 8 0),(9,vV wl),(10,vV jK),(11,vV wb),(12, .ptr 0 12 0),(13,vV nb),(14,vV sB),(19,vV jD),(20,vV jl),(21,vV jD),(22,vV j6),(23,vV jJ),(24,vV jI),(25,vV jT),(26,vV ww),(27,vV jT),(28,vV wy),(29,vV jU),(30,vV jW),(31,vV wc),(32,vV wO),(33, .lst true false 3 [[CV.int .i64 1]]),(34,vV wc),(35,vV wP),(36,vV wQ),(37,vV wl),(38,vV jZ),(39,vV wI),(40,vV jZ),(41,vV jK),(42,vV wb),(43,vV mo),(44,vV jK),(45,vV mo),(46,vV sL),(47,vV nb),(48,vV sB)],[bx 207 [(1,some [.val jV, .val we, .val j8, .val jY, .val j7, .val j5]),(4,some [.val wA, .val wz, .val wu, .val wF, .val wB, .val wx]),(7,some [.val wp, .val wk, .val wg, .val wn, .val jy, .val jz]),(8,some [.val jC, .val jA, .val jB, .val jS, .val jR, .val jE]),(12,some [.val lj, .val mJ, .val rL, .val rJ, .val u6, .val un])]],KK⟩):=by kernel_rfl
noncomputable def Qnx (lb n:Nat) (jJ jI jU jW wl jK wb wK wJ jD jl j6 jT ww wy wc wO wP wQ jZ wI wD wY jV we j8 jY j7 j5 wA wz wu wF wB wx wp wk wg wn jy jz jC jA jB jS jR jE w9 yb ya yc w8 w7:CV):Option CV:=
 E0 lb n 0 994 (sub (B Qal) [1,1,1,1,1,1]) (retK Tryz.prog (R Qal) 0 (outK (Qae Tryz.prog Qal))) ⟨fr 207 [(0,vB false),(1, .ptr 0 1 0),(2,vV jJ),(3,vV jI),(4, .ptr 0 4 0),(5,vV jU),(6,vV jW),(7, .ptr 0 7 0),(8, .ptr 0 8 0),(9,vV wl),(10,vV jK),(11,vV wb),(12, .ptr 0 12 0),(13,vV wK),(14,vV wJ),(19,vV jD),(20,vV jl),(21,vV jD),(22,vV j6),(23,vV jJ),(24,vV jI),(25,vV jT),(26,vV ww),(27,vV jT),(28,vV wy),(29,vV jU),(30,vV jW),(31,vV wc),(32,vV wO),(33, .lst true false 3 [[CV.int .i64 1]]),(34,vV wc),(35,vV wP),(36,vV wQ),(37,vV wl),(38,vV jZ),(39,vV wI),(40,vV jZ),(41,vV jK),(42,vV wb),(43,vV wD),(44,vV jK),(45,vV wD),(46,vV wY),(47,vV wK),(48,vV wJ)],[bx 207 [(1,some [.val jV, .val we, .val j8, .val jY, .val j7, .val j5]),(4,some [.val wA, .val wz, .val wu, .val wF, .val wB, .val wx]),(7,some [.val wp, .val wk, .val wg, .val wn, .val jy, .val jz]),(8,some [.val jC, .val jA, .val jB, .val jS, .val jR, .val jE]),(12,some [.val w9, .val yb, .val ya, .val yc, .val w8, .val w7])]],KK⟩
theorem Qtn (lb n:Nat) (K:Ex→St→Option CV) (jJ jI jU jW wl jK wb wK wJ jD jl j6 jT ww wy wc wO wP wQ jZ wI wD wY jV we j8 jY j7 j5 wA wz wu wF wB wx wp wk wg wn jy jz jC jA jB jS jR jE w9 yb ya yc w8 w7:CV):
 E0 lb n 0 993 (sub (B Qal) [1,1,1,1,1,1,0]) K ⟨fr 207 [(0,vB false),(1, .ptr 0 1 0),(2,vV jJ),(3,vV jI),(4, .ptr 0 4 0),(5,vV jU),(6,vV jW),(7, .ptr 0 7 0),(8, .ptr 0 8 0),(9,vV wl),(10,vV jK),(11,vV wb),(12, .ptr 0 12 0),(13,vV wK),(14,vV wJ),(19,vV jD),(20,vV jl),(21,vV jD),(22,vV j6),(23,vV jJ),(24,vV jI),(25,vV jT),(26,vV ww),(27,vV jT),(28,vV wy),(29,vV jU),(30,vV jW),(31,vV wc),(32,vV wO),(33, .lst true false 3 [[CV.int .i64 1]]),(34,vV wc),(35,vV wP),(36,vV wQ),(37,vV wl),(38,vV jZ),(39,vV wI),(40,vV jZ),(41,vV jK),(42,vV wb),(43,vV wD),(44,vV jK),(45,vV wD),(46,vV wY),(47,vV wK),(48,vV wJ)],[bx 207 [(1,some [.val jV, .val we, .val j8, .val jY, .val j7, .val j5]),(4,some [.val wA, .val wz, .val wu, .val wF, .val wB, .val wx]),(7,some [.val wp, .val wk, .val wg, .val wn, .val jy, .val jz]),(8,some [.val jC, .val jA, .val jB, .val jS, .val jR, .val jE]),(12,some [.val w9, .val yb, .val ya, .val yc, .val w8, .val w7])]],KK⟩=
 optO (C lb n QaR [.str [115,101,103,10]]) fun mb=>
 optO (CV.asT mb) fun lQ=>
 optO (lQ[0]?) fun sw=>
 optO (CV.asT mb) fun jae=>
 optO (jae[1]?) fun qT=>
 optO (CV.asT mb) fun nH=>
 optO (nH[2]?) fun ow=>
 optO (CV.asA sw) fun oh=>
 chkO (oh.length==6) (
 optO (oh[0]?) fun mc=>
 optO (oh[1]?) fun pd=>
 optO (oh[2]?) fun pt=>
 optO (oh[3]?) fun n4=>
 optO (oh[4]?) fun mh=>
 optO (oh[5]?) fun pq=>
 K .normal ⟨fr 207 [(0,vB false),(1, .ptr 0 1 0),(2,vV jJ),(3,vV jI),(4, .ptr 0 4 0),(5,vV jU),(6,vV jW),(7, .ptr 0 7 0),(8, .ptr 0 8 0),(9,vV wl),(10,vV jK),(11,vV wb),(12, .ptr 0 12 0),(13,vV wK),(14,vV wJ),(15, .ptr 0 15 0),(16,vV qT),(17,vV ow),(19,vV jD),(20,vV jl),(21,vV jD),(22,vV j6),(23,vV jJ),(24,vV jI),(25,vV jT),(26,vV ww),(27,vV jT),(28,vV wy),(29,vV jU),(30,vV jW),(31,vV wc),(32,vV wO),(33, .lst true false 3 [[CV.int .i64 1]]),(34,vV wc),(35,vV wP),(36,vV wQ),(37,vV wl),(38,vV jZ),(39,vV wI),(40,vV jZ),(41,vV jK),(42,vV wb),(43,vV wD),(44,vV jK),(45,vV wD),(46,vV wY),(47,vV wK),(48,vV wJ),(49,vV mb),(50,vV mb),(51,vV sw),(52,vV qT),(53,vV ow)],[bx 207 [(1,some [.val jV, .val we, .val j8, .val jY, .val j7, .val j5]),(4,some [.val wA, .val wz, .val wu, .val wF, .val wB, .val wx]),(7,some [.val wp, .val wk, .val wg, .val wn, .val jy, .val jz]),(8,some [.val jC, .val jA, .val jB, .val jS, .val jR, .val jE]),(12,some [.val w9, .val yb, .val ya, .val yc, .val w8, .val w7]),(15,some [.val mc, .val pd, .val pt, .val n4, .val mh, .val pq])]],KK⟩):=by kernel_rfl
noncomputable def QnI (lb n:Nat) (jJ jI jU jW wl jK wb wK wJ wU wT jD jl j6 jT ww wy wc wO wP wQ jZ wI wD wY w4 yo jV we j8 jY j7 j5 wA wz wu wF wB wx wp wk wg wn jy jz jC jA jB jS jR jE w9 yb ya yc w8 w7 yl ym yu yv yw yF:CV):Option CV:=
 E0 lb n 0 993 (sub (B Qal) [1,1,1,1,1,1,1]) (retK Tryz.prog (R Qal) 0 (outK (Qae Tryz.prog Qal))) ⟨fr 207 [(0,vB false),(1, .ptr 0 1 0),(2,vV jJ),(3,vV jI),(4, .ptr 0 4 0),(5,vV jU),(6,vV jW),(7, .ptr 0 7 0),(8, .ptr 0 8 0),(9,vV wl),(10,vV jK),(11,vV wb),(12, .ptr 0 12 0),(13,vV wK),(14,vV wJ),(15, .ptr 0 15 0),(16,vV wU),(17,vV wT),(19,vV jD),(20,vV jl),(21,vV jD),(22,vV j6),(23,vV jJ),(24,vV jI),(25,vV jT),(26,vV ww),(27,vV jT),(28,vV wy),(29,vV jU),(30,vV jW),(31,vV wc),(32,vV wO),(33, .lst true false 3 [[CV.int .i64 1]]),(34,vV wc),(35,vV wP),(36,vV wQ),(37,vV wl),(38,vV jZ),(39,vV wI),(40,vV jZ),(41,vV jK),(42,vV wb),(43,vV wD),(44,vV jK),(45,vV wD),(46,vV wY),(47,vV wK),(48,vV wJ),(49,vV w4),(50,vV w4),(51,vV yo),(52,vV wU),(53,vV wT)],[bx 207 [(1,some [.val jV, .val we, .val j8, .val jY, .val j7, .val j5]),(4,some [.val wA, .val wz, .val wu, .val wF, .val wB, .val wx]),(7,some [.val wp, .val wk, .val wg, .val wn, .val jy, .val jz]),(8,some [.val jC, .val jA, .val jB, .val jS, .val jR, .val jE]),(12,some [.val w9, .val yb, .val ya, .val yc, .val w8, .val w7]),(15,some [.val yl, .val ym, .val yu, .val yv, .val yw, .val yF])]],KK⟩
theorem Qtv (lb n:Nat) (K:Ex→St→Option CV) (jJ jI jU jW wl jK wb wK wJ wU wT jD jl j6 jT ww wy wc wO wP wQ jZ wI wD wY w4 yo jV we j8 jY j7 j5 wA wz wu wF wB wx wp wk wg wn jy jz jC jA jB jS jR jE w9 yb ya yc w8 w7 yl ym yu yv yw yF:CV):
 E0 lb n 0 992 (sub (B Qal) [1,1,1,1,1,1,1,0]) K ⟨fr 207 [(0,vB false),(1, .ptr 0 1 0),(2,vV jJ),(3,vV jI),(4, .ptr 0 4 0),(5,vV jU),(6,vV jW),(7, .ptr 0 7 0),(8, .ptr 0 8 0),(9,vV wl),(10,vV jK),(11,vV wb),(12, .ptr 0 12 0),(13,vV wK),(14,vV wJ),(15, .ptr 0 15 0),(16,vV wU),(17,vV wT),(19,vV jD),(20,vV jl),(21,vV jD),(22,vV j6),(23,vV jJ),(24,vV jI),(25,vV jT),(26,vV ww),(27,vV jT),(28,vV wy),(29,vV jU),(30,vV jW),(31,vV wc),(32,vV wO),(33, .lst true false 3 [[CV.int .i64 1]]),(34,vV wc),(35,vV wP),(36,vV wQ),(37,vV wl),(38,vV jZ),(39,vV wI),(40,vV jZ),(41,vV jK),(42,vV wb),(43,vV wD),(44,vV jK),(45,vV wD),(46,vV wY),(47,vV wK),(48,vV wJ),(49,vV w4),(50,vV w4),(51,vV yo),(52,vV wU),(53,vV wT)],[bx 207 [(1,some [.val jV, .val we, .val j8, .val jY, .val j7, .val j5]),(4,some [.val wA, .val wz, .val wu, .val wF, .val wB, .val wx]),(7,some [.val wp, .val wk, .val wg, .val wn, .val jy, .val jz]),(8,some [.val jC, .val jA, .val jB, .val jS, .val jR, .val jE]),(12,some [.val w9, .val yb, .val ya, .val yc, .val w8, .val w7]),(15,some [.val yl, .val ym, .val yu, .val yv, .val yw, .val yF])]],KK⟩=
 optO (C lb n Qbu []) fun qo=>
 optO (CV.asA qo) fun oH=>
 chkO (oH.length==6) (
 optO (oH[0]?) fun jao=>
 optO (oH[1]?) fun nP=>
 optO (oH[2]?) fun tx=>
 optO (oH[3]?) fun tW=>
 optO (oH[4]?) fun mO=>
 optO (oH[5]?) fun uW=>
 K .normal ⟨fr 207 [(0,vB false),(1, .ptr 0 1 0),(2,vV jJ),(3,vV jI),(4, .ptr 0 4 0),(5,vV jU),(6,vV jW),(7, .ptr 0 7 0),(8, .ptr 0 8 0),(9,vV wl),(10,vV jK),(11,vV wb),(12, .ptr 0 12 0),(13,vV wK),(14,vV wJ),(15, .ptr 0 15 0),(16,vV wU),(17,vV wT),(18, .ptr 0 18 0),(19,vV jD),(20,vV jl),(21,vV jD),(22,vV j6),(23,vV jJ),(24,vV jI),(25,vV jT),(26,vV ww),(27,vV jT),(28,vV wy),(29,vV jU),(30,vV jW),(31,vV wc),(32,vV wO),(33, .lst true false 3 [[CV.int .i64 1]]),(34,vV wc),(35,vV wP),(36,vV wQ),(37,vV wl),(38,vV jZ),(39,vV wI),(40,vV jZ),(41,vV jK),(42,vV wb),(43,vV wD),(44,vV jK),(45,vV wD),(46,vV wY),(47,vV wK),(48,vV wJ),(49,vV w4),(50,vV w4),(51,vV yo),(52,vV wU),(53,vV wT),(54,vV qo)],[bx 207 [(1,some [.val jV, .val we, .val j8, .val jY, .val j7, .val j5]),(4,some [.val wA, .val wz, .val wu, .val wF, .val wB, .val wx]),(7,some [.val wp, .val wk, .val wg, .val wn, .val jy, .val jz]),(8,some [.val jC, .val jA, .val jB, .val jS, .val jR, .val jE]),(12,some [.val w9, .val yb, .val ya, .val yc, .val w8, .val w7]),(15,some [.val yl, .val ym, .val yu, .val yv, .val yw, .val yF]),(18,some [.val jao, .val nP, .val tx, .val tW, .val mO, .val uW])]],KK⟩):=by kernel_rfl
noncomputable def QmZ (lb n:Nat) (jJ jI jU jW wl jK wb wK wJ wU wT jD jl j6 jT ww wy wc wO wP wQ jZ wI wD wY w4 yo vi jV we j8 jY j7 j5 wA wz wu wF wB wx wp wk wg wn jy jz jC jA jB jS jR jE w9 yb ya yc w8 w7 yl ym yu yv yw yF vK wZ vA yq vD yj:CV):Option CV:=
 E0 lb n 0 992 (sub (B Qal) [1,1,1,1,1,1,1,1]) (retK Tryz.prog (R Qal) 0 (outK (Qae Tryz.prog Qal))) ⟨fr 207 [(0,vB false),(1, .ptr 0 1 0),(2,vV jJ),(3,vV jI),(4, .ptr 0 4 0),(5,vV jU),(6,vV jW),(7, .ptr 0 7 0),(8, .ptr 0 8 0),(9,vV wl),(10,vV jK),(11,vV wb),(12, .ptr 0 12 0),(13,vV wK),(14,vV wJ),(15, .ptr 0 15 0),(16,vV wU),(17,vV wT),(18, .ptr 0 18 0),(19,vV jD),(20,vV jl),(21,vV jD),(22,vV j6),(23,vV jJ),(24,vV jI),(25,vV jT),(26,vV ww),(27,vV jT),(28,vV wy),(29,vV jU),(30,vV jW),(31,vV wc),(32,vV wO),(33, .lst true false 3 [[CV.int .i64 1]]),(34,vV wc),(35,vV wP),(36,vV wQ),(37,vV wl),(38,vV jZ),(39,vV wI),(40,vV jZ),(41,vV jK),(42,vV wb),(43,vV wD),(44,vV jK),(45,vV wD),(46,vV wY),(47,vV wK),(48,vV wJ),(49,vV w4),(50,vV w4),(51,vV yo),(52,vV wU),(53,vV wT),(54,vV vi)],[bx 207 [(1,some [.val jV, .val we, .val j8, .val jY, .val j7, .val j5]),(4,some [.val wA, .val wz, .val wu, .val wF, .val wB, .val wx]),(7,some [.val wp, .val wk, .val wg, .val wn, .val jy, .val jz]),(8,some [.val jC, .val jA, .val jB, .val jS, .val jR, .val jE]),(12,some [.val w9, .val yb, .val ya, .val yc, .val w8, .val w7]),(15,some [.val yl, .val ym, .val yu, .val yv, .val yw, .val yF]),(18,some [.val vK, .val wZ, .val vA, .val yq, .val vD, .val yj])]],KK⟩
theorem QtI (lb n:Nat) (K:Ex→St→Option CV) (jJ jI jU jW wl jK wb wK wJ wU wT jD jl j6 jT ww wy wc wO wP wQ jZ wI wD wY w4 yo vi jV we j8 jY j7 j5 wA wz wu wF wB wx wp wk wg wn jy jz jC jA jB jS jR jE w9 yb ya yc w8 w7 yl ym yu yv yw yF vK wZ vA yq vD yj:CV):
 E0 lb n 0 991 (sub (B Qal) [1,1,1,1,1,1,1,1,0]) K ⟨fr 207 [(0,vB false),(1, .ptr 0 1 0),(2,vV jJ),(3,vV jI),(4, .ptr 0 4 0),(5,vV jU),(6,vV jW),(7, .ptr 0 7 0),(8, .ptr 0 8 0),(9,vV wl),(10,vV jK),(11,vV wb),(12, .ptr 0 12 0),(13,vV wK),(14,vV wJ),(15, .ptr 0 15 0),(16,vV wU),(17,vV wT),(18, .ptr 0 18 0),(19,vV jD),(20,vV jl),(21,vV jD),(22,vV j6),(23,vV jJ),(24,vV jI),(25,vV jT),(26,vV ww),(27,vV jT),(28,vV wy),(29,vV jU),(30,vV jW),(31,vV wc),(32,vV wO),(33, .lst true false 3 [[CV.int .i64 1]]),(34,vV wc),(35,vV wP),(36,vV wQ),(37,vV wl),(38,vV jZ),(39,vV wI),(40,vV jZ),(41,vV jK),(42,vV wb),(43,vV wD),(44,vV jK),(45,vV wD),(46,vV wY),(47,vV wK),(48,vV wJ),(49,vV w4),(50,vV w4),(51,vV yo),(52,vV wU),(53,vV wT),(54,vV vi)],[bx 207 [(1,some [.val jV, .val we, .val j8, .val jY, .val j7, .val j5]),(4,some [.val wA, .val wz, .val wu, .val wF, .val wB, .val wx]),(7,some [.val wp, .val wk, .val wg, .val wn, .val jy, .val jz]),(8,some [.val jC, .val jA, .val jB, .val jS, .val jR, .val jE]),(12,some [.val w9, .val yb, .val ya, .val yc, .val w8, .val w7]),(15,some [.val yl, .val ym, .val yu, .val yv, .val yw, .val yF]),(18,some [.val vK, .val wZ, .val vA, .val yq, .val vD, .val yj])]],KK⟩=
 optO (CV.asL wZ) fun oR=>
 chkO (oR.2.all (·.length==3)) (
 chkO (decide ((0:Int)≤1∧1≤(oR.2.length:Int))) (
 K .normal ⟨fr 207 [(0,vB false),(1, .ptr 0 1 0),(2,vV jJ),(3,vV jI),(4, .ptr 0 4 0),(5,vV jU),(6,vV jW),(7, .ptr 0 7 0),(8, .ptr 0 8 0),(9,vV wl),(10,vV jK),(11,vV wb),(12, .ptr 0 12 0),(13,vV wK),(14,vV wJ),(15, .ptr 0 15 0),(16,vV wU),(17,vV wT),(18, .ptr 0 18 0),(19,vV jD),(20,vV jl),(21,vV jD),(22,vV j6),(23,vV jJ),(24,vV jI),(25,vV jT),(26,vV ww),(27,vV jT),(28,vV wy),(29,vV jU),(30,vV jW),(31,vV wc),(32,vV wO),(33, .lst true false 3 [[CV.int .i64 1]]),(34,vV wc),(35,vV wP),(36,vV wQ),(37,vV wl),(38,vV jZ),(39,vV wI),(40,vV jZ),(41,vV jK),(42,vV wb),(43,vV wD),(44,vV jK),(45,vV wD),(46,vV wY),(47,vV wK),(48,vV wJ),(49,vV w4),(50,vV w4),(51,vV yo),(52,vV wU),(53,vV wT),(54,vV vi),(55, .ptr 0 18 1),(56,vV wZ),(57, .val (.list oR.1 ((oR.2.take 1).drop 0))),(58, .ptr 0 18 3),(59, .ptr 0 18 1)],[bx 207 [(1,some [.val jV, .val we, .val j8, .val jY, .val j7, .val j5]),(4,some [.val wA, .val wz, .val wu, .val wF, .val wB, .val wx]),(7,some [.val wp, .val wk, .val wg, .val wn, .val jy, .val jz]),(8,some [.val jC, .val jA, .val jB, .val jS, .val jR, .val jE]),(12,some [.val w9, .val yb, .val ya, .val yc, .val w8, .val w7]),(15,some [.val yl, .val ym, .val yu, .val yv, .val yw, .val yF]),(18,some [.val vK, .val (.list oR.1 ((oR.2.take 1).drop 0)), .val vA, .lst true true 39 [], .val vD, .val yj])]],KK⟩)):=by kernel_rfl
noncomputable def Qmv (lb n:Nat) (jJ jI jU jW wl jK wb wK wJ wU wT jD jl j6 jT ww wy wc wO wP wQ jZ wI wD wY w4 yo vi wZ:CV) (kQ:Bool×LL) (jV we j8 jY j7 j5 wA wz wu wF wB wx wp wk wg wn jy jz jC jA jB jS jR jE w9 yb ya yc w8 w7 yl ym yu yv yw yF vK vA vD yj:CV):Option CV:=
 E0 lb n 0 991 (sub (B Qal) [1,1,1,1,1,1,1,1,1]) (retK Tryz.prog (R Qal) 0 (outK (Qae Tryz.prog Qal))) ⟨fr 207 [(0,vB false),(1, .ptr 0 1 0),(2,vV jJ),(3,vV jI),(4, .ptr 0 4 0),(5,vV jU),(6,vV jW),(7, .ptr 0 7 0),(8, .ptr 0 8 0),(9,vV wl),(10,vV jK),(11,vV wb),(12, .ptr 0 12 0),(13,vV wK),(14,vV wJ),(15, .ptr 0 15 0),(16,vV wU),(17,vV wT),(18, .ptr 0 18 0),(19,vV jD),(20,vV jl),(21,vV jD),(22,vV j6),(23,vV jJ),(24,vV jI),(25,vV jT),(26,vV ww),(27,vV jT),(28,vV wy),(29,vV jU),(30,vV jW),(31,vV wc),(32,vV wO),(33, .lst true false 3 [[CV.int .i64 1]]),(34,vV wc),(35,vV wP),(36,vV wQ),(37,vV wl),(38,vV jZ),(39,vV wI),(40,vV jZ),(41,vV jK),(42,vV wb),(43,vV wD),(44,vV jK),(45,vV wD),(46,vV wY),(47,vV wK),(48,vV wJ),(49,vV w4),(50,vV w4),(51,vV yo),(52,vV wU),(53,vV wT),(54,vV vi),(55, .ptr 0 18 1),(56,vV wZ),(57, .val (.list kQ.1 ((kQ.2.take 1).drop 0))),(58, .ptr 0 18 3),(59, .ptr 0 18 1)],[bx 207 [(1,some [.val jV, .val we, .val j8, .val jY, .val j7, .val j5]),(4,some [.val wA, .val wz, .val wu, .val wF, .val wB, .val wx]),(7,some [.val wp, .val wk, .val wg, .val wn, .val jy, .val jz]),(8,some [.val jC, .val jA, .val jB, .val jS, .val jR, .val jE]),(12,some [.val w9, .val yb, .val ya, .val yc, .val w8, .val w7]),(15,some [.val yl, .val ym, .val yu, .val yv, .val yw, .val yF]),(18,some [.val vK, .val (.list kQ.1 ((kQ.2.take 1).drop 0)), .val vA, .lst true true 39 [], .val vD, .val yj])]],KK⟩
theorem Qqj (lb n:Nat) (jJ jI jU jW wl jK wb wK wJ wU wT jD jl j6 jT ww wy wc wO wP wQ jZ wI wD wY w4 yo vi jV we j8 jY j7 j5 wA wz wu wF wB wx wp wk wg wn jy jz jC jA jB jS jR jE w9 yb ya yc w8 w7 yl ym yu yv yw yF vK wZ vA yq vD yj:CV):
 QmZ lb n jJ jI jU jW wl jK wb wK wJ wU wT jD jl j6 jT ww wy wc wO wP wQ jZ wI wD wY w4 yo vi jV we j8 jY j7 j5 wA wz wu wF wB wx wp wk wg wn jy jz jC jA jB jS jR jE w9 yb ya yc w8 w7 yl ym yu yv yw yF vK wZ vA yq vD yj=
 optO (CV.asL wZ) fun kQ=>
 chkO (kQ.2.all (·.length==3)) (
 chkO (decide ((0:Int)≤1∧1≤(kQ.2.length:Int))) (
 Qmv lb n jJ jI jU jW wl jK wb wK wJ wU wT jD jl j6 jT ww wy wc wO wP wQ jZ wI wD wY w4 yo vi wZ kQ jV we j8 jY j7 j5 wA wz wu wF wB wx wp wk wg wn jy jz jC jA jB jS jR jE w9 yb ya yc w8 w7 yl ym yu yv yw yF vK vA vD yj)):=
 (Qby lb n (m:=991) (b:=(sub (B Qal) [1,1,1,1,1,1,1,1,1])) (by kernel_rfl)).trans ((QtI lb n _ jJ jI jU jW wl jK wb wK wJ wU wT jD jl j6 jT ww wy wc wO wP wQ jZ wI wD wY w4 yo vi jV we j8 jY j7 j5 wA wz wu wF wB wx wp wk wg wn jy jz jC jA jB jS jR jE w9 yb ya yc w8 w7 yl ym yu yv yw yF vK wZ vA yq vD yj).trans (by kernel_rfl))
theorem Qp8 (lb n:Nat) (jJ jI jU jW wl jK wb wK wJ wU wT jD jl j6 jT ww wy wc wO wP wQ jZ wI wD wY w4 yo jV we j8 jY j7 j5 wA wz wu wF wB wx wp wk wg wn jy jz jC jA jB jS jR jE w9 yb ya yc w8 w7 yl ym yu yv yw yF:CV):
 QnI lb n jJ jI jU jW wl jK wb wK wJ wU wT jD jl j6 jT ww wy wc wO wP wQ jZ wI wD wY w4 yo jV we j8 jY j7 j5 wA wz wu wF wB wx wp wk wg wn jy jz jC jA jB jS jR jE w9 yb ya yc w8 w7 yl ym yu yv yw yF=
 optO (C lb n Qbu []) fun vi=>
 optO (CV.asA vi) fun oE=>
 chkO (oE.length==6) (
 optO (oE[0]?) fun vK=>
 optO (oE[1]?) fun wZ=>
 optO (oE[2]?) fun vA=>
 optO (oE[3]?) fun yq=>
 optO (oE[4]?) fun vD=>
 optO (oE[5]?) fun yj=>
 QmZ lb n jJ jI jU jW wl jK wb wK wJ wU wT jD jl j6 jT ww wy wc wO wP wQ jZ wI wD wY w4 yo vi jV we j8 jY j7 j5 wA wz wu wF wB wx wp wk wg wn jy jz jC jA jB jS jR jE w9 yb ya yc w8 w7 yl ym yu yv yw yF vK wZ vA yq vD yj):=
 (Qby lb n (m:=992) (b:=(sub (B Qal) [1,1,1,1,1,1,1,1])) (by kernel_rfl)).trans ((Qtv lb n _ jJ jI jU jW wl jK wb wK wJ wU wT jD jl j6 jT ww wy wc wO wP wQ jZ wI wD wY w4 yo jV we j8 jY j7 j5 wA wz wu wF wB wx wp wk wg wn jy jz jC jA jB jS jR jE w9 yb ya yc w8 w7 yl ym yu yv yw yF).trans (by kernel_rfl))
theorem QpA (lb n:Nat) (jJ jI jU jW wl jK wb wK wJ jD jl j6 jT ww wy wc wO wP wQ jZ wI wD wY jV we j8 jY j7 j5 wA wz wu wF wB wx wp wk wg wn jy jz jC jA jB jS jR jE w9 yb ya yc w8 w7:CV):
 Qnx lb n jJ jI jU jW wl jK wb wK wJ jD jl j6 jT ww wy wc wO wP wQ jZ wI wD wY jV we j8 jY j7 j5 wA wz wu wF wB wx wp wk wg wn jy jz jC jA jB jS jR jE w9 yb ya yc w8 w7=
 optO (C lb n QaR [.str [115,101,103,10]]) fun w4=>
 optO (CV.asT w4) fun t164=>
 optO (t164[0]?) fun yo=>
 optO (CV.asT w4) fun tE=>
 optO (tE[1]?) fun wU=>
 optO (CV.asT w4) fun t168=>
 optO (t168[2]?) fun wT=>
 optO (CV.asA yo) fun og=>
 chkO (og.length==6) (
 optO (og[0]?) fun yl=>
 optO (og[1]?) fun ym=>
 optO (og[2]?) fun yu=>
 optO (og[3]?) fun yv=>
 optO (og[4]?) fun yw=>
 optO (og[5]?) fun yF=>
 QnI lb n jJ jI jU jW wl jK wb wK wJ wU wT jD jl j6 jT ww wy wc wO wP wQ jZ wI wD wY w4 yo jV we j8 jY j7 j5 wA wz wu wF wB wx wp wk wg wn jy jz jC jA jB jS jR jE w9 yb ya yc w8 w7 yl ym yu yv yw yF):=
 (Qby lb n (m:=993) (b:=(sub (B Qal) [1,1,1,1,1,1,1])) (by kernel_rfl)).trans ((Qtn lb n _ jJ jI jU jW wl jK wb wK wJ jD jl j6 jT ww wy wc wO wP wQ jZ wI wD wY jV we j8 jY j7 j5 wA wz wu wF wB wx wp wk wg wn jy jz jC jA jB jS jR jE w9 yb ya yc w8 w7).trans (by kernel_rfl))
theorem QpK (lb n:Nat) (jJ jI jU jW wl jK wb jD jl j6 jT ww wy wc wO wP wQ jZ wI jV we j8 jY j7 j5 wA wz wu wF wB wx wp wk wg wn jy jz jC jA jB jS jR jE:CV):
 Qny lb n jJ jI jU jW wl jK wb jD jl j6 jT ww wy wc wO wP wQ jZ wI jV we j8 jY j7 j5 wA wz wu wF wB wx wp wk wg wn jy jz jC jA jB jS jR jE=
 optO (C lb n QaR [jK]) fun wD=>
 optO (CV.asT wD) fun tq=>
 optO (tq[0]?) fun wY=>
 optO (CV.asT wD) fun t138=>
 optO (t138[1]?) fun wK=>
 optO (CV.asT wD) fun rG=>
 optO (rG[2]?) fun wJ=>
 optO (CV.asA wY) fun oz=>
 chkO (oz.length==6) (
 optO (oz[0]?) fun w9=>
 optO (oz[1]?) fun yb=>
 optO (oz[2]?) fun ya=>
 optO (oz[3]?) fun yc=>
 optO (oz[4]?) fun w8=>
 optO (oz[5]?) fun w7=>
 Qnx lb n jJ jI jU jW wl jK wb wK wJ jD jl j6 jT ww wy wc wO wP wQ jZ wI wD wY jV we j8 jY j7 j5 wA wz wu wF wB wx wp wk wg wn jy jz jC jA jB jS jR jE w9 yb ya yc w8 w7):=
 (Qby lb n (m:=994) (b:=(sub (B Qal) [1,1,1,1,1,1])) (by kernel_rfl)).trans ((Qte lb n _ jJ jI jU jW wl jK wb jD jl j6 jT ww wy wc wO wP wQ jZ wI jV we j8 jY j7 j5 wA wz wu wF wB wx wp wk wg wn jy jz jC jA jB jS jR jE).trans (by kernel_rfl))
theorem QpI (lb n:Nat) (jJ jI jU jW wl jD jl j6 jT ww wy wc wO wP wQ jV we j8 jY j7 j5 wA wz wu wF wB wx wp wk wg wn jy jz jC jA jB jS jR jE:CV):
 Qnz lb n jJ jI jU jW wl jD jl j6 jT ww wy wc wO wP wQ jV we j8 jY j7 j5 wA wz wu wF wB wx wp wk wg wn jy jz jC jA jB jS jR jE=
 optO (C lb n Qbu []) fun wI=>
 optO (C lb n Qfd [wI]) fun jZ=>
 optO (CV.asT jZ) fun lR=>
 optO (lR[0]?) fun jK=>
 optO (CV.asT jZ) fun t119=>
 optO (t119[1]?) fun wb=>
 Qny lb n jJ jI jU jW wl jK wb jD jl j6 jT ww wy wc wO wP wQ jZ wI jV we j8 jY j7 j5 wA wz wu wF wB wx wp wk wg wn jy jz jC jA jB jS jR jE:=
 (Qby lb n (m:=995) (b:=(sub (B Qal) [1,1,1,1,1])) (by kernel_rfl)).trans ((QtT lb n _ jJ jI jU jW wl jD jl j6 jT ww wy wc wO wP wQ jV we j8 jY j7 j5 wA wz wu wF wB wx wp wk wg wn jy jz jC jA jB jS jR jE).trans (by kernel_rfl))
theorem Qqt (lb n:Nat) (jJ jI jU jW jD jl j6 jT ww wy jV we j8 jY j7 j5 wA wz wu wF wB wx:CV):
 QmW lb n jJ jI jU jW jD jl j6 jT ww wy jV we j8 jY j7 j5 wA wz wu wF wB wx=
 optO (C lb n Qbu []) fun wO=>
 optO (C lb n QeD [wO, .list false [[CV.int .i64 1]], .str [88,89,90,57,57,57]]) fun wc=>
 optO (CV.asT wc) fun t89=>
 optO (t89[0]?) fun wP=>
 optO (CV.asT wc) fun t91=>
 optO (t91[1]?) fun wQ=>
 optO (CV.asT wc) fun t93=>
 optO (t93[2]?) fun wl=>
 optO (CV.asA wP) fun yA=>
 chkO (yA.length==6) (
 optO (yA[0]?) fun wp=>
 optO (yA[1]?) fun wk=>
 optO (yA[2]?) fun wg=>
 optO (yA[3]?) fun wn=>
 optO (yA[4]?) fun jy=>
 optO (yA[5]?) fun jz=>
 optO (CV.asA wQ) fun ol=>
 chkO (ol.length==6) (
 optO (ol[0]?) fun jC=>
 optO (ol[1]?) fun jA=>
 optO (ol[2]?) fun jB=>
 optO (ol[3]?) fun jS=>
 optO (ol[4]?) fun jR=>
 optO (ol[5]?) fun jE=>
 Qnz lb n jJ jI jU jW wl jD jl j6 jT ww wy wc wO wP wQ jV we j8 jY j7 j5 wA wz wu wF wB wx wp wk wg wn jy jz jC jA jB jS jR jE)):=
 (Qby lb n (m:=996) (b:=(sub (B Qal) [1,1,1,1])) (by kernel_rfl)).trans ((Qtf lb n _ jJ jI jU jW jD jl j6 jT ww wy jV we j8 jY j7 j5 wA wz wu wF wB wx).trans (by kernel_rfl))
theorem QpG (lb n:Nat) (jJ jI jD jl j6 jV we j8 jY j7 j5:CV):
 Qm1 lb n jJ jI jD jl j6 jV we j8 jY j7 j5=
 optO (C lb n Qbu []) fun ww=>
 optO (C lb n Qav [ww, .int .i64 0, .int .i64 6]) fun jT=>
 optO (CV.asT jT) fun t51=>
 optO (t51[0]?) fun wy=>
 optO (CV.asT jT) fun t53=>
 optO (t53[1]?) fun jU=>
 optO (CV.asT jT) fun t55=>
 optO (t55[2]?) fun jW=>
 optO (CV.asA wy) fun gF=>
 chkO (gF.length==6) (
 optO (gF[0]?) fun wA=>
 optO (gF[1]?) fun wz=>
 optO (gF[2]?) fun wu=>
 optO (gF[3]?) fun wF=>
 optO (gF[4]?) fun wB=>
 optO (gF[5]?) fun wx=>
 QmW lb n jJ jI jU jW jD jl j6 jT ww wy jV we j8 jY j7 j5 wA wz wu wF wB wx):=
 (Qby lb n (m:=997) (b:=(sub (B Qal) [1,1,1])) (by kernel_rfl)).trans ((Quh lb n _ jJ jI jD jl j6 jV we j8 jY j7 j5).trans (by kernel_rfl))
theorem QqK (lb n:Nat)  :
 QnG lb n  =
 optO (C lb n Qbu []) fun jl=>
 optO (C lb n Qav [jl, .int .i64 1, .int .i64 8]) fun jD=>
 optO (CV.asT jD) fun t20=>
 optO (t20[0]?) fun j6=>
 optO (CV.asT jD) fun t22=>
 optO (t22[1]?) fun jJ=>
 optO (CV.asT jD) fun gN=>
 optO (gN[2]?) fun jI=>
 optO (CV.asA j6) fun kE=>
 chkO (kE.length==6) (
 optO (kE[0]?) fun jV=>
 optO (kE[1]?) fun we=>
 optO (kE[2]?) fun j8=>
 optO (kE[3]?) fun jY=>
 optO (kE[4]?) fun j7=>
 optO (kE[5]?) fun j5=>
 Qm1 lb n jJ jI jD jl j6 jV we j8 jY j7 j5):=
 (Qby lb n (m:=998) (b:=(sub (B Qal) [1,1])) (by kernel_rfl)).trans ((Qtl lb n _).trans (by kernel_rfl))
theorem Qql (lb n:Nat)  :
 l35_awake_J1 lb n  =
 QnG lb n  :=
 (Qby lb n (m:=999) (b:=(sub (B Qal) [1])) (by kernel_rfl)).trans ((Qul lb n _).trans (by kernel_rfl))
theorem QtE (lb n:Nat)  :
 top lb n Qal []=
 l35_awake_J1 lb n  :=by kernel_rfl
end Go.Proofs
