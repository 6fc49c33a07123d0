/- Equations of functions, printed by program. Conditions: none. -/
import Derived.Test.YtmpbijffaepkdaaGreatDoorEv
namespace Go.Proofs
open Go.Am
set_option maxRecDepth 100000
set_option linter.unusedVariables false
theorem QgE (lb n jc) (jg : LL) (jb) (jf : LL) (ja) (je : LL) (jd) (jh : LL) (jO : Int) :
 top lb n Qd3 [.agg [.list jc jg, .list jb jf, .list ja je, .list jd jh], .int .i64 jO] =
 optO (C lb n Qag [.agg [.list jc jg, .list jb jf, .list ja je, .list jd jh]]) fun kc =>
 optO (CV.asB kc) fun wo =>
 bif (!wo) then
 (optO (C lb n Qcg []) fun vM =>
 some (vM))
 else
 (optO (C lb n QaI [.agg [.list jc jg, .list jb jf, .list ja je, .list jd jh], .int .i64 jO]) fun vi =>
 optO (CV.asT vi) fun vX =>
 optO (vX[0]?) fun kh =>
 optO (CV.asT vi) fun ki =>
 optO (ki[1]?) fun v6 =>
 optO (CV.asA kh) fun c20 =>
 chkO (c20.length == 15) (
 optO (c20[0]?) fun kY =>
 optO (c20[1]?) fun y2 =>
 optO (c20[2]?) fun kp =>
 optO (c20[3]?) fun va =>
 optO (c20[4]?) fun yq =>
 optO (c20[5]?) fun yy =>
 optO (c20[6]?) fun y5 =>
 optO (c20[7]?) fun v7 =>
 optO (c20[8]?) fun yM =>
 optO (c20[9]?) fun kU =>
 optO (c20[10]?) fun kk =>
 optO (c20[11]?) fun yQ =>
 optO (c20[12]?) fun yB =>
 optO (c20[13]?) fun w7 =>
 optO (c20[14]?) fun yD =>
 optO (C lb n Qa1 [.agg [.list jc jg, .list jb jf, .list ja je, .list jd jh], .int .i64 jO]) fun vh =>
 optO (CV.asT vh) fun kO =>
 optO (kO[0]?) fun wQ =>
 optO (CV.asT vh) fun kV =>
 optO (kV[1]?) fun wP =>
 optO (CV.asA wQ) fun wv =>
 chkO (wv.length == 15) (
 optO (wv[0]?) fun wR =>
 optO (wv[1]?) fun yp =>
 optO (wv[2]?) fun yu =>
 optO (wv[3]?) fun yg =>
 optO (wv[4]?) fun yt =>
 optO (wv[5]?) fun y4 =>
 optO (wv[6]?) fun k6 =>
 optO (wv[7]?) fun w9 =>
 optO (wv[8]?) fun yY =>
 optO (wv[9]?) fun yX =>
 optO (wv[10]?) fun yK =>
 optO (wv[11]?) fun wY =>
 optO (wv[12]?) fun yI =>
 optO (wv[13]?) fun yV =>
 optO (wv[14]?) fun w4 =>
 optO (C lb n Qax [.agg [.list jc jg, .list jb jf, .list ja je, .list jd jh], .int .i64 jO]) fun vc =>
 optO (CV.asT vc) fun t59 =>
 optO (t59[0]?) fun wX =>
 optO (CV.asT vc) fun vT =>
 optO (vT[1]?) fun wZ =>
 optO (CV.asA wX) fun yw =>
 chkO (yw.length == 3) (
 optO (yw[0]?) fun wW =>
 optO (yw[1]?) fun yN =>
 optO (yw[2]?) fun yA =>
 optO (C lb n QaH [.agg [.list jc jg, .list jb jf, .list ja je, .list jd jh], .int .i64 jO]) fun vk =>
 optO (CV.asT vk) fun kj =>
 optO (kj[0]?) fun w5 =>
 optO (CV.asT vk) fun kP =>
 optO (kP[1]?) fun w3 =>
 optO (CV.asA w5) fun yb =>
 chkO (yb.length == 3) (
 optO (yb[0]?) fun yW =>
 optO (yb[1]?) fun yZ =>
 optO (yb[2]?) fun yH =>
 optO (C lb n Qav [.agg [kY,y2,kp,va,yq,yy,y5,v7,yM,kU,kk,yQ,yB,w7,yD], .agg [wR,yp,yu,yg,yt,y4,k6,w9,yY,yX,yK,wY,yI,yV,w4]]) fun kg =>
 optO (CV.asB kg) fun ka =>
 bif ka then
 (optO (CV.asB v6) fun vN =>
 optO (CV.asB wP) fun kb =>
 bif (vN == kb) then
 (optO (C lb n Qas [.agg [wW,yN,yA], .agg [yW,yZ,yH]]) fun vP =>
 optO (CV.asB vP) fun kL =>
 bif kL then
 (optO (CV.asB wZ) fun v8 =>
 optO (CV.asB w3) fun kZ =>
 bif (v8 == kZ) then
 (optO (C lb n Qcg []) fun vR =>
 some (vR))
 else
 (some (.bool false)))
 else
 (some (.bool false)))
 else
 (some (.bool false)))
 else
 (some (.bool false))))))) := by kernel_rfl
noncomputable def l24_Small_L1 :=
 fun lb n (yk : Nat) (jc : Bool) (jg : LL) (jb : Bool) (jf : LL) (ja : Bool) (je : LL) (jd : Bool) (jh : LL) wG =>
 hold (QaN (E0 lb n 0 994) 0 (Qaz (sub (B Qag) [1,1,0,1,0,0]) ++ []) [4] (sub (B Qag) [1,1,0,1,0,0]) (QaR 0 (seqK (E0 lb n 0 997) (sub (B Qag) [1,1,0]) (sub (B Qag) [1,1,1]) (retK Tryz.prog (R Qag) 0 (outK (Qap Tryz.prog Qag))))) yk ⟨fr 116 [(0, .val (.agg [.list jc jg, .list jb jf, .list ja je, .list jd jh])),(1, .ptr 0 1 0),(2,vB false),(3,vI wG)],[bx 116 [(1,some [.val (.list jc jg), .val (.list jb jf), .val (.list ja je), .val (.list jd jh)])]],KK⟩)
noncomputable def Qgm (lb n : Nat) (jc : Bool) (jg : LL) (jb : Bool) (jf : LL) (ja : Bool) (je : LL) (jd : Bool) (jh : LL) (jz : Int) : Option CV :=
 hold (E0 lb n 0 997 (sub (B Qag) [1,1,1]) (retK Tryz.prog (R Qag) 0 (outK (Qap Tryz.prog Qag))) ⟨fr 116 [(0, .val (.agg [.list jc jg, .list jb jf, .list ja je, .list jd jh])),(1, .ptr 0 1 0),(2,vB false),(3,vI jz)],[bx 116 [(1,some [.val (.list jc jg), .val (.list jb jf), .val (.list ja je), .val (.list jd jh)])]],KK⟩)
noncomputable def QbZ (lb n yl : Nat) (jc : Bool) (jg : LL) (jb : Bool) (jf : LL) (ja : Bool) (je : LL) (jd : Bool) (jh : LL) (jz wN : Int) : Option CV :=
 hold (QaN (E0 lb n 0 993) 0 (Qaz (sub (B Qag) [1,1,1,0,1,0,0]) ++ []) [] (sub (B Qag) [1,1,1,0,1,0,0]) (QaR 2 (seqK (E0 lb n 0 996) (sub (B Qag) [1,1,1,0]) (sub (B Qag) [1,1,1,1]) (retK Tryz.prog (R Qag) 0 (outK (Qap Tryz.prog Qag))))) yl ⟨fr 116 [(0, .val (.agg [.list jc jg, .list jb jf, .list ja je, .list jd jh])),(1, .ptr 0 1 0),(2,vB false),(3,vI jz),(5,vI wN)],[bx 116 [(1,some [.val (.list jc jg), .val (.list jb jf), .val (.list ja je), .val (.list jd jh)])]],KK⟩)
noncomputable def Qgr (lb n : Nat) (jc : Bool) (jg : LL) (jb : Bool) (jf : LL) (ja : Bool) (je : LL) (jd : Bool) (jh : LL) (jz jY : Int) : Option CV :=
 hold (E0 lb n 0 996 (sub (B Qag) [1,1,1,1]) (retK Tryz.prog (R Qag) 0 (outK (Qap Tryz.prog Qag))) ⟨fr 116 [(0, .val (.agg [.list jc jg, .list jb jf, .list ja je, .list jd jh])),(1, .ptr 0 1 0),(2,vB false),(3,vI jz),(5,vI jY)],[bx 116 [(1,some [.val (.list jc jg), .val (.list jb jf), .val (.list ja je), .val (.list jd jh)])]],KK⟩)
noncomputable def Qb3 (lb n wU : Nat) (jc : Bool) (jg : LL) (jb : Bool) (jf : LL) (ja : Bool) (je : LL) (jd : Bool) (jh : LL) (jz jY wB : Int) : Option CV :=
 hold (QaN (E0 lb n 0 992) 0 (Qaz (sub (B Qag) [1,1,1,1,0,1,0,0]) ++ []) [] (sub (B Qag) [1,1,1,1,0,1,0,0]) (QaR 4 (seqK (E0 lb n 0 995) (sub (B Qag) [1,1,1,1,0]) (sub (B Qag) [1,1,1,1,1]) (retK Tryz.prog (R Qag) 0 (outK (Qap Tryz.prog Qag))))) wU ⟨fr 116 [(0, .val (.agg [.list jc jg, .list jb jf, .list ja je, .list jd jh])),(1, .ptr 0 1 0),(2,vB false),(3,vI jz),(5,vI jY),(6,vI wB)],[bx 116 [(1,some [.val (.list jc jg), .val (.list jb jf), .val (.list ja je), .val (.list jd jh)])]],KK⟩)
noncomputable def Qgk (lb n : Nat) (jc : Bool) (jg : LL) (jb : Bool) (jf : LL) (ja : Bool) (je : LL) (jd : Bool) (jh : LL) (jz jY wa : Int) : Option CV :=
 hold (E0 lb n 0 995 (sub (B Qag) [1,1,1,1,1]) (retK Tryz.prog (R Qag) 0 (outK (Qap Tryz.prog Qag))) ⟨fr 116 [(0, .val (.agg [.list jc jg, .list jb jf, .list ja je, .list jd jh])),(1, .ptr 0 1 0),(2,vB false),(3,vI jz),(5,vI jY),(6,vI wa)],[bx 116 [(1,some [.val (.list jc jg), .val (.list jb jf), .val (.list ja je), .val (.list jd jh)])]],KK⟩)
noncomputable def Qb1 (lb n wT : Nat) (jc : Bool) (jg : LL) (jb : Bool) (jf : LL) (ja : Bool) (je : LL) (jd : Bool) (jh : LL) (jz jY wa wA : Int) : Option CV :=
 hold (QaN (E0 lb n 0 991) 0 (Qaz (sub (B Qag) [1,1,1,1,1,0,1,0,0]) ++ []) [8] (sub (B Qag) [1,1,1,1,1,0,1,0,0]) (QaR 6 (seqK (E0 lb n 0 994) (sub (B Qag) [1,1,1,1,1,0]) (sub (B Qag) [1,1,1,1,1,1]) (retK Tryz.prog (R Qag) 0 (outK (Qap Tryz.prog Qag))))) wT ⟨fr 116 [(0, .val (.agg [.list jc jg, .list jb jf, .list ja je, .list jd jh])),(1, .ptr 0 1 0),(2,vB false),(3,vI jz),(5,vI jY),(6,vI wa),(7,vI wA)],[bx 116 [(1,some [.val (.list jc jg), .val (.list jb jf), .val (.list ja je), .val (.list jd jh)])]],KK⟩)
noncomputable def Qgc (lb n : Nat) (jc : Bool) (jg : LL) (jb : Bool) (jf : LL) (ja : Bool) (je : LL) (jd : Bool) (jh : LL) (jz jY wa w8 : Int) : Option CV :=
 hold (E0 lb n 0 994 (sub (B Qag) [1,1,1,1,1,1]) (retK Tryz.prog (R Qag) 0 (outK (Qap Tryz.prog Qag))) ⟨fr 116 [(0, .val (.agg [.list jc jg, .list jb jf, .list ja je, .list jd jh])),(1, .ptr 0 1 0),(2,vB false),(3,vI jz),(5,vI jY),(6,vI wa),(7,vI w8)],[bx 116 [(1,some [.val (.list jc jg), .val (.list jb jf), .val (.list ja je), .val (.list jd jh)])]],KK⟩)
theorem QhQ (lb n : Nat) (jc : Bool) (jg : LL) (jb : Bool) (jf : LL) (ja : Bool) (je : LL) (jd : Bool) (jh : LL) (jz jY wa w8 : Int) :
 Qgc lb n jc jg jb jf ja je jd jh jz jY wa w8 =
 some (.bool true) := (Qao _).trans (by kernel_rfl)
theorem QdY (lb n wT : Nat) (jc : Bool) (jg : LL) (jb : Bool) (jf : LL) (ja : Bool) (je : LL) (jd : Bool) (jh : LL) (jz jY wa wA : Int) :
 Qb1 lb n (wT + 1) jc jg jb jf ja je jd jh jz jY wa wA =
 bif (decide (wA < (jh.length : Int))) then
 (optO (atL jh wA) fun wy =>
 chkO (wy.length == 7) (
 optO (wy[0]?) fun yS =>
 optO (wy[1]?) fun og =>
 optO (wy[2]?) fun y3 =>
 optO (wy[3]?) fun oh =>
 optO (wy[4]?) fun od =>
 optO (wy[5]?) fun oe =>
 optO (wy[6]?) fun yJ =>
 chkO (CV.isCell yS) (
 chkO (CV.isCell y3) (
 optO (C lb n Qar [.list false [[yS],[y3]]]) fun vz =>
 optO (CV.asB vz) fun vA =>
 bif (!vA) then
 (some (.bool false))
 else
 (optO (CV.asL yJ) fun vp =>
 bif (decide ((vp.2.length : Int) > 20)) then
 (some (.bool false))
 else
 (optO (C lb n Qar [yJ]) fun vu =>
 optO (CV.asB vu) fun vt =>
 bif (!vt) then
 (some (.bool false))
 else
 (Qb1 lb n wT jc jg jb jf ja je jd jh jz jY wa (IntKind.wrap .i64 (wA + 1)))))))))
 else
 (Qgc lb n jc jg jb jf ja je jd jh jz jY wa wA) := (Qao _).trans (by kernel_rfl)
theorem Qh2 (lb n : Nat) (jc : Bool) (jg : LL) (jb : Bool) (jf : LL) (ja : Bool) (je : LL) (jd : Bool) (jh : LL) (jz jY wa : Int) :
 Qgk lb n jc jg jb jf ja je jd jh jz jY wa =
 Qb1 lb n n jc jg jb jf ja je jd jh jz jY wa 0 := (Qao _).trans (by kernel_rfl)
theorem Qd1 (lb n wU : Nat) (jc : Bool) (jg : LL) (jb : Bool) (jf : LL) (ja : Bool) (je : LL) (jd : Bool) (jh : LL) (jz jY wB : Int) :
 Qb3 lb n (wU + 1) jc jg jb jf ja je jd jh jz jY wB =
 bif (decide (wB < (je.length : Int))) then
 (optO (atL je wB) fun y9 =>
 chkO (y9.length == 3) (
 optO (y9[1]?) fun vl =>
 optO (CV.asL vl) fun vD =>
 bif (decide ((vD.2.length : Int) > 40)) then
 (some (.bool false))
 else
 (Qb3 lb n wU jc jg jb jf ja je jd jh jz jY (IntKind.wrap .i64 (wB + 1)))))
 else
 (Qgk lb n jc jg jb jf ja je jd jh jz jY wB) := (Qao _).trans (by kernel_rfl)
theorem QhP (lb n : Nat) (jc : Bool) (jg : LL) (jb : Bool) (jf : LL) (ja : Bool) (je : LL) (jd : Bool) (jh : LL) (jz jY : Int) :
 Qgr lb n jc jg jb jf ja je jd jh jz jY =
 Qb3 lb n n jc jg jb jf ja je jd jh jz jY 0 := (Qao _).trans (by kernel_rfl)
theorem Qd4 (lb n yl : Nat) (jc : Bool) (jg : LL) (jb : Bool) (jf : LL) (ja : Bool) (je : LL) (jd : Bool) (jh : LL) (jz wN : Int) :
 QbZ lb n (yl + 1) jc jg jb jf ja je jd jh jz wN =
 bif (decide (wN < (jf.length : Int))) then
 (optO (atL jf wN) fun wq =>
 chkO (wq.length == 15) (
 optO (wq[0]?) fun kf =>
 optO (wq[1]?) fun yO =>
 optO (wq[2]?) fun y0 =>
 optO (wq[3]?) fun k7 =>
 optO (wq[4]?) fun kX =>
 optO (wq[5]?) fun kw =>
 optO (wq[6]?) fun kE =>
 optO (wq[7]?) fun vW =>
 optO (wq[8]?) fun k9 =>
 optO (wq[9]?) fun vC =>
 optO (wq[10]?) fun vE =>
 optO (wq[11]?) fun vq =>
 optO (wq[12]?) fun vw =>
 optO (wq[13]?) fun vo =>
 optO (wq[14]?) fun vr =>
 optO (C lb n QcI [.agg [kf,yO,y0,k7,kX,kw,kE,vW,k9,vC,vE,vq,vw,vo,vr]]) fun vn =>
 optO (CV.asB vn) fun vm =>
 bif (!vm) then
 (some (.bool false))
 else
 (QbZ lb n yl jc jg jb jf ja je jd jh jz (IntKind.wrap .i64 (wN + 1)))))
 else
 (Qgr lb n jc jg jb jf ja je jd jh jz wN) := (Qao _).trans (by kernel_rfl)
theorem QhM (lb n : Nat) (jc : Bool) (jg : LL) (jb : Bool) (jf : LL) (ja : Bool) (je : LL) (jd : Bool) (jh : LL) (jz : Int) :
 Qgm lb n jc jg jb jf ja je jd jh jz =
 QbZ lb n n jc jg jb jf ja je jd jh jz 0 := (Qao _).trans (by kernel_rfl)
theorem QdZ (lb n yk : Nat) (jc : Bool) (jg : LL) (jb : Bool) (jf : LL) (ja : Bool) (je : LL) (jd : Bool) (jh : LL) (wG : Int) :
 l24_Small_L1 lb n (yk + 1) jc jg jb jf ja je jd jh wG =
 bif (decide (wG < (jg.length : Int))) then
 (optO (atL jg wG) fun wz =>
 chkO (wz.length == 9) (
 optO (wz[0]?) fun wQ =>
 optO (wz[1]?) fun vj =>
 optO (wz[2]?) fun wP =>
 optO (wz[3]?) fun yc =>
 optO (wz[4]?) fun wR =>
 optO (wz[5]?) fun yp =>
 optO (wz[6]?) fun yu =>
 optO (wz[7]?) fun yg =>
 optO (wz[8]?) fun yt =>
 chkO (CV.isCell wQ) (
 chkO (CV.isCell vj) (
 chkO (CV.isCell wP) (
 chkO (CV.isCell yc) (
 chkO (CV.isCell wR) (
 optO (C lb n Qar [.list false [[wQ],[vj],[wP],[yc],[wR]]]) fun vZ =>
 optO (CV.asB vZ) fun kF =>
 bif (!kF) then
 (some (.bool false))
 else
 (l24_Small_L1 lb n yk jc jg jb jf ja je jd jh (IntKind.wrap .i64 (wG + 1))))))))))
 else
 (Qgm lb n jc jg jb jf ja je jd jh wG) := (Qao _).trans (by kernel_rfl)
theorem Qcm (lb n : Nat) (jc : Bool) (jg : LL) (jb : Bool) (jf : LL) (ja : Bool) (je : LL) (jd : Bool) (jh : LL) :
 top lb n Qag [.agg [.list jc jg, .list jb jf, .list ja je, .list jd jh]] =
 bif (decide ((jg.length : Int) > 60)) then
 (some (.bool false))
 else
 (bif (decide ((jf.length : Int) > 12)) then
 (some (.bool false))
 else
 (bif (decide ((je.length : Int) > 12)) then
 (some (.bool false))
 else
 (bif (decide ((jh.length : Int) > 20)) then
 (some (.bool false))
 else
 (l24_Small_L1 lb n n jc jg jb jf ja je jd jh 0)))) := by kernel_rfl
noncomputable def Qc9 (lb n yi : Nat) (wj : Bool) (a2 : LL) (i6 : Int) : Option CV :=
 hold (QaN (E0 lb n 0 995) 0 (Qaz (sub (B Qar) [1,0,1,0,0]) ++ []) [] (sub (B Qar) [1,0,1,0,0]) (QaR 0 (seqK (E0 lb n 0 998) (sub (B Qar) [1,0]) (sub (B Qar) [1,1]) (retK Tryz.prog (R Qar) 0 (outK (Qap Tryz.prog Qar))))) yi ⟨fr 16 [(0, .val (.list wj a2)),(2,vB false),(3,vI i6)],[bx 16 []],KK⟩)
noncomputable def QgA (lb n : Nat) (wj : Bool) (a2 : LL) (yG : Int) : Option CV :=
 hold (E0 lb n 0 998 (sub (B Qar) [1,1]) (retK Tryz.prog (R Qar) 0 (outK (Qap Tryz.prog Qar))) ⟨fr 16 [(0, .val (.list wj a2)),(2,vB false),(3,vI yG)],[bx 16 []],KK⟩)
theorem QhN (lb n : Nat) (wj : Bool) (a2 : LL) (yG : Int) :
 QgA lb n wj a2 yG =
 some (.bool true) := (Qao _).trans (by kernel_rfl)
theorem Qd2 (lb n yi : Nat) (wj : Bool) (a2 : LL) (i6 : Int) :
 Qc9 lb n (yi + 1) wj a2 i6 =
 bif (decide (i6 < (a2.length : Int))) then
 (optO (atL a2 i6) fun vf =>
 chkO (vf.length == 1) (
 optO (vf[0]?) fun vF =>
 optO (CV.asS vF) fun kv =>
 bif (decide ((kv.length : Int) > 100)) then
 (some (.bool false))
 else
 (Qc9 lb n yi wj a2 (IntKind.wrap .i64 (i6 + 1)))))
 else
 (QgA lb n wj a2 i6) := (Qao _).trans (by kernel_rfl)
theorem Qjw (lb n : Nat) (wj : Bool) (a2 : LL) :
 top lb n Qar [.list wj a2] =
 Qc9 lb n n wj a2 0 := by kernel_rfl
noncomputable def QcD (lb n yh : Nat) (jc : Bool) (jg : LL) (jb : Bool) (jf : LL) (ja : Bool) (je : LL) (jd : Bool) (jh : LL) (jO wO : Int) : Option CV :=
 hold (QaN (E0 lb n 0 995) 0 (Qaz (sub (B QaI) [1,0,1,0,0]) ++ []) [7] (sub (B QaI) [1,0,1,0,0]) (QaR 0 (seqK (E0 lb n 0 998) (sub (B QaI) [1,0]) (sub (B QaI) [1,1]) (retK Tryz.prog (R QaI) 0 (outK (Qap Tryz.prog QaI))))) yh ⟨fr 22 [(0, .val (.agg [.list jc jg, .list jb jf, .list ja je, .list jd jh])),(1,vI jO),(2, .ptr 0 2 0),(4, .ptr 0 4 0),(5,vB false),(8, .ptr 0 2 1),(9, .val (.list jb jf)),(10, .val (.int .i64 (jf.length : Int))),(11,vI wO)],[bx 22 [(2,some [.val (.list jc jg), .val (.list jb jf), .val (.list ja je), .val (.list jd jh)]),(4,some [vI 0,vI 0, .lst true true 38 [],vI 0,vI 0,vI 0,vI 0,vI 0, .lst true true 9 [], .lst true true 3 [],vI 0,vI 0,vI 0,vI 0, .lst true true 84 []])]],KK⟩)
noncomputable def Qfg (lb n : Nat) (jc : Bool) (jg : LL) (jb : Bool) (jf : LL) (ja : Bool) (je : LL) (jd : Bool) (jh : LL) (jO : Int) : Option CV :=
 hold (E0 lb n 0 998 (sub (B QaI) [1,1]) (retK Tryz.prog (R QaI) 0 (outK (Qap Tryz.prog QaI))) ⟨fr 22 [(0, .val (.agg [.list jc jg, .list jb jf, .list ja je, .list jd jh])),(1,vI jO),(2, .ptr 0 2 0),(4, .ptr 0 4 0),(5,vB false)],[bx 22 [(2,some [.val (.list jc jg), .val (.list jb jf), .val (.list ja je), .val (.list jd jh)]),(4,some [vI 0,vI 0, .lst true true 38 [],vI 0,vI 0,vI 0,vI 0,vI 0, .lst true true 9 [], .lst true true 3 [],vI 0,vI 0,vI 0,vI 0, .lst true true 84 []])]],KK⟩)
theorem QgW (lb n : Nat) (jc : Bool) (jg : LL) (jb : Bool) (jf : LL) (ja : Bool) (je : LL) (jd : Bool) (jh : LL) (jO : Int) :
 Qfg lb n jc jg jb jf ja je jd jh jO =
 some (.tup [.agg [.int .i64 0, .int .i64 0, .list true [], .int .i64 0, .int .i64 0, .int .i64 0, .int .i64 0, .int .i64 0, .list true [], .list true [], .int .i64 0, .int .i64 0, .int .i64 0, .int .i64 0, .list true []], .bool false]) := (Qao _).trans (by kernel_rfl)
theorem Qdh (lb n yh : Nat) (jc : Bool) (jg : LL) (jb : Bool) (jf : LL) (ja : Bool) (je : LL) (jd : Bool) (jh : LL) (jO wO : Int) :
 QcD lb n (yh + 1) jc jg jb jf ja je jd jh jO wO =
 bif (decide (wO < (jf.length : Int))) then
 (optO (atL jf wO) fun wp =>
 chkO (wp.length == 15) (
 optO (wp[0]?) fun w9 =>
 optO (wp[1]?) fun yY =>
 optO (wp[2]?) fun yX =>
 optO (wp[3]?) fun yK =>
 optO (wp[4]?) fun wY =>
 optO (wp[5]?) fun yI =>
 optO (wp[6]?) fun yV =>
 optO (wp[7]?) fun w4 =>
 optO (wp[8]?) fun y6 =>
 optO (wp[9]?) fun wV =>
 optO (wp[10]?) fun wX =>
 optO (wp[11]?) fun w6 =>
 optO (wp[12]?) fun wZ =>
 optO (wp[13]?) fun yL =>
 optO (wp[14]?) fun wW =>
 optO (CV.asI .i64 w9) fun ks =>
 bif (ks == jO) then
 (some (.tup [.agg [w9,yY,yX,yK,wY,yI,yV,w4,y6,wV,wX,w6,wZ,yL,wW], .bool true]))
 else
 (QcD lb n yh jc jg jb jf ja je jd jh jO (IntKind.wrap .i64 (wO + 1)))))
 else
 (Qfg lb n jc jg jb jf ja je jd jh jO ) := (Qao _).trans (by kernel_rfl)
theorem Qiv (lb n : Nat) (jc : Bool) (jg : LL) (jb : Bool) (jf : LL) (ja : Bool) (je : LL) (jd : Bool) (jh : LL) (jO : Int) :
 top lb n QaI [.agg [.list jc jg, .list jb jf, .list ja je, .list jd jh], .int .i64 jO] =
 QcD lb n n jc jg jb jf ja je jd jh jO 0 := by kernel_rfl
noncomputable def QdB (lb n yn : Nat) (jc : Bool) (jg : LL) (jb : Bool) (jf : LL) (ja : Bool) (je : LL) (jd : Bool) (jh : LL) (jO wH : Int) : Option CV :=
 hold (QaN (E0 lb n 0 995) 0 (Qaz (sub (B Qa1) [1,0,1,0,0]) ++ []) [] (sub (B Qa1) [1,0,1,0,0]) (QaR 0 (seqK (E0 lb n 0 998) (sub (B Qa1) [1,0]) (sub (B Qa1) [1,1]) (retK Tryz.prog (R Qa1) 0 (outK (Qap Tryz.prog Qa1))))) yn ⟨fr 28 [(0, .val (.agg [.list jc jg, .list jb jf, .list ja je, .list jd jh])),(1,vI jO),(2, .ptr 0 2 0),(4, .ptr 0 4 0),(5,vB false),(6,vI wH)],[bx 28 [(2,some [.val (.list jc jg), .val (.list jb jf), .val (.list ja je), .val (.list jd jh)]),(4,some [vI 0,vI 0, .lst true true 38 [],vI 0,vI 0,vI 0,vI 0,vI 0, .lst true true 9 [], .lst true true 3 [],vI 0,vI 0,vI 0,vI 0, .lst true true 84 []])]],KK⟩)
noncomputable def Qhl (lb n : Nat) (jc : Bool) (jg : LL) (jb : Bool) (jf : LL) (ja : Bool) (je : LL) (jd : Bool) (jh : LL) (jO yz : Int) : Option CV :=
 hold (E0 lb n 0 998 (sub (B Qa1) [1,1]) (retK Tryz.prog (R Qa1) 0 (outK (Qap Tryz.prog Qa1))) ⟨fr 28 [(0, .val (.agg [.list jc jg, .list jb jf, .list ja je, .list jd jh])),(1,vI jO),(2, .ptr 0 2 0),(4, .ptr 0 4 0),(5,vB false),(6,vI yz)],[bx 28 [(2,some [.val (.list jc jg), .val (.list jb jf), .val (.list ja je), .val (.list jd jh)]),(4,some [vI 0,vI 0, .lst true true 38 [],vI 0,vI 0,vI 0,vI 0,vI 0, .lst true true 9 [], .lst true true 3 [],vI 0,vI 0,vI 0,vI 0, .lst true true 84 []])]],KK⟩)
theorem QiG (lb n : Nat) (jc : Bool) (jg : LL) (jb : Bool) (jf : LL) (ja : Bool) (je : LL) (jd : Bool) (jh : LL) (jO yz : Int) :
 Qhl lb n jc jg jb jf ja je jd jh jO yz =
 some (.tup [.agg [.int .i64 0, .int .i64 0, .list true [], .int .i64 0, .int .i64 0, .int .i64 0, .int .i64 0, .int .i64 0, .list true [], .list true [], .int .i64 0, .int .i64 0, .int .i64 0, .int .i64 0, .list true []], .bool false]) := (Qao _).trans (by kernel_rfl)
theorem Qeh (lb n yn : Nat) (jc : Bool) (jg : LL) (jb : Bool) (jf : LL) (ja : Bool) (je : LL) (jd : Bool) (jh : LL) (jO wH : Int) :
 QdB lb n (yn + 1) jc jg jb jf ja je jd jh jO wH =
 bif (decide (wH < (jf.length : Int))) then
 (optO (atL jf wH) fun c53 =>
 chkO (c53.length == 15) (
 optO (c53[0]?) fun wY =>
 optO (CV.asI .i64 wY) fun kT =>
 bif (kT == jO) then
 (optO (atL jf wH) fun wu =>
 chkO (wu.length == 15) (
 optO (wu[0]?) fun w4 =>
 optO (wu[1]?) fun y6 =>
 optO (wu[2]?) fun wV =>
 optO (wu[3]?) fun wX =>
 optO (wu[4]?) fun w6 =>
 optO (wu[5]?) fun wZ =>
 optO (wu[6]?) fun yL =>
 optO (wu[7]?) fun wW =>
 optO (wu[8]?) fun yN =>
 optO (wu[9]?) fun yA =>
 optO (wu[10]?) fun vJ =>
 optO (wu[11]?) fun kC =>
 optO (wu[12]?) fun w5 =>
 optO (wu[13]?) fun yF =>
 optO (wu[14]?) fun w3 =>
 some (.tup [.agg [w4,y6,wV,wX,w6,wZ,yL,wW,yN,yA,vJ,kC,w5,yF,w3], .bool true])))
 else
 (QdB lb n yn jc jg jb jf ja je jd jh jO (IntKind.wrap .i64 (wH + 1)))))
 else
 (Qhl lb n jc jg jb jf ja je jd jh jO wH) := (Qao _).trans (by kernel_rfl)
theorem QkI (lb n : Nat) (jc : Bool) (jg : LL) (jb : Bool) (jf : LL) (ja : Bool) (je : LL) (jd : Bool) (jh : LL) (jO : Int) :
 top lb n Qa1 [.agg [.list jc jg, .list jb jf, .list ja je, .list jd jh], .int .i64 jO] =
 QdB lb n n jc jg jb jf ja je jd jh jO 0 := by kernel_rfl
noncomputable def QbT (lb n yj : Nat) (jc : Bool) (jg : LL) (jb : Bool) (jf : LL) (ja : Bool) (je : LL) (jd : Bool) (jh : LL) (jO wS : Int) : Option CV :=
 hold (QaN (E0 lb n 0 995) 0 (Qaz (sub (B Qax) [1,0,1,0,0]) ++ []) [7] (sub (B Qax) [1,0,1,0,0]) (QaR 0 (seqK (E0 lb n 0 998) (sub (B Qax) [1,0]) (sub (B Qax) [1,1]) (retK Tryz.prog (R Qax) 0 (outK (Qap Tryz.prog Qax))))) yj ⟨fr 22 [(0, .val (.agg [.list jc jg, .list jb jf, .list ja je, .list jd jh])),(1,vI jO),(2, .ptr 0 2 0),(4, .ptr 0 4 0),(5,vB false),(8, .ptr 0 2 2),(9, .val (.list ja je)),(10, .val (.int .i64 (je.length : Int))),(11,vI wS)],[bx 22 [(2,some [.val (.list jc jg), .val (.list jb jf), .val (.list ja je), .val (.list jd jh)]),(4,some [vI 0, .lst true true 86 [],vI 0])]],KK⟩)
noncomputable def Qd0 (lb n : Nat) (jc : Bool) (jg : LL) (jb : Bool) (jf : LL) (ja : Bool) (je : LL) (jd : Bool) (jh : LL) (jO : Int) : Option CV :=
 hold (E0 lb n 0 998 (sub (B Qax) [1,1]) (retK Tryz.prog (R Qax) 0 (outK (Qap Tryz.prog Qax))) ⟨fr 22 [(0, .val (.agg [.list jc jg, .list jb jf, .list ja je, .list jd jh])),(1,vI jO),(2, .ptr 0 2 0),(4, .ptr 0 4 0),(5,vB false)],[bx 22 [(2,some [.val (.list jc jg), .val (.list jb jf), .val (.list ja je), .val (.list jd jh)]),(4,some [vI 0, .lst true true 86 [],vI 0])]],KK⟩)
theorem Qfw (lb n : Nat) (jc : Bool) (jg : LL) (jb : Bool) (jf : LL) (ja : Bool) (je : LL) (jd : Bool) (jh : LL) (jO : Int) :
 Qd0 lb n jc jg jb jf ja je jd jh jO =
 some (.tup [.agg [.int .i64 0, .list true [], .int .i64 0], .bool false]) := (Qao _).trans (by kernel_rfl)
theorem QcL (lb n yj : Nat) (jc : Bool) (jg : LL) (jb : Bool) (jf : LL) (ja : Bool) (je : LL) (jd : Bool) (jh : LL) (jO wS : Int) :
 QbT lb n (yj + 1) jc jg jb jf ja je jd jh jO wS =
 bif (decide (wS < (je.length : Int))) then
 (optO (atL je wS) fun yx =>
 chkO (yx.length == 3) (
 optO (yx[0]?) fun yq =>
 optO (yx[1]?) fun yy =>
 optO (yx[2]?) fun y5 =>
 optO (CV.asI .i64 yq) fun kx =>
 bif (kx == jO) then
 (some (.tup [.agg [yq,yy,y5], .bool true]))
 else
 (QbT lb n yj jc jg jb jf ja je jd jh jO (IntKind.wrap .i64 (wS + 1)))))
 else
 (Qd0 lb n jc jg jb jf ja je jd jh jO ) := (Qao _).trans (by kernel_rfl)
theorem QgU (lb n : Nat) (jc : Bool) (jg : LL) (jb : Bool) (jf : LL) (ja : Bool) (je : LL) (jd : Bool) (jh : LL) (jO : Int) :
 top lb n Qax [.agg [.list jc jg, .list jb jf, .list ja je, .list jd jh], .int .i64 jO] =
 QbT lb n n jc jg jb jf ja je jd jh jO 0 := by kernel_rfl
noncomputable def Qcu (lb n yf : Nat) (jc : Bool) (jg : LL) (jb : Bool) (jf : LL) (ja : Bool) (je : LL) (jd : Bool) (jh : LL) (jO wK : Int) : Option CV :=
 hold (QaN (E0 lb n 0 995) 0 (Qaz (sub (B QaH) [1,0,1,0,0]) ++ []) [] (sub (B QaH) [1,0,1,0,0]) (QaR 0 (seqK (E0 lb n 0 998) (sub (B QaH) [1,0]) (sub (B QaH) [1,1]) (retK Tryz.prog (R QaH) 0 (outK (Qap Tryz.prog QaH))))) yf ⟨fr 28 [(0, .val (.agg [.list jc jg, .list jb jf, .list ja je, .list jd jh])),(1,vI jO),(2, .ptr 0 2 0),(4, .ptr 0 4 0),(5,vB false),(6,vI wK)],[bx 28 [(2,some [.val (.list jc jg), .val (.list jb jf), .val (.list ja je), .val (.list jd jh)]),(4,some [vI 0, .lst true true 86 [],vI 0])]],KK⟩)
noncomputable def Qe3 (lb n : Nat) (jc : Bool) (jg : LL) (jb : Bool) (jf : LL) (ja : Bool) (je : LL) (jd : Bool) (jh : LL) (jO yU : Int) : Option CV :=
 hold (E0 lb n 0 998 (sub (B QaH) [1,1]) (retK Tryz.prog (R QaH) 0 (outK (Qap Tryz.prog QaH))) ⟨fr 28 [(0, .val (.agg [.list jc jg, .list jb jf, .list ja je, .list jd jh])),(1,vI jO),(2, .ptr 0 2 0),(4, .ptr 0 4 0),(5,vB false),(6,vI yU)],[bx 28 [(2,some [.val (.list jc jg), .val (.list jb jf), .val (.list ja je), .val (.list jd jh)]),(4,some [vI 0, .lst true true 86 [],vI 0])]],KK⟩)
theorem QgT (lb n : Nat) (jc : Bool) (jg : LL) (jb : Bool) (jf : LL) (ja : Bool) (je : LL) (jd : Bool) (jh : LL) (jO yU : Int) :
 Qe3 lb n jc jg jb jf ja je jd jh jO yU =
 some (.tup [.agg [.int .i64 0, .list true [], .int .i64 0], .bool false]) := (Qao _).trans (by kernel_rfl)
theorem Qdf (lb n yf : Nat) (jc : Bool) (jg : LL) (jb : Bool) (jf : LL) (ja : Bool) (je : LL) (jd : Bool) (jh : LL) (jO wK : Int) :
 Qcu lb n (yf + 1) jc jg jb jf ja je jd jh jO wK =
 bif (decide (wK < (je.length : Int))) then
 (optO (atL je wK) fun vd =>
 chkO (vd.length == 3) (
 optO (vd[0]?) fun yM =>
 optO (CV.asI .i64 yM) fun ky =>
 bif (ky == jO) then
 (optO (atL je wK) fun yv =>
 chkO (yv.length == 3) (
 optO (yv[0]?) fun yQ =>
 optO (yv[1]?) fun yB =>
 optO (yv[2]?) fun w7 =>
 some (.tup [.agg [yQ,yB,w7], .bool true])))
 else
 (Qcu lb n yf jc jg jb jf ja je jd jh jO (IntKind.wrap .i64 (wK + 1)))))
 else
 (Qe3 lb n jc jg jb jf ja je jd jh jO wK) := (Qao _).trans (by kernel_rfl)
theorem Qil (lb n : Nat) (jc : Bool) (jg : LL) (jb : Bool) (jf : LL) (ja : Bool) (je : LL) (jd : Bool) (jh : LL) (jO : Int) :
 top lb n QaH [.agg [.list jc jg, .list jb jf, .list ja je, .list jd jh], .int .i64 jO] =
 Qcu lb n n jc jg jb jf ja je jd jh jO 0 := by kernel_rfl
noncomputable def QbJ (lb n ya : Nat) (ju : Int) (wb : Bool) (wd : LL) (wg wi : Int) (wc : Bool) (we : LL) (wh i21 : Int) : Option CV :=
 hold (QaN (E0 lb n 0 994) 0 (Qaz (sub (B Qas) [1,1,0,1,0,0]) ++ []) [] (sub (B Qas) [1,1,0,1,0,0]) (QaR 0 (seqK (E0 lb n 0 997) (sub (B Qas) [1,1,0]) (sub (B Qas) [1,1,1]) (retK Tryz.prog (R Qas) 0 (outK (Qap Tryz.prog Qas))))) ya ⟨fr 45 [(0, .val (.agg [.int .i64 ju, .list wb wd, .int .i64 wg])),(1, .val (.agg [.int .i64 wi, .list wc we, .int .i64 wh])),(2, .ptr 0 2 0),(3, .ptr 0 3 0),(4,vB false),(5,vI i21)],[bx 45 [(2,some [vI ju, .val (.list wb wd),vI wg]),(3,some [vI wi, .val (.list wc we),vI wh])]],KK⟩)
noncomputable def QdQ (lb n : Nat) (ju : Int) (wb : Bool) (wd : LL) (wg wi : Int) (wc : Bool) (we : LL) (wh y7 : Int) : Option CV :=
 hold (E0 lb n 0 997 (sub (B Qas) [1,1,1]) (retK Tryz.prog (R Qas) 0 (outK (Qap Tryz.prog Qas))) ⟨fr 45 [(0, .val (.agg [.int .i64 ju, .list wb wd, .int .i64 wg])),(1, .val (.agg [.int .i64 wi, .list wc we, .int .i64 wh])),(2, .ptr 0 2 0),(3, .ptr 0 3 0),(4,vB false),(5,vI y7)],[bx 45 [(2,some [vI ju, .val (.list wb wd),vI wg]),(3,some [vI wi, .val (.list wc we),vI wh])]],KK⟩)
theorem Qff (lb n : Nat) (ju : Int) (wb : Bool) (wd : LL) (wg wi : Int) (wc : Bool) (we : LL) (wh y7 : Int) :
 QdQ lb n ju wb wd wg wi wc we wh y7 =
 some (.bool true) := (Qao _).trans (by kernel_rfl)
theorem QcE (lb n ya : Nat) (ju : Int) (wb : Bool) (wd : LL) (wg wi : Int) (wc : Bool) (we : LL) (wh i21 : Int) :
 QbJ lb n (ya + 1) ju wb wd wg wi wc we wh i21 =
 bif (decide (i21 < (wd.length : Int))) then
 (optO (atL wd i21) fun yR =>
 chkO (yR.length == 2) (
 optO (yR[0]?) fun w7 =>
 optO (yR[1]?) fun yD =>
 optO (atL we i21) fun c37 =>
 chkO (c37.length == 2) (
 optO (c37[0]?) fun ku =>
 optO (c37[1]?) fun wQ =>
 optO (CV.asS w7) fun oa =>
 optO (CV.asS ku) fun vH =>
 optO (CV.asS yD) fun vY =>
 optO (CV.asS wQ) fun kM =>
 bif (!((oa == vH) && ((vY == kM) && true))) then
 (some (.bool false))
 else
 (QbJ lb n ya ju wb wd wg wi wc we wh (IntKind.wrap .i64 (i21 + 1))))))
 else
 (QdQ lb n ju wb wd wg wi wc we wh i21) := (Qao _).trans (by kernel_rfl)
theorem QgB (lb n : Nat) (ju : Int) (wb : Bool) (wd : LL) (wg wi : Int) (wc : Bool) (we : LL) (wh : Int) :
 top lb n Qas [.agg [.int .i64 ju, .list wb wd, .int .i64 wg], .agg [.int .i64 wi, .list wc we, .int .i64 wh]] =
 bif (ju != wi) then
 (some (.bool false))
 else
 (bif (wg != wh) then
 (some (.bool false))
 else
 (bif ((wd.length : Int) != (we.length : Int)) then
 (some (.bool false))
 else
 (QbJ lb n n ju wb wd wg wi wc we wh 0))) := by kernel_rfl
end Go.Proofs
