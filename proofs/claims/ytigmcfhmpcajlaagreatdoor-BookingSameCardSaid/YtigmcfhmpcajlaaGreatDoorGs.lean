/- Equations of functions, printed by program. Conditions: none. -/
import Derived.Test.YtigmcfhmpcajlaaGreatDoorEv
namespace Go.Proofs
open Go.Am
set_option maxRecDepth 100000
set_option linter.unusedVariables false
theorem QiM (lb n) (aloc1 : LB) (ja) (aper3 : LL) (je : Int) (jc) (aseg6 : LL) (jd) (aser9 : LL) (jb : Int) (jj : LB) (jg) (bper13 : LL) (jl : Int) (jh) (bseg17 : LL) (jf) (bser19 : LL) (jk : Int) :
 top lb n Qbh [.agg [.str aloc1, .list ja aper3, .int .i64 je, .list jc aseg6, .list jd aser9, .int .i64 jb], .agg [.str jj, .list jg bper13, .int .i64 jl, .list jh bseg17, .list jf bser19, .int .i64 jk]] =
 bif (aloc1 == jj) then
 (bif (je == jl) then
 (bif (jb == jk) then
 (optO (C lb n Qar [.list ja aper3, .list jg bper13]) fun vF =>
 optO (CV.asB vF) fun vK =>
 bif vK then
 (optO (C lb n Qas [.list jc aseg6, .list jh bseg17]) fun kl =>
 optO (CV.asB kl) fun nH =>
 bif nH then
 (optO (C lb n Qam [.list jd aser9, .list jf bser19]) fun nd =>
 some (nd))
 else
 (some (.bool false)))
 else
 (some (.bool false)))
 else
 (some (.bool false)))
 else
 (some (.bool false)))
 else
 (some (.bool false)) := by kernel_rfl
noncomputable def slices_Equal_api_Person_L1 :=
 fun lb n (w8 : Nat) (ju : Bool) (a2 : LL) (wl : Bool) (b4 : LL) i21 =>
 hold (QaR (E0 lb n 0 994) 0 (Qay (sub (B Qar) [1, 1, 0, 1, 0, 0]) ++ [5]) [] (sub (B Qar) [1, 1, 0, 1, 0, 0]) (QaS 0 (seqK (E0 lb n 0 997) (sub (B Qar) [1, 1, 0]) (sub (B Qar) [1, 1, 1]) (retK Tryz.prog (R Qar) 0 (outK (Qan Tryz.prog Qar))))) w8 ⟨fr 26 [(0, .val (.list ju a2)), (1, .val (.list wl b4)), (4, vB false), (11, .val (.list ju a2)), (12, .val (.int .i64 (a2.length : Int))), (13, vI i21)], [bx 26 []], KK⟩)
noncomputable def Qcy (lb n : Nat) (ju : Bool) (a2 : LL) (wl : Bool) (b4 : LL) : Option CV :=
 hold (E0 lb n 0 997 (sub (B Qar) [1, 1, 1]) (retK Tryz.prog (R Qar) 0 (outK (Qan Tryz.prog Qar))) ⟨fr 26 [(0, .val (.list ju a2)), (1, .val (.list wl b4)), (4, vB false)], [bx 26 []], KK⟩)
theorem QdF (lb n : Nat) (ju : Bool) (a2 : LL) (wl : Bool) (b4 : LL) :
 Qcy lb n ju a2 wl b4 =
 some (.bool true) := (Qaj _).trans (by kernel_rfl)
theorem Qb2 (lb n w8 : Nat) (ju : Bool) (a2 : LL) (wl : Bool) (b4 : LL) (i21 : Int) :
 slices_Equal_api_Person_L1 lb n (w8 + 1) ju a2 wl b4 i21 =
 bif (decide (i21 < (a2.length : Int))) then
 (optO (atL a2 i21) fun c38 =>
 chkO (c38.length == 3) (
 optO (c38[0]?) fun yy =>
 optO (c38[1]?) fun yP =>
 optO (c38[2]?) fun yA =>
 optO (atL b4 i21) fun c42 =>
 chkO (c42.length == 3) (
 optO (c42[0]?) fun yM =>
 optO (c42[1]?) fun yQ =>
 optO (c42[2]?) fun yK =>
 optO (CV.asS yy) fun ku =>
 optO (CV.asS yM) fun vZ =>
 optO (CV.asS yP) fun m8 =>
 optO (CV.asS yQ) fun mU =>
 optO (CV.asS yA) fun mK =>
 optO (CV.asS yK) fun mQ =>
 bif (!((ku == vZ) && ((m8 == mU) && ((mK == mQ) && true)))) then
 (some (.bool false))
 else
 (slices_Equal_api_Person_L1 lb n w8 ju a2 wl b4 (IntKind.wrap .i64 (i21 + 1))))))
 else
 (Qcy lb n ju a2 wl b4 ) := (Qaj _).trans (by kernel_rfl)
theorem Qcv (lb n : Nat) (ju : Bool) (a2 : LL) (wl : Bool) (b4 : LL) :
 top lb n Qar [.list ju a2, .list wl b4] =
 bif ((a2.length : Int) != (b4.length : Int)) then
 (some (.bool false))
 else
 (slices_Equal_api_Person_L1 lb n n ju a2 wl b4 0) := by kernel_rfl
noncomputable def Qa9 (lb n vo : Nat) (ju : Bool) (a2 : LL) (wl : Bool) (b4 : LL) (w7 : Int) : Option CV :=
 hold (QaR (E0 lb n 0 994) 0 (Qay (sub (B Qas) [1, 1, 0, 1, 0, 0]) ++ [5]) [] (sub (B Qas) [1, 1, 0, 1, 0, 0]) (QaS 0 (seqK (E0 lb n 0 997) (sub (B Qas) [1, 1, 0]) (sub (B Qas) [1, 1, 1]) (retK Tryz.prog (R Qas) 0 (outK (Qan Tryz.prog Qas))))) vo ⟨fr 26 [(0, .val (.list ju a2)), (1, .val (.list wl b4)), (4, vB false), (11, .val (.list ju a2)), (12, .val (.int .i64 (a2.length : Int))), (13, vI w7)], [bx 26 []], KK⟩)
noncomputable def QcA (lb n : Nat) (ju : Bool) (a2 : LL) (wl : Bool) (b4 : LL) : Option CV :=
 hold (E0 lb n 0 997 (sub (B Qas) [1, 1, 1]) (retK Tryz.prog (R Qas) 0 (outK (Qan Tryz.prog Qas))) ⟨fr 26 [(0, .val (.list ju a2)), (1, .val (.list wl b4)), (4, vB false)], [bx 26 []], KK⟩)
theorem QdH (lb n : Nat) (ju : Bool) (a2 : LL) (wl : Bool) (b4 : LL) :
 QcA lb n ju a2 wl b4 =
 some (.bool true) := (Qaj _).trans (by kernel_rfl)
theorem Qb4 (lb n vo : Nat) (ju : Bool) (a2 : LL) (wl : Bool) (b4 : LL) (w7 : Int) :
 Qa9 lb n (vo + 1) ju a2 wl b4 w7 =
 bif (decide (w7 < (a2.length : Int))) then
 (optO (atL a2 w7) fun c95 =>
 chkO (c95.length == 10) (
 optO (c95[0]?) fun j3 =>
 optO (c95[1]?) fun j4 =>
 optO (c95[2]?) fun j2 =>
 optO (c95[3]?) fun j5 =>
 optO (c95[4]?) fun jD =>
 optO (c95[5]?) fun jA =>
 optO (c95[6]?) fun oP =>
 optO (c95[7]?) fun jG =>
 optO (c95[8]?) fun jC =>
 optO (c95[9]?) fun jF =>
 optO (atL b4 w7) fun c106 =>
 chkO (c106.length == 10) (
 optO (c106[0]?) fun jz =>
 optO (c106[1]?) fun jE =>
 optO (c106[2]?) fun gI =>
 optO (c106[3]?) fun g8 =>
 optO (c106[4]?) fun o0 =>
 optO (c106[5]?) fun yF =>
 optO (c106[6]?) fun o5 =>
 optO (c106[7]?) fun yH =>
 optO (c106[8]?) fun mb =>
 optO (c106[9]?) fun oT =>
 optO (CV.asS j3) fun gN =>
 optO (CV.asS jz) fun oH =>
 optO (CV.asI .i64 j4) fun mc =>
 optO (CV.asI .i64 jE) fun oA =>
 optO (CV.asI .i64 j2) fun od =>
 optO (CV.asI .i64 gI) fun gS =>
 optO (CV.asS j5) fun gH =>
 optO (CV.asS g8) fun mg =>
 optO (CV.asS jD) fun kI =>
 optO (CV.asS o0) fun oZ =>
 optO (CV.asI .i64 jA) fun i127 =>
 optO (CV.asI .i64 yF) fun kO =>
 optO (CV.asI .i64 oP) fun gy =>
 optO (CV.asI .i64 o5) fun gV =>
 optO (CV.asS jG) fun kG =>
 optO (CV.asS yH) fun mB =>
 optO (CV.asI .i64 jC) fun o6 =>
 optO (CV.asI .i64 mb) fun gi =>
 optO (CV.asI .i64 jF) fun oi =>
 optO (CV.asI .i64 oT) fun mr =>
 bif (!((gN == oH) && ((mc == oA) && ((od == gS) && ((gH == mg) && ((kI == oZ) && ((i127 == kO) && ((gy == gV) && ((kG == mB) && ((o6 == gi) && ((oi == mr) && true))))))))))) then
 (some (.bool false))
 else
 (Qa9 lb n vo ju a2 wl b4 (IntKind.wrap .i64 (w7 + 1))))))
 else
 (QcA lb n ju a2 wl b4 ) := (Qaj _).trans (by kernel_rfl)
theorem Qcu (lb n : Nat) (ju : Bool) (a2 : LL) (wl : Bool) (b4 : LL) :
 top lb n Qas [.list ju a2, .list wl b4] =
 bif ((a2.length : Int) != (b4.length : Int)) then
 (some (.bool false))
 else
 (Qa9 lb n n ju a2 wl b4 0) := by kernel_rfl
noncomputable def Qa7 (lb n w8 : Nat) (ju : Bool) (a2 : LL) (wl : Bool) (b4 : LL) (i21 : Int) : Option CV :=
 hold (QaR (E0 lb n 0 994) 0 (Qay (sub (B Qam) [1, 1, 0, 1, 0, 0]) ++ [5]) [] (sub (B Qam) [1, 1, 0, 1, 0, 0]) (QaS 0 (seqK (E0 lb n 0 997) (sub (B Qam) [1, 1, 0]) (sub (B Qam) [1, 1, 1]) (retK Tryz.prog (R Qam) 0 (outK (Qan Tryz.prog Qam))))) w8 ⟨fr 26 [(0, .val (.list ju a2)), (1, .val (.list wl b4)), (4, vB false), (11, .val (.list ju a2)), (12, .val (.int .i64 (a2.length : Int))), (13, vI i21)], [bx 26 []], KK⟩)
noncomputable def Qcn (lb n : Nat) (ju : Bool) (a2 : LL) (wl : Bool) (b4 : LL) : Option CV :=
 hold (E0 lb n 0 997 (sub (B Qam) [1, 1, 1]) (retK Tryz.prog (R Qam) 0 (outK (Qan Tryz.prog Qam))) ⟨fr 26 [(0, .val (.list ju a2)), (1, .val (.list wl b4)), (4, vB false)], [bx 26 []], KK⟩)
theorem Qdy (lb n : Nat) (ju : Bool) (a2 : LL) (wl : Bool) (b4 : LL) :
 Qcn lb n ju a2 wl b4 =
 some (.bool true) := (Qaj _).trans (by kernel_rfl)
theorem QbY (lb n w8 : Nat) (ju : Bool) (a2 : LL) (wl : Bool) (b4 : LL) (i21 : Int) :
 Qa7 lb n (w8 + 1) ju a2 wl b4 i21 =
 bif (decide (i21 < (a2.length : Int))) then
 (optO (atL a2 i21) fun c38 =>
 chkO (c38.length == 3) (
 optO (c38[0]?) fun yy =>
 optO (c38[1]?) fun yP =>
 optO (c38[2]?) fun yA =>
 optO (atL b4 i21) fun c42 =>
 chkO (c42.length == 3) (
 optO (c42[0]?) fun yM =>
 optO (c42[1]?) fun yQ =>
 optO (c42[2]?) fun yK =>
 optO (CV.asS yy) fun ku =>
 optO (CV.asS yM) fun vZ =>
 optO (CV.asI .i64 yP) fun nw =>
 optO (CV.asI .i64 yQ) fun nK =>
 optO (CV.asI .i64 yA) fun w7 =>
 optO (CV.asI .i64 yK) fun i51 =>
 bif (!((ku == vZ) && ((nw == nK) && ((w7 == i51) && true)))) then
 (some (.bool false))
 else
 (Qa7 lb n w8 ju a2 wl b4 (IntKind.wrap .i64 (i21 + 1))))))
 else
 (Qcn lb n ju a2 wl b4 ) := (Qaj _).trans (by kernel_rfl)
theorem Qcl (lb n : Nat) (ju : Bool) (a2 : LL) (wl : Bool) (b4 : LL) :
 top lb n Qam [.list ju a2, .list wl b4] =
 bif ((a2.length : Int) != (b4.length : Int)) then
 (some (.bool false))
 else
 (Qa7 lb n n ju a2 wl b4 0) := by kernel_rfl
noncomputable def Qd1 (lb n vm : Nat) (aloc1 : LB) (ja : Bool) (aper3 : LL) (je : Int) (jc : Bool) (aseg6 : LL) (jd : Bool) (aser9 : LL) (jb : Int) (jj : LB) (jg : Bool) (bper13 : LL) (jl : Int) (jh : Bool) (bseg17 : LL) (jf : Bool) (bser19 : LL) (jk w5 : Int) : Option CV :=
 hold (QaR (E0 lb n 0 994) 0 (Qay (sub (B Qat) [1, 1, 0, 1, 0, 0]) ++ []) [] (sub (B Qat) [1, 1, 0, 1, 0, 0]) (QaS 0 (seqK (E0 lb n 0 997) (sub (B Qat) [1, 1, 0]) (sub (B Qat) [1, 1, 1]) (retK Tryz.prog (R Qat) 0 (outK (Qan Tryz.prog Qat))))) vm ⟨fr 108 [(0, .val (.agg [.str aloc1, .list ja aper3, .int .i64 je, .list jc aseg6, .list jd aser9, .int .i64 jb])), (1, .val (.agg [.str jj, .list jg bper13, .int .i64 jl, .list jh bseg17, .list jf bser19, .int .i64 jk])), (2, .ptr 0 2 0), (3, .ptr 0 3 0), (4, vB false), (5, vI w5)], [bx 108 [(2, some [vS aloc1, .val (.list ja aper3), vI je, .val (.list jc aseg6), .val (.list jd aser9), vI jb]), (3, some [vS jj, .val (.list jg bper13), vI jl, .val (.list jh bseg17), .val (.list jf bser19), vI jk])]], KK⟩)
noncomputable def QhR (lb n : Nat) (aloc1 : LB) (ja : Bool) (aper3 : LL) (je : Int) (jc : Bool) (aseg6 : LL) (jd : Bool) (aser9 : LL) (jb : Int) (jj : LB) (jg : Bool) (bper13 : LL) (jl : Int) (jh : Bool) (bseg17 : LL) (jf : Bool) (bser19 : LL) (jk wn : Int) : Option CV :=
 hold (E0 lb n 0 997 (sub (B Qat) [1, 1, 1]) (retK Tryz.prog (R Qat) 0 (outK (Qan Tryz.prog Qat))) ⟨fr 108 [(0, .val (.agg [.str aloc1, .list ja aper3, .int .i64 je, .list jc aseg6, .list jd aser9, .int .i64 jb])), (1, .val (.agg [.str jj, .list jg bper13, .int .i64 jl, .list jh bseg17, .list jf bser19, .int .i64 jk])), (2, .ptr 0 2 0), (3, .ptr 0 3 0), (4, vB false), (5, vI wn)], [bx 108 [(2, some [vS aloc1, .val (.list ja aper3), vI je, .val (.list jc aseg6), .val (.list jd aser9), vI jb]), (3, some [vS jj, .val (.list jg bper13), vI jl, .val (.list jh bseg17), .val (.list jf bser19), vI jk])]], KK⟩)
noncomputable def Qd3 (lb n yG : Nat) (aloc1 : LB) (ja : Bool) (aper3 : LL) (je : Int) (jc : Bool) (aseg6 : LL) (jd : Bool) (aser9 : LL) (jb : Int) (jj : LB) (jg : Bool) (bper13 : LL) (jl : Int) (jh : Bool) (bseg17 : LL) (jf : Bool) (bser19 : LL) (jk wn w3 : Int) : Option CV :=
 hold (QaR (E0 lb n 0 993) 0 (Qay (sub (B Qat) [1, 1, 1, 0, 1, 0, 0]) ++ []) [] (sub (B Qat) [1, 1, 1, 0, 1, 0, 0]) (QaS 2 (seqK (E0 lb n 0 996) (sub (B Qat) [1, 1, 1, 0]) (sub (B Qat) [1, 1, 1, 1]) (retK Tryz.prog (R Qat) 0 (outK (Qan Tryz.prog Qat))))) yG ⟨fr 108 [(0, .val (.agg [.str aloc1, .list ja aper3, .int .i64 je, .list jc aseg6, .list jd aser9, .int .i64 jb])), (1, .val (.agg [.str jj, .list jg bper13, .int .i64 jl, .list jh bseg17, .list jf bser19, .int .i64 jk])), (2, .ptr 0 2 0), (3, .ptr 0 3 0), (4, vB false), (5, vI wn), (6, vI w3)], [bx 108 [(2, some [vS aloc1, .val (.list ja aper3), vI je, .val (.list jc aseg6), .val (.list jd aser9), vI jb]), (3, some [vS jj, .val (.list jg bper13), vI jl, .val (.list jh bseg17), .val (.list jf bser19), vI jk])]], KK⟩)
noncomputable def Qh8 (lb n : Nat) (aloc1 : LB) (ja : Bool) (aper3 : LL) (je : Int) (jc : Bool) (aseg6 : LL) (jd : Bool) (aser9 : LL) (jb : Int) (jj : LB) (jg : Bool) (bper13 : LL) (jl : Int) (jh : Bool) (bseg17 : LL) (jf : Bool) (bser19 : LL) (jk wn wz : Int) : Option CV :=
 hold (E0 lb n 0 996 (sub (B Qat) [1, 1, 1, 1]) (retK Tryz.prog (R Qat) 0 (outK (Qan Tryz.prog Qat))) ⟨fr 108 [(0, .val (.agg [.str aloc1, .list ja aper3, .int .i64 je, .list jc aseg6, .list jd aser9, .int .i64 jb])), (1, .val (.agg [.str jj, .list jg bper13, .int .i64 jl, .list jh bseg17, .list jf bser19, .int .i64 jk])), (2, .ptr 0 2 0), (3, .ptr 0 3 0), (4, vB false), (5, vI wn), (6, vI wz)], [bx 108 [(2, some [vS aloc1, .val (.list ja aper3), vI je, .val (.list jc aseg6), .val (.list jd aser9), vI jb]), (3, some [vS jj, .val (.list jg bper13), vI jl, .val (.list jh bseg17), .val (.list jf bser19), vI jk])]], KK⟩)
noncomputable def Qd8 (lb n yC : Nat) (aloc1 : LB) (ja : Bool) (aper3 : LL) (je : Int) (jc : Bool) (aseg6 : LL) (jd : Bool) (aser9 : LL) (jb : Int) (jj : LB) (jg : Bool) (bper13 : LL) (jl : Int) (jh : Bool) (bseg17 : LL) (jf : Bool) (bser19 : LL) (jk wn wz w4 : Int) : Option CV :=
 hold (QaR (E0 lb n 0 992) 0 (Qay (sub (B Qat) [1, 1, 1, 1, 0, 1, 0, 0]) ++ []) [] (sub (B Qat) [1, 1, 1, 1, 0, 1, 0, 0]) (QaS 4 (seqK (E0 lb n 0 995) (sub (B Qat) [1, 1, 1, 1, 0]) (sub (B Qat) [1, 1, 1, 1, 1]) (retK Tryz.prog (R Qat) 0 (outK (Qan Tryz.prog Qat))))) yC ⟨fr 108 [(0, .val (.agg [.str aloc1, .list ja aper3, .int .i64 je, .list jc aseg6, .list jd aser9, .int .i64 jb])), (1, .val (.agg [.str jj, .list jg bper13, .int .i64 jl, .list jh bseg17, .list jf bser19, .int .i64 jk])), (2, .ptr 0 2 0), (3, .ptr 0 3 0), (4, vB false), (5, vI wn), (6, vI wz), (7, vI w4)], [bx 108 [(2, some [vS aloc1, .val (.list ja aper3), vI je, .val (.list jc aseg6), .val (.list jd aser9), vI jb]), (3, some [vS jj, .val (.list jg bper13), vI jl, .val (.list jh bseg17), .val (.list jf bser19), vI jk])]], KK⟩)
noncomputable def Qh2 (lb n : Nat) (aloc1 : LB) (ja : Bool) (aper3 : LL) (je : Int) (jc : Bool) (aseg6 : LL) (jd : Bool) (aser9 : LL) (jb : Int) (jj : LB) (jg : Bool) (bper13 : LL) (jl : Int) (jh : Bool) (bseg17 : LL) (jf : Bool) (bser19 : LL) (jk wn wz va : Int) : Option CV :=
 hold (E0 lb n 0 995 (sub (B Qat) [1, 1, 1, 1, 1]) (retK Tryz.prog (R Qat) 0 (outK (Qan Tryz.prog Qat))) ⟨fr 108 [(0, .val (.agg [.str aloc1, .list ja aper3, .int .i64 je, .list jc aseg6, .list jd aser9, .int .i64 jb])), (1, .val (.agg [.str jj, .list jg bper13, .int .i64 jl, .list jh bseg17, .list jf bser19, .int .i64 jk])), (2, .ptr 0 2 0), (3, .ptr 0 3 0), (4, vB false), (5, vI wn), (6, vI wz), (7, vI va)], [bx 108 [(2, some [vS aloc1, .val (.list ja aper3), vI je, .val (.list jc aseg6), .val (.list jd aser9), vI jb]), (3, some [vS jj, .val (.list jg bper13), vI jl, .val (.list jh bseg17), .val (.list jf bser19), vI jk])]], KK⟩)
theorem QjH (lb n : Nat) (aloc1 : LB) (ja : Bool) (aper3 : LL) (je : Int) (jc : Bool) (aseg6 : LL) (jd : Bool) (aser9 : LL) (jb : Int) (jj : LB) (jg : Bool) (bper13 : LL) (jl : Int) (jh : Bool) (bseg17 : LL) (jf : Bool) (bser19 : LL) (jk wn wz va : Int) :
 Qh2 lb n aloc1 ja aper3 je jc aseg6 jd aser9 jb jj jg bper13 jl jh bseg17 jf bser19 jk wn wz va =
 some (.bool true) := (Qaj _).trans (by kernel_rfl)
theorem QeK (lb n yC : Nat) (aloc1 : LB) (ja : Bool) (aper3 : LL) (je : Int) (jc : Bool) (aseg6 : LL) (jd : Bool) (aser9 : LL) (jb : Int) (jj : LB) (jg : Bool) (bper13 : LL) (jl : Int) (jh : Bool) (bseg17 : LL) (jf : Bool) (bser19 : LL) (jk wn wz w4 : Int) :
 Qd8 lb n (yC + 1) aloc1 ja aper3 je jc aseg6 jd aser9 jb jj jg bper13 jl jh bseg17 jf bser19 jk wn wz w4 =
 bif (decide (w4 < (aser9.length : Int))) then
 (optO (atL aser9 w4) fun c227 =>
 chkO (c227.length == 3) (
 optO (c227[0]?) fun mE =>
 optO (c227[1]?) fun go =>
 optO (c227[2]?) fun gW =>
 optO (atL bser19 w4) fun c231 =>
 chkO (c231.length == 3) (
 optO (c231[0]?) fun oc =>
 optO (c231[1]?) fun g0 =>
 optO (c231[2]?) fun ol =>
 optO (CV.asS mE) fun kZ =>
 optO (CV.asS oc) fun gw =>
 optO (CV.asI .i64 go) fun kW =>
 optO (CV.asI .i64 g0) fun y3 =>
 optO (CV.asI .i64 gW) fun y0 =>
 optO (CV.asI .i64 ol) fun kV =>
 bif (!((kZ == gw) && ((kW == y3) && ((y0 == kV) && true)))) then
 (some (.bool false))
 else
 (Qd8 lb n yC aloc1 ja aper3 je jc aseg6 jd aser9 jb jj jg bper13 jl jh bseg17 jf bser19 jk wn wz (IntKind.wrap .i64 (w4 + 1))))))
 else
 (Qh2 lb n aloc1 ja aper3 je jc aseg6 jd aser9 jb jj jg bper13 jl jh bseg17 jf bser19 jk wn wz w4) := (Qaj _).trans (by kernel_rfl)
theorem Qjx (lb n : Nat) (aloc1 : LB) (ja : Bool) (aper3 : LL) (je : Int) (jc : Bool) (aseg6 : LL) (jd : Bool) (aser9 : LL) (jb : Int) (jj : LB) (jg : Bool) (bper13 : LL) (jl : Int) (jh : Bool) (bseg17 : LL) (jf : Bool) (bser19 : LL) (jk wn wz : Int) :
 Qh8 lb n aloc1 ja aper3 je jc aseg6 jd aser9 jb jj jg bper13 jl jh bseg17 jf bser19 jk wn wz =
 Qd8 lb n n aloc1 ja aper3 je jc aseg6 jd aser9 jb jj jg bper13 jl jh bseg17 jf bser19 jk wn wz 0 := (Qaj _).trans (by kernel_rfl)
theorem QeZ (lb n yG : Nat) (aloc1 : LB) (ja : Bool) (aper3 : LL) (je : Int) (jc : Bool) (aseg6 : LL) (jd : Bool) (aser9 : LL) (jb : Int) (jj : LB) (jg : Bool) (bper13 : LL) (jl : Int) (jh : Bool) (bseg17 : LL) (jf : Bool) (bser19 : LL) (jk wn w3 : Int) :
 Qd3 lb n (yG + 1) aloc1 ja aper3 je jc aseg6 jd aser9 jb jj jg bper13 jl jh bseg17 jf bser19 jk wn w3 =
 bif (decide (w3 < (aseg6.length : Int))) then
 (optO (atL aseg6 w3) fun c154 =>
 chkO (c154.length == 10) (
 optO (c154[0]?) fun yD =>
 optO (c154[1]?) fun gK =>
 optO (c154[2]?) fun yS =>
 optO (c154[3]?) fun yU =>
 optO (c154[4]?) fun yX =>
 optO (c154[5]?) fun y9 =>
 optO (c154[6]?) fun vd =>
 optO (c154[7]?) fun y7 =>
 optO (c154[8]?) fun gZ =>
 optO (c154[9]?) fun o7 =>
 optO (atL bseg17 w3) fun c165 =>
 chkO (c165.length == 10) (
 optO (c165[0]?) fun k9 =>
 optO (c165[1]?) fun wk =>
 optO (c165[2]?) fun gc =>
 optO (c165[3]?) fun wc =>
 optO (c165[4]?) fun oU =>
 optO (c165[5]?) fun wv =>
 optO (c165[6]?) fun wp =>
 optO (c165[7]?) fun wo =>
 optO (c165[8]?) fun wq =>
 optO (c165[9]?) fun wu =>
 optO (CV.asS yD) fun kN =>
 optO (CV.asS k9) fun gm =>
 optO (CV.asI .i64 gK) fun gL =>
 optO (CV.asI .i64 wk) fun oY =>
 optO (CV.asI .i64 yS) fun oq =>
 optO (CV.asI .i64 gc) fun ou =>
 optO (CV.asS yU) fun ga =>
 optO (CV.asS wc) fun gd =>
 optO (CV.asS yX) fun mi =>
 optO (CV.asS oU) fun gv =>
 optO (CV.asI .i64 y9) fun oW =>
 optO (CV.asI .i64 wv) fun me =>
 optO (CV.asI .i64 vd) fun kL =>
 optO (CV.asI .i64 wp) fun gT =>
 optO (CV.asS y7) fun gk =>
 optO (CV.asS wo) fun gC =>
 optO (CV.asI .i64 gZ) fun my =>
 optO (CV.asI .i64 wq) fun oR =>
 optO (CV.asI .i64 o7) fun mj =>
 optO (CV.asI .i64 wu) fun gB =>
 bif (!((kN == gm) && ((gL == oY) && ((oq == ou) && ((ga == gd) && ((mi == gv) && ((oW == me) && ((kL == gT) && ((gk == gC) && ((my == oR) && ((mj == gB) && true))))))))))) then
 (some (.bool false))
 else
 (Qd3 lb n yG aloc1 ja aper3 je jc aseg6 jd aser9 jb jj jg bper13 jl jh bseg17 jf bser19 jk wn (IntKind.wrap .i64 (w3 + 1))))))
 else
 (Qh8 lb n aloc1 ja aper3 je jc aseg6 jd aser9 jb jj jg bper13 jl jh bseg17 jf bser19 jk wn w3) := (Qaj _).trans (by kernel_rfl)
theorem QjB (lb n : Nat) (aloc1 : LB) (ja : Bool) (aper3 : LL) (je : Int) (jc : Bool) (aseg6 : LL) (jd : Bool) (aser9 : LL) (jb : Int) (jj : LB) (jg : Bool) (bper13 : LL) (jl : Int) (jh : Bool) (bseg17 : LL) (jf : Bool) (bser19 : LL) (jk wn : Int) :
 QhR lb n aloc1 ja aper3 je jc aseg6 jd aser9 jb jj jg bper13 jl jh bseg17 jf bser19 jk wn =
 Qd3 lb n n aloc1 ja aper3 je jc aseg6 jd aser9 jb jj jg bper13 jl jh bseg17 jf bser19 jk wn 0 := (Qaj _).trans (by kernel_rfl)
theorem Qe5 (lb n vm : Nat) (aloc1 : LB) (ja : Bool) (aper3 : LL) (je : Int) (jc : Bool) (aseg6 : LL) (jd : Bool) (aser9 : LL) (jb : Int) (jj : LB) (jg : Bool) (bper13 : LL) (jl : Int) (jh : Bool) (bseg17 : LL) (jf : Bool) (bser19 : LL) (jk w5 : Int) :
 Qd1 lb n (vm + 1) aloc1 ja aper3 je jc aseg6 jd aser9 jb jj jg bper13 jl jh bseg17 jf bser19 jk w5 =
 bif (decide (w5 < (aper3.length : Int))) then
 (optO (atL aper3 w5) fun c52 =>
 chkO (c52.length == 3) (
 optO (c52[0]?) fun vU =>
 optO (c52[1]?) fun jr =>
 optO (c52[2]?) fun ns =>
 optO (atL bper13 w5) fun c56 =>
 chkO (c56.length == 3) (
 optO (c56[0]?) fun nu =>
 optO (c56[1]?) fun jR =>
 optO (c56[2]?) fun jQ =>
 optO (CV.asS vU) fun nh =>
 optO (CV.asS nu) fun nO =>
 optO (CV.asS jr) fun nm =>
 optO (CV.asS jR) fun mI =>
 optO (CV.asS ns) fun ni =>
 optO (CV.asS jQ) fun mL =>
 bif (!((nh == nO) && ((nm == mI) && ((ni == mL) && true)))) then
 (some (.bool false))
 else
 (Qd1 lb n vm aloc1 ja aper3 je jc aseg6 jd aser9 jb jj jg bper13 jl jh bseg17 jf bser19 jk (IntKind.wrap .i64 (w5 + 1))))))
 else
 (QhR lb n aloc1 ja aper3 je jc aseg6 jd aser9 jb jj jg bper13 jl jh bseg17 jf bser19 jk w5) := (Qaj _).trans (by kernel_rfl)
theorem QlN (lb n : Nat) (aloc1 : LB) (ja : Bool) (aper3 : LL) (je : Int) (jc : Bool) (aseg6 : LL) (jd : Bool) (aser9 : LL) (jb : Int) (jj : LB) (jg : Bool) (bper13 : LL) (jl : Int) (jh : Bool) (bseg17 : LL) (jf : Bool) (bser19 : LL) (jk : Int) :
 top lb n Qat [.agg [.str aloc1, .list ja aper3, .int .i64 je, .list jc aseg6, .list jd aser9, .int .i64 jb], .agg [.str jj, .list jg bper13, .int .i64 jl, .list jh bseg17, .list jf bser19, .int .i64 jk]] =
 bif (!(aloc1 == jj)) then
 (some (.bool false))
 else
 (bif (je != jl) then
 (some (.bool false))
 else
 (bif (jb != jk) then
 (some (.bool false))
 else
 (bif ((aper3.length : Int) != (bper13.length : Int)) then
 (some (.bool false))
 else
 (bif ((aseg6.length : Int) != (bseg17.length : Int)) then
 (some (.bool false))
 else
 (bif ((aser9.length : Int) != (bser19.length : Int)) then
 (some (.bool false))
 else
 (Qd1 lb n n aloc1 ja aper3 je jc aseg6 jd aser9 jb jj jg bper13 jl jh bseg17 jf bser19 jk 0)))))) := by kernel_rfl
theorem Qit (lb n : Nat) (aloc1 : LB) (ja : Bool) (aper3 : LL) (je : Int) (jc : Bool) (aseg6 : LL) (jd : Bool) (aser9 : LL) (jb : Int) :
 top lb n Qbs [.agg [.str aloc1, .list ja aper3, .int .i64 je, .list jc aseg6, .list jd aser9, .int .i64 jb]] =
 optO (C lb n QaN [.list ja aper3, .int .i64 je]) fun yB =>
 some (yB) := by kernel_rfl
noncomputable def Qcj (lb n yJ : Nat) (ju : Bool) (a2 : LL) (b3 yc wW : Int) : Option CV :=
 hold (QaR (E0 lb n 0 994) 0 (Qay (sub (B QaN) [1, 1, 0, 1, 0, 0]) ++ []) [7] (sub (B QaN) [1, 1, 0, 1, 0, 0]) (QaS 0 (seqK (E0 lb n 0 997) (sub (B QaN) [1, 1, 0]) (sub (B QaN) [1, 1, 1]) (retK Tryz.prog (R QaN) 0 (outK (Qan Tryz.prog QaN))))) yJ ⟨fr 24 [(0, .val (.list ju a2)), (1, vI b3), (4, vI 0), (5, vI yc), (8, vI b3), (9, .val (.int .i64 (if 0 > b3 then 0 else b3))), (10, .val (.int .i64 (if 99 < (if 0 > b3 then 0 else b3) then 99 else (if 0 > b3 then 0 else b3)))), (11, .val (.list ju a2)), (12, .val (.int .i64 (a2.length : Int))), (13, vI wW)], [bx 24 []], KK⟩)
noncomputable def QfS (lb n : Nat) (ju : Bool) (a2 : LL) (b3 vj : Int) : Option CV :=
 hold (E0 lb n 0 997 (sub (B QaN) [1, 1, 1]) (retK Tryz.prog (R QaN) 0 (outK (Qan Tryz.prog QaN))) ⟨fr 24 [(0, .val (.list ju a2)), (1, vI b3), (4, vI 0), (5, vI vj), (8, vI b3), (9, .val (.int .i64 (if 0 > b3 then 0 else b3))), (10, .val (.int .i64 (if 99 < (if 0 > b3 then 0 else b3) then 99 else (if 0 > b3 then 0 else b3))))], [bx 24 []], KK⟩)
theorem QhO (lb n : Nat) (ju : Bool) (a2 : LL) (b3 vj : Int) :
 QfS lb n ju a2 b3 vj =
 some (.int .i64 vj) := (Qaj _).trans (by kernel_rfl)
theorem QdI (lb n yJ : Nat) (ju : Bool) (a2 : LL) (b3 yc wW : Int) :
 Qcj lb n (yJ + 1) ju a2 b3 yc wW =
 bif (decide (wW < (a2.length : Int))) then
 (optO (atL a2 wW) fun c23 =>
 chkO (c23.length == 3) (
 optO (c23[0]?) fun mY =>
 optO (c23[1]?) fun jn =>
 optO (c23[2]?) fun nL =>
 optO (C lb n QcW [.agg [mY, jn, nL]]) fun kt =>
 optO (CV.asB kt) fun nW =>
 bif (!nW) then
 (Qcj lb n yJ ju a2 b3 (IntKind.wrap .i64 (yc + 1)) (IntKind.wrap .i64 (wW + 1)))
 else
 (Qcj lb n yJ ju a2 b3 yc (IntKind.wrap .i64 (wW + 1)))))
 else
 (QfS lb n ju a2 b3 yc) := (Qaj _).trans (by kernel_rfl)
theorem QjA (lb n : Nat) (ju : Bool) (a2 : LL) (b3 : Int) :
 top lb n QaN [.list ju a2, .int .i64 b3] =
 Qcj lb n n ju a2 b3 (if 99 < (if 0 > b3 then 0 else b3) then 99 else (if 0 > b3 then 0 else b3)) 0 := by kernel_rfl
theorem QkN (lb n : Nat) (aloc1 : LB) (ja : Bool) (aper3 : LL) (je : Int) (jc : Bool) (aseg6 : LL) (jd : Bool) (aser9 : LL) (jb : Int) :
 top lb n Qd9 [.agg [.str aloc1, .list ja aper3, .int .i64 je, .list jc aseg6, .list jd aser9, .int .i64 jb]] =
 optO (C lb n Qa4 [.list ja aper3, .int .i64 je]) fun yB =>
 some (yB) := by kernel_rfl
noncomputable def QcP (lb n yN : Nat) (ju : Bool) (a2 : LL) (b3 yx yd : Int) : Option CV :=
 hold (QaR (E0 lb n 0 994) 0 (Qay (sub (B Qa4) [1, 1, 0, 1, 0, 0]) ++ []) [] (sub (B Qa4) [1, 1, 0, 1, 0, 0]) (QaS 0 (seqK (E0 lb n 0 997) (sub (B Qa4) [1, 1, 0]) (sub (B Qa4) [1, 1, 1]) (retK Tryz.prog (R Qa4) 0 (outK (Qan Tryz.prog Qa4))))) yN ⟨fr 25 [(0, .val (.list ju a2)), (1, vI b3), (4, vI 0), (5, vI yx), (6, vI yd), (7, vI b3), (8, .val (.int .i64 (if 0 > b3 then 0 else b3))), (9, .val (.int .i64 (if 99 < (if 0 > b3 then 0 else b3) then 99 else (if 0 > b3 then 0 else b3))))], [bx 25 []], KK⟩)
noncomputable def Qhp (lb n : Nat) (ju : Bool) (a2 : LL) (b3 i20 i21 : Int) : Option CV :=
 hold (E0 lb n 0 997 (sub (B Qa4) [1, 1, 1]) (retK Tryz.prog (R Qa4) 0 (outK (Qan Tryz.prog Qa4))) ⟨fr 25 [(0, .val (.list ju a2)), (1, vI b3), (4, vI 0), (5, vI i20), (6, vI i21), (7, vI b3), (8, .val (.int .i64 (if 0 > b3 then 0 else b3))), (9, .val (.int .i64 (if 99 < (if 0 > b3 then 0 else b3) then 99 else (if 0 > b3 then 0 else b3))))], [bx 25 []], KK⟩)
theorem QiH (lb n : Nat) (ju : Bool) (a2 : LL) (b3 i20 i21 : Int) :
 Qhp lb n ju a2 b3 i20 i21 =
 some (.int .i64 i20) := (Qaj _).trans (by kernel_rfl)
theorem Qev (lb n yN : Nat) (ju : Bool) (a2 : LL) (b3 yx yd : Int) :
 QcP lb n (yN + 1) ju a2 b3 yx yd =
 bif (decide (yd < (a2.length : Int))) then
 (optO (atL a2 yd) fun c17 =>
 chkO (c17.length == 3) (
 optO (c17[2]?) fun m5 =>
 optO (CV.asS m5) fun mV =>
 bif (!(mV == [73, 78, 70])) then
 (QcP lb n yN ju a2 b3 (IntKind.wrap .i64 (yx + 1)) (IntKind.wrap .i64 (yd + 1)))
 else
 (QcP lb n yN ju a2 b3 yx (IntKind.wrap .i64 (yd + 1)))))
 else
 (Qhp lb n ju a2 b3 yx yd) := (Qaj _).trans (by kernel_rfl)
theorem Qls (lb n : Nat) (ju : Bool) (a2 : LL) (b3 : Int) :
 top lb n Qa4 [.list ju a2, .int .i64 b3] =
 QcP lb n n ju a2 b3 (if 99 < (if 0 > b3 then 0 else b3) then 99 else (if 0 > b3 then 0 else b3)) 0 := by kernel_rfl
noncomputable def Qdq (lb n vf : Nat) (aloc1 : LB) (ja : Bool) (aper3 : LL) (je : Int) (jc : Bool) (aseg6 : LL) (jd : Bool) (aser9 : LL) (jb i21 : Int) : Option CV :=
 hold (QaR (E0 lb n 0 994) 0 (Qay (sub (B Qai) [1, 1, 0, 1, 0, 0]) ++ []) [] (sub (B Qai) [1, 1, 0, 1, 0, 0]) (QaS 0 (seqK (E0 lb n 0 997) (sub (B Qai) [1, 1, 0]) (sub (B Qai) [1, 1, 1]) (retK Tryz.prog (R Qai) 0 (outK (Qan Tryz.prog Qai))))) vf ⟨fr 120 [(0, .val (.agg [.str aloc1, .list ja aper3, .int .i64 je, .list jc aseg6, .list jd aser9, .int .i64 jb])), (1, .ptr 0 1 0), (2, vB false), (3, vI i21)], [bx 120 [(1, some [vS aloc1, .val (.list ja aper3), vI je, .val (.list jc aseg6), .val (.list jd aser9), vI jb])]], KK⟩)
noncomputable def Qg5 (lb n : Nat) (aloc1 : LB) (ja : Bool) (aper3 : LL) (je : Int) (jc : Bool) (aseg6 : LL) (jd : Bool) (aser9 : LL) (jb wy : Int) : Option CV :=
 hold (E0 lb n 0 997 (sub (B Qai) [1, 1, 1]) (retK Tryz.prog (R Qai) 0 (outK (Qan Tryz.prog Qai))) ⟨fr 120 [(0, .val (.agg [.str aloc1, .list ja aper3, .int .i64 je, .list jc aseg6, .list jd aser9, .int .i64 jb])), (1, .ptr 0 1 0), (2, vB false), (3, vI wy)], [bx 120 [(1, some [vS aloc1, .val (.list ja aper3), vI je, .val (.list jc aseg6), .val (.list jd aser9), vI jb])]], KK⟩)
noncomputable def Qdz (lb n vi : Nat) (aloc1 : LB) (ja : Bool) (aper3 : LL) (je : Int) (jc : Bool) (aseg6 : LL) (jd : Bool) (aser9 : LL) (jb wy yb : Int) : Option CV :=
 hold (QaR (E0 lb n 0 993) 0 (Qay (sub (B Qai) [1, 1, 1, 0, 1, 0, 0]) ++ []) [5] (sub (B Qai) [1, 1, 1, 0, 1, 0, 0]) (QaS 2 (seqK (E0 lb n 0 996) (sub (B Qai) [1, 1, 1, 0]) (sub (B Qai) [1, 1, 1, 1]) (retK Tryz.prog (R Qai) 0 (outK (Qan Tryz.prog Qai))))) vi ⟨fr 120 [(0, .val (.agg [.str aloc1, .list ja aper3, .int .i64 je, .list jc aseg6, .list jd aser9, .int .i64 jb])), (1, .ptr 0 1 0), (2, vB false), (3, vI wy), (4, vI yb)], [bx 120 [(1, some [vS aloc1, .val (.list ja aper3), vI je, .val (.list jc aseg6), .val (.list jd aser9), vI jb])]], KK⟩)
noncomputable def Qhc (lb n : Nat) (aloc1 : LB) (ja : Bool) (aper3 : LL) (je : Int) (jc : Bool) (aseg6 : LL) (jd : Bool) (aser9 : LL) (jb wy wN : Int) : Option CV :=
 hold (E0 lb n 0 996 (sub (B Qai) [1, 1, 1, 1]) (retK Tryz.prog (R Qai) 0 (outK (Qan Tryz.prog Qai))) ⟨fr 120 [(0, .val (.agg [.str aloc1, .list ja aper3, .int .i64 je, .list jc aseg6, .list jd aser9, .int .i64 jb])), (1, .ptr 0 1 0), (2, vB false), (3, vI wy), (4, vI wN)], [bx 120 [(1, some [vS aloc1, .val (.list ja aper3), vI je, .val (.list jc aseg6), .val (.list jd aser9), vI jb])]], KK⟩)
noncomputable def Qdu (lb n ve : Nat) (aloc1 : LB) (ja : Bool) (aper3 : LL) (je : Int) (jc : Bool) (aseg6 : LL) (jd : Bool) (aser9 : LL) (jb wy wN yh : Int) : Option CV :=
 hold (QaR (E0 lb n 0 992) 0 (Qay (sub (B Qai) [1, 1, 1, 1, 0, 1, 0, 0]) ++ []) [] (sub (B Qai) [1, 1, 1, 1, 0, 1, 0, 0]) (QaS 4 (seqK (E0 lb n 0 995) (sub (B Qai) [1, 1, 1, 1, 0]) (sub (B Qai) [1, 1, 1, 1, 1]) (retK Tryz.prog (R Qai) 0 (outK (Qan Tryz.prog Qai))))) ve ⟨fr 120 [(0, .val (.agg [.str aloc1, .list ja aper3, .int .i64 je, .list jc aseg6, .list jd aser9, .int .i64 jb])), (1, .ptr 0 1 0), (2, vB false), (3, vI wy), (4, vI wN), (6, vI yh)], [bx 120 [(1, some [vS aloc1, .val (.list ja aper3), vI je, .val (.list jc aseg6), .val (.list jd aser9), vI jb])]], KK⟩)
noncomputable def Qht (lb n : Nat) (aloc1 : LB) (ja : Bool) (aper3 : LL) (je : Int) (jc : Bool) (aseg6 : LL) (jd : Bool) (aser9 : LL) (jb wy wN y6 : Int) : Option CV :=
 hold (E0 lb n 0 995 (sub (B Qai) [1, 1, 1, 1, 1]) (retK Tryz.prog (R Qai) 0 (outK (Qan Tryz.prog Qai))) ⟨fr 120 [(0, .val (.agg [.str aloc1, .list ja aper3, .int .i64 je, .list jc aseg6, .list jd aser9, .int .i64 jb])), (1, .ptr 0 1 0), (2, vB false), (3, vI wy), (4, vI wN), (6, vI y6)], [bx 120 [(1, some [vS aloc1, .val (.list ja aper3), vI je, .val (.list jc aseg6), .val (.list jd aser9), vI jb])]], KK⟩)
theorem Qi6 (lb n : Nat) (aloc1 : LB) (ja : Bool) (aper3 : LL) (je : Int) (jc : Bool) (aseg6 : LL) (jd : Bool) (aser9 : LL) (jb wy wN y6 : Int) :
 Qht lb n aloc1 ja aper3 je jc aseg6 jd aser9 jb wy wN y6 =
 some (.bool true) := (Qaj _).trans (by kernel_rfl)
theorem Qet (lb n ve : Nat) (aloc1 : LB) (ja : Bool) (aper3 : LL) (je : Int) (jc : Bool) (aseg6 : LL) (jd : Bool) (aser9 : LL) (jb wy wN yh : Int) :
 Qdu lb n (ve + 1) aloc1 ja aper3 je jc aseg6 jd aser9 jb wy wN yh =
 bif (decide (yh < (aser9.length : Int))) then
 (optO (atL aser9 yh) fun c97 =>
 chkO (c97.length == 3) (
 optO (c97[0]?) fun j2 =>
 optO (CV.asS j2) fun s99 =>
 bif (decide ((s99.length : Int) > 100)) then
 (some (.bool false))
 else
 (Qdu lb n ve aloc1 ja aper3 je jc aseg6 jd aser9 jb wy wN (IntKind.wrap .i64 (yh + 1)))))
 else
 (Qht lb n aloc1 ja aper3 je jc aseg6 jd aser9 jb wy wN yh) := (Qaj _).trans (by kernel_rfl)
theorem QiI (lb n : Nat) (aloc1 : LB) (ja : Bool) (aper3 : LL) (je : Int) (jc : Bool) (aseg6 : LL) (jd : Bool) (aser9 : LL) (jb wy wN : Int) :
 Qhc lb n aloc1 ja aper3 je jc aseg6 jd aser9 jb wy wN =
 Qdu lb n n aloc1 ja aper3 je jc aseg6 jd aser9 jb wy wN 0 := (Qaj _).trans (by kernel_rfl)
theorem Qeu (lb n vi : Nat) (aloc1 : LB) (ja : Bool) (aper3 : LL) (je : Int) (jc : Bool) (aseg6 : LL) (jd : Bool) (aser9 : LL) (jb wy yb : Int) :
 Qdz lb n (vi + 1) aloc1 ja aper3 je jc aseg6 jd aser9 jb wy yb =
 bif (decide (yb < (aseg6.length : Int))) then
 (optO (atL aseg6 yb) fun c74 =>
 chkO (c74.length == 10) (
 optO (c74[0]?) fun ks =>
 optO (c74[1]?) fun kA =>
 optO (c74[2]?) fun kC =>
 optO (c74[3]?) fun ki =>
 optO (c74[4]?) fun vX =>
 optO (c74[5]?) fun nZ =>
 optO (c74[6]?) fun ky =>
 optO (CV.asS ks) fun s82 =>
 bif (decide ((s82.length : Int) > 100)) then
 (some (.bool false))
 else
 (optO (CV.asS ki) fun s83 =>
 bif (decide ((s83.length : Int) > 100)) then
 (some (.bool false))
 else
 (optO (CV.asS vX) fun s84 =>
 bif (decide ((s84.length : Int) > 100)) then
 (some (.bool false))
 else
 (optO (atL aseg6 yb) fun c85 =>
 chkO (c85.length == 10) (
 optO (c85[7]?) fun vE =>
 optO (CV.asS vE) fun s87 =>
 bif (decide ((s87.length : Int) > 100)) then
 (some (.bool false))
 else
 (Qdz lb n vi aloc1 ja aper3 je jc aseg6 jd aser9 jb wy (IntKind.wrap .i64 (yb + 1)))))))))
 else
 (Qhc lb n aloc1 ja aper3 je jc aseg6 jd aser9 jb wy yb) := (Qaj _).trans (by kernel_rfl)
theorem QiW (lb n : Nat) (aloc1 : LB) (ja : Bool) (aper3 : LL) (je : Int) (jc : Bool) (aseg6 : LL) (jd : Bool) (aser9 : LL) (jb wy : Int) :
 Qg5 lb n aloc1 ja aper3 je jc aseg6 jd aser9 jb wy =
 Qdz lb n n aloc1 ja aper3 je jc aseg6 jd aser9 jb wy 0 := (Qaj _).trans (by kernel_rfl)
theorem Qes (lb n vf : Nat) (aloc1 : LB) (ja : Bool) (aper3 : LL) (je : Int) (jc : Bool) (aseg6 : LL) (jd : Bool) (aser9 : LL) (jb i21 : Int) :
 Qdq lb n (vf + 1) aloc1 ja aper3 je jc aseg6 jd aser9 jb i21 =
 bif (decide (i21 < (aper3.length : Int))) then
 (optO (atL aper3 i21) fun c33 =>
 chkO (c33.length == 3) (
 optO (c33[0]?) fun mN =>
 optO (CV.asS mN) fun s35 =>
 bif (decide ((s35.length : Int) > 100)) then
 (some (.bool false))
 else
 (optO (atL aper3 i21) fun c36 =>
 chkO (c36.length == 3) (
 optO (c36[1]?) fun vr =>
 optO (CV.asS vr) fun s38 =>
 bif (decide ((s38.length : Int) > 100)) then
 (some (.bool false))
 else
 (optO (atL aper3 i21) fun c39 =>
 chkO (c39.length == 3) (
 optO (c39[2]?) fun yP =>
 optO (CV.asS yP) fun s41 =>
 bif (decide ((s41.length : Int) > 100)) then
 (some (.bool false))
 else
 (Qdq lb n vf aloc1 ja aper3 je jc aseg6 jd aser9 jb (IntKind.wrap .i64 (i21 + 1)))))))))
 else
 (Qg5 lb n aloc1 ja aper3 je jc aseg6 jd aser9 jb i21) := (Qaj _).trans (by kernel_rfl)
theorem Qlx (lb n : Nat) (aloc1 : LB) (ja : Bool) (aper3 : LL) (je : Int) (jc : Bool) (aseg6 : LL) (jd : Bool) (aser9 : LL) (jb : Int) :
 top lb n Qai [.agg [.str aloc1, .list ja aper3, .int .i64 je, .list jc aseg6, .list jd aser9, .int .i64 jb]] =
 bif (decide ((aper3.length : Int) > 60)) then
 (some (.bool false))
 else
 (bif (decide ((aseg6.length : Int) > 60)) then
 (some (.bool false))
 else
 (bif (decide ((aser9.length : Int) > 60)) then
 (some (.bool false))
 else
 (bif (decide ((aloc1.length : Int) > 100)) then
 (some (.bool false))
 else
 (Qdq lb n n aloc1 ja aper3 je jc aseg6 jd aser9 jb 0)))) := by kernel_rfl
theorem Qho (lb n : Nat) (aloc1 : LB) (ja : Bool) (aper3 : LL) (je : Int) (jc : Bool) (aseg6 : LL) (jd : Bool) (aser9 : LL) (jb : Int) (jj : LB) (jg : Bool) (bper13 : LL) (jl : Int) (jh : Bool) (bseg17 : LL) (jf : Bool) (bser19 : LL) (jk : Int) :
 top lb n QcY [.agg [.str aloc1, .list ja aper3, .int .i64 je, .list jc aseg6, .list jd aser9, .int .i64 jb], .agg [.str jj, .list jg bper13, .int .i64 jl, .list jh bseg17, .list jf bser19, .int .i64 jk]] =
 optO (C lb n Qai [.agg [.str aloc1, .list ja aper3, .int .i64 je, .list jc aseg6, .list jd aser9, .int .i64 jb]]) fun vF =>
 optO (CV.asB vF) fun vK =>
 bif (!vK) then
 (optO (C lb n Qac []) fun kl =>
 some (kl))
 else
 (optO (C lb n Qai [.agg [.str jj, .list jg bper13, .int .i64 jl, .list jh bseg17, .list jf bser19, .int .i64 jk]]) fun m9 =>
 optO (CV.asB m9) fun nQ =>
 bif (!nQ) then
 (optO (C lb n Qac []) fun mP =>
 some (mP))
 else
 (optO (C lb n Qbh [.agg [.str aloc1, .list ja aper3, .int .i64 je, .list jc aseg6, .list jd aser9, .int .i64 jb], .agg [.str jj, .list jg bper13, .int .i64 jl, .list jh bseg17, .list jf bser19, .int .i64 jk]]) fun kt =>
 optO (C lb n Qat [.agg [.str aloc1, .list ja aper3, .int .i64 je, .list jc aseg6, .list jd aser9, .int .i64 jb], .agg [.str jj, .list jg bper13, .int .i64 jl, .list jh bseg17, .list jf bser19, .int .i64 jk]]) fun vl =>
 optO (CV.asB kt) fun nU =>
 optO (CV.asB vl) fun nT =>
 bif (nU == nT) then
 (optO (C lb n Qbh [.agg [.str aloc1, .list ja aper3, .int .i64 je, .list jc aseg6, .list jd aser9, .int .i64 jb], .agg [.str aloc1, .list ja aper3, .int .i64 je, .list jc aseg6, .list jd aser9, .int .i64 jb]]) fun ny =>
 optO (CV.asB ny) fun nB =>
 bif nB then
 (optO (C lb n Qbs [.agg [.str aloc1, .list ja aper3, .int .i64 je, .list jc aseg6, .list jd aser9, .int .i64 jb]]) fun vp =>
 optO (C lb n Qd9 [.agg [.str aloc1, .list ja aper3, .int .i64 je, .list jc aseg6, .list jd aser9, .int .i64 jb]]) fun yn =>
 optO (CV.asI .i64 vp) fun w5 =>
 optO (CV.asI .i64 yn) fun i37 =>
 bif (w5 == i37) then
 (optO (C lb n Qac []) fun nj =>
 some (nj))
 else
 (some (.bool false)))
 else
 (some (.bool false)))
 else
 (some (.bool false)))) := by kernel_rfl
end Go.Proofs
