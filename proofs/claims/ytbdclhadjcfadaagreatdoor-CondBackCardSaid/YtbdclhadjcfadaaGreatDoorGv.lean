/- Equations of functions, printed by program. Conditions: none. -/
import Derived.Test.YtbdclhadjcfadaaGreatDoorEv
namespace Go.Proofs.K4
open Go.Am
set_option maxRecDepth 100000
set_option linter.unusedVariables false
noncomputable def cond_reader_part_L1 :=
 fun lb n (jl : Nat) jm yj =>
 hold (QaC (E0 lb n 1 995) 1 (Qal (sub (B Qab) [1,0,1,0,0]) ++ []) [4] (sub (B Qab) [1,0,1,0,0]) (Qan 0 (seqK (E0 lb n 1 998) (sub (B Qab) [1,0]) (sub (B Qab) [1,1]) (retK Tryz.prog (R Qab) 1 partK))) jl ⟨fr 66 [(0, .ptr 0 0 0),(2, .ptr 1 2 0),(3,vI jm)],[bx 1 [(0,some [.val yj])],bx 66 [(2,some [vI 0, .lst true true 27 [],vI 0,vI 0,vI 0,vI 0,vI 0, .lst true true 9 []])]],KK⟩)
noncomputable def Qf2 (lb n jl : Nat) (jm : Int) (yL : CV) : Option CV :=
 hold (E0 lb n 1 993 (sub (B Qab) [1,0,1,0,0,1,1]) (QeB 1 (Qal (sub (B Qab) [1,0,1,0,0]) ++ []) [4] (QaC (E0 lb n 1 995) 1 (Qal (sub (B Qab) [1,0,1,0,0]) ++ []) [4] (sub (B Qab) [1,0,1,0,0]) (Qan 0 (seqK (E0 lb n 1 998) (sub (B Qab) [1,0]) (sub (B Qab) [1,1]) (retK Tryz.prog (R Qab) 1 partK))) jl) (Qan 0 (seqK (E0 lb n 1 998) (sub (B Qab) [1,0]) (sub (B Qab) [1,1]) (retK Tryz.prog (R Qab) 1 partK)))) ⟨fr 66 [(0, .ptr 0 0 0),(2, .ptr 1 2 0),(3,vI jm)],[bx 1 [(0,some [.val yL])],bx 66 [(2,some [vI 0, .lst true true 27 [],vI 0,vI 0,vI 0,vI 0,vI 0, .lst true true 9 []])]],KK⟩)
theorem QiN (lb n jl : Nat) (jm : Int) (yL : CV) :
 Qf2 lb n jl jm yL =
 cond_reader_part_L1 lb n jl  (IntKind.wrap .i64 (jm + 1)) yL := (Qaf _).trans (by kernel_rfl)
noncomputable def Qec (lb n yH jl : Nat) (jm : Int) (jC jp jx jq jr jv ju js jt : CV) (wV : LB) : Option CV :=
 hold (QaC (E0 lb n 1 987) 1 (Qal (sub (B Qab) [1,0,1,0,0,1,0,0,1,1,0,0,0]) ++ []) [] (sub (B Qab) [1,0,1,0,0,1,0,0,1,1,0,0,0]) (Qan 2 (seqK (E0 lb n 1 989) (sub (B Qab) [1,0,1,0,0,1,0,0,1,1,0]) (sub (B Qab) [1,0,1,0,0,1,0,0,1,1,1]) (Qan 1 (seqK (E0 lb n 1 993) (sub (B Qab) [1,0,1,0,0,1,0]) (sub (B Qab) [1,0,1,0,0,1,1]) (QeB 1 (Qal (sub (B Qab) [1,0,1,0,0]) ++ []) [4] (QaC (E0 lb n 1 995) 1 (Qal (sub (B Qab) [1,0,1,0,0]) ++ []) [4] (sub (B Qab) [1,0,1,0,0]) (Qan 0 (seqK (E0 lb n 1 998) (sub (B Qab) [1,0]) (sub (B Qab) [1,1]) (retK Tryz.prog (R Qab) 1 partK))) jl) (Qan 0 (seqK (E0 lb n 1 998) (sub (B Qab) [1,0]) (sub (B Qab) [1,1]) (retK Tryz.prog (R Qab) 1 partK)))))))) yH ⟨fr 66 [(0, .ptr 0 0 0),(2, .ptr 1 2 0),(3,vI jm),(4, .ptr 1 4 0),(18,vI jm),(19, .ptr 0 0 0),(20,vV jC),(21, .lst false false 27 [[jp,jx,jq,jr,jv,ju,js,jt]]),(22, .agg [vI jm, .lst false false 27 [[jp,jx,jq,jr,jv,ju,js,jt]],vI 0,vI 0,vI 0,vI 0,vI 0, .val (.list true [])])],[bx 1 [(0,some [vS wV])],bx 66 [(2,some [vI 0, .lst true true 27 [],vI 0,vI 0,vI 0,vI 0,vI 0, .lst true true 9 []]),(4,some [vI jm, .lst false false 27 [[jp,jx,jq,jr,jv,ju,js,jt]],vI 0,vI 0,vI 0,vI 0,vI 0, .lst true true 9 []])]],KK⟩)
noncomputable def Qdm (lb n yE jl : Nat) (jm : Int) (jC jp jx jq jr jv ju js jt : CV) (yN : LB) (wW : LL) : Option CV :=
 hold (QaC (E0 lb n 1 987) 1 (Qal (sub (B Qab) [1,0,1,0,0,1,0,0,1,1,0,0,0]) ++ []) [] (sub (B Qab) [1,0,1,0,0,1,0,0,1,1,0,0,0]) (Qan 2 (seqK (E0 lb n 1 989) (sub (B Qab) [1,0,1,0,0,1,0,0,1,1,0]) (sub (B Qab) [1,0,1,0,0,1,0,0,1,1,1]) (Qan 1 (seqK (E0 lb n 1 993) (sub (B Qab) [1,0,1,0,0,1,0]) (sub (B Qab) [1,0,1,0,0,1,1]) (QeB 1 (Qal (sub (B Qab) [1,0,1,0,0]) ++ []) [4] (QaC (E0 lb n 1 995) 1 (Qal (sub (B Qab) [1,0,1,0,0]) ++ []) [4] (sub (B Qab) [1,0,1,0,0]) (Qan 0 (seqK (E0 lb n 1 998) (sub (B Qab) [1,0]) (sub (B Qab) [1,1]) (retK Tryz.prog (R Qab) 1 partK))) jl) (Qan 0 (seqK (E0 lb n 1 998) (sub (B Qab) [1,0]) (sub (B Qab) [1,1]) (retK Tryz.prog (R Qab) 1 partK)))))))) yE ⟨fr 66 [(0, .ptr 0 0 0),(2, .ptr 1 2 0),(3,vI jm),(4, .ptr 1 4 0),(18,vI jm),(19, .ptr 0 0 0),(20,vV jC),(21, .lst false false 27 [[jp,jx,jq,jr,jv,ju,js,jt]]),(22, .agg [vI jm, .lst false false 27 [[jp,jx,jq,jr,jv,ju,js,jt]],vI 0,vI 0,vI 0,vI 0,vI 0, .val (.list true [])])],[bx 1 [(0,some [vS yN])],bx 66 [(2,some [vI 0, .lst true true 27 [],vI 0,vI 0,vI 0,vI 0,vI 0, .lst true true 9 []]),(4,some [vI jm, .lst true false 27 wW,vI 0,vI 0,vI 0,vI 0,vI 0, .lst true true 9 []])]],KK⟩)
noncomputable def Qee (lb n jl : Nat) (jm : Int) (jC jp jx jq jr jv ju js jt yI : CV) (yz : Bool) (yO : LL) : Option CV :=
 hold (E0 lb n 1 989 (sub (B Qab) [1,0,1,0,0,1,0,0,1,1,1]) (Qan 1 (seqK (E0 lb n 1 993) (sub (B Qab) [1,0,1,0,0,1,0]) (sub (B Qab) [1,0,1,0,0,1,1]) (QeB 1 (Qal (sub (B Qab) [1,0,1,0,0]) ++ []) [4] (QaC (E0 lb n 1 995) 1 (Qal (sub (B Qab) [1,0,1,0,0]) ++ []) [4] (sub (B Qab) [1,0,1,0,0]) (Qan 0 (seqK (E0 lb n 1 998) (sub (B Qab) [1,0]) (sub (B Qab) [1,1]) (retK Tryz.prog (R Qab) 1 partK))) jl) (Qan 0 (seqK (E0 lb n 1 998) (sub (B Qab) [1,0]) (sub (B Qab) [1,1]) (retK Tryz.prog (R Qab) 1 partK)))))) ⟨fr 66 [(0, .ptr 0 0 0),(2, .ptr 1 2 0),(3,vI jm),(4, .ptr 1 4 0),(18,vI jm),(19, .ptr 0 0 0),(20,vV jC),(21, .lst false false 27 [[jp,jx,jq,jr,jv,ju,js,jt]]),(22, .agg [vI jm, .lst false false 27 [[jp,jx,jq,jr,jv,ju,js,jt]],vI 0,vI 0,vI 0,vI 0,vI 0, .val (.list true [])])],[bx 1 [(0,some [.val yI])],bx 66 [(2,some [vI 0, .lst true true 27 [],vI 0,vI 0,vI 0,vI 0,vI 0, .lst true true 9 []]),(4,some [vI jm, .lst true yz 27 yO,vI 0,vI 0,vI 0,vI 0,vI 0, .lst true true 9 []])]],KK⟩)
theorem QiD (lb n jl : Nat) (jm : Int) (jC jp jx jq jr jv ju js jt yI : CV) (yz : Bool) (yO : LL) :
 Qee lb n jl jm jC jp jx jq jr jv ju js jt yI yz yO =
 optO (C lb n Qbl [yI, .str [41]]) fun kC =>
 optO (CV.asT kC) fun n3 =>
 optO (n3[0]?) fun kj =>
 optO (CV.asT kC) fun nb =>
 optO (nb[1]?) fun mb =>
 chkO (CV.isCell kj) (
 optO (CV.asB mb) fun mQ =>
 bif (!mQ) then
 (some .err)
 else
 (some (.tup [.agg [.int .i64 jm, .list yz yO, .int .i64 0, .int .i64 0, .int .i64 0, .int .i64 0, .int .i64 0, .list true []],kj]))) := (Qaf _).trans (by kernel_rfl)
theorem Qdb (lb n yE jl : Nat) (jm : Int) (jC jp jx jq jr jv ju js jt : CV) (yN : LB) (wW : LL) :
 Qdm lb n (yE + 1) jl jm jC jp jx jq jr jv ju js jt yN wW =
 optO (C lb n Qbl [.str yN, .str [44,32]]) fun kA =>
 optO (CV.asT kA) fun nD =>
 optO (nD[0]?) fun vd =>
 optO (CV.asT kA) fun mZ =>
 optO (mZ[1]?) fun mY =>
 chkO (CV.isCell vd) (
 optO (CV.asB mY) fun n4 =>
 bif n4 then
 (optO (CV.asS vd) fun pu =>
 panP (PE lb n pu) fun np gZ =>
 optO (CV.asA np) fun wi =>
 chkO (wi.length == 8) (
 optO (wi[0]?) fun mc =>
 optO (wi[1]?) fun nN =>
 optO (wi[2]?) fun nh =>
 optO (wi[3]?) fun mh =>
 optO (wi[4]?) fun ni =>
 optO (wi[5]?) fun gj =>
 optO (wi[6]?) fun gM =>
 optO (wi[7]?) fun gy =>
 chkO (room (wW.length + 1) 96) (
 Qdm lb n yE jl jm jC jp jx jq jr jv ju js jt gZ (wW ++ [[mc,nN,nh,mh,ni,gj,gM,gy]]))))
 else
 (Qee lb n jl jm jC jp jx jq jr jv ju js jt vd false wW)) := (Qaf _).trans (by kernel_rfl)
noncomputable def Qea (lb n jl : Nat) (jm : Int) (jC jp jx jq jr jv ju js jt yA : CV) : Option CV :=
 hold (E0 lb n 1 989 (sub (B Qab) [1,0,1,0,0,1,0,0,1,1,1]) (Qan 1 (seqK (E0 lb n 1 993) (sub (B Qab) [1,0,1,0,0,1,0]) (sub (B Qab) [1,0,1,0,0,1,1]) (QeB 1 (Qal (sub (B Qab) [1,0,1,0,0]) ++ []) [4] (QaC (E0 lb n 1 995) 1 (Qal (sub (B Qab) [1,0,1,0,0]) ++ []) [4] (sub (B Qab) [1,0,1,0,0]) (Qan 0 (seqK (E0 lb n 1 998) (sub (B Qab) [1,0]) (sub (B Qab) [1,1]) (retK Tryz.prog (R Qab) 1 partK))) jl) (Qan 0 (seqK (E0 lb n 1 998) (sub (B Qab) [1,0]) (sub (B Qab) [1,1]) (retK Tryz.prog (R Qab) 1 partK)))))) ⟨fr 66 [(0, .ptr 0 0 0),(2, .ptr 1 2 0),(3,vI jm),(4, .ptr 1 4 0),(18,vI jm),(19, .ptr 0 0 0),(20,vV jC),(21, .lst false false 27 [[jp,jx,jq,jr,jv,ju,js,jt]]),(22, .agg [vI jm, .lst false false 27 [[jp,jx,jq,jr,jv,ju,js,jt]],vI 0,vI 0,vI 0,vI 0,vI 0, .val (.list true [])])],[bx 1 [(0,some [.val yA])],bx 66 [(2,some [vI 0, .lst true true 27 [],vI 0,vI 0,vI 0,vI 0,vI 0, .lst true true 9 []]),(4,some [vI jm, .lst false false 27 [[jp,jx,jq,jr,jv,ju,js,jt]],vI 0,vI 0,vI 0,vI 0,vI 0, .lst true true 9 []])]],KK⟩)
theorem QiG (lb n jl : Nat) (jm : Int) (jC jp jx jq jr jv ju js jt yA : CV) :
 Qea lb n jl jm jC jp jx jq jr jv ju js jt yA =
 optO (C lb n Qbl [yA, .str [41]]) fun kQ =>
 optO (CV.asT kQ) fun mJ =>
 optO (mJ[0]?) fun kX =>
 optO (CV.asT kQ) fun pj =>
 optO (pj[1]?) fun nF =>
 chkO (CV.isCell kX) (
 optO (CV.asB nF) fun mo =>
 bif (!mo) then
 (some .err)
 else
 (some (.tup [.agg [.int .i64 jm, .list false [[jp,jx,jq,jr,jv,ju,js,jt]], .int .i64 0, .int .i64 0, .int .i64 0, .int .i64 0, .int .i64 0, .list true []],kX]))) := (Qaf _).trans (by kernel_rfl)
theorem Qc3 (lb n yH jl : Nat) (jm : Int) (jC jp jx jq jr jv ju js jt : CV) (wV : LB) :
 Qec lb n (yH + 1) jl jm jC jp jx jq jr jv ju js jt wV =
 optO (C lb n Qbl [.str wV, .str [44,32]]) fun kt =>
 optO (CV.asT kt) fun pd =>
 optO (pd[0]?) fun vg =>
 optO (CV.asT kt) fun nH =>
 optO (nH[1]?) fun ns =>
 chkO (CV.isCell vg) (
 optO (CV.asB ns) fun gg =>
 bif gg then
 (optO (CV.asS vg) fun gF =>
 panP (PE lb n gF) fun nY gk =>
 optO (CV.asA nY) fun wk =>
 chkO (wk.length == 8) (
 optO (wk[0]?) fun nw =>
 optO (wk[1]?) fun mR =>
 optO (wk[2]?) fun gN =>
 optO (wk[3]?) fun mA =>
 optO (wk[4]?) fun gW =>
 optO (wk[5]?) fun na =>
 optO (wk[6]?) fun mH =>
 optO (wk[7]?) fun n5 =>
 Qdm lb n yH jl jm jC jp jx jq jr jv ju js jt gk [[jp,jx,jq,jr,jv,ju,js,jt],[nw,mR,gN,mA,gW,na,mH,n5]]))
 else
 (Qea lb n jl jm jC jp jx jq jr jv ju js jt vg)) := (Qaf _).trans (by kernel_rfl)
noncomputable def Qed (lb n : Nat) (j2 : Int) (jG : CV) : Option CV :=
 hold (E0 lb n 1 998 (sub (B Qab) [1,1]) (retK Tryz.prog (R Qab) 1 partK) ⟨fr 66 [(0, .ptr 0 0 0),(2, .ptr 1 2 0),(3,vI j2)],[bx 1 [(0,some [.val jG])],bx 66 [(2,some [vI 0, .lst true true 27 [],vI 0,vI 0,vI 0,vI 0,vI 0, .lst true true 9 []])]],KK⟩)
noncomputable def Qf1 (lb n : Nat) (j2 : Int) (jG jQ : CV) (wn : Int) : Option CV :=
 hold (E0 lb n 1 996 (sub (B Qab) [1,1,1,1]) (retK Tryz.prog (R Qab) 1 partK) ⟨fr 66 [(0, .ptr 0 0 0),(2, .ptr 1 2 0),(3,vI j2),(5,vI wn),(36, .ptr 0 0 0),(37, .ptr 0 0 0),(38, .ptr 0 0 0),(39,vV jG),(40,vV jQ)],[bx 1 [(0,some [.val jG])],bx 66 [(2,some [vI 0, .lst true true 27 [],vI 0,vI 0,vI 0,vI 0,vI 0, .lst true true 9 []])]],KK⟩)
theorem QiH (lb n : Nat) (j2 : Int) (jG jQ : CV) (wn : Int) :
 Qf1 lb n j2 jG jQ wn =
 optO (CV.asS jG) fun oI =>
 chkO (decide ((0 : Int) ≤ wn ∧ wn ≤ (oI.length : Int))) (
 optO (C lb n Qcb [.str ((oI.take wn.toNat).drop 0), .str [32]]) fun nG =>
 optO (CV.asS jG) fun vf =>
 chkO (decide ((0 : Int) ≤ wn ∧ wn ≤ (vf.length : Int))) (
 panO (LE lb n nG) fun gR =>
 optO (CV.asA gR) fun wl =>
 chkO (wl.length == 8) (
 optO (wl[0]?) fun nC =>
 optO (wl[1]?) fun md =>
 optO (wl[2]?) fun mO =>
 optO (wl[3]?) fun nZ =>
 optO (wl[4]?) fun gu =>
 optO (wl[5]?) fun pq =>
 optO (wl[6]?) fun nT =>
 optO (wl[7]?) fun mF =>
 some (.tup [.agg [nC,md,mO,nZ,gu,pq,nT,mF], .str ((vf.take ((vf.length : Int).toNat)).drop wn.toNat)])))) := (Qaf _).trans (by kernel_rfl)
noncomputable def Qf3 (lb n : Nat) (j2 : Int) (jQ jG : CV) : Option CV :=
 hold (E0 lb n 1 996 (sub (B Qab) [1,1,1,1]) (retK Tryz.prog (R Qab) 1 partK) ⟨fr 66 [(0, .ptr 0 0 0),(2, .ptr 1 2 0),(3,vI j2),(5,vV jQ),(36, .ptr 0 0 0),(37, .ptr 0 0 0),(38, .ptr 0 0 0),(39,vV jG),(40,vV jQ)],[bx 1 [(0,some [.val jG])],bx 66 [(2,some [vI 0, .lst true true 27 [],vI 0,vI 0,vI 0,vI 0,vI 0, .lst true true 9 []])]],KK⟩)
theorem QiL (lb n : Nat) (j2 : Int) (jQ jG : CV) :
 Qf3 lb n j2 jQ jG =
 optO (CV.asS jG) fun kJ =>
 optO (CV.asN jQ) fun va =>
 chkO (decide ((0 : Int) ≤ va ∧ va ≤ (kJ.length : Int))) (
 optO (C lb n Qcb [.str ((kJ.take va.toNat).drop 0), .str [32]]) fun gP =>
 optO (CV.asS jG) fun y9 =>
 optO (CV.asN jQ) fun ve =>
 chkO (decide ((0 : Int) ≤ ve ∧ ve ≤ (y9.length : Int))) (
 panO (LE lb n gP) fun n8 =>
 optO (CV.asA n8) fun wm =>
 chkO (wm.length == 8) (
 optO (wm[0]?) fun nv =>
 optO (wm[1]?) fun gn =>
 optO (wm[2]?) fun ny =>
 optO (wm[3]?) fun gz =>
 optO (wm[4]?) fun gH =>
 optO (wm[5]?) fun mE =>
 optO (wm[6]?) fun pr =>
 optO (wm[7]?) fun pc =>
 some (.tup [.agg [nv,gn,ny,gz,gH,mE,pr,pc], .str ((y9.take ((y9.length : Int).toNat)).drop ve.toNat)])))) := (Qaf _).trans (by kernel_rfl)
theorem QiO (lb n : Nat) (j2 : Int) (jG : CV) :
 Qed lb n j2 jG =
 optO (C lb n Qao [jG, .str [44,41]]) fun jQ =>
 optO (CV.asI .i64 jQ) fun mr =>
 bif (decide (mr < 0)) then
 (optO (CV.asS jG) fun nq =>
 Qf1 lb n j2 jG jQ (nq.length : Int))
 else
 (Qf3 lb n j2 jQ jG ) := (Qaf _).trans (by kernel_rfl)
theorem Qb2 (lb n jl : Nat) (jm : Int) (yj : CV) :
 cond_reader_part_L1 lb n (jl + 1) jm yj =
 bif (decide (jm ≤ 4)) then
 (optO (C lb n Qar [.int .i64 jm]) fun pf =>
 optO (CV.asA pf) fun wg =>
 chkO (wg.length == 9) (
 optO (wg[0]?) fun mB =>
 optO (wg[1]?) fun qS =>
 optO (wg[2]?) fun qU =>
 optO (wg[3]?) fun qR =>
 optO (wg[4]?) fun qW =>
 optO (wg[5]?) fun qL =>
 optO (wg[6]?) fun qO =>
 optO (wg[7]?) fun qT =>
 optO (wg[8]?) fun qP =>
 optO (CV.asS mB) fun ks =>
 chkO (decide (ks.length + [40].length ≤ 9223372036854775807)) (
 optO (C lb n Qbl [yj, .str (ks ++ [40])]) fun kE =>
 optO (CV.asT kE) fun nd =>
 optO (nd[0]?) fun y8 =>
 optO (CV.asT kE) fun nA =>
 optO (nA[1]?) fun pt =>
 chkO (CV.isCell y8) (
 optO (CV.asB pt) fun mj =>
 bif (!mj) then
 (Qf2 lb n jl jm y8)
 else
 (optO (CV.asS y8) fun gt =>
 panP (PE lb n gt) fun jC wV =>
 optO (CV.asA jC) fun wj =>
 chkO (wj.length == 8) (
 optO (wj[0]?) fun jp =>
 optO (wj[1]?) fun jx =>
 optO (wj[2]?) fun jq =>
 optO (wj[3]?) fun jr =>
 optO (wj[4]?) fun jv =>
 optO (wj[5]?) fun ju =>
 optO (wj[6]?) fun js =>
 optO (wj[7]?) fun jt =>
 Qec lb n n jl jm jC jp jx jq jr jv ju js jt wV ))))))
 else
 (Qed lb n  jm yj) := (Qaf _).trans (by kernel_rfl)
theorem Qku (lb n : Nat) (a1 : LB) :
 PT lb n a1 =
 cond_reader_part_L1 lb n n  2 (.str a1) := by kernel_rfl
end Go.Proofs.K4
