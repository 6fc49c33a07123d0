/- Equations of functions, printed by program. Conditions: none. -/
import Derived.Test.YtmpbijffaepkdaaGreatDoorEv
namespace Go.Proofs
open Go.Am
set_option maxRecDepth 100000
set_option linter.unusedVariables false
noncomputable def r20_Same_L1 :=
 fun lb n (yr : Nat) jZ (j3 : Bool) (j5 : LL) j6 j9 jq jy js (jt : Bool) (jn : LL) j7 (wk : Bool) (wl : LL) wn wm j1 j2 j0 (j4 : Bool) (j8 : LL) i46 =>
 hold (QaN (E0 lb n 0 994) 0 (Qaz (sub (B QaO) [1,1,0,1,0,0]) ++ []) [] (sub (B QaO) [1,1,0,1,0,0]) (QaR 0 (seqK (E0 lb n 0 997) (sub (B QaO) [1,1,0]) (sub (B QaO) [1,1,1]) (retK Tryz.prog (R QaO) 0 (outK (Qap Tryz.prog QaO))))) yr ⟨fr 68 [(0, .val (.agg [.int .i64 jZ, .list j3 j5, .int .i64 j6, .int .i64 j9, .int .i64 jq, .int .i64 jy, .int .i64 js, .list jt jn])),(1, .val (.agg [.int .i64 j7, .list wk wl, .int .i64 wn, .int .i64 wm, .int .i64 j1, .int .i64 j2, .int .i64 j0, .list j4 j8])),(2, .ptr 0 2 0),(3, .ptr 0 3 0),(4,vB false),(5,vI i46)],[bx 68 [(2,some [vI jZ, .val (.list j3 j5),vI j6,vI j9,vI jq,vI jy,vI js, .val (.list jt jn)]),(3,some [vI j7, .val (.list wk wl),vI wn,vI wm,vI j1,vI j2,vI j0, .val (.list j4 j8)])]],KK⟩)
noncomputable def Qhn (lb n : Nat) (jZ : Int) (j3 : Bool) (j5 : LL) (j6 j9 jq jy js : Int) (jt : Bool) (jn : LL) (j7 : Int) (wk : Bool) (wl : LL) (wn wm j1 j2 j0 : Int) (j4 : Bool) (j8 : LL) (y8 : Int) : Option CV :=
 hold (E0 lb n 0 997 (sub (B QaO) [1,1,1]) (retK Tryz.prog (R QaO) 0 (outK (Qap Tryz.prog QaO))) ⟨fr 68 [(0, .val (.agg [.int .i64 jZ, .list j3 j5, .int .i64 j6, .int .i64 j9, .int .i64 jq, .int .i64 jy, .int .i64 js, .list jt jn])),(1, .val (.agg [.int .i64 j7, .list wk wl, .int .i64 wn, .int .i64 wm, .int .i64 j1, .int .i64 j2, .int .i64 j0, .list j4 j8])),(2, .ptr 0 2 0),(3, .ptr 0 3 0),(4,vB false),(5,vI y8)],[bx 68 [(2,some [vI jZ, .val (.list j3 j5),vI j6,vI j9,vI jq,vI jy,vI js, .val (.list jt jn)]),(3,some [vI j7, .val (.list wk wl),vI wn,vI wm,vI j1,vI j2,vI j0, .val (.list j4 j8)])]],KK⟩)
theorem Qiw (lb n : Nat) (jZ : Int) (j3 : Bool) (j5 : LL) (j6 j9 jq jy js : Int) (jt : Bool) (jn : LL) (j7 : Int) (wk : Bool) (wl : LL) (wn wm j1 j2 j0 : Int) (j4 : Bool) (j8 : LL) (y8 : Int) :
 Qhn lb n jZ j3 j5 j6 j9 jq jy js jt jn j7 wk wl wn wm j1 j2 j0 j4 j8 y8 =
 some (.bool true) := (Qao _).trans (by kernel_rfl)
theorem Qed (lb n yr : Nat) (jZ : Int) (j3 : Bool) (j5 : LL) (j6 j9 jq jy js : Int) (jt : Bool) (jn : LL) (j7 : Int) (wk : Bool) (wl : LL) (wn wm j1 j2 j0 : Int) (j4 : Bool) (j8 : LL) (i46 : Int) :
 r20_Same_L1 lb n (yr + 1) jZ j3 j5 j6 j9 jq jy js jt jn j7 wk wl wn wm j1 j2 j0 j4 j8 i46 =
 bif (decide (i46 < (j5.length : Int))) then
 (optO (atL j5 i46) fun wF =>
 chkO (wF.length == 8) (
 optO (wF[0]?) fun w5 =>
 optO (wF[1]?) fun yF =>
 optO (wF[2]?) fun w3 =>
 optO (wF[3]?) fun vL =>
 optO (wF[4]?) fun yW =>
 optO (wF[5]?) fun yZ =>
 optO (wF[6]?) fun yH =>
 optO (wF[7]?) fun kQ =>
 optO (atL wl i46) fun wD =>
 chkO (wD.length == 8) (
 optO (wD[0]?) fun kR =>
 optO (wD[1]?) fun kr =>
 optO (wD[2]?) fun kB =>
 optO (wD[3]?) fun kd =>
 optO (wD[4]?) fun kS =>
 optO (wD[5]?) fun kD =>
 optO (wD[6]?) fun vK =>
 optO (wD[7]?) fun vG =>
 optO (C lb n QaO [.agg [w5,yF,w3,vL,yW,yZ,yH,kQ], .agg [kR,kr,kB,kd,kS,kD,vK,vG]]) fun k8 =>
 optO (CV.asB k8) fun k5 =>
 bif (!k5) then
 (some (.bool false))
 else
 (r20_Same_L1 lb n yr jZ j3 j5 j6 j9 jq jy js jt jn j7 wk wl wn wm j1 j2 j0 j4 j8 (IntKind.wrap .i64 (i46 + 1))))))
 else
 (Qhn lb n jZ j3 j5 j6 j9 jq jy js jt jn j7 wk wl wn wm j1 j2 j0 j4 j8 i46) := (Qao _).trans (by kernel_rfl)
theorem Qky (lb n : Nat) (jZ : Int) (j3 : Bool) (j5 : LL) (j6 j9 jq jy js : Int) (jt : Bool) (jn : LL) (j7 : Int) (wk : Bool) (wl : LL) (wn wm j1 j2 j0 : Int) (j4 : Bool) (j8 : LL) :
 top lb n QaO [.agg [.int .i64 jZ, .list j3 j5, .int .i64 j6, .int .i64 j9, .int .i64 jq, .int .i64 jy, .int .i64 js, .list jt jn], .agg [.int .i64 j7, .list wk wl, .int .i64 wn, .int .i64 wm, .int .i64 j1, .int .i64 j2, .int .i64 j0, .list j4 j8]] =
 bif (jZ != j7) then
 (some (.bool false))
 else
 (bif (j6 != wn) then
 (some (.bool false))
 else
 (bif (j9 != wm) then
 (some (.bool false))
 else
 (bif (!((jq == j1) && ((jy == j2) && ((js == j0) && true)))) then
 (some (.bool false))
 else
 (bif ((j5.length : Int) != (wl.length : Int)) then
 (some (.bool false))
 else
 (optO (C lb n Qa3 [.list jt jn, .list j4 j8]) fun kG =>
 optO (CV.asB kG) fun kI =>
 bif (!kI) then
 (some (.bool false))
 else
 (r20_Same_L1 lb n n jZ j3 j5 j6 j9 jq jy js jt jn j7 wk wl wn wm j1 j2 j0 j4 j8 0)))))) := by kernel_rfl
noncomputable def QdF (lb n ym : Nat) (ju jr : Int) (jx : Bool) (jK : LL) (jL jJ awheperfro7 ji awheperday10 : Int) (jj : Bool) (jm : LL) (jB : Bool) (jD : LL) (jM jN jQ jP : Int) (jA : Bool) (jC : LL) (jV jp : Int) (jv : Bool) (jG : LL) (jE jF bwheperfro28 jk bwheperday30 : Int) (jl : Bool) (jo : LL) (jI : Bool) (jR : LL) (jU jX jT jW : Int) (jH : Bool) (jS : LL) (jz : Int) : Option CV :=
 hold (QaN (E0 lb n 0 994) 0 (Qaz (sub (B Qav) [1,1,0,1,0,0]) ++ []) [] (sub (B Qav) [1,1,0,1,0,0]) (QaR 0 (seqK (E0 lb n 0 997) (sub (B Qav) [1,1,0]) (sub (B Qav) [1,1,1]) (retK Tryz.prog (R Qav) 0 (outK (Qap Tryz.prog Qav))))) ym ⟨fr 102 [(0, .val (.agg [.int .i64 ju, .int .i64 jr, .list jx jK, .int .i64 jL, .int .i64 jJ, .int .i64 awheperfro7, .int .i64 ji, .int .i64 awheperday10, .list jj jm, .list jB jD, .int .i64 jM, .int .i64 jN, .int .i64 jQ, .int .i64 jP, .list jA jC])),(1, .val (.agg [.int .i64 jV, .int .i64 jp, .list jv jG, .int .i64 jE, .int .i64 jF, .int .i64 bwheperfro28, .int .i64 jk, .int .i64 bwheperday30, .list jl jo, .list jI jR, .int .i64 jU, .int .i64 jX, .int .i64 jT, .int .i64 jW, .list jH jS])),(2, .ptr 0 2 0),(3, .ptr 0 3 0),(4,vB false),(5,vI jz)],[bx 102 [(2,some [vI ju,vI jr, .val (.list jx jK),vI jL,vI jJ,vI awheperfro7,vI ji,vI awheperday10, .val (.list jj jm), .val (.list jB jD),vI jM,vI jN,vI jQ,vI jP, .val (.list jA jC)]),(3,some [vI jV,vI jp, .val (.list jv jG),vI jE,vI jF,vI bwheperfro28,vI jk,vI bwheperday30, .val (.list jl jo), .val (.list jI jR),vI jU,vI jX,vI jT,vI jW, .val (.list jH jS)])]],KK⟩)
noncomputable def Qhm (lb n : Nat) (ju jr : Int) (jx : Bool) (jK : LL) (jL jJ awheperfro7 ji awheperday10 : Int) (jj : Bool) (jm : LL) (jB : Bool) (jD : LL) (jM jN jQ jP : Int) (jA : Bool) (jC : LL) (jV jp : Int) (jv : Bool) (jG : LL) (jE jF bwheperfro28 jk bwheperday30 : Int) (jl : Bool) (jo : LL) (jI : Bool) (jR : LL) (jU jX jT jW : Int) (jH : Bool) (jS : LL) (ww : Int) : Option CV :=
 hold (E0 lb n 0 997 (sub (B Qav) [1,1,1]) (retK Tryz.prog (R Qav) 0 (outK (Qap Tryz.prog Qav))) ⟨fr 102 [(0, .val (.agg [.int .i64 ju, .int .i64 jr, .list jx jK, .int .i64 jL, .int .i64 jJ, .int .i64 awheperfro7, .int .i64 ji, .int .i64 awheperday10, .list jj jm, .list jB jD, .int .i64 jM, .int .i64 jN, .int .i64 jQ, .int .i64 jP, .list jA jC])),(1, .val (.agg [.int .i64 jV, .int .i64 jp, .list jv jG, .int .i64 jE, .int .i64 jF, .int .i64 bwheperfro28, .int .i64 jk, .int .i64 bwheperday30, .list jl jo, .list jI jR, .int .i64 jU, .int .i64 jX, .int .i64 jT, .int .i64 jW, .list jH jS])),(2, .ptr 0 2 0),(3, .ptr 0 3 0),(4,vB false),(5,vI ww)],[bx 102 [(2,some [vI ju,vI jr, .val (.list jx jK),vI jL,vI jJ,vI awheperfro7,vI ji,vI awheperday10, .val (.list jj jm), .val (.list jB jD),vI jM,vI jN,vI jQ,vI jP, .val (.list jA jC)]),(3,some [vI jV,vI jp, .val (.list jv jG),vI jE,vI jF,vI bwheperfro28,vI jk,vI bwheperday30, .val (.list jl jo), .val (.list jI jR),vI jU,vI jX,vI jT,vI jW, .val (.list jH jS)])]],KK⟩)
noncomputable def QdH (lb n yo : Nat) (ju jr : Int) (jx : Bool) (jK : LL) (jL jJ awheperfro7 ji awheperday10 : Int) (jj : Bool) (jm : LL) (jB : Bool) (jD : LL) (jM jN jQ jP : Int) (jA : Bool) (jC : LL) (jV jp : Int) (jv : Bool) (jG : LL) (jE jF bwheperfro28 jk bwheperday30 : Int) (jl : Bool) (jo : LL) (jI : Bool) (jR : LL) (jU jX jT jW : Int) (jH : Bool) (jS : LL) (ww i76 : Int) : Option CV :=
 hold (QaN (E0 lb n 0 993) 0 (Qaz (sub (B Qav) [1,1,1,0,1,0,0]) ++ []) [] (sub (B Qav) [1,1,1,0,1,0,0]) (QaR 2 (seqK (E0 lb n 0 996) (sub (B Qav) [1,1,1,0]) (sub (B Qav) [1,1,1,1]) (retK Tryz.prog (R Qav) 0 (outK (Qap Tryz.prog Qav))))) yo ⟨fr 102 [(0, .val (.agg [.int .i64 ju, .int .i64 jr, .list jx jK, .int .i64 jL, .int .i64 jJ, .int .i64 awheperfro7, .int .i64 ji, .int .i64 awheperday10, .list jj jm, .list jB jD, .int .i64 jM, .int .i64 jN, .int .i64 jQ, .int .i64 jP, .list jA jC])),(1, .val (.agg [.int .i64 jV, .int .i64 jp, .list jv jG, .int .i64 jE, .int .i64 jF, .int .i64 bwheperfro28, .int .i64 jk, .int .i64 bwheperday30, .list jl jo, .list jI jR, .int .i64 jU, .int .i64 jX, .int .i64 jT, .int .i64 jW, .list jH jS])),(2, .ptr 0 2 0),(3, .ptr 0 3 0),(4,vB false),(5,vI ww),(6,vI i76)],[bx 102 [(2,some [vI ju,vI jr, .val (.list jx jK),vI jL,vI jJ,vI awheperfro7,vI ji,vI awheperday10, .val (.list jj jm), .val (.list jB jD),vI jM,vI jN,vI jQ,vI jP, .val (.list jA jC)]),(3,some [vI jV,vI jp, .val (.list jv jG),vI jE,vI jF,vI bwheperfro28,vI jk,vI bwheperday30, .val (.list jl jo), .val (.list jI jR),vI jU,vI jX,vI jT,vI jW, .val (.list jH jS)])]],KK⟩)
noncomputable def Qg0 (lb n : Nat) (ju jr : Int) (jx : Bool) (jK : LL) (jL jJ awheperfro7 ji awheperday10 : Int) (jj : Bool) (jm : LL) (jB : Bool) (jD : LL) (jM jN jQ jP : Int) (jA : Bool) (jC : LL) (jV jp : Int) (jv : Bool) (jG : LL) (jE jF bwheperfro28 jk bwheperday30 : Int) (jl : Bool) (jo : LL) (jI : Bool) (jR : LL) (jU jX jT jW : Int) (jH : Bool) (jS : LL) (ww y1 : Int) : Option CV :=
 hold (E0 lb n 0 996 (sub (B Qav) [1,1,1,1]) (retK Tryz.prog (R Qav) 0 (outK (Qap Tryz.prog Qav))) ⟨fr 102 [(0, .val (.agg [.int .i64 ju, .int .i64 jr, .list jx jK, .int .i64 jL, .int .i64 jJ, .int .i64 awheperfro7, .int .i64 ji, .int .i64 awheperday10, .list jj jm, .list jB jD, .int .i64 jM, .int .i64 jN, .int .i64 jQ, .int .i64 jP, .list jA jC])),(1, .val (.agg [.int .i64 jV, .int .i64 jp, .list jv jG, .int .i64 jE, .int .i64 jF, .int .i64 bwheperfro28, .int .i64 jk, .int .i64 bwheperday30, .list jl jo, .list jI jR, .int .i64 jU, .int .i64 jX, .int .i64 jT, .int .i64 jW, .list jH jS])),(2, .ptr 0 2 0),(3, .ptr 0 3 0),(4,vB false),(5,vI ww),(6,vI y1)],[bx 102 [(2,some [vI ju,vI jr, .val (.list jx jK),vI jL,vI jJ,vI awheperfro7,vI ji,vI awheperday10, .val (.list jj jm), .val (.list jB jD),vI jM,vI jN,vI jQ,vI jP, .val (.list jA jC)]),(3,some [vI jV,vI jp, .val (.list jv jG),vI jE,vI jF,vI bwheperfro28,vI jk,vI bwheperday30, .val (.list jl jo), .val (.list jI jR),vI jU,vI jX,vI jT,vI jW, .val (.list jH jS)])]],KK⟩)
theorem QiD (lb n : Nat) (ju jr : Int) (jx : Bool) (jK : LL) (jL jJ awheperfro7 ji awheperday10 : Int) (jj : Bool) (jm : LL) (jB : Bool) (jD : LL) (jM jN jQ jP : Int) (jA : Bool) (jC : LL) (jV jp : Int) (jv : Bool) (jG : LL) (jE jF bwheperfro28 jk bwheperday30 : Int) (jl : Bool) (jo : LL) (jI : Bool) (jR : LL) (jU jX jT jW : Int) (jH : Bool) (jS : LL) (ww y1 : Int) :
 Qg0 lb n ju jr jx jK jL jJ awheperfro7 ji awheperday10 jj jm jB jD jM jN jQ jP jA jC jV jp jv jG jE jF bwheperfro28 jk bwheperday30 jl jo jI jR jU jX jT jW jH jS ww y1 =
 some (.bool true) := (Qao _).trans (by kernel_rfl)
theorem Qef (lb n yo : Nat) (ju jr : Int) (jx : Bool) (jK : LL) (jL jJ awheperfro7 ji awheperday10 : Int) (jj : Bool) (jm : LL) (jB : Bool) (jD : LL) (jM jN jQ jP : Int) (jA : Bool) (jC : LL) (jV jp : Int) (jv : Bool) (jG : LL) (jE jF bwheperfro28 jk bwheperday30 : Int) (jl : Bool) (jo : LL) (jI : Bool) (jR : LL) (jU jX jT jW : Int) (jH : Bool) (jS : LL) (ww i76 : Int) :
 QdH lb n (yo + 1) ju jr jx jK jL jJ awheperfro7 ji awheperday10 jj jm jB jD jM jN jQ jP jA jC jV jp jv jG jE jF bwheperfro28 jk bwheperday30 jl jo jI jR jU jX jT jW jH jS ww i76 =
 bif (decide (i76 < (jC.length : Int))) then
 (optO (atL jC i76) fun yC =>
 chkO (yC.length == 2) (
 optO (yC[0]?) fun ke =>
 optO (yC[1]?) fun ko =>
 optO (atL jS i76) fun yE =>
 chkO (yE.length == 2) (
 optO (yE[0]?) fun yO =>
 optO (yE[1]?) fun y0 =>
 optO (CV.asS ke) fun kW =>
 optO (CV.asS yO) fun kN =>
 optO (CV.asI .i64 ko) fun k0 =>
 optO (CV.asI .i64 y0) fun kJ =>
 bif (!((kW == kN) && ((k0 == kJ) && true))) then
 (some (.bool false))
 else
 (QdH lb n yo ju jr jx jK jL jJ awheperfro7 ji awheperday10 jj jm jB jD jM jN jQ jP jA jC jV jp jv jG jE jF bwheperfro28 jk bwheperday30 jl jo jI jR jU jX jT jW jH jS ww (IntKind.wrap .i64 (i76 + 1))))))
 else
 (Qg0 lb n ju jr jx jK jL jJ awheperfro7 ji awheperday10 jj jm jB jD jM jN jQ jP jA jC jV jp jv jG jE jF bwheperfro28 jk bwheperday30 jl jo jI jR jU jX jT jW jH jS ww i76) := (Qao _).trans (by kernel_rfl)
theorem QiC (lb n : Nat) (ju jr : Int) (jx : Bool) (jK : LL) (jL jJ awheperfro7 ji awheperday10 : Int) (jj : Bool) (jm : LL) (jB : Bool) (jD : LL) (jM jN jQ jP : Int) (jA : Bool) (jC : LL) (jV jp : Int) (jv : Bool) (jG : LL) (jE jF bwheperfro28 jk bwheperday30 : Int) (jl : Bool) (jo : LL) (jI : Bool) (jR : LL) (jU jX jT jW : Int) (jH : Bool) (jS : LL) (ww : Int) :
 Qhm lb n ju jr jx jK jL jJ awheperfro7 ji awheperday10 jj jm jB jD jM jN jQ jP jA jC jV jp jv jG jE jF bwheperfro28 jk bwheperday30 jl jo jI jR jU jX jT jW jH jS ww =
 QdH lb n n ju jr jx jK jL jJ awheperfro7 ji awheperday10 jj jm jB jD jM jN jQ jP jA jC jV jp jv jG jE jF bwheperfro28 jk bwheperday30 jl jo jI jR jU jX jT jW jH jS ww 0 := (Qao _).trans (by kernel_rfl)
theorem Qej (lb n ym : Nat) (ju jr : Int) (jx : Bool) (jK : LL) (jL jJ awheperfro7 ji awheperday10 : Int) (jj : Bool) (jm : LL) (jB : Bool) (jD : LL) (jM jN jQ jP : Int) (jA : Bool) (jC : LL) (jV jp : Int) (jv : Bool) (jG : LL) (jE jF bwheperfro28 jk bwheperday30 : Int) (jl : Bool) (jo : LL) (jI : Bool) (jR : LL) (jU jX jT jW : Int) (jH : Bool) (jS : LL) (jz : Int) :
 QdF lb n (ym + 1) ju jr jx jK jL jJ awheperfro7 ji awheperday10 jj jm jB jD jM jN jQ jP jA jC jV jp jv jG jE jF bwheperfro28 jk bwheperday30 jl jo jI jR jU jX jT jW jH jS jz =
 bif (decide (jz < (jD.length : Int))) then
 (optO (atL jD jz) fun vb =>
 chkO (vb.length == 1) (
 optO (vb[0]?) fun wV =>
 optO (atL jR jz) fun vg =>
 chkO (vg.length == 1) (
 optO (vg[0]?) fun w6 =>
 optO (CV.asI .i64 wV) fun vU =>
 optO (CV.asI .i64 w6) fun vQ =>
 bif (vU != vQ) then
 (some (.bool false))
 else
 (QdF lb n ym ju jr jx jK jL jJ awheperfro7 ji awheperday10 jj jm jB jD jM jN jQ jP jA jC jV jp jv jG jE jF bwheperfro28 jk bwheperday30 jl jo jI jR jU jX jT jW jH jS (IntKind.wrap .i64 (jz + 1))))))
 else
 (Qhm lb n ju jr jx jK jL jJ awheperfro7 ji awheperday10 jj jm jB jD jM jN jQ jP jA jC jV jp jv jG jE jF bwheperfro28 jk bwheperday30 jl jo jI jR jU jX jT jW jH jS jz) := (Qao _).trans (by kernel_rfl)
theorem Qkz (lb n : Nat) (ju jr : Int) (jx : Bool) (jK : LL) (jL jJ awheperfro7 ji awheperday10 : Int) (jj : Bool) (jm : LL) (jB : Bool) (jD : LL) (jM jN jQ jP : Int) (jA : Bool) (jC : LL) (jV jp : Int) (jv : Bool) (jG : LL) (jE jF bwheperfro28 jk bwheperday30 : Int) (jl : Bool) (jo : LL) (jI : Bool) (jR : LL) (jU jX jT jW : Int) (jH : Bool) (jS : LL) :
 top lb n Qav [.agg [.int .i64 ju, .int .i64 jr, .list jx jK, .int .i64 jL, .int .i64 jJ, .int .i64 awheperfro7, .int .i64 ji, .int .i64 awheperday10, .list jj jm, .list jB jD, .int .i64 jM, .int .i64 jN, .int .i64 jQ, .int .i64 jP, .list jA jC], .agg [.int .i64 jV, .int .i64 jp, .list jv jG, .int .i64 jE, .int .i64 jF, .int .i64 bwheperfro28, .int .i64 jk, .int .i64 bwheperday30, .list jl jo, .list jI jR, .int .i64 jU, .int .i64 jX, .int .i64 jT, .int .i64 jW, .list jH jS]] =
 bif (ju != jV) then
 (some (.bool false))
 else
 (optO (C lb n QaO [.agg [.int .i64 jr, .list jx jK, .int .i64 jL, .int .i64 jJ, .int .i64 awheperfro7, .int .i64 ji, .int .i64 awheperday10, .list jj jm], .agg [.int .i64 jp, .list jv jG, .int .i64 jE, .int .i64 jF, .int .i64 bwheperfro28, .int .i64 jk, .int .i64 bwheperday30, .list jl jo]]) fun kH =>
 optO (CV.asB kH) fun kl =>
 bif (!kl) then
 (some (.bool false))
 else
 (bif ((jD.length : Int) != (jR.length : Int)) then
 (some (.bool false))
 else
 (bif (jM != jU) then
 (some (.bool false))
 else
 (bif (jN != jX) then
 (some (.bool false))
 else
 (bif (jQ != jT) then
 (some (.bool false))
 else
 (bif (jP != jW) then
 (some (.bool false))
 else
 (bif ((jC.length : Int) != (jS.length : Int)) then
 (some (.bool false))
 else
 (QdF lb n n ju jr jx jK jL jJ awheperfro7 ji awheperday10 jj jm jB jD jM jN jQ jP jA jC jV jp jv jG jE jF bwheperfro28 jk bwheperday30 jl jo jI jR jU jX jT jW jH jS 0)))))))) := by kernel_rfl
noncomputable def QdC (lb n yd : Nat) (wj : Bool) (a2 : LL) (wx : Bool) (b4 : LL) (wI : Int) : Option CV :=
 hold (QaN (E0 lb n 0 994) 0 (Qaz (sub (B Qa3) [1,1,0,1,0,0]) ++ []) [] (sub (B Qa3) [1,1,0,1,0,0]) (QaR 0 (seqK (E0 lb n 0 997) (sub (B Qa3) [1,1,0]) (sub (B Qa3) [1,1,1]) (retK Tryz.prog (R Qa3) 0 (outK (Qap Tryz.prog Qa3))))) yd ⟨fr 26 [(0, .val (.list wj a2)),(1, .val (.list wx b4)),(4,vB false),(5,vI wI)],[bx 26 []],KK⟩)
noncomputable def Qhk (lb n : Nat) (wj : Bool) (a2 : LL) (wx : Bool) (b4 : LL) (yP : Int) : Option CV :=
 hold (E0 lb n 0 997 (sub (B Qa3) [1,1,1]) (retK Tryz.prog (R Qa3) 0 (outK (Qap Tryz.prog Qa3))) ⟨fr 26 [(0, .val (.list wj a2)),(1, .val (.list wx b4)),(4,vB false),(5,vI yP)],[bx 26 []],KK⟩)
theorem Qin (lb n : Nat) (wj : Bool) (a2 : LL) (wx : Bool) (b4 : LL) (yP : Int) :
 Qhk lb n wj a2 wx b4 yP =
 some (.bool true) := (Qao _).trans (by kernel_rfl)
theorem Qem (lb n yd : Nat) (wj : Bool) (a2 : LL) (wx : Bool) (b4 : LL) (wI : Int) :
 QdC lb n (yd + 1) wj a2 wx b4 wI =
 bif (decide (wI < (a2.length : Int))) then
 (optO (atL a2 wI) fun c21 =>
 chkO (c21.length == 1) (
 optO (c21[0]?) fun y2 =>
 optO (atL b4 wI) fun ve =>
 chkO (ve.length == 1) (
 optO (ve[0]?) fun va =>
 optO (CV.asS y2) fun kA =>
 optO (CV.asS va) fun kK =>
 bif (!(kA == kK)) then
 (some (.bool false))
 else
 (QdC lb n yd wj a2 wx b4 (IntKind.wrap .i64 (wI + 1))))))
 else
 (Qhk lb n wj a2 wx b4 wI) := (Qao _).trans (by kernel_rfl)
theorem QkD (lb n : Nat) (wj : Bool) (a2 : LL) (wx : Bool) (b4 : LL) :
 top lb n Qa3 [.list wj a2, .list wx b4] =
 bif ((a2.length : Int) != (b4.length : Int)) then
 (some (.bool false))
 else
 (QdC lb n n wj a2 wx b4 0) := by kernel_rfl
end Go.Proofs
