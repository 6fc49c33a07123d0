/- Equations of functions, printed by program. Conditions: none. -/
import Derived.Test.YtdcpdknginpohaaGreatDoorEv
namespace Go.Proofs
open Go.Am
set_option maxRecDepth 100000
set_option linter.unusedVariables false
noncomputable def revision_split_L1 :=
 fun lb n (pA : Nat) (ja : Bool) (aair2 : LL) (jb : Bool) (adis4 : LL) jh jg jd jf jc (je : Bool) (bleg12 : LL) j0 j7 j3 jm jI jl j4 j6 (jQ : Bool) (j5 : LL) vO (kA : Bool × LL) =>
 hold (Qas (E0 lb n 0 994) 0 (Qad (sub (B Qao) [1, 1, 0, 1, 0, 0]) ++ []) [10, 11] (sub (B Qao) [1, 1, 0, 1, 0, 0]) (Qaj 0 (seqK (E0 lb n 0 997) (sub (B Qao) [1, 1, 0]) (sub (B Qao) [1, 1, 1]) (retK Tryz.prog (R Qao) 0 (outK (Qag Tryz.prog Qao))))) pA ⟨fr 55 [(0, .val (.agg [.list ja aair2, .list jb adis4])), (1, .val (.agg [.str jh, .int .i64 jg, .int .i64 jd, .int .i64 jf, .int .i64 jc, .list je bleg12])), (2, .val (.agg [.int .i64 j0, .str j7, .int .i64 j3, .int .i64 jm, .int .i64 jI, .int .i64 jl, .int .i64 j4, .str j6, .list jQ j5])), (3, .ptr 0 3 0), (4, .ptr 0 4 0), (5, .ptr 0 5 0), (6, .lst true true 42 []), (7, vI 0), (8, .lst true true 42 []), (14, .ptr 0 4 2), (15, .val (.agg [.int .i64 jd, .int .i64 jf, .int .i64 jc])), (16, .ptr 0 5 3), (17, .val (.agg [.int .i64 jm, .int .i64 jI, .int .i64 jl])), (18, vV vO), (19, .val (.int .i64 (kA.2.length : Int))), (20, vI 0)], [bx 55 [(3, some [.val (.list ja aair2), .val (.list jb adis4)]), (4, some [vS jh, vI jg, vI jd, vI jf, vI jc, .val (.list je bleg12)]), (5, some [vI j0, vS j7, vI j3, vI jm, vI jI, vI jl, vI j4, vS j6, .val (.list jQ j5)])]], KK⟩)
noncomputable def Qep (lb n pk : Nat) (ja : Bool) (aair2 : LL) (jb : Bool) (adis4 : LL) (jh : LB) (jg jd jf jc : Int) (je : Bool) (bleg12 : LL) (j0 : Int) (j7 : LB) (j3 jm jI jl j4 : Int) (j6 : LB) (jQ : Bool) (j5 : LL) (vO : CV) (kA : Bool × LL) (gc po : Nat) (gW : Int) (l46 : LL) : Option CV :=
 hold (Qas (E0 lb n 0 994) 0 (Qad (sub (B Qao) [1, 1, 0, 1, 0, 0]) ++ []) [10, 11] (sub (B Qao) [1, 1, 0, 1, 0, 0]) (Qaj 0 (seqK (E0 lb n 0 997) (sub (B Qao) [1, 1, 0]) (sub (B Qao) [1, 1, 1]) (retK Tryz.prog (R Qao) 0 (outK (Qag Tryz.prog Qao))))) pk ⟨fr 55 [(0, .val (.agg [.list ja aair2, .list jb adis4])), (1, .val (.agg [.str jh, .int .i64 jg, .int .i64 jd, .int .i64 jf, .int .i64 jc, .list je bleg12])), (2, .val (.agg [.int .i64 j0, .str j7, .int .i64 j3, .int .i64 jm, .int .i64 jI, .int .i64 jl, .int .i64 j4, .str j6, .list jQ j5])), (3, .ptr 0 3 0), (4, .ptr 0 4 0), (5, .ptr 0 5 0), (6, .lst true true 42 []), (7, vI 0), (8, .rsl 42 0 8 0 gc po), (14, .ptr 0 4 2), (15, .val (.agg [.int .i64 jd, .int .i64 jf, .int .i64 jc])), (16, .ptr 0 5 3), (17, .val (.agg [.int .i64 jm, .int .i64 jI, .int .i64 jl])), (18, vV vO), (19, .val (.int .i64 (kA.2.length : Int))), (20, vI gW)], [bx 55 [(3, some [.val (.list ja aair2), .val (.list jb adis4)]), (4, some [vS jh, vI jg, vI jd, vI jf, vI jc, .val (.list je bleg12)]), (5, some [vI j0, vS j7, vI j3, vI jm, vI jI, vI jl, vI j4, vS j6, .val (.list jQ j5)]), (8, some [.row 42 l46])]], KK⟩)
noncomputable def Qem (lb n : Nat) (ja : Bool) (aair2 : LL) (jb : Bool) (adis4 : LL) (jh : LB) (jg jd jf jc : Int) (je : Bool) (bleg12 : LL) (j0 : Int) (j7 : LB) (j3 jm jI jl j4 : Int) (j6 : LB) (jQ : Bool) (j5 : LL) (yA kJ : Nat) (l60 : LL) : Option CV :=
 hold (E0 lb n 0 997 (sub (B Qao) [1, 1, 1]) (retK Tryz.prog (R Qao) 0 (outK (Qag Tryz.prog Qao))) ⟨fr 55 [(0, .val (.agg [.list ja aair2, .list jb adis4])), (1, .val (.agg [.str jh, .int .i64 jg, .int .i64 jd, .int .i64 jf, .int .i64 jc, .list je bleg12])), (2, .val (.agg [.int .i64 j0, .str j7, .int .i64 j3, .int .i64 jm, .int .i64 jI, .int .i64 jl, .int .i64 j4, .str j6, .list jQ j5])), (3, .ptr 0 3 0), (4, .ptr 0 4 0), (5, .ptr 0 5 0), (6, .lst true true 42 []), (7, vI 0), (8, .rsl 42 0 8 0 yA kJ)], [bx 55 [(3, some [.val (.list ja aair2), .val (.list jb adis4)]), (4, some [vS jh, vI jg, vI jd, vI jf, vI jc, .val (.list je bleg12)]), (5, some [vI j0, vS j7, vI j3, vI jm, vI jI, vI jl, vI j4, vS j6, .val (.list jQ j5)]), (8, some [.row 42 l60])]], KK⟩)
noncomputable def Qbo (lb n : Nat) (K : AV → List (List (Option (List AV))) → Option CV) (jn jO : Nat) (jN : Int) (jU : Bool) (jY : LL) (jX : Bool) (jV : LL) (jT : LB) (jW jv ju js : Int) (jG : Bool) (jx : LL) (jr : Int) (jC : LB) (jB jt jy jD jz : Int) (jF : LB) (jA : Bool) (jE kQ : LL) (wv wy wx ww wu wq : CV) : Option CV :=
 I8 lb n Qaa [.rsl 42 0 8 0 jn jO, vI jN, .val (.fn Qae)] [bx 55 [(3, some [.val (.list jU jY), .val (.list jX jV)]), (4, some [vS jT, vI jW, vI jv, vI ju, vI js, .val (.list jG jx)]), (5, some [vI jr, vS jC, vI jB, vI jt, vI jy, vI jD, vI jz, vS jF, .val (.list jA jE)]), (8, some [.row 42 kQ]), (12, some [.val wv, .val wy, .val wx, .val ww, .val wu, .val wq])], bx 9 []] K
noncomputable def Qer (lb n yA : Nat) (ja : Bool) (aair2 : LL) (jb : Bool) (adis4 : LL) (jh : LB) (jg jd jf jc : Int) (je : Bool) (bleg12 : LL) (j0 : Int) (j7 : LB) (j3 jm jI jl j4 : Int) (j6 : LB) (jQ : Bool) (j5 l60 : LL) (kr kC ka kk v8 kj ol : CV) : AV → List (List (Option (List AV))) → Option CV :=
 (inlK (opAt (QaA (sub (B Qaq) [])) 4) ⟨fr 9 [(0, .rsl 42 0 8 0 (yA + 1) (yA + 1)), (1, .val (.fn Qae)), (4, .rsl 42 0 8 0 (yA + 1) (yA + 1)), (5, .rsl 42 0 8 0 (yA + 1) (yA + 1)), (6, .val (.int .i64 ((yA + 1 : Nat) : Int))), (7, .val (.fn Qae))], [bx 55 [(3, some [.val (.list ja aair2), .val (.list jb adis4)]), (4, some [vS jh, vI jg, vI jd, vI jf, vI jc, .val (.list je bleg12)]), (5, some [vI j0, vS j7, vI j3, vI jm, vI jI, vI jl, vI j4, vS j6, .val (.list jQ j5)]), (8, some [.row 42 (l60 ++ [[kr, kC, ka, kk, v8, kj]])]), (12, some [.val kr, .val kC, .val ka, .val kk, .val v8, .val kj])], bx 9 []], KK⟩ (opsK Tryz.prog (C lb n) (I8 lb n) 1 (QaA (sub (B Qaq) [])) ((QaA (sub (B Qaq) [])).drop 5) ((retK Tryz.prog (R Qaq) 1 (inlK (opAt (QaA (sub (B Qao) [1, 1, 1, 1, 0])) 1) ⟨fr 55 [(0, .val (.agg [.list ja aair2, .list jb adis4])), (1, .val (.agg [.str jh, .int .i64 jg, .int .i64 jd, .int .i64 jf, .int .i64 jc, .list je bleg12])), (2, .val (.agg [.int .i64 j0, .str j7, .int .i64 j3, .int .i64 jm, .int .i64 jI, .int .i64 jl, .int .i64 j4, .str j6, .list jQ j5])), (3, .ptr 0 3 0), (4, .ptr 0 4 0), (5, .ptr 0 5 0), (6, .lst true true 42 []), (7, vI 0), (8, .rsl 42 0 8 0 (yA + 1) (yA + 1)), (13, vV ol), (52, .rsl 42 0 8 0 (yA + 1) (yA + 1))], [bx 55 [(3, some [.val (.list ja aair2), .val (.list jb adis4)]), (4, some [vS jh, vI jg, vI jd, vI jf, vI jc, .val (.list je bleg12)]), (5, some [vI j0, vS j7, vI j3, vI jm, vI jI, vI jl, vI j4, vS j6, .val (.list jQ j5)]), (8, some [.row 42 (l60 ++ [[kr, kC, ka, kk, v8, kj]])]), (12, some [.val kr, .val kC, .val ka, .val kk, .val v8, .val kj])]], KK⟩ (opsK Tryz.prog (C lb n) (I9 lb n) 0 (QaA (sub (B Qao) [1, 1, 1, 1, 0])) ((QaA (sub (B Qao) [1, 1, 1, 1, 0])).drop 2) ((seqK (E0 lb n 0 995) (sub (B Qao) [1, 1, 1, 1, 0]) (sub (B Qao) [1, 1, 1, 1, 1]) (retK Tryz.prog (R Qao) 0 (outK (Qag Tryz.prog Qao)))) .normal)))) .normal)))
theorem Qlr (lb n yA : Nat) (ja : Bool) (aair2 : LL) (jb : Bool) (adis4 : LL) (jh : LB) (jg jd jf jc : Int) (je : Bool) (bleg12 : LL) (j0 : Int) (j7 : LB) (j3 jm jI jl j4 : Int) (j6 : LB) (jQ : Bool) (j5 l60 : LL) (kr kC ka kk v8 kj ol : CV) (l75 : LL) (rA : Bool) :
 Qer lb n yA ja aair2 jb adis4 jh jg jd jf jc je bleg12 j0 j7 j3 jm jI jl j4 j6 jQ j5 l60 kr kC ka kk v8 kj ol (.val (.tup [])) [bx 55 [(3, some [.val (.list ja aair2), .val (.list jb adis4)]), (4, some [vS jh, vI jg, vI jd, vI jf, vI jc, .val (.list je bleg12)]), (5, some [vI j0, vS j7, vI j3, vI jm, vI jI, vI jl, vI j4, vS j6, .val (.list jQ j5)]), (8, some [.row 42 l75]), (12, some [.val kr, .val kC, .val ka, .val kk, .val v8, .val kj])], bx 9 []] =
 chkO (decide ((0 + (yA + 1)) ≤ l75.length)) (
 some (.tup [.list false ((l75.drop 0).take (yA + 1)), .int .i64 0])) := by kernel_rfl
noncomputable def Qcc (lb n : Nat) (K : AV → List (List (Option (List AV))) → Option CV) (jn jO : Nat) (jN : Int) (jU : Bool) (jY : LL) (jX : Bool) (jV : LL) (jT : LB) (jW jv ju js : Int) (jG : Bool) (jx : LL) (jr : Int) (jC : LB) (jB jt jy jD jz : Int) (jF : LB) (jA : Bool) (jE kQ : LL) : Option CV :=
 I8 lb n Qaa [.rsl 42 0 8 0 jn jO, vI jN, .val (.fn Qae)] [bx 55 [(3, some [.val (.list jU jY), .val (.list jX jV)]), (4, some [vS jT, vI jW, vI jv, vI ju, vI js, .val (.list jG jx)]), (5, some [vI jr, vS jC, vI jB, vI jt, vI jy, vI jD, vI jz, vS jF, .val (.list jA jE)]), (8, some [.row 42 kQ])], bx 9 []] K
noncomputable def Qeg (lb n yA kJ : Nat) (ja : Bool) (aair2 : LL) (jb : Bool) (adis4 : LL) (jh : LB) (jg jd jf jc : Int) (je : Bool) (bleg12 : LL) (j0 : Int) (j7 : LB) (j3 jm jI jl j4 : Int) (j6 : LB) (jQ : Bool) (j5 l60 : LL) : AV → List (List (Option (List AV))) → Option CV :=
 (inlK (opAt (QaA (sub (B Qaq) [])) 4) ⟨fr 9 [(0, .rsl 42 0 8 0 yA kJ), (1, .val (.fn Qae)), (4, .rsl 42 0 8 0 yA kJ), (5, .rsl 42 0 8 0 yA kJ), (6, .val (.int .i64 ((yA : Nat) : Int))), (7, .val (.fn Qae))], [bx 55 [(3, some [.val (.list ja aair2), .val (.list jb adis4)]), (4, some [vS jh, vI jg, vI jd, vI jf, vI jc, .val (.list je bleg12)]), (5, some [vI j0, vS j7, vI j3, vI jm, vI jI, vI jl, vI j4, vS j6, .val (.list jQ j5)]), (8, some [.row 42 l60])], bx 9 []], KK⟩ (opsK Tryz.prog (C lb n) (I8 lb n) 1 (QaA (sub (B Qaq) [])) ((QaA (sub (B Qaq) [])).drop 5) ((retK Tryz.prog (R Qaq) 1 (inlK (opAt (QaA (sub (B Qao) [1, 1, 1, 1, 0])) 1) ⟨fr 55 [(0, .val (.agg [.list ja aair2, .list jb adis4])), (1, .val (.agg [.str jh, .int .i64 jg, .int .i64 jd, .int .i64 jf, .int .i64 jc, .list je bleg12])), (2, .val (.agg [.int .i64 j0, .str j7, .int .i64 j3, .int .i64 jm, .int .i64 jI, .int .i64 jl, .int .i64 j4, .str j6, .list jQ j5])), (3, .ptr 0 3 0), (4, .ptr 0 4 0), (5, .ptr 0 5 0), (6, .lst true true 42 []), (7, vI 0), (8, .rsl 42 0 8 0 yA kJ), (52, .rsl 42 0 8 0 yA kJ)], [bx 55 [(3, some [.val (.list ja aair2), .val (.list jb adis4)]), (4, some [vS jh, vI jg, vI jd, vI jf, vI jc, .val (.list je bleg12)]), (5, some [vI j0, vS j7, vI j3, vI jm, vI jI, vI jl, vI j4, vS j6, .val (.list jQ j5)]), (8, some [.row 42 l60])]], KK⟩ (opsK Tryz.prog (C lb n) (I9 lb n) 0 (QaA (sub (B Qao) [1, 1, 1, 1, 0])) ((QaA (sub (B Qao) [1, 1, 1, 1, 0])).drop 2) ((seqK (E0 lb n 0 995) (sub (B Qao) [1, 1, 1, 1, 0]) (sub (B Qao) [1, 1, 1, 1, 1]) (retK Tryz.prog (R Qao) 0 (outK (Qag Tryz.prog Qao)))) .normal)))) .normal)))
theorem Qln (lb n yA kJ : Nat) (ja : Bool) (aair2 : LL) (jb : Bool) (adis4 : LL) (jh : LB) (jg jd jf jc : Int) (je : Bool) (bleg12 : LL) (j0 : Int) (j7 : LB) (j3 jm jI jl j4 : Int) (j6 : LB) (jQ : Bool) (j5 l60 l77 : LL) (rE : Bool) :
 Qeg lb n yA kJ ja aair2 jb adis4 jh jg jd jf jc je bleg12 j0 j7 j3 jm jI jl j4 j6 jQ j5 l60 (.val (.tup [])) [bx 55 [(3, some [.val (.list ja aair2), .val (.list jb adis4)]), (4, some [vS jh, vI jg, vI jd, vI jf, vI jc, .val (.list je bleg12)]), (5, some [vI j0, vS j7, vI j3, vI jm, vI jI, vI jl, vI j4, vS j6, .val (.list jQ j5)]), (8, some [.row 42 l77])], bx 9 []] =
 chkO (decide ((0 + yA) ≤ l77.length)) (
 some (.tup [.list false ((l77.drop 0).take yA), .int .i64 0])) := by kernel_rfl
theorem Qlg (lb n : Nat) (ja : Bool) (aair2 : LL) (jb : Bool) (adis4 : LL) (jh : LB) (jg jd jf jc : Int) (je : Bool) (bleg12 : LL) (j0 : Int) (j7 : LB) (j3 jm jI jl j4 : Int) (j6 : LB) (jQ : Bool) (j5 : LL) (yA kJ : Nat) (l60 : LL) :
 Qem lb n ja aair2 jb adis4 jh jg jd jf jc je bleg12 j0 j7 j3 jm jI jl j4 j6 jQ j5 yA kJ l60 =
 bif (j0 != 2) then
 (optO (C lb n Qav [.agg [.str jh, .int .i64 jg, .int .i64 jd, .int .i64 jf, .int .i64 jc, .list je bleg12], .agg [.int .i64 j0, .str j7, .int .i64 j3, .int .i64 jm, .int .i64 jI, .int .i64 jl, .int .i64 j4, .str j6, .list jQ j5]]) fun z7 =>
 optO (CV.asA z7) fun c62 =>
 chkO (c62.length == 6) (
 optO (c62[0]?) fun kr =>
 optO (c62[1]?) fun kC =>
 optO (c62[2]?) fun ka =>
 optO (c62[3]?) fun kk =>
 optO (c62[4]?) fun v8 =>
 optO (c62[5]?) fun kj =>
 optO (C lb n Qak [.agg [.list ja aair2, .list jb adis4], .agg [kr, kC, ka, kk, v8, kj]]) fun ol =>
 optO (CV.asL ol) fun lR =>
 bif (decide ((lR.2.length : Int) > 0)) then
 (optO (CV.asL ol) fun oP =>
 optO (atL oP.2 0) fun c73 =>
 chkO (c73.length == 2) (
 optO (c73[0]?) fun zE =>
 some (.tup [.list true [], zE])))
 else
 (chkO (decide (yA = l60.length)) (
 chkO (room (yA + 1) 72) (
 Qbo lb n (Qer lb n yA ja aair2 jb adis4 jh jg jd jf jc je bleg12 j0 j7 j3 jm jI jl j4 j6 jQ j5 l60 kr kC ka kk v8 kj ol) (yA + 1) (yA + 1) ((yA + 1 : Nat) : Int) ja aair2 jb adis4 jh jg jd jf jc je bleg12 j0 j7 j3 jm jI jl j4 j6 jQ j5 (l60 ++ [[kr, kC, ka, kk, v8, kj]]) kr kC ka kk v8 kj)))))
 else
 (Qcc lb n (Qeg lb n yA kJ ja aair2 jb adis4 jh jg jd jf jc je bleg12 j0 j7 j3 jm jI jl j4 j6 jQ j5 l60) yA kJ ((yA : Nat) : Int) ja aair2 jb adis4 jh jg jd jf jc je bleg12 j0 j7 j3 jm jI jl j4 j6 jQ j5 l60) := (Qaf _).trans (by kernel_rfl)
theorem Qgh (lb n pk : Nat) (ja : Bool) (aair2 : LL) (jb : Bool) (adis4 : LL) (jh : LB) (jg jd jf jc : Int) (je : Bool) (bleg12 : LL) (j0 : Int) (j7 : LB) (j3 jm jI jl j4 : Int) (j6 : LB) (jQ : Bool) (j5 : LL) (vO : CV) (kA : Bool × LL) (gc po : Nat) (gW : Int) (l46 : LL) :
 Qep lb n (pk + 1) ja aair2 jb adis4 jh jg jd jf jc je bleg12 j0 j7 j3 jm jI jl j4 j6 jQ j5 vO kA gc po gW l46 =
 bif (decide (gW < (kA.2.length : Int))) then
 (optO (CV.asL vO) fun lh =>
 optO (atL lh.2 gW) fun c54 =>
 chkO (c54.length == 3) (
 optO (c54[0]?) fun gH =>
 optO (c54[1]?) fun oL =>
 optO (c54[2]?) fun qf =>
 chkO (decide (gc = l46.length)) (
 chkO (room (gc + 1) 72) (
 Qep lb n pk ja aair2 jb adis4 jh jg jd jf jc je bleg12 j0 j7 j3 jm jI jl j4 j6 jQ j5 vO kA (gc + 1) (gc + 1) (IntKind.wrap .i64 (gW + 1)) (l46 ++ [[CV.str jh, CV.int .i64 jg, gH, oL, qf, CV.list je bleg12]])))))
 else
 (Qem lb n ja aair2 jb adis4 jh jg jd jf jc je bleg12 j0 j7 j3 jm jI jl j4 j6 jQ j5 gc po l46) := (Qaf _).trans (by kernel_rfl)
noncomputable def Qf2 (lb n : Nat) (ja : Bool) (aair2 : LL) (jb : Bool) (adis4 : LL) (jh : LB) (jg jd jf jc : Int) (je : Bool) (bleg12 : LL) (j0 : Int) (j7 : LB) (j3 jm jI jl j4 : Int) (j6 : LB) (jQ : Bool) (j5 : LL) : Option CV :=
 hold (E0 lb n 0 997 (sub (B Qao) [1, 1, 1]) (retK Tryz.prog (R Qao) 0 (outK (Qag Tryz.prog Qao))) ⟨fr 55 [(0, .val (.agg [.list ja aair2, .list jb adis4])), (1, .val (.agg [.str jh, .int .i64 jg, .int .i64 jd, .int .i64 jf, .int .i64 jc, .list je bleg12])), (2, .val (.agg [.int .i64 j0, .str j7, .int .i64 j3, .int .i64 jm, .int .i64 jI, .int .i64 jl, .int .i64 j4, .str j6, .list jQ j5])), (3, .ptr 0 3 0), (4, .ptr 0 4 0), (5, .ptr 0 5 0), (6, .lst true true 42 []), (7, vI 0), (8, .lst true true 42 [])], [bx 55 [(3, some [.val (.list ja aair2), .val (.list jb adis4)]), (4, some [vS jh, vI jg, vI jd, vI jf, vI jc, .val (.list je bleg12)]), (5, some [vI j0, vS j7, vI j3, vI jm, vI jI, vI jl, vI j4, vS j6, .val (.list jQ j5)])]], KK⟩)
noncomputable def Qef (lb n : Nat) (ja : Bool) (aair2 : LL) (jb : Bool) (adis4 : LL) (jh : LB) (jg jd jf jc : Int) (je : Bool) (bleg12 : LL) (j0 : Int) (j7 : LB) (j3 jm jI jl j4 : Int) (j6 : LB) (jQ : Bool) (j5 : LL) (kU kW ko kl kM kV om : CV) : AV → List (List (Option (List AV))) → Option CV :=
 (inlK (opAt (QaA (sub (B Qaq) [])) 4) ⟨fr 9 [(0, .rsl 42 0 8 0 1 1), (1, .val (.fn Qae)), (4, .rsl 42 0 8 0 1 1), (5, .rsl 42 0 8 0 1 1), (6, vI 1), (7, .val (.fn Qae))], [bx 55 [(3, some [.val (.list ja aair2), .val (.list jb adis4)]), (4, some [vS jh, vI jg, vI jd, vI jf, vI jc, .val (.list je bleg12)]), (5, some [vI j0, vS j7, vI j3, vI jm, vI jI, vI jl, vI j4, vS j6, .val (.list jQ j5)]), (8, some [.row 42 [[kU, kW, ko, kl, kM, kV]]]), (12, some [.val kU, .val kW, .val ko, .val kl, .val kM, .val kV])], bx 9 []], KK⟩ (opsK Tryz.prog (C lb n) (I8 lb n) 1 (QaA (sub (B Qaq) [])) ((QaA (sub (B Qaq) [])).drop 5) ((retK Tryz.prog (R Qaq) 1 (inlK (opAt (QaA (sub (B Qao) [1, 1, 1, 1, 0])) 1) ⟨fr 55 [(0, .val (.agg [.list ja aair2, .list jb adis4])), (1, .val (.agg [.str jh, .int .i64 jg, .int .i64 jd, .int .i64 jf, .int .i64 jc, .list je bleg12])), (2, .val (.agg [.int .i64 j0, .str j7, .int .i64 j3, .int .i64 jm, .int .i64 jI, .int .i64 jl, .int .i64 j4, .str j6, .list jQ j5])), (3, .ptr 0 3 0), (4, .ptr 0 4 0), (5, .ptr 0 5 0), (6, .lst true true 42 []), (7, vI 0), (8, .rsl 42 0 8 0 1 1), (13, vV om), (52, .rsl 42 0 8 0 1 1)], [bx 55 [(3, some [.val (.list ja aair2), .val (.list jb adis4)]), (4, some [vS jh, vI jg, vI jd, vI jf, vI jc, .val (.list je bleg12)]), (5, some [vI j0, vS j7, vI j3, vI jm, vI jI, vI jl, vI j4, vS j6, .val (.list jQ j5)]), (8, some [.row 42 [[kU, kW, ko, kl, kM, kV]]]), (12, some [.val kU, .val kW, .val ko, .val kl, .val kM, .val kV])]], KK⟩ (opsK Tryz.prog (C lb n) (I9 lb n) 0 (QaA (sub (B Qao) [1, 1, 1, 1, 0])) ((QaA (sub (B Qao) [1, 1, 1, 1, 0])).drop 2) ((seqK (E0 lb n 0 995) (sub (B Qao) [1, 1, 1, 1, 0]) (sub (B Qao) [1, 1, 1, 1, 1]) (retK Tryz.prog (R Qao) 0 (outK (Qag Tryz.prog Qao)))) .normal)))) .normal)))
theorem QlG (lb n : Nat) (ja : Bool) (aair2 : LL) (jb : Bool) (adis4 : LL) (jh : LB) (jg jd jf jc : Int) (je : Bool) (bleg12 : LL) (j0 : Int) (j7 : LB) (j3 jm jI jl j4 : Int) (j6 : LB) (jQ : Bool) (j5 : LL) (kU kW ko kl kM kV om : CV) (l92 : LL) (nq : Bool) :
 Qef lb n ja aair2 jb adis4 jh jg jd jf jc je bleg12 j0 j7 j3 jm jI jl j4 j6 jQ j5 kU kW ko kl kM kV om (.val (.tup [])) [bx 55 [(3, some [.val (.list ja aair2), .val (.list jb adis4)]), (4, some [vS jh, vI jg, vI jd, vI jf, vI jc, .val (.list je bleg12)]), (5, some [vI j0, vS j7, vI j3, vI jm, vI jI, vI jl, vI j4, vS j6, .val (.list jQ j5)]), (8, some [.row 42 l92]), (12, some [.val kU, .val kW, .val ko, .val kl, .val kM, .val kV])], bx 9 []] =
 chkO (decide ((1 : Nat) ≤ l92.length)) (
 some (.tup [.list false ((l92.drop 0).take 1), .int .i64 0])) := by kernel_rfl
theorem QlI (lb n : Nat) (ja : Bool) (aair2 : LL) (jb : Bool) (adis4 : LL) (jh : LB) (jg jd jf jc : Int) (je : Bool) (bleg12 : LL) (j0 : Int) (j7 : LB) (j3 jm jI jl j4 : Int) (j6 : LB) (jQ : Bool) (j5 : LL) :
 Qf2 lb n ja aair2 jb adis4 jh jg jd jf jc je bleg12 j0 j7 j3 jm jI jl j4 j6 jQ j5 =
 bif (j0 != 2) then
 (optO (C lb n Qav [.agg [.str jh, .int .i64 jg, .int .i64 jd, .int .i64 jf, .int .i64 jc, .list je bleg12], .agg [.int .i64 j0, .str j7, .int .i64 j3, .int .i64 jm, .int .i64 jI, .int .i64 jl, .int .i64 j4, .str j6, .list jQ j5]]) fun re =>
 optO (CV.asA re) fun c80 =>
 chkO (c80.length == 6) (
 optO (c80[0]?) fun kU =>
 optO (c80[1]?) fun kW =>
 optO (c80[2]?) fun ko =>
 optO (c80[3]?) fun kl =>
 optO (c80[4]?) fun kM =>
 optO (c80[5]?) fun kV =>
 optO (C lb n Qak [.agg [.list ja aair2, .list jb adis4], .agg [kU, kW, ko, kl, kM, kV]]) fun om =>
 optO (CV.asL om) fun qh =>
 bif (decide ((qh.2.length : Int) > 0)) then
 (optO (CV.asL om) fun zo =>
 optO (atL zo.2 0) fun c90 =>
 chkO (c90.length == 2) (
 optO (c90[0]?) fun zW =>
 some (.tup [.list true [], zW])))
 else
 (Qbo lb n (Qef lb n ja aair2 jb adis4 jh jg jd jf jc je bleg12 j0 j7 j3 jm jI jl j4 j6 jQ j5 kU kW ko kl kM kV om) 1 1 1 ja aair2 jb adis4 jh jg jd jf jc je bleg12 j0 j7 j3 jm jI jl j4 j6 jQ j5 [[kU, kW, ko, kl, kM, kV]] kU kW ko kl kM kV)))
 else
 (optO (C lb n Qaq [.list true [], .fn Qae]) fun rD =>
 some (.tup [.list true [], .int .i64 0])) := (Qaf _).trans (by kernel_rfl)
theorem Qkr (lb n pA : Nat) (ja : Bool) (aair2 : LL) (jb : Bool) (adis4 : LL) (jh : LB) (jg jd jf jc : Int) (je : Bool) (bleg12 : LL) (j0 : Int) (j7 : LB) (j3 jm jI jl j4 : Int) (j6 : LB) (jQ : Bool) (j5 : LL) (vO : CV) (kA : Bool × LL) :
 revision_split_L1 lb n (pA + 1) ja aair2 jb adis4 jh jg jd jf jc je bleg12 j0 j7 j3 jm jI jl j4 j6 jQ j5 vO kA =
 bif (decide ((0 : Int) < (kA.2.length : Int))) then
 (optO (CV.asL vO) fun lk =>
 optO (atL lk.2 0) fun c34 =>
 chkO (c34.length == 3) (
 optO (c34[0]?) fun yH =>
 optO (c34[1]?) fun yG =>
 optO (c34[2]?) fun yy =>
 Qep lb n pA ja aair2 jb adis4 jh jg jd jf jc je bleg12 j0 j7 j3 jm jI jl j4 j6 jQ j5 vO kA 1 1 1 [[CV.str jh, CV.int .i64 jg, yH, yG, yy, CV.list je bleg12]]))
 else
 (Qf2 lb n ja aair2 jb adis4 jh jg jd jf jc je bleg12 j0 j7 j3 jm jI jl j4 j6 jQ j5 ) := (Qaf _).trans (by kernel_rfl)
theorem QnU (lb n : Nat) (ja : Bool) (aair2 : LL) (jb : Bool) (adis4 : LL) (jh : LB) (jg jd jf jc : Int) (je : Bool) (bleg12 : LL) (j0 : Int) (j7 : LB) (j3 jm jI jl j4 : Int) (j6 : LB) (jQ : Bool) (j5 : LL) :
 top lb n Qao [.agg [.list ja aair2, .list jb adis4], .agg [.str jh, .int .i64 jg, .int .i64 jd, .int .i64 jf, .int .i64 jc, .list je bleg12], .agg [.int .i64 j0, .str j7, .int .i64 j3, .int .i64 jm, .int .i64 jI, .int .i64 jl, .int .i64 j4, .str j6, .list jQ j5]] =
 optO (C lb n Qbt [.agg [.int .i64 jd, .int .i64 jf, .int .i64 jc], .agg [.int .i64 jm, .int .i64 jI, .int .i64 jl]]) fun vO =>
 optO (CV.asL vO) fun kA =>
 revision_split_L1 lb n n ja aair2 jb adis4 jh jg jd jf jc je bleg12 j0 j7 j3 jm jI jl j4 j6 jQ j5 vO kA  := by kernel_rfl
noncomputable def Qb6 (lb n kf : Nat) (K : AV → List (List (Option (List AV))) → Option CV) (jn jO : Nat) (jN : Int) (jU : Bool) (jY : LL) (jX : Bool) (jV : LL) (jT : LB) (jW jv ju js : Int) (jG : Bool) (jx : LL) (jr : Int) (jC : LB) (jB jt jy jD jz : Int) (jF : LB) (jA : Bool) (jE : LL) (wv wy wx ww wu wq : CV) (yO va : Int) (vq : LL) : Option CV :=
 hold (Qas (E2 lb n 2 995) 2 (Qad (sub (B Qaa) [1, 1, 0, 0, 0]) ++ []) [] (sub (B Qaa) [1, 1, 0, 0, 0]) (Qaj 0 (seqK (E2 lb n 2 997) (sub (B Qaa) [1, 1, 0]) (sub (B Qaa) [1, 1, 1]) (retK Tryz.prog (R Qaa) 2 K))) kf ⟨fr 63 [(0, .rsl 42 0 8 0 jn jO), (1, vI jN), (2, .val (.fn Qae)), (6, vI 20), (7, vI yO), (8, vI va), (10, vI 20)], [bx 55 [(3, some [.val (.list jU jY), .val (.list jX jV)]), (4, some [vS jT, vI jW, vI jv, vI ju, vI js, .val (.list jG jx)]), (5, some [vI jr, vS jC, vI jB, vI jt, vI jy, vI jD, vI jz, vS jF, .val (.list jA jE)]), (8, some [.row 42 vq]), (12, some [.val wv, .val wy, .val wx, .val ww, .val wu, .val wq])], bx 9 [], bx 63 []], KK⟩)
noncomputable def Qfs (lb n nI jn jO : Nat) (jN yO va : Int) (jU : Bool) (jY : LL) (jX : Bool) (jV : LL) (jT : LB) (jW jv ju js : Int) (jG : Bool) (jx : LL) (jr : Int) (jC : LB) (jB jt jy jD jz : Int) (jF : LB) (jA : Bool) (jE vq : LL) (wv wy wx ww wu wq : CV) (K : AV → List (List (Option (List AV))) → Option CV) (kf : Nat) (n5 : Int) (nV : LL) : Option CV :=
 hold (Qas (E3 lb n 3 997) 3 (Qad (sub (B Qab) [1, 0, 0]) ++ [9, 9]) [] (sub (B Qab) [1, 0, 0]) (Qaj 0 (retK Tryz.prog (R Qab) 3 (inlK (opAt (QaA (sub (B Qaa) [1, 1, 0, 0, 0, 1, 0, 0])) 4) ⟨fr 63 [(0, .rsl 42 0 8 0 jn jO), (1, vI jN), (2, .val (.fn Qae)), (6, vI 20), (7, vI yO), (8, vI va), (10, vI 20), (14, .rsl 42 0 8 0 jn jO), (15, vI yO), (16, vI va), (17, .val (.fn Qae))], [bx 55 [(3, some [.val (.list jU jY), .val (.list jX jV)]), (4, some [vS jT, vI jW, vI jv, vI ju, vI js, .val (.list jG jx)]), (5, some [vI jr, vS jC, vI jB, vI jt, vI jy, vI jD, vI jz, vS jF, .val (.list jA jE)]), (8, some [.row 42 vq]), (12, some [.val wv, .val wy, .val wx, .val ww, .val wu, .val wq])], bx 9 [], bx 63 []], KK⟩ (opsK Tryz.prog (C lb n) (I7 lb n) 2 (QaA (sub (B Qaa) [1, 1, 0, 0, 0, 1, 0, 0])) ((QaA (sub (B Qaa) [1, 1, 0, 0, 0, 1, 0, 0])).drop 5) ((seqK (E2 lb n 2 992) (sub (B Qaa) [1, 1, 0, 0, 0, 1, 0, 0]) (sub (B Qaa) [1, 1, 0, 0, 0, 1, 0, 1]) (Qaj 1 (Qbs 2 (Qad (sub (B Qaa) [1, 1, 0, 0, 0]) ++ []) [] (Qas (E2 lb n 2 995) 2 (Qad (sub (B Qaa) [1, 1, 0, 0, 0]) ++ []) [] (sub (B Qaa) [1, 1, 0, 0, 0]) (Qaj 0 (seqK (E2 lb n 2 997) (sub (B Qaa) [1, 1, 0]) (sub (B Qaa) [1, 1, 1]) (retK Tryz.prog (R Qaa) 2 K))) kf) (Qaj 0 (seqK (E2 lb n 2 997) (sub (B Qaa) [1, 1, 0]) (sub (B Qaa) [1, 1, 1]) (retK Tryz.prog (R Qaa) 2 K)))))) .normal))))) nI ⟨fr 53 [(0, .rsl 42 0 8 0 jn jO), (1, vI yO), (2, vI va), (3, .val (.fn Qae)), (8, vI n5), (10, vI yO), (11, .val (.int .i64 (IntKind.wrap .i64 (yO + 1))))], [bx 55 [(3, some [.val (.list jU jY), .val (.list jX jV)]), (4, some [vS jT, vI jW, vI jv, vI ju, vI js, .val (.list jG jx)]), (5, some [vI jr, vS jC, vI jB, vI jt, vI jy, vI jD, vI jz, vS jF, .val (.list jA jE)]), (8, some [.row 42 nV]), (12, some [.val wv, .val wy, .val wx, .val ww, .val wu, .val wq])], bx 9 [], bx 63 [], bx 53 []], KK⟩)
noncomputable def Qdm (lb n : Nat) (K : AV → List (List (Option (List AV))) → Option CV) (jn jO : Nat) (jN : Int) (jU : Bool) (jY : LL) (jX : Bool) (jV : LL) (jT : LB) (jW jv ju js : Int) (jG : Bool) (jx : LL) (jr : Int) (jC : LB) (jB jt jy jD jz : Int) (jF : LB) (jA : Bool) (jE : LL) (wv wy wx ww wu wq : CV) (jk wl : Int) (wo : LL) : Option CV :=
 hold (E2 lb n 2 997 (sub (B Qaa) [1, 1, 1]) (retK Tryz.prog (R Qaa) 2 K) ⟨fr 63 [(0, .rsl 42 0 8 0 jn jO), (1, vI jN), (2, .val (.fn Qae)), (6, vI 20), (7, vI jk), (8, vI wl), (10, vI 20)], [bx 55 [(3, some [.val (.list jU jY), .val (.list jX jV)]), (4, some [vS jT, vI jW, vI jv, vI ju, vI js, .val (.list jG jx)]), (5, some [vI jr, vS jC, vI jB, vI jt, vI jy, vI jD, vI jz, vS jF, .val (.list jA jE)]), (8, some [.row 42 wo]), (12, some [.val wv, .val wy, .val wx, .val ww, .val wu, .val wq])], bx 9 [], bx 63 []], KK⟩)
noncomputable def Qbi (lb n wJ jn jO : Nat) (jN jk wl : Int) (jU : Bool) (jY : LL) (jX : Bool) (jV : LL) (jT : LB) (jW jv ju js : Int) (jG : Bool) (jx : LL) (jr : Int) (jC : LB) (jB jt jy jD jz : Int) (jF : LB) (jA : Bool) (jE wo : LL) (wv wy wx ww wu wq : CV) (K : AV → List (List (Option (List AV))) → Option CV) (wz : Int) (v6 : LL) : Option CV :=
 hold (Qas (E3 lb n 3 997) 3 (Qad (sub (B Qab) [1, 0, 0]) ++ [9, 9]) [] (sub (B Qab) [1, 0, 0]) (Qaj 0 (retK Tryz.prog (R Qab) 3 (inlK (opAt (QaA (sub (B Qaa) [1, 1, 1, 0])) 4) ⟨fr 63 [(0, .rsl 42 0 8 0 jn jO), (1, vI jN), (2, .val (.fn Qae)), (6, vI 20), (7, vI jk), (8, vI wl), (10, vI 20), (23, .rsl 42 0 8 0 jn jO), (24, vI jk), (25, vI jN), (26, .val (.fn Qae))], [bx 55 [(3, some [.val (.list jU jY), .val (.list jX jV)]), (4, some [vS jT, vI jW, vI jv, vI ju, vI js, .val (.list jG jx)]), (5, some [vI jr, vS jC, vI jB, vI jt, vI jy, vI jD, vI jz, vS jF, .val (.list jA jE)]), (8, some [.row 42 wo]), (12, some [.val wv, .val wy, .val wx, .val ww, .val wu, .val wq])], bx 9 [], bx 63 []], KK⟩ (opsK Tryz.prog (C lb n) (I7 lb n) 2 (QaA (sub (B Qaa) [1, 1, 1, 0])) ((QaA (sub (B Qaa) [1, 1, 1, 0])).drop 5) ((seqK (E2 lb n 2 996) (sub (B Qaa) [1, 1, 1, 0]) (sub (B Qaa) [1, 1, 1, 1]) (retK Tryz.prog (R Qaa) 2 K)) .normal))))) wJ ⟨fr 53 [(0, .rsl 42 0 8 0 jn jO), (1, vI jk), (2, vI jN), (3, .val (.fn Qae)), (8, vI wz), (10, vI jk), (11, .val (.int .i64 (IntKind.wrap .i64 (jk + 1))))], [bx 55 [(3, some [.val (.list jU jY), .val (.list jX jV)]), (4, some [vS jT, vI jW, vI jv, vI ju, vI js, .val (.list jG jx)]), (5, some [vI jr, vS jC, vI jB, vI jt, vI jy, vI jD, vI jz, vS jF, .val (.list jA jE)]), (8, some [.row 42 v6]), (12, some [.val wv, .val wy, .val wx, .val ww, .val wu, .val wq])], bx 9 [], bx 63 [], bx 53 []], KK⟩)
noncomputable def QbF (lb n kt jn jO : Nat) (jN jk wl : Int) (jU : Bool) (jY : LL) (jX : Bool) (jV : LL) (jT : LB) (jW jv ju js : Int) (jG : Bool) (jx : LL) (jr : Int) (jC : LB) (jB jt jy jD jz : Int) (jF : LB) (jA : Bool) (jE wo : LL) (wv wy wx ww wu wq : CV) (K : AV → List (List (Option (List AV))) → Option CV) (wJ : Nat) (wz i1143 : Int) (yw : LL) : Option CV :=
 hold (Qas (E3 lb n 3 991) 3 (Qad (sub (B Qab) [1, 0, 0, 1, 0, 0, 1, 0, 0]) ++ []) [] (sub (B Qab) [1, 0, 0, 1, 0, 0, 1, 0, 0]) (Qaj 2 (Qaj 1 (seqK (E3 lb n 3 995) (sub (B Qab) [1, 0, 0, 1, 0]) (sub (B Qab) [1, 0, 0, 1, 1]) (Qbs 3 (Qad (sub (B Qab) [1, 0, 0]) ++ [9, 9]) [] (Qas (E3 lb n 3 997) 3 (Qad (sub (B Qab) [1, 0, 0]) ++ [9, 9]) [] (sub (B Qab) [1, 0, 0]) (Qaj 0 (retK Tryz.prog (R Qab) 3 (inlK (opAt (QaA (sub (B Qaa) [1, 1, 1, 0])) 4) ⟨fr 63 [(0, .rsl 42 0 8 0 jn jO), (1, vI jN), (2, .val (.fn Qae)), (6, vI 20), (7, vI jk), (8, vI wl), (10, vI 20), (23, .rsl 42 0 8 0 jn jO), (24, vI jk), (25, vI jN), (26, .val (.fn Qae))], [bx 55 [(3, some [.val (.list jU jY), .val (.list jX jV)]), (4, some [vS jT, vI jW, vI jv, vI ju, vI js, .val (.list jG jx)]), (5, some [vI jr, vS jC, vI jB, vI jt, vI jy, vI jD, vI jz, vS jF, .val (.list jA jE)]), (8, some [.row 42 wo]), (12, some [.val wv, .val wy, .val wx, .val ww, .val wu, .val wq])], bx 9 [], bx 63 []], KK⟩ (opsK Tryz.prog (C lb n) (I7 lb n) 2 (QaA (sub (B Qaa) [1, 1, 1, 0])) ((QaA (sub (B Qaa) [1, 1, 1, 0])).drop 5) ((seqK (E2 lb n 2 996) (sub (B Qaa) [1, 1, 1, 0]) (sub (B Qaa) [1, 1, 1, 1]) (retK Tryz.prog (R Qaa) 2 K)) .normal))))) wJ) (Qaj 0 (retK Tryz.prog (R Qab) 3 (inlK (opAt (QaA (sub (B Qaa) [1, 1, 1, 0])) 4) ⟨fr 63 [(0, .rsl 42 0 8 0 jn jO), (1, vI jN), (2, .val (.fn Qae)), (6, vI 20), (7, vI jk), (8, vI wl), (10, vI 20), (23, .rsl 42 0 8 0 jn jO), (24, vI jk), (25, vI jN), (26, .val (.fn Qae))], [bx 55 [(3, some [.val (.list jU jY), .val (.list jX jV)]), (4, some [vS jT, vI jW, vI jv, vI ju, vI js, .val (.list jG jx)]), (5, some [vI jr, vS jC, vI jB, vI jt, vI jy, vI jD, vI jz, vS jF, .val (.list jA jE)]), (8, some [.row 42 wo]), (12, some [.val wv, .val wy, .val wx, .val ww, .val wu, .val wq])], bx 9 [], bx 63 []], KK⟩ (opsK Tryz.prog (C lb n) (I7 lb n) 2 (QaA (sub (B Qaa) [1, 1, 1, 0])) ((QaA (sub (B Qaa) [1, 1, 1, 0])).drop 5) ((seqK (E2 lb n 2 996) (sub (B Qaa) [1, 1, 1, 0]) (sub (B Qaa) [1, 1, 1, 1]) (retK Tryz.prog (R Qaa) 2 K)) .normal))))))))) kt ⟨fr 53 [(0, .rsl 42 0 8 0 jn jO), (1, vI jk), (2, vI jN), (3, .val (.fn Qae)), (8, vI wz), (9, vI i1143), (10, vI jk), (11, .val (.int .i64 (IntKind.wrap .i64 (jk + 1)))), (17, vI wz)], [bx 55 [(3, some [.val (.list jU jY), .val (.list jX jV)]), (4, some [vS jT, vI jW, vI jv, vI ju, vI js, .val (.list jG jx)]), (5, some [vI jr, vS jC, vI jB, vI jt, vI jy, vI jD, vI jz, vS jF, .val (.list jA jE)]), (8, some [.row 42 yw]), (12, some [.val wv, .val wy, .val wx, .val ww, .val wu, .val wq])], bx 9 [], bx 63 [], bx 53 []], KK⟩)
noncomputable def Qb7 (lb n jn jO : Nat) (jN jk wl : Int) (jU : Bool) (jY : LL) (jX : Bool) (jV : LL) (jT : LB) (jW jv ju js : Int) (jG : Bool) (jx : LL) (jr : Int) (jC : LB) (jB jt jy jD jz : Int) (jF : LB) (jA : Bool) (jE wo : LL) (wv wy wx ww wu wq : CV) (K : AV → List (List (Option (List AV))) → Option CV) (wJ : Nat) (wz kN : Int) (ks : LL) : Option CV :=
 hold (E3 lb n 3 995 (sub (B Qab) [1, 0, 0, 1, 1]) (Qbs 3 (Qad (sub (B Qab) [1, 0, 0]) ++ [9, 9]) [] (Qas (E3 lb n 3 997) 3 (Qad (sub (B Qab) [1, 0, 0]) ++ [9, 9]) [] (sub (B Qab) [1, 0, 0]) (Qaj 0 (retK Tryz.prog (R Qab) 3 (inlK (opAt (QaA (sub (B Qaa) [1, 1, 1, 0])) 4) ⟨fr 63 [(0, .rsl 42 0 8 0 jn jO), (1, vI jN), (2, .val (.fn Qae)), (6, vI 20), (7, vI jk), (8, vI wl), (10, vI 20), (23, .rsl 42 0 8 0 jn jO), (24, vI jk), (25, vI jN), (26, .val (.fn Qae))], [bx 55 [(3, some [.val (.list jU jY), .val (.list jX jV)]), (4, some [vS jT, vI jW, vI jv, vI ju, vI js, .val (.list jG jx)]), (5, some [vI jr, vS jC, vI jB, vI jt, vI jy, vI jD, vI jz, vS jF, .val (.list jA jE)]), (8, some [.row 42 wo]), (12, some [.val wv, .val wy, .val wx, .val ww, .val wu, .val wq])], bx 9 [], bx 63 []], KK⟩ (opsK Tryz.prog (C lb n) (I7 lb n) 2 (QaA (sub (B Qaa) [1, 1, 1, 0])) ((QaA (sub (B Qaa) [1, 1, 1, 0])).drop 5) ((seqK (E2 lb n 2 996) (sub (B Qaa) [1, 1, 1, 0]) (sub (B Qaa) [1, 1, 1, 1]) (retK Tryz.prog (R Qaa) 2 K)) .normal))))) wJ) (Qaj 0 (retK Tryz.prog (R Qab) 3 (inlK (opAt (QaA (sub (B Qaa) [1, 1, 1, 0])) 4) ⟨fr 63 [(0, .rsl 42 0 8 0 jn jO), (1, vI jN), (2, .val (.fn Qae)), (6, vI 20), (7, vI jk), (8, vI wl), (10, vI 20), (23, .rsl 42 0 8 0 jn jO), (24, vI jk), (25, vI jN), (26, .val (.fn Qae))], [bx 55 [(3, some [.val (.list jU jY), .val (.list jX jV)]), (4, some [vS jT, vI jW, vI jv, vI ju, vI js, .val (.list jG jx)]), (5, some [vI jr, vS jC, vI jB, vI jt, vI jy, vI jD, vI jz, vS jF, .val (.list jA jE)]), (8, some [.row 42 wo]), (12, some [.val wv, .val wy, .val wx, .val ww, .val wu, .val wq])], bx 9 [], bx 63 []], KK⟩ (opsK Tryz.prog (C lb n) (I7 lb n) 2 (QaA (sub (B Qaa) [1, 1, 1, 0])) ((QaA (sub (B Qaa) [1, 1, 1, 0])).drop 5) ((seqK (E2 lb n 2 996) (sub (B Qaa) [1, 1, 1, 0]) (sub (B Qaa) [1, 1, 1, 1]) (retK Tryz.prog (R Qaa) 2 K)) .normal)))))) ⟨fr 53 [(0, .rsl 42 0 8 0 jn jO), (1, vI jk), (2, vI jN), (3, .val (.fn Qae)), (8, vI wz), (9, vI kN), (10, vI jk), (11, .val (.int .i64 (IntKind.wrap .i64 (jk + 1))))], [bx 55 [(3, some [.val (.list jU jY), .val (.list jX jV)]), (4, some [vS jT, vI jW, vI jv, vI ju, vI js, .val (.list jG jx)]), (5, some [vI jr, vS jC, vI jB, vI jt, vI jy, vI jD, vI jz, vS jF, .val (.list jA jE)]), (8, some [.row 42 ks]), (12, some [.val wv, .val wy, .val wx, .val ww, .val wu, .val wq])], bx 9 [], bx 63 [], bx 53 []], KK⟩)
theorem Qc2 (lb n jn jO : Nat) (jN jk wl : Int) (jU : Bool) (jY : LL) (jX : Bool) (jV : LL) (jT : LB) (jW jv ju js : Int) (jG : Bool) (jx : LL) (jr : Int) (jC : LB) (jB jt jy jD jz : Int) (jF : LB) (jA : Bool) (jE wo : LL) (wv wy wx ww wu wq : CV) (K : AV → List (List (Option (List AV))) → Option CV) (wJ : Nat) (wz kN : Int) (ks : LL) :
 Qb7 lb n jn jO jN jk wl jU jY jX jV jT jW jv ju js jG jx jr jC jB jt jy jD jz jF jA jE wo wv wy wx ww wu wq K wJ wz kN ks =
 Qbi lb n wJ jn jO jN jk wl jU jY jX jV jT jW jv ju js jG jx jr jC jB jt jy jD jz jF jA jE wo wv wy wx ww wu wq K (IntKind.wrap .i64 (wz + 1)) ks := (Qaf _).trans (by kernel_rfl)
theorem QcI (lb n kt jn jO : Nat) (jN jk wl : Int) (jU : Bool) (jY : LL) (jX : Bool) (jV : LL) (jT : LB) (jW jv ju js : Int) (jG : Bool) (jx : LL) (jr : Int) (jC : LB) (jB jt jy jD jz : Int) (jF : LB) (jA : Bool) (jE wo : LL) (wv wy wx ww wu wq : CV) (K : AV → List (List (Option (List AV))) → Option CV) (wJ : Nat) (wz i1143 : Int) (yw : LL) :
 QbF lb n (kt + 1) jn jO jN jk wl jU jY jX jV jT jW jv ju js jG jx jr jC jB jt jy jD jz jF jA jE wo wv wy wx ww wu wq K wJ wz i1143 yw =
 bif (decide (i1143 > jk)) then
 (chkO ((decide (0 ≤ (i1143 : Int))) && (decide ((i1143 : Int) < ((jn : Nat) : Int)))) (
 optO (yw[0 + i1143.toNat]?) fun vM =>
 optO (vM[0]?) fun mH =>
 optO (vM[1]?) fun g0 =>
 optO (vM[2]?) fun mM =>
 optO (vM[3]?) fun mq =>
 optO (vM[4]?) fun mo =>
 optO (vM[5]?) fun mL =>
 chkO ((decide (0 ≤ ((IntKind.wrap .i64 (i1143 - 1)) : Int))) && (decide (((IntKind.wrap .i64 (i1143 - 1)) : Int) < ((jn : Nat) : Int)))) (
 optO (yw[0 + ((IntKind.wrap .i64 (i1143 - 1)).toNat)]?) fun vJ =>
 optO (vJ[0]?) fun mT =>
 optO (vJ[1]?) fun mz =>
 optO (vJ[2]?) fun mU =>
 optO (vJ[3]?) fun mA =>
 optO (vJ[4]?) fun gX =>
 optO (vJ[5]?) fun mP =>
 optO (C lb n Qae [.agg [mH, g0, mM, mq, mo, mL], .agg [mT, mz, mU, mA, gX, mP]]) fun md =>
 optO (CV.asI .i64 md) fun mV =>
 bif (decide (mV < 0)) then
 (chkO ((decide (0 ≤ ((IntKind.wrap .i64 (i1143 - 1)) : Int))) && (decide (((IntKind.wrap .i64 (i1143 - 1)) : Int) < ((jn : Nat) : Int)))) (
 optO (yw[0 + ((IntKind.wrap .i64 (i1143 - 1)).toNat)]?) fun vK =>
 optO (vK[0]?) fun oR =>
 optO (vK[1]?) fun oV =>
 optO (vK[2]?) fun oT =>
 optO (vK[3]?) fun oK =>
 optO (vK[4]?) fun oS =>
 optO (vK[5]?) fun oQ =>
 chkO ((decide (0 ≤ (i1143 : Int))) && (decide ((i1143 : Int) < ((jn : Nat) : Int)))) (
 optO (yw[0 + i1143.toNat]?) fun vN =>
 optO (vN[0]?) fun mK =>
 optO (vN[1]?) fun mw =>
 optO (vN[2]?) fun mc =>
 optO (vN[3]?) fun g8 =>
 optO (vN[4]?) fun ml =>
 optO (vN[5]?) fun mW =>
 chkO ((decide (0 ≤ (i1143 : Int))) && (decide ((i1143 : Int) < ((jn : Nat) : Int)))) (
 optO (yw[0 + i1143.toNat]?) fun c1208 =>
 chkO (decide ((6 : Nat) ≤ c1208.length)) (
 chkO ((decide (0 ≤ ((IntKind.wrap .i64 (i1143 - 1)) : Int))) && (decide (((IntKind.wrap .i64 (i1143 - 1)) : Int) < ((jn : Nat) : Int)))) (
 optO ((setN yw (0 + i1143.toNat) (Qbp c1208 0 [oR, oV, oT, oK, oS, oQ]))[0 + ((IntKind.wrap .i64 (i1143 - 1)).toNat)]?) fun c1209 =>
 chkO (decide ((6 : Nat) ≤ c1209.length)) (
 QbF lb n kt jn jO jN jk wl jU jY jX jV jT jW jv ju js jG jx jr jC jB jt jy jD jz jF jA jE wo wv wy wx ww wu wq K wJ wz (IntKind.wrap .i64 (i1143 - 1)) (setN (setN yw (0 + i1143.toNat) (Qbp c1208 0 [oR, oV, oT, oK, oS, oQ])) (0 + ((IntKind.wrap .i64 (i1143 - 1)).toNat)) (Qbp c1209 0 [mK, mw, mc, g8, ml, mW])))))))))
 else
 (Qb7 lb n jn jO jN jk wl jU jY jX jV jT jW jv ju js jG jx jr jC jB jt jy jD jz jF jA jE wo wv wy wx ww wu wq K wJ wz i1143 yw))))
 else
 (Qb7 lb n jn jO jN jk wl jU jY jX jV jT jW jv ju js jG jx jr jC jB jt jy jD jz jF jA jE wo wv wy wx ww wu wq K wJ wz i1143 yw) := (Qaf _).trans (by kernel_rfl)
noncomputable def QbB (lb n vL : Nat) (K : AV → List (List (Option (List AV))) → Option CV) (jn jO : Nat) (jN jk : Int) (jU : Bool) (jY : LL) (jX : Bool) (jV : LL) (jT : LB) (jW jv ju js : Int) (jG : Bool) (jx : LL) (jr : Int) (jC : LB) (jB jt jy jD jz : Int) (jF : LB) (jA : Bool) (jE : LL) (wv wy wx ww wu wq : CV) (yL kP kO : Int) (kb : LL) : Option CV :=
 hold (Qas (E2 lb n 2 994) 2 (Qad (sub (B Qaa) [1, 1, 1, 1, 0, 0]) ++ [9]) [] (sub (B Qaa) [1, 1, 1, 1, 0, 0]) (Qaj 2 (retK Tryz.prog (R Qaa) 2 K)) vL ⟨fr 63 [(0, .rsl 42 0 8 0 jn jO), (1, vI jN), (2, .val (.fn Qae)), (6, vI yL), (7, vI kP), (8, vI kO), (10, vI 20), (23, .rsl 42 0 8 0 jn jO), (24, vI jk), (25, vI jN), (26, .val (.fn Qae)), (27, .val (.tup []))], [bx 55 [(3, some [.val (.list jU jY), .val (.list jX jV)]), (4, some [vS jT, vI jW, vI jv, vI ju, vI js, .val (.list jG jx)]), (5, some [vI jr, vS jC, vI jB, vI jt, vI jy, vI jD, vI jz, vS jF, .val (.list jA jE)]), (8, some [.row 42 kb]), (12, some [.val wv, .val wy, .val wx, .val ww, .val wu, .val wq])], bx 9 [], bx 63 []], KK⟩)
noncomputable def Qfr (lb n gZ : Nat) (K : AV → List (List (Option (List AV))) → Option CV) (vL jn jO : Nat) (jN yL jk : Int) (jU : Bool) (jY : LL) (jX : Bool) (jV : LL) (jT : LB) (jW jv ju js : Int) (jG : Bool) (jx : LL) (jr : Int) (jC : LB) (jB jt jy jD jz : Int) (jF : LB) (jA : Bool) (jE : LL) (wv wy wx ww wu wq : CV) (mC g9 : Int) (mJ : LL) : Option CV :=
 hold (Qas (E2 lb n 2 988) 2 (Qad (sub (B Qaa) [1, 1, 1, 1, 0, 0, 1, 0, 1, 0, 0, 0]) ++ []) [] (sub (B Qaa) [1, 1, 1, 1, 0, 0, 1, 0, 1, 0, 0, 0]) (Qaj 4 (seqK (E2 lb n 2 990) (sub (B Qaa) [1, 1, 1, 1, 0, 0, 1, 0, 1, 0]) (sub (B Qaa) [1, 1, 1, 1, 0, 0, 1, 0, 1, 1]) (Qaj 3 (Qbs 2 (Qad (sub (B Qaa) [1, 1, 1, 1, 0, 0]) ++ [9]) [] (Qas (E2 lb n 2 994) 2 (Qad (sub (B Qaa) [1, 1, 1, 1, 0, 0]) ++ [9]) [] (sub (B Qaa) [1, 1, 1, 1, 0, 0]) (Qaj 2 (retK Tryz.prog (R Qaa) 2 K)) vL) (Qaj 2 (retK Tryz.prog (R Qaa) 2 K)))))) gZ ⟨fr 63 [(0, .rsl 42 0 8 0 jn jO), (1, vI jN), (2, .val (.fn Qae)), (6, vI yL), (7, vI mC), (8, vI g9), (10, vI 20), (23, .rsl 42 0 8 0 jn jO), (24, vI jk), (25, vI jN), (26, .val (.fn Qae)), (27, .val (.tup [])), (31, vI yL), (32, .val (.int .i64 (IntKind.wrap .i64 (2 * yL))))], [bx 55 [(3, some [.val (.list jU jY), .val (.list jX jV)]), (4, some [vS jT, vI jW, vI jv, vI ju, vI js, .val (.list jG jx)]), (5, some [vI jr, vS jC, vI jB, vI jt, vI jy, vI jD, vI jz, vS jF, .val (.list jA jE)]), (8, some [.row 42 mJ]), (12, some [.val wv, .val wy, .val wx, .val ww, .val wu, .val wq])], bx 9 [], bx 63 []], KK⟩)
theorem QcH (lb n vL : Nat) (K : AV → List (List (Option (List AV))) → Option CV) (jn jO : Nat) (jN jk : Int) (jU : Bool) (jY : LL) (jX : Bool) (jV : LL) (jT : LB) (jW jv ju js : Int) (jG : Bool) (jx : LL) (jr : Int) (jC : LB) (jB jt jy jD jz : Int) (jF : LB) (jA : Bool) (jE : LL) (wv wy wx ww wu wq : CV) (yL kP kO : Int) (kb : LL) :
 QbB lb n (vL + 1) K jn jO jN jk jU jY jX jV jT jW jv ju js jG jx jr jC jB jt jy jD jz jF jA jE wv wy wx ww wu wq yL kP kO kb =
 bif (decide (yL < jN)) then
 (Qfr lb n n K vL jn jO jN yL jk jU jY jX jV jT jW jv ju js jG jx jr jC jB jt jy jD jz jF jA jE wv wy wx ww wu wq 0 (IntKind.wrap .i64 (2 * yL)) kb)
 else
 (K (.val (.tup [])) [bx 55 [(3, some [.val (.list jU jY), .val (.list jX jV)]), (4, some [vS jT, vI jW, vI jv, vI ju, vI js, .val (.list jG jx)]), (5, some [vI jr, vS jC, vI jB, vI jt, vI jy, vI jD, vI jz, vS jF, .val (.list jA jE)]), (8, some [.row 42 kb]), (12, some [.val wv, .val wy, .val wx, .val ww, .val wu, .val wq])], bx 9 []]) := (Qaf _).trans (by kernel_rfl)
theorem QcG (lb n wJ jn jO : Nat) (jN jk wl : Int) (jU : Bool) (jY : LL) (jX : Bool) (jV : LL) (jT : LB) (jW jv ju js : Int) (jG : Bool) (jx : LL) (jr : Int) (jC : LB) (jB jt jy jD jz : Int) (jF : LB) (jA : Bool) (jE wo : LL) (wv wy wx ww wu wq : CV) (K : AV → List (List (Option (List AV))) → Option CV) (wz : Int) (v6 : LL) :
 Qbi lb n (wJ + 1) jn jO jN jk wl jU jY jX jV jT jW jv ju js jG jx jr jC jB jt jy jD jz jF jA jE wo wv wy wx ww wu wq K wz v6 =
 bif (decide (wz < jN)) then
 (QbF lb n n jn jO jN jk wl jU jY jX jV jT jW jv ju js jG jx jr jC jB jt jy jD jz jF jA jE wo wv wy wx ww wu wq K wJ wz wz v6)
 else
 (QbB lb n n K jn jO jN jk jU jY jX jV jT jW jv ju js jG jx jr jC jB jt jy jD jz jF jA jE wv wy wx ww wu wq 20 jk wl v6) := (Qaf _).trans (by kernel_rfl)
theorem Qe1 (lb n : Nat) (K : AV → List (List (Option (List AV))) → Option CV) (jn jO : Nat) (jN : Int) (jU : Bool) (jY : LL) (jX : Bool) (jV : LL) (jT : LB) (jW jv ju js : Int) (jG : Bool) (jx : LL) (jr : Int) (jC : LB) (jB jt jy jD jz : Int) (jF : LB) (jA : Bool) (jE : LL) (wv wy wx ww wu wq : CV) (jk wl : Int) (wo : LL) :
 Qdm lb n K jn jO jN jU jY jX jV jT jW jv ju js jG jx jr jC jB jt jy jD jz jF jA jE wv wy wx ww wu wq jk wl wo =
 Qbi lb n n jn jO jN jk wl jU jY jX jV jT jW jv ju js jG jx jr jC jB jt jy jD jz jF jA jE wo wv wy wx ww wu wq K (IntKind.wrap .i64 (jk + 1)) wo := (Qaf _).trans (by kernel_rfl)
theorem QeD (lb n kf : Nat) (K : AV → List (List (Option (List AV))) → Option CV) (jn jO : Nat) (jN : Int) (jU : Bool) (jY : LL) (jX : Bool) (jV : LL) (jT : LB) (jW jv ju js : Int) (jG : Bool) (jx : LL) (jr : Int) (jC : LB) (jB jt jy jD jz : Int) (jF : LB) (jA : Bool) (jE : LL) (wv wy wx ww wu wq : CV) (yO va : Int) (vq : LL) :
 Qb6 lb n (kf + 1) K jn jO jN jU jY jX jV jT jW jv ju js jG jx jr jC jB jt jy jD jz jF jA jE wv wy wx ww wu wq yO va vq =
 bif (decide (va ≤ jN)) then
 (Qfs lb n n jn jO jN yO va jU jY jX jV jT jW jv ju js jG jx jr jC jB jt jy jD jz jF jA jE vq wv wy wx ww wu wq K kf (IntKind.wrap .i64 (yO + 1)) vq)
 else
 (Qdm lb n K jn jO jN jU jY jX jV jT jW jv ju js jG jx jr jC jB jt jy jD jz jF jA jE wv wy wx ww wu wq yO va vq) := (Qaf _).trans (by kernel_rfl)
theorem Qdb (lb n : Nat) (K : AV → List (List (Option (List AV))) → Option CV) (jn jO : Nat) (jN : Int) (jU : Bool) (jY : LL) (jX : Bool) (jV : LL) (jT : LB) (jW jv ju js : Int) (jG : Bool) (jx : LL) (jr : Int) (jC : LB) (jB jt jy jD jz : Int) (jF : LB) (jA : Bool) (jE kQ : LL) (wv wy wx ww wu wq : CV) :
 Qbo lb n K jn jO jN jU jY jX jV jT jW jv ju js jG jx jr jC jB jt jy jD jz jF jA jE kQ wv wy wx ww wu wq =
 Qb6 lb n n K jn jO jN jU jY jX jV jT jW jv ju js jG jx jr jC jB jt jy jD jz jF jA jE wv wy wx ww wu wq 0 20 kQ := by kernel_rfl
noncomputable def QbX (lb n kf : Nat) (K : AV → List (List (Option (List AV))) → Option CV) (jn jO : Nat) (jN : Int) (jU : Bool) (jY : LL) (jX : Bool) (jV : LL) (jT : LB) (jW jv ju js : Int) (jG : Bool) (jx : LL) (jr : Int) (jC : LB) (jB jt jy jD jz : Int) (jF : LB) (jA : Bool) (jE : LL) (yO va : Int) (vq : LL) : Option CV :=
 hold (Qas (E2 lb n 2 995) 2 (Qad (sub (B Qaa) [1, 1, 0, 0, 0]) ++ []) [] (sub (B Qaa) [1, 1, 0, 0, 0]) (Qaj 0 (seqK (E2 lb n 2 997) (sub (B Qaa) [1, 1, 0]) (sub (B Qaa) [1, 1, 1]) (retK Tryz.prog (R Qaa) 2 K))) kf ⟨fr 63 [(0, .rsl 42 0 8 0 jn jO), (1, vI jN), (2, .val (.fn Qae)), (6, vI 20), (7, vI yO), (8, vI va), (10, vI 20)], [bx 55 [(3, some [.val (.list jU jY), .val (.list jX jV)]), (4, some [vS jT, vI jW, vI jv, vI ju, vI js, .val (.list jG jx)]), (5, some [vI jr, vS jC, vI jB, vI jt, vI jy, vI jD, vI jz, vS jF, .val (.list jA jE)]), (8, some [.row 42 vq])], bx 9 [], bx 63 []], KK⟩)
noncomputable def Qfb (lb n nI jn jO : Nat) (jN yO va : Int) (jU : Bool) (jY : LL) (jX : Bool) (jV : LL) (jT : LB) (jW jv ju js : Int) (jG : Bool) (jx : LL) (jr : Int) (jC : LB) (jB jt jy jD jz : Int) (jF : LB) (jA : Bool) (jE vq : LL) (K : AV → List (List (Option (List AV))) → Option CV) (kf : Nat) (n5 : Int) (nV : LL) : Option CV :=
 hold (Qas (E3 lb n 3 997) 3 (Qad (sub (B Qab) [1, 0, 0]) ++ [9, 9]) [] (sub (B Qab) [1, 0, 0]) (Qaj 0 (retK Tryz.prog (R Qab) 3 (inlK (opAt (QaA (sub (B Qaa) [1, 1, 0, 0, 0, 1, 0, 0])) 4) ⟨fr 63 [(0, .rsl 42 0 8 0 jn jO), (1, vI jN), (2, .val (.fn Qae)), (6, vI 20), (7, vI yO), (8, vI va), (10, vI 20), (14, .rsl 42 0 8 0 jn jO), (15, vI yO), (16, vI va), (17, .val (.fn Qae))], [bx 55 [(3, some [.val (.list jU jY), .val (.list jX jV)]), (4, some [vS jT, vI jW, vI jv, vI ju, vI js, .val (.list jG jx)]), (5, some [vI jr, vS jC, vI jB, vI jt, vI jy, vI jD, vI jz, vS jF, .val (.list jA jE)]), (8, some [.row 42 vq])], bx 9 [], bx 63 []], KK⟩ (opsK Tryz.prog (C lb n) (I7 lb n) 2 (QaA (sub (B Qaa) [1, 1, 0, 0, 0, 1, 0, 0])) ((QaA (sub (B Qaa) [1, 1, 0, 0, 0, 1, 0, 0])).drop 5) ((seqK (E2 lb n 2 992) (sub (B Qaa) [1, 1, 0, 0, 0, 1, 0, 0]) (sub (B Qaa) [1, 1, 0, 0, 0, 1, 0, 1]) (Qaj 1 (Qbs 2 (Qad (sub (B Qaa) [1, 1, 0, 0, 0]) ++ []) [] (Qas (E2 lb n 2 995) 2 (Qad (sub (B Qaa) [1, 1, 0, 0, 0]) ++ []) [] (sub (B Qaa) [1, 1, 0, 0, 0]) (Qaj 0 (seqK (E2 lb n 2 997) (sub (B Qaa) [1, 1, 0]) (sub (B Qaa) [1, 1, 1]) (retK Tryz.prog (R Qaa) 2 K))) kf) (Qaj 0 (seqK (E2 lb n 2 997) (sub (B Qaa) [1, 1, 0]) (sub (B Qaa) [1, 1, 1]) (retK Tryz.prog (R Qaa) 2 K)))))) .normal))))) nI ⟨fr 53 [(0, .rsl 42 0 8 0 jn jO), (1, vI yO), (2, vI va), (3, .val (.fn Qae)), (8, vI n5), (10, vI yO), (11, .val (.int .i64 (IntKind.wrap .i64 (yO + 1))))], [bx 55 [(3, some [.val (.list jU jY), .val (.list jX jV)]), (4, some [vS jT, vI jW, vI jv, vI ju, vI js, .val (.list jG jx)]), (5, some [vI jr, vS jC, vI jB, vI jt, vI jy, vI jD, vI jz, vS jF, .val (.list jA jE)]), (8, some [.row 42 nV])], bx 9 [], bx 63 [], bx 53 []], KK⟩)
noncomputable def Qc8 (lb n : Nat) (K : AV → List (List (Option (List AV))) → Option CV) (jn jO : Nat) (jN : Int) (jU : Bool) (jY : LL) (jX : Bool) (jV : LL) (jT : LB) (jW jv ju js : Int) (jG : Bool) (jx : LL) (jr : Int) (jC : LB) (jB jt jy jD jz : Int) (jF : LB) (jA : Bool) (jE : LL) (jk wl : Int) (wo : LL) : Option CV :=
 hold (E2 lb n 2 997 (sub (B Qaa) [1, 1, 1]) (retK Tryz.prog (R Qaa) 2 K) ⟨fr 63 [(0, .rsl 42 0 8 0 jn jO), (1, vI jN), (2, .val (.fn Qae)), (6, vI 20), (7, vI jk), (8, vI wl), (10, vI 20)], [bx 55 [(3, some [.val (.list jU jY), .val (.list jX jV)]), (4, some [vS jT, vI jW, vI jv, vI ju, vI js, .val (.list jG jx)]), (5, some [vI jr, vS jC, vI jB, vI jt, vI jy, vI jD, vI jz, vS jF, .val (.list jA jE)]), (8, some [.row 42 wo])], bx 9 [], bx 63 []], KK⟩)
noncomputable def Qbd (lb n wJ jn jO : Nat) (jN jk wl : Int) (jU : Bool) (jY : LL) (jX : Bool) (jV : LL) (jT : LB) (jW jv ju js : Int) (jG : Bool) (jx : LL) (jr : Int) (jC : LB) (jB jt jy jD jz : Int) (jF : LB) (jA : Bool) (jE wo : LL) (K : AV → List (List (Option (List AV))) → Option CV) (wz : Int) (v6 : LL) : Option CV :=
 hold (Qas (E3 lb n 3 997) 3 (Qad (sub (B Qab) [1, 0, 0]) ++ [9, 9]) [] (sub (B Qab) [1, 0, 0]) (Qaj 0 (retK Tryz.prog (R Qab) 3 (inlK (opAt (QaA (sub (B Qaa) [1, 1, 1, 0])) 4) ⟨fr 63 [(0, .rsl 42 0 8 0 jn jO), (1, vI jN), (2, .val (.fn Qae)), (6, vI 20), (7, vI jk), (8, vI wl), (10, vI 20), (23, .rsl 42 0 8 0 jn jO), (24, vI jk), (25, vI jN), (26, .val (.fn Qae))], [bx 55 [(3, some [.val (.list jU jY), .val (.list jX jV)]), (4, some [vS jT, vI jW, vI jv, vI ju, vI js, .val (.list jG jx)]), (5, some [vI jr, vS jC, vI jB, vI jt, vI jy, vI jD, vI jz, vS jF, .val (.list jA jE)]), (8, some [.row 42 wo])], bx 9 [], bx 63 []], KK⟩ (opsK Tryz.prog (C lb n) (I7 lb n) 2 (QaA (sub (B Qaa) [1, 1, 1, 0])) ((QaA (sub (B Qaa) [1, 1, 1, 0])).drop 5) ((seqK (E2 lb n 2 996) (sub (B Qaa) [1, 1, 1, 0]) (sub (B Qaa) [1, 1, 1, 1]) (retK Tryz.prog (R Qaa) 2 K)) .normal))))) wJ ⟨fr 53 [(0, .rsl 42 0 8 0 jn jO), (1, vI jk), (2, vI jN), (3, .val (.fn Qae)), (8, vI wz), (10, vI jk), (11, .val (.int .i64 (IntKind.wrap .i64 (jk + 1))))], [bx 55 [(3, some [.val (.list jU jY), .val (.list jX jV)]), (4, some [vS jT, vI jW, vI jv, vI ju, vI js, .val (.list jG jx)]), (5, some [vI jr, vS jC, vI jB, vI jt, vI jy, vI jD, vI jz, vS jF, .val (.list jA jE)]), (8, some [.row 42 v6])], bx 9 [], bx 63 [], bx 53 []], KK⟩)
noncomputable def Qbv (lb n kt jn jO : Nat) (jN jk wl : Int) (jU : Bool) (jY : LL) (jX : Bool) (jV : LL) (jT : LB) (jW jv ju js : Int) (jG : Bool) (jx : LL) (jr : Int) (jC : LB) (jB jt jy jD jz : Int) (jF : LB) (jA : Bool) (jE wo : LL) (K : AV → List (List (Option (List AV))) → Option CV) (wJ : Nat) (wz i1143 : Int) (yw : LL) : Option CV :=
 hold (Qas (E3 lb n 3 991) 3 (Qad (sub (B Qab) [1, 0, 0, 1, 0, 0, 1, 0, 0]) ++ []) [] (sub (B Qab) [1, 0, 0, 1, 0, 0, 1, 0, 0]) (Qaj 2 (Qaj 1 (seqK (E3 lb n 3 995) (sub (B Qab) [1, 0, 0, 1, 0]) (sub (B Qab) [1, 0, 0, 1, 1]) (Qbs 3 (Qad (sub (B Qab) [1, 0, 0]) ++ [9, 9]) [] (Qas (E3 lb n 3 997) 3 (Qad (sub (B Qab) [1, 0, 0]) ++ [9, 9]) [] (sub (B Qab) [1, 0, 0]) (Qaj 0 (retK Tryz.prog (R Qab) 3 (inlK (opAt (QaA (sub (B Qaa) [1, 1, 1, 0])) 4) ⟨fr 63 [(0, .rsl 42 0 8 0 jn jO), (1, vI jN), (2, .val (.fn Qae)), (6, vI 20), (7, vI jk), (8, vI wl), (10, vI 20), (23, .rsl 42 0 8 0 jn jO), (24, vI jk), (25, vI jN), (26, .val (.fn Qae))], [bx 55 [(3, some [.val (.list jU jY), .val (.list jX jV)]), (4, some [vS jT, vI jW, vI jv, vI ju, vI js, .val (.list jG jx)]), (5, some [vI jr, vS jC, vI jB, vI jt, vI jy, vI jD, vI jz, vS jF, .val (.list jA jE)]), (8, some [.row 42 wo])], bx 9 [], bx 63 []], KK⟩ (opsK Tryz.prog (C lb n) (I7 lb n) 2 (QaA (sub (B Qaa) [1, 1, 1, 0])) ((QaA (sub (B Qaa) [1, 1, 1, 0])).drop 5) ((seqK (E2 lb n 2 996) (sub (B Qaa) [1, 1, 1, 0]) (sub (B Qaa) [1, 1, 1, 1]) (retK Tryz.prog (R Qaa) 2 K)) .normal))))) wJ) (Qaj 0 (retK Tryz.prog (R Qab) 3 (inlK (opAt (QaA (sub (B Qaa) [1, 1, 1, 0])) 4) ⟨fr 63 [(0, .rsl 42 0 8 0 jn jO), (1, vI jN), (2, .val (.fn Qae)), (6, vI 20), (7, vI jk), (8, vI wl), (10, vI 20), (23, .rsl 42 0 8 0 jn jO), (24, vI jk), (25, vI jN), (26, .val (.fn Qae))], [bx 55 [(3, some [.val (.list jU jY), .val (.list jX jV)]), (4, some [vS jT, vI jW, vI jv, vI ju, vI js, .val (.list jG jx)]), (5, some [vI jr, vS jC, vI jB, vI jt, vI jy, vI jD, vI jz, vS jF, .val (.list jA jE)]), (8, some [.row 42 wo])], bx 9 [], bx 63 []], KK⟩ (opsK Tryz.prog (C lb n) (I7 lb n) 2 (QaA (sub (B Qaa) [1, 1, 1, 0])) ((QaA (sub (B Qaa) [1, 1, 1, 0])).drop 5) ((seqK (E2 lb n 2 996) (sub (B Qaa) [1, 1, 1, 0]) (sub (B Qaa) [1, 1, 1, 1]) (retK Tryz.prog (R Qaa) 2 K)) .normal))))))))) kt ⟨fr 53 [(0, .rsl 42 0 8 0 jn jO), (1, vI jk), (2, vI jN), (3, .val (.fn Qae)), (8, vI wz), (9, vI i1143), (10, vI jk), (11, .val (.int .i64 (IntKind.wrap .i64 (jk + 1)))), (17, vI wz)], [bx 55 [(3, some [.val (.list jU jY), .val (.list jX jV)]), (4, some [vS jT, vI jW, vI jv, vI ju, vI js, .val (.list jG jx)]), (5, some [vI jr, vS jC, vI jB, vI jt, vI jy, vI jD, vI jz, vS jF, .val (.list jA jE)]), (8, some [.row 42 yw])], bx 9 [], bx 63 [], bx 53 []], KK⟩)
noncomputable def QbW (lb n jn jO : Nat) (jN jk wl : Int) (jU : Bool) (jY : LL) (jX : Bool) (jV : LL) (jT : LB) (jW jv ju js : Int) (jG : Bool) (jx : LL) (jr : Int) (jC : LB) (jB jt jy jD jz : Int) (jF : LB) (jA : Bool) (jE wo : LL) (K : AV → List (List (Option (List AV))) → Option CV) (wJ : Nat) (wz kN : Int) (ks : LL) : Option CV :=
 hold (E3 lb n 3 995 (sub (B Qab) [1, 0, 0, 1, 1]) (Qbs 3 (Qad (sub (B Qab) [1, 0, 0]) ++ [9, 9]) [] (Qas (E3 lb n 3 997) 3 (Qad (sub (B Qab) [1, 0, 0]) ++ [9, 9]) [] (sub (B Qab) [1, 0, 0]) (Qaj 0 (retK Tryz.prog (R Qab) 3 (inlK (opAt (QaA (sub (B Qaa) [1, 1, 1, 0])) 4) ⟨fr 63 [(0, .rsl 42 0 8 0 jn jO), (1, vI jN), (2, .val (.fn Qae)), (6, vI 20), (7, vI jk), (8, vI wl), (10, vI 20), (23, .rsl 42 0 8 0 jn jO), (24, vI jk), (25, vI jN), (26, .val (.fn Qae))], [bx 55 [(3, some [.val (.list jU jY), .val (.list jX jV)]), (4, some [vS jT, vI jW, vI jv, vI ju, vI js, .val (.list jG jx)]), (5, some [vI jr, vS jC, vI jB, vI jt, vI jy, vI jD, vI jz, vS jF, .val (.list jA jE)]), (8, some [.row 42 wo])], bx 9 [], bx 63 []], KK⟩ (opsK Tryz.prog (C lb n) (I7 lb n) 2 (QaA (sub (B Qaa) [1, 1, 1, 0])) ((QaA (sub (B Qaa) [1, 1, 1, 0])).drop 5) ((seqK (E2 lb n 2 996) (sub (B Qaa) [1, 1, 1, 0]) (sub (B Qaa) [1, 1, 1, 1]) (retK Tryz.prog (R Qaa) 2 K)) .normal))))) wJ) (Qaj 0 (retK Tryz.prog (R Qab) 3 (inlK (opAt (QaA (sub (B Qaa) [1, 1, 1, 0])) 4) ⟨fr 63 [(0, .rsl 42 0 8 0 jn jO), (1, vI jN), (2, .val (.fn Qae)), (6, vI 20), (7, vI jk), (8, vI wl), (10, vI 20), (23, .rsl 42 0 8 0 jn jO), (24, vI jk), (25, vI jN), (26, .val (.fn Qae))], [bx 55 [(3, some [.val (.list jU jY), .val (.list jX jV)]), (4, some [vS jT, vI jW, vI jv, vI ju, vI js, .val (.list jG jx)]), (5, some [vI jr, vS jC, vI jB, vI jt, vI jy, vI jD, vI jz, vS jF, .val (.list jA jE)]), (8, some [.row 42 wo])], bx 9 [], bx 63 []], KK⟩ (opsK Tryz.prog (C lb n) (I7 lb n) 2 (QaA (sub (B Qaa) [1, 1, 1, 0])) ((QaA (sub (B Qaa) [1, 1, 1, 0])).drop 5) ((seqK (E2 lb n 2 996) (sub (B Qaa) [1, 1, 1, 0]) (sub (B Qaa) [1, 1, 1, 1]) (retK Tryz.prog (R Qaa) 2 K)) .normal)))))) ⟨fr 53 [(0, .rsl 42 0 8 0 jn jO), (1, vI jk), (2, vI jN), (3, .val (.fn Qae)), (8, vI wz), (9, vI kN), (10, vI jk), (11, .val (.int .i64 (IntKind.wrap .i64 (jk + 1))))], [bx 55 [(3, some [.val (.list jU jY), .val (.list jX jV)]), (4, some [vS jT, vI jW, vI jv, vI ju, vI js, .val (.list jG jx)]), (5, some [vI jr, vS jC, vI jB, vI jt, vI jy, vI jD, vI jz, vS jF, .val (.list jA jE)]), (8, some [.row 42 ks])], bx 9 [], bx 63 [], bx 53 []], KK⟩)
theorem QcJ (lb n jn jO : Nat) (jN jk wl : Int) (jU : Bool) (jY : LL) (jX : Bool) (jV : LL) (jT : LB) (jW jv ju js : Int) (jG : Bool) (jx : LL) (jr : Int) (jC : LB) (jB jt jy jD jz : Int) (jF : LB) (jA : Bool) (jE wo : LL) (K : AV → List (List (Option (List AV))) → Option CV) (wJ : Nat) (wz kN : Int) (ks : LL) :
 QbW lb n jn jO jN jk wl jU jY jX jV jT jW jv ju js jG jx jr jC jB jt jy jD jz jF jA jE wo K wJ wz kN ks =
 Qbd lb n wJ jn jO jN jk wl jU jY jX jV jT jW jv ju js jG jx jr jC jB jt jy jD jz jF jA jE wo K (IntKind.wrap .i64 (wz + 1)) ks := (Qaf _).trans (by kernel_rfl)
theorem Qcz (lb n kt jn jO : Nat) (jN jk wl : Int) (jU : Bool) (jY : LL) (jX : Bool) (jV : LL) (jT : LB) (jW jv ju js : Int) (jG : Bool) (jx : LL) (jr : Int) (jC : LB) (jB jt jy jD jz : Int) (jF : LB) (jA : Bool) (jE wo : LL) (K : AV → List (List (Option (List AV))) → Option CV) (wJ : Nat) (wz i1143 : Int) (yw : LL) :
 Qbv lb n (kt + 1) jn jO jN jk wl jU jY jX jV jT jW jv ju js jG jx jr jC jB jt jy jD jz jF jA jE wo K wJ wz i1143 yw =
 bif (decide (i1143 > jk)) then
 (chkO ((decide (0 ≤ (i1143 : Int))) && (decide ((i1143 : Int) < ((jn : Nat) : Int)))) (
 optO (yw[0 + i1143.toNat]?) fun vM =>
 optO (vM[0]?) fun mH =>
 optO (vM[1]?) fun g0 =>
 optO (vM[2]?) fun mM =>
 optO (vM[3]?) fun mq =>
 optO (vM[4]?) fun mo =>
 optO (vM[5]?) fun mL =>
 chkO ((decide (0 ≤ ((IntKind.wrap .i64 (i1143 - 1)) : Int))) && (decide (((IntKind.wrap .i64 (i1143 - 1)) : Int) < ((jn : Nat) : Int)))) (
 optO (yw[0 + ((IntKind.wrap .i64 (i1143 - 1)).toNat)]?) fun vJ =>
 optO (vJ[0]?) fun mT =>
 optO (vJ[1]?) fun mz =>
 optO (vJ[2]?) fun mU =>
 optO (vJ[3]?) fun mA =>
 optO (vJ[4]?) fun gX =>
 optO (vJ[5]?) fun mP =>
 optO (C lb n Qae [.agg [mH, g0, mM, mq, mo, mL], .agg [mT, mz, mU, mA, gX, mP]]) fun md =>
 optO (CV.asI .i64 md) fun mV =>
 bif (decide (mV < 0)) then
 (chkO ((decide (0 ≤ ((IntKind.wrap .i64 (i1143 - 1)) : Int))) && (decide (((IntKind.wrap .i64 (i1143 - 1)) : Int) < ((jn : Nat) : Int)))) (
 optO (yw[0 + ((IntKind.wrap .i64 (i1143 - 1)).toNat)]?) fun vK =>
 optO (vK[0]?) fun oR =>
 optO (vK[1]?) fun oV =>
 optO (vK[2]?) fun oT =>
 optO (vK[3]?) fun oK =>
 optO (vK[4]?) fun oS =>
 optO (vK[5]?) fun oQ =>
 chkO ((decide (0 ≤ (i1143 : Int))) && (decide ((i1143 : Int) < ((jn : Nat) : Int)))) (
 optO (yw[0 + i1143.toNat]?) fun vN =>
 optO (vN[0]?) fun mK =>
 optO (vN[1]?) fun mw =>
 optO (vN[2]?) fun mc =>
 optO (vN[3]?) fun g8 =>
 optO (vN[4]?) fun ml =>
 optO (vN[5]?) fun mW =>
 chkO ((decide (0 ≤ (i1143 : Int))) && (decide ((i1143 : Int) < ((jn : Nat) : Int)))) (
 optO (yw[0 + i1143.toNat]?) fun c1208 =>
 chkO (decide ((6 : Nat) ≤ c1208.length)) (
 chkO ((decide (0 ≤ ((IntKind.wrap .i64 (i1143 - 1)) : Int))) && (decide (((IntKind.wrap .i64 (i1143 - 1)) : Int) < ((jn : Nat) : Int)))) (
 optO ((setN yw (0 + i1143.toNat) (Qbp c1208 0 [oR, oV, oT, oK, oS, oQ]))[0 + ((IntKind.wrap .i64 (i1143 - 1)).toNat)]?) fun c1209 =>
 chkO (decide ((6 : Nat) ≤ c1209.length)) (
 Qbv lb n kt jn jO jN jk wl jU jY jX jV jT jW jv ju js jG jx jr jC jB jt jy jD jz jF jA jE wo K wJ wz (IntKind.wrap .i64 (i1143 - 1)) (setN (setN yw (0 + i1143.toNat) (Qbp c1208 0 [oR, oV, oT, oK, oS, oQ])) (0 + ((IntKind.wrap .i64 (i1143 - 1)).toNat)) (Qbp c1209 0 [mK, mw, mc, g8, ml, mW])))))))))
 else
 (QbW lb n jn jO jN jk wl jU jY jX jV jT jW jv ju js jG jx jr jC jB jt jy jD jz jF jA jE wo K wJ wz i1143 yw))))
 else
 (QbW lb n jn jO jN jk wl jU jY jX jV jT jW jv ju js jG jx jr jC jB jt jy jD jz jF jA jE wo K wJ wz i1143 yw) := (Qaf _).trans (by kernel_rfl)
noncomputable def Qbw (lb n vL : Nat) (K : AV → List (List (Option (List AV))) → Option CV) (jn jO : Nat) (jN jk : Int) (jU : Bool) (jY : LL) (jX : Bool) (jV : LL) (jT : LB) (jW jv ju js : Int) (jG : Bool) (jx : LL) (jr : Int) (jC : LB) (jB jt jy jD jz : Int) (jF : LB) (jA : Bool) (jE : LL) (yL kP kO : Int) (kb : LL) : Option CV :=
 hold (Qas (E2 lb n 2 994) 2 (Qad (sub (B Qaa) [1, 1, 1, 1, 0, 0]) ++ [9]) [] (sub (B Qaa) [1, 1, 1, 1, 0, 0]) (Qaj 2 (retK Tryz.prog (R Qaa) 2 K)) vL ⟨fr 63 [(0, .rsl 42 0 8 0 jn jO), (1, vI jN), (2, .val (.fn Qae)), (6, vI yL), (7, vI kP), (8, vI kO), (10, vI 20), (23, .rsl 42 0 8 0 jn jO), (24, vI jk), (25, vI jN), (26, .val (.fn Qae)), (27, .val (.tup []))], [bx 55 [(3, some [.val (.list jU jY), .val (.list jX jV)]), (4, some [vS jT, vI jW, vI jv, vI ju, vI js, .val (.list jG jx)]), (5, some [vI jr, vS jC, vI jB, vI jt, vI jy, vI jD, vI jz, vS jF, .val (.list jA jE)]), (8, some [.row 42 kb])], bx 9 [], bx 63 []], KK⟩)
noncomputable def QeT (lb n gZ : Nat) (K : AV → List (List (Option (List AV))) → Option CV) (vL jn jO : Nat) (jN yL jk : Int) (jU : Bool) (jY : LL) (jX : Bool) (jV : LL) (jT : LB) (jW jv ju js : Int) (jG : Bool) (jx : LL) (jr : Int) (jC : LB) (jB jt jy jD jz : Int) (jF : LB) (jA : Bool) (jE : LL) (mC g9 : Int) (mJ : LL) : Option CV :=
 hold (Qas (E2 lb n 2 988) 2 (Qad (sub (B Qaa) [1, 1, 1, 1, 0, 0, 1, 0, 1, 0, 0, 0]) ++ []) [] (sub (B Qaa) [1, 1, 1, 1, 0, 0, 1, 0, 1, 0, 0, 0]) (Qaj 4 (seqK (E2 lb n 2 990) (sub (B Qaa) [1, 1, 1, 1, 0, 0, 1, 0, 1, 0]) (sub (B Qaa) [1, 1, 1, 1, 0, 0, 1, 0, 1, 1]) (Qaj 3 (Qbs 2 (Qad (sub (B Qaa) [1, 1, 1, 1, 0, 0]) ++ [9]) [] (Qas (E2 lb n 2 994) 2 (Qad (sub (B Qaa) [1, 1, 1, 1, 0, 0]) ++ [9]) [] (sub (B Qaa) [1, 1, 1, 1, 0, 0]) (Qaj 2 (retK Tryz.prog (R Qaa) 2 K)) vL) (Qaj 2 (retK Tryz.prog (R Qaa) 2 K)))))) gZ ⟨fr 63 [(0, .rsl 42 0 8 0 jn jO), (1, vI jN), (2, .val (.fn Qae)), (6, vI yL), (7, vI mC), (8, vI g9), (10, vI 20), (23, .rsl 42 0 8 0 jn jO), (24, vI jk), (25, vI jN), (26, .val (.fn Qae)), (27, .val (.tup [])), (31, vI yL), (32, .val (.int .i64 (IntKind.wrap .i64 (2 * yL))))], [bx 55 [(3, some [.val (.list jU jY), .val (.list jX jV)]), (4, some [vS jT, vI jW, vI jv, vI ju, vI js, .val (.list jG jx)]), (5, some [vI jr, vS jC, vI jB, vI jt, vI jy, vI jD, vI jz, vS jF, .val (.list jA jE)]), (8, some [.row 42 mJ])], bx 9 [], bx 63 []], KK⟩)
theorem Qed (lb n vL : Nat) (K : AV → List (List (Option (List AV))) → Option CV) (jn jO : Nat) (jN jk : Int) (jU : Bool) (jY : LL) (jX : Bool) (jV : LL) (jT : LB) (jW jv ju js : Int) (jG : Bool) (jx : LL) (jr : Int) (jC : LB) (jB jt jy jD jz : Int) (jF : LB) (jA : Bool) (jE : LL) (yL kP kO : Int) (kb : LL) :
 Qbw lb n (vL + 1) K jn jO jN jk jU jY jX jV jT jW jv ju js jG jx jr jC jB jt jy jD jz jF jA jE yL kP kO kb =
 bif (decide (yL < jN)) then
 (QeT lb n n K vL jn jO jN yL jk jU jY jX jV jT jW jv ju js jG jx jr jC jB jt jy jD jz jF jA jE 0 (IntKind.wrap .i64 (2 * yL)) kb)
 else
 (K (.val (.tup [])) [bx 55 [(3, some [.val (.list jU jY), .val (.list jX jV)]), (4, some [vS jT, vI jW, vI jv, vI ju, vI js, .val (.list jG jx)]), (5, some [vI jr, vS jC, vI jB, vI jt, vI jy, vI jD, vI jz, vS jF, .val (.list jA jE)]), (8, some [.row 42 kb])], bx 9 []]) := (Qaf _).trans (by kernel_rfl)
theorem QcA (lb n wJ jn jO : Nat) (jN jk wl : Int) (jU : Bool) (jY : LL) (jX : Bool) (jV : LL) (jT : LB) (jW jv ju js : Int) (jG : Bool) (jx : LL) (jr : Int) (jC : LB) (jB jt jy jD jz : Int) (jF : LB) (jA : Bool) (jE wo : LL) (K : AV → List (List (Option (List AV))) → Option CV) (wz : Int) (v6 : LL) :
 Qbd lb n (wJ + 1) jn jO jN jk wl jU jY jX jV jT jW jv ju js jG jx jr jC jB jt jy jD jz jF jA jE wo K wz v6 =
 bif (decide (wz < jN)) then
 (Qbv lb n n jn jO jN jk wl jU jY jX jV jT jW jv ju js jG jx jr jC jB jt jy jD jz jF jA jE wo K wJ wz wz v6)
 else
 (Qbw lb n n K jn jO jN jk jU jY jX jV jT jW jv ju js jG jx jr jC jB jt jy jD jz jF jA jE 20 jk wl v6) := (Qaf _).trans (by kernel_rfl)
theorem QeC (lb n : Nat) (K : AV → List (List (Option (List AV))) → Option CV) (jn jO : Nat) (jN : Int) (jU : Bool) (jY : LL) (jX : Bool) (jV : LL) (jT : LB) (jW jv ju js : Int) (jG : Bool) (jx : LL) (jr : Int) (jC : LB) (jB jt jy jD jz : Int) (jF : LB) (jA : Bool) (jE : LL) (jk wl : Int) (wo : LL) :
 Qc8 lb n K jn jO jN jU jY jX jV jT jW jv ju js jG jx jr jC jB jt jy jD jz jF jA jE jk wl wo =
 Qbd lb n n jn jO jN jk wl jU jY jX jV jT jW jv ju js jG jx jr jC jB jt jy jD jz jF jA jE wo K (IntKind.wrap .i64 (jk + 1)) wo := (Qaf _).trans (by kernel_rfl)
theorem Qec (lb n kf : Nat) (K : AV → List (List (Option (List AV))) → Option CV) (jn jO : Nat) (jN : Int) (jU : Bool) (jY : LL) (jX : Bool) (jV : LL) (jT : LB) (jW jv ju js : Int) (jG : Bool) (jx : LL) (jr : Int) (jC : LB) (jB jt jy jD jz : Int) (jF : LB) (jA : Bool) (jE : LL) (yO va : Int) (vq : LL) :
 QbX lb n (kf + 1) K jn jO jN jU jY jX jV jT jW jv ju js jG jx jr jC jB jt jy jD jz jF jA jE yO va vq =
 bif (decide (va ≤ jN)) then
 (Qfb lb n n jn jO jN yO va jU jY jX jV jT jW jv ju js jG jx jr jC jB jt jy jD jz jF jA jE vq K kf (IntKind.wrap .i64 (yO + 1)) vq)
 else
 (Qc8 lb n K jn jO jN jU jY jX jV jT jW jv ju js jG jx jr jC jB jt jy jD jz jF jA jE yO va vq) := (Qaf _).trans (by kernel_rfl)
theorem Qe0 (lb n : Nat) (K : AV → List (List (Option (List AV))) → Option CV) (jn jO : Nat) (jN : Int) (jU : Bool) (jY : LL) (jX : Bool) (jV : LL) (jT : LB) (jW jv ju js : Int) (jG : Bool) (jx : LL) (jr : Int) (jC : LB) (jB jt jy jD jz : Int) (jF : LB) (jA : Bool) (jE kQ : LL) :
 Qcc lb n K jn jO jN jU jY jX jV jT jW jv ju js jG jx jr jC jB jt jy jD jz jF jA jE kQ =
 QbX lb n n K jn jO jN jU jY jX jV jT jW jv ju js jG jx jr jC jB jt jy jD jz jF jA jE 0 20 kQ := by kernel_rfl
theorem Qme (lb n : Nat) (we : LB) (wd jH jP jJ : Int) (j8 : Bool) (aleg7 : LL) (gm : LB) (oH kg kR kB : Int) (o9 : Bool) (gC : LL) :
 top lb n Qae [.agg [.str we, .int .i64 wd, .int .i64 jH, .int .i64 jP, .int .i64 jJ, .list j8 aleg7], .agg [.str gm, .int .i64 oH, .int .i64 kg, .int .i64 kR, .int .i64 kB, .list o9 gC]] =
 optO (C lb n Qf3 [.int .i64 jH, .int .i64 kg]) fun pD =>
 some (pD) := by kernel_rfl
theorem Qnl (lb n : Nat) (a1 b2 : Int) :
 top lb n Qf3 [.int .i64 a1, .int .i64 b2] =
 optO (C lb n Qfd [.int .i64 a1]) fun r3 =>
 optO (C lb n Qfd [.int .i64 b2]) fun r4 =>
 optO (CV.asB r3) fun b5 =>
 bif b5 then
 (optO (CV.asB r4) fun b6 =>
 bif b6 then
 (some (.int .i64 0))
 else
 (some (.int .i64 (-1))))
 else
 (optO (CV.asB r4) fun b7 =>
 bif b7 then
 (some (.int .i64 1))
 else
 (bif (decide (a1 < b2)) then
 (some (.int .i64 (-1)))
 else
 (bif (decide (a1 > b2)) then
 (some (.int .i64 1))
 else
 (some (.int .i64 0))))) := by kernel_rfl
theorem Qo9 (lb n : Nat) (a1 : Int) :
 top lb n Qfd [.int .i64 a1] =
 some (.bool (a1 != a1)) := by kernel_rfl
end Go.Proofs
