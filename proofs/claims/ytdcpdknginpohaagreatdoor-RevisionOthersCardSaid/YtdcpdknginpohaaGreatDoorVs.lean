/- Equations of functions, printed by program. Conditions: none. -/
import Derived.Test.YtdcpdknginpohaaGreatDoorEv
namespace Go.Proofs
open Go.Am
set_option maxRecDepth 100000
set_option linter.unusedVariables false
noncomputable def revision_split_L1 :=
 fun lb n (nX : Nat) (ja : Bool) (aair2 : LL) (jb : Bool) (adis4 : LL) bcar5 jg jd jf jc (je : Bool) (bleg12 : LL) jX jY jZ ji jF jj j1 j0 (jP : Bool) (j2 : LL) vO (kA : Bool × LL) =>
 hold (Qau (E0 lb n 0 994) 0 (Qae (sub (B Qan) [1, 1, 0, 1, 0, 0]) ++ []) [10, 11] (sub (B Qan) [1, 1, 0, 1, 0, 0]) (Qal 0 (seqK (E0 lb n 0 997) (sub (B Qan) [1, 1, 0]) (sub (B Qan) [1, 1, 1]) (retK Tryz.prog (R Qan) 0 (outK (Qaj Tryz.prog Qan))))) nX ⟨fr 55 [(0, .val (.agg [.list ja aair2, .list jb adis4])), (1, .val (.agg [.str bcar5, .int .i64 jg, .int .i64 jd, .int .i64 jf, .int .i64 jc, .list je bleg12])), (2, .val (.agg [.int .i64 jX, .str jY, .int .i64 jZ, .int .i64 ji, .int .i64 jF, .int .i64 jj, .int .i64 j1, .str j0, .list jP j2])), (3, .ptr 0 3 0), (4, .ptr 0 4 0), (5, .ptr 0 5 0), (6, .lst true true 42 []), (7, vI 0), (8, .lst true true 42 []), (14, .ptr 0 4 2), (15, .val (.agg [.int .i64 jd, .int .i64 jf, .int .i64 jc])), (16, .ptr 0 5 3), (17, .val (.agg [.int .i64 ji, .int .i64 jF, .int .i64 jj])), (18, vV vO), (19, .val (.int .i64 (kA.2.length : Int))), (20, vI 0)], [bx 55 [(3, some [.val (.list ja aair2), .val (.list jb adis4)]), (4, some [vS bcar5, vI jg, vI jd, vI jf, vI jc, .val (.list je bleg12)]), (5, some [vI jX, vS jY, vI jZ, vI ji, vI jF, vI jj, vI j1, vS j0, .val (.list jP j2)])]], KK⟩)
noncomputable def Qej (lb n nQ : Nat) (ja : Bool) (aair2 : LL) (jb : Bool) (adis4 : LL) (bcar5 : LB) (jg jd jf jc : Int) (je : Bool) (bleg12 : LL) (jX : Int) (jY : LB) (jZ ji jF jj j1 : Int) (j0 : LB) (jP : Bool) (j2 : LL) (vO : CV) (kA : Bool × LL) (oS nB : Nat) (kR : Int) (l46 : LL) : Option CV :=
 hold (Qau (E0 lb n 0 994) 0 (Qae (sub (B Qan) [1, 1, 0, 1, 0, 0]) ++ []) [10, 11] (sub (B Qan) [1, 1, 0, 1, 0, 0]) (Qal 0 (seqK (E0 lb n 0 997) (sub (B Qan) [1, 1, 0]) (sub (B Qan) [1, 1, 1]) (retK Tryz.prog (R Qan) 0 (outK (Qaj Tryz.prog Qan))))) nQ ⟨fr 55 [(0, .val (.agg [.list ja aair2, .list jb adis4])), (1, .val (.agg [.str bcar5, .int .i64 jg, .int .i64 jd, .int .i64 jf, .int .i64 jc, .list je bleg12])), (2, .val (.agg [.int .i64 jX, .str jY, .int .i64 jZ, .int .i64 ji, .int .i64 jF, .int .i64 jj, .int .i64 j1, .str j0, .list jP j2])), (3, .ptr 0 3 0), (4, .ptr 0 4 0), (5, .ptr 0 5 0), (6, .lst true true 42 []), (7, vI 0), (8, .rsl 42 0 8 0 oS nB), (14, .ptr 0 4 2), (15, .val (.agg [.int .i64 jd, .int .i64 jf, .int .i64 jc])), (16, .ptr 0 5 3), (17, .val (.agg [.int .i64 ji, .int .i64 jF, .int .i64 jj])), (18, vV vO), (19, .val (.int .i64 (kA.2.length : Int))), (20, vI kR)], [bx 55 [(3, some [.val (.list ja aair2), .val (.list jb adis4)]), (4, some [vS bcar5, vI jg, vI jd, vI jf, vI jc, .val (.list je bleg12)]), (5, some [vI jX, vS jY, vI jZ, vI ji, vI jF, vI jj, vI j1, vS j0, .val (.list jP j2)]), (8, some [.row 42 l46])]], KK⟩)
noncomputable def Qei (lb n : Nat) (ja : Bool) (aair2 : LL) (jb : Bool) (adis4 : LL) (bcar5 : LB) (jg jd jf jc : Int) (je : Bool) (bleg12 : LL) (jX : Int) (jY : LB) (jZ ji jF jj j1 : Int) (j0 : LB) (jP : Bool) (j2 : LL) (yv kw : Nat) (l60 : LL) : Option CV :=
 hold (E0 lb n 0 997 (sub (B Qan) [1, 1, 1]) (retK Tryz.prog (R Qan) 0 (outK (Qaj Tryz.prog Qan))) ⟨fr 55 [(0, .val (.agg [.list ja aair2, .list jb adis4])), (1, .val (.agg [.str bcar5, .int .i64 jg, .int .i64 jd, .int .i64 jf, .int .i64 jc, .list je bleg12])), (2, .val (.agg [.int .i64 jX, .str jY, .int .i64 jZ, .int .i64 ji, .int .i64 jF, .int .i64 jj, .int .i64 j1, .str j0, .list jP j2])), (3, .ptr 0 3 0), (4, .ptr 0 4 0), (5, .ptr 0 5 0), (6, .lst true true 42 []), (7, vI 0), (8, .rsl 42 0 8 0 yv kw)], [bx 55 [(3, some [.val (.list ja aair2), .val (.list jb adis4)]), (4, some [vS bcar5, vI jg, vI jd, vI jf, vI jc, .val (.list je bleg12)]), (5, some [vI jX, vS jY, vI jZ, vI ji, vI jF, vI jj, vI j1, vS j0, .val (.list jP j2)]), (8, some [.row 42 l60])]], KK⟩)
noncomputable def Qbl (lb n : Nat) (K : AV → List (List (Option (List AV))) → Option CV) (jl jL : Nat) (jJ : Int) (jR : Bool) (jV : LL) (jU : Bool) (jT : LL) (jS : LB) (jW jx js jA : Int) (ju : Bool) (jn : LL) (jo : Int) (jy : LB) (jv jr jz jm jt : Int) (jp : LB) (jB : Bool) (jq kG : LL) (wv wq wp wo ww wu : CV) : Option CV :=
 I8 lb n Qaa [.rsl 42 0 8 0 jl jL, vI jJ, .val (.fn Qac)] [bx 55 [(3, some [.val (.list jR jV), .val (.list jU jT)]), (4, some [vS jS, vI jW, vI jx, vI js, vI jA, .val (.list ju jn)]), (5, some [vI jo, vS jy, vI jv, vI jr, vI jz, vI jm, vI jt, vS jp, .val (.list jB jq)]), (8, some [.row 42 kG]), (12, some [.val wv, .val wq, .val wp, .val wo, .val ww, .val wu])], bx 9 []] K
noncomputable def Qed (lb n yv : Nat) (ja : Bool) (aair2 : LL) (jb : Bool) (adis4 : LL) (bcar5 : LB) (jg jd jf jc : Int) (je : Bool) (bleg12 : LL) (jX : Int) (jY : LB) (jZ ji jF jj j1 : Int) (j0 : LB) (jP : Bool) (j2 l60 : LL) (kf kh vJ vP vG vW k6 : CV) : AV → List (List (Option (List AV))) → Option CV :=
 (inlK (opAt (QaA (sub (B Qao) [])) 4) ⟨fr 9 [(0, .rsl 42 0 8 0 (yv + 1) (yv + 1)), (1, .val (.fn Qac)), (4, .rsl 42 0 8 0 (yv + 1) (yv + 1)), (5, .rsl 42 0 8 0 (yv + 1) (yv + 1)), (6, .val (.int .i64 ((yv + 1 : Nat) : Int))), (7, .val (.fn Qac))], [bx 55 [(3, some [.val (.list ja aair2), .val (.list jb adis4)]), (4, some [vS bcar5, vI jg, vI jd, vI jf, vI jc, .val (.list je bleg12)]), (5, some [vI jX, vS jY, vI jZ, vI ji, vI jF, vI jj, vI j1, vS j0, .val (.list jP j2)]), (8, some [.row 42 (l60 ++ [[kf, kh, vJ, vP, vG, vW]])]), (12, some [.val kf, .val kh, .val vJ, .val vP, .val vG, .val vW])], bx 9 []], KK⟩ (opsK Tryz.prog (C lb n) (I8 lb n) 1 (QaA (sub (B Qao) [])) ((QaA (sub (B Qao) [])).drop 5) ((retK Tryz.prog (R Qao) 1 (inlK (opAt (QaA (sub (B Qan) [1, 1, 1, 1, 0])) 1) ⟨fr 55 [(0, .val (.agg [.list ja aair2, .list jb adis4])), (1, .val (.agg [.str bcar5, .int .i64 jg, .int .i64 jd, .int .i64 jf, .int .i64 jc, .list je bleg12])), (2, .val (.agg [.int .i64 jX, .str jY, .int .i64 jZ, .int .i64 ji, .int .i64 jF, .int .i64 jj, .int .i64 j1, .str j0, .list jP j2])), (3, .ptr 0 3 0), (4, .ptr 0 4 0), (5, .ptr 0 5 0), (6, .lst true true 42 []), (7, vI 0), (8, .rsl 42 0 8 0 (yv + 1) (yv + 1)), (13, vV k6), (52, .rsl 42 0 8 0 (yv + 1) (yv + 1))], [bx 55 [(3, some [.val (.list ja aair2), .val (.list jb adis4)]), (4, some [vS bcar5, vI jg, vI jd, vI jf, vI jc, .val (.list je bleg12)]), (5, some [vI jX, vS jY, vI jZ, vI ji, vI jF, vI jj, vI j1, vS j0, .val (.list jP j2)]), (8, some [.row 42 (l60 ++ [[kf, kh, vJ, vP, vG, vW]])]), (12, some [.val kf, .val kh, .val vJ, .val vP, .val vG, .val vW])]], KK⟩ (opsK Tryz.prog (C lb n) (I9 lb n) 0 (QaA (sub (B Qan) [1, 1, 1, 1, 0])) ((QaA (sub (B Qan) [1, 1, 1, 1, 0])).drop 2) ((seqK (E0 lb n 0 995) (sub (B Qan) [1, 1, 1, 1, 0]) (sub (B Qan) [1, 1, 1, 1, 1]) (retK Tryz.prog (R Qan) 0 (outK (Qaj Tryz.prog Qan)))) .normal)))) .normal)))
theorem Qk8 (lb n yv : Nat) (ja : Bool) (aair2 : LL) (jb : Bool) (adis4 : LL) (bcar5 : LB) (jg jd jf jc : Int) (je : Bool) (bleg12 : LL) (jX : Int) (jY : LB) (jZ ji jF jj j1 : Int) (j0 : LB) (jP : Bool) (j2 l60 : LL) (kf kh vJ vP vG vW k6 : CV) (l75 : LL) (lE : Bool) :
 Qed lb n yv ja aair2 jb adis4 bcar5 jg jd jf jc je bleg12 jX jY jZ ji jF jj j1 j0 jP j2 l60 kf kh vJ vP vG vW k6 (.val (.tup [])) [bx 55 [(3, some [.val (.list ja aair2), .val (.list jb adis4)]), (4, some [vS bcar5, vI jg, vI jd, vI jf, vI jc, .val (.list je bleg12)]), (5, some [vI jX, vS jY, vI jZ, vI ji, vI jF, vI jj, vI j1, vS j0, .val (.list jP j2)]), (8, some [.row 42 l75]), (12, some [.val kf, .val kh, .val vJ, .val vP, .val vG, .val vW])], bx 9 []] =
 chkO (decide ((0 + (yv + 1)) ≤ l75.length)) (
 some (.tup [.list false ((l75.drop 0).take (yv + 1)), .int .i64 0])) := by kernel_rfl
noncomputable def Qb6 (lb n : Nat) (K : AV → List (List (Option (List AV))) → Option CV) (jl jL : Nat) (jJ : Int) (jR : Bool) (jV : LL) (jU : Bool) (jT : LL) (jS : LB) (jW jx js jA : Int) (ju : Bool) (jn : LL) (jo : Int) (jy : LB) (jv jr jz jm jt : Int) (jp : LB) (jB : Bool) (jq kG : LL) : Option CV :=
 I8 lb n Qaa [.rsl 42 0 8 0 jl jL, vI jJ, .val (.fn Qac)] [bx 55 [(3, some [.val (.list jR jV), .val (.list jU jT)]), (4, some [vS jS, vI jW, vI jx, vI js, vI jA, .val (.list ju jn)]), (5, some [vI jo, vS jy, vI jv, vI jr, vI jz, vI jm, vI jt, vS jp, .val (.list jB jq)]), (8, some [.row 42 kG])], bx 9 []] K
noncomputable def Qec (lb n yv kw : Nat) (ja : Bool) (aair2 : LL) (jb : Bool) (adis4 : LL) (bcar5 : LB) (jg jd jf jc : Int) (je : Bool) (bleg12 : LL) (jX : Int) (jY : LB) (jZ ji jF jj j1 : Int) (j0 : LB) (jP : Bool) (j2 l60 : LL) : AV → List (List (Option (List AV))) → Option CV :=
 (inlK (opAt (QaA (sub (B Qao) [])) 4) ⟨fr 9 [(0, .rsl 42 0 8 0 yv kw), (1, .val (.fn Qac)), (4, .rsl 42 0 8 0 yv kw), (5, .rsl 42 0 8 0 yv kw), (6, .val (.int .i64 ((yv : Nat) : Int))), (7, .val (.fn Qac))], [bx 55 [(3, some [.val (.list ja aair2), .val (.list jb adis4)]), (4, some [vS bcar5, vI jg, vI jd, vI jf, vI jc, .val (.list je bleg12)]), (5, some [vI jX, vS jY, vI jZ, vI ji, vI jF, vI jj, vI j1, vS j0, .val (.list jP j2)]), (8, some [.row 42 l60])], bx 9 []], KK⟩ (opsK Tryz.prog (C lb n) (I8 lb n) 1 (QaA (sub (B Qao) [])) ((QaA (sub (B Qao) [])).drop 5) ((retK Tryz.prog (R Qao) 1 (inlK (opAt (QaA (sub (B Qan) [1, 1, 1, 1, 0])) 1) ⟨fr 55 [(0, .val (.agg [.list ja aair2, .list jb adis4])), (1, .val (.agg [.str bcar5, .int .i64 jg, .int .i64 jd, .int .i64 jf, .int .i64 jc, .list je bleg12])), (2, .val (.agg [.int .i64 jX, .str jY, .int .i64 jZ, .int .i64 ji, .int .i64 jF, .int .i64 jj, .int .i64 j1, .str j0, .list jP j2])), (3, .ptr 0 3 0), (4, .ptr 0 4 0), (5, .ptr 0 5 0), (6, .lst true true 42 []), (7, vI 0), (8, .rsl 42 0 8 0 yv kw), (52, .rsl 42 0 8 0 yv kw)], [bx 55 [(3, some [.val (.list ja aair2), .val (.list jb adis4)]), (4, some [vS bcar5, vI jg, vI jd, vI jf, vI jc, .val (.list je bleg12)]), (5, some [vI jX, vS jY, vI jZ, vI ji, vI jF, vI jj, vI j1, vS j0, .val (.list jP j2)]), (8, some [.row 42 l60])]], KK⟩ (opsK Tryz.prog (C lb n) (I9 lb n) 0 (QaA (sub (B Qan) [1, 1, 1, 1, 0])) ((QaA (sub (B Qan) [1, 1, 1, 1, 0])).drop 2) ((seqK (E0 lb n 0 995) (sub (B Qan) [1, 1, 1, 1, 0]) (sub (B Qan) [1, 1, 1, 1, 1]) (retK Tryz.prog (R Qan) 0 (outK (Qaj Tryz.prog Qan)))) .normal)))) .normal)))
theorem QlF (lb n yv kw : Nat) (ja : Bool) (aair2 : LL) (jb : Bool) (adis4 : LL) (bcar5 : LB) (jg jd jf jc : Int) (je : Bool) (bleg12 : LL) (jX : Int) (jY : LB) (jZ ji jF jj j1 : Int) (j0 : LB) (jP : Bool) (j2 l60 l77 : LL) (lC : Bool) :
 Qec lb n yv kw ja aair2 jb adis4 bcar5 jg jd jf jc je bleg12 jX jY jZ ji jF jj j1 j0 jP j2 l60 (.val (.tup [])) [bx 55 [(3, some [.val (.list ja aair2), .val (.list jb adis4)]), (4, some [vS bcar5, vI jg, vI jd, vI jf, vI jc, .val (.list je bleg12)]), (5, some [vI jX, vS jY, vI jZ, vI ji, vI jF, vI jj, vI j1, vS j0, .val (.list jP j2)]), (8, some [.row 42 l77])], bx 9 []] =
 chkO (decide ((0 + yv) ≤ l77.length)) (
 some (.tup [.list false ((l77.drop 0).take yv), .int .i64 0])) := by kernel_rfl
theorem Qlo (lb n : Nat) (ja : Bool) (aair2 : LL) (jb : Bool) (adis4 : LL) (bcar5 : LB) (jg jd jf jc : Int) (je : Bool) (bleg12 : LL) (jX : Int) (jY : LB) (jZ ji jF jj j1 : Int) (j0 : LB) (jP : Bool) (j2 : LL) (yv kw : Nat) (l60 : LL) :
 Qei lb n ja aair2 jb adis4 bcar5 jg jd jf jc je bleg12 jX jY jZ ji jF jj j1 j0 jP j2 yv kw l60 =
 bif (jX != 2) then
 (optO (C lb n Qaq [.agg [.str bcar5, .int .i64 jg, .int .i64 jd, .int .i64 jf, .int .i64 jc, .list je bleg12], .agg [.int .i64 jX, .str jY, .int .i64 jZ, .int .i64 ji, .int .i64 jF, .int .i64 jj, .int .i64 j1, .str j0, .list jP j2]]) fun n3 =>
 optO (CV.asA n3) fun c62 =>
 chkO (c62.length == 6) (
 optO (c62[0]?) fun kf =>
 optO (c62[1]?) fun kh =>
 optO (c62[2]?) fun vJ =>
 optO (c62[3]?) fun vP =>
 optO (c62[4]?) fun vG =>
 optO (c62[5]?) fun vW =>
 optO (C lb n Qah [.agg [.list ja aair2, .list jb adis4], .agg [kf, kh, vJ, vP, vG, vW]]) fun k6 =>
 optO (CV.asL k6) fun zr =>
 bif (decide ((zr.2.length : Int) > 0)) then
 (optO (CV.asL k6) fun ov =>
 optO (atL ov.2 0) fun c73 =>
 chkO (c73.length == 2) (
 optO (c73[0]?) fun s6 =>
 some (.tup [.list true [], s6])))
 else
 (chkO (decide (yv = l60.length)) (
 chkO (room (yv + 1) 72) (
 Qbl lb n (Qed lb n yv ja aair2 jb adis4 bcar5 jg jd jf jc je bleg12 jX jY jZ ji jF jj j1 j0 jP j2 l60 kf kh vJ vP vG vW k6) (yv + 1) (yv + 1) ((yv + 1 : Nat) : Int) ja aair2 jb adis4 bcar5 jg jd jf jc je bleg12 jX jY jZ ji jF jj j1 j0 jP j2 (l60 ++ [[kf, kh, vJ, vP, vG, vW]]) kf kh vJ vP vG vW)))))
 else
 (Qb6 lb n (Qec lb n yv kw ja aair2 jb adis4 bcar5 jg jd jf jc je bleg12 jX jY jZ ji jF jj j1 j0 jP j2 l60) yv kw ((yv : Nat) : Int) ja aair2 jb adis4 bcar5 jg jd jf jc je bleg12 jX jY jZ ji jF jj j1 j0 jP j2 l60) := (Qad _).trans (by kernel_rfl)
theorem QfT (lb n nQ : Nat) (ja : Bool) (aair2 : LL) (jb : Bool) (adis4 : LL) (bcar5 : LB) (jg jd jf jc : Int) (je : Bool) (bleg12 : LL) (jX : Int) (jY : LB) (jZ ji jF jj j1 : Int) (j0 : LB) (jP : Bool) (j2 : LL) (vO : CV) (kA : Bool × LL) (oS nB : Nat) (kR : Int) (l46 : LL) :
 Qej lb n (nQ + 1) ja aair2 jb adis4 bcar5 jg jd jf jc je bleg12 jX jY jZ ji jF jj j1 j0 jP j2 vO kA oS nB kR l46 =
 bif (decide (kR < (kA.2.length : Int))) then
 (optO (CV.asL vO) fun zZ =>
 optO (atL zZ.2 kR) fun c54 =>
 chkO (c54.length == 3) (
 optO (c54[0]?) fun oo =>
 optO (c54[1]?) fun ou =>
 optO (c54[2]?) fun pr =>
 chkO (decide (oS = l46.length)) (
 chkO (room (oS + 1) 72) (
 Qej lb n nQ ja aair2 jb adis4 bcar5 jg jd jf jc je bleg12 jX jY jZ ji jF jj j1 j0 jP j2 vO kA (oS + 1) (oS + 1) (IntKind.wrap .i64 (kR + 1)) (l46 ++ [[CV.str bcar5, CV.int .i64 jg, oo, ou, pr, CV.list je bleg12]])))))
 else
 (Qei lb n ja aair2 jb adis4 bcar5 jg jd jf jc je bleg12 jX jY jZ ji jF jj j1 j0 jP j2 oS nB l46) := (Qad _).trans (by kernel_rfl)
noncomputable def QfR (lb n : Nat) (ja : Bool) (aair2 : LL) (jb : Bool) (adis4 : LL) (bcar5 : LB) (jg jd jf jc : Int) (je : Bool) (bleg12 : LL) (jX : Int) (jY : LB) (jZ ji jF jj j1 : Int) (j0 : LB) (jP : Bool) (j2 : LL) : Option CV :=
 hold (E0 lb n 0 997 (sub (B Qan) [1, 1, 1]) (retK Tryz.prog (R Qan) 0 (outK (Qaj Tryz.prog Qan))) ⟨fr 55 [(0, .val (.agg [.list ja aair2, .list jb adis4])), (1, .val (.agg [.str bcar5, .int .i64 jg, .int .i64 jd, .int .i64 jf, .int .i64 jc, .list je bleg12])), (2, .val (.agg [.int .i64 jX, .str jY, .int .i64 jZ, .int .i64 ji, .int .i64 jF, .int .i64 jj, .int .i64 j1, .str j0, .list jP j2])), (3, .ptr 0 3 0), (4, .ptr 0 4 0), (5, .ptr 0 5 0), (6, .lst true true 42 []), (7, vI 0), (8, .lst true true 42 [])], [bx 55 [(3, some [.val (.list ja aair2), .val (.list jb adis4)]), (4, some [vS bcar5, vI jg, vI jd, vI jf, vI jc, .val (.list je bleg12)]), (5, some [vI jX, vS jY, vI jZ, vI ji, vI jF, vI jj, vI j1, vS j0, .val (.list jP j2)])]], KK⟩)
noncomputable def Qel (lb n : Nat) (ja : Bool) (aair2 : LL) (jb : Bool) (adis4 : LL) (bcar5 : LB) (jg jd jf jc : Int) (je : Bool) (bleg12 : LL) (jX : Int) (jY : LB) (jZ ji jF jj j1 : Int) (j0 : LB) (jP : Bool) (j2 : LL) (kx kC v8 ke kB kL kZ : CV) : AV → List (List (Option (List AV))) → Option CV :=
 (inlK (opAt (QaA (sub (B Qao) [])) 4) ⟨fr 9 [(0, .rsl 42 0 8 0 1 1), (1, .val (.fn Qac)), (4, .rsl 42 0 8 0 1 1), (5, .rsl 42 0 8 0 1 1), (6, vI 1), (7, .val (.fn Qac))], [bx 55 [(3, some [.val (.list ja aair2), .val (.list jb adis4)]), (4, some [vS bcar5, vI jg, vI jd, vI jf, vI jc, .val (.list je bleg12)]), (5, some [vI jX, vS jY, vI jZ, vI ji, vI jF, vI jj, vI j1, vS j0, .val (.list jP j2)]), (8, some [.row 42 [[kx, kC, v8, ke, kB, kL]]]), (12, some [.val kx, .val kC, .val v8, .val ke, .val kB, .val kL])], bx 9 []], KK⟩ (opsK Tryz.prog (C lb n) (I8 lb n) 1 (QaA (sub (B Qao) [])) ((QaA (sub (B Qao) [])).drop 5) ((retK Tryz.prog (R Qao) 1 (inlK (opAt (QaA (sub (B Qan) [1, 1, 1, 1, 0])) 1) ⟨fr 55 [(0, .val (.agg [.list ja aair2, .list jb adis4])), (1, .val (.agg [.str bcar5, .int .i64 jg, .int .i64 jd, .int .i64 jf, .int .i64 jc, .list je bleg12])), (2, .val (.agg [.int .i64 jX, .str jY, .int .i64 jZ, .int .i64 ji, .int .i64 jF, .int .i64 jj, .int .i64 j1, .str j0, .list jP j2])), (3, .ptr 0 3 0), (4, .ptr 0 4 0), (5, .ptr 0 5 0), (6, .lst true true 42 []), (7, vI 0), (8, .rsl 42 0 8 0 1 1), (13, vV kZ), (52, .rsl 42 0 8 0 1 1)], [bx 55 [(3, some [.val (.list ja aair2), .val (.list jb adis4)]), (4, some [vS bcar5, vI jg, vI jd, vI jf, vI jc, .val (.list je bleg12)]), (5, some [vI jX, vS jY, vI jZ, vI ji, vI jF, vI jj, vI j1, vS j0, .val (.list jP j2)]), (8, some [.row 42 [[kx, kC, v8, ke, kB, kL]]]), (12, some [.val kx, .val kC, .val v8, .val ke, .val kB, .val kL])]], KK⟩ (opsK Tryz.prog (C lb n) (I9 lb n) 0 (QaA (sub (B Qan) [1, 1, 1, 1, 0])) ((QaA (sub (B Qan) [1, 1, 1, 1, 0])).drop 2) ((seqK (E0 lb n 0 995) (sub (B Qan) [1, 1, 1, 1, 0]) (sub (B Qan) [1, 1, 1, 1, 1]) (retK Tryz.prog (R Qan) 0 (outK (Qaj Tryz.prog Qan)))) .normal)))) .normal)))
theorem Qk2 (lb n : Nat) (ja : Bool) (aair2 : LL) (jb : Bool) (adis4 : LL) (bcar5 : LB) (jg jd jf jc : Int) (je : Bool) (bleg12 : LL) (jX : Int) (jY : LB) (jZ ji jF jj j1 : Int) (j0 : LB) (jP : Bool) (j2 : LL) (kx kC v8 ke kB kL kZ : CV) (l92 : LL) (go : Bool) :
 Qel lb n ja aair2 jb adis4 bcar5 jg jd jf jc je bleg12 jX jY jZ ji jF jj j1 j0 jP j2 kx kC v8 ke kB kL kZ (.val (.tup [])) [bx 55 [(3, some [.val (.list ja aair2), .val (.list jb adis4)]), (4, some [vS bcar5, vI jg, vI jd, vI jf, vI jc, .val (.list je bleg12)]), (5, some [vI jX, vS jY, vI jZ, vI ji, vI jF, vI jj, vI j1, vS j0, .val (.list jP j2)]), (8, some [.row 42 l92]), (12, some [.val kx, .val kC, .val v8, .val ke, .val kB, .val kL])], bx 9 []] =
 chkO (decide ((1 : Nat) ≤ l92.length)) (
 some (.tup [.list false ((l92.drop 0).take 1), .int .i64 0])) := by kernel_rfl
theorem Qlp (lb n : Nat) (ja : Bool) (aair2 : LL) (jb : Bool) (adis4 : LL) (bcar5 : LB) (jg jd jf jc : Int) (je : Bool) (bleg12 : LL) (jX : Int) (jY : LB) (jZ ji jF jj j1 : Int) (j0 : LB) (jP : Bool) (j2 : LL) :
 QfR lb n ja aair2 jb adis4 bcar5 jg jd jf jc je bleg12 jX jY jZ ji jF jj j1 j0 jP j2 =
 bif (jX != 2) then
 (optO (C lb n Qaq [.agg [.str bcar5, .int .i64 jg, .int .i64 jd, .int .i64 jf, .int .i64 jc, .list je bleg12], .agg [.int .i64 jX, .str jY, .int .i64 jZ, .int .i64 ji, .int .i64 jF, .int .i64 jj, .int .i64 j1, .str j0, .list jP j2]]) fun sF =>
 optO (CV.asA sF) fun c80 =>
 chkO (c80.length == 6) (
 optO (c80[0]?) fun kx =>
 optO (c80[1]?) fun kC =>
 optO (c80[2]?) fun v8 =>
 optO (c80[3]?) fun ke =>
 optO (c80[4]?) fun kB =>
 optO (c80[5]?) fun kL =>
 optO (C lb n Qah [.agg [.list ja aair2, .list jb adis4], .agg [kx, kC, v8, ke, kB, kL]]) fun kZ =>
 optO (CV.asL kZ) fun zi =>
 bif (decide ((zi.2.length : Int) > 0)) then
 (optO (CV.asL kZ) fun lk =>
 optO (atL lk.2 0) fun c90 =>
 chkO (c90.length == 2) (
 optO (c90[0]?) fun zp =>
 some (.tup [.list true [], zp])))
 else
 (Qbl lb n (Qel lb n ja aair2 jb adis4 bcar5 jg jd jf jc je bleg12 jX jY jZ ji jF jj j1 j0 jP j2 kx kC v8 ke kB kL kZ) 1 1 1 ja aair2 jb adis4 bcar5 jg jd jf jc je bleg12 jX jY jZ ji jF jj j1 j0 jP j2 [[kx, kC, v8, ke, kB, kL]] kx kC v8 ke kB kL)))
 else
 (optO (C lb n Qao [.list true [], .fn Qac]) fun lD =>
 some (.tup [.list true [], .int .i64 0])) := (Qad _).trans (by kernel_rfl)
theorem Qj5 (lb n nX : Nat) (ja : Bool) (aair2 : LL) (jb : Bool) (adis4 : LL) (bcar5 : LB) (jg jd jf jc : Int) (je : Bool) (bleg12 : LL) (jX : Int) (jY : LB) (jZ ji jF jj j1 : Int) (j0 : LB) (jP : Bool) (j2 : LL) (vO : CV) (kA : Bool × LL) :
 revision_split_L1 lb n (nX + 1) ja aair2 jb adis4 bcar5 jg jd jf jc je bleg12 jX jY jZ ji jF jj j1 j0 jP j2 vO kA =
 bif (decide ((0 : Int) < (kA.2.length : Int))) then
 (optO (CV.asL vO) fun pi =>
 optO (atL pi.2 0) fun c34 =>
 chkO (c34.length == 3) (
 optO (c34[0]?) fun yt =>
 optO (c34[1]?) fun yA =>
 optO (c34[2]?) fun yr =>
 Qej lb n nX ja aair2 jb adis4 bcar5 jg jd jf jc je bleg12 jX jY jZ ji jF jj j1 j0 jP j2 vO kA 1 1 1 [[CV.str bcar5, CV.int .i64 jg, yt, yA, yr, CV.list je bleg12]]))
 else
 (QfR lb n ja aair2 jb adis4 bcar5 jg jd jf jc je bleg12 jX jY jZ ji jF jj j1 j0 jP j2 ) := (Qad _).trans (by kernel_rfl)
theorem QnN (lb n : Nat) (ja : Bool) (aair2 : LL) (jb : Bool) (adis4 : LL) (bcar5 : LB) (jg jd jf jc : Int) (je : Bool) (bleg12 : LL) (jX : Int) (jY : LB) (jZ ji jF jj j1 : Int) (j0 : LB) (jP : Bool) (j2 : LL) :
 top lb n Qan [.agg [.list ja aair2, .list jb adis4], .agg [.str bcar5, .int .i64 jg, .int .i64 jd, .int .i64 jf, .int .i64 jc, .list je bleg12], .agg [.int .i64 jX, .str jY, .int .i64 jZ, .int .i64 ji, .int .i64 jF, .int .i64 jj, .int .i64 j1, .str j0, .list jP j2]] =
 optO (C lb n Qbo [.agg [.int .i64 jd, .int .i64 jf, .int .i64 jc], .agg [.int .i64 ji, .int .i64 jF, .int .i64 jj]]) fun vO =>
 optO (CV.asL vO) fun kA =>
 revision_split_L1 lb n n ja aair2 jb adis4 bcar5 jg jd jf jc je bleg12 jX jY jZ ji jF jj j1 j0 jP j2 vO kA  := by kernel_rfl
noncomputable def Qb5 (lb n v6 : Nat) (K : AV → List (List (Option (List AV))) → Option CV) (jl jL : Nat) (jJ : Int) (jR : Bool) (jV : LL) (jU : Bool) (jT : LL) (jS : LB) (jW jx js jA : Int) (ju : Bool) (jn : LL) (jo : Int) (jy : LB) (jv jr jz jm jt : Int) (jp : LB) (jB : Bool) (jq : LL) (wv wq wp wo ww wu : CV) (yI y4 : Int) (vp : LL) : Option CV :=
 hold (Qau (E2 lb n 2 995) 2 (Qae (sub (B Qaa) [1, 1, 0, 0, 0]) ++ []) [] (sub (B Qaa) [1, 1, 0, 0, 0]) (Qal 0 (seqK (E2 lb n 2 997) (sub (B Qaa) [1, 1, 0]) (sub (B Qaa) [1, 1, 1]) (retK Tryz.prog (R Qaa) 2 K))) v6 ⟨fr 63 [(0, .rsl 42 0 8 0 jl jL), (1, vI jJ), (2, .val (.fn Qac)), (6, vI 20), (7, vI yI), (8, vI y4), (10, vI 20)], [bx 55 [(3, some [.val (.list jR jV), .val (.list jU jT)]), (4, some [vS jS, vI jW, vI jx, vI js, vI jA, .val (.list ju jn)]), (5, some [vI jo, vS jy, vI jv, vI jr, vI jz, vI jm, vI jt, vS jp, .val (.list jB jq)]), (8, some [.row 42 vp]), (12, some [.val wv, .val wq, .val wp, .val wo, .val ww, .val wu])], bx 9 [], bx 63 []], KK⟩)
noncomputable def Qfo (lb n m9 jl jL : Nat) (jJ yI y4 : Int) (jR : Bool) (jV : LL) (jU : Bool) (jT : LL) (jS : LB) (jW jx js jA : Int) (ju : Bool) (jn : LL) (jo : Int) (jy : LB) (jv jr jz jm jt : Int) (jp : LB) (jB : Bool) (jq vp : LL) (wv wq wp wo ww wu : CV) (K : AV → List (List (Option (List AV))) → Option CV) (v6 : Nat) (nu : Int) (ni : LL) : Option CV :=
 hold (Qau (E3 lb n 3 997) 3 (Qae (sub (B Qab) [1, 0, 0]) ++ [9, 9]) [] (sub (B Qab) [1, 0, 0]) (Qal 0 (retK Tryz.prog (R Qab) 3 (inlK (opAt (QaA (sub (B Qaa) [1, 1, 0, 0, 0, 1, 0, 0])) 4) ⟨fr 63 [(0, .rsl 42 0 8 0 jl jL), (1, vI jJ), (2, .val (.fn Qac)), (6, vI 20), (7, vI yI), (8, vI y4), (10, vI 20), (14, .rsl 42 0 8 0 jl jL), (15, vI yI), (16, vI y4), (17, .val (.fn Qac))], [bx 55 [(3, some [.val (.list jR jV), .val (.list jU jT)]), (4, some [vS jS, vI jW, vI jx, vI js, vI jA, .val (.list ju jn)]), (5, some [vI jo, vS jy, vI jv, vI jr, vI jz, vI jm, vI jt, vS jp, .val (.list jB jq)]), (8, some [.row 42 vp]), (12, some [.val wv, .val wq, .val wp, .val wo, .val ww, .val wu])], bx 9 [], bx 63 []], KK⟩ (opsK Tryz.prog (C lb n) (I7 lb n) 2 (QaA (sub (B Qaa) [1, 1, 0, 0, 0, 1, 0, 0])) ((QaA (sub (B Qaa) [1, 1, 0, 0, 0, 1, 0, 0])).drop 5) ((seqK (E2 lb n 2 992) (sub (B Qaa) [1, 1, 0, 0, 0, 1, 0, 0]) (sub (B Qaa) [1, 1, 0, 0, 0, 1, 0, 1]) (Qal 1 (QbN 2 (Qae (sub (B Qaa) [1, 1, 0, 0, 0]) ++ []) [] (Qau (E2 lb n 2 995) 2 (Qae (sub (B Qaa) [1, 1, 0, 0, 0]) ++ []) [] (sub (B Qaa) [1, 1, 0, 0, 0]) (Qal 0 (seqK (E2 lb n 2 997) (sub (B Qaa) [1, 1, 0]) (sub (B Qaa) [1, 1, 1]) (retK Tryz.prog (R Qaa) 2 K))) v6) (Qal 0 (seqK (E2 lb n 2 997) (sub (B Qaa) [1, 1, 0]) (sub (B Qaa) [1, 1, 1]) (retK Tryz.prog (R Qaa) 2 K)))))) .normal))))) m9 ⟨fr 53 [(0, .rsl 42 0 8 0 jl jL), (1, vI yI), (2, vI y4), (3, .val (.fn Qac)), (8, vI nu), (10, vI yI), (11, .val (.int .i64 (IntKind.wrap .i64 (yI + 1))))], [bx 55 [(3, some [.val (.list jR jV), .val (.list jU jT)]), (4, some [vS jS, vI jW, vI jx, vI js, vI jA, .val (.list ju jn)]), (5, some [vI jo, vS jy, vI jv, vI jr, vI jz, vI jm, vI jt, vS jp, .val (.list jB jq)]), (8, some [.row 42 ni]), (12, some [.val wv, .val wq, .val wp, .val wo, .val ww, .val wu])], bx 9 [], bx 63 [], bx 53 []], KK⟩)
noncomputable def Qdi (lb n : Nat) (K : AV → List (List (Option (List AV))) → Option CV) (jl jL : Nat) (jJ : Int) (jR : Bool) (jV : LL) (jU : Bool) (jT : LL) (jS : LB) (jW jx js jA : Int) (ju : Bool) (jn : LL) (jo : Int) (jy : LB) (jv jr jz jm jt : Int) (jp : LB) (jB : Bool) (jq : LL) (wv wq wp wo ww wu : CV) (jh we : Int) (wi : LL) : Option CV :=
 hold (E2 lb n 2 997 (sub (B Qaa) [1, 1, 1]) (retK Tryz.prog (R Qaa) 2 K) ⟨fr 63 [(0, .rsl 42 0 8 0 jl jL), (1, vI jJ), (2, .val (.fn Qac)), (6, vI 20), (7, vI jh), (8, vI we), (10, vI 20)], [bx 55 [(3, some [.val (.list jR jV), .val (.list jU jT)]), (4, some [vS jS, vI jW, vI jx, vI js, vI jA, .val (.list ju jn)]), (5, some [vI jo, vS jy, vI jv, vI jr, vI jz, vI jm, vI jt, vS jp, .val (.list jB jq)]), (8, some [.row 42 wi]), (12, some [.val wv, .val wq, .val wp, .val wo, .val ww, .val wu])], bx 9 [], bx 63 []], KK⟩)
noncomputable def Qbe (lb n wK jl jL : Nat) (jJ jh we : Int) (jR : Bool) (jV : LL) (jU : Bool) (jT : LL) (jS : LB) (jW jx js jA : Int) (ju : Bool) (jn : LL) (jo : Int) (jy : LB) (jv jr jz jm jt : Int) (jp : LB) (jB : Bool) (jq wi : LL) (wv wq wp wo ww wu : CV) (K : AV → List (List (Option (List AV))) → Option CV) (wy : Int) (vU : LL) : Option CV :=
 hold (Qau (E3 lb n 3 997) 3 (Qae (sub (B Qab) [1, 0, 0]) ++ [9, 9]) [] (sub (B Qab) [1, 0, 0]) (Qal 0 (retK Tryz.prog (R Qab) 3 (inlK (opAt (QaA (sub (B Qaa) [1, 1, 1, 0])) 4) ⟨fr 63 [(0, .rsl 42 0 8 0 jl jL), (1, vI jJ), (2, .val (.fn Qac)), (6, vI 20), (7, vI jh), (8, vI we), (10, vI 20), (23, .rsl 42 0 8 0 jl jL), (24, vI jh), (25, vI jJ), (26, .val (.fn Qac))], [bx 55 [(3, some [.val (.list jR jV), .val (.list jU jT)]), (4, some [vS jS, vI jW, vI jx, vI js, vI jA, .val (.list ju jn)]), (5, some [vI jo, vS jy, vI jv, vI jr, vI jz, vI jm, vI jt, vS jp, .val (.list jB jq)]), (8, some [.row 42 wi]), (12, some [.val wv, .val wq, .val wp, .val wo, .val ww, .val wu])], bx 9 [], bx 63 []], KK⟩ (opsK Tryz.prog (C lb n) (I7 lb n) 2 (QaA (sub (B Qaa) [1, 1, 1, 0])) ((QaA (sub (B Qaa) [1, 1, 1, 0])).drop 5) ((seqK (E2 lb n 2 996) (sub (B Qaa) [1, 1, 1, 0]) (sub (B Qaa) [1, 1, 1, 1]) (retK Tryz.prog (R Qaa) 2 K)) .normal))))) wK ⟨fr 53 [(0, .rsl 42 0 8 0 jl jL), (1, vI jh), (2, vI jJ), (3, .val (.fn Qac)), (8, vI wy), (10, vI jh), (11, .val (.int .i64 (IntKind.wrap .i64 (jh + 1))))], [bx 55 [(3, some [.val (.list jR jV), .val (.list jU jT)]), (4, some [vS jS, vI jW, vI jx, vI js, vI jA, .val (.list ju jn)]), (5, some [vI jo, vS jy, vI jv, vI jr, vI jz, vI jm, vI jt, vS jp, .val (.list jB jq)]), (8, some [.row 42 vU]), (12, some [.val wv, .val wq, .val wp, .val wo, .val ww, .val wu])], bx 9 [], bx 63 [], bx 53 []], KK⟩)
noncomputable def Qbx (lb n kj jl jL : Nat) (jJ jh we : Int) (jR : Bool) (jV : LL) (jU : Bool) (jT : LL) (jS : LB) (jW jx js jA : Int) (ju : Bool) (jn : LL) (jo : Int) (jy : LB) (jv jr jz jm jt : Int) (jp : LB) (jB : Bool) (jq wi : LL) (wv wq wp wo ww wu : CV) (K : AV → List (List (Option (List AV))) → Option CV) (wK : Nat) (wy i1143 : Int) (yo : LL) : Option CV :=
 hold (Qau (E3 lb n 3 991) 3 (Qae (sub (B Qab) [1, 0, 0, 1, 0, 0, 1, 0, 0]) ++ []) [] (sub (B Qab) [1, 0, 0, 1, 0, 0, 1, 0, 0]) (Qal 2 (Qal 1 (seqK (E3 lb n 3 995) (sub (B Qab) [1, 0, 0, 1, 0]) (sub (B Qab) [1, 0, 0, 1, 1]) (QbN 3 (Qae (sub (B Qab) [1, 0, 0]) ++ [9, 9]) [] (Qau (E3 lb n 3 997) 3 (Qae (sub (B Qab) [1, 0, 0]) ++ [9, 9]) [] (sub (B Qab) [1, 0, 0]) (Qal 0 (retK Tryz.prog (R Qab) 3 (inlK (opAt (QaA (sub (B Qaa) [1, 1, 1, 0])) 4) ⟨fr 63 [(0, .rsl 42 0 8 0 jl jL), (1, vI jJ), (2, .val (.fn Qac)), (6, vI 20), (7, vI jh), (8, vI we), (10, vI 20), (23, .rsl 42 0 8 0 jl jL), (24, vI jh), (25, vI jJ), (26, .val (.fn Qac))], [bx 55 [(3, some [.val (.list jR jV), .val (.list jU jT)]), (4, some [vS jS, vI jW, vI jx, vI js, vI jA, .val (.list ju jn)]), (5, some [vI jo, vS jy, vI jv, vI jr, vI jz, vI jm, vI jt, vS jp, .val (.list jB jq)]), (8, some [.row 42 wi]), (12, some [.val wv, .val wq, .val wp, .val wo, .val ww, .val wu])], bx 9 [], bx 63 []], KK⟩ (opsK Tryz.prog (C lb n) (I7 lb n) 2 (QaA (sub (B Qaa) [1, 1, 1, 0])) ((QaA (sub (B Qaa) [1, 1, 1, 0])).drop 5) ((seqK (E2 lb n 2 996) (sub (B Qaa) [1, 1, 1, 0]) (sub (B Qaa) [1, 1, 1, 1]) (retK Tryz.prog (R Qaa) 2 K)) .normal))))) wK) (Qal 0 (retK Tryz.prog (R Qab) 3 (inlK (opAt (QaA (sub (B Qaa) [1, 1, 1, 0])) 4) ⟨fr 63 [(0, .rsl 42 0 8 0 jl jL), (1, vI jJ), (2, .val (.fn Qac)), (6, vI 20), (7, vI jh), (8, vI we), (10, vI 20), (23, .rsl 42 0 8 0 jl jL), (24, vI jh), (25, vI jJ), (26, .val (.fn Qac))], [bx 55 [(3, some [.val (.list jR jV), .val (.list jU jT)]), (4, some [vS jS, vI jW, vI jx, vI js, vI jA, .val (.list ju jn)]), (5, some [vI jo, vS jy, vI jv, vI jr, vI jz, vI jm, vI jt, vS jp, .val (.list jB jq)]), (8, some [.row 42 wi]), (12, some [.val wv, .val wq, .val wp, .val wo, .val ww, .val wu])], bx 9 [], bx 63 []], KK⟩ (opsK Tryz.prog (C lb n) (I7 lb n) 2 (QaA (sub (B Qaa) [1, 1, 1, 0])) ((QaA (sub (B Qaa) [1, 1, 1, 0])).drop 5) ((seqK (E2 lb n 2 996) (sub (B Qaa) [1, 1, 1, 0]) (sub (B Qaa) [1, 1, 1, 1]) (retK Tryz.prog (R Qaa) 2 K)) .normal))))))))) kj ⟨fr 53 [(0, .rsl 42 0 8 0 jl jL), (1, vI jh), (2, vI jJ), (3, .val (.fn Qac)), (8, vI wy), (9, vI i1143), (10, vI jh), (11, .val (.int .i64 (IntKind.wrap .i64 (jh + 1)))), (17, vI wy)], [bx 55 [(3, some [.val (.list jR jV), .val (.list jU jT)]), (4, some [vS jS, vI jW, vI jx, vI js, vI jA, .val (.list ju jn)]), (5, some [vI jo, vS jy, vI jv, vI jr, vI jz, vI jm, vI jt, vS jp, .val (.list jB jq)]), (8, some [.row 42 yo]), (12, some [.val wv, .val wq, .val wp, .val wo, .val ww, .val wu])], bx 9 [], bx 63 [], bx 53 []], KK⟩)
noncomputable def Qb8 (lb n jl jL : Nat) (jJ jh we : Int) (jR : Bool) (jV : LL) (jU : Bool) (jT : LL) (jS : LB) (jW jx js jA : Int) (ju : Bool) (jn : LL) (jo : Int) (jy : LB) (jv jr jz jm jt : Int) (jp : LB) (jB : Bool) (jq wi : LL) (wv wq wp wo ww wu : CV) (K : AV → List (List (Option (List AV))) → Option CV) (wK : Nat) (wy kI : Int) (ki : LL) : Option CV :=
 hold (E3 lb n 3 995 (sub (B Qab) [1, 0, 0, 1, 1]) (QbN 3 (Qae (sub (B Qab) [1, 0, 0]) ++ [9, 9]) [] (Qau (E3 lb n 3 997) 3 (Qae (sub (B Qab) [1, 0, 0]) ++ [9, 9]) [] (sub (B Qab) [1, 0, 0]) (Qal 0 (retK Tryz.prog (R Qab) 3 (inlK (opAt (QaA (sub (B Qaa) [1, 1, 1, 0])) 4) ⟨fr 63 [(0, .rsl 42 0 8 0 jl jL), (1, vI jJ), (2, .val (.fn Qac)), (6, vI 20), (7, vI jh), (8, vI we), (10, vI 20), (23, .rsl 42 0 8 0 jl jL), (24, vI jh), (25, vI jJ), (26, .val (.fn Qac))], [bx 55 [(3, some [.val (.list jR jV), .val (.list jU jT)]), (4, some [vS jS, vI jW, vI jx, vI js, vI jA, .val (.list ju jn)]), (5, some [vI jo, vS jy, vI jv, vI jr, vI jz, vI jm, vI jt, vS jp, .val (.list jB jq)]), (8, some [.row 42 wi]), (12, some [.val wv, .val wq, .val wp, .val wo, .val ww, .val wu])], bx 9 [], bx 63 []], KK⟩ (opsK Tryz.prog (C lb n) (I7 lb n) 2 (QaA (sub (B Qaa) [1, 1, 1, 0])) ((QaA (sub (B Qaa) [1, 1, 1, 0])).drop 5) ((seqK (E2 lb n 2 996) (sub (B Qaa) [1, 1, 1, 0]) (sub (B Qaa) [1, 1, 1, 1]) (retK Tryz.prog (R Qaa) 2 K)) .normal))))) wK) (Qal 0 (retK Tryz.prog (R Qab) 3 (inlK (opAt (QaA (sub (B Qaa) [1, 1, 1, 0])) 4) ⟨fr 63 [(0, .rsl 42 0 8 0 jl jL), (1, vI jJ), (2, .val (.fn Qac)), (6, vI 20), (7, vI jh), (8, vI we), (10, vI 20), (23, .rsl 42 0 8 0 jl jL), (24, vI jh), (25, vI jJ), (26, .val (.fn Qac))], [bx 55 [(3, some [.val (.list jR jV), .val (.list jU jT)]), (4, some [vS jS, vI jW, vI jx, vI js, vI jA, .val (.list ju jn)]), (5, some [vI jo, vS jy, vI jv, vI jr, vI jz, vI jm, vI jt, vS jp, .val (.list jB jq)]), (8, some [.row 42 wi]), (12, some [.val wv, .val wq, .val wp, .val wo, .val ww, .val wu])], bx 9 [], bx 63 []], KK⟩ (opsK Tryz.prog (C lb n) (I7 lb n) 2 (QaA (sub (B Qaa) [1, 1, 1, 0])) ((QaA (sub (B Qaa) [1, 1, 1, 0])).drop 5) ((seqK (E2 lb n 2 996) (sub (B Qaa) [1, 1, 1, 0]) (sub (B Qaa) [1, 1, 1, 1]) (retK Tryz.prog (R Qaa) 2 K)) .normal)))))) ⟨fr 53 [(0, .rsl 42 0 8 0 jl jL), (1, vI jh), (2, vI jJ), (3, .val (.fn Qac)), (8, vI wy), (9, vI kI), (10, vI jh), (11, .val (.int .i64 (IntKind.wrap .i64 (jh + 1))))], [bx 55 [(3, some [.val (.list jR jV), .val (.list jU jT)]), (4, some [vS jS, vI jW, vI jx, vI js, vI jA, .val (.list ju jn)]), (5, some [vI jo, vS jy, vI jv, vI jr, vI jz, vI jm, vI jt, vS jp, .val (.list jB jq)]), (8, some [.row 42 ki]), (12, some [.val wv, .val wq, .val wp, .val wo, .val ww, .val wu])], bx 9 [], bx 63 [], bx 53 []], KK⟩)
theorem Qc2 (lb n jl jL : Nat) (jJ jh we : Int) (jR : Bool) (jV : LL) (jU : Bool) (jT : LL) (jS : LB) (jW jx js jA : Int) (ju : Bool) (jn : LL) (jo : Int) (jy : LB) (jv jr jz jm jt : Int) (jp : LB) (jB : Bool) (jq wi : LL) (wv wq wp wo ww wu : CV) (K : AV → List (List (Option (List AV))) → Option CV) (wK : Nat) (wy kI : Int) (ki : LL) :
 Qb8 lb n jl jL jJ jh we jR jV jU jT jS jW jx js jA ju jn jo jy jv jr jz jm jt jp jB jq wi wv wq wp wo ww wu K wK wy kI ki =
 Qbe lb n wK jl jL jJ jh we jR jV jU jT jS jW jx js jA ju jn jo jy jv jr jz jm jt jp jB jq wi wv wq wp wo ww wu K (IntKind.wrap .i64 (wy + 1)) ki := (Qad _).trans (by kernel_rfl)
theorem QcH (lb n kj jl jL : Nat) (jJ jh we : Int) (jR : Bool) (jV : LL) (jU : Bool) (jT : LL) (jS : LB) (jW jx js jA : Int) (ju : Bool) (jn : LL) (jo : Int) (jy : LB) (jv jr jz jm jt : Int) (jp : LB) (jB : Bool) (jq wi : LL) (wv wq wp wo ww wu : CV) (K : AV → List (List (Option (List AV))) → Option CV) (wK : Nat) (wy i1143 : Int) (yo : LL) :
 Qbx lb n (kj + 1) jl jL jJ jh we jR jV jU jT jS jW jx js jA ju jn jo jy jv jr jz jm jt jp jB jq wi wv wq wp wo ww wu K wK wy i1143 yo =
 bif (decide (i1143 > jh)) then
 (chkO ((decide (0 ≤ (i1143 : Int))) && (decide ((i1143 : Int) < ((jl : Nat) : Int)))) (
 optO (yo[0 + i1143.toNat]?) fun vD =>
 optO (vD[0]?) fun ml =>
 optO (vD[1]?) fun mw =>
 optO (vD[2]?) fun mz =>
 optO (vD[3]?) fun mh =>
 optO (vD[4]?) fun gP =>
 optO (vD[5]?) fun ma =>
 chkO ((decide (0 ≤ ((IntKind.wrap .i64 (i1143 - 1)) : Int))) && (decide (((IntKind.wrap .i64 (i1143 - 1)) : Int) < ((jl : Nat) : Int)))) (
 optO (yo[0 + ((IntKind.wrap .i64 (i1143 - 1)).toNat)]?) fun vC =>
 optO (vC[0]?) fun g9 =>
 optO (vC[1]?) fun gN =>
 optO (vC[2]?) fun gV =>
 optO (vC[3]?) fun mj =>
 optO (vC[4]?) fun gY =>
 optO (vC[5]?) fun my =>
 optO (C lb n Qac [.agg [ml, mw, mz, mh, gP, ma], .agg [g9, gN, gV, mj, gY, my]]) fun md =>
 optO (CV.asI .i64 md) fun gR =>
 bif (decide (gR < 0)) then
 (chkO ((decide (0 ≤ ((IntKind.wrap .i64 (i1143 - 1)) : Int))) && (decide (((IntKind.wrap .i64 (i1143 - 1)) : Int) < ((jl : Nat) : Int)))) (
 optO (yo[0 + ((IntKind.wrap .i64 (i1143 - 1)).toNat)]?) fun vE =>
 optO (vE[0]?) fun ol =>
 optO (vE[1]?) fun oA =>
 optO (vE[2]?) fun oe =>
 optO (vE[3]?) fun ot =>
 optO (vE[4]?) fun oz =>
 optO (vE[5]?) fun oq =>
 chkO ((decide (0 ≤ (i1143 : Int))) && (decide ((i1143 : Int) < ((jl : Nat) : Int)))) (
 optO (yo[0 + i1143.toNat]?) fun vA =>
 optO (vA[0]?) fun gU =>
 optO (vA[1]?) fun gK =>
 optO (vA[2]?) fun gX =>
 optO (vA[3]?) fun me =>
 optO (vA[4]?) fun gI =>
 optO (vA[5]?) fun gW =>
 chkO ((decide (0 ≤ (i1143 : Int))) && (decide ((i1143 : Int) < ((jl : Nat) : Int)))) (
 optO (yo[0 + i1143.toNat]?) fun c1208 =>
 chkO (decide ((6 : Nat) ≤ c1208.length)) (
 chkO ((decide (0 ≤ ((IntKind.wrap .i64 (i1143 - 1)) : Int))) && (decide (((IntKind.wrap .i64 (i1143 - 1)) : Int) < ((jl : Nat) : Int)))) (
 optO ((setN yo (0 + i1143.toNat) (Qbk c1208 0 [ol, oA, oe, ot, oz, oq]))[0 + ((IntKind.wrap .i64 (i1143 - 1)).toNat)]?) fun c1209 =>
 chkO (decide ((6 : Nat) ≤ c1209.length)) (
 Qbx lb n kj jl jL jJ jh we jR jV jU jT jS jW jx js jA ju jn jo jy jv jr jz jm jt jp jB jq wi wv wq wp wo ww wu K wK wy (IntKind.wrap .i64 (i1143 - 1)) (setN (setN yo (0 + i1143.toNat) (Qbk c1208 0 [ol, oA, oe, ot, oz, oq])) (0 + ((IntKind.wrap .i64 (i1143 - 1)).toNat)) (Qbk c1209 0 [gU, gK, gX, me, gI, gW])))))))))
 else
 (Qb8 lb n jl jL jJ jh we jR jV jU jT jS jW jx js jA ju jn jo jy jv jr jz jm jt jp jB jq wi wv wq wp wo ww wu K wK wy i1143 yo))))
 else
 (Qb8 lb n jl jL jJ jh we jR jV jU jT jS jW jx js jA ju jn jo jy jv jr jz jm jt jp jB jq wi wv wq wp wo ww wu K wK wy i1143 yo) := (Qad _).trans (by kernel_rfl)
noncomputable def QbB (lb n vz : Nat) (K : AV → List (List (Option (List AV))) → Option CV) (jl jL : Nat) (jJ jh : Int) (jR : Bool) (jV : LL) (jU : Bool) (jT : LL) (jS : LB) (jW jx js jA : Int) (ju : Bool) (jn : LL) (jo : Int) (jy : LB) (jv jr jz jm jt : Int) (jp : LB) (jB : Bool) (jq : LL) (wv wq wp wo ww wu : CV) (yC kF kJ : Int) (vT : LL) : Option CV :=
 hold (Qau (E2 lb n 2 994) 2 (Qae (sub (B Qaa) [1, 1, 1, 1, 0, 0]) ++ [9]) [] (sub (B Qaa) [1, 1, 1, 1, 0, 0]) (Qal 2 (retK Tryz.prog (R Qaa) 2 K)) vz ⟨fr 63 [(0, .rsl 42 0 8 0 jl jL), (1, vI jJ), (2, .val (.fn Qac)), (6, vI yC), (7, vI kF), (8, vI kJ), (10, vI 20), (23, .rsl 42 0 8 0 jl jL), (24, vI jh), (25, vI jJ), (26, .val (.fn Qac)), (27, .val (.tup []))], [bx 55 [(3, some [.val (.list jR jV), .val (.list jU jT)]), (4, some [vS jS, vI jW, vI jx, vI js, vI jA, .val (.list ju jn)]), (5, some [vI jo, vS jy, vI jv, vI jr, vI jz, vI jm, vI jt, vS jp, .val (.list jB jq)]), (8, some [.row 42 vT]), (12, some [.val wv, .val wq, .val wp, .val wo, .val ww, .val wu])], bx 9 [], bx 63 []], KK⟩)
noncomputable def Qfj (lb n mq : Nat) (K : AV → List (List (Option (List AV))) → Option CV) (vz jl jL : Nat) (jJ yC jh : Int) (jR : Bool) (jV : LL) (jU : Bool) (jT : LL) (jS : LB) (jW jx js jA : Int) (ju : Bool) (jn : LL) (jo : Int) (jy : LB) (jv jr jz jm jt : Int) (jp : LB) (jB : Bool) (jq : LL) (wv wq wp wo ww wu : CV) (gJ mf : Int) (mt : LL) : Option CV :=
 hold (Qau (E2 lb n 2 988) 2 (Qae (sub (B Qaa) [1, 1, 1, 1, 0, 0, 1, 0, 1, 0, 0, 0]) ++ []) [] (sub (B Qaa) [1, 1, 1, 1, 0, 0, 1, 0, 1, 0, 0, 0]) (Qal 4 (seqK (E2 lb n 2 990) (sub (B Qaa) [1, 1, 1, 1, 0, 0, 1, 0, 1, 0]) (sub (B Qaa) [1, 1, 1, 1, 0, 0, 1, 0, 1, 1]) (Qal 3 (QbN 2 (Qae (sub (B Qaa) [1, 1, 1, 1, 0, 0]) ++ [9]) [] (Qau (E2 lb n 2 994) 2 (Qae (sub (B Qaa) [1, 1, 1, 1, 0, 0]) ++ [9]) [] (sub (B Qaa) [1, 1, 1, 1, 0, 0]) (Qal 2 (retK Tryz.prog (R Qaa) 2 K)) vz) (Qal 2 (retK Tryz.prog (R Qaa) 2 K)))))) mq ⟨fr 63 [(0, .rsl 42 0 8 0 jl jL), (1, vI jJ), (2, .val (.fn Qac)), (6, vI yC), (7, vI gJ), (8, vI mf), (10, vI 20), (23, .rsl 42 0 8 0 jl jL), (24, vI jh), (25, vI jJ), (26, .val (.fn Qac)), (27, .val (.tup [])), (31, vI yC), (32, .val (.int .i64 (IntKind.wrap .i64 (2 * yC))))], [bx 55 [(3, some [.val (.list jR jV), .val (.list jU jT)]), (4, some [vS jS, vI jW, vI jx, vI js, vI jA, .val (.list ju jn)]), (5, some [vI jo, vS jy, vI jv, vI jr, vI jz, vI jm, vI jt, vS jp, .val (.list jB jq)]), (8, some [.row 42 mt]), (12, some [.val wv, .val wq, .val wp, .val wo, .val ww, .val wu])], bx 9 [], bx 63 []], KK⟩)
theorem QcE (lb n vz : Nat) (K : AV → List (List (Option (List AV))) → Option CV) (jl jL : Nat) (jJ jh : Int) (jR : Bool) (jV : LL) (jU : Bool) (jT : LL) (jS : LB) (jW jx js jA : Int) (ju : Bool) (jn : LL) (jo : Int) (jy : LB) (jv jr jz jm jt : Int) (jp : LB) (jB : Bool) (jq : LL) (wv wq wp wo ww wu : CV) (yC kF kJ : Int) (vT : LL) :
 QbB lb n (vz + 1) K jl jL jJ jh jR jV jU jT jS jW jx js jA ju jn jo jy jv jr jz jm jt jp jB jq wv wq wp wo ww wu yC kF kJ vT =
 bif (decide (yC < jJ)) then
 (Qfj lb n n K vz jl jL jJ yC jh jR jV jU jT jS jW jx js jA ju jn jo jy jv jr jz jm jt jp jB jq wv wq wp wo ww wu 0 (IntKind.wrap .i64 (2 * yC)) vT)
 else
 (K (.val (.tup [])) [bx 55 [(3, some [.val (.list jR jV), .val (.list jU jT)]), (4, some [vS jS, vI jW, vI jx, vI js, vI jA, .val (.list ju jn)]), (5, some [vI jo, vS jy, vI jv, vI jr, vI jz, vI jm, vI jt, vS jp, .val (.list jB jq)]), (8, some [.row 42 vT]), (12, some [.val wv, .val wq, .val wp, .val wo, .val ww, .val wu])], bx 9 []]) := (Qad _).trans (by kernel_rfl)
theorem QcG (lb n wK jl jL : Nat) (jJ jh we : Int) (jR : Bool) (jV : LL) (jU : Bool) (jT : LL) (jS : LB) (jW jx js jA : Int) (ju : Bool) (jn : LL) (jo : Int) (jy : LB) (jv jr jz jm jt : Int) (jp : LB) (jB : Bool) (jq wi : LL) (wv wq wp wo ww wu : CV) (K : AV → List (List (Option (List AV))) → Option CV) (wy : Int) (vU : LL) :
 Qbe lb n (wK + 1) jl jL jJ jh we jR jV jU jT jS jW jx js jA ju jn jo jy jv jr jz jm jt jp jB jq wi wv wq wp wo ww wu K wy vU =
 bif (decide (wy < jJ)) then
 (Qbx lb n n jl jL jJ jh we jR jV jU jT jS jW jx js jA ju jn jo jy jv jr jz jm jt jp jB jq wi wv wq wp wo ww wu K wK wy wy vU)
 else
 (QbB lb n n K jl jL jJ jh jR jV jU jT jS jW jx js jA ju jn jo jy jv jr jz jm jt jp jB jq wv wq wp wo ww wu 20 jh we vU) := (Qad _).trans (by kernel_rfl)
theorem QeS (lb n : Nat) (K : AV → List (List (Option (List AV))) → Option CV) (jl jL : Nat) (jJ : Int) (jR : Bool) (jV : LL) (jU : Bool) (jT : LL) (jS : LB) (jW jx js jA : Int) (ju : Bool) (jn : LL) (jo : Int) (jy : LB) (jv jr jz jm jt : Int) (jp : LB) (jB : Bool) (jq : LL) (wv wq wp wo ww wu : CV) (jh we : Int) (wi : LL) :
 Qdi lb n K jl jL jJ jR jV jU jT jS jW jx js jA ju jn jo jy jv jr jz jm jt jp jB jq wv wq wp wo ww wu jh we wi =
 Qbe lb n n jl jL jJ jh we jR jV jU jT jS jW jx js jA ju jn jo jy jv jr jz jm jt jp jB jq wi wv wq wp wo ww wu K (IntKind.wrap .i64 (jh + 1)) wi := (Qad _).trans (by kernel_rfl)
theorem Qew (lb n v6 : Nat) (K : AV → List (List (Option (List AV))) → Option CV) (jl jL : Nat) (jJ : Int) (jR : Bool) (jV : LL) (jU : Bool) (jT : LL) (jS : LB) (jW jx js jA : Int) (ju : Bool) (jn : LL) (jo : Int) (jy : LB) (jv jr jz jm jt : Int) (jp : LB) (jB : Bool) (jq : LL) (wv wq wp wo ww wu : CV) (yI y4 : Int) (vp : LL) :
 Qb5 lb n (v6 + 1) K jl jL jJ jR jV jU jT jS jW jx js jA ju jn jo jy jv jr jz jm jt jp jB jq wv wq wp wo ww wu yI y4 vp =
 bif (decide (y4 ≤ jJ)) then
 (Qfo lb n n jl jL jJ yI y4 jR jV jU jT jS jW jx js jA ju jn jo jy jv jr jz jm jt jp jB jq vp wv wq wp wo ww wu K v6 (IntKind.wrap .i64 (yI + 1)) vp)
 else
 (Qdi lb n K jl jL jJ jR jV jU jT jS jW jx js jA ju jn jo jy jv jr jz jm jt jp jB jq wv wq wp wo ww wu yI y4 vp) := (Qad _).trans (by kernel_rfl)
theorem Qda (lb n : Nat) (K : AV → List (List (Option (List AV))) → Option CV) (jl jL : Nat) (jJ : Int) (jR : Bool) (jV : LL) (jU : Bool) (jT : LL) (jS : LB) (jW jx js jA : Int) (ju : Bool) (jn : LL) (jo : Int) (jy : LB) (jv jr jz jm jt : Int) (jp : LB) (jB : Bool) (jq kG : LL) (wv wq wp wo ww wu : CV) :
 Qbl lb n K jl jL jJ jR jV jU jT jS jW jx js jA ju jn jo jy jv jr jz jm jt jp jB jq kG wv wq wp wo ww wu =
 Qb5 lb n n K jl jL jJ jR jV jU jT jS jW jx js jA ju jn jo jy jv jr jz jm jt jp jB jq wv wq wp wo ww wu 0 20 kG := by kernel_rfl
noncomputable def QbR (lb n v6 : Nat) (K : AV → List (List (Option (List AV))) → Option CV) (jl jL : Nat) (jJ : Int) (jR : Bool) (jV : LL) (jU : Bool) (jT : LL) (jS : LB) (jW jx js jA : Int) (ju : Bool) (jn : LL) (jo : Int) (jy : LB) (jv jr jz jm jt : Int) (jp : LB) (jB : Bool) (jq : LL) (yI y4 : Int) (vp : LL) : Option CV :=
 hold (Qau (E2 lb n 2 995) 2 (Qae (sub (B Qaa) [1, 1, 0, 0, 0]) ++ []) [] (sub (B Qaa) [1, 1, 0, 0, 0]) (Qal 0 (seqK (E2 lb n 2 997) (sub (B Qaa) [1, 1, 0]) (sub (B Qaa) [1, 1, 1]) (retK Tryz.prog (R Qaa) 2 K))) v6 ⟨fr 63 [(0, .rsl 42 0 8 0 jl jL), (1, vI jJ), (2, .val (.fn Qac)), (6, vI 20), (7, vI yI), (8, vI y4), (10, vI 20)], [bx 55 [(3, some [.val (.list jR jV), .val (.list jU jT)]), (4, some [vS jS, vI jW, vI jx, vI js, vI jA, .val (.list ju jn)]), (5, some [vI jo, vS jy, vI jv, vI jr, vI jz, vI jm, vI jt, vS jp, .val (.list jB jq)]), (8, some [.row 42 vp])], bx 9 [], bx 63 []], KK⟩)
noncomputable def Qe4 (lb n m9 jl jL : Nat) (jJ yI y4 : Int) (jR : Bool) (jV : LL) (jU : Bool) (jT : LL) (jS : LB) (jW jx js jA : Int) (ju : Bool) (jn : LL) (jo : Int) (jy : LB) (jv jr jz jm jt : Int) (jp : LB) (jB : Bool) (jq vp : LL) (K : AV → List (List (Option (List AV))) → Option CV) (v6 : Nat) (nu : Int) (ni : LL) : Option CV :=
 hold (Qau (E3 lb n 3 997) 3 (Qae (sub (B Qab) [1, 0, 0]) ++ [9, 9]) [] (sub (B Qab) [1, 0, 0]) (Qal 0 (retK Tryz.prog (R Qab) 3 (inlK (opAt (QaA (sub (B Qaa) [1, 1, 0, 0, 0, 1, 0, 0])) 4) ⟨fr 63 [(0, .rsl 42 0 8 0 jl jL), (1, vI jJ), (2, .val (.fn Qac)), (6, vI 20), (7, vI yI), (8, vI y4), (10, vI 20), (14, .rsl 42 0 8 0 jl jL), (15, vI yI), (16, vI y4), (17, .val (.fn Qac))], [bx 55 [(3, some [.val (.list jR jV), .val (.list jU jT)]), (4, some [vS jS, vI jW, vI jx, vI js, vI jA, .val (.list ju jn)]), (5, some [vI jo, vS jy, vI jv, vI jr, vI jz, vI jm, vI jt, vS jp, .val (.list jB jq)]), (8, some [.row 42 vp])], bx 9 [], bx 63 []], KK⟩ (opsK Tryz.prog (C lb n) (I7 lb n) 2 (QaA (sub (B Qaa) [1, 1, 0, 0, 0, 1, 0, 0])) ((QaA (sub (B Qaa) [1, 1, 0, 0, 0, 1, 0, 0])).drop 5) ((seqK (E2 lb n 2 992) (sub (B Qaa) [1, 1, 0, 0, 0, 1, 0, 0]) (sub (B Qaa) [1, 1, 0, 0, 0, 1, 0, 1]) (Qal 1 (QbN 2 (Qae (sub (B Qaa) [1, 1, 0, 0, 0]) ++ []) [] (Qau (E2 lb n 2 995) 2 (Qae (sub (B Qaa) [1, 1, 0, 0, 0]) ++ []) [] (sub (B Qaa) [1, 1, 0, 0, 0]) (Qal 0 (seqK (E2 lb n 2 997) (sub (B Qaa) [1, 1, 0]) (sub (B Qaa) [1, 1, 1]) (retK Tryz.prog (R Qaa) 2 K))) v6) (Qal 0 (seqK (E2 lb n 2 997) (sub (B Qaa) [1, 1, 0]) (sub (B Qaa) [1, 1, 1]) (retK Tryz.prog (R Qaa) 2 K)))))) .normal))))) m9 ⟨fr 53 [(0, .rsl 42 0 8 0 jl jL), (1, vI yI), (2, vI y4), (3, .val (.fn Qac)), (8, vI nu), (10, vI yI), (11, .val (.int .i64 (IntKind.wrap .i64 (yI + 1))))], [bx 55 [(3, some [.val (.list jR jV), .val (.list jU jT)]), (4, some [vS jS, vI jW, vI jx, vI js, vI jA, .val (.list ju jn)]), (5, some [vI jo, vS jy, vI jv, vI jr, vI jz, vI jm, vI jt, vS jp, .val (.list jB jq)]), (8, some [.row 42 ni])], bx 9 [], bx 63 [], bx 53 []], KK⟩)
noncomputable def Qc7 (lb n : Nat) (K : AV → List (List (Option (List AV))) → Option CV) (jl jL : Nat) (jJ : Int) (jR : Bool) (jV : LL) (jU : Bool) (jT : LL) (jS : LB) (jW jx js jA : Int) (ju : Bool) (jn : LL) (jo : Int) (jy : LB) (jv jr jz jm jt : Int) (jp : LB) (jB : Bool) (jq : LL) (jh we : Int) (wi : LL) : Option CV :=
 hold (E2 lb n 2 997 (sub (B Qaa) [1, 1, 1]) (retK Tryz.prog (R Qaa) 2 K) ⟨fr 63 [(0, .rsl 42 0 8 0 jl jL), (1, vI jJ), (2, .val (.fn Qac)), (6, vI 20), (7, vI jh), (8, vI we), (10, vI 20)], [bx 55 [(3, some [.val (.list jR jV), .val (.list jU jT)]), (4, some [vS jS, vI jW, vI jx, vI js, vI jA, .val (.list ju jn)]), (5, some [vI jo, vS jy, vI jv, vI jr, vI jz, vI jm, vI jt, vS jp, .val (.list jB jq)]), (8, some [.row 42 wi])], bx 9 [], bx 63 []], KK⟩)
noncomputable def Qba (lb n wK jl jL : Nat) (jJ jh we : Int) (jR : Bool) (jV : LL) (jU : Bool) (jT : LL) (jS : LB) (jW jx js jA : Int) (ju : Bool) (jn : LL) (jo : Int) (jy : LB) (jv jr jz jm jt : Int) (jp : LB) (jB : Bool) (jq wi : LL) (K : AV → List (List (Option (List AV))) → Option CV) (wy : Int) (vU : LL) : Option CV :=
 hold (Qau (E3 lb n 3 997) 3 (Qae (sub (B Qab) [1, 0, 0]) ++ [9, 9]) [] (sub (B Qab) [1, 0, 0]) (Qal 0 (retK Tryz.prog (R Qab) 3 (inlK (opAt (QaA (sub (B Qaa) [1, 1, 1, 0])) 4) ⟨fr 63 [(0, .rsl 42 0 8 0 jl jL), (1, vI jJ), (2, .val (.fn Qac)), (6, vI 20), (7, vI jh), (8, vI we), (10, vI 20), (23, .rsl 42 0 8 0 jl jL), (24, vI jh), (25, vI jJ), (26, .val (.fn Qac))], [bx 55 [(3, some [.val (.list jR jV), .val (.list jU jT)]), (4, some [vS jS, vI jW, vI jx, vI js, vI jA, .val (.list ju jn)]), (5, some [vI jo, vS jy, vI jv, vI jr, vI jz, vI jm, vI jt, vS jp, .val (.list jB jq)]), (8, some [.row 42 wi])], bx 9 [], bx 63 []], KK⟩ (opsK Tryz.prog (C lb n) (I7 lb n) 2 (QaA (sub (B Qaa) [1, 1, 1, 0])) ((QaA (sub (B Qaa) [1, 1, 1, 0])).drop 5) ((seqK (E2 lb n 2 996) (sub (B Qaa) [1, 1, 1, 0]) (sub (B Qaa) [1, 1, 1, 1]) (retK Tryz.prog (R Qaa) 2 K)) .normal))))) wK ⟨fr 53 [(0, .rsl 42 0 8 0 jl jL), (1, vI jh), (2, vI jJ), (3, .val (.fn Qac)), (8, vI wy), (10, vI jh), (11, .val (.int .i64 (IntKind.wrap .i64 (jh + 1))))], [bx 55 [(3, some [.val (.list jR jV), .val (.list jU jT)]), (4, some [vS jS, vI jW, vI jx, vI js, vI jA, .val (.list ju jn)]), (5, some [vI jo, vS jy, vI jv, vI jr, vI jz, vI jm, vI jt, vS jp, .val (.list jB jq)]), (8, some [.row 42 vU])], bx 9 [], bx 63 [], bx 53 []], KK⟩)
noncomputable def Qbq (lb n kj jl jL : Nat) (jJ jh we : Int) (jR : Bool) (jV : LL) (jU : Bool) (jT : LL) (jS : LB) (jW jx js jA : Int) (ju : Bool) (jn : LL) (jo : Int) (jy : LB) (jv jr jz jm jt : Int) (jp : LB) (jB : Bool) (jq wi : LL) (K : AV → List (List (Option (List AV))) → Option CV) (wK : Nat) (wy i1143 : Int) (yo : LL) : Option CV :=
 hold (Qau (E3 lb n 3 991) 3 (Qae (sub (B Qab) [1, 0, 0, 1, 0, 0, 1, 0, 0]) ++ []) [] (sub (B Qab) [1, 0, 0, 1, 0, 0, 1, 0, 0]) (Qal 2 (Qal 1 (seqK (E3 lb n 3 995) (sub (B Qab) [1, 0, 0, 1, 0]) (sub (B Qab) [1, 0, 0, 1, 1]) (QbN 3 (Qae (sub (B Qab) [1, 0, 0]) ++ [9, 9]) [] (Qau (E3 lb n 3 997) 3 (Qae (sub (B Qab) [1, 0, 0]) ++ [9, 9]) [] (sub (B Qab) [1, 0, 0]) (Qal 0 (retK Tryz.prog (R Qab) 3 (inlK (opAt (QaA (sub (B Qaa) [1, 1, 1, 0])) 4) ⟨fr 63 [(0, .rsl 42 0 8 0 jl jL), (1, vI jJ), (2, .val (.fn Qac)), (6, vI 20), (7, vI jh), (8, vI we), (10, vI 20), (23, .rsl 42 0 8 0 jl jL), (24, vI jh), (25, vI jJ), (26, .val (.fn Qac))], [bx 55 [(3, some [.val (.list jR jV), .val (.list jU jT)]), (4, some [vS jS, vI jW, vI jx, vI js, vI jA, .val (.list ju jn)]), (5, some [vI jo, vS jy, vI jv, vI jr, vI jz, vI jm, vI jt, vS jp, .val (.list jB jq)]), (8, some [.row 42 wi])], bx 9 [], bx 63 []], KK⟩ (opsK Tryz.prog (C lb n) (I7 lb n) 2 (QaA (sub (B Qaa) [1, 1, 1, 0])) ((QaA (sub (B Qaa) [1, 1, 1, 0])).drop 5) ((seqK (E2 lb n 2 996) (sub (B Qaa) [1, 1, 1, 0]) (sub (B Qaa) [1, 1, 1, 1]) (retK Tryz.prog (R Qaa) 2 K)) .normal))))) wK) (Qal 0 (retK Tryz.prog (R Qab) 3 (inlK (opAt (QaA (sub (B Qaa) [1, 1, 1, 0])) 4) ⟨fr 63 [(0, .rsl 42 0 8 0 jl jL), (1, vI jJ), (2, .val (.fn Qac)), (6, vI 20), (7, vI jh), (8, vI we), (10, vI 20), (23, .rsl 42 0 8 0 jl jL), (24, vI jh), (25, vI jJ), (26, .val (.fn Qac))], [bx 55 [(3, some [.val (.list jR jV), .val (.list jU jT)]), (4, some [vS jS, vI jW, vI jx, vI js, vI jA, .val (.list ju jn)]), (5, some [vI jo, vS jy, vI jv, vI jr, vI jz, vI jm, vI jt, vS jp, .val (.list jB jq)]), (8, some [.row 42 wi])], bx 9 [], bx 63 []], KK⟩ (opsK Tryz.prog (C lb n) (I7 lb n) 2 (QaA (sub (B Qaa) [1, 1, 1, 0])) ((QaA (sub (B Qaa) [1, 1, 1, 0])).drop 5) ((seqK (E2 lb n 2 996) (sub (B Qaa) [1, 1, 1, 0]) (sub (B Qaa) [1, 1, 1, 1]) (retK Tryz.prog (R Qaa) 2 K)) .normal))))))))) kj ⟨fr 53 [(0, .rsl 42 0 8 0 jl jL), (1, vI jh), (2, vI jJ), (3, .val (.fn Qac)), (8, vI wy), (9, vI i1143), (10, vI jh), (11, .val (.int .i64 (IntKind.wrap .i64 (jh + 1)))), (17, vI wy)], [bx 55 [(3, some [.val (.list jR jV), .val (.list jU jT)]), (4, some [vS jS, vI jW, vI jx, vI js, vI jA, .val (.list ju jn)]), (5, some [vI jo, vS jy, vI jv, vI jr, vI jz, vI jm, vI jt, vS jp, .val (.list jB jq)]), (8, some [.row 42 yo])], bx 9 [], bx 63 [], bx 53 []], KK⟩)
noncomputable def QbS (lb n jl jL : Nat) (jJ jh we : Int) (jR : Bool) (jV : LL) (jU : Bool) (jT : LL) (jS : LB) (jW jx js jA : Int) (ju : Bool) (jn : LL) (jo : Int) (jy : LB) (jv jr jz jm jt : Int) (jp : LB) (jB : Bool) (jq wi : LL) (K : AV → List (List (Option (List AV))) → Option CV) (wK : Nat) (wy kI : Int) (ki : LL) : Option CV :=
 hold (E3 lb n 3 995 (sub (B Qab) [1, 0, 0, 1, 1]) (QbN 3 (Qae (sub (B Qab) [1, 0, 0]) ++ [9, 9]) [] (Qau (E3 lb n 3 997) 3 (Qae (sub (B Qab) [1, 0, 0]) ++ [9, 9]) [] (sub (B Qab) [1, 0, 0]) (Qal 0 (retK Tryz.prog (R Qab) 3 (inlK (opAt (QaA (sub (B Qaa) [1, 1, 1, 0])) 4) ⟨fr 63 [(0, .rsl 42 0 8 0 jl jL), (1, vI jJ), (2, .val (.fn Qac)), (6, vI 20), (7, vI jh), (8, vI we), (10, vI 20), (23, .rsl 42 0 8 0 jl jL), (24, vI jh), (25, vI jJ), (26, .val (.fn Qac))], [bx 55 [(3, some [.val (.list jR jV), .val (.list jU jT)]), (4, some [vS jS, vI jW, vI jx, vI js, vI jA, .val (.list ju jn)]), (5, some [vI jo, vS jy, vI jv, vI jr, vI jz, vI jm, vI jt, vS jp, .val (.list jB jq)]), (8, some [.row 42 wi])], bx 9 [], bx 63 []], KK⟩ (opsK Tryz.prog (C lb n) (I7 lb n) 2 (QaA (sub (B Qaa) [1, 1, 1, 0])) ((QaA (sub (B Qaa) [1, 1, 1, 0])).drop 5) ((seqK (E2 lb n 2 996) (sub (B Qaa) [1, 1, 1, 0]) (sub (B Qaa) [1, 1, 1, 1]) (retK Tryz.prog (R Qaa) 2 K)) .normal))))) wK) (Qal 0 (retK Tryz.prog (R Qab) 3 (inlK (opAt (QaA (sub (B Qaa) [1, 1, 1, 0])) 4) ⟨fr 63 [(0, .rsl 42 0 8 0 jl jL), (1, vI jJ), (2, .val (.fn Qac)), (6, vI 20), (7, vI jh), (8, vI we), (10, vI 20), (23, .rsl 42 0 8 0 jl jL), (24, vI jh), (25, vI jJ), (26, .val (.fn Qac))], [bx 55 [(3, some [.val (.list jR jV), .val (.list jU jT)]), (4, some [vS jS, vI jW, vI jx, vI js, vI jA, .val (.list ju jn)]), (5, some [vI jo, vS jy, vI jv, vI jr, vI jz, vI jm, vI jt, vS jp, .val (.list jB jq)]), (8, some [.row 42 wi])], bx 9 [], bx 63 []], KK⟩ (opsK Tryz.prog (C lb n) (I7 lb n) 2 (QaA (sub (B Qaa) [1, 1, 1, 0])) ((QaA (sub (B Qaa) [1, 1, 1, 0])).drop 5) ((seqK (E2 lb n 2 996) (sub (B Qaa) [1, 1, 1, 0]) (sub (B Qaa) [1, 1, 1, 1]) (retK Tryz.prog (R Qaa) 2 K)) .normal)))))) ⟨fr 53 [(0, .rsl 42 0 8 0 jl jL), (1, vI jh), (2, vI jJ), (3, .val (.fn Qac)), (8, vI wy), (9, vI kI), (10, vI jh), (11, .val (.int .i64 (IntKind.wrap .i64 (jh + 1))))], [bx 55 [(3, some [.val (.list jR jV), .val (.list jU jT)]), (4, some [vS jS, vI jW, vI jx, vI js, vI jA, .val (.list ju jn)]), (5, some [vI jo, vS jy, vI jv, vI jr, vI jz, vI jm, vI jt, vS jp, .val (.list jB jq)]), (8, some [.row 42 ki])], bx 9 [], bx 63 [], bx 53 []], KK⟩)
theorem QcF (lb n jl jL : Nat) (jJ jh we : Int) (jR : Bool) (jV : LL) (jU : Bool) (jT : LL) (jS : LB) (jW jx js jA : Int) (ju : Bool) (jn : LL) (jo : Int) (jy : LB) (jv jr jz jm jt : Int) (jp : LB) (jB : Bool) (jq wi : LL) (K : AV → List (List (Option (List AV))) → Option CV) (wK : Nat) (wy kI : Int) (ki : LL) :
 QbS lb n jl jL jJ jh we jR jV jU jT jS jW jx js jA ju jn jo jy jv jr jz jm jt jp jB jq wi K wK wy kI ki =
 Qba lb n wK jl jL jJ jh we jR jV jU jT jS jW jx js jA ju jn jo jy jv jr jz jm jt jp jB jq wi K (IntKind.wrap .i64 (wy + 1)) ki := (Qad _).trans (by kernel_rfl)
theorem Qcw (lb n kj jl jL : Nat) (jJ jh we : Int) (jR : Bool) (jV : LL) (jU : Bool) (jT : LL) (jS : LB) (jW jx js jA : Int) (ju : Bool) (jn : LL) (jo : Int) (jy : LB) (jv jr jz jm jt : Int) (jp : LB) (jB : Bool) (jq wi : LL) (K : AV → List (List (Option (List AV))) → Option CV) (wK : Nat) (wy i1143 : Int) (yo : LL) :
 Qbq lb n (kj + 1) jl jL jJ jh we jR jV jU jT jS jW jx js jA ju jn jo jy jv jr jz jm jt jp jB jq wi K wK wy i1143 yo =
 bif (decide (i1143 > jh)) then
 (chkO ((decide (0 ≤ (i1143 : Int))) && (decide ((i1143 : Int) < ((jl : Nat) : Int)))) (
 optO (yo[0 + i1143.toNat]?) fun vD =>
 optO (vD[0]?) fun ml =>
 optO (vD[1]?) fun mw =>
 optO (vD[2]?) fun mz =>
 optO (vD[3]?) fun mh =>
 optO (vD[4]?) fun gP =>
 optO (vD[5]?) fun ma =>
 chkO ((decide (0 ≤ ((IntKind.wrap .i64 (i1143 - 1)) : Int))) && (decide (((IntKind.wrap .i64 (i1143 - 1)) : Int) < ((jl : Nat) : Int)))) (
 optO (yo[0 + ((IntKind.wrap .i64 (i1143 - 1)).toNat)]?) fun vC =>
 optO (vC[0]?) fun g9 =>
 optO (vC[1]?) fun gN =>
 optO (vC[2]?) fun gV =>
 optO (vC[3]?) fun mj =>
 optO (vC[4]?) fun gY =>
 optO (vC[5]?) fun my =>
 optO (C lb n Qac [.agg [ml, mw, mz, mh, gP, ma], .agg [g9, gN, gV, mj, gY, my]]) fun md =>
 optO (CV.asI .i64 md) fun gR =>
 bif (decide (gR < 0)) then
 (chkO ((decide (0 ≤ ((IntKind.wrap .i64 (i1143 - 1)) : Int))) && (decide (((IntKind.wrap .i64 (i1143 - 1)) : Int) < ((jl : Nat) : Int)))) (
 optO (yo[0 + ((IntKind.wrap .i64 (i1143 - 1)).toNat)]?) fun vE =>
 optO (vE[0]?) fun ol =>
 optO (vE[1]?) fun oA =>
 optO (vE[2]?) fun oe =>
 optO (vE[3]?) fun ot =>
 optO (vE[4]?) fun oz =>
 optO (vE[5]?) fun oq =>
 chkO ((decide (0 ≤ (i1143 : Int))) && (decide ((i1143 : Int) < ((jl : Nat) : Int)))) (
 optO (yo[0 + i1143.toNat]?) fun vA =>
 optO (vA[0]?) fun gU =>
 optO (vA[1]?) fun gK =>
 optO (vA[2]?) fun gX =>
 optO (vA[3]?) fun me =>
 optO (vA[4]?) fun gI =>
 optO (vA[5]?) fun gW =>
 chkO ((decide (0 ≤ (i1143 : Int))) && (decide ((i1143 : Int) < ((jl : Nat) : Int)))) (
 optO (yo[0 + i1143.toNat]?) fun c1208 =>
 chkO (decide ((6 : Nat) ≤ c1208.length)) (
 chkO ((decide (0 ≤ ((IntKind.wrap .i64 (i1143 - 1)) : Int))) && (decide (((IntKind.wrap .i64 (i1143 - 1)) : Int) < ((jl : Nat) : Int)))) (
 optO ((setN yo (0 + i1143.toNat) (Qbk c1208 0 [ol, oA, oe, ot, oz, oq]))[0 + ((IntKind.wrap .i64 (i1143 - 1)).toNat)]?) fun c1209 =>
 chkO (decide ((6 : Nat) ≤ c1209.length)) (
 Qbq lb n kj jl jL jJ jh we jR jV jU jT jS jW jx js jA ju jn jo jy jv jr jz jm jt jp jB jq wi K wK wy (IntKind.wrap .i64 (i1143 - 1)) (setN (setN yo (0 + i1143.toNat) (Qbk c1208 0 [ol, oA, oe, ot, oz, oq])) (0 + ((IntKind.wrap .i64 (i1143 - 1)).toNat)) (Qbk c1209 0 [gU, gK, gX, me, gI, gW])))))))))
 else
 (QbS lb n jl jL jJ jh we jR jV jU jT jS jW jx js jA ju jn jo jy jv jr jz jm jt jp jB jq wi K wK wy i1143 yo))))
 else
 (QbS lb n jl jL jJ jh we jR jV jU jT jS jW jx js jA ju jn jo jy jv jr jz jm jt jp jB jq wi K wK wy i1143 yo) := (Qad _).trans (by kernel_rfl)
noncomputable def Qbp (lb n vz : Nat) (K : AV → List (List (Option (List AV))) → Option CV) (jl jL : Nat) (jJ jh : Int) (jR : Bool) (jV : LL) (jU : Bool) (jT : LL) (jS : LB) (jW jx js jA : Int) (ju : Bool) (jn : LL) (jo : Int) (jy : LB) (jv jr jz jm jt : Int) (jp : LB) (jB : Bool) (jq : LL) (yC kF kJ : Int) (vT : LL) : Option CV :=
 hold (Qau (E2 lb n 2 994) 2 (Qae (sub (B Qaa) [1, 1, 1, 1, 0, 0]) ++ [9]) [] (sub (B Qaa) [1, 1, 1, 1, 0, 0]) (Qal 2 (retK Tryz.prog (R Qaa) 2 K)) vz ⟨fr 63 [(0, .rsl 42 0 8 0 jl jL), (1, vI jJ), (2, .val (.fn Qac)), (6, vI yC), (7, vI kF), (8, vI kJ), (10, vI 20), (23, .rsl 42 0 8 0 jl jL), (24, vI jh), (25, vI jJ), (26, .val (.fn Qac)), (27, .val (.tup []))], [bx 55 [(3, some [.val (.list jR jV), .val (.list jU jT)]), (4, some [vS jS, vI jW, vI jx, vI js, vI jA, .val (.list ju jn)]), (5, some [vI jo, vS jy, vI jv, vI jr, vI jz, vI jm, vI jt, vS jp, .val (.list jB jq)]), (8, some [.row 42 vT])], bx 9 [], bx 63 []], KK⟩)
noncomputable def QeQ (lb n mq : Nat) (K : AV → List (List (Option (List AV))) → Option CV) (vz jl jL : Nat) (jJ yC jh : Int) (jR : Bool) (jV : LL) (jU : Bool) (jT : LL) (jS : LB) (jW jx js jA : Int) (ju : Bool) (jn : LL) (jo : Int) (jy : LB) (jv jr jz jm jt : Int) (jp : LB) (jB : Bool) (jq : LL) (gJ mf : Int) (mt : LL) : Option CV :=
 hold (Qau (E2 lb n 2 988) 2 (Qae (sub (B Qaa) [1, 1, 1, 1, 0, 0, 1, 0, 1, 0, 0, 0]) ++ []) [] (sub (B Qaa) [1, 1, 1, 1, 0, 0, 1, 0, 1, 0, 0, 0]) (Qal 4 (seqK (E2 lb n 2 990) (sub (B Qaa) [1, 1, 1, 1, 0, 0, 1, 0, 1, 0]) (sub (B Qaa) [1, 1, 1, 1, 0, 0, 1, 0, 1, 1]) (Qal 3 (QbN 2 (Qae (sub (B Qaa) [1, 1, 1, 1, 0, 0]) ++ [9]) [] (Qau (E2 lb n 2 994) 2 (Qae (sub (B Qaa) [1, 1, 1, 1, 0, 0]) ++ [9]) [] (sub (B Qaa) [1, 1, 1, 1, 0, 0]) (Qal 2 (retK Tryz.prog (R Qaa) 2 K)) vz) (Qal 2 (retK Tryz.prog (R Qaa) 2 K)))))) mq ⟨fr 63 [(0, .rsl 42 0 8 0 jl jL), (1, vI jJ), (2, .val (.fn Qac)), (6, vI yC), (7, vI gJ), (8, vI mf), (10, vI 20), (23, .rsl 42 0 8 0 jl jL), (24, vI jh), (25, vI jJ), (26, .val (.fn Qac)), (27, .val (.tup [])), (31, vI yC), (32, .val (.int .i64 (IntKind.wrap .i64 (2 * yC))))], [bx 55 [(3, some [.val (.list jR jV), .val (.list jU jT)]), (4, some [vS jS, vI jW, vI jx, vI js, vI jA, .val (.list ju jn)]), (5, some [vI jo, vS jy, vI jv, vI jr, vI jz, vI jm, vI jt, vS jp, .val (.list jB jq)]), (8, some [.row 42 mt])], bx 9 [], bx 63 []], KK⟩)
theorem Qea (lb n vz : Nat) (K : AV → List (List (Option (List AV))) → Option CV) (jl jL : Nat) (jJ jh : Int) (jR : Bool) (jV : LL) (jU : Bool) (jT : LL) (jS : LB) (jW jx js jA : Int) (ju : Bool) (jn : LL) (jo : Int) (jy : LB) (jv jr jz jm jt : Int) (jp : LB) (jB : Bool) (jq : LL) (yC kF kJ : Int) (vT : LL) :
 Qbp lb n (vz + 1) K jl jL jJ jh jR jV jU jT jS jW jx js jA ju jn jo jy jv jr jz jm jt jp jB jq yC kF kJ vT =
 bif (decide (yC < jJ)) then
 (QeQ lb n n K vz jl jL jJ yC jh jR jV jU jT jS jW jx js jA ju jn jo jy jv jr jz jm jt jp jB jq 0 (IntKind.wrap .i64 (2 * yC)) vT)
 else
 (K (.val (.tup [])) [bx 55 [(3, some [.val (.list jR jV), .val (.list jU jT)]), (4, some [vS jS, vI jW, vI jx, vI js, vI jA, .val (.list ju jn)]), (5, some [vI jo, vS jy, vI jv, vI jr, vI jz, vI jm, vI jt, vS jp, .val (.list jB jq)]), (8, some [.row 42 vT])], bx 9 []]) := (Qad _).trans (by kernel_rfl)
theorem Qcx (lb n wK jl jL : Nat) (jJ jh we : Int) (jR : Bool) (jV : LL) (jU : Bool) (jT : LL) (jS : LB) (jW jx js jA : Int) (ju : Bool) (jn : LL) (jo : Int) (jy : LB) (jv jr jz jm jt : Int) (jp : LB) (jB : Bool) (jq wi : LL) (K : AV → List (List (Option (List AV))) → Option CV) (wy : Int) (vU : LL) :
 Qba lb n (wK + 1) jl jL jJ jh we jR jV jU jT jS jW jx js jA ju jn jo jy jv jr jz jm jt jp jB jq wi K wy vU =
 bif (decide (wy < jJ)) then
 (Qbq lb n n jl jL jJ jh we jR jV jU jT jS jW jx js jA ju jn jo jy jv jr jz jm jt jp jB jq wi K wK wy wy vU)
 else
 (Qbp lb n n K jl jL jJ jh jR jV jU jT jS jW jx js jA ju jn jo jy jv jr jz jm jt jp jB jq 20 jh we vU) := (Qad _).trans (by kernel_rfl)
theorem Qev (lb n : Nat) (K : AV → List (List (Option (List AV))) → Option CV) (jl jL : Nat) (jJ : Int) (jR : Bool) (jV : LL) (jU : Bool) (jT : LL) (jS : LB) (jW jx js jA : Int) (ju : Bool) (jn : LL) (jo : Int) (jy : LB) (jv jr jz jm jt : Int) (jp : LB) (jB : Bool) (jq : LL) (jh we : Int) (wi : LL) :
 Qc7 lb n K jl jL jJ jR jV jU jT jS jW jx js jA ju jn jo jy jv jr jz jm jt jp jB jq jh we wi =
 Qba lb n n jl jL jJ jh we jR jV jU jT jS jW jx js jA ju jn jo jy jv jr jz jm jt jp jB jq wi K (IntKind.wrap .i64 (jh + 1)) wi := (Qad _).trans (by kernel_rfl)
theorem Qd9 (lb n v6 : Nat) (K : AV → List (List (Option (List AV))) → Option CV) (jl jL : Nat) (jJ : Int) (jR : Bool) (jV : LL) (jU : Bool) (jT : LL) (jS : LB) (jW jx js jA : Int) (ju : Bool) (jn : LL) (jo : Int) (jy : LB) (jv jr jz jm jt : Int) (jp : LB) (jB : Bool) (jq : LL) (yI y4 : Int) (vp : LL) :
 QbR lb n (v6 + 1) K jl jL jJ jR jV jU jT jS jW jx js jA ju jn jo jy jv jr jz jm jt jp jB jq yI y4 vp =
 bif (decide (y4 ≤ jJ)) then
 (Qe4 lb n n jl jL jJ yI y4 jR jV jU jT jS jW jx js jA ju jn jo jy jv jr jz jm jt jp jB jq vp K v6 (IntKind.wrap .i64 (yI + 1)) vp)
 else
 (Qc7 lb n K jl jL jJ jR jV jU jT jS jW jx js jA ju jn jo jy jv jr jz jm jt jp jB jq yI y4 vp) := (Qad _).trans (by kernel_rfl)
theorem QeT (lb n : Nat) (K : AV → List (List (Option (List AV))) → Option CV) (jl jL : Nat) (jJ : Int) (jR : Bool) (jV : LL) (jU : Bool) (jT : LL) (jS : LB) (jW jx js jA : Int) (ju : Bool) (jn : LL) (jo : Int) (jy : LB) (jv jr jz jm jt : Int) (jp : LB) (jB : Bool) (jq kG : LL) :
 Qb6 lb n K jl jL jJ jR jV jU jT jS jW jx js jA ju jn jo jy jv jr jz jm jt jp jB jq kG =
 QbR lb n n K jl jL jJ jR jV jU jT jS jW jx js jA ju jn jo jy jv jr jz jm jt jp jB jq 0 20 kG := by kernel_rfl
theorem Ql7 (lb n : Nat) (j8 : LB) (j7 jD jM jE : Int) (j3 : Bool) (aleg7 : LL) (oU : LB) (od kb kH kr : Int) (oH : Bool) (gd : LL) :
 top lb n Qac [.agg [.str j8, .int .i64 j7, .int .i64 jD, .int .i64 jM, .int .i64 jE, .list j3 aleg7], .agg [.str oU, .int .i64 od, .int .i64 kb, .int .i64 kH, .int .i64 kr, .list oH gd]] =
 optO (C lb n QfQ [.int .i64 jD, .int .i64 kb]) fun nT =>
 some (nT) := by kernel_rfl
theorem Qna (lb n : Nat) (a1 b2 : Int) :
 top lb n QfQ [.int .i64 a1, .int .i64 b2] =
 optO (C lb n Qfg [.int .i64 a1]) fun r3 =>
 optO (C lb n Qfg [.int .i64 b2]) fun r4 =>
 optO (CV.asB r3) fun b5 =>
 bif b5 then
 (optO (CV.asB r4) fun b6 =>
 bif b6 then
 (some (.int .i64 0))
 else
 (some (.int .i64 (-1))))
 else
 (optO (CV.asB r4) fun b7 =>
 bif b7 then
 (some (.int .i64 1))
 else
 (bif (decide (a1 < b2)) then
 (some (.int .i64 (-1)))
 else
 (bif (decide (a1 > b2)) then
 (some (.int .i64 1))
 else
 (some (.int .i64 0))))) := by kernel_rfl
theorem QoT (lb n : Nat) (a1 : Int) :
 top lb n Qfg [.int .i64 a1] =
 some (.bool (a1 != a1)) := by kernel_rfl
end Go.Proofs
