/- Equations of functions, printed by program. Conditions: none. -/
import Derived.Test.YtigmcfhmpcajlaaGreatDoorEv
namespace Go.Proofs
open Go.Am
set_option maxRecDepth 100000
set_option linter.unusedVariables false
noncomputable def r35_Check_J1 :=
 fun lb n jj (ja : Bool) (jf : LL) jg (jb : Bool) (je : LL) (jd : Bool) (jh : LL) jc (yd : Bool) (yy : LL) =>
 hold (E0 lb n 0 997 (sub (B Qag) [1,1,1]) (retK Tryz.prog (R Qag) 0 (outK (Qad Tryz.prog Qag))) ⟨fr 140 [(0, .val (.agg [.str jj, .list ja jf, .int .i64 jg, .list jb je, .list jd jh, .int .i64 jc])),(1, .ptr 0 1 0),(2, .lst true true 61 []),(3, .lst true yd 61 yy)],[bx 140 [(1,some [vS jj, .val (.list ja jf),vI jg, .val (.list jb je), .val (.list jd jh),vI jc])]],KK⟩)
noncomputable def QdU (lb n : Nat) (jj : LB) (ja : Bool) (jf : LL) (jg : Int) (jb : Bool) (je : LL) (jd : Bool) (jh : LL) (jc : Int) (jp : Bool) (jn : LL) : Option CV :=
 hold (E0 lb n 0 996 (sub (B Qag) [1,1,1,1]) (retK Tryz.prog (R Qag) 0 (outK (Qad Tryz.prog Qag))) ⟨fr 140 [(0, .val (.agg [.str jj, .list ja jf, .int .i64 jg, .list jb je, .list jd jh, .int .i64 jc])),(1, .ptr 0 1 0),(2, .lst true true 61 []),(3, .lst true jp 61 jn)],[bx 140 [(1,some [vS jj, .val (.list ja jf),vI jg, .val (.list jb je), .val (.list jd jh),vI jc])]],KK⟩)
noncomputable def QdO (lb n : Nat) (jj : LB) (ja : Bool) (jf : LL) (jg : Int) (jb : Bool) (je : LL) (jd : Bool) (jh : LL) (jc : Int) (jp : Bool) (jn : LL) (jl : CV) (jo : Bool × LL) (yW : Bool) (vE : LL) : Option CV :=
 hold (E0 lb n 0 994 (sub (B Qag) [1,1,1,1,1,1]) (retK Tryz.prog (R Qag) 0 (outK (Qad Tryz.prog Qag))) ⟨fr 140 [(0, .val (.agg [.str jj, .list ja jf, .int .i64 jg, .list jb je, .list jd jh, .int .i64 jc])),(1, .ptr 0 1 0),(2, .lst true true 61 []),(3, .lst true yW 61 vE),(31, .val (.list jp jn)),(32, .ptr 0 1 1),(33, .val (.list ja jf)),(34, .ptr 0 1 2),(35,vI jg),(36,vV jl),(37, .val (.list (jp && jo.2.isEmpty) (jn ++ jo.2)))],[bx 140 [(1,some [vS jj, .val (.list ja jf),vI jg, .val (.list jb je), .val (.list jd jh),vI jc])]],KK⟩)
noncomputable def Qfg (lb n : Nat) (jj : LB) (ja : Bool) (jf : LL) (jg : Int) (jb : Bool) (je : LL) (jd : Bool) (jh : LL) (jc : Int) (jq : CV) (jp : Bool) (jn : LL) (jl : CV) (jo : Bool × LL) (js : CV) (vc : Bool) (vp : LL) : Option CV :=
 hold (E0 lb n 0 992 (sub (B Qag) [1,1,1,1,1,1,1,1]) (retK Tryz.prog (R Qag) 0 (outK (Qad Tryz.prog Qag))) ⟨fr 140 [(0, .val (.agg [.str jj, .list ja jf, .int .i64 jg, .list jb je, .list jd jh, .int .i64 jc])),(1, .ptr 0 1 0),(2, .lst true true 61 []),(3, .lst true vc 61 vp),(4,vV jq),(31, .val (.list jp jn)),(32, .ptr 0 1 1),(33, .val (.list ja jf)),(34, .ptr 0 1 2),(35,vI jg),(36,vV jl),(37, .val (.list (jp && jo.2.isEmpty) (jn ++ jo.2))),(46, .val (.agg [.str jj, .list ja jf, .int .i64 jg, .list jb je, .list jd jh, .int .i64 jc])),(47,vV js),(48,vV jq)],[bx 140 [(1,some [vS jj, .val (.list ja jf),vI jg, .val (.list jb je), .val (.list jd jh),vI jc])]],KK⟩)
noncomputable def Qft (lb n yJ : Nat) (jj : LB) (ja : Bool) (jf : LL) (jg : Int) (jb : Bool) (je : LL) (jd : Bool) (jh : LL) (jc : Int) (jq : CV) (jp : Bool) (jn : LL) (jl : CV) (jo : Bool × LL) (js : CV) (yB : Bool) (me : LL) (yo : Int) : Option CV :=
 hold (Qaw (E0 lb n 0 988) 0 (Qah (sub (B Qag) [1,1,1,1,1,1,1,1,0,1,0,0]) ++ [6,7,7]) [] (sub (B Qag) [1,1,1,1,1,1,1,1,0,1,0,0]) (Qap 0 (seqK (E0 lb n 0 991) (sub (B Qag) [1,1,1,1,1,1,1,1,0]) (sub (B Qag) [1,1,1,1,1,1,1,1,1]) (retK Tryz.prog (R Qag) 0 (outK (Qad Tryz.prog Qag))))) yJ ⟨fr 140 [(0, .val (.agg [.str jj, .list ja jf, .int .i64 jg, .list jb je, .list jd jh, .int .i64 jc])),(1, .ptr 0 1 0),(2, .lst true true 61 []),(3, .lst true yB 61 me),(4,vV jq),(5,vI yo),(31, .val (.list jp jn)),(32, .ptr 0 1 1),(33, .val (.list ja jf)),(34, .ptr 0 1 2),(35,vI jg),(36,vV jl),(37, .val (.list (jp && jo.2.isEmpty) (jn ++ jo.2))),(46, .val (.agg [.str jj, .list ja jf, .int .i64 jg, .list jb je, .list jd jh, .int .i64 jc])),(47,vV js),(48,vV jq)],[bx 140 [(1,some [vS jj, .val (.list ja jf),vI jg, .val (.list jb je), .val (.list jd jh),vI jc])]],KK⟩)
noncomputable def Qfn (lb n gI yJ : Nat) (jj : LB) (ja : Bool) (jf : LL) (jg : Int) (jb : Bool) (je : LL) (jd : Bool) (jh : LL) (jc : Int) (jq : CV) (yo : Int) (yj : CV) (jp : Bool) (jn : LL) (jl : CV) (jo : Bool × LL) (js : CV) (yG : List CV) (jy jz w6 jC jB jA jT jO jN yM : CV) (o4 : Bool) (k9 : LL) (kJ : Int) : Option CV :=
 hold (Qaw (E0 lb n 0 981) 0 (Qah (sub (B Qag) [1,1,1,1,1,1,1,1,0,1,0,0,1,0,0,1,1,0,0]) ++ []) [] (sub (B Qag) [1,1,1,1,1,1,1,1,0,1,0,0,1,0,0,1,1,0,0]) (Qap 2 (Qap 1 (seqK (E0 lb n 0 986) (sub (B Qag) [1,1,1,1,1,1,1,1,0,1,0,0,1,0]) (sub (B Qag) [1,1,1,1,1,1,1,1,0,1,0,0,1,1]) (Qdv 0 (Qah (sub (B Qag) [1,1,1,1,1,1,1,1,0,1,0,0]) ++ [6,7,7]) [] (Qaw (E0 lb n 0 988) 0 (Qah (sub (B Qag) [1,1,1,1,1,1,1,1,0,1,0,0]) ++ [6,7,7]) [] (sub (B Qag) [1,1,1,1,1,1,1,1,0,1,0,0]) (Qap 0 (seqK (E0 lb n 0 991) (sub (B Qag) [1,1,1,1,1,1,1,1,0]) (sub (B Qag) [1,1,1,1,1,1,1,1,1]) (retK Tryz.prog (R Qag) 0 (outK (Qad Tryz.prog Qag))))) yJ) (Qap 0 (seqK (E0 lb n 0 991) (sub (B Qag) [1,1,1,1,1,1,1,1,0]) (sub (B Qag) [1,1,1,1,1,1,1,1,1]) (retK Tryz.prog (R Qag) 0 (outK (Qad Tryz.prog Qag))))))))) gI ⟨fr 140 [(0, .val (.agg [.str jj, .list ja jf, .int .i64 jg, .list jb je, .list jd jh, .int .i64 jc])),(1, .ptr 0 1 0),(2, .lst true true 61 []),(3, .lst true o4 61 k9),(4,vV jq),(5,vI yo),(6,vV yj),(7,vI kJ),(31, .val (.list jp jn)),(32, .ptr 0 1 1),(33, .val (.list ja jf)),(34, .ptr 0 1 2),(35,vI jg),(36,vV jl),(37, .val (.list (jp && jo.2.isEmpty) (jn ++ jo.2))),(46, .val (.agg [.str jj, .list ja jf, .int .i64 jg, .list jb je, .list jd jh, .int .i64 jc])),(47,vV js),(48,vV jq),(63, .ptr 0 1 3),(64, .val (.list jb je)),(65,vI yo),(66, .cptr yG 0),(67, .val (.agg [jy,jz,w6,jC,jB,jA,jT,jO,jN,yM])),(68,vV yj)],[bx 140 [(1,some [vS jj, .val (.list ja jf),vI jg, .val (.list jb je), .val (.list jd jh),vI jc])]],KK⟩)
noncomputable def Qnu (lb n yJ : Nat) (jj : LB) (ja : Bool) (jf : LL) (jg : Int) (jb : Bool) (je : LL) (jd : Bool) (jh : LL) (jc : Int) (jq : CV) (yo : Int) (jp : Bool) (jn : LL) (jl : CV) (jo : Bool × LL) (js : CV) (gO : Bool) (gE : LL) (kC : CV) (ni : Int) : Option CV :=
 hold (E0 lb n 0 986 (sub (B Qag) [1,1,1,1,1,1,1,1,0,1,0,0,1,1]) (Qdv 0 (Qah (sub (B Qag) [1,1,1,1,1,1,1,1,0,1,0,0]) ++ [6,7,7]) [] (Qaw (E0 lb n 0 988) 0 (Qah (sub (B Qag) [1,1,1,1,1,1,1,1,0,1,0,0]) ++ [6,7,7]) [] (sub (B Qag) [1,1,1,1,1,1,1,1,0,1,0,0]) (Qap 0 (seqK (E0 lb n 0 991) (sub (B Qag) [1,1,1,1,1,1,1,1,0]) (sub (B Qag) [1,1,1,1,1,1,1,1,1]) (retK Tryz.prog (R Qag) 0 (outK (Qad Tryz.prog Qag))))) yJ) (Qap 0 (seqK (E0 lb n 0 991) (sub (B Qag) [1,1,1,1,1,1,1,1,0]) (sub (B Qag) [1,1,1,1,1,1,1,1,1]) (retK Tryz.prog (R Qag) 0 (outK (Qad Tryz.prog Qag)))))) ⟨fr 140 [(0, .val (.agg [.str jj, .list ja jf, .int .i64 jg, .list jb je, .list jd jh, .int .i64 jc])),(1, .ptr 0 1 0),(2, .lst true true 61 []),(3, .lst true gO 61 gE),(4,vV jq),(5,vI yo),(6,vV kC),(7,vI ni),(31, .val (.list jp jn)),(32, .ptr 0 1 1),(33, .val (.list ja jf)),(34, .ptr 0 1 2),(35,vI jg),(36,vV jl),(37, .val (.list (jp && jo.2.isEmpty) (jn ++ jo.2))),(46, .val (.agg [.str jj, .list ja jf, .int .i64 jg, .list jb je, .list jd jh, .int .i64 jc])),(47,vV js),(48,vV jq)],[bx 140 [(1,some [vS jj, .val (.list ja jf),vI jg, .val (.list jb je), .val (.list jd jh),vI jc])]],KK⟩)
theorem QqN (lb n yJ : Nat) (jj : LB) (ja : Bool) (jf : LL) (jg : Int) (jb : Bool) (je : LL) (jd : Bool) (jh : LL) (jc : Int) (jq : CV) (yo : Int) (jp : Bool) (jn : LL) (jl : CV) (jo : Bool × LL) (js : CV) (gO : Bool) (gE : LL) (kC : CV) (ni : Int) :
 Qnu lb n yJ jj ja jf jg jb je jd jh jc jq yo jp jn jl jo js gO gE kC ni =
 Qft lb n yJ jj ja jf jg jb je jd jh jc jq jp jn jl jo js gO gE (IntKind.wrap .i64 (yo + 1)) := (Qab _).trans (by kernel_rfl)
theorem QiM (lb n gI yJ : Nat) (jj : LB) (ja : Bool) (jf : LL) (jg : Int) (jb : Bool) (je : LL) (jd : Bool) (jh : LL) (jc : Int) (jq : CV) (yo : Int) (yj : CV) (jp : Bool) (jn : LL) (jl : CV) (jo : Bool × LL) (js : CV) (yG : List CV) (jy jz w6 jC jB jA jT jO jN yM : CV) (o4 : Bool) (k9 : LL) (kJ : Int) :
 Qfn lb n (gI + 1) yJ jj ja jf jg jb je jd jh jc jq yo yj jp jn jl jo js yG jy jz w6 jC jB jA jT jO jN yM o4 k9 kJ =
 optO (CV.asL yj) fun zo =>
 bif (decide (kJ < (zo.2.length : Int))) then
 (optO (CV.asL yj) fun l5 =>
 optO (atL l5.2 kJ) fun qM =>
 chkO (qM.length == 1) (
 optO (qM[0]?) fun gR =>
 optO (C lb n Qdn [.int .i64 yo]) fun lf =>
 optO (CV.asS lf) fun kl =>
 chkO (decide (([115,101,103,32] : LB).length + kl.length ≤ 9223372036854775807)) (
 chkO (CV.isCell gR) (
 chkO (room (k9.length + 1) 24) (
 Qfn lb n gI yJ jj ja jf jg jb je jd jh jc jq yo yj jp jn jl jo js yG jy jz w6 jC jB jA jT jO jN yM (o4 && false) (k9 ++ [[gR,CV.str (([115,101,103,32] : LB) ++ kl)]]) (IntKind.wrap .i64 (kJ + 1)))))))
 else
 (Qnu lb n yJ jj ja jf jg jb je jd jh jc jq yo jp jn jl jo js o4 k9 yj kJ) := (Qab _).trans (by kernel_rfl)
noncomputable def Qjx (lb n : Nat) (jj : LB) (ja : Bool) (jf : LL) (jg : Int) (jb : Bool) (je : LL) (jd : Bool) (jh : LL) (jc : Int) (jq : CV) (jp : Bool) (jn : LL) (jl : CV) (jo : Bool × LL) (js : CV) (gZ : Bool) (gM : LL) (wN : Int) : Option CV :=
 hold (E0 lb n 0 991 (sub (B Qag) [1,1,1,1,1,1,1,1,1]) (retK Tryz.prog (R Qag) 0 (outK (Qad Tryz.prog Qag))) ⟨fr 140 [(0, .val (.agg [.str jj, .list ja jf, .int .i64 jg, .list jb je, .list jd jh, .int .i64 jc])),(1, .ptr 0 1 0),(2, .lst true true 61 []),(3, .lst true gZ 61 gM),(4,vV jq),(5,vI wN),(31, .val (.list jp jn)),(32, .ptr 0 1 1),(33, .val (.list ja jf)),(34, .ptr 0 1 2),(35,vI jg),(36,vV jl),(37, .val (.list (jp && jo.2.isEmpty) (jn ++ jo.2))),(46, .val (.agg [.str jj, .list ja jf, .int .i64 jg, .list jb je, .list jd jh, .int .i64 jc])),(47,vV js),(48,vV jq)],[bx 140 [(1,some [vS jj, .val (.list ja jf),vI jg, .val (.list jb je), .val (.list jd jh),vI jc])]],KK⟩)
noncomputable def QbZ (lb n yv : Nat) (jj : LB) (ja : Bool) (jf : LL) (jg : Int) (jb : Bool) (je : LL) (jd : Bool) (jh : LL) (jc : Int) (jq : CV) (wN : Int) (jp : Bool) (jn : LL) (jl : CV) (jo : Bool × LL) (js : CV) (oe : Bool) (kP : LL) (j8 : Int) : Option CV :=
 hold (Qaw (E0 lb n 0 987) 0 (Qah (sub (B Qag) [1,1,1,1,1,1,1,1,1,0,1,0,0]) ++ [10]) [9] (sub (B Qag) [1,1,1,1,1,1,1,1,1,0,1,0,0]) (Qap 4 (seqK (E0 lb n 0 990) (sub (B Qag) [1,1,1,1,1,1,1,1,1,0]) (sub (B Qag) [1,1,1,1,1,1,1,1,1,1]) (retK Tryz.prog (R Qag) 0 (outK (Qad Tryz.prog Qag))))) yv ⟨fr 140 [(0, .val (.agg [.str jj, .list ja jf, .int .i64 jg, .list jb je, .list jd jh, .int .i64 jc])),(1, .ptr 0 1 0),(2, .lst true true 61 []),(3, .lst true oe 61 kP),(4,vV jq),(5,vI wN),(8,vI j8),(31, .val (.list jp jn)),(32, .ptr 0 1 1),(33, .val (.list ja jf)),(34, .ptr 0 1 2),(35,vI jg),(36,vV jl),(37, .val (.list (jp && jo.2.isEmpty) (jn ++ jo.2))),(46, .val (.agg [.str jj, .list ja jf, .int .i64 jg, .list jb je, .list jd jh, .int .i64 jc])),(47,vV js),(48,vV jq)],[bx 140 [(1,some [vS jj, .val (.list ja jf),vI jg, .val (.list jb je), .val (.list jd jh),vI jc])]],KK⟩)
noncomputable def QeQ (lb n yv : Nat) (jj : LB) (ja : Bool) (jf : LL) (jg : Int) (jb : Bool) (je : LL) (jd : Bool) (jh : LL) (jc : Int) (jq : CV) (wN j8 : Int) (yt : LB) (jp : Bool) (jn : LL) (jl : CV) (jo : Bool × LL) (js : CV) (y0 : List CV) (vu y3 ye vQ : CV) (ke : Bool) (y1 : LL) : Option CV :=
 hold (E0 lb n 0 982 (sub (B Qag) [1,1,1,1,1,1,1,1,1,0,1,0,0,1,0,0,1,1]) (Qap 5 (seqK (E0 lb n 0 985) (sub (B Qag) [1,1,1,1,1,1,1,1,1,0,1,0,0,1,0]) (sub (B Qag) [1,1,1,1,1,1,1,1,1,0,1,0,0,1,1]) (Qdv 0 (Qah (sub (B Qag) [1,1,1,1,1,1,1,1,1,0,1,0,0]) ++ [10]) [9] (Qaw (E0 lb n 0 987) 0 (Qah (sub (B Qag) [1,1,1,1,1,1,1,1,1,0,1,0,0]) ++ [10]) [9] (sub (B Qag) [1,1,1,1,1,1,1,1,1,0,1,0,0]) (Qap 4 (seqK (E0 lb n 0 990) (sub (B Qag) [1,1,1,1,1,1,1,1,1,0]) (sub (B Qag) [1,1,1,1,1,1,1,1,1,1]) (retK Tryz.prog (R Qag) 0 (outK (Qad Tryz.prog Qag))))) yv) (Qap 4 (seqK (E0 lb n 0 990) (sub (B Qag) [1,1,1,1,1,1,1,1,1,0]) (sub (B Qag) [1,1,1,1,1,1,1,1,1,1]) (retK Tryz.prog (R Qag) 0 (outK (Qad Tryz.prog Qag)))))))) ⟨fr 140 [(0, .val (.agg [.str jj, .list ja jf, .int .i64 jg, .list jb je, .list jd jh, .int .i64 jc])),(1, .ptr 0 1 0),(2, .lst true true 61 []),(3, .lst true ke 61 y1),(4,vV jq),(5,vI wN),(8,vI j8),(9, .ptr 0 9 0),(10, .val (.str (([115,101,114,118,105,99,101,32] : LB) ++ yt))),(31, .val (.list jp jn)),(32, .ptr 0 1 1),(33, .val (.list ja jf)),(34, .ptr 0 1 2),(35,vI jg),(36,vV jl),(37, .val (.list (jp && jo.2.isEmpty) (jn ++ jo.2))),(46, .val (.agg [.str jj, .list ja jf, .int .i64 jg, .list jb je, .list jd jh, .int .i64 jc])),(47,vV js),(48,vV jq),(93, .ptr 0 1 4),(94, .val (.list jd jh)),(95,vI j8),(96, .cptr y0 0),(97, .val (.agg [vu,y3,ye])),(98,vI j8),(99,vV vQ),(100, .val (.str (([115,101,114,118,105,99,101,32] : LB) ++ yt)))],[bx 140 [(1,some [vS jj, .val (.list ja jf),vI jg, .val (.list jb je), .val (.list jd jh),vI jc]),(9,some [.val vu, .val y3, .val ye])]],KK⟩)
theorem Qpc (lb n yv : Nat) (jj : LB) (ja : Bool) (jf : LL) (jg : Int) (jb : Bool) (je : LL) (jd : Bool) (jh : LL) (jc : Int) (jq : CV) (wN j8 : Int) (yt : LB) (jp : Bool) (jn : LL) (jl : CV) (jo : Bool × LL) (js : CV) (y0 : List CV) (vu y3 ye vQ : CV) (ke : Bool) (y1 : LL) :
 QeQ lb n yv jj ja jf jg jb je jd jh jc jq wN j8 yt jp jn jl jo js y0 vu y3 ye vQ ke y1 =
 optO (CV.asI .i64 y3) fun sJ =>
 bif (decide (sJ < 0)) then
 (chkO (room (y1.length + 1) 24) (
 QbZ lb n yv jj ja jf jg jb je jd jh jc jq wN jp jn jl jo js (ke && false) (y1 ++ [[CV.int .i64 7,CV.str (([115,101,114,118,105,99,101,32] : LB) ++ yt)]]) (IntKind.wrap .i64 (j8 + 1))))
 else
 (optO (CV.asI .i64 y3) fun lL =>
 bif (decide (lL ≥ (jf.length : Int))) then
 (chkO (room (y1.length + 1) 24) (
 QbZ lb n yv jj ja jf jg jb je jd jh jc jq wN jp jn jl jo js (ke && false) (y1 ++ [[CV.int .i64 7,CV.str (([115,101,114,118,105,99,101,32] : LB) ++ yt)]]) (IntKind.wrap .i64 (j8 + 1))))
 else
 (optO (CV.asI .i64 ye) fun m9 =>
 bif (decide (m9 < 0)) then
 (chkO (room (y1.length + 1) 24) (
 QbZ lb n yv jj ja jf jg jb je jd jh jc jq wN jp jn jl jo js (ke && false) (y1 ++ [[CV.int .i64 7,CV.str (([115,101,114,118,105,99,101,32] : LB) ++ yt)]]) (IntKind.wrap .i64 (j8 + 1))))
 else
 (optO (CV.asI .i64 ye) fun mH =>
 bif (decide (mH ≥ (je.length : Int))) then
 (chkO (room (y1.length + 1) 24) (
 QbZ lb n yv jj ja jf jg jb je jd jh jc jq wN jp jn jl jo js (ke && false) (y1 ++ [[CV.int .i64 7,CV.str (([115,101,114,118,105,99,101,32] : LB) ++ yt)]]) (IntKind.wrap .i64 (j8 + 1))))
 else
 (QbZ lb n yv jj ja jf jg jb je jd jh jc jq wN jp jn jl jo js ke y1 (IntKind.wrap .i64 (j8 + 1)))))) := (Qab _).trans (by kernel_rfl)
noncomputable def Qmj (lb n : Nat) (jj : LB) (ja : Bool) (jf : LL) (jg : Int) (jb : Bool) (je : LL) (jd : Bool) (jh : LL) (jc : Int) (jq : CV) (wN : Int) (jp : Bool) (jn : LL) (jl : CV) (jo : Bool × LL) (js : CV) (gD : Bool) (gY : LL) (mW : Int) : Option CV :=
 hold (E0 lb n 0 990 (sub (B Qag) [1,1,1,1,1,1,1,1,1,1]) (retK Tryz.prog (R Qag) 0 (outK (Qad Tryz.prog Qag))) ⟨fr 140 [(0, .val (.agg [.str jj, .list ja jf, .int .i64 jg, .list jb je, .list jd jh, .int .i64 jc])),(1, .ptr 0 1 0),(2, .lst true true 61 []),(3, .lst true gD 61 gY),(4,vV jq),(5,vI wN),(8,vI mW),(31, .val (.list jp jn)),(32, .ptr 0 1 1),(33, .val (.list ja jf)),(34, .ptr 0 1 2),(35,vI jg),(36,vV jl),(37, .val (.list (jp && jo.2.isEmpty) (jn ++ jo.2))),(46, .val (.agg [.str jj, .list ja jf, .int .i64 jg, .list jb je, .list jd jh, .int .i64 jc])),(47,vV js),(48,vV jq)],[bx 140 [(1,some [vS jj, .val (.list ja jf),vI jg, .val (.list jb je), .val (.list jd jh),vI jc])]],KK⟩)
theorem QoQ (lb n : Nat) (jj : LB) (ja : Bool) (jf : LL) (jg : Int) (jb : Bool) (je : LL) (jd : Bool) (jh : LL) (jc : Int) (jq : CV) (wN : Int) (jp : Bool) (jn : LL) (jl : CV) (jo : Bool × LL) (js : CV) (gD : Bool) (gY : LL) (mW : Int) :
 Qmj lb n jj ja jf jg jb je jd jh jc jq wN jp jn jl jo js gD gY mW =
 some (.list gD gY) := (Qab _).trans (by kernel_rfl)
theorem QiP (lb n yv : Nat) (jj : LB) (ja : Bool) (jf : LL) (jg : Int) (jb : Bool) (je : LL) (jd : Bool) (jh : LL) (jc : Int) (jq : CV) (wN : Int) (jp : Bool) (jn : LL) (jl : CV) (jo : Bool × LL) (js : CV) (oe : Bool) (kP : LL) (j8 : Int) :
 QbZ lb n (yv + 1) jj ja jf jg jb je jd jh jc jq wN jp jn jl jo js oe kP j8 =
 bif (decide (j8 < (jh.length : Int))) then
 (optO (atL jh j8) fun y0 =>
 chkO (y0.length == 3) (
 optO (y0[0]?) fun vu =>
 optO (y0[1]?) fun y3 =>
 optO (y0[2]?) fun ye =>
 optO (C lb n Qdn [.int .i64 j8]) fun vQ =>
 optO (CV.asS vQ) fun yt =>
 chkO (decide (([115,101,114,118,105,99,101,32] : LB).length + yt.length ≤ 9223372036854775807)) (
 optO (C lb n QbL [vu, .int .i64 4, .int .i64 4]) fun vl =>
 optO (CV.asB vl) fun ze =>
 bif (!ze) then
 (chkO (room (kP.length + 1) 24) (
 QeQ lb n yv jj ja jf jg jb je jd jh jc jq wN j8 yt jp jn jl jo js y0 vu y3 ye vQ (oe && false) (kP ++ [[CV.int .i64 5,CV.str (([115,101,114,118,105,99,101,32] : LB) ++ yt)]])))
 else
 (QeQ lb n yv jj ja jf jg jb je jd jh jc jq wN j8 yt jp jn jl jo js y0 vu y3 ye vQ oe kP))))
 else
 (Qmj lb n jj ja jf jg jb je jd jh jc jq wN jp jn jl jo js oe kP j8) := (Qab _).trans (by kernel_rfl)
theorem QpG (lb n : Nat) (jj : LB) (ja : Bool) (jf : LL) (jg : Int) (jb : Bool) (je : LL) (jd : Bool) (jh : LL) (jc : Int) (jq : CV) (jp : Bool) (jn : LL) (jl : CV) (jo : Bool × LL) (js : CV) (gZ : Bool) (gM : LL) (wN : Int) :
 Qjx lb n jj ja jf jg jb je jd jh jc jq jp jn jl jo js gZ gM wN =
 QbZ lb n n jj ja jf jg jb je jd jh jc jq wN jp jn jl jo js gZ gM 0 := (Qab _).trans (by kernel_rfl)
theorem QiY (lb n yJ : Nat) (jj : LB) (ja : Bool) (jf : LL) (jg : Int) (jb : Bool) (je : LL) (jd : Bool) (jh : LL) (jc : Int) (jq : CV) (jp : Bool) (jn : LL) (jl : CV) (jo : Bool × LL) (js : CV) (yB : Bool) (me : LL) (yo : Int) :
 Qft lb n (yJ + 1) jj ja jf jg jb je jd jh jc jq jp jn jl jo js yB me yo =
 bif (decide (yo < (je.length : Int))) then
 (optO (atL je yo) fun yG =>
 chkO (yG.length == 10) (
 optO (yG[0]?) fun jy =>
 optO (yG[1]?) fun jz =>
 optO (yG[2]?) fun w6 =>
 optO (yG[3]?) fun jC =>
 optO (yG[4]?) fun jB =>
 optO (yG[5]?) fun jA =>
 optO (yG[6]?) fun jT =>
 optO (yG[7]?) fun jO =>
 optO (yG[8]?) fun jN =>
 optO (yG[9]?) fun yM =>
 optO (C lb n Qbt [.agg [jy,jz,w6,jC,jB,jA,jT,jO,jN,yM]]) fun yj =>
 Qfn lb n n yJ jj ja jf jg jb je jd jh jc jq yo yj jp jn jl jo js yG jy jz w6 jC jB jA jT jO jN yM yB me 0))
 else
 (Qjx lb n jj ja jf jg jb je jd jh jc jq jp jn jl jo js yB me yo) := (Qab _).trans (by kernel_rfl)
theorem QqO (lb n : Nat) (jj : LB) (ja : Bool) (jf : LL) (jg : Int) (jb : Bool) (je : LL) (jd : Bool) (jh : LL) (jc : Int) (jq : CV) (jp : Bool) (jn : LL) (jl : CV) (jo : Bool × LL) (js : CV) (vc : Bool) (vp : LL) :
 Qfg lb n jj ja jf jg jb je jd jh jc jq jp jn jl jo js vc vp =
 Qft lb n n jj ja jf jg jb je jd jh jc jq jp jn jl jo js vc vp 0 := (Qab _).trans (by kernel_rfl)
theorem QpX (lb n : Nat) (jj : LB) (ja : Bool) (jf : LL) (jg : Int) (jb : Bool) (je : LL) (jd : Bool) (jh : LL) (jc : Int) (jp : Bool) (jn : LL) (jl : CV) (jo : Bool × LL) (yW : Bool) (vE : LL) :
 QdO lb n jj ja jf jg jb je jd jh jc jp jn jl jo yW vE =
 optO (C lb n Qbv [.agg [.str jj, .list ja jf, .int .i64 jg, .list jb je, .list jd jh, .int .i64 jc]]) fun js =>
 optO (C lb n Qao [js]) fun jq =>
 optO (CV.asI .i64 jq) fun ks =>
 bif (ks != 0) then
 (chkO (CV.isCell jq) (
 chkO (room (vE.length + 1) 24) (
 Qfg lb n jj ja jf jg jb je jd jh jc jq jp jn jl jo js (yW && false) (vE ++ [[jq,CV.str [115,101,103,115]]]))))
 else
 (Qfg lb n jj ja jf jg jb je jd jh jc jq jp jn jl jo js yW vE) := (Qab _).trans (by kernel_rfl)
theorem Qpo (lb n : Nat) (jj : LB) (ja : Bool) (jf : LL) (jg : Int) (jb : Bool) (je : LL) (jd : Bool) (jh : LL) (jc : Int) (jp : Bool) (jn : LL) :
 QdU lb n jj ja jf jg jb je jd jh jc jp jn =
 optO (C lb n Qaz [.list ja jf, .int .i64 jg]) fun jl =>
 optO (CV.asL jl) fun jo =>
 chkO (jo.2.all (·.length == 2)) (
 chkO (room (jn.length + jo.2.length) 24) (
 bif (decide ((je.length : Int) > 24)) then
 (chkO (room ((jn ++ jo.2).length + 1) 24) (
 QdO lb n jj ja jf jg jb je jd jh jc jp jn jl jo ((jp && jo.2.isEmpty) && false) ((jn ++ jo.2) ++ [[CV.int .i64 4,CV.str [115,101,103,115]]])))
 else
 (QdO lb n jj ja jf jg jb je jd jh jc jp jn jl jo (jp && jo.2.isEmpty) (jn ++ jo.2)))) := (Qab _).trans (by kernel_rfl)
theorem Qpi (lb n : Nat) (jj : LB) (ja : Bool) (jf : LL) (jg : Int) (jb : Bool) (je : LL) (jd : Bool) (jh : LL) (jc : Int) (yd : Bool) (yy : LL) :
 r35_Check_J1 lb n jj ja jf jg jb je jd jh jc yd yy =
 bif (decide (jc < 0)) then
 (chkO (room (yy.length + 1) 24) (
 QdU lb n jj ja jf jg jb je jd jh jc (yd && false) (yy ++ [[CV.int .i64 13,CV.str [108,105,109,105,116]]])))
 else
 (bif (decide (jc ≥ 52596000)) then
 (chkO (room (yy.length + 1) 24) (
 QdU lb n jj ja jf jg jb je jd jh jc (yd && false) (yy ++ [[CV.int .i64 13,CV.str [108,105,109,105,116]]])))
 else
 (QdU lb n jj ja jf jg jb je jd jh jc yd yy)) := (Qab _).trans (by kernel_rfl)
theorem Qtu (lb n : Nat) (jj : LB) (ja : Bool) (jf : LL) (jg : Int) (jb : Bool) (je : LL) (jd : Bool) (jh : LL) (jc : Int) :
 top lb n Qag [.agg [.str jj, .list ja jf, .int .i64 jg, .list jb je, .list jd jh, .int .i64 jc]] =
 optO (C lb n QiB [.str jj]) fun jx =>
 optO (CV.asB jx) fun kc =>
 bif (!kc) then
 (r35_Check_J1 lb n jj ja jf jg jb je jd jh jc false [[CV.int .i64 5,CV.str [108,111,99,97,116,111,114]]])
 else
 (r35_Check_J1 lb n jj ja jf jg jb je jd jh jc true []) := by kernel_rfl
theorem Qq3 (lb n : Nat) (a1 : LB) :
 top lb n QiB [.str a1] =
 optO (C lb n QbL [.str a1, .int .i64 6, .int .i64 6]) fun r2 =>
 some (r2) := by kernel_rfl
noncomputable def QfF (lb n vh : Nat) (jj : LB) (ja : Bool) (jf : LL) (jg : Int) (jb : Bool) (je : LL) (jd : Bool) (jh : LL) (jc : Int) (yd : Bool) (yy : LL) (wk : Int) : Option CV :=
 hold (Qaw (E0 lb n 0 994) 0 (Qah (sub (B Qbv) [1,1,0,1,0,0]) ++ []) [] (sub (B Qbv) [1,1,0,1,0,0]) (Qap 0 (seqK (E0 lb n 0 997) (sub (B Qbv) [1,1,0]) (sub (B Qbv) [1,1,1]) (retK Tryz.prog (R Qbv) 0 (outK (Qad Tryz.prog Qbv))))) vh ⟨fr 22 [(0, .val (.agg [.str jj, .list ja jf, .int .i64 jg, .list jb je, .list jd jh, .int .i64 jc])),(1, .ptr 0 1 0),(2, .lst true true 3 []),(3, .lst true yd 3 yy),(4,vI wk)],[bx 22 [(1,some [vS jj, .val (.list ja jf),vI jg, .val (.list jb je), .val (.list jd jh),vI jc])]],KK⟩)
noncomputable def Qlf (lb n : Nat) (jj : LB) (ja : Bool) (jf : LL) (jg : Int) (jb : Bool) (je : LL) (jd : Bool) (jh : LL) (jc : Int) (nH : Bool) (nU : LL) (ks : Int) : Option CV :=
 hold (E0 lb n 0 997 (sub (B Qbv) [1,1,1]) (retK Tryz.prog (R Qbv) 0 (outK (Qad Tryz.prog Qbv))) ⟨fr 22 [(0, .val (.agg [.str jj, .list ja jf, .int .i64 jg, .list jb je, .list jd jh, .int .i64 jc])),(1, .ptr 0 1 0),(2, .lst true true 3 []),(3, .lst true nH 3 nU),(4,vI ks)],[bx 22 [(1,some [vS jj, .val (.list ja jf),vI jg, .val (.list jb je), .val (.list jd jh),vI jc])]],KK⟩)
theorem Qoi (lb n : Nat) (jj : LB) (ja : Bool) (jf : LL) (jg : Int) (jb : Bool) (je : LL) (jd : Bool) (jh : LL) (jc : Int) (nH : Bool) (nU : LL) (ks : Int) :
 Qlf lb n jj ja jf jg jb je jd jh jc nH nU ks =
 some (.list nH nU) := (Qab _).trans (by kernel_rfl)
theorem Qhw (lb n vh : Nat) (jj : LB) (ja : Bool) (jf : LL) (jg : Int) (jb : Bool) (je : LL) (jd : Bool) (jh : LL) (jc : Int) (yd : Bool) (yy : LL) (wk : Int) :
 QfF lb n (vh + 1) jj ja jf jg jb je jd jh jc yd yy wk =
 bif (decide (wk < (je.length : Int))) then
 (optO (atL je wk) fun c20 =>
 chkO (c20.length == 10) (
 optO (c20[9]?) fun jV =>
 chkO (CV.isCell jV) (
 chkO (room (yy.length + 1) 8) (
 QfF lb n vh jj ja jf jg jb je jd jh jc (yd && false) (yy ++ [[jV]]) (IntKind.wrap .i64 (wk + 1))))))
 else
 (Qlf lb n jj ja jf jg jb je jd jh jc yd yy wk) := (Qab _).trans (by kernel_rfl)
theorem QrF (lb n : Nat) (jj : LB) (ja : Bool) (jf : LL) (jg : Int) (jb : Bool) (je : LL) (jd : Bool) (jh : LL) (jc : Int) :
 top lb n Qbv [.agg [.str jj, .list ja jf, .int .i64 jg, .list jb je, .list jd jh, .int .i64 jc]] =
 QfF lb n n jj ja jf jg jb je jd jh jc true [] 0 := by kernel_rfl
noncomputable def QdG (lb n : Nat) (awansegcar1 : LB) (awansegnum2 awansegday3 : Int) (awansegfro4 jm : LB) (awansegdep6 awansegarr7 : Int) (jr : LB) (ju jv : Int) (yA : Bool) (wL : LL) : Option CV :=
 hold (E0 lb n 0 996 (sub (B Qbt) [1,1,1,1]) (retK Tryz.prog (R Qbt) 0 (outK (Qad Tryz.prog Qbt))) ⟨fr 67 [(0, .val (.agg [.str awansegcar1, .int .i64 awansegnum2, .int .i64 awansegday3, .str awansegfro4, .str jm, .int .i64 awansegdep6, .int .i64 awansegarr7, .str jr, .int .i64 ju, .int .i64 jv])),(1, .ptr 0 1 0),(2, .lst true true 31 []),(3, .lst true yA 31 wL),(4, .ptr 0 4 0),(7, .ptr 0 1 0),(8, .ptr 0 1 0),(9, .val (.agg [.str awansegcar1, .int .i64 awansegnum2, .int .i64 awansegday3, .str awansegfro4, .str jm, .int .i64 awansegdep6, .int .i64 awansegarr7]))],[bx 67 [(1,some [vS awansegcar1,vI awansegnum2,vI awansegday3,vS awansegfro4,vS jm,vI awansegdep6,vI awansegarr7,vS jr,vI ju,vI jv]),(4,some [vS awansegcar1,vI awansegnum2,vI awansegday3,vS awansegfro4,vS jm,vI awansegdep6,vI awansegarr7])]],KK⟩)
noncomputable def QdE (lb n : Nat) (awansegcar1 : LB) (awansegnum2 awansegday3 : Int) (awansegfro4 jm : LB) (awansegdep6 awansegarr7 : Int) (jr : LB) (ju jv : Int) (kp : Bool) (vO : LL) : Option CV :=
 hold (E0 lb n 0 995 (sub (B Qbt) [1,1,1,1,1]) (retK Tryz.prog (R Qbt) 0 (outK (Qad Tryz.prog Qbt))) ⟨fr 67 [(0, .val (.agg [.str awansegcar1, .int .i64 awansegnum2, .int .i64 awansegday3, .str awansegfro4, .str jm, .int .i64 awansegdep6, .int .i64 awansegarr7, .str jr, .int .i64 ju, .int .i64 jv])),(1, .ptr 0 1 0),(2, .lst true true 31 []),(3, .lst true kp 31 vO),(4, .ptr 0 4 0),(7, .ptr 0 1 0),(8, .ptr 0 1 0),(9, .val (.agg [.str awansegcar1, .int .i64 awansegnum2, .int .i64 awansegday3, .str awansegfro4, .str jm, .int .i64 awansegdep6, .int .i64 awansegarr7]))],[bx 67 [(1,some [vS awansegcar1,vI awansegnum2,vI awansegday3,vS awansegfro4,vS jm,vI awansegdep6,vI awansegarr7,vS jr,vI ju,vI jv]),(4,some [vS awansegcar1,vI awansegnum2,vI awansegday3,vS awansegfro4,vS jm,vI awansegdep6,vI awansegarr7])]],KK⟩)
noncomputable def QfI (lb n : Nat) (awansegcar1 : LB) (awansegnum2 awansegday3 : Int) (awansegfro4 jm : LB) (awansegdep6 awansegarr7 : Int) (jr : LB) (ju jv : Int) (vH : Bool) (vM : LL) : Option CV :=
 hold (E0 lb n 0 994 (sub (B Qbt) [1,1,1,1,1,1]) (retK Tryz.prog (R Qbt) 0 (outK (Qad Tryz.prog Qbt))) ⟨fr 67 [(0, .val (.agg [.str awansegcar1, .int .i64 awansegnum2, .int .i64 awansegday3, .str awansegfro4, .str jm, .int .i64 awansegdep6, .int .i64 awansegarr7, .str jr, .int .i64 ju, .int .i64 jv])),(1, .ptr 0 1 0),(2, .lst true true 31 []),(3, .lst true vH 31 vM),(4, .ptr 0 4 0),(7, .ptr 0 1 0),(8, .ptr 0 1 0),(9, .val (.agg [.str awansegcar1, .int .i64 awansegnum2, .int .i64 awansegday3, .str awansegfro4, .str jm, .int .i64 awansegdep6, .int .i64 awansegarr7]))],[bx 67 [(1,some [vS awansegcar1,vI awansegnum2,vI awansegday3,vS awansegfro4,vS jm,vI awansegdep6,vI awansegarr7,vS jr,vI ju,vI jv]),(4,some [vS awansegcar1,vI awansegnum2,vI awansegday3,vS awansegfro4,vS jm,vI awansegdep6,vI awansegarr7])]],KK⟩)
theorem Qn9 (lb n : Nat) (awansegcar1 : LB) (awansegnum2 awansegday3 : Int) (awansegfro4 jm : LB) (awansegdep6 awansegarr7 : Int) (jr : LB) (ju jv : Int) (vH : Bool) (vM : LL) :
 QfI lb n awansegcar1 awansegnum2 awansegday3 awansegfro4 jm awansegdep6 awansegarr7 jr ju jv vH vM =
 optO (C lb n Qja [.int .i64 ju]) fun jq =>
 optO (CV.asT jq) fun oB =>
 optO (oB[0]?) fun jH =>
 optO (CV.asT jq) fun mq =>
 optO (mq[1]?) fun jX =>
 optO (CV.asI .i64 jX) fun vN =>
 bif (vN != 0) then
 (chkO (room (vM.length + 1) 8) (
 some (.list (vH && false) (vM ++ [[CV.int .i64 10]]))))
 else
 (some (.list vH vM)) := (Qab _).trans (by kernel_rfl)
theorem Qn4 (lb n : Nat) (awansegcar1 : LB) (awansegnum2 awansegday3 : Int) (awansegfro4 jm : LB) (awansegdep6 awansegarr7 : Int) (jr : LB) (ju jv : Int) (kp : Bool) (vO : LL) :
 QdE lb n awansegcar1 awansegnum2 awansegday3 awansegfro4 jm awansegdep6 awansegarr7 jr ju jv kp vO =
 optO (C lb n Qkw [.str jr]) fun jt =>
 optO (CV.asB jt) fun yW =>
 bif (!yW) then
 (chkO (room (vO.length + 1) 8) (
 QfI lb n awansegcar1 awansegnum2 awansegday3 awansegfro4 jm awansegdep6 awansegarr7 jr ju jv (kp && false) (vO ++ [[CV.int .i64 16]])))
 else
 (QfI lb n awansegcar1 awansegnum2 awansegday3 awansegfro4 jm awansegdep6 awansegarr7 jr ju jv kp vO) := (Qab _).trans (by kernel_rfl)
theorem Qn5 (lb n : Nat) (awansegcar1 : LB) (awansegnum2 awansegday3 : Int) (awansegfro4 jm : LB) (awansegdep6 awansegarr7 : Int) (jr : LB) (ju jv : Int) (yA : Bool) (wL : LL) :
 QdG lb n awansegcar1 awansegnum2 awansegday3 awansegfro4 jm awansegdep6 awansegarr7 jr ju jv yA wL =
 bif (decide (awansegdep6 < 0)) then
 (chkO (room (wL.length + 1) 8) (
 QdE lb n awansegcar1 awansegnum2 awansegday3 awansegfro4 jm awansegdep6 awansegarr7 jr ju jv (yA && false) (wL ++ [[CV.int .i64 13]])))
 else
 (bif (decide (awansegarr7 ≤ awansegdep6)) then
 (chkO (room (wL.length + 1) 8) (
 QdE lb n awansegcar1 awansegnum2 awansegday3 awansegfro4 jm awansegdep6 awansegarr7 jr ju jv (yA && false) (wL ++ [[CV.int .i64 13]])))
 else
 (bif (decide (awansegarr7 ≥ 52596000)) then
 (chkO (room (wL.length + 1) 8) (
 QdE lb n awansegcar1 awansegnum2 awansegday3 awansegfro4 jm awansegdep6 awansegarr7 jr ju jv (yA && false) (wL ++ [[CV.int .i64 13]])))
 else
 (QdE lb n awansegcar1 awansegnum2 awansegday3 awansegfro4 jm awansegdep6 awansegarr7 jr ju jv yA wL))) := (Qab _).trans (by kernel_rfl)
theorem Qrk (lb n : Nat) (awansegcar1 : LB) (awansegnum2 awansegday3 : Int) (awansegfro4 jm : LB) (awansegdep6 awansegarr7 : Int) (jr : LB) (ju jv : Int) :
 top lb n Qbt [.agg [.str awansegcar1, .int .i64 awansegnum2, .int .i64 awansegday3, .str awansegfro4, .str jm, .int .i64 awansegdep6, .int .i64 awansegarr7, .str jr, .int .i64 ju, .int .i64 jv]] =
 optO (C lb n QiJ [.str awansegcar1]) fun yL =>
 optO (CV.asB yL) fun yd =>
 bif (!yd) then
 (QdG lb n awansegcar1 awansegnum2 awansegday3 awansegfro4 jm awansegdep6 awansegarr7 jr ju jv false [[CV.int .i64 5]])
 else
 (optO (C lb n Qgd [.str awansegfro4]) fun o8 =>
 optO (CV.asB o8) fun ki =>
 bif (!ki) then
 (QdG lb n awansegcar1 awansegnum2 awansegday3 awansegfro4 jm awansegdep6 awansegarr7 jr ju jv false [[CV.int .i64 5]])
 else
 (optO (C lb n Qgd [.str jm]) fun qH =>
 optO (CV.asB qH) fun pi =>
 bif (!pi) then
 (QdG lb n awansegcar1 awansegnum2 awansegday3 awansegfro4 jm awansegdep6 awansegarr7 jr ju jv false [[CV.int .i64 5]])
 else
 (QdG lb n awansegcar1 awansegnum2 awansegday3 awansegfro4 jm awansegdep6 awansegarr7 jr ju jv true []))) := by kernel_rfl
noncomputable def Qeq (lb n v7 : Nat) (jk : Bool) (a2 : LL) (b3 : Int) (kx : Bool) (vT : LL) (ym : Int) : Option CV :=
 hold (Qaw (E0 lb n 0 994) 0 (Qah (sub (B Qaz) [1,1,0,1,0,0]) ++ [7]) [] (sub (B Qaz) [1,1,0,1,0,0]) (Qap 0 (seqK (E0 lb n 0 997) (sub (B Qaz) [1,1,0]) (sub (B Qaz) [1,1,1]) (retK Tryz.prog (R Qaz) 0 (outK (Qad Tryz.prog Qaz))))) v7 ⟨fr 82 [(0, .val (.list jk a2)),(1,vI b3),(4, .lst true true 61 []),(5, .lst true kx 61 vT),(6,vI ym)],[bx 82 []],KK⟩)
noncomputable def Qhh (lb n v7 : Nat) (jk : Bool) (a2 : LL) (b3 ym : Int) (vX : LB) (o0 : CV) (kk : Bool) (gq : LL) : Option CV :=
 hold (E0 lb n 0 989 (sub (B Qaz) [1,1,0,1,0,0,1,0,0,1,1]) (Qap 1 (seqK (E0 lb n 0 992) (sub (B Qaz) [1,1,0,1,0,0,1,0]) (sub (B Qaz) [1,1,0,1,0,0,1,1]) (Qdv 0 (Qah (sub (B Qaz) [1,1,0,1,0,0]) ++ [7]) [] (Qaw (E0 lb n 0 994) 0 (Qah (sub (B Qaz) [1,1,0,1,0,0]) ++ [7]) [] (sub (B Qaz) [1,1,0,1,0,0]) (Qap 0 (seqK (E0 lb n 0 997) (sub (B Qaz) [1,1,0]) (sub (B Qaz) [1,1,1]) (retK Tryz.prog (R Qaz) 0 (outK (Qad Tryz.prog Qaz))))) v7) (Qap 0 (seqK (E0 lb n 0 997) (sub (B Qaz) [1,1,0]) (sub (B Qaz) [1,1,1]) (retK Tryz.prog (R Qaz) 0 (outK (Qad Tryz.prog Qaz)))))))) ⟨fr 82 [(0, .val (.list jk a2)),(1,vI b3),(4, .lst true true 61 []),(5, .lst true kk 61 gq),(6,vI ym),(7, .val (.str (([112,101,114,115,111,110,32] : LB) ++ vX))),(15,vI ym),(16,vV o0),(17, .val (.str (([112,101,114,115,111,110,32] : LB) ++ vX)))],[bx 82 []],KK⟩)
theorem QqJ (lb n v7 : Nat) (jk : Bool) (a2 : LL) (b3 ym : Int) (vX : LB) (o0 : CV) (kk : Bool) (gq : LL) :
 Qhh lb n v7 jk a2 b3 ym vX o0 kk gq =
 optO (atL a2 ym) fun n8 =>
 chkO (n8.length == 3) (
 optO (n8[0]?) fun pc =>
 optO (n8[1]?) fun qs =>
 optO (n8[2]?) fun pk =>
 optO (C lb n Qf7 [.agg [pc,qs,pk]]) fun pY =>
 optO (CV.asB pY) fun qG =>
 bif (!qG) then
 (chkO (room (gq.length + 1) 24) (
 Qeq lb n v7 jk a2 b3 (kk && false) (gq ++ [[CV.int .i64 8,CV.str (([112,101,114,115,111,110,32] : LB) ++ vX)]]) (IntKind.wrap .i64 (ym + 1))))
 else
 (Qeq lb n v7 jk a2 b3 kk gq (IntKind.wrap .i64 (ym + 1)))) := (Qab _).trans (by kernel_rfl)
noncomputable def QjL (lb n : Nat) (jk : Bool) (a2 : LL) (b3 : Int) (go : Bool) (ot : LL) (yK : Int) : Option CV :=
 hold (E0 lb n 0 997 (sub (B Qaz) [1,1,1]) (retK Tryz.prog (R Qaz) 0 (outK (Qad Tryz.prog Qaz))) ⟨fr 82 [(0, .val (.list jk a2)),(1,vI b3),(4, .lst true true 61 []),(5, .lst true go 61 ot),(6,vI yK)],[bx 82 []],KK⟩)
noncomputable def Qfd (lb n : Nat) (jk : Bool) (a2 : LL) (yK i80 : Int) (kX : Bool) (vJ : LL) : Option CV :=
 hold (E0 lb n 0 996 (sub (B Qaz) [1,1,1,1]) (retK Tryz.prog (R Qaz) 0 (outK (Qad Tryz.prog Qaz))) ⟨fr 82 [(0, .val (.list jk a2)),(1,vI i80),(4, .lst true true 61 []),(5, .lst true kX 61 vJ),(6,vI yK)],[bx 82 []],KK⟩)
noncomputable def Qci (lb n : Nat) (jk : Bool) (a2 : LL) (i80 yK : Int) (mA : Bool) (gu : LL) : Option CV :=
 hold (E0 lb n 0 994 (sub (B Qaz) [1,1,1,1,1,1]) (retK Tryz.prog (R Qaz) 0 (outK (Qad Tryz.prog Qaz))) ⟨fr 82 [(0, .val (.list jk a2)),(1,vI i80),(4, .lst true true 61 []),(5, .lst true mA 61 gu),(6,vI yK),(8, .val (.int .i64 (a2.length : Int))),(50, .val (.list jk a2)),(51, .val (.int .i64 (a2.length : Int)))],[bx 82 []],KK⟩)
theorem Qp6 (lb n : Nat) (jk : Bool) (a2 : LL) (i80 yK : Int) (mA : Bool) (gu : LL) :
 Qci lb n jk a2 i80 yK mA gu =
 optO (C lb n Qco [.list jk a2]) fun qK =>
 optO (CV.asB qK) fun pZ =>
 bif (!pZ) then
 (chkO (room (gu.length + 1) 24) (
 some (.list (mA && false) (gu ++ [[CV.int .i64 25,CV.str [112,97,114,116,121]]]))))
 else
 (some (.list mA gu)) := (Qab _).trans (by kernel_rfl)
theorem QpD (lb n : Nat) (jk : Bool) (a2 : LL) (yK i80 : Int) (kX : Bool) (vJ : LL) :
 Qfd lb n jk a2 yK i80 kX vJ =
 bif ((IntKind.wrap .i64 ((a2.length : Int) + i80)) == 0) then
 (chkO (room (vJ.length + 1) 24) (
 Qci lb n jk a2 i80 yK (kX && false) (vJ ++ [[CV.int .i64 4,CV.str [112,97,114,116,121]]])))
 else
 (bif (i80 == 0) then
 (bif (decide ((a2.length : Int) > 9)) then
 (chkO (room (vJ.length + 1) 24) (
 Qci lb n jk a2 i80 yK (kX && false) (vJ ++ [[CV.int .i64 4,CV.str [112,97,114,116,121]]])))
 else
 (bif (decide ((IntKind.wrap .i64 ((a2.length : Int) + i80)) > 99)) then
 (chkO (room (vJ.length + 1) 24) (
 Qci lb n jk a2 i80 yK (kX && false) (vJ ++ [[CV.int .i64 4,CV.str [112,97,114,116,121]]])))
 else
 (Qci lb n jk a2 i80 yK kX vJ)))
 else
 (bif (decide ((IntKind.wrap .i64 ((a2.length : Int) + i80)) > 99)) then
 (chkO (room (vJ.length + 1) 24) (
 Qci lb n jk a2 i80 yK (kX && false) (vJ ++ [[CV.int .i64 4,CV.str [112,97,114,116,121]]])))
 else
 (Qci lb n jk a2 i80 yK kX vJ))) := (Qab _).trans (by kernel_rfl)
theorem QgU (lb n : Nat) (jk : Bool) (a2 : LL) (b3 : Int) (go : Bool) (ot : LL) (yK : Int) :
 QjL lb n jk a2 b3 go ot yK =
 bif (decide (b3 < 0)) then
 (chkO (room (ot.length + 1) 24) (
 Qfd lb n jk a2 yK 0 (go && false) (ot ++ [[CV.int .i64 2,CV.str [112,97,114,116,121]]])))
 else
 (bif (decide (b3 > 99)) then
 (chkO (room (ot.length + 1) 24) (
 Qfd lb n jk a2 yK 0 (go && false) (ot ++ [[CV.int .i64 2,CV.str [112,97,114,116,121]]])))
 else
 (Qfd lb n jk a2 yK b3 go ot)) := (Qab _).trans (by kernel_rfl)
theorem QiW (lb n v7 : Nat) (jk : Bool) (a2 : LL) (b3 : Int) (kx : Bool) (vT : LL) (ym : Int) :
 Qeq lb n (v7 + 1) jk a2 b3 kx vT ym =
 bif (decide (ym < (a2.length : Int))) then
 (optO (C lb n Qdn [.int .i64 ym]) fun o0 =>
 optO (CV.asS o0) fun vX =>
 chkO (decide (([112,101,114,115,111,110,32] : LB).length + vX.length ≤ 9223372036854775807)) (
 optO (atL a2 ym) fun oP =>
 chkO (oP.length == 3) (
 optO (oP[0]?) fun wn =>
 optO (oP[1]?) fun tF =>
 optO (oP[2]?) fun rq =>
 optO (C lb n Qf6 [.agg [wn,tF,rq]]) fun ul =>
 optO (CV.asB ul) fun rT =>
 bif (!rT) then
 (chkO (room (vT.length + 1) 24) (
 Qhh lb n v7 jk a2 b3 ym vX o0 (kx && false) (vT ++ [[CV.int .i64 5,CV.str (([112,101,114,115,111,110,32] : LB) ++ vX)]])))
 else
 (Qhh lb n v7 jk a2 b3 ym vX o0 kx vT))))
 else
 (QjL lb n jk a2 b3 kx vT ym) := (Qab _).trans (by kernel_rfl)
theorem Qte (lb n : Nat) (jk : Bool) (a2 : LL) (b3 : Int) :
 top lb n Qaz [.list jk a2, .int .i64 b3] =
 Qeq lb n n jk a2 b3 true [] 0 := by kernel_rfl
theorem QtQ (lb n : Nat) (wq wA wG : LB) :
 top lb n Qf6 [.agg [.str wq, .str wA, .str wG]] =
 optO (C lb n Qb5 [.str wq]) fun r4 =>
 optO (CV.asB r4) fun b5 =>
 bif b5 then
 (optO (C lb n Qb5 [.str wA]) fun r6 =>
 some (r6))
 else
 (some (.bool false)) := by kernel_rfl
theorem QtJ (lb n : Nat) (wq wA wG : LB) :
 top lb n Qf7 [.agg [.str wq, .str wA, .str wG]] =
 optO (C lb n QbL [.str wG, .int .i64 3, .int .i64 3]) fun r4 =>
 some (r4) := by kernel_rfl
noncomputable def QeZ (lb n gz : Nat) (jk : Bool) (a2 : LL) (wk wO w8 : Int) : Option CV :=
 hold (Qaw (E0 lb n 0 994) 0 (Qah (sub (B Qco) [1,1,0,1,0,0]) ++ []) [] (sub (B Qco) [1,1,0,1,0,0]) (Qap 0 (seqK (E0 lb n 0 997) (sub (B Qco) [1,1,0]) (sub (B Qco) [1,1,1]) (retK Tryz.prog (R Qco) 0 (outK (Qad Tryz.prog Qco))))) gz ⟨fr 31 [(0, .val (.list jk a2)),(2,vB false),(3,vI wk),(4,vI wO),(5,vI w8)],[bx 31 []],KK⟩)
noncomputable def Qoy (lb n : Nat) (jk : Bool) (a2 : LL) (kw vo mi : Int) : Option CV :=
 hold (E0 lb n 0 997 (sub (B Qco) [1,1,1]) (retK Tryz.prog (R Qco) 0 (outK (Qad Tryz.prog Qco))) ⟨fr 31 [(0, .val (.list jk a2)),(2,vB false),(3,vI kw),(4,vI vo),(5,vI mi)],[bx 31 []],KK⟩)
theorem Qrr (lb n : Nat) (jk : Bool) (a2 : LL) (kw vo mi : Int) :
 Qoy lb n jk a2 kw vo mi =
 some (.bool (decide (kw ≤ vo))) := (Qab _).trans (by kernel_rfl)
theorem Qjo (lb n gz : Nat) (jk : Bool) (a2 : LL) (wk wO w8 : Int) :
 QeZ lb n (gz + 1) jk a2 wk wO w8 =
 bif (decide (w8 < (a2.length : Int))) then
 (optO (atL a2 w8) fun vt =>
 chkO (vt.length == 3) (
 optO (vt[2]?) fun jX =>
 optO (CV.asS jX) fun uk =>
 bif (uk == [73,78,70]) then
 (QeZ lb n gz jk a2 (IntKind.wrap .i64 (wk + 1)) wO (IntKind.wrap .i64 (w8 + 1)))
 else
 (optO (atL a2 w8) fun gA =>
 chkO (gA.length == 3) (
 optO (gA[2]?) fun j6 =>
 optO (CV.asS j6) fun tC =>
 bif (!(tC == [67,72,68])) then
 (QeZ lb n gz jk a2 wk (IntKind.wrap .i64 (wO + 1)) (IntKind.wrap .i64 (w8 + 1)))
 else
 (QeZ lb n gz jk a2 wk wO (IntKind.wrap .i64 (w8 + 1)))))))
 else
 (Qoy lb n jk a2 wk wO w8) := (Qab _).trans (by kernel_rfl)
theorem QuO (lb n : Nat) (jk : Bool) (a2 : LL) :
 top lb n Qco [.list jk a2] =
 QeZ lb n n jk a2 0 0 0 := by kernel_rfl
noncomputable def Qhe (lb n vr : Nat) (jk : Bool) (a2 : LL) (i6 : Int) : Option CV :=
 hold (Qaw (E0 lb n 0 995) 0 (Qah (sub (B Qao) [1,0,1,0,0]) ++ []) [] (sub (B Qao) [1,0,1,0,0]) (Qap 0 (seqK (E0 lb n 0 998) (sub (B Qao) [1,0]) (sub (B Qao) [1,1]) (retK Tryz.prog (R Qao) 0 (outK (Qad Tryz.prog Qao))))) vr ⟨fr 70 [(0, .val (.list jk a2)),(2,vI 0),(3,vI i6)],[bx 70 []],KK⟩)
noncomputable def Qm9 (lb n : Nat) (jk : Bool) (a2 : LL) (wk : Int) : Option CV :=
 hold (E0 lb n 0 998 (sub (B Qao) [1,1]) (retK Tryz.prog (R Qao) 0 (outK (Qad Tryz.prog Qao))) ⟨fr 70 [(0, .val (.list jk a2)),(2,vI 0),(3,vI wk)],[bx 70 []],KK⟩)
noncomputable def Qfs (lb n yl : Nat) (jk : Bool) (a2 : LL) (wk w5 : Int) : Option CV :=
 hold (Qaw (E0 lb n 0 994) 0 (Qah (sub (B Qao) [1,1,0,1,0,0]) ++ [5,5]) [] (sub (B Qao) [1,1,0,1,0,0]) (Qap 2 (seqK (E0 lb n 0 997) (sub (B Qao) [1,1,0]) (sub (B Qao) [1,1,1]) (retK Tryz.prog (R Qao) 0 (outK (Qad Tryz.prog Qao))))) yl ⟨fr 70 [(0, .val (.list jk a2)),(2,vI 0),(3,vI wk),(4,vI w5)],[bx 70 []],KK⟩)
noncomputable def QdR (lb n oa yl : Nat) (jk : Bool) (a2 : LL) (wk w5 vC : Int) : Option CV :=
 hold (Qaw (E0 lb n 0 987) 0 (Qah (sub (B Qao) [1,1,0,1,0,0,1,0,0,1,1,0,0]) ++ []) [] (sub (B Qao) [1,1,0,1,0,0,1,0,0,1,1,0,0]) (Qap 4 (Qap 3 (seqK (E0 lb n 0 992) (sub (B Qao) [1,1,0,1,0,0,1,0]) (sub (B Qao) [1,1,0,1,0,0,1,1]) (Qdv 0 (Qah (sub (B Qao) [1,1,0,1,0,0]) ++ [5,5]) [] (Qaw (E0 lb n 0 994) 0 (Qah (sub (B Qao) [1,1,0,1,0,0]) ++ [5,5]) [] (sub (B Qao) [1,1,0,1,0,0]) (Qap 2 (seqK (E0 lb n 0 997) (sub (B Qao) [1,1,0]) (sub (B Qao) [1,1,1]) (retK Tryz.prog (R Qao) 0 (outK (Qad Tryz.prog Qao))))) yl) (Qap 2 (seqK (E0 lb n 0 997) (sub (B Qao) [1,1,0]) (sub (B Qao) [1,1,1]) (retK Tryz.prog (R Qao) 0 (outK (Qad Tryz.prog Qao))))))))) oa ⟨fr 70 [(0, .val (.list jk a2)),(2,vI 0),(3,vI wk),(4,vI w5),(5,vI vC),(34,vI w5),(35, .val (.int .i64 (IntKind.wrap .i64 (w5 + 2))))],[bx 70 []],KK⟩)
noncomputable def QmI (lb n yl : Nat) (jk : Bool) (a2 : LL) (wk w5 mL : Int) : Option CV :=
 hold (E0 lb n 0 992 (sub (B Qao) [1,1,0,1,0,0,1,1]) (Qdv 0 (Qah (sub (B Qao) [1,1,0,1,0,0]) ++ [5,5]) [] (Qaw (E0 lb n 0 994) 0 (Qah (sub (B Qao) [1,1,0,1,0,0]) ++ [5,5]) [] (sub (B Qao) [1,1,0,1,0,0]) (Qap 2 (seqK (E0 lb n 0 997) (sub (B Qao) [1,1,0]) (sub (B Qao) [1,1,1]) (retK Tryz.prog (R Qao) 0 (outK (Qad Tryz.prog Qao))))) yl) (Qap 2 (seqK (E0 lb n 0 997) (sub (B Qao) [1,1,0]) (sub (B Qao) [1,1,1]) (retK Tryz.prog (R Qao) 0 (outK (Qad Tryz.prog Qao)))))) ⟨fr 70 [(0, .val (.list jk a2)),(2,vI 0),(3,vI wk),(4,vI w5),(5,vI mL)],[bx 70 []],KK⟩)
theorem QpH (lb n yl : Nat) (jk : Bool) (a2 : LL) (wk w5 mL : Int) :
 QmI lb n yl jk a2 wk w5 mL =
 Qfs lb n yl jk a2 wk (IntKind.wrap .i64 (w5 + 1)) := (Qab _).trans (by kernel_rfl)
theorem QiT (lb n oa yl : Nat) (jk : Bool) (a2 : LL) (wk w5 vC : Int) :
 QdR lb n (oa + 1) yl jk a2 wk w5 vC =
 bif (decide (vC < (a2.length : Int))) then
 (optO (atL a2 w5) fun ql =>
 chkO (ql.length == 1) (
 optO (ql[0]?) fun zZ =>
 optO (CV.asI .i64 zZ) fun zH =>
 bif (decide (zH > 0)) then
 (optO (atL a2 vC) fun pH =>
 chkO (pH.length == 1) (
 optO (pH[0]?) fun zC =>
 optO (atL a2 w5) fun qj =>
 chkO (qj.length == 1) (
 optO (qj[0]?) fun lH =>
 optO (CV.asI .i64 zC) fun l4 =>
 optO (CV.asI .i64 lH) fun s9 =>
 bif (l4 == s9) then
 (optO (atL a2 (IntKind.wrap .i64 (vC - 1))) fun pC =>
 chkO (pC.length == 1) (
 optO (pC[0]?) fun lk =>
 optO (atL a2 w5) fun pO =>
 chkO (pO.length == 1) (
 optO (pO[0]?) fun lg =>
 optO (CV.asI .i64 lk) fun sr =>
 optO (CV.asI .i64 lg) fun zL =>
 bif (sr != zL) then
 (some (.int .i64 18))
 else
 (QdR lb n oa yl jk a2 wk w5 (IntKind.wrap .i64 (vC + 1))))))
 else
 (QdR lb n oa yl jk a2 wk w5 (IntKind.wrap .i64 (vC + 1))))))
 else
 (QdR lb n oa yl jk a2 wk w5 (IntKind.wrap .i64 (vC + 1)))))
 else
 (QmI lb n yl jk a2 wk w5 vC) := (Qab _).trans (by kernel_rfl)
noncomputable def Qnf (lb n : Nat) (jk : Bool) (a2 : LL) (wk m6 : Int) : Option CV :=
 hold (E0 lb n 0 997 (sub (B Qao) [1,1,1]) (retK Tryz.prog (R Qao) 0 (outK (Qad Tryz.prog Qao))) ⟨fr 70 [(0, .val (.list jk a2)),(2,vI 0),(3,vI wk),(4,vI m6)],[bx 70 []],KK⟩)
theorem QpK (lb n : Nat) (jk : Bool) (a2 : LL) (wk m6 : Int) :
 Qnf lb n jk a2 wk m6 =
 some (.int .i64 0) := (Qab _).trans (by kernel_rfl)
theorem QiL (lb n yl : Nat) (jk : Bool) (a2 : LL) (wk w5 : Int) :
 Qfs lb n (yl + 1) jk a2 wk w5 =
 bif (decide (w5 < (a2.length : Int))) then
 (optO (atL a2 w5) fun qi =>
 chkO (qi.length == 1) (
 optO (qi[0]?) fun zf =>
 optO (CV.asI .i64 zf) fun sA =>
 bif (decide (sA > 0)) then
 (optO (C lb n Qd5 [.list jk a2, .int .i64 w5]) fun zQ =>
 optO (CV.asB zQ) fun zm =>
 bif (!zm) then
 (some (.int .i64 18))
 else
 (QdR lb n n yl jk a2 wk w5 (IntKind.wrap .i64 (w5 + 2))))
 else
 (QdR lb n n yl jk a2 wk w5 (IntKind.wrap .i64 (w5 + 2)))))
 else
 (Qnf lb n jk a2 wk w5) := (Qab _).trans (by kernel_rfl)
theorem Qqz (lb n : Nat) (jk : Bool) (a2 : LL) (wk : Int) :
 Qm9 lb n jk a2 wk =
 Qfs lb n n jk a2 wk 0 := (Qab _).trans (by kernel_rfl)
theorem QiN (lb n vr : Nat) (jk : Bool) (a2 : LL) (i6 : Int) :
 Qhe lb n (vr + 1) jk a2 i6 =
 bif (decide (i6 < (a2.length : Int))) then
 (optO (atL a2 i6) fun vZ =>
 chkO (vZ.length == 1) (
 optO (vZ[0]?) fun ky =>
 optO (CV.asI .i64 ky) fun yO =>
 bif (decide (yO < 0)) then
 (some (.int .i64 2))
 else
 (Qhe lb n vr jk a2 (IntKind.wrap .i64 (i6 + 1)))))
 else
 (Qm9 lb n jk a2 i6) := (Qab _).trans (by kernel_rfl)
theorem Qut (lb n : Nat) (jk : Bool) (a2 : LL) :
 top lb n Qao [.list jk a2] =
 Qhe lb n n jk a2 0 := by kernel_rfl
theorem QoS (lb n : Nat) (jk : Bool) (a2 : LL) (b3 : Int) :
 top lb n Qd5 [.list jk a2, .int .i64 b3] =
 bif (decide (b3 > 0)) then
 (optO (atL a2 (IntKind.wrap .i64 (b3 - 1))) fun c4 =>
 chkO (c4.length == 1) (
 optO (c4[0]?) fun x5 =>
 optO (atL a2 b3) fun c6 =>
 chkO (c6.length == 1) (
 optO (c6[0]?) fun x7 =>
 optO (CV.asI .i64 x5) fun i9 =>
 optO (CV.asI .i64 x7) fun gp =>
 bif (i9 == gp) then
 (some (.bool true))
 else
 (bif (decide ((IntKind.wrap .i64 (b3 + 1)) < (a2.length : Int))) then
 (optO (atL a2 (IntKind.wrap .i64 (b3 + 1))) fun vW =>
 chkO (vW.length == 1) (
 optO (vW[0]?) fun pw =>
 optO (atL a2 b3) fun kv =>
 chkO (kv.length == 1) (
 optO (kv[0]?) fun vG =>
 optO (CV.asI .i64 pw) fun wk =>
 optO (CV.asI .i64 vG) fun wO =>
 some (.bool (wk == wO)))))
 else
 (some (.bool false))))))
 else
 (bif (decide ((IntKind.wrap .i64 (b3 + 1)) < (a2.length : Int))) then
 (optO (atL a2 (IntKind.wrap .i64 (b3 + 1))) fun sa =>
 chkO (sa.length == 1) (
 optO (sa[0]?) fun kT =>
 optO (atL a2 b3) fun c20 =>
 chkO (c20.length == 1) (
 optO (c20[0]?) fun jV =>
 optO (CV.asI .i64 kT) fun ry =>
 optO (CV.asI .i64 jV) fun rU =>
 some (.bool (ry == rU)))))
 else
 (some (.bool false))) := by kernel_rfl
theorem QuX (lb n : Nat) (a1 : Int) :
 top lb n Qja [.int .i64 a1] =
 bif (decide (a1 ≤ 0)) then
 (some (.tup [.str [], .int .i64 8]))
 else
 (bif (decide (a1 > 7)) then
 (some (.tup [.str [], .int .i64 8]))
 else
 (optO (C lb n QkK []) fun r2 =>
 optO (CV.asL r2) fun p3 =>
 optO (atL p3.2 a1) fun c4 =>
 chkO (c4.length == 1) (
 optO (c4[0]?) fun x5 =>
 some (.tup [x5, .int .i64 0])))) := by kernel_rfl
theorem Quu (lb n : Nat)  :
 top lb n QkK [] =
 some (.list false [[CV.str []],[CV.str [72,75]],[CV.str [72,76]],[CV.str [75,76]],[CV.str [84,75]],[CV.str [85,78]],[CV.str [85,67]],[CV.str [88,88]]]) := by kernel_rfl
end Go.Proofs
