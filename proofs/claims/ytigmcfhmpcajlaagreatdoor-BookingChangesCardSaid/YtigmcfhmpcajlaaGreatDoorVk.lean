/- Equations of functions, printed by program. Conditions: none. -/
import Derived.Test.YtigmcfhmpcajlaaGreatDoorEk
namespace Go.Proofs.K2
open Go.Am
set_option maxRecDepth 100000
set_option linter.unusedVariables false
noncomputable def l35_BookingChanges_L1:=
 fun lb n (yX:Nat) jj (jb:Bool) (jf:LL) jg (je:Bool) (ja:LL) (jd:Bool) (jh:LL) jc jn jo jX oN mB gI me mz mA mr mC gp pT=>
 hold (Qax (E0 lb n 0 988) 0 (Qak (sub (B Qaa) [1,1,1,1,1,1,1,1,0,1,0,0])++ []) [] (sub (B Qaa) [1,1,1,1,1,1,1,1,0,1,0,0]) (Qam 0 (seqK (E0 lb n 0 991) (sub (B Qaa) [1,1,1,1,1,1,1,1,0]) (sub (B Qaa) [1,1,1,1,1,1,1,1,1]) (retK Tryz.prog (R Qaa) 0 (outK (Qae Tryz.prog Qaa))))) yX ⟨fr 101 [(0, .val (.agg [.str jj, .list jb jf, .int .i64 jg, .list je ja, .list jd jh, .int .i64 jc])),(1,vI jn),(2,vI jo),(3, .ptr 0 3 0),(6,vB false),(7, .ptr 0 7 0),(8, .ptr 0 8 0),(9, .val (.list true [])),(10,vV jX),(11, .ptr 0 11 0),(12,vV oN),(13,vV mB),(14,vI 0),(25, .val (.agg [.str jj, .list jb jf, .int .i64 jg, .list je ja, .list jd jh, .int .i64 jc])),(26, .val (.list false [])),(27, .ptr 0 3 3),(28, .val (.list je ja)),(29, .val (.list false ja)),(30, .ptr 0 7 3),(31, .val (.tup [.agg [.str [], .list true [], .int .i64 0, .list true [], .list true [], .int .i64 0], .list true [],jX])),(32, .val (.agg [.str jj, .list jb jf, .int .i64 jg, .list je ja, .list jd jh, .int .i64 jc])),(33,vI jn),(34,vI jo),(35, .val (.tup [.agg [.str [], .list true [], .int .i64 0, .list true [], .list true [], .int .i64 0], .list true [],jX])),(36, .val (.agg [.str [], .list true [], .int .i64 0, .list true [], .list true [], .int .i64 0])),(37, .val (.list true [])),(38,vV jX),(39,vV gI),(40, .val (.agg [.str jj, .list jb jf, .int .i64 jg, .list je ja, .list jd jh, .int .i64 jc])),(41,vI jn),(42,vI jo),(43,vV gI),(44,vV me),(45,vV oN),(46,vV mB)],[bx 103 [(3,some [vS jj, .val (.list jb jf),vI jg, .val (.list je ja), .val (.list jd jh),vI jc]),(7,some [vS jj, .val (.list jb jf),vI jg, .lst true false 39 ja, .val (.list jd jh),vI jc]),(8,some [.val (.str []), .val (.list true []),vI 0, .val (.list true []), .val (.list true []),vI 0]),(11,some [.val mz, .val mA, .val mr, .val mC, .val gp, .val pT]),(101,some [vS jj, .val (.list jb jf),vI jg, .val (.list je ja), .val (.list jd jh),vI jc]),(102,some [.val (.str []), .lst true true 89 [],vI 0, .lst true true 39 [], .lst true true 70 [],vI 0])]],KK⟩)
noncomputable def Qdg (lb n:Nat) (jj:LB) (jb:Bool) (jf:LL) (jg:Int) (je:Bool) (ja:LL) (jd:Bool) (jh:LL) (jc jn jo:Int) (wh jX:CV) (wN:Bool) (wC:LL) (va vd yk:CV):Option CV:=
 hold (E1 lb n 1 995 (sub (B Qav) [1,1,1,1,1]) (retL Tryz.prog (R Qav) 1 (inlK (opAt (Qc3 (sub (B Qaa) [1,1,1,1,0])) 3) ⟨fr 101 [(0, .val (.agg [.str jj, .list jb jf, .int .i64 jg, .list je ja, .list jd jh, .int .i64 jc])),(1,vI jn),(2,vI jo),(3, .ptr 0 3 0),(6,vB false),(7, .ptr 0 7 0),(25, .val (.agg [.str jj, .list jb jf, .int .i64 jg, .list je ja, .list jd jh, .int .i64 jc])),(26, .val (.list false [])),(27, .ptr 0 3 3),(28, .val (.list je ja)),(29, .val (.list false ja)),(30, .ptr 0 7 3),(32, .val (.agg [.str jj, .list jb jf, .int .i64 jg, .list je ja, .list jd jh, .int .i64 jc])),(33,vI jn),(34,vI jo)],[bx 101 [(3,some [vS jj, .val (.list jb jf),vI jg, .val (.list je ja), .val (.list jd jh),vI jc]),(7,some [vS jj, .val (.list jb jf),vI jg, .lst true false 39 ja, .val (.list jd jh),vI jc])]],KK⟩ (opsK Tryz.prog (C lb n) (I9 lb n) 0 (Qc3 (sub (B Qaa) [1,1,1,1,0])) ((Qc3 (sub (B Qaa) [1,1,1,1,0])).drop 4) ((seqK (E0 lb n 0 995) (sub (B Qaa) [1,1,1,1,0]) (sub (B Qaa) [1,1,1,1,1]) (retK Tryz.prog (R Qaa) 0 (outK (Qae Tryz.prog Qaa)))) .normal)))) ⟨fr 101 [(0, .val (.agg [.str jj, .list jb jf, .int .i64 jg, .list je ja, .list jd jh, .int .i64 jc])),(1,vI jn),(2,vI jo),(3, .ptr 1 3 0),(6, .ptr 1 6 0),(7, .lst true true 3 []),(8,vI 0),(9,vV wh),(10,vV jX),(11, .val (.list wN wC)),(12,vV va),(13,vV vd),(43,vI jn),(44, .val (.list false [[CV.int .i64 jn]]))],[bx 101 [(3,some [vS jj, .val (.list jb jf),vI jg, .val (.list je ja), .val (.list jd jh),vI jc]),(7,some [vS jj, .val (.list jb jf),vI jg, .lst true false 39 ja, .val (.list jd jh),vI jc])],bx 102 [(3,some [vS jj, .val (.list jb jf),vI jg, .val (.list je ja), .val (.list jd jh),vI jc]),(6,some [.val (.str []), .lst true true 89 [],vI 0, .lst true true 39 [], .lst true true 70 [],vI 0]),(101,some [.val yk])]],KK⟩)
noncomputable def QbS (lb n mT:Nat) (jj:LB) (jb:Bool) (jf:LL) (jg:Int) (je:Bool) (ja:LL) (jd:Bool) (jh:LL) (jc jn jo:Int) (wh jX:CV) (wN:Bool) (wC:LL) (va vd yk:CV) (o5:Int) (oB:LL):Option CV:=
 hold (Qax (E1 lb n 1 990) 1 (Qak (sub (B Qav) [1,1,1,1,1,1,0,1,0,0])++ [15,16,17]) [] (sub (B Qav) [1,1,1,1,1,1,0,1,0,0]) (Qam 0 (seqK (E1 lb n 1 993) (sub (B Qav) [1,1,1,1,1,1,0]) (sub (B Qav) [1,1,1,1,1,1,1]) (retL Tryz.prog (R Qav) 1 (inlK (opAt (Qc3 (sub (B Qaa) [1,1,1,1,0])) 3) ⟨fr 101 [(0, .val (.agg [.str jj, .list jb jf, .int .i64 jg, .list je ja, .list jd jh, .int .i64 jc])),(1,vI jn),(2,vI jo),(3, .ptr 0 3 0),(6,vB false),(7, .ptr 0 7 0),(25, .val (.agg [.str jj, .list jb jf, .int .i64 jg, .list je ja, .list jd jh, .int .i64 jc])),(26, .val (.list false [])),(27, .ptr 0 3 3),(28, .val (.list je ja)),(29, .val (.list false ja)),(30, .ptr 0 7 3),(32, .val (.agg [.str jj, .list jb jf, .int .i64 jg, .list je ja, .list jd jh, .int .i64 jc])),(33,vI jn),(34,vI jo)],[bx 101 [(3,some [vS jj, .val (.list jb jf),vI jg, .val (.list je ja), .val (.list jd jh),vI jc]),(7,some [vS jj, .val (.list jb jf),vI jg, .lst true false 39 ja, .val (.list jd jh),vI jc])]],KK⟩ (opsK Tryz.prog (C lb n) (I9 lb n) 0 (Qc3 (sub (B Qaa) [1,1,1,1,0])) ((Qc3 (sub (B Qaa) [1,1,1,1,0])).drop 4) ((seqK (E0 lb n 0 995) (sub (B Qaa) [1,1,1,1,0]) (sub (B Qaa) [1,1,1,1,1]) (retK Tryz.prog (R Qaa) 0 (outK (Qae Tryz.prog Qaa)))) .normal)))))) mT ⟨fr 101 [(0, .val (.agg [.str jj, .list jb jf, .int .i64 jg, .list je ja, .list jd jh, .int .i64 jc])),(1,vI jn),(2,vI jo),(3, .ptr 1 3 0),(6, .ptr 1 6 0),(7, .lst true true 3 []),(8,vI 0),(9,vV wh),(10,vV jX),(11, .val (.list wN wC)),(12,vV va),(13,vV vd),(43,vI jn),(44, .val (.list false [[CV.int .i64 jn]])),(68, .ptr 1 3 3),(69, .val (.list je ja)),(70, .rsl 39 1 102 0 ja.length ja.length),(71, .ptr 1 3 3),(72, .val (.list wN wC)),(73, .val (.int .i64 (wC.length:Int))),(74,vI o5)],[bx 101 [(3,some [vS jj, .val (.list jb jf),vI jg, .val (.list je ja), .val (.list jd jh),vI jc]),(7,some [vS jj, .val (.list jb jf),vI jg, .lst true false 39 ja, .val (.list jd jh),vI jc])],bx 103 [(3,some [vS jj, .val (.list jb jf),vI jg, .rsl 39 1 102 0 ja.length ja.length, .val (.list jd jh),vI jc]),(6,some [.val (.str []), .lst true true 89 [],vI 0, .lst true true 39 [], .lst true true 70 [],vI 0]),(101,some [.val yk]),(102,some [.row 39 oB])]],KK⟩)
noncomputable def Qdk (lb n:Nat) (jj:LB) (jb:Bool) (jf:LL) (jg:Int) (je:Bool) (ja:LL) (jd:Bool) (jh:LL) (jc jn jo:Int) (wh jX:CV) (wN:Bool) (wC:LL) (va vd yk:CV) (o6:LL):Option CV:=
 hold (E1 lb n 1 993 (sub (B Qav) [1,1,1,1,1,1,1]) (retL Tryz.prog (R Qav) 1 (inlK (opAt (Qc3 (sub (B Qaa) [1,1,1,1,0])) 3) ⟨fr 101 [(0, .val (.agg [.str jj, .list jb jf, .int .i64 jg, .list je ja, .list jd jh, .int .i64 jc])),(1,vI jn),(2,vI jo),(3, .ptr 0 3 0),(6,vB false),(7, .ptr 0 7 0),(25, .val (.agg [.str jj, .list jb jf, .int .i64 jg, .list je ja, .list jd jh, .int .i64 jc])),(26, .val (.list false [])),(27, .ptr 0 3 3),(28, .val (.list je ja)),(29, .val (.list false ja)),(30, .ptr 0 7 3),(32, .val (.agg [.str jj, .list jb jf, .int .i64 jg, .list je ja, .list jd jh, .int .i64 jc])),(33,vI jn),(34,vI jo)],[bx 101 [(3,some [vS jj, .val (.list jb jf),vI jg, .val (.list je ja), .val (.list jd jh),vI jc]),(7,some [vS jj, .val (.list jb jf),vI jg, .lst true false 39 ja, .val (.list jd jh),vI jc])]],KK⟩ (opsK Tryz.prog (C lb n) (I9 lb n) 0 (Qc3 (sub (B Qaa) [1,1,1,1,0])) ((Qc3 (sub (B Qaa) [1,1,1,1,0])).drop 4) ((seqK (E0 lb n 0 995) (sub (B Qaa) [1,1,1,1,0]) (sub (B Qaa) [1,1,1,1,1]) (retK Tryz.prog (R Qaa) 0 (outK (Qae Tryz.prog Qaa)))) .normal)))) ⟨fr 101 [(0, .val (.agg [.str jj, .list jb jf, .int .i64 jg, .list je ja, .list jd jh, .int .i64 jc])),(1,vI jn),(2,vI jo),(3, .ptr 1 3 0),(6, .ptr 1 6 0),(7, .lst true true 3 []),(8,vI 0),(9,vV wh),(10,vV jX),(11, .val (.list wN wC)),(12,vV va),(13,vV vd),(43,vI jn),(44, .val (.list false [[CV.int .i64 jn]])),(68, .ptr 1 3 3),(69, .val (.list je ja)),(70, .rsl 39 1 102 0 ja.length ja.length),(71, .ptr 1 3 3)],[bx 101 [(3,some [vS jj, .val (.list jb jf),vI jg, .val (.list je ja), .val (.list jd jh),vI jc]),(7,some [vS jj, .val (.list jb jf),vI jg, .lst true false 39 ja, .val (.list jd jh),vI jc])],bx 103 [(3,some [vS jj, .val (.list jb jf),vI jg, .rsl 39 1 102 0 ja.length ja.length, .val (.list jd jh),vI jc]),(6,some [.val (.str []), .lst true true 89 [],vI 0, .lst true true 39 [], .lst true true 70 [],vI 0]),(101,some [.val yk]),(102,some [.row 39 o6])]],KK⟩)
noncomputable def Qdf (lb n mZ:Nat) (jj:LB) (jb:Bool) (jf:LL) (jg:Int) (je:Bool) (ja:LL) (jd:Bool) (jh:LL) (jc jn jo:Int) (wN:Bool) (wC:LL) (wZ yq y1 vu yj vk vm vg vl vj yk:CV) (vX:Int) (oX:LL):Option CV:=
 hold (Qax (E0 lb n 0 988) 0 (Qak (sub (B Qaa) [1,1,1,1,1,1,1,1,0,1,0,0])++ []) [] (sub (B Qaa) [1,1,1,1,1,1,1,1,0,1,0,0]) (Qam 0 (seqK (E0 lb n 0 991) (sub (B Qaa) [1,1,1,1,1,1,1,1,0]) (sub (B Qaa) [1,1,1,1,1,1,1,1,1]) (retK Tryz.prog (R Qaa) 0 (outK (Qae Tryz.prog Qaa))))) mZ ⟨fr 101 [(0, .val (.agg [.str jj, .list jb jf, .int .i64 jg, .list je ja, .list jd jh, .int .i64 jc])),(1,vI jn),(2,vI jo),(3, .ptr 0 3 0),(6,vB false),(7, .ptr 0 7 0),(8, .ptr 0 8 0),(9, .val (.list wN wC)),(10,vI 0),(11, .ptr 0 11 0),(12,vV wZ),(13,vV yq),(14,vI vX),(25, .val (.agg [.str jj, .list jb jf, .int .i64 jg, .list je ja, .list jd jh, .int .i64 jc])),(26, .val (.list false [])),(27, .ptr 0 3 3),(28, .val (.list je ja)),(29, .val (.list false ja)),(30, .ptr 0 7 3),(31, .tup [.agg [vS jj, .val (.list jb jf),vI jg, .rsl 39 0 104 0 ja.length ja.length, .val (.list jd jh),vI jc], .val (.list wN wC),vI 0]),(32, .val (.agg [.str jj, .list jb jf, .int .i64 jg, .list je ja, .list jd jh, .int .i64 jc])),(33,vI jn),(34,vI jo),(35, .tup [.agg [vS jj, .val (.list jb jf),vI jg, .rsl 39 0 104 0 ja.length ja.length, .val (.list jd jh),vI jc], .val (.list wN wC),vI 0]),(36, .agg [vS jj, .val (.list jb jf),vI jg, .rsl 39 0 104 0 ja.length ja.length, .val (.list jd jh),vI jc]),(37, .val (.list wN wC)),(38,vI 0),(39,vV y1),(40, .val (.agg [.str jj, .list jb jf, .int .i64 jg, .list je ja, .list jd jh, .int .i64 jc])),(41,vI jn),(42,vI jo),(43,vV y1),(44,vV vu),(45,vV wZ),(46,vV yq)],[bx 105 [(3,some [vS jj, .val (.list jb jf),vI jg, .val (.list je ja), .val (.list jd jh),vI jc]),(7,some [vS jj, .val (.list jb jf),vI jg, .lst true false 39 ja, .val (.list jd jh),vI jc]),(8,some [vS jj, .val (.list jb jf),vI jg, .rsl 39 0 104 0 ja.length ja.length, .val (.list jd jh),vI jc]),(11,some [.val yj, .val vk, .val vm, .val vg, .val vl, .val vj]),(101,some [vS jj, .val (.list jb jf),vI jg, .rsl 39 0 104 0 ja.length ja.length, .val (.list jd jh),vI jc]),(102,some [vS jj, .val (.list jb jf),vI jg, .rsl 39 0 104 0 ja.length ja.length, .val (.list jd jh),vI jc]),(103,some [.val yk]),(104,some [.row 39 oX])]],KK⟩)
noncomputable def QgG (lb n:Nat) (jj:LB) (jb:Bool) (jf:LL) (jg:Int) (je:Bool) (ja:LL) (jd:Bool) (jh:LL) (jc jn jo:Int) (wN:Bool) (wC:LL) (wZ yq y1 vu yj vk vm vg vl vj yk:CV) (gK:Int) (ke:LL):Option CV:=
 hold (E0 lb n 0 991 (sub (B Qaa) [1,1,1,1,1,1,1,1,1]) (retK Tryz.prog (R Qaa) 0 (outK (Qae Tryz.prog Qaa))) ⟨fr 101 [(0, .val (.agg [.str jj, .list jb jf, .int .i64 jg, .list je ja, .list jd jh, .int .i64 jc])),(1,vI jn),(2,vI jo),(3, .ptr 0 3 0),(6,vB false),(7, .ptr 0 7 0),(8, .ptr 0 8 0),(9, .val (.list wN wC)),(10,vI 0),(11, .ptr 0 11 0),(12,vV wZ),(13,vV yq),(14,vI gK),(25, .val (.agg [.str jj, .list jb jf, .int .i64 jg, .list je ja, .list jd jh, .int .i64 jc])),(26, .val (.list false [])),(27, .ptr 0 3 3),(28, .val (.list je ja)),(29, .val (.list false ja)),(30, .ptr 0 7 3),(31, .tup [.agg [vS jj, .val (.list jb jf),vI jg, .rsl 39 0 104 0 ja.length ja.length, .val (.list jd jh),vI jc], .val (.list wN wC),vI 0]),(32, .val (.agg [.str jj, .list jb jf, .int .i64 jg, .list je ja, .list jd jh, .int .i64 jc])),(33,vI jn),(34,vI jo),(35, .tup [.agg [vS jj, .val (.list jb jf),vI jg, .rsl 39 0 104 0 ja.length ja.length, .val (.list jd jh),vI jc], .val (.list wN wC),vI 0]),(36, .agg [vS jj, .val (.list jb jf),vI jg, .rsl 39 0 104 0 ja.length ja.length, .val (.list jd jh),vI jc]),(37, .val (.list wN wC)),(38,vI 0),(39,vV y1),(40, .val (.agg [.str jj, .list jb jf, .int .i64 jg, .list je ja, .list jd jh, .int .i64 jc])),(41,vI jn),(42,vI jo),(43,vV y1),(44,vV vu),(45,vV wZ),(46,vV yq)],[bx 105 [(3,some [vS jj, .val (.list jb jf),vI jg, .val (.list je ja), .val (.list jd jh),vI jc]),(7,some [vS jj, .val (.list jb jf),vI jg, .lst true false 39 ja, .val (.list jd jh),vI jc]),(8,some [vS jj, .val (.list jb jf),vI jg, .rsl 39 0 104 0 ja.length ja.length, .val (.list jd jh),vI jc]),(11,some [.val yj, .val vk, .val vm, .val vg, .val vl, .val vj]),(101,some [vS jj, .val (.list jb jf),vI jg, .rsl 39 0 104 0 ja.length ja.length, .val (.list jd jh),vI jc]),(102,some [vS jj, .val (.list jb jf),vI jg, .rsl 39 0 104 0 ja.length ja.length, .val (.list jd jh),vI jc]),(103,some [.val yk]),(104,some [.row 39 ke])]],KK⟩)
theorem QjC (lb n:Nat) (jj:LB) (jb:Bool) (jf:LL) (jg:Int) (je:Bool) (ja:LL) (jd:Bool) (jh:LL) (jc jn jo:Int) (wN:Bool) (wC:LL) (wZ yq y1 vu yj vk vm vg vl vj yk:CV) (gK:Int) (ke:LL):
 QgG lb n jj jb jf jg je ja jd jh jc jn jo wN wC wZ yq y1 vu yj vk vm vg vl vj yk gK ke=
 chkO (decide ((0+ja.length)≤ke.length)) (
 optO (C lb n Qaq [.agg [.str jj, .list jb jf, .int .i64 jg, .list false ((ke.drop 0).take ja.length), .list jd jh, .int .i64 jc], .agg [.str jj, .list jb jf, .int .i64 jg, .list false ja, .list jd jh, .int .i64 jc]]) fun jas=>
 optO (CV.asB jas) fun uy=>
 bif uy then
 (optO (C lb n Qai [.agg [yj,vk,vm,vg,vl,vj]]) fun ly=>
 optO (CV.asL ly) fun tD=>
 bif ((tD.2.length:Int)==0) then
 (optO (C lb n Qal []) fun uI=>
 some (uI))
 else
 (some (.bool false)))
 else
 (some (.bool false))):=(Qah _).trans (by kernel_rfl)
theorem QeL (lb n mZ:Nat) (jj:LB) (jb:Bool) (jf:LL) (jg:Int) (je:Bool) (ja:LL) (jd:Bool) (jh:LL) (jc jn jo:Int) (wN:Bool) (wC:LL) (wZ yq y1 vu yj vk vm vg vl vj yk:CV) (vX:Int) (oX:LL):
 Qdf lb n (mZ+1) jj jb jf jg je ja jd jh jc jn jo wN wC wZ yq y1 vu yj vk vm vg vl vj yk vX oX=
 bif (decide (vX<((ja.length:Nat):Int))) then
 (optO (atL ja vX) fun s8=>
 chkO (s8.length==10) (
 optO (s8[8]?) fun sC=>
 chkO ((decide (0≤(vX:Int)))&&(decide ((vX:Int)<((ja.length:Nat):Int)))) (
 chkO (CV.isCell sC) (
 optO (oX[0+vX.toNat]?) fun qJ=>
 chkO (decide ((9:Nat)≤qJ.length)) (
 Qdf lb n mZ jj jb jf jg je ja jd jh jc jn jo wN wC wZ yq y1 vu yj vk vm vg vl vj yk (IntKind.wrap .i64 (vX+1)) (setN oX (0+vX.toNat) (QbI qJ 8 [sC])))))))
 else
 (QgG lb n jj jb jf jg je ja jd jh jc jn jo wN wC wZ yq y1 vu yj vk vm vg vl vj yk vX oX):=(Qah _).trans (by kernel_rfl)
theorem Qju (lb n:Nat) (jj:LB) (jb:Bool) (jf:LL) (jg:Int) (je:Bool) (ja:LL) (jd:Bool) (jh:LL) (jc jn jo:Int) (wh jX:CV) (wN:Bool) (wC:LL) (va vd yk:CV) (o6:LL):
 Qdk lb n jj jb jf jg je ja jd jh jc jn jo wh jX wN wC va vd yk o6=
 optO (C lb n Qap [.agg [.str jj, .list jb jf, .int .i64 jg, .list je ja, .list jd jh, .int .i64 jc], .int .i64 jn, .int .i64 jo]) fun y1=>
 optO (CV.asT y1) fun rQ=>
 optO (rQ[0]?) fun vu=>
 optO (CV.asT y1) fun tS=>
 optO (tS[1]?) fun wZ=>
 optO (CV.asT y1) fun tB=>
 optO (tB[2]?) fun yq=>
 optO (CV.asA vu) fun oG=>
 chkO (oG.length==6) (
 optO (oG[0]?) fun yj=>
 optO (oG[1]?) fun vk=>
 optO (oG[2]?) fun vm=>
 optO (oG[3]?) fun vg=>
 optO (oG[4]?) fun vl=>
 optO (oG[5]?) fun vj=>
 chkO (decide ((0+ja.length)≤o6.length)) (
 optO (C lb n Qaq [.agg [.str jj, .list jb jf, .int .i64 jg, .list false ((o6.drop 0).take ja.length), .list jd jh, .int .i64 jc], .agg [yj,vk,vm,vg,vl,vj]]) fun rO=>
 optO (CV.asB rO) fun jah=>
 bif (!jah) then
 (some (.bool false))
 else
 (optO (C lb n Qa3 [.list wN wC,wZ]) fun jar=>
 optO (CV.asB jar) fun ub=>
 bif (!ub) then
 (some (.bool false))
 else
 (optO (CV.asI .i64 yq) fun r8=>
 bif ((0:Int) !=r8) then
 (some (.bool false))
 else
 (optO (C lb n Qaq [.agg [.str jj, .list jb jf, .int .i64 jg, .list je ja, .list jd jh, .int .i64 jc], .agg [.str jj, .list jb jf, .int .i64 jg, .list false ja, .list jd jh, .int .i64 jc]]) fun li=>
 optO (CV.asB li) fun lc=>
 bif (!lc) then
 (some (.bool false))
 else
 (Qdf lb n n jj jb jf jg je ja jd jh jc jn jo wN wC wZ yq y1 vu yj vk vm vg vl vj yk 0 o6)))))):=(Qah _).trans (by kernel_rfl)
theorem QeP (lb n mT:Nat) (jj:LB) (jb:Bool) (jf:LL) (jg:Int) (je:Bool) (ja:LL) (jd:Bool) (jh:LL) (jc jn jo:Int) (wh jX:CV) (wN:Bool) (wC:LL) (va vd yk:CV) (o5:Int) (oB:LL):
 QbS lb n (mT+1) jj jb jf jg je ja jd jh jc jn jo wh jX wN wC va vd yk o5 oB=
 bif (decide (o5<(wC.length:Int))) then
 (optO (atL wC o5) fun qZ=>
 chkO (qZ.length==1) (
 optO (qZ[0]?) fun sT=>
 optO (CV.asN sT) fun nM=>
 chkO ((decide (0≤(nM:Int)))&&(decide ((nM:Int)<((ja.length:Nat):Int)))) (
 optO (oB[0+nM.toNat]?) fun lY=>
 optO (lY[8]?) fun uP=>
 optO (C lb n QeI [uP, .int .i64 jo]) fun qk=>
 optO (CV.asT qk) fun nH=>
 optO (nH[0]?) fun ow=>
 optO (CV.asT qk) fun rj=>
 optO (rj[1]?) fun mc=>
 optO (CV.asI .i64 mc) fun kk=>
 bif (kk !=0) then
 (optO (C lb n Qap [.agg [.str jj, .list jb jf, .int .i64 jg, .list je ja, .list jd jh, .int .i64 jc], .int .i64 jn, .int .i64 jo]) fun nQ=>
 optO (CV.asT nQ) fun jag=>
 optO (jag[0]?) fun mh=>
 optO (CV.asT nQ) fun uM=>
 optO (uM[1]?) fun nN=>
 optO (CV.asT nQ) fun t164=>
 optO (t164[2]?) fun yo=>
 optO (CV.asA mh) fun oF=>
 chkO (oF.length==6) (
 optO (oF[0]?) fun wU=>
 optO (oF[1]?) fun n7=>
 optO (oF[2]?) fun wT=>
 optO (oF[3]?) fun nJ=>
 optO (oF[4]?) fun yl=>
 optO (oF[5]?) fun ym=>
 optO (C lb n Qaq [.agg [.str [], .list true [], .int .i64 0, .list true [], .list true [], .int .i64 0], .agg [wU,n7,wT,nJ,yl,ym]]) fun l9=>
 optO (CV.asB l9) fun jat=>
 bif (!jat) then
 (some (.bool false))
 else
 (optO (C lb n Qa3 [.list true [],nN]) fun rf=>
 optO (CV.asB rf) fun lD=>
 bif (!lD) then
 (some (.bool false))
 else
 (optO (CV.asI .i64 yo) fun rq=>
 bif ((18:Int) !=rq) then
 (some (.bool false))
 else
 (optO (C lb n Qaq [.agg [.str jj, .list jb jf, .int .i64 jg, .list je ja, .list jd jh, .int .i64 jc], .agg [.str jj, .list jb jf, .int .i64 jg, .list false ja, .list jd jh, .int .i64 jc]]) fun zY=>
 optO (CV.asB zY) fun tU=>
 bif (!tU) then
 (some (.bool false))
 else
 (optO (C lb n Qal []) fun tT=>
 some (tT)))))))
 else
 (optO (CV.asN sT) fun oW=>
 chkO ((decide (0≤(oW:Int)))&&(decide ((oW:Int)<((ja.length:Nat):Int)))) (
 chkO (CV.isCell ow) (
 optO (oB[0+oW.toNat]?) fun sO=>
 chkO (decide ((9:Nat)≤sO.length)) (
 QbS lb n mT jj jb jf jg je ja jd jh jc jn jo wh jX wN wC va vd yk (IntKind.wrap .i64 (o5+1)) (setN oB (0+oW.toNat) (QbI sO 8 [ow])))))))))
 else
 (Qdk lb n jj jb jf jg je ja jd jh jc jn jo wh jX wN wC va vd yk oB):=(Qah _).trans (by kernel_rfl)
theorem Qjt (lb n:Nat) (jj:LB) (jb:Bool) (jf:LL) (jg:Int) (aseg6a:List CV) (aseg6b:LL) (jd:Bool) (jh:LL) (jc jn jo:Int) (wh jX:CV) (wN:Bool) (wC:LL) (va vd yk:CV):
 Qdg lb n jj jb jf jg false (aseg6a::aseg6b) jd jh jc jn jo wh jX wN wC va vd yk=
 chkO ((aseg6a::aseg6b).all (·.length==10)) (
 chkO (room (aseg6a::aseg6b).length 112) (
 QbS lb n n jj jb jf jg false (aseg6a::aseg6b) jd jh jc jn jo wh jX wN wC va vd yk 0 (aseg6a::aseg6b))):=(Qah _).trans (by kernel_rfl)
noncomputable def Qlv (lb n:Nat) (jj:LB) (jb:Bool) (jf:LL) (jg:Int) (je:Bool) (ja:LL) (jd:Bool) (jh:LL) (jc jn jo:Int) (wh jX lP tw:CV):Option CV:=
 hold (E1 lb n 1 995 (sub (B Qav) [1,1,1,1,1]) (retL Tryz.prog (R Qav) 1 (inlK (opAt (Qc3 (sub (B Qaa) [1,1,1,1,0])) 3) ⟨fr 101 [(0, .val (.agg [.str jj, .list jb jf, .int .i64 jg, .list je ja, .list jd jh, .int .i64 jc])),(1,vI jn),(2,vI jo),(3, .ptr 0 3 0),(6,vB false),(7, .ptr 0 7 0),(25, .val (.agg [.str jj, .list jb jf, .int .i64 jg, .list je ja, .list jd jh, .int .i64 jc])),(26, .val (.list false [])),(27, .ptr 0 3 3),(28, .val (.list je ja)),(29, .val (.list false ja)),(30, .ptr 0 7 3),(32, .val (.agg [.str jj, .list jb jf, .int .i64 jg, .list je ja, .list jd jh, .int .i64 jc])),(33,vI jn),(34,vI jo)],[bx 101 [(3,some [vS jj, .val (.list jb jf),vI jg, .val (.list je ja), .val (.list jd jh),vI jc]),(7,some [vS jj, .val (.list jb jf),vI jg, .lst true false 39 ja, .val (.list jd jh),vI jc])]],KK⟩ (opsK Tryz.prog (C lb n) (I9 lb n) 0 (Qc3 (sub (B Qaa) [1,1,1,1,0])) ((Qc3 (sub (B Qaa) [1,1,1,1,0])).drop 4) ((seqK (E0 lb n 0 995) (sub (B Qaa) [1,1,1,1,0]) (sub (B Qaa) [1,1,1,1,1]) (retK Tryz.prog (R Qaa) 0 (outK (Qae Tryz.prog Qaa)))) .normal)))) ⟨fr 101 [(0, .val (.agg [.str jj, .list jb jf, .int .i64 jg, .list je ja, .list jd jh, .int .i64 jc])),(1,vI jn),(2,vI jo),(3, .ptr 1 3 0),(6, .ptr 1 6 0),(7, .lst true true 3 []),(8,vI 0),(9,vV wh),(10,vV jX),(11, .lst true false 3 [[CV.int .i64 jn]]),(12,vV lP),(13,vV tw),(43,vI jn),(44, .val (.list false [[CV.int .i64 jn]]))],[bx 101 [(3,some [vS jj, .val (.list jb jf),vI jg, .val (.list je ja), .val (.list jd jh),vI jc]),(7,some [vS jj, .val (.list jb jf),vI jg, .lst true false 39 ja, .val (.list jd jh),vI jc])],bx 101 [(3,some [vS jj, .val (.list jb jf),vI jg, .val (.list je ja), .val (.list jd jh),vI jc]),(6,some [.val (.str []), .lst true true 89 [],vI 0, .lst true true 39 [], .lst true true 70 [],vI 0])]],KK⟩)
noncomputable def Qc2 (lb n m7:Nat) (jj:LB) (jb:Bool) (jf:LL) (jg:Int) (je:Bool) (ja:LL) (jd:Bool) (jh:LL) (jc jn jo:Int) (vO vU vP kG ki kb kh ks kc kd:CV) (vW:Int) (oQ:LL):Option CV:=
 hold (Qax (E0 lb n 0 988) 0 (Qak (sub (B Qaa) [1,1,1,1,1,1,1,1,0,1,0,0])++ []) [] (sub (B Qaa) [1,1,1,1,1,1,1,1,0,1,0,0]) (Qam 0 (seqK (E0 lb n 0 991) (sub (B Qaa) [1,1,1,1,1,1,1,1,0]) (sub (B Qaa) [1,1,1,1,1,1,1,1,1]) (retK Tryz.prog (R Qaa) 0 (outK (Qae Tryz.prog Qaa))))) m7 ⟨fr 101 [(0, .val (.agg [.str jj, .list jb jf, .int .i64 jg, .list je ja, .list jd jh, .int .i64 jc])),(1,vI jn),(2,vI jo),(3, .ptr 0 3 0),(6,vB false),(7, .ptr 0 7 0),(8, .ptr 0 8 0),(9, .val (.list false [[CV.int .i64 jn]])),(10,vI 0),(11, .ptr 0 11 0),(12,vV vO),(13,vV vU),(14,vI vW),(25, .val (.agg [.str jj, .list jb jf, .int .i64 jg, .list je ja, .list jd jh, .int .i64 jc])),(26, .val (.list false [])),(27, .ptr 0 3 3),(28, .val (.list je ja)),(29, .val (.list false ja)),(30, .ptr 0 7 3),(31, .tup [.agg [vS jj, .val (.list jb jf),vI jg, .rsl 39 0 103 0 ja.length ja.length, .val (.list jd jh),vI jc], .val (.list false [[CV.int .i64 jn]]),vI 0]),(32, .val (.agg [.str jj, .list jb jf, .int .i64 jg, .list je ja, .list jd jh, .int .i64 jc])),(33,vI jn),(34,vI jo),(35, .tup [.agg [vS jj, .val (.list jb jf),vI jg, .rsl 39 0 103 0 ja.length ja.length, .val (.list jd jh),vI jc], .val (.list false [[CV.int .i64 jn]]),vI 0]),(36, .agg [vS jj, .val (.list jb jf),vI jg, .rsl 39 0 103 0 ja.length ja.length, .val (.list jd jh),vI jc]),(37, .val (.list false [[CV.int .i64 jn]])),(38,vI 0),(39,vV vP),(40, .val (.agg [.str jj, .list jb jf, .int .i64 jg, .list je ja, .list jd jh, .int .i64 jc])),(41,vI jn),(42,vI jo),(43,vV vP),(44,vV kG),(45,vV vO),(46,vV vU)],[bx 104 [(3,some [vS jj, .val (.list jb jf),vI jg, .val (.list je ja), .val (.list jd jh),vI jc]),(7,some [vS jj, .val (.list jb jf),vI jg, .lst true false 39 ja, .val (.list jd jh),vI jc]),(8,some [vS jj, .val (.list jb jf),vI jg, .rsl 39 0 103 0 ja.length ja.length, .val (.list jd jh),vI jc]),(11,some [.val ki, .val kb, .val kh, .val ks, .val kc, .val kd]),(101,some [vS jj, .val (.list jb jf),vI jg, .rsl 39 0 103 0 ja.length ja.length, .val (.list jd jh),vI jc]),(102,some [vS jj, .val (.list jb jf),vI jg, .rsl 39 0 103 0 ja.length ja.length, .val (.list jd jh),vI jc]),(103,some [.row 39 oQ])]],KK⟩)
noncomputable def Qf0 (lb n:Nat) (jj:LB) (jb:Bool) (jf:LL) (jg:Int) (je:Bool) (ja:LL) (jd:Bool) (jh:LL) (jc jn jo:Int) (vO vU vP kG ki kb kh ks kc kd:CV) (nK:Int) (gU:LL):Option CV:=
 hold (E0 lb n 0 991 (sub (B Qaa) [1,1,1,1,1,1,1,1,1]) (retK Tryz.prog (R Qaa) 0 (outK (Qae Tryz.prog Qaa))) ⟨fr 101 [(0, .val (.agg [.str jj, .list jb jf, .int .i64 jg, .list je ja, .list jd jh, .int .i64 jc])),(1,vI jn),(2,vI jo),(3, .ptr 0 3 0),(6,vB false),(7, .ptr 0 7 0),(8, .ptr 0 8 0),(9, .val (.list false [[CV.int .i64 jn]])),(10,vI 0),(11, .ptr 0 11 0),(12,vV vO),(13,vV vU),(14,vI nK),(25, .val (.agg [.str jj, .list jb jf, .int .i64 jg, .list je ja, .list jd jh, .int .i64 jc])),(26, .val (.list false [])),(27, .ptr 0 3 3),(28, .val (.list je ja)),(29, .val (.list false ja)),(30, .ptr 0 7 3),(31, .tup [.agg [vS jj, .val (.list jb jf),vI jg, .rsl 39 0 103 0 ja.length ja.length, .val (.list jd jh),vI jc], .val (.list false [[CV.int .i64 jn]]),vI 0]),(32, .val (.agg [.str jj, .list jb jf, .int .i64 jg, .list je ja, .list jd jh, .int .i64 jc])),(33,vI jn),(34,vI jo),(35, .tup [.agg [vS jj, .val (.list jb jf),vI jg, .rsl 39 0 103 0 ja.length ja.length, .val (.list jd jh),vI jc], .val (.list false [[CV.int .i64 jn]]),vI 0]),(36, .agg [vS jj, .val (.list jb jf),vI jg, .rsl 39 0 103 0 ja.length ja.length, .val (.list jd jh),vI jc]),(37, .val (.list false [[CV.int .i64 jn]])),(38,vI 0),(39,vV vP),(40, .val (.agg [.str jj, .list jb jf, .int .i64 jg, .list je ja, .list jd jh, .int .i64 jc])),(41,vI jn),(42,vI jo),(43,vV vP),(44,vV kG),(45,vV vO),(46,vV vU)],[bx 104 [(3,some [vS jj, .val (.list jb jf),vI jg, .val (.list je ja), .val (.list jd jh),vI jc]),(7,some [vS jj, .val (.list jb jf),vI jg, .lst true false 39 ja, .val (.list jd jh),vI jc]),(8,some [vS jj, .val (.list jb jf),vI jg, .rsl 39 0 103 0 ja.length ja.length, .val (.list jd jh),vI jc]),(11,some [.val ki, .val kb, .val kh, .val ks, .val kc, .val kd]),(101,some [vS jj, .val (.list jb jf),vI jg, .rsl 39 0 103 0 ja.length ja.length, .val (.list jd jh),vI jc]),(102,some [vS jj, .val (.list jb jf),vI jg, .rsl 39 0 103 0 ja.length ja.length, .val (.list jd jh),vI jc]),(103,some [.row 39 gU])]],KK⟩)
theorem Qi7 (lb n:Nat) (jj:LB) (jb:Bool) (jf:LL) (jg:Int) (je:Bool) (ja:LL) (jd:Bool) (jh:LL) (jc jn jo:Int) (vO vU vP kG ki kb kh ks kc kd:CV) (nK:Int) (gU:LL):
 Qf0 lb n jj jb jf jg je ja jd jh jc jn jo vO vU vP kG ki kb kh ks kc kd nK gU=
 chkO (decide ((0+ja.length)≤gU.length)) (
 optO (C lb n Qaq [.agg [.str jj, .list jb jf, .int .i64 jg, .list false ((gU.drop 0).take ja.length), .list jd jh, .int .i64 jc], .agg [.str jj, .list jb jf, .int .i64 jg, .list false ja, .list jd jh, .int .i64 jc]]) fun pf=>
 optO (CV.asB pf) fun lu=>
 bif lu then
 (optO (C lb n Qai [.agg [ki,kb,kh,ks,kc,kd]]) fun rT=>
 optO (CV.asL rT) fun zX=>
 bif ((zX.2.length:Int)==0) then
 (optO (C lb n Qal []) fun tz=>
 some (tz))
 else
 (some (.bool false)))
 else
 (some (.bool false))):=(Qah _).trans (by kernel_rfl)
theorem Qeu (lb n m7:Nat) (jj:LB) (jb:Bool) (jf:LL) (jg:Int) (je:Bool) (ja:LL) (jd:Bool) (jh:LL) (jc jn jo:Int) (vO vU vP kG ki kb kh ks kc kd:CV) (vW:Int) (oQ:LL):
 Qc2 lb n (m7+1) jj jb jf jg je ja jd jh jc jn jo vO vU vP kG ki kb kh ks kc kd vW oQ=
 bif (decide (vW<((ja.length:Nat):Int))) then
 (optO (atL ja vW) fun gE=>
 chkO (gE.length==10) (
 optO (gE[8]?) fun o4=>
 chkO ((decide (0≤(vW:Int)))&&(decide ((vW:Int)<((ja.length:Nat):Int)))) (
 chkO (CV.isCell o4) (
 optO (oQ[0+vW.toNat]?) fun qI=>
 chkO (decide ((9:Nat)≤qI.length)) (
 Qc2 lb n m7 jj jb jf jg je ja jd jh jc jn jo vO vU vP kG ki kb kh ks kc kd (IntKind.wrap .i64 (vW+1)) (setN oQ (0+vW.toNat) (QbI qI 8 [o4])))))))
 else
 (Qf0 lb n jj jb jf jg je ja jd jh jc jn jo vO vU vP kG ki kb kh ks kc kd vW oQ):=(Qah _).trans (by kernel_rfl)
noncomputable def QbP (lb n:Nat) (jj:LB) (jb:Bool) (jf:LL) (jg:Int) (je:Bool) (ja:LL) (jd:Bool) (jh:LL) (jc jn jo:Int) (wh jX:CV):Option CV:=
 hold (E1 lb n 1 995 (sub (B Qav) [1,1,1,1,1]) (retL Tryz.prog (R Qav) 1 (inlK (opAt (Qc3 (sub (B Qaa) [1,1,1,1,0])) 3) ⟨fr 101 [(0, .val (.agg [.str jj, .list jb jf, .int .i64 jg, .list je ja, .list jd jh, .int .i64 jc])),(1,vI jn),(2,vI jo),(3, .ptr 0 3 0),(6,vB false),(7, .ptr 0 7 0),(25, .val (.agg [.str jj, .list jb jf, .int .i64 jg, .list je ja, .list jd jh, .int .i64 jc])),(26, .val (.list false [])),(27, .ptr 0 3 3),(28, .val (.list je ja)),(29, .val (.list false ja)),(30, .ptr 0 7 3),(32, .val (.agg [.str jj, .list jb jf, .int .i64 jg, .list je ja, .list jd jh, .int .i64 jc])),(33,vI jn),(34,vI jo)],[bx 101 [(3,some [vS jj, .val (.list jb jf),vI jg, .val (.list je ja), .val (.list jd jh),vI jc]),(7,some [vS jj, .val (.list jb jf),vI jg, .lst true false 39 ja, .val (.list jd jh),vI jc])]],KK⟩ (opsK Tryz.prog (C lb n) (I9 lb n) 0 (Qc3 (sub (B Qaa) [1,1,1,1,0])) ((Qc3 (sub (B Qaa) [1,1,1,1,0])).drop 4) ((seqK (E0 lb n 0 995) (sub (B Qaa) [1,1,1,1,0]) (sub (B Qaa) [1,1,1,1,1]) (retK Tryz.prog (R Qaa) 0 (outK (Qae Tryz.prog Qaa)))) .normal)))) ⟨fr 101 [(0, .val (.agg [.str jj, .list jb jf, .int .i64 jg, .list je ja, .list jd jh, .int .i64 jc])),(1,vI jn),(2,vI jo),(3, .ptr 1 3 0),(6, .ptr 1 6 0),(7, .lst true true 3 []),(8,vI 0),(9,vV wh),(10,vV jX),(11, .lst true false 3 [[CV.int .i64 jn]]),(43,vI jn),(44, .val (.list false [[CV.int .i64 jn]]))],[bx 101 [(3,some [vS jj, .val (.list jb jf),vI jg, .val (.list je ja), .val (.list jd jh),vI jc]),(7,some [vS jj, .val (.list jb jf),vI jg, .lst true false 39 ja, .val (.list jd jh),vI jc])],bx 101 [(3,some [vS jj, .val (.list jb jf),vI jg, .val (.list je ja), .val (.list jd jh),vI jc]),(6,some [.val (.str []), .lst true true 89 [],vI 0, .lst true true 39 [], .lst true true 70 [],vI 0])]],KK⟩)
noncomputable def QbQ (lb n mI:Nat) (jj:LB) (jb:Bool) (jf:LL) (jg:Int) (je:Bool) (ja:LL) (jd:Bool) (jh:LL) (jc jn jo:Int) (wh jX:CV) (oY:Int) (ot:LL):Option CV:=
 hold (Qax (E1 lb n 1 990) 1 (Qak (sub (B Qav) [1,1,1,1,1,1,0,1,0,0])++ [15,16,17]) [] (sub (B Qav) [1,1,1,1,1,1,0,1,0,0]) (Qam 0 (seqK (E1 lb n 1 993) (sub (B Qav) [1,1,1,1,1,1,0]) (sub (B Qav) [1,1,1,1,1,1,1]) (retL Tryz.prog (R Qav) 1 (inlK (opAt (Qc3 (sub (B Qaa) [1,1,1,1,0])) 3) ⟨fr 101 [(0, .val (.agg [.str jj, .list jb jf, .int .i64 jg, .list je ja, .list jd jh, .int .i64 jc])),(1,vI jn),(2,vI jo),(3, .ptr 0 3 0),(6,vB false),(7, .ptr 0 7 0),(25, .val (.agg [.str jj, .list jb jf, .int .i64 jg, .list je ja, .list jd jh, .int .i64 jc])),(26, .val (.list false [])),(27, .ptr 0 3 3),(28, .val (.list je ja)),(29, .val (.list false ja)),(30, .ptr 0 7 3),(32, .val (.agg [.str jj, .list jb jf, .int .i64 jg, .list je ja, .list jd jh, .int .i64 jc])),(33,vI jn),(34,vI jo)],[bx 101 [(3,some [vS jj, .val (.list jb jf),vI jg, .val (.list je ja), .val (.list jd jh),vI jc]),(7,some [vS jj, .val (.list jb jf),vI jg, .lst true false 39 ja, .val (.list jd jh),vI jc])]],KK⟩ (opsK Tryz.prog (C lb n) (I9 lb n) 0 (Qc3 (sub (B Qaa) [1,1,1,1,0])) ((Qc3 (sub (B Qaa) [1,1,1,1,0])).drop 4) ((seqK (E0 lb n 0 995) (sub (B Qaa) [1,1,1,1,0]) (sub (B Qaa) [1,1,1,1,1]) (retK Tryz.prog (R Qaa) 0 (outK (Qae Tryz.prog Qaa)))) .normal)))))) mI ⟨fr 101 [(0, .val (.agg [.str jj, .list jb jf, .int .i64 jg, .list je ja, .list jd jh, .int .i64 jc])),(1,vI jn),(2,vI jo),(3, .ptr 1 3 0),(6, .ptr 1 6 0),(7, .lst true true 3 []),(8,vI 0),(9,vV wh),(10,vV jX),(11, .lst true false 3 [[CV.int .i64 jn]]),(43,vI jn),(44, .val (.list false [[CV.int .i64 jn]])),(68, .ptr 1 3 3),(69, .val (.list je ja)),(70, .rsl 39 1 101 0 ja.length ja.length),(71, .ptr 1 3 3),(72, .val (.list false [[CV.int .i64 jn]])),(73,vI 1),(74,vI oY)],[bx 101 [(3,some [vS jj, .val (.list jb jf),vI jg, .val (.list je ja), .val (.list jd jh),vI jc]),(7,some [vS jj, .val (.list jb jf),vI jg, .lst true false 39 ja, .val (.list jd jh),vI jc])],bx 102 [(3,some [vS jj, .val (.list jb jf),vI jg, .rsl 39 1 101 0 ja.length ja.length, .val (.list jd jh),vI jc]),(6,some [.val (.str []), .lst true true 89 [],vI 0, .lst true true 39 [], .lst true true 70 [],vI 0]),(101,some [.row 39 ot])]],KK⟩)
noncomputable def Qc4 (lb n:Nat) (jj:LB) (jb:Bool) (jf:LL) (jg:Int) (je:Bool) (ja:LL) (jd:Bool) (jh:LL) (jc jn jo:Int) (wh jX:CV) (o8:LL):Option CV:=
 hold (E1 lb n 1 993 (sub (B Qav) [1,1,1,1,1,1,1]) (retL Tryz.prog (R Qav) 1 (inlK (opAt (Qc3 (sub (B Qaa) [1,1,1,1,0])) 3) ⟨fr 101 [(0, .val (.agg [.str jj, .list jb jf, .int .i64 jg, .list je ja, .list jd jh, .int .i64 jc])),(1,vI jn),(2,vI jo),(3, .ptr 0 3 0),(6,vB false),(7, .ptr 0 7 0),(25, .val (.agg [.str jj, .list jb jf, .int .i64 jg, .list je ja, .list jd jh, .int .i64 jc])),(26, .val (.list false [])),(27, .ptr 0 3 3),(28, .val (.list je ja)),(29, .val (.list false ja)),(30, .ptr 0 7 3),(32, .val (.agg [.str jj, .list jb jf, .int .i64 jg, .list je ja, .list jd jh, .int .i64 jc])),(33,vI jn),(34,vI jo)],[bx 101 [(3,some [vS jj, .val (.list jb jf),vI jg, .val (.list je ja), .val (.list jd jh),vI jc]),(7,some [vS jj, .val (.list jb jf),vI jg, .lst true false 39 ja, .val (.list jd jh),vI jc])]],KK⟩ (opsK Tryz.prog (C lb n) (I9 lb n) 0 (Qc3 (sub (B Qaa) [1,1,1,1,0])) ((Qc3 (sub (B Qaa) [1,1,1,1,0])).drop 4) ((seqK (E0 lb n 0 995) (sub (B Qaa) [1,1,1,1,0]) (sub (B Qaa) [1,1,1,1,1]) (retK Tryz.prog (R Qaa) 0 (outK (Qae Tryz.prog Qaa)))) .normal)))) ⟨fr 101 [(0, .val (.agg [.str jj, .list jb jf, .int .i64 jg, .list je ja, .list jd jh, .int .i64 jc])),(1,vI jn),(2,vI jo),(3, .ptr 1 3 0),(6, .ptr 1 6 0),(7, .lst true true 3 []),(8,vI 0),(9,vV wh),(10,vV jX),(11, .lst true false 3 [[CV.int .i64 jn]]),(43,vI jn),(44, .val (.list false [[CV.int .i64 jn]])),(68, .ptr 1 3 3),(69, .val (.list je ja)),(70, .rsl 39 1 101 0 ja.length ja.length),(71, .ptr 1 3 3)],[bx 101 [(3,some [vS jj, .val (.list jb jf),vI jg, .val (.list je ja), .val (.list jd jh),vI jc]),(7,some [vS jj, .val (.list jb jf),vI jg, .lst true false 39 ja, .val (.list jd jh),vI jc])],bx 102 [(3,some [vS jj, .val (.list jb jf),vI jg, .rsl 39 1 101 0 ja.length ja.length, .val (.list jd jh),vI jc]),(6,some [.val (.str []), .lst true true 89 [],vI 0, .lst true true 39 [], .lst true true 70 [],vI 0]),(101,some [.row 39 o8])]],KK⟩)
theorem Qi3 (lb n:Nat) (jj:LB) (jb:Bool) (jf:LL) (jg:Int) (je:Bool) (ja:LL) (jd:Bool) (jh:LL) (jc jn jo:Int) (wh jX:CV) (o8:LL):
 Qc4 lb n jj jb jf jg je ja jd jh jc jn jo wh jX o8=
 optO (C lb n Qap [.agg [.str jj, .list jb jf, .int .i64 jg, .list je ja, .list jd jh, .int .i64 jc], .int .i64 jn, .int .i64 jo]) fun ne=>
 optO (CV.asT ne) fun tI=>
 optO (tI[0]?) fun qX=>
 optO (CV.asT ne) fun tr=>
 optO (tr[1]?) fun s4=>
 optO (CV.asT ne) fun jai=>
 optO (jai[2]?) fun qg=>
 optO (CV.asA qX) fun oq=>
 chkO (oq.length==6) (
 optO (oq[0]?) fun sY=>
 optO (oq[1]?) fun qB=>
 optO (oq[2]?) fun qx=>
 optO (oq[3]?) fun qu=>
 optO (oq[4]?) fun nf=>
 optO (oq[5]?) fun qA=>
 chkO (decide ((0+ja.length)≤o8.length)) (
 optO (C lb n Qaq [.agg [.str jj, .list jb jf, .int .i64 jg, .list false ((o8.drop 0).take ja.length), .list jd jh, .int .i64 jc], .agg [sY,qB,qx,qu,nf,qA]]) fun z8=>
 optO (CV.asB z8) fun rU=>
 bif (!rU) then
 (some (.bool false))
 else
 (optO (C lb n Qa3 [.list false [[CV.int .i64 jn]],s4]) fun um=>
 optO (CV.asB um) fun jab=>
 bif (!jab) then
 (some (.bool false))
 else
 (optO (CV.asI .i64 qg) fun lz=>
 bif ((0:Int) !=lz) then
 (some (.bool false))
 else
 (optO (C lb n Qaq [.agg [.str jj, .list jb jf, .int .i64 jg, .list je ja, .list jd jh, .int .i64 jc], .agg [.str jj, .list jb jf, .int .i64 jg, .list false ja, .list jd jh, .int .i64 jc]]) fun lU=>
 optO (CV.asB lU) fun tN=>
 bif (!tN) then
 (some (.bool false))
 else
 (Qc2 lb n n jj jb jf jg je ja jd jh jc jn jo s4 qg ne qX sY qB qx qu nf qA 0 o8)))))):=(Qah _).trans (by kernel_rfl)
theorem Qet (lb n mI:Nat) (jj:LB) (jb:Bool) (jf:LL) (jg:Int) (je:Bool) (ja:LL) (jd:Bool) (jh:LL) (jc jn jo:Int) (wh jX:CV) (oY:Int) (ot:LL):
 QbQ lb n (mI+1) jj jb jf jg je ja jd jh jc jn jo wh jX oY ot=
 bif (decide (oY<1)) then
 (optO (atL [[CV.int .i64 jn]] oY) fun qO=>
 chkO (qO.length==1) (
 optO (qO[0]?) fun gV=>
 optO (CV.asN gV) fun pc=>
 chkO ((decide (0≤(pc:Int)))&&(decide ((pc:Int)<((ja.length:Nat):Int)))) (
 optO (ot[0+pc.toNat]?) fun uj=>
 optO (uj[8]?) fun mQ=>
 optO (C lb n QeI [mQ, .int .i64 jo]) fun qq=>
 optO (CV.asT qq) fun rC=>
 optO (rC[0]?) fun g8=>
 optO (CV.asT qq) fun jaq=>
 optO (jaq[1]?) fun lH=>
 optO (CV.asI .i64 lH) fun tt=>
 bif (tt !=0) then
 (optO (C lb n Qap [.agg [.str jj, .list jb jf, .int .i64 jg, .list je ja, .list jd jh, .int .i64 jc], .int .i64 jn, .int .i64 jo]) fun n5=>
 optO (CV.asT n5) fun lq=>
 optO (lq[0]?) fun tc=>
 optO (CV.asT n5) fun uC=>
 optO (uC[1]?) fun tp=>
 optO (CV.asT n5) fun jap=>
 optO (jap[2]?) fun rF=>
 optO (CV.asA tc) fun ou=>
 chkO (ou.length==6) (
 optO (ou[0]?) fun tv=>
 optO (ou[1]?) fun lS=>
 optO (ou[2]?) fun uf=>
 optO (ou[3]?) fun ml=>
 optO (ou[4]?) fun uS=>
 optO (ou[5]?) fun lX=>
 optO (C lb n Qaq [.agg [.str [], .list true [], .int .i64 0, .list true [], .list true [], .int .i64 0], .agg [tv,lS,uf,ml,uS,lX]]) fun lM=>
 optO (CV.asB lM) fun uX=>
 bif (!uX) then
 (some (.bool false))
 else
 (optO (C lb n Qa3 [.list true [],tp]) fun lO=>
 optO (CV.asB lO) fun uL=>
 bif (!uL) then
 (some (.bool false))
 else
 (optO (CV.asI .i64 rF) fun tY=>
 bif ((18:Int) !=tY) then
 (some (.bool false))
 else
 (optO (C lb n Qaq [.agg [.str jj, .list jb jf, .int .i64 jg, .list je ja, .list jd jh, .int .i64 jc], .agg [.str jj, .list jb jf, .int .i64 jg, .list false ja, .list jd jh, .int .i64 jc]]) fun rr=>
 optO (CV.asB rr) fun rh=>
 bif (!rh) then
 (some (.bool false))
 else
 (optO (C lb n Qal []) fun uO=>
 some (uO)))))))
 else
 (optO (CV.asN gV) fun kU=>
 chkO ((decide (0≤(kU:Int)))&&(decide ((kU:Int)<((ja.length:Nat):Int)))) (
 chkO (CV.isCell g8) (
 optO (ot[0+kU.toNat]?) fun sk=>
 chkO (decide ((9:Nat)≤sk.length)) (
 QbQ lb n mI jj jb jf jg je ja jd jh jc jn jo wh jX (IntKind.wrap .i64 (oY+1)) (setN ot (0+kU.toNat) (QbI sk 8 [g8])))))))))
 else
 (Qc4 lb n jj jb jf jg je ja jd jh jc jn jo wh jX ot):=(Qah _).trans (by kernel_rfl)
theorem Qi5 (lb n:Nat) (jj:LB) (jb:Bool) (jf:LL) (jg:Int) (aseg6a:List CV) (aseg6b:LL) (jd:Bool) (jh:LL) (jc jn jo:Int) (wh jX:CV):
 QbP lb n jj jb jf jg false (aseg6a::aseg6b) jd jh jc jn jo wh jX=
 chkO ((aseg6a::aseg6b).all (·.length==10)) (
 chkO (room (aseg6a::aseg6b).length 112) (
 QbQ lb n n jj jb jf jg false (aseg6a::aseg6b) jd jh jc jn jo wh jX 0 (aseg6a::aseg6b))):=(Qah _).trans (by kernel_rfl)
theorem Qlk (lb n:Nat) (jj:LB) (jb:Bool) (jf:LL) (jg:Int) (je:Bool) (ja:LL) (jd:Bool) (jh:LL) (jc jn jo:Int):
 top lb n Qaa [.agg [.str jj, .list jb jf, .int .i64 jg, .list je ja, .list jd jh, .int .i64 jc], .int .i64 jn, .int .i64 jo]=
 optO (C lb n QaJ [.agg [.str jj, .list jb jf, .int .i64 jg, .list je ja, .list jd jh, .int .i64 jc]]) fun qw=>
 optO (CV.asB qw) fun vb=>
 bif (!vb) then
 (optO (C lb n Qal []) fun wd=>
 some (wd))
 else
 (optO (C lb n Qai [.agg [.str jj, .list jb jf, .int .i64 jg, .list je ja, .list jd jh, .int .i64 jc]]) fun qK=>
 optO (CV.asL qK) fun p18=>
 bif (decide ((p18.2.length:Int)>0)) then
 (optO (C lb n Qal []) fun jD=>
 some (jD))
 else
 (chkO (ja.all (·.length==10)) (
 chkO (room (0+ja.length) 112) (
 bif (decide (jn<0)) then
 (optO (C lb n Qap [.agg [.str jj, .list jb jf, .int .i64 jg, .list je ja, .list jd jh, .int .i64 jc], .int .i64 jn, .int .i64 jo]) fun nB=>
 optO (CV.asT nB) fun t21=>
 optO (t21[0]?) fun gh=>
 optO (CV.asT nB) fun t23=>
 optO (t23[1]?) fun qE=>
 optO (CV.asT nB) fun t25=>
 optO (t25[2]?) fun x26=>
 optO (CV.asA gh) fun kC=>
 chkO (kC.length==6) (
 optO (kC[0]?) fun we=>
 optO (kC[1]?) fun j8=>
 optO (kC[2]?) fun jY=>
 optO (kC[3]?) fun j7=>
 optO (kC[4]?) fun j5=>
 optO (kC[5]?) fun pY=>
 optO (C lb n Qaq [.agg [.str [], .list true [], .int .i64 0, .list true [], .list true [], .int .i64 0], .agg [we,j8,jY,j7,j5,pY]]) fun gM=>
 optO (CV.asB gM) fun kK=>
 bif (!kK) then
 (some (.bool false))
 else
 (optO (C lb n Qa3 [.list true [],qE]) fun r37=>
 optO (CV.asB r37) fun b38=>
 bif (!b38) then
 (some (.bool false))
 else
 (optO (CV.asI .i64 x26) fun i39=>
 bif ((7:Int) !=i39) then
 (some (.bool false))
 else
 (optO (C lb n Qaq [.agg [.str jj, .list jb jf, .int .i64 jg, .list je ja, .list jd jh, .int .i64 jc], .agg [.str jj, .list jb jf, .int .i64 jg, .list false ja, .list jd jh, .int .i64 jc]]) fun sH=>
 optO (CV.asB sH) fun qU=>
 bif (!qU) then
 (some (.bool false))
 else
 (optO (C lb n Qal []) fun qL=>
 some (qL)))))))
 else
 (bif (decide (jn≥(ja.length:Int))) then
 (optO (C lb n Qap [.agg [.str jj, .list jb jf, .int .i64 jg, .list je ja, .list jd jh, .int .i64 jc], .int .i64 jn, .int .i64 jo]) fun se=>
 optO (CV.asT se) fun t44=>
 optO (t44[0]?) fun gX=>
 optO (CV.asT se) fun t46=>
 optO (t46[1]?) fun ma=>
 optO (CV.asT se) fun t48=>
 optO (t48[2]?) fun x49=>
 optO (CV.asA gX) fun gQ=>
 chkO (gQ.length==6) (
 optO (gQ[0]?) fun nk=>
 optO (gQ[1]?) fun wy=>
 optO (gQ[2]?) fun g9=>
 optO (gQ[3]?) fun jU=>
 optO (gQ[4]?) fun nu=>
 optO (gQ[5]?) fun jW=>
 optO (C lb n Qaq [.agg [.str [], .list true [], .int .i64 0, .list true [], .list true [], .int .i64 0], .agg [nk,wy,g9,jU,nu,jW]]) fun r57=>
 optO (CV.asB r57) fun yg=>
 bif (!yg) then
 (some (.bool false))
 else
 (optO (C lb n Qa3 [.list true [],ma]) fun r59=>
 optO (CV.asB r59) fun gW=>
 bif (!gW) then
 (some (.bool false))
 else
 (optO (CV.asI .i64 x49) fun i61=>
 bif ((7:Int) !=i61) then
 (some (.bool false))
 else
 (optO (C lb n Qaq [.agg [.str jj, .list jb jf, .int .i64 jg, .list je ja, .list jd jh, .int .i64 jc], .agg [.str jj, .list jb jf, .int .i64 jg, .list false ja, .list jd jh, .int .i64 jc]]) fun r62=>
 optO (CV.asB r62) fun b63=>
 bif (!b63) then
 (some (.bool false))
 else
 (optO (C lb n Qal []) fun pX=>
 some (pX)))))))
 else
 (optO (atL ja jn) fun nx=>
 chkO (nx.length==10) (
 optO (nx[8]?) fun p7=>
 optO (C lb n QeI [p7, .int .i64 jo]) fun pZ=>
 optO (CV.asT pZ) fun qQ=>
 optO (qQ[0]?) fun wh=>
 optO (CV.asT pZ) fun sb=>
 optO (sb[1]?) fun jX=>
 optO (CV.asI .i64 jX) fun i73=>
 bif (i73 !=0) then
 (optO (C lb n Qap [.agg [.str jj, .list jb jf, .int .i64 jg, .list je ja, .list jd jh, .int .i64 jc], .int .i64 jn, .int .i64 jo]) fun gI=>
 optO (CV.asT gI) fun t75=>
 optO (t75[0]?) fun me=>
 optO (CV.asT gI) fun t77=>
 optO (t77[1]?) fun oN=>
 optO (CV.asT gI) fun t79=>
 optO (t79[2]?) fun mB=>
 optO (CV.asA me) fun gq=>
 chkO (gq.length==6) (
 optO (gq[0]?) fun mz=>
 optO (gq[1]?) fun mA=>
 optO (gq[2]?) fun mr=>
 optO (gq[3]?) fun mC=>
 optO (gq[4]?) fun gp=>
 optO (gq[5]?) fun pT=>
 optO (C lb n Qaq [.agg [.str [], .list true [], .int .i64 0, .list true [], .list true [], .int .i64 0], .agg [mz,mA,mr,mC,gp,pT]]) fun wc=>
 optO (CV.asB wc) fun b89=>
 bif (!b89) then
 (some (.bool false))
 else
 (optO (C lb n Qa3 [.list true [],oN]) fun r90=>
 optO (CV.asB r90) fun b91=>
 bif (!b91) then
 (some (.bool false))
 else
 (optO (CV.asI .i64 jX) fun oI=>
 optO (CV.asI .i64 mB) fun i93=>
 bif (oI !=i93) then
 (some (.bool false))
 else
 (optO (C lb n Qaq [.agg [.str jj, .list jb jf, .int .i64 jg, .list je ja, .list jd jh, .int .i64 jc], .agg [.str jj, .list jb jf, .int .i64 jg, .list false ja, .list jd jh, .int .i64 jc]]) fun r94=>
 optO (CV.asB r94) fun b95=>
 bif (!b95) then
 (some (.bool false))
 else
 (optO (CV.asI .i64 jX) fun i96=>
 bif (i96 !=0) then
 (optO (C lb n Qal []) fun r97=>
 some (r97))
 else
 (l35_BookingChanges_L1 lb n n jj jb jf jg je ja jd jh jc jn jo jX oN mB gI me mz mA mr mC gp pT)))))))
 else
 (bif (jo !=5) then
 (bif (jo !=6) then
 (bif (jo !=7) then
 (optO (C lb n QaS [.list je ja]) fun ur=>
 optO (C lb n QbM [ur, .int .i64 jn]) fun y2=>
 optO (CV.asT y2) fun rX=>
 optO (rX[0]?) fun jE=>
 optO (CV.asT y2) fun uV=>
 optO (uV[1]?) fun nT=>
 optO (CV.asI .i64 nT) fun lJ=>
 bif (lJ==0) then
 (chkO (CV.isCell jE) (
 optO (bytesOf (bif QjX jE then [] else [[]])) fun jcI=>
 optO (C lb n QcK [.list ((QlE jE).isEmpty) (QlE jE)]) fun jcH=>
 Qdg lb n jj jb jf jg je ja jd jh jc jn jo wh jX ((QlE jE).isEmpty) (QlE jE) jE nT jE))
 else
 (Qlv lb n jj jb jf jg je ja jd jh jc jn jo wh jX jE nT))
 else
 (QbP lb n jj jb jf jg je ja jd jh jc jn jo wh jX))
 else
 (QbP lb n jj jb jf jg je ja jd jh jc jn jo wh jX))
 else
 (QbP lb n jj jb jf jg je ja jd jh jc jn jo wh jX))))))))):=by kernel_rfl
end Go.Proofs.K2
