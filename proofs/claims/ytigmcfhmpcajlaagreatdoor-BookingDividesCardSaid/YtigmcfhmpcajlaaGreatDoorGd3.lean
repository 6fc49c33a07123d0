/- Equations of functions, printed by program. Conditions: none. -/
import Derived.Test.YtigmcfhmpcajlaaGreatDoorEv
namespace Go.Proofs
open Go.Am
set_option maxRecDepth 100000
set_option linter.unusedVariables false
noncomputable def r32_Split_L1 :=
 fun lb n (ol : Nat) (jk : Bool) (a2 : LL) (jK : Bool) (b4 : LL) vq =>
 hold (Qav (E0 lb n 0 994) 0 (Qag (sub (B QaB) [1,1,0,1,0,0]) ++ []) [] (sub (B QaB) [1,1,0,1,0,0]) (Qak 0 (seqK (E0 lb n 0 997) (sub (B QaB) [1,1,0]) (sub (B QaB) [1,1,1]) (retK Tryz.prog (R QaB) 0 (outK (Qad Tryz.prog QaB))))) ol ⟨fr 92 [(0, .val (.list jk a2)),(1, .val (.list jK b4)),(4, .lst true true 89 []),(5, .lst true true 89 []),(6,vI 0),(7, .rsl 4 0 7 0 ((a2.length : Int).toNat) ((a2.length : Int).toNat)),(8,vI vq),(13, .val (.list jk a2)),(14, .val (.int .i64 (a2.length : Int))),(15, .rsl 4 0 7 0 ((a2.length : Int).toNat) ((a2.length : Int).toNat))],[bx 92 [(7,some [.row 4 (List.replicate (a2.length : Int).toNat [.bool false])])]],KK⟩)
noncomputable def Qio (lb n : Nat) (jk : Bool) (a2 : LL) (jK : Bool) (b4 : LL) (wT : Int) : Option CV :=
 hold (E0 lb n 0 997 (sub (B QaB) [1,1,1]) (retK Tryz.prog (R QaB) 0 (outK (Qad Tryz.prog QaB))) ⟨fr 92 [(0, .val (.list jk a2)),(1, .val (.list jK b4)),(4, .lst true true 89 []),(5, .lst true true 89 []),(6,vI 0),(7, .rsl 4 0 7 0 ((a2.length : Int).toNat) ((a2.length : Int).toNat)),(8,vI wT),(13, .val (.list jk a2)),(14, .val (.int .i64 (a2.length : Int))),(15, .rsl 4 0 7 0 ((a2.length : Int).toNat) ((a2.length : Int).toNat))],[bx 92 [(7,some [.row 4 (List.replicate (a2.length : Int).toNat [.bool false])])]],KK⟩)
noncomputable def QfZ (lb n oN : Nat) (jk : Bool) (a2 : LL) (jK : Bool) (b4 : LL) (wT o6 : Int) (g9 : LL) : Option CV :=
 hold (Qav (E0 lb n 0 993) 0 (Qag (sub (B QaB) [1,1,1,0,1,0,0]) ++ []) [] (sub (B QaB) [1,1,1,0,1,0,0]) (Qak 2 (seqK (E0 lb n 0 996) (sub (B QaB) [1,1,1,0]) (sub (B QaB) [1,1,1,1]) (retK Tryz.prog (R QaB) 0 (outK (Qad Tryz.prog QaB))))) oN ⟨fr 92 [(0, .val (.list jk a2)),(1, .val (.list jK b4)),(4, .lst true true 89 []),(5, .lst true true 89 []),(6,vI 0),(7, .rsl 4 0 7 0 ((a2.length : Int).toNat) ((a2.length : Int).toNat)),(8,vI wT),(9,vI o6),(13, .val (.list jk a2)),(14, .val (.int .i64 (a2.length : Int))),(15, .rsl 4 0 7 0 ((a2.length : Int).toNat) ((a2.length : Int).toNat))],[bx 92 [(7,some [.row 4 g9])]],KK⟩)
noncomputable def Qgr (lb n : Nat) (jk : Bool) (a2 : LL) (jK : Bool) (b4 : LL) (wT vu : Int) (kb : LL) : Option CV :=
 hold (E0 lb n 0 996 (sub (B QaB) [1,1,1,1]) (retK Tryz.prog (R QaB) 0 (outK (Qad Tryz.prog QaB))) ⟨fr 92 [(0, .val (.list jk a2)),(1, .val (.list jK b4)),(4, .lst true true 89 []),(5, .lst true true 89 []),(6,vI 0),(7, .rsl 4 0 7 0 ((a2.length : Int).toNat) ((a2.length : Int).toNat)),(8,vI wT),(9,vI vu),(13, .val (.list jk a2)),(14, .val (.int .i64 (a2.length : Int))),(15, .rsl 4 0 7 0 ((a2.length : Int).toNat) ((a2.length : Int).toNat))],[bx 92 [(7,some [.row 4 kb])]],KK⟩)
noncomputable def QeD (lb n nz : Nat) (jk : Bool) (a2 : LL) (jK : Bool) (b4 : LL) (wT vu : Int) (kb : LL) (ma : Bool) (gF : LL) (ka : Bool) (vm : LL) (ko : Int) : Option CV :=
 hold (Qav (E0 lb n 0 990) 0 (Qag (sub (B QaB) [1,1,1,1,1,1,0,1,0,0]) ++ []) [] (sub (B QaB) [1,1,1,1,1,1,0,1,0,0]) (Qak 4 (seqK (E0 lb n 0 993) (sub (B QaB) [1,1,1,1,1,1,0]) (sub (B QaB) [1,1,1,1,1,1,1]) (retK Tryz.prog (R QaB) 0 (outK (Qad Tryz.prog QaB))))) nz ⟨fr 92 [(0, .val (.list jk a2)),(1, .val (.list jK b4)),(4, .lst true true 89 []),(5, .lst true true 89 []),(6,vI 0),(7, .rsl 4 0 7 0 ((a2.length : Int).toNat) ((a2.length : Int).toNat)),(8,vI wT),(9,vI vu),(10, .lst true ma 89 gF),(11, .lst true ka 89 vm),(12,vI ko),(13, .val (.list jk a2)),(14, .val (.int .i64 (a2.length : Int))),(15, .rsl 4 0 7 0 ((a2.length : Int).toNat) ((a2.length : Int).toNat))],[bx 92 [(7,some [.row 4 kb])]],KK⟩)
noncomputable def QiB (lb n : Nat) (jk : Bool) (a2 : LL) (jK : Bool) (b4 : LL) (wT vu : Int) (kb : LL) (oB : Bool) (gX : LL) (ky : Bool) (kx : LL) (nJ : Int) : Option CV :=
 hold (E0 lb n 0 993 (sub (B QaB) [1,1,1,1,1,1,1]) (retK Tryz.prog (R QaB) 0 (outK (Qad Tryz.prog QaB))) ⟨fr 92 [(0, .val (.list jk a2)),(1, .val (.list jK b4)),(4, .lst true true 89 []),(5, .lst true true 89 []),(6,vI 0),(7, .rsl 4 0 7 0 ((a2.length : Int).toNat) ((a2.length : Int).toNat)),(8,vI wT),(9,vI vu),(10, .lst true oB 89 gX),(11, .lst true ky 89 kx),(12,vI nJ),(13, .val (.list jk a2)),(14, .val (.int .i64 (a2.length : Int))),(15, .rsl 4 0 7 0 ((a2.length : Int).toNat) ((a2.length : Int).toNat))],[bx 92 [(7,some [.row 4 kb])]],KK⟩)
theorem Qo7 (lb n : Nat) (jk : Bool) (a2 : LL) (jK : Bool) (b4 : LL) (wT vu : Int) (kb : LL) (oB : Bool) (gX : LL) (ky : Bool) (kx : LL) (nJ : Int) :
 QiB lb n jk a2 jK b4 wT vu kb oB gX ky kx nJ =
 optO (C lb n QbC [.list oB gX]) fun tx =>
 optO (CV.asB tx) fun rk =>
 bif (!rk) then
 (some (.tup [.list true [], .list true [], .int .i64 25]))
 else
 (optO (C lb n QbC [.list ky kx]) fun zr =>
 optO (CV.asB zr) fun zt =>
 bif (!zt) then
 (some (.tup [.list true [], .list true [], .int .i64 25]))
 else
 (some (.tup [.list oB gX, .list ky kx, .int .i64 0]))) := (Qac _).trans (by kernel_rfl)
theorem QhS (lb n nz : Nat) (jk : Bool) (a2 : LL) (jK : Bool) (b4 : LL) (wT vu : Int) (kb : LL) (ma : Bool) (gF : LL) (ka : Bool) (vm : LL) (ko : Int) :
 QeD lb n (nz + 1) jk a2 jK b4 wT vu kb ma gF ka vm ko =
 bif (decide (ko < (a2.length : Int))) then
 (chkO ((decide (0 ≤ (ko : Int))) && (decide ((ko : Int) < ((((a2.length : Int).toNat) : Nat) : Int)))) (
 optO (kb[0 + ko.toNat]?) fun c96 =>
 optO (c96[0]?) fun wv =>
 optO (CV.asB wv) fun b98 =>
 bif b98 then
 (optO (atL a2 ko) fun y3 =>
 chkO (y3.length == 3) (
 optO (y3[0]?) fun jC =>
 optO (y3[1]?) fun jH =>
 optO (y3[2]?) fun w5 =>
 chkO (room (gF.length + 1) 48) (
 QeD lb n nz jk a2 jK b4 wT vu kb (ma && false) (gF ++ [[jC,jH,w5]]) ka vm (IntKind.wrap .i64 (ko + 1)))))
 else
 (optO (atL a2 ko) fun mw =>
 chkO (mw.length == 3) (
 optO (mw[0]?) fun jG =>
 optO (mw[1]?) fun jF =>
 optO (mw[2]?) fun jW =>
 chkO (room (vm.length + 1) 48) (
 QeD lb n nz jk a2 jK b4 wT vu kb ma gF (ka && false) (vm ++ [[jG,jF,jW]]) (IntKind.wrap .i64 (ko + 1)))))))
 else
 (QiB lb n jk a2 jK b4 wT vu kb ma gF ka vm ko) := (Qac _).trans (by kernel_rfl)
theorem Qjc (lb n : Nat) (jk : Bool) (a2 : LL) (jK : Bool) (b4 : LL) (wT vu : Int) (kb : LL) :
 Qgr lb n jk a2 jK b4 wT vu kb =
 bif ((b4.length : Int) == 0) then
 (some (.tup [.list true [], .list true [], .int .i64 2]))
 else
 (QeD lb n n jk a2 jK b4 wT vu kb true [] true [] 0) := (Qac _).trans (by kernel_rfl)
theorem QhY (lb n oN : Nat) (jk : Bool) (a2 : LL) (jK : Bool) (b4 : LL) (wT o6 : Int) (g9 : LL) :
 QfZ lb n (oN + 1) jk a2 jK b4 wT o6 g9 =
 bif (decide (o6 < (b4.length : Int))) then
 (optO (atL b4 o6) fun gM =>
 chkO (gM.length == 1) (
 optO (gM[0]?) fun gU =>
 optO (CV.asN gU) fun wP =>
 chkO ((decide (0 ≤ (wP : Int))) && (decide ((wP : Int) < ((((a2.length : Int).toNat) : Nat) : Int)))) (
 optO (g9[0 + wP.toNat]?) fun c55 =>
 optO (c55[0]?) fun wb =>
 optO (CV.asB wb) fun yu =>
 bif yu then
 (some (.tup [.list true [], .list true [], .int .i64 6]))
 else
 (optO (atL b4 o6) fun oo =>
 chkO (oo.length == 1) (
 optO (oo[0]?) fun wB =>
 optO (CV.asN wB) fun yH =>
 chkO ((decide (0 ≤ (yH : Int))) && (decide ((yH : Int) < ((((a2.length : Int).toNat) : Nat) : Int)))) (
 optO (g9[0 + yH.toNat]?) fun s9 =>
 chkO (decide ((1 : Nat) ≤ s9.length)) (
 QfZ lb n oN jk a2 jK b4 wT (IntKind.wrap .i64 (o6 + 1)) (setN g9 (0 + yH.toNat) (Qbv s9 0 [.bool true])))))))))
 else
 (Qgr lb n jk a2 jK b4 wT o6 g9) := (Qac _).trans (by kernel_rfl)
theorem Qpo (lb n : Nat) (jk : Bool) (a2 : LL) (jK : Bool) (b4 : LL) (wT : Int) :
 Qio lb n jk a2 jK b4 wT =
 QfZ lb n n jk a2 jK b4 wT 0 (List.replicate (a2.length : Int).toNat [.bool false]) := (Qac _).trans (by kernel_rfl)
theorem QhW (lb n ol : Nat) (jk : Bool) (a2 : LL) (jK : Bool) (b4 : LL) (vq : Int) :
 r32_Split_L1 lb n (ol + 1) jk a2 jK b4 vq =
 bif (decide (vq < (b4.length : Int))) then
 (optO (atL b4 vq) fun c21 =>
 chkO (c21.length == 1) (
 optO (c21[0]?) fun pN =>
 optO (CV.asI .i64 pN) fun qt =>
 bif (decide (qt < 0)) then
 (some (.tup [.list true [], .list true [], .int .i64 7]))
 else
 (optO (atL b4 vq) fun pX =>
 chkO (pX.length == 1) (
 optO (pX[0]?) fun jO =>
 optO (CV.asI .i64 jO) fun tV =>
 bif (decide (tV ≥ (a2.length : Int))) then
 (some (.tup [.list true [], .list true [], .int .i64 7]))
 else
 (r32_Split_L1 lb n ol jk a2 jK b4 (IntKind.wrap .i64 (vq + 1)))))))
 else
 (Qio lb n jk a2 jK b4 vq) := (Qac _).trans (by kernel_rfl)
theorem Qsr (lb n : Nat) (jk : Bool) (a2 : LL) (jK : Bool) (b4 : LL) :
 top lb n QaB [.list jk a2, .list jK b4] =
 chkO (decide (0 ≤ ((a2.length : Int) : Int)) && decide (((a2.length : Int) : Int) ≤ ((a2.length : Int) : Int)) && decide (((a2.length : Int) : Int) * 1 ≤ 140737488355328) && decide (((a2.length : Int) : Int) ≤ 140737488355328)) (
 chkO (decide (((a2.length : Int) : Int) = (a2.length : Int))) (
 r32_Split_L1 lb n n jk a2 jK b4 0)) := by kernel_rfl
noncomputable def Qdp (lb n qd : Nat) (jj : LB) (jb : Bool) (jd : LL) (jg : Int) (ja : Bool) (jf : LL) (je : Bool) (jh : LL) (jc : Int) (jn : Bool) (jv : LL) (jp : LB) (jq jr jm jy : CV) (g8 : Int) (mi : LL) : Option CV :=
 hold (Qav (E0 lb n 0 988) 0 (Qag (sub (B Qaj) [1,1,1,1,1,1,1,1,0,1,0,0]) ++ []) [] (sub (B Qaj) [1,1,1,1,1,1,1,1,0,1,0,0]) (Qak 0 (seqK (E0 lb n 0 991) (sub (B Qaj) [1,1,1,1,1,1,1,1,0]) (sub (B Qaj) [1,1,1,1,1,1,1,1,1]) (retK Tryz.prog (R Qaj) 0 (outK (Qad Tryz.prog Qaj))))) qd ⟨fr 132 [(0, .val (.agg [.str jj, .list jb jd, .int .i64 jg, .list ja jf, .list je jh, .int .i64 jc])),(1, .val (.list jn jv)),(2,vS jp),(3, .ptr 0 3 0),(6, .ptr 0 6 0),(7, .ptr 0 7 0),(8,vI 0),(9,vV jq),(10,vV jr),(11,vV jm),(12, .rsl 4 0 12 0 ((jd.length : Int).toNat) ((jd.length : Int).toNat)),(13,vI g8),(19,vV jy),(20, .ptr 0 3 1),(21, .val (.list jb jd)),(22, .val (.list jn jv)),(23,vV jy),(24,vV jq),(25,vV jr),(26,vV jm),(58, .ptr 0 3 1),(59, .val (.list jb jd)),(60, .val (.int .i64 (jd.length : Int))),(61, .rsl 4 0 12 0 ((jd.length : Int).toNat) ((jd.length : Int).toNat))],[bx 132 [(3,some [vS jj, .val (.list jb jd),vI jg, .val (.list ja jf), .val (.list je jh),vI jc]),(6,some [.val (.str []), .lst true true 89 [],vI 0, .lst true true 39 [], .lst true true 70 [],vI 0]),(7,some [.val (.str []), .lst true true 89 [],vI 0, .lst true true 39 [], .lst true true 70 [],vI 0]),(12,some [.row 4 mi])]],KK⟩)
noncomputable def QhQ (lb n : Nat) (jj : LB) (jb : Bool) (jd : LL) (jg : Int) (ja : Bool) (jf : LL) (je : Bool) (jh : LL) (jc : Int) (jn : Bool) (jv : LL) (jp : LB) (jq jr jm jy : CV) (w6 : Int) (wZ : LL) : Option CV :=
 hold (E0 lb n 0 991 (sub (B Qaj) [1,1,1,1,1,1,1,1,1]) (retK Tryz.prog (R Qaj) 0 (outK (Qad Tryz.prog Qaj))) ⟨fr 132 [(0, .val (.agg [.str jj, .list jb jd, .int .i64 jg, .list ja jf, .list je jh, .int .i64 jc])),(1, .val (.list jn jv)),(2,vS jp),(3, .ptr 0 3 0),(6, .ptr 0 6 0),(7, .ptr 0 7 0),(8,vI 0),(9,vV jq),(10,vV jr),(11,vV jm),(12, .rsl 4 0 12 0 ((jd.length : Int).toNat) ((jd.length : Int).toNat)),(13,vI w6),(19,vV jy),(20, .ptr 0 3 1),(21, .val (.list jb jd)),(22, .val (.list jn jv)),(23,vV jy),(24,vV jq),(25,vV jr),(26,vV jm),(58, .ptr 0 3 1),(59, .val (.list jb jd)),(60, .val (.int .i64 (jd.length : Int))),(61, .rsl 4 0 12 0 ((jd.length : Int).toNat) ((jd.length : Int).toNat))],[bx 132 [(3,some [vS jj, .val (.list jb jd),vI jg, .val (.list ja jf), .val (.list je jh),vI jc]),(6,some [.val (.str []), .lst true true 89 [],vI 0, .lst true true 39 [], .lst true true 70 [],vI 0]),(7,some [.val (.str []), .lst true true 89 [],vI 0, .lst true true 39 [], .lst true true 70 [],vI 0]),(12,some [.row 4 wZ])]],KK⟩)
noncomputable def QcM (lb n yJ : Nat) (jj : LB) (jb : Bool) (jd : LL) (jg : Int) (ja : Bool) (jf : LL) (je : Bool) (jh : LL) (jc : Int) (jn : Bool) (jv : LL) (jp : LB) (jq jr jm : CV) (w6 : Int) (jy : CV) (wZ : LL) (yU : Int) (y5 : Bool) (y0 : LL) (y4 : Bool) (yY : LL) : Option CV :=
 hold (Qav (E0 lb n 0 984) 0 (Qag (sub (B Qaj) [1,1,1,1,1,1,1,1,1,1,1,1,0,1,0,0]) ++ [18]) [17] (sub (B Qaj) [1,1,1,1,1,1,1,1,1,1,1,1,0,1,0,0]) (Qak 2 (seqK (E0 lb n 0 987) (sub (B Qaj) [1,1,1,1,1,1,1,1,1,1,1,1,0]) (sub (B Qaj) [1,1,1,1,1,1,1,1,1,1,1,1,1]) (retK Tryz.prog (R Qaj) 0 (outK (Qad Tryz.prog Qaj))))) yJ ⟨fr 132 [(0, .val (.agg [.str jj, .list jb jd, .int .i64 jg, .list ja jf, .list je jh, .int .i64 jc])),(1, .val (.list jn jv)),(2,vS jp),(3, .ptr 0 3 0),(6, .ptr 0 6 0),(7, .ptr 0 7 0),(8,vI 0),(9,vV jq),(10,vV jr),(11,vV jm),(12, .rsl 4 0 12 0 ((jd.length : Int).toNat) ((jd.length : Int).toNat)),(13,vI w6),(14, .ptr 0 14 0),(15, .ptr 0 15 0),(16,vI yU),(19,vV jy),(20, .ptr 0 3 1),(21, .val (.list jb jd)),(22, .val (.list jn jv)),(23,vV jy),(24,vV jq),(25,vV jr),(26,vV jm),(58, .ptr 0 3 1),(59, .val (.list jb jd)),(60, .val (.int .i64 (jd.length : Int))),(61, .rsl 4 0 12 0 ((jd.length : Int).toNat) ((jd.length : Int).toNat)),(74, .val (.agg [.str jj, .list jb jd, .int .i64 jg, .list ja jf, .list je jh, .int .i64 jc])),(75, .val (.agg [.str jj, .list jb jd, .int .i64 jg, .list ja jf, .list je jh, .int .i64 jc])),(76,vV jr),(77, .ptr 0 14 1),(78, .ptr 0 14 4),(79,vV jq),(80,vS jp),(81, .ptr 0 15 1),(82, .ptr 0 15 4),(83, .ptr 0 15 2),(84, .ptr 0 15 0)],[bx 132 [(3,some [vS jj, .val (.list jb jd),vI jg, .val (.list ja jf), .val (.list je jh),vI jc]),(6,some [.val (.str []), .lst true true 89 [],vI 0, .lst true true 39 [], .lst true true 70 [],vI 0]),(7,some [.val (.str []), .lst true true 89 [],vI 0, .lst true true 39 [], .lst true true 70 [],vI 0]),(12,some [.row 4 wZ]),(14,some [vS jj, .val jr,vI jg, .val (.list ja jf), .lst true y5 70 y0,vI jc]),(15,some [vS jp, .val jq,vI 0, .val (.list ja jf), .lst true y4 70 yY,vI jc])]],KK⟩)
noncomputable def Qd5 (lb n gY : Nat) (jj : LB) (jb : Bool) (jd : LL) (jg : Int) (ja : Bool) (jf : LL) (je : Bool) (jh : LL) (jc : Int) (jn : Bool) (jv : LL) (jp : LB) (jq jr jm : CV) (w6 yU : Int) (j8 jy : CV) (yZ : List CV) (yx w4 yP : CV) (wk : Int) (wZ : LL) (y5 : Bool) (y0 : LL) (y4 : Bool) (yY : LL) (yJ : Nat) (oV ks : Int) : Option CV :=
 hold (Qav (E1 lb n 1 994) 1 (Qag (sub (B Qd4) [1,1,0,1,0,0]) ++ []) [] (sub (B Qd4) [1,1,0,1,0,0]) (Qak 0 (seqK (E1 lb n 1 997) (sub (B Qd4) [1,1,0]) (sub (B Qd4) [1,1,1]) (retK Tryz.prog (R Qd4) 1 (inlK (opAt (Qdj (sub (B Qaj) [1,1,1,1,1,1,1,1,1,1,1,1,0,1,0,0,1,0,0,1,1,1,0])) 3) ⟨fr 132 [(0, .val (.agg [.str jj, .list jb jd, .int .i64 jg, .list ja jf, .list je jh, .int .i64 jc])),(1, .val (.list jn jv)),(2,vS jp),(3, .ptr 0 3 0),(6, .ptr 0 6 0),(7, .ptr 0 7 0),(8,vI 0),(9,vV jq),(10,vV jr),(11,vV jm),(12, .rsl 4 0 12 0 ((jd.length : Int).toNat) ((jd.length : Int).toNat)),(13,vI w6),(14, .ptr 0 14 0),(15, .ptr 0 15 0),(16,vI yU),(17, .ptr 0 17 0),(18,vV j8),(19,vV jy),(20, .ptr 0 3 1),(21, .val (.list jb jd)),(22, .val (.list jn jv)),(23,vV jy),(24,vV jq),(25,vV jr),(26,vV jm),(58, .ptr 0 3 1),(59, .val (.list jb jd)),(60, .val (.int .i64 (jd.length : Int))),(61, .rsl 4 0 12 0 ((jd.length : Int).toNat) ((jd.length : Int).toNat)),(74, .val (.agg [.str jj, .list jb jd, .int .i64 jg, .list ja jf, .list je jh, .int .i64 jc])),(75, .val (.agg [.str jj, .list jb jd, .int .i64 jg, .list ja jf, .list je jh, .int .i64 jc])),(76,vV jr),(77, .ptr 0 14 1),(78, .ptr 0 14 4),(79,vV jq),(80,vS jp),(81, .ptr 0 15 1),(82, .ptr 0 15 4),(83, .ptr 0 15 2),(84, .ptr 0 15 0),(92, .ptr 0 3 4),(93, .val (.list je jh)),(94,vI yU),(95, .cptr yZ 0),(96, .val (.agg [yx,w4,yP])),(107, .rsl 4 0 12 0 ((jd.length : Int).toNat) ((jd.length : Int).toNat)),(108, .ptr 0 17 1),(109,vV w4),(110, .rptr 4 0 12 (0 + wk.toNat) 0),(111,vV j8),(112, .rsl 4 0 12 0 ((jd.length : Int).toNat) ((jd.length : Int).toNat)),(113, .ptr 0 17 1),(114,vV w4)],[bx 132 [(3,some [vS jj, .val (.list jb jd),vI jg, .val (.list ja jf), .val (.list je jh),vI jc]),(6,some [.val (.str []), .lst true true 89 [],vI 0, .lst true true 39 [], .lst true true 70 [],vI 0]),(7,some [.val (.str []), .lst true true 89 [],vI 0, .lst true true 39 [], .lst true true 70 [],vI 0]),(12,some [.row 4 wZ]),(14,some [vS jj, .val jr,vI jg, .val (.list ja jf), .lst true y5 70 y0,vI jc]),(15,some [vS jp, .val jq,vI 0, .val (.list ja jf), .lst true y4 70 yY,vI jc]),(17,some [.val yx, .val w4, .val yP])]],KK⟩ (opsK Tryz.prog (C lb n) (I9 lb n) 0 (Qdj (sub (B Qaj) [1,1,1,1,1,1,1,1,1,1,1,1,0,1,0,0,1,0,0,1,1,1,0])) ((Qdj (sub (B Qaj) [1,1,1,1,1,1,1,1,1,1,1,1,0,1,0,0,1,0,0,1,1,1,0])).drop 4) ((seqK (E0 lb n 0 977) (sub (B Qaj) [1,1,1,1,1,1,1,1,1,1,1,1,0,1,0,0,1,0,0,1,1,1,0]) (sub (B Qaj) [1,1,1,1,1,1,1,1,1,1,1,1,0,1,0,0,1,0,0,1,1,1,1]) (Qak 3 (seqK (E0 lb n 0 982) (sub (B Qaj) [1,1,1,1,1,1,1,1,1,1,1,1,0,1,0,0,1,0]) (sub (B Qaj) [1,1,1,1,1,1,1,1,1,1,1,1,0,1,0,0,1,1]) (QbG 0 (Qag (sub (B Qaj) [1,1,1,1,1,1,1,1,1,1,1,1,0,1,0,0]) ++ [18]) [17] (Qav (E0 lb n 0 984) 0 (Qag (sub (B Qaj) [1,1,1,1,1,1,1,1,1,1,1,1,0,1,0,0]) ++ [18]) [17] (sub (B Qaj) [1,1,1,1,1,1,1,1,1,1,1,1,0,1,0,0]) (Qak 2 (seqK (E0 lb n 0 987) (sub (B Qaj) [1,1,1,1,1,1,1,1,1,1,1,1,0]) (sub (B Qaj) [1,1,1,1,1,1,1,1,1,1,1,1,1]) (retK Tryz.prog (R Qaj) 0 (outK (Qad Tryz.prog Qaj))))) yJ) (Qak 2 (seqK (E0 lb n 0 987) (sub (B Qaj) [1,1,1,1,1,1,1,1,1,1,1,1,0]) (sub (B Qaj) [1,1,1,1,1,1,1,1,1,1,1,1,1]) (retK Tryz.prog (R Qaj) 0 (outK (Qad Tryz.prog Qaj))))))))) .normal)))))) gY ⟨fr 24 [(0, .rsl 4 0 12 0 ((jd.length : Int).toNat) ((jd.length : Int).toNat)),(1,vV w4),(4,vI 0),(5,vI oV),(6,vI ks)],[bx 132 [(3,some [vS jj, .val (.list jb jd),vI jg, .val (.list ja jf), .val (.list je jh),vI jc]),(6,some [.val (.str []), .lst true true 89 [],vI 0, .lst true true 39 [], .lst true true 70 [],vI 0]),(7,some [.val (.str []), .lst true true 89 [],vI 0, .lst true true 39 [], .lst true true 70 [],vI 0]),(12,some [.row 4 wZ]),(14,some [vS jj, .val jr,vI jg, .val (.list ja jf), .lst true y5 70 y0,vI jc]),(15,some [vS jp, .val jq,vI 0, .val (.list ja jf), .lst true y4 70 yY,vI jc]),(17,some [.val yx, .val w4, .val yP])],bx 24 []],KK⟩)
noncomputable def QhG (lb n : Nat) (jj : LB) (jb : Bool) (jd : LL) (jg : Int) (ja : Bool) (jf : LL) (je : Bool) (jh : LL) (jc : Int) (jn : Bool) (jv : LL) (jp : LB) (jq jr jm : CV) (w6 yU : Int) (j8 jy : CV) (yZ : List CV) (yx w4 yP : CV) (wk : Int) (wZ : LL) (y5 : Bool) (y0 : LL) (y4 : Bool) (yY : LL) (yJ : Nat) (i171 nU : Int) : Option CV :=
 hold (E1 lb n 1 997 (sub (B Qd4) [1,1,1]) (retK Tryz.prog (R Qd4) 1 (inlK (opAt (Qdj (sub (B Qaj) [1,1,1,1,1,1,1,1,1,1,1,1,0,1,0,0,1,0,0,1,1,1,0])) 3) ⟨fr 132 [(0, .val (.agg [.str jj, .list jb jd, .int .i64 jg, .list ja jf, .list je jh, .int .i64 jc])),(1, .val (.list jn jv)),(2,vS jp),(3, .ptr 0 3 0),(6, .ptr 0 6 0),(7, .ptr 0 7 0),(8,vI 0),(9,vV jq),(10,vV jr),(11,vV jm),(12, .rsl 4 0 12 0 ((jd.length : Int).toNat) ((jd.length : Int).toNat)),(13,vI w6),(14, .ptr 0 14 0),(15, .ptr 0 15 0),(16,vI yU),(17, .ptr 0 17 0),(18,vV j8),(19,vV jy),(20, .ptr 0 3 1),(21, .val (.list jb jd)),(22, .val (.list jn jv)),(23,vV jy),(24,vV jq),(25,vV jr),(26,vV jm),(58, .ptr 0 3 1),(59, .val (.list jb jd)),(60, .val (.int .i64 (jd.length : Int))),(61, .rsl 4 0 12 0 ((jd.length : Int).toNat) ((jd.length : Int).toNat)),(74, .val (.agg [.str jj, .list jb jd, .int .i64 jg, .list ja jf, .list je jh, .int .i64 jc])),(75, .val (.agg [.str jj, .list jb jd, .int .i64 jg, .list ja jf, .list je jh, .int .i64 jc])),(76,vV jr),(77, .ptr 0 14 1),(78, .ptr 0 14 4),(79,vV jq),(80,vS jp),(81, .ptr 0 15 1),(82, .ptr 0 15 4),(83, .ptr 0 15 2),(84, .ptr 0 15 0),(92, .ptr 0 3 4),(93, .val (.list je jh)),(94,vI yU),(95, .cptr yZ 0),(96, .val (.agg [yx,w4,yP])),(107, .rsl 4 0 12 0 ((jd.length : Int).toNat) ((jd.length : Int).toNat)),(108, .ptr 0 17 1),(109,vV w4),(110, .rptr 4 0 12 (0 + wk.toNat) 0),(111,vV j8),(112, .rsl 4 0 12 0 ((jd.length : Int).toNat) ((jd.length : Int).toNat)),(113, .ptr 0 17 1),(114,vV w4)],[bx 132 [(3,some [vS jj, .val (.list jb jd),vI jg, .val (.list ja jf), .val (.list je jh),vI jc]),(6,some [.val (.str []), .lst true true 89 [],vI 0, .lst true true 39 [], .lst true true 70 [],vI 0]),(7,some [.val (.str []), .lst true true 89 [],vI 0, .lst true true 39 [], .lst true true 70 [],vI 0]),(12,some [.row 4 wZ]),(14,some [vS jj, .val jr,vI jg, .val (.list ja jf), .lst true y5 70 y0,vI jc]),(15,some [vS jp, .val jq,vI 0, .val (.list ja jf), .lst true y4 70 yY,vI jc]),(17,some [.val yx, .val w4, .val yP])]],KK⟩ (opsK Tryz.prog (C lb n) (I9 lb n) 0 (Qdj (sub (B Qaj) [1,1,1,1,1,1,1,1,1,1,1,1,0,1,0,0,1,0,0,1,1,1,0])) ((Qdj (sub (B Qaj) [1,1,1,1,1,1,1,1,1,1,1,1,0,1,0,0,1,0,0,1,1,1,0])).drop 4) ((seqK (E0 lb n 0 977) (sub (B Qaj) [1,1,1,1,1,1,1,1,1,1,1,1,0,1,0,0,1,0,0,1,1,1,0]) (sub (B Qaj) [1,1,1,1,1,1,1,1,1,1,1,1,0,1,0,0,1,0,0,1,1,1,1]) (Qak 3 (seqK (E0 lb n 0 982) (sub (B Qaj) [1,1,1,1,1,1,1,1,1,1,1,1,0,1,0,0,1,0]) (sub (B Qaj) [1,1,1,1,1,1,1,1,1,1,1,1,0,1,0,0,1,1]) (QbG 0 (Qag (sub (B Qaj) [1,1,1,1,1,1,1,1,1,1,1,1,0,1,0,0]) ++ [18]) [17] (Qav (E0 lb n 0 984) 0 (Qag (sub (B Qaj) [1,1,1,1,1,1,1,1,1,1,1,1,0,1,0,0]) ++ [18]) [17] (sub (B Qaj) [1,1,1,1,1,1,1,1,1,1,1,1,0,1,0,0]) (Qak 2 (seqK (E0 lb n 0 987) (sub (B Qaj) [1,1,1,1,1,1,1,1,1,1,1,1,0]) (sub (B Qaj) [1,1,1,1,1,1,1,1,1,1,1,1,1]) (retK Tryz.prog (R Qaj) 0 (outK (Qad Tryz.prog Qaj))))) yJ) (Qak 2 (seqK (E0 lb n 0 987) (sub (B Qaj) [1,1,1,1,1,1,1,1,1,1,1,1,0]) (sub (B Qaj) [1,1,1,1,1,1,1,1,1,1,1,1,1]) (retK Tryz.prog (R Qaj) 0 (outK (Qad Tryz.prog Qaj))))))))) .normal)))) ⟨fr 24 [(0, .rsl 4 0 12 0 ((jd.length : Int).toNat) ((jd.length : Int).toNat)),(1,vV w4),(4,vI 0),(5,vI i171),(6,vI nU)],[bx 132 [(3,some [vS jj, .val (.list jb jd),vI jg, .val (.list ja jf), .val (.list je jh),vI jc]),(6,some [.val (.str []), .lst true true 89 [],vI 0, .lst true true 39 [], .lst true true 70 [],vI 0]),(7,some [.val (.str []), .lst true true 89 [],vI 0, .lst true true 39 [], .lst true true 70 [],vI 0]),(12,some [.row 4 wZ]),(14,some [vS jj, .val jr,vI jg, .val (.list ja jf), .lst true y5 70 y0,vI jc]),(15,some [vS jp, .val jq,vI 0, .val (.list ja jf), .lst true y4 70 yY,vI jc]),(17,some [.val yx, .val w4, .val yP])],bx 24 []],KK⟩)
theorem Qn8 (lb n : Nat) (jj : LB) (jb : Bool) (jd : LL) (jg : Int) (ja : Bool) (jf : LL) (je : Bool) (jh : LL) (jc : Int) (jn : Bool) (jv : LL) (jp : LB) (jq jr jm : CV) (w6 yU : Int) (j8 jy : CV) (yZ : List CV) (yx w4 yP : CV) (wk : Int) (wZ : LL) (y5 : Bool) (y0 : LL) (y4 : Bool) (yY : LL) (yJ : Nat) (i171 nU : Int) :
 QhG lb n jj jb jd jg ja jf je jh jc jn jv jp jq jr jm w6 yU j8 jy yZ yx w4 yP wk wZ y5 y0 y4 yY yJ i171 nU =
 optO (CV.asB j8) fun lW =>
 bif lW then
 (chkO (room (yY.length + 1) 32) (
 QcM lb n yJ jj jb jd jg ja jf je jh jc jn jv jp jq jr jm w6 jy wZ (IntKind.wrap .i64 (yU + 1)) y5 y0 (y4 && false) (yY ++ [[yx,CV.int .i64 i171,yP]])))
 else
 (chkO (room (y0.length + 1) 32) (
 QcM lb n yJ jj jb jd jg ja jf je jh jc jn jv jp jq jr jm w6 jy wZ (IntKind.wrap .i64 (yU + 1)) (y5 && false) (y0 ++ [[yx,CV.int .i64 i171,yP]]) y4 yY)) := (Qac _).trans (by kernel_rfl)
theorem QhA (lb n gY : Nat) (jj : LB) (jb : Bool) (jd : LL) (jg : Int) (ja : Bool) (jf : LL) (je : Bool) (jh : LL) (jc : Int) (jn : Bool) (jv : LL) (jp : LB) (jq jr jm : CV) (w6 yU : Int) (j8 jy : CV) (yZ : List CV) (yx w4 yP : CV) (wk : Int) (wZ : LL) (y5 : Bool) (y0 : LL) (y4 : Bool) (yY : LL) (yJ : Nat) (oV ks : Int) :
 Qd5 lb n (gY + 1) jj jb jd jg ja jf je jh jc jn jv jp jq jr jm w6 yU j8 jy yZ yx w4 yP wk wZ y5 y0 y4 yY yJ oV ks =
 optO (CV.asI .i64 w4) fun rO =>
 bif (decide (ks < rO)) then
 (chkO ((decide (0 ≤ (ks : Int))) && (decide ((ks : Int) < ((((jd.length : Int).toNat) : Nat) : Int)))) (
 optO (wZ[0 + ks.toNat]?) fun lC =>
 optO (lC[0]?) fun yy =>
 optO (CV.asN w4) fun nM =>
 chkO ((decide (0 ≤ (nM : Int))) && (decide ((nM : Int) < ((((jd.length : Int).toNat) : Nat) : Int)))) (
 optO (wZ[0 + nM.toNat]?) fun c167 =>
 optO (c167[0]?) fun n6 =>
 optO (CV.asB yy) fun tD =>
 optO (CV.asB n6) fun tP =>
 bif (tD == tP) then
 (Qd5 lb n gY jj jb jd jg ja jf je jh jc jn jv jp jq jr jm w6 yU j8 jy yZ yx w4 yP wk wZ y5 y0 y4 yY yJ (IntKind.wrap .i64 (oV + 1)) (IntKind.wrap .i64 (ks + 1)))
 else
 (Qd5 lb n gY jj jb jd jg ja jf je jh jc jn jv jp jq jr jm w6 yU j8 jy yZ yx w4 yP wk wZ y5 y0 y4 yY yJ oV (IntKind.wrap .i64 (ks + 1))))))
 else
 (QhG lb n jj jb jd jg ja jf je jh jc jn jv jp jq jr jm w6 yU j8 jy yZ yx w4 yP wk wZ y5 y0 y4 yY yJ oV ks) := (Qac _).trans (by kernel_rfl)
noncomputable def QhM (lb n : Nat) (jj : LB) (jb : Bool) (jd : LL) (jg : Int) (ja : Bool) (jf : LL) (je : Bool) (jh : LL) (jc : Int) (jn : Bool) (jv : LL) (jp : LB) (jq jr jm : CV) (w6 : Int) (jy : CV) (wZ : LL) (po : Int) (mZ : Bool) (mK : LL) (mC : Bool) (mR : LL) : Option CV :=
 hold (E0 lb n 0 987 (sub (B Qaj) [1,1,1,1,1,1,1,1,1,1,1,1,1]) (retK Tryz.prog (R Qaj) 0 (outK (Qad Tryz.prog Qaj))) ⟨fr 132 [(0, .val (.agg [.str jj, .list jb jd, .int .i64 jg, .list ja jf, .list je jh, .int .i64 jc])),(1, .val (.list jn jv)),(2,vS jp),(3, .ptr 0 3 0),(6, .ptr 0 6 0),(7, .ptr 0 7 0),(8,vI 0),(9,vV jq),(10,vV jr),(11,vV jm),(12, .rsl 4 0 12 0 ((jd.length : Int).toNat) ((jd.length : Int).toNat)),(13,vI w6),(14, .ptr 0 14 0),(15, .ptr 0 15 0),(16,vI po),(19,vV jy),(20, .ptr 0 3 1),(21, .val (.list jb jd)),(22, .val (.list jn jv)),(23,vV jy),(24,vV jq),(25,vV jr),(26,vV jm),(58, .ptr 0 3 1),(59, .val (.list jb jd)),(60, .val (.int .i64 (jd.length : Int))),(61, .rsl 4 0 12 0 ((jd.length : Int).toNat) ((jd.length : Int).toNat)),(74, .val (.agg [.str jj, .list jb jd, .int .i64 jg, .list ja jf, .list je jh, .int .i64 jc])),(75, .val (.agg [.str jj, .list jb jd, .int .i64 jg, .list ja jf, .list je jh, .int .i64 jc])),(76,vV jr),(77, .ptr 0 14 1),(78, .ptr 0 14 4),(79,vV jq),(80,vS jp),(81, .ptr 0 15 1),(82, .ptr 0 15 4),(83, .ptr 0 15 2),(84, .ptr 0 15 0)],[bx 132 [(3,some [vS jj, .val (.list jb jd),vI jg, .val (.list ja jf), .val (.list je jh),vI jc]),(6,some [.val (.str []), .lst true true 89 [],vI 0, .lst true true 39 [], .lst true true 70 [],vI 0]),(7,some [.val (.str []), .lst true true 89 [],vI 0, .lst true true 39 [], .lst true true 70 [],vI 0]),(12,some [.row 4 wZ]),(14,some [vS jj, .val jr,vI jg, .val (.list ja jf), .lst true mZ 70 mK,vI jc]),(15,some [vS jp, .val jq,vI 0, .val (.list ja jf), .lst true mC 70 mR,vI jc])]],KK⟩)
theorem Qob (lb n : Nat) (jj : LB) (jb : Bool) (jd : LL) (jg : Int) (ja : Bool) (jf : LL) (je : Bool) (jh : LL) (jc : Int) (jn : Bool) (jv : LL) (jp : LB) (jq jr jm : CV) (w6 : Int) (jy : CV) (wZ : LL) (po : Int) (mZ : Bool) (mK : LL) (mC : Bool) (mR : LL) :
 QhM lb n jj jb jd jg ja jf je jh jc jn jv jp jq jr jm w6 jy wZ po mZ mK mC mR =
 some (.tup [.agg [.str jj,jr, .int .i64 jg, .list ja jf, .list mZ mK, .int .i64 jc], .agg [.str jp,jq, .int .i64 0, .list ja jf, .list mC mR, .int .i64 jc], .int .i64 0]) := (Qac _).trans (by kernel_rfl)
theorem Qhu (lb n yJ : Nat) (jj : LB) (jb : Bool) (jd : LL) (jg : Int) (ja : Bool) (jf : LL) (je : Bool) (jh : LL) (jc : Int) (jn : Bool) (jv : LL) (jp : LB) (jq jr jm : CV) (w6 : Int) (jy : CV) (wZ : LL) (yU : Int) (y5 : Bool) (y0 : LL) (y4 : Bool) (yY : LL) :
 QcM lb n (yJ + 1) jj jb jd jg ja jf je jh jc jn jv jp jq jr jm w6 jy wZ yU y5 y0 y4 yY =
 bif (decide (yU < (jh.length : Int))) then
 (optO (atL jh yU) fun yZ =>
 chkO (yZ.length == 3) (
 optO (yZ[0]?) fun yx =>
 optO (yZ[1]?) fun w4 =>
 optO (yZ[2]?) fun yP =>
 optO (CV.asI .i64 w4) fun zM =>
 bif (decide (zM < 0)) then
 (QcM lb n yJ jj jb jd jg ja jf je jh jc jn jv jp jq jr jm w6 jy wZ (IntKind.wrap .i64 (yU + 1)) y5 y0 y4 yY)
 else
 (optO (CV.asI .i64 w4) fun lu =>
 bif (decide (lu ≥ (((jd.length : Int).toNat : Nat) : Int))) then
 (QcM lb n yJ jj jb jd jg ja jf je jh jc jn jv jp jq jr jm w6 jy wZ (IntKind.wrap .i64 (yU + 1)) y5 y0 y4 yY)
 else
 (optO (CV.asN w4) fun wk =>
 chkO ((decide (0 ≤ (wk : Int))) && (decide ((wk : Int) < ((((jd.length : Int).toNat) : Nat) : Int)))) (
 optO (wZ[0 + wk.toNat]?) fun rj =>
 optO (rj[0]?) fun j8 =>
 Qd5 lb n n jj jb jd jg ja jf je jh jc jn jv jp jq jr jm w6 yU j8 jy yZ yx w4 yP wk wZ y5 y0 y4 yY yJ 0 0)))))
 else
 (QhM lb n jj jb jd jg ja jf je jh jc jn jv jp jq jr jm w6 jy wZ yU y5 y0 y4 yY) := (Qac _).trans (by kernel_rfl)
theorem Qoo (lb n : Nat) (jj : LB) (jb : Bool) (jd : LL) (jg : Int) (ja : Bool) (jf : LL) (je : Bool) (jh : LL) (jc : Int) (jn : Bool) (jv : LL) (jp : LB) (jq jr jm jy : CV) (w6 : Int) (wZ : LL) :
 QhQ lb n jj jb jd jg ja jf je jh jc jn jv jp jq jr jm jy w6 wZ =
 chkO (CV.isCell jr) (
 chkO (CV.isCell jq) (
 QcM lb n n jj jb jd jg ja jf je jh jc jn jv jp jq jr jm w6 jy wZ 0 true [] true [])) := (Qac _).trans (by kernel_rfl)
theorem QhD (lb n qd : Nat) (jj : LB) (jb : Bool) (jd : LL) (jg : Int) (ja : Bool) (jf : LL) (je : Bool) (jh : LL) (jc : Int) (jn : Bool) (jv : LL) (jp : LB) (jq jr jm jy : CV) (g8 : Int) (mi : LL) :
 Qdp lb n (qd + 1) jj jb jd jg ja jf je jh jc jn jv jp jq jr jm jy g8 mi =
 bif (decide (g8 < (jv.length : Int))) then
 (optO (atL jv g8) fun gm =>
 chkO (gm.length == 1) (
 optO (gm[0]?) fun gi =>
 optO (CV.asN gi) fun pZ =>
 chkO ((decide (0 ≤ (pZ : Int))) && (decide ((pZ : Int) < ((((jd.length : Int).toNat) : Nat) : Int)))) (
 optO (mi[0 + pZ.toNat]?) fun ou =>
 chkO (decide ((1 : Nat) ≤ ou.length)) (
 Qdp lb n qd jj jb jd jg ja jf je jh jc jn jv jp jq jr jm jy (IntKind.wrap .i64 (g8 + 1)) (setN mi (0 + pZ.toNat) (Qbv ou 0 [.bool true]))))))
 else
 (QhQ lb n jj jb jd jg ja jf je jh jc jn jv jp jq jr jm jy g8 mi) := (Qac _).trans (by kernel_rfl)
theorem Qrh (lb n : Nat) (jj : LB) (jb : Bool) (jd : LL) (jg : Int) (ja : Bool) (jf : LL) (je : Bool) (jh : LL) (jc : Int) (jn : Bool) (jv : LL) (jp : LB) :
 top lb n Qaj [.agg [.str jj, .list jb jd, .int .i64 jg, .list ja jf, .list je jh, .int .i64 jc], .list jn jv, .str jp] =
 optO (C lb n QaB [.list jb jd, .list jn jv]) fun jy =>
 optO (CV.asT jy) fun qA =>
 optO (qA[0]?) fun jq =>
 optO (CV.asT jy) fun se =>
 optO (se[1]?) fun jr =>
 optO (CV.asT jy) fun t20 =>
 optO (t20[2]?) fun jm =>
 optO (CV.asI .i64 jm) fun jP =>
 bif (jP != 0) then
 (some (.tup [.agg [.str [], .list true [], .int .i64 0, .list true [], .list true [], .int .i64 0], .agg [.str [], .list true [], .int .i64 0, .list true [], .list true [], .int .i64 0],jm]))
 else
 (optO (CV.asL jr) fun sz =>
 bif ((sz.2.length : Int) == 0) then
 (bif (jg == 0) then
 (some (.tup [.agg [.str [], .list true [], .int .i64 0, .list true [], .list true [], .int .i64 0], .agg [.str [], .list true [], .int .i64 0, .list true [], .list true [], .int .i64 0], .int .i64 2]))
 else
 (optO (CV.asL jq) fun wY =>
 bif (decide ((wY.2.length : Int) > 9)) then
 (some (.tup [.agg [.str [], .list true [], .int .i64 0, .list true [], .list true [], .int .i64 0], .agg [.str [], .list true [], .int .i64 0, .list true [], .list true [], .int .i64 0], .int .i64 4]))
 else
 (optO (C lb n Qd9 [.str jp]) fun nq =>
 optO (CV.asB nq) fun wV =>
 bif (!wV) then
 (some (.tup [.agg [.str [], .list true [], .int .i64 0, .list true [], .list true [], .int .i64 0], .agg [.str [], .list true [], .int .i64 0, .list true [], .list true [], .int .i64 0], .int .i64 5]))
 else
 (bif (jp == jj) then
 (some (.tup [.agg [.str [], .list true [], .int .i64 0, .list true [], .list true [], .int .i64 0], .agg [.str [], .list true [], .int .i64 0, .list true [], .list true [], .int .i64 0], .int .i64 6]))
 else
 (chkO (decide (0 ≤ ((jd.length : Int) : Int)) && decide (((jd.length : Int) : Int) ≤ ((jd.length : Int) : Int)) && decide (((jd.length : Int) : Int) * 1 ≤ 140737488355328) && decide (((jd.length : Int) : Int) ≤ 140737488355328)) (
 chkO (decide (((jd.length : Int) : Int) = (jd.length : Int))) (
 Qdp lb n n jj jb jd jg ja jf je jh jc jn jv jp jq jr jm jy 0 (List.replicate (jd.length : Int).toNat [.bool false]))))))))
 else
 (optO (CV.asL jq) fun zy =>
 bif (decide ((zy.2.length : Int) > 9)) then
 (some (.tup [.agg [.str [], .list true [], .int .i64 0, .list true [], .list true [], .int .i64 0], .agg [.str [], .list true [], .int .i64 0, .list true [], .list true [], .int .i64 0], .int .i64 4]))
 else
 (optO (C lb n Qd9 [.str jp]) fun rY =>
 optO (CV.asB rY) fun lF =>
 bif (!lF) then
 (some (.tup [.agg [.str [], .list true [], .int .i64 0, .list true [], .list true [], .int .i64 0], .agg [.str [], .list true [], .int .i64 0, .list true [], .list true [], .int .i64 0], .int .i64 5]))
 else
 (bif (jp == jj) then
 (some (.tup [.agg [.str [], .list true [], .int .i64 0, .list true [], .list true [], .int .i64 0], .agg [.str [], .list true [], .int .i64 0, .list true [], .list true [], .int .i64 0], .int .i64 6]))
 else
 (chkO (decide (0 ≤ ((jd.length : Int) : Int)) && decide (((jd.length : Int) : Int) ≤ ((jd.length : Int) : Int)) && decide (((jd.length : Int) : Int) * 1 ≤ 140737488355328) && decide (((jd.length : Int) : Int) ≤ 140737488355328)) (
 chkO (decide (((jd.length : Int) : Int) = (jd.length : Int))) (
 Qdp lb n n jj jb jd jg ja jf je jh jc jn jv jp jq jr jm jy 0 (List.replicate (jd.length : Int).toNat [.bool false])))))))) := by kernel_rfl
theorem Qkt (lb n : Nat) (jj : LB) (jb : Bool) (jd : LL) (jg : Int) (ja : Bool) (jf : LL) (je : Bool) (jh : LL) (jc : Int) (jn : Bool) (jv : LL) (jp : LB) :
 top lb n QdZ [.agg [.str jj, .list jb jd, .int .i64 jg, .list ja jf, .list je jh, .int .i64 jc], .list jn jv, .str jp] =
 optO (C lb n QaD [.agg [.str jj, .list jb jd, .int .i64 jg, .list ja jf, .list je jh, .int .i64 jc]]) fun jy =>
 optO (CV.asB jy) fun ju =>
 bif (!ju) then
 (optO (C lb n Qal []) fun r17 =>
 some (r17))
 else
 (bif (decide ((jv.length : Int) > 60)) then
 (optO (C lb n Qal []) fun jl =>
 some (jl))
 else
 (optO (C lb n Qah [.agg [.str jj, .list jb jd, .int .i64 jg, .list ja jf, .list je jh, .int .i64 jc]]) fun jJ =>
 optO (CV.asL jJ) fun qg =>
 bif (decide ((qg.2.length : Int) > 0)) then
 (optO (C lb n Qal []) fun u5 =>
 some (u5))
 else
 (optO (C lb n Qaa [.agg [.str jj, .list jb jd, .int .i64 jg, .list ja jf, .list je jh, .int .i64 jc], .list jn jv, .str jp]) fun jA =>
 optO (CV.asT jA) fun tZ =>
 optO (tZ[0]?) fun qL =>
 optO (CV.asT jA) fun tW =>
 optO (tW[1]?) fun qD =>
 optO (CV.asT jA) fun t27 =>
 optO (t27[2]?) fun wo =>
 optO (CV.asA qL) fun ov =>
 chkO (ov.length == 6) (
 optO (ov[0]?) fun wc =>
 optO (ov[1]?) fun wj =>
 optO (ov[2]?) fun wd =>
 optO (ov[3]?) fun kQ =>
 optO (ov[4]?) fun gc =>
 optO (ov[5]?) fun go =>
 optO (CV.asA qD) fun c37 =>
 chkO (c37.length == 6) (
 optO (c37[0]?) fun pU =>
 optO (c37[1]?) fun gN =>
 optO (c37[2]?) fun gi =>
 optO (c37[3]?) fun oS =>
 optO (c37[4]?) fun ny =>
 optO (c37[5]?) fun nG =>
 optO (C lb n Qaj [.agg [.str jj, .list jb jd, .int .i64 jg, .list ja jf, .list je jh, .int .i64 jc], .list jn jv, .str jp]) fun sW =>
 optO (CV.asT sW) fun t45 =>
 optO (t45[0]?) fun kP =>
 optO (CV.asT sW) fun uN =>
 optO (uN[1]?) fun qR =>
 optO (CV.asT sW) fun uI =>
 optO (uI[2]?) fun x50 =>
 optO (CV.asA kP) fun c51 =>
 chkO (c51.length == 6) (
 optO (c51[0]?) fun wG =>
 optO (c51[1]?) fun gU =>
 optO (c51[2]?) fun j9 =>
 optO (c51[3]?) fun qY =>
 optO (c51[4]?) fun wb =>
 optO (c51[5]?) fun sF =>
 optO (CV.asA qR) fun oo =>
 chkO (oo.length == 6) (
 optO (oo[0]?) fun wB =>
 optO (oo[1]?) fun wz =>
 optO (oo[2]?) fun wK =>
 optO (oo[3]?) fun wL =>
 optO (oo[4]?) fun wx =>
 optO (oo[5]?) fun sT =>
 optO (C lb n QaC [.agg [wc,wj,wd,kQ,gc,go], .agg [wG,gU,j9,qY,wb,sF]]) fun oO =>
 optO (CV.asB oO) fun sB =>
 bif (!sB) then
 (some (.bool false))
 else
 (optO (C lb n QaC [.agg [pU,gN,gi,oS,ny,nG], .agg [wB,wz,wK,wL,wx,sT]]) fun qj =>
 optO (CV.asB qj) fun kG =>
 bif (!kG) then
 (some (.bool false))
 else
 (optO (CV.asI .i64 wo) fun uK =>
 optO (CV.asI .i64 x50) fun uU =>
 bif (uK != uU) then
 (some (.bool false))
 else
 (optO (CV.asI .i64 wo) fun ub =>
 bif (ub != 0) then
 (optO (C lb n Qal []) fun r73 =>
 some (r73))
 else
 (optO (C lb n Qab [.agg [wc,wj,wd,kQ,gc,go]]) fun uW =>
 optO (CV.asL uW) fun uB =>
 bif ((uB.2.length : Int) == 0) then
 (optO (C lb n Qab [.agg [pU,gN,gi,oS,ny,nG]]) fun r76 =>
 optO (CV.asL r76) fun uO =>
 bif ((uO.2.length : Int) == 0) then
 (optO (C lb n QbA [.agg [wc,wj,wd,kQ,gc,go]]) fun r78 =>
 optO (C lb n QbA [.agg [pU,gN,gi,oS,ny,nG]]) fun qq =>
 optO (CV.asI .i64 r78) fun i80 =>
 optO (CV.asI .i64 qq) fun ur =>
 optO (C lb n QbA [.agg [.str jj, .list jb jd, .int .i64 jg, .list ja jf, .list je jh, .int .i64 jc]]) fun uC =>
 optO (CV.asI .i64 uC) fun ko =>
 bif ((IntKind.wrap .i64 (i80 + ur)) == ko) then
 (optO (C lb n Qal []) fun tY =>
 some (tY))
 else
 (some (.bool false)))
 else
 (some (.bool false)))
 else
 (some (.bool false))))))))))))) := by kernel_rfl
end Go.Proofs
