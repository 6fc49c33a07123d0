/- Equations of functions, printed by program. Conditions: none. -/
import Derived.Test.YtigmcfhmpcajlaaGreatDoorEv
namespace Go.Proofs
open Go.Am
set_option maxRecDepth 100000
set_option linter.unusedVariables false
noncomputable def party_Split_L1 :=
 fun lb n (og : Nat) (jk : Bool) (a2 : LL) (jK : Bool) (b4 : LL) nk yq (vh : LL) =>
 hold (Qav (E0 lb n 0 993) 0 (Qag (sub (B Qai) [1,1,1,0,1,0,0]) ++ [10]) [] (sub (B Qai) [1,1,1,0,1,0,0]) (Qak 0 (seqK (E0 lb n 0 996) (sub (B Qai) [1,1,1,0]) (sub (B Qai) [1,1,1,1]) (retK Tryz.prog (R Qai) 0 (outK (Qad Tryz.prog Qai))))) og ⟨fr 105 [(0, .val (.list jk a2)),(1, .val (.list jK b4)),(4, .lst true true 89 []),(5, .lst true true 89 []),(6,vI 0),(7, .rsl 4 0 7 0 ((a2.length : Int).toNat) ((a2.length : Int).toNat)),(8,vV nk),(17, .val (.list jk a2)),(18, .val (.int .i64 (a2.length : Int))),(19, .rsl 4 0 7 0 ((a2.length : Int).toNat) ((a2.length : Int).toNat)),(20, .val (.list jK b4)),(21, .val (.int .i64 (b4.length : Int))),(22,vI yq)],[bx 105 [(7,some [.row 4 vh])]],KK⟩)
noncomputable def Qe0 (lb n : Nat) (jk : Bool) (a2 : LL) (jK : Bool) (b4 : LL) (wF : CV) (wD : LL) : Option CV :=
 hold (E0 lb n 0 996 (sub (B Qai) [1,1,1,1]) (retK Tryz.prog (R Qai) 0 (outK (Qad Tryz.prog Qai))) ⟨fr 105 [(0, .val (.list jk a2)),(1, .val (.list jK b4)),(4, .lst true true 89 []),(5, .lst true true 89 []),(6,vI 0),(7, .rsl 4 0 7 0 ((a2.length : Int).toNat) ((a2.length : Int).toNat)),(8,vV wF),(17, .val (.list jk a2)),(18, .val (.int .i64 (a2.length : Int))),(19, .rsl 4 0 7 0 ((a2.length : Int).toNat) ((a2.length : Int).toNat))],[bx 105 [(7,some [.row 4 wD])]],KK⟩)
noncomputable def QdR (lb n nj : Nat) (jk : Bool) (a2 : LL) (jK : Bool) (b4 : LL) (wF : CV) (wD : LL) (wP kH yt : Int) (vG : LL) : Option CV :=
 hold (Qav (E0 lb n 0 988) 0 (Qag (sub (B Qai) [1,1,1,1,1,1,1,1,0,1,0,0]) ++ [14]) [] (sub (B Qai) [1,1,1,1,1,1,1,1,0,1,0,0]) (Qak 2 (seqK (E0 lb n 0 991) (sub (B Qai) [1,1,1,1,1,1,1,1,0]) (sub (B Qai) [1,1,1,1,1,1,1,1,1]) (retK Tryz.prog (R Qai) 0 (outK (Qad Tryz.prog Qai))))) nj ⟨fr 105 [(0, .val (.list jk a2)),(1, .val (.list jK b4)),(4, .lst true true 89 []),(5, .lst true true 89 []),(6,vI 0),(7, .rsl 4 0 7 0 ((a2.length : Int).toNat) ((a2.length : Int).toNat)),(8,vV wF),(11, .rsl 89 0 11 0 ((a2.length : Int).toNat) ((a2.length : Int).toNat)),(12,vI wP),(13,vI kH),(17, .val (.list jk a2)),(18, .val (.int .i64 (a2.length : Int))),(19, .rsl 4 0 7 0 ((a2.length : Int).toNat) ((a2.length : Int).toNat)),(49, .val (.list jk a2)),(50, .val (.int .i64 (a2.length : Int))),(51, .rsl 89 0 11 0 ((a2.length : Int).toNat) ((a2.length : Int).toNat)),(52, .val (.list jK b4)),(53, .val (.int .i64 (b4.length : Int))),(54, .val (.list jk a2)),(55, .val (.int .i64 (a2.length : Int))),(56,vI yt)],[bx 105 [(7,some [.row 4 wD]),(11,some [.row 89 vG])]],KK⟩)
noncomputable def QeZ (lb n : Nat) (jk : Bool) (a2 : LL) (jK : Bool) (b4 : LL) (wF : CV) (wD : LL) (jB wg : Int) (ya : LL) : Option CV :=
 hold (E0 lb n 0 991 (sub (B Qai) [1,1,1,1,1,1,1,1,1]) (retK Tryz.prog (R Qai) 0 (outK (Qad Tryz.prog Qai))) ⟨fr 105 [(0, .val (.list jk a2)),(1, .val (.list jK b4)),(4, .lst true true 89 []),(5, .lst true true 89 []),(6,vI 0),(7, .rsl 4 0 7 0 ((a2.length : Int).toNat) ((a2.length : Int).toNat)),(8,vV wF),(11, .rsl 89 0 11 0 ((a2.length : Int).toNat) ((a2.length : Int).toNat)),(12,vI jB),(13,vI wg),(17, .val (.list jk a2)),(18, .val (.int .i64 (a2.length : Int))),(19, .rsl 4 0 7 0 ((a2.length : Int).toNat) ((a2.length : Int).toNat)),(49, .val (.list jk a2)),(50, .val (.int .i64 (a2.length : Int))),(51, .rsl 89 0 11 0 ((a2.length : Int).toNat) ((a2.length : Int).toNat)),(52, .val (.list jK b4)),(53, .val (.int .i64 (b4.length : Int)))],[bx 105 [(7,some [.row 4 wD]),(11,some [.row 89 ya])]],KK⟩)
noncomputable def Qcv (lb n kR : Nat) (jk : Bool) (a2 : LL) (jK : Bool) (b4 : LL) (wF : CV) (jB wg : Int) (wD ya : LL) (gn i85 : Int) : Option CV :=
 hold (Qav (E1 lb n 1 994) 1 (Qag (sub (B Qao) [1,1,0,1,0,0]) ++ []) [5] (sub (B Qao) [1,1,0,1,0,0]) (Qak 0 (seqK (E1 lb n 1 997) (sub (B Qao) [1,1,0]) (sub (B Qao) [1,1,1]) (retK Tryz.prog (R Qao) 1 (inlK (opAt (Qdj (sub (B Qai) [1,1,1,1,1,1,1,1,1,1,0,0])) 1) ⟨fr 105 [(0, .val (.list jk a2)),(1, .val (.list jK b4)),(4, .lst true true 89 []),(5, .lst true true 89 []),(6,vI 0),(7, .rsl 4 0 7 0 ((a2.length : Int).toNat) ((a2.length : Int).toNat)),(8,vV wF),(11, .rsl 89 0 11 0 ((a2.length : Int).toNat) ((a2.length : Int).toNat)),(12,vI jB),(13,vI wg),(15, .rsl 89 0 11 0 (jB.toNat - 0) (jB.toNat - 0)),(16, .rsl 89 0 11 (0 + jB.toNat) (((a2.length : Int).toNat) - jB.toNat) (((a2.length : Int).toNat) - jB.toNat)),(17, .val (.list jk a2)),(18, .val (.int .i64 (a2.length : Int))),(19, .rsl 4 0 7 0 ((a2.length : Int).toNat) ((a2.length : Int).toNat)),(49, .val (.list jk a2)),(50, .val (.int .i64 (a2.length : Int))),(51, .rsl 89 0 11 0 ((a2.length : Int).toNat) ((a2.length : Int).toNat)),(52, .val (.list jK b4)),(53, .val (.int .i64 (b4.length : Int))),(86, .rsl 89 0 11 0 ((a2.length : Int).toNat) ((a2.length : Int).toNat)),(87,vI jB),(88,vI jB),(89, .rsl 89 0 11 0 (jB.toNat - 0) (jB.toNat - 0)),(90, .rsl 89 0 11 0 ((a2.length : Int).toNat) ((a2.length : Int).toNat)),(91,vI jB),(92, .val (.list jk a2)),(93, .val (.int .i64 (a2.length : Int))),(94, .val (.list jk a2)),(95, .val (.int .i64 (a2.length : Int))),(96, .rsl 89 0 11 (0 + jB.toNat) (((a2.length : Int).toNat) - jB.toNat) (((a2.length : Int).toNat) - jB.toNat)),(97, .rsl 89 0 11 0 (jB.toNat - 0) (jB.toNat - 0))],[bx 105 [(7,some [.row 4 wD]),(11,some [.row 89 ya])]],KK⟩ (opsK Tryz.prog (C lb n) (I9 lb n) 0 (Qdj (sub (B Qai) [1,1,1,1,1,1,1,1,1,1,0,0])) ((Qdj (sub (B Qai) [1,1,1,1,1,1,1,1,1,1,0,0])).drop 2) ((seqK (E0 lb n 0 988) (sub (B Qai) [1,1,1,1,1,1,1,1,1,1,0,0]) (sub (B Qai) [1,1,1,1,1,1,1,1,1,1,0,1]) (seqK (E0 lb n 0 989) (sub (B Qai) [1,1,1,1,1,1,1,1,1,1,0]) (sub (B Qai) [1,1,1,1,1,1,1,1,1,1,1]) (retK Tryz.prog (R Qai) 0 (outK (Qad Tryz.prog Qai))))) .normal)))))) kR ⟨fr 23 [(0, .rsl 89 0 11 0 (jB.toNat - 0) (jB.toNat - 0)),(2,vB false),(3,vI gn),(6, .rsl 89 0 11 0 (jB.toNat - 0) (jB.toNat - 0)),(7, .val (.int .i64 ((jB.toNat - 0 : Nat) : Int))),(8,vI i85)],[bx 105 [(7,some [.row 4 wD]),(11,some [.row 89 ya])],bx 23 []],KK⟩)
noncomputable def QgS (lb n : Nat) (jk : Bool) (a2 : LL) (jK : Bool) (b4 : LL) (wF : CV) (jB wg : Int) (wD ya : LL) (yR : Int) : Option CV :=
 hold (E1 lb n 1 997 (sub (B Qao) [1,1,1]) (retK Tryz.prog (R Qao) 1 (inlK (opAt (Qdj (sub (B Qai) [1,1,1,1,1,1,1,1,1,1,0,0])) 1) ⟨fr 105 [(0, .val (.list jk a2)),(1, .val (.list jK b4)),(4, .lst true true 89 []),(5, .lst true true 89 []),(6,vI 0),(7, .rsl 4 0 7 0 ((a2.length : Int).toNat) ((a2.length : Int).toNat)),(8,vV wF),(11, .rsl 89 0 11 0 ((a2.length : Int).toNat) ((a2.length : Int).toNat)),(12,vI jB),(13,vI wg),(15, .rsl 89 0 11 0 (jB.toNat - 0) (jB.toNat - 0)),(16, .rsl 89 0 11 (0 + jB.toNat) (((a2.length : Int).toNat) - jB.toNat) (((a2.length : Int).toNat) - jB.toNat)),(17, .val (.list jk a2)),(18, .val (.int .i64 (a2.length : Int))),(19, .rsl 4 0 7 0 ((a2.length : Int).toNat) ((a2.length : Int).toNat)),(49, .val (.list jk a2)),(50, .val (.int .i64 (a2.length : Int))),(51, .rsl 89 0 11 0 ((a2.length : Int).toNat) ((a2.length : Int).toNat)),(52, .val (.list jK b4)),(53, .val (.int .i64 (b4.length : Int))),(86, .rsl 89 0 11 0 ((a2.length : Int).toNat) ((a2.length : Int).toNat)),(87,vI jB),(88,vI jB),(89, .rsl 89 0 11 0 (jB.toNat - 0) (jB.toNat - 0)),(90, .rsl 89 0 11 0 ((a2.length : Int).toNat) ((a2.length : Int).toNat)),(91,vI jB),(92, .val (.list jk a2)),(93, .val (.int .i64 (a2.length : Int))),(94, .val (.list jk a2)),(95, .val (.int .i64 (a2.length : Int))),(96, .rsl 89 0 11 (0 + jB.toNat) (((a2.length : Int).toNat) - jB.toNat) (((a2.length : Int).toNat) - jB.toNat)),(97, .rsl 89 0 11 0 (jB.toNat - 0) (jB.toNat - 0))],[bx 105 [(7,some [.row 4 wD]),(11,some [.row 89 ya])]],KK⟩ (opsK Tryz.prog (C lb n) (I9 lb n) 0 (Qdj (sub (B Qai) [1,1,1,1,1,1,1,1,1,1,0,0])) ((Qdj (sub (B Qai) [1,1,1,1,1,1,1,1,1,1,0,0])).drop 2) ((seqK (E0 lb n 0 988) (sub (B Qai) [1,1,1,1,1,1,1,1,1,1,0,0]) (sub (B Qai) [1,1,1,1,1,1,1,1,1,1,0,1]) (seqK (E0 lb n 0 989) (sub (B Qai) [1,1,1,1,1,1,1,1,1,1,0]) (sub (B Qai) [1,1,1,1,1,1,1,1,1,1,1]) (retK Tryz.prog (R Qai) 0 (outK (Qad Tryz.prog Qai))))) .normal)))) ⟨fr 23 [(0, .rsl 89 0 11 0 (jB.toNat - 0) (jB.toNat - 0)),(2,vB false),(3,vI yR)],[bx 105 [(7,some [.row 4 wD]),(11,some [.row 89 ya])],bx 23 []],KK⟩)
noncomputable def Qcx (lb n oE : Nat) (jk : Bool) (a2 : LL) (jK : Bool) (b4 : LL) (wF : CV) (jB wg yR : Int) (wD ya : LL) (od kd : Int) : Option CV :=
 hold (Qav (E1 lb n 1 994) 1 (Qag (sub (B Qao) [1,1,0,1,0,0]) ++ []) [5] (sub (B Qao) [1,1,0,1,0,0]) (Qak 0 (seqK (E1 lb n 1 997) (sub (B Qao) [1,1,0]) (sub (B Qao) [1,1,1]) (retK Tryz.prog (R Qao) 1 (inlK (opAt (Qdj (sub (B Qai) [1,1,1,1,1,1,1,1,1,1,0,0])) 4) ⟨fr 105 [(0, .val (.list jk a2)),(1, .val (.list jK b4)),(4, .lst true true 89 []),(5, .lst true true 89 []),(6,vI 0),(7, .rsl 4 0 7 0 ((a2.length : Int).toNat) ((a2.length : Int).toNat)),(8,vV wF),(11, .rsl 89 0 11 0 ((a2.length : Int).toNat) ((a2.length : Int).toNat)),(12,vI jB),(13,vI wg),(15, .rsl 89 0 11 0 (jB.toNat - 0) (jB.toNat - 0)),(16, .rsl 89 0 11 (0 + jB.toNat) (((a2.length : Int).toNat) - jB.toNat) (((a2.length : Int).toNat) - jB.toNat)),(17, .val (.list jk a2)),(18, .val (.int .i64 (a2.length : Int))),(19, .rsl 4 0 7 0 ((a2.length : Int).toNat) ((a2.length : Int).toNat)),(49, .val (.list jk a2)),(50, .val (.int .i64 (a2.length : Int))),(51, .rsl 89 0 11 0 ((a2.length : Int).toNat) ((a2.length : Int).toNat)),(52, .val (.list jK b4)),(53, .val (.int .i64 (b4.length : Int))),(86, .rsl 89 0 11 0 ((a2.length : Int).toNat) ((a2.length : Int).toNat)),(87,vI jB),(88,vI jB),(89, .rsl 89 0 11 0 (jB.toNat - 0) (jB.toNat - 0)),(90, .rsl 89 0 11 0 ((a2.length : Int).toNat) ((a2.length : Int).toNat)),(91,vI jB),(92, .val (.list jk a2)),(93, .val (.int .i64 (a2.length : Int))),(94, .val (.list jk a2)),(95, .val (.int .i64 (a2.length : Int))),(96, .rsl 89 0 11 (0 + jB.toNat) (((a2.length : Int).toNat) - jB.toNat) (((a2.length : Int).toNat) - jB.toNat)),(97, .rsl 89 0 11 0 (jB.toNat - 0) (jB.toNat - 0)),(98, .val (.bool (decide (yR > 0)))),(99,vB false),(100, .rsl 89 0 11 (0 + jB.toNat) (((a2.length : Int).toNat) - jB.toNat) (((a2.length : Int).toNat) - jB.toNat))],[bx 105 [(7,some [.row 4 wD]),(11,some [.row 89 ya])]],KK⟩ (opsK Tryz.prog (C lb n) (I9 lb n) 0 (Qdj (sub (B Qai) [1,1,1,1,1,1,1,1,1,1,0,0])) ((Qdj (sub (B Qai) [1,1,1,1,1,1,1,1,1,1,0,0])).drop 5) ((seqK (E0 lb n 0 988) (sub (B Qai) [1,1,1,1,1,1,1,1,1,1,0,0]) (sub (B Qai) [1,1,1,1,1,1,1,1,1,1,0,1]) (seqK (E0 lb n 0 989) (sub (B Qai) [1,1,1,1,1,1,1,1,1,1,0]) (sub (B Qai) [1,1,1,1,1,1,1,1,1,1,1]) (retK Tryz.prog (R Qai) 0 (outK (Qad Tryz.prog Qai))))) .normal)))))) oE ⟨fr 23 [(0, .rsl 89 0 11 (0 + jB.toNat) (((a2.length : Int).toNat) - jB.toNat) (((a2.length : Int).toNat) - jB.toNat)),(2,vB false),(3,vI od),(6, .rsl 89 0 11 (0 + jB.toNat) (((a2.length : Int).toNat) - jB.toNat) (((a2.length : Int).toNat) - jB.toNat)),(7, .val (.int .i64 ((((a2.length : Int).toNat) - jB.toNat : Nat) : Int))),(8,vI kd)],[bx 105 [(7,some [.row 4 wD]),(11,some [.row 89 ya])],bx 23 []],KK⟩)
noncomputable def Qg8 (lb n : Nat) (jk : Bool) (a2 : LL) (jK : Bool) (b4 : LL) (wF : CV) (jB wg yR : Int) (wD ya : LL) (m6 : Int) : Option CV :=
 hold (E1 lb n 1 997 (sub (B Qao) [1,1,1]) (retK Tryz.prog (R Qao) 1 (inlK (opAt (Qdj (sub (B Qai) [1,1,1,1,1,1,1,1,1,1,0,0])) 4) ⟨fr 105 [(0, .val (.list jk a2)),(1, .val (.list jK b4)),(4, .lst true true 89 []),(5, .lst true true 89 []),(6,vI 0),(7, .rsl 4 0 7 0 ((a2.length : Int).toNat) ((a2.length : Int).toNat)),(8,vV wF),(11, .rsl 89 0 11 0 ((a2.length : Int).toNat) ((a2.length : Int).toNat)),(12,vI jB),(13,vI wg),(15, .rsl 89 0 11 0 (jB.toNat - 0) (jB.toNat - 0)),(16, .rsl 89 0 11 (0 + jB.toNat) (((a2.length : Int).toNat) - jB.toNat) (((a2.length : Int).toNat) - jB.toNat)),(17, .val (.list jk a2)),(18, .val (.int .i64 (a2.length : Int))),(19, .rsl 4 0 7 0 ((a2.length : Int).toNat) ((a2.length : Int).toNat)),(49, .val (.list jk a2)),(50, .val (.int .i64 (a2.length : Int))),(51, .rsl 89 0 11 0 ((a2.length : Int).toNat) ((a2.length : Int).toNat)),(52, .val (.list jK b4)),(53, .val (.int .i64 (b4.length : Int))),(86, .rsl 89 0 11 0 ((a2.length : Int).toNat) ((a2.length : Int).toNat)),(87,vI jB),(88,vI jB),(89, .rsl 89 0 11 0 (jB.toNat - 0) (jB.toNat - 0)),(90, .rsl 89 0 11 0 ((a2.length : Int).toNat) ((a2.length : Int).toNat)),(91,vI jB),(92, .val (.list jk a2)),(93, .val (.int .i64 (a2.length : Int))),(94, .val (.list jk a2)),(95, .val (.int .i64 (a2.length : Int))),(96, .rsl 89 0 11 (0 + jB.toNat) (((a2.length : Int).toNat) - jB.toNat) (((a2.length : Int).toNat) - jB.toNat)),(97, .rsl 89 0 11 0 (jB.toNat - 0) (jB.toNat - 0)),(98, .val (.bool (decide (yR > 0)))),(99,vB false),(100, .rsl 89 0 11 (0 + jB.toNat) (((a2.length : Int).toNat) - jB.toNat) (((a2.length : Int).toNat) - jB.toNat))],[bx 105 [(7,some [.row 4 wD]),(11,some [.row 89 ya])]],KK⟩ (opsK Tryz.prog (C lb n) (I9 lb n) 0 (Qdj (sub (B Qai) [1,1,1,1,1,1,1,1,1,1,0,0])) ((Qdj (sub (B Qai) [1,1,1,1,1,1,1,1,1,1,0,0])).drop 5) ((seqK (E0 lb n 0 988) (sub (B Qai) [1,1,1,1,1,1,1,1,1,1,0,0]) (sub (B Qai) [1,1,1,1,1,1,1,1,1,1,0,1]) (seqK (E0 lb n 0 989) (sub (B Qai) [1,1,1,1,1,1,1,1,1,1,0]) (sub (B Qai) [1,1,1,1,1,1,1,1,1,1,1]) (retK Tryz.prog (R Qai) 0 (outK (Qad Tryz.prog Qai))))) .normal)))) ⟨fr 23 [(0, .rsl 89 0 11 (0 + jB.toNat) (((a2.length : Int).toNat) - jB.toNat) (((a2.length : Int).toNat) - jB.toNat)),(2,vB false),(3,vI m6)],[bx 105 [(7,some [.row 4 wD]),(11,some [.row 89 ya])],bx 23 []],KK⟩)
theorem Qm1 (lb n : Nat) (jk : Bool) (a2 : LL) (jK : Bool) (b4 : LL) (wF : CV) (jB wg yR : Int) (wD ya : LL) (m6 : Int) :
 Qg8 lb n jk a2 jK b4 wF jB wg yR wD ya m6 =
 bif (decide (m6 > 0)) then
 (some (.tup [.list true [], .list true [], .int .i64 25]))
 else
 (chkO (decide ((0 + (jB.toNat - 0)) ≤ ya.length)) (
 chkO (decide (((0 + jB.toNat) + (((a2.length : Int).toNat) - jB.toNat)) ≤ ya.length)) (
 some (.tup [.list false ((ya.drop 0).take (jB.toNat - 0)), .list false ((ya.drop (0 + jB.toNat)).take (((a2.length : Int).toNat) - jB.toNat)), .int .i64 0])))) := (Qac _).trans (by kernel_rfl)
theorem QgE (lb n oE : Nat) (jk : Bool) (a2 : LL) (jK : Bool) (b4 : LL) (wF : CV) (jB wg yR : Int) (wD ya : LL) (od kd : Int) :
 Qcx lb n (oE + 1) jk a2 jK b4 wF jB wg yR wD ya od kd =
 bif (decide (kd < ((((a2.length : Int).toNat) - jB.toNat : Nat) : Int))) then
 (chkO ((decide (0 ≤ (kd : Int))) && (decide ((kd : Int) < (((((a2.length : Int).toNat) - jB.toNat) : Nat) : Int)))) (
 optO (ya[(0 + jB.toNat) + kd.toNat]?) fun nV =>
 optO (nV[0]?) fun wX =>
 optO (nV[1]?) fun ph =>
 optO (nV[2]?) fun wN =>
 optO (C lb n Qa8 [.agg [wX,ph,wN]]) fun r7 =>
 optO (CV.asB r7) fun rP =>
 bif rP then
 (optO (C lb n Qbb [.agg [wX,ph,wN]]) fun th =>
 optO (CV.asB th) fun lc =>
 bif lc then
 (Qcx lb n oE jk a2 jK b4 wF jB wg yR wD ya (IntKind.wrap .i64 ((IntKind.wrap .i64 (od + 1)) - 1)) (IntKind.wrap .i64 (kd + 1)))
 else
 (Qcx lb n oE jk a2 jK b4 wF jB wg yR wD ya (IntKind.wrap .i64 (od + 1)) (IntKind.wrap .i64 (kd + 1))))
 else
 (optO (C lb n Qbb [.agg [wX,ph,wN]]) fun zp =>
 optO (CV.asB zp) fun lS =>
 bif lS then
 (Qcx lb n oE jk a2 jK b4 wF jB wg yR wD ya (IntKind.wrap .i64 (od - 1)) (IntKind.wrap .i64 (kd + 1)))
 else
 (Qcx lb n oE jk a2 jK b4 wF jB wg yR wD ya od (IntKind.wrap .i64 (kd + 1))))))
 else
 (Qg8 lb n jk a2 jK b4 wF jB wg yR wD ya od) := (Qac _).trans (by kernel_rfl)
theorem Qna (lb n : Nat) (jk : Bool) (a2 : LL) (jK : Bool) (b4 : LL) (wF : CV) (jB wg : Int) (wD ya : LL) (yR : Int) :
 QgS lb n jk a2 jK b4 wF jB wg wD ya yR =
 bif (decide (yR > 0)) then
 (some (.tup [.list true [], .list true [], .int .i64 25]))
 else
 (Qcx lb n n jk a2 jK b4 wF jB wg yR wD ya 0 0) := (Qac _).trans (by kernel_rfl)
theorem Qgx (lb n kR : Nat) (jk : Bool) (a2 : LL) (jK : Bool) (b4 : LL) (wF : CV) (jB wg : Int) (wD ya : LL) (gn i85 : Int) :
 Qcv lb n (kR + 1) jk a2 jK b4 wF jB wg wD ya gn i85 =
 bif (decide (i85 < ((jB.toNat - 0 : Nat) : Int))) then
 (chkO ((decide (0 ≤ (i85 : Int))) && (decide ((i85 : Int) < (((jB.toNat - 0) : Nat) : Int)))) (
 optO (ya[0 + i85.toNat]?) fun mc =>
 optO (mc[0]?) fun wl =>
 optO (mc[1]?) fun wp =>
 optO (mc[2]?) fun jC =>
 optO (C lb n Qa8 [.agg [wl,wp,jC]]) fun rK =>
 optO (CV.asB rK) fun lU =>
 bif lU then
 (optO (C lb n Qbb [.agg [wl,wp,jC]]) fun tj =>
 optO (CV.asB tj) fun tk =>
 bif tk then
 (Qcv lb n kR jk a2 jK b4 wF jB wg wD ya (IntKind.wrap .i64 ((IntKind.wrap .i64 (gn + 1)) - 1)) (IntKind.wrap .i64 (i85 + 1)))
 else
 (Qcv lb n kR jk a2 jK b4 wF jB wg wD ya (IntKind.wrap .i64 (gn + 1)) (IntKind.wrap .i64 (i85 + 1))))
 else
 (optO (C lb n Qbb [.agg [wl,wp,jC]]) fun tp =>
 optO (CV.asB tp) fun rB =>
 bif rB then
 (Qcv lb n kR jk a2 jK b4 wF jB wg wD ya (IntKind.wrap .i64 (gn - 1)) (IntKind.wrap .i64 (i85 + 1)))
 else
 (Qcv lb n kR jk a2 jK b4 wF jB wg wD ya gn (IntKind.wrap .i64 (i85 + 1))))))
 else
 (QgS lb n jk a2 jK b4 wF jB wg wD ya gn) := (Qac _).trans (by kernel_rfl)
theorem Qng (lb n : Nat) (jk : Bool) (a2 : LL) (jK : Bool) (b4 : LL) (wF : CV) (wD : LL) (jB wg : Int) (ya : LL) :
 QeZ lb n jk a2 jK b4 wF wD jB wg ya =
 chkO (decide ((0 : Int) ≤ jB ∧ jB ≤ (((a2.length : Int).toNat : Nat) : Int))) (
 chkO (decide ((0 : Int) ≤ jB ∧ jB ≤ jB)) (
 chkO (decide ((0 : Int) ≤ (a2.length : Int) ∧ (a2.length : Int) ≤ (((a2.length : Int).toNat : Nat) : Int))) (
 chkO (decide ((0 : Int) ≤ (a2.length : Int) ∧ (a2.length : Int) ≤ (a2.length : Int))) (
 chkO (decide ((0 : Int) ≤ jB ∧ jB ≤ (a2.length : Int))) (
 Qcv lb n n jk a2 jK b4 wF jB wg wD ya 0 0))))) := (Qac _).trans (by kernel_rfl)
theorem Qgw (lb n nj : Nat) (jk : Bool) (a2 : LL) (jK : Bool) (b4 : LL) (wF : CV) (wD : LL) (wP kH yt : Int) (vG : LL) :
 QdR lb n (nj + 1) jk a2 jK b4 wF wD wP kH yt vG =
 bif (decide (yt < (a2.length : Int))) then
 (chkO ((decide (0 ≤ (yt : Int))) && (decide ((yt : Int) < ((((a2.length : Int).toNat) : Nat) : Int)))) (
 optO (wD[0 + yt.toNat]?) fun oR =>
 optO (oR[0]?) fun wx =>
 optO (CV.asB wx) fun sC =>
 bif sC then
 (chkO (decide ((0 : Int) ≤ wP ∧ wP ≤ (((a2.length : Int).toNat : Nat) : Int))) (
 chkO (a2.all (·.length == 3)) (
 chkO (decide ((0 : Int) ≤ (IntKind.wrap .i64 (yt + 1)) ∧ (IntKind.wrap .i64 (yt + 1)) ≤ (a2.length : Int))) (
 chkO (decide ((0 : Int) ≤ yt ∧ yt ≤ (IntKind.wrap .i64 (yt + 1)))) (
 chkO (decide (((0 + wP.toNat) + (((((a2.length : Int).toNat : Nat) : Int).toNat) - wP.toNat)) ≤ vG.length)) (
 chkO (((a2.take ((IntKind.wrap .i64 (yt + 1)).toNat)).drop yt.toNat).all (·.length == 3)) (
 QdR lb n nj jk a2 jK b4 wF wD (IntKind.wrap .i64 (wP + ((min (((((a2.length : Int).toNat : Nat) : Int).toNat) - wP.toNat) (((a2.take ((IntKind.wrap .i64 (yt + 1)).toNat)).drop yt.toNat).length) : Nat) : Int))) kH (IntKind.wrap .i64 (yt + 1)) (QdI vG (0 + wP.toNat) (((a2.take ((IntKind.wrap .i64 (yt + 1)).toNat)).drop yt.toNat).take (min (((((a2.length : Int).toNat : Nat) : Int).toNat) - wP.toNat) (((a2.take ((IntKind.wrap .i64 (yt + 1)).toNat)).drop yt.toNat).length)))))))))))
 else
 (chkO (decide ((0 : Int) ≤ kH ∧ kH ≤ (((a2.length : Int).toNat : Nat) : Int))) (
 chkO (a2.all (·.length == 3)) (
 chkO (decide ((0 : Int) ≤ (IntKind.wrap .i64 (yt + 1)) ∧ (IntKind.wrap .i64 (yt + 1)) ≤ (a2.length : Int))) (
 chkO (decide ((0 : Int) ≤ yt ∧ yt ≤ (IntKind.wrap .i64 (yt + 1)))) (
 chkO (decide (((0 + kH.toNat) + (((((a2.length : Int).toNat : Nat) : Int).toNat) - kH.toNat)) ≤ vG.length)) (
 chkO (((a2.take ((IntKind.wrap .i64 (yt + 1)).toNat)).drop yt.toNat).all (·.length == 3)) (
 QdR lb n nj jk a2 jK b4 wF wD wP (IntKind.wrap .i64 (kH + ((min (((((a2.length : Int).toNat : Nat) : Int).toNat) - kH.toNat) (((a2.take ((IntKind.wrap .i64 (yt + 1)).toNat)).drop yt.toNat).length) : Nat) : Int))) (IntKind.wrap .i64 (yt + 1)) (QdI vG (0 + kH.toNat) (((a2.take ((IntKind.wrap .i64 (yt + 1)).toNat)).drop yt.toNat).take (min (((((a2.length : Int).toNat : Nat) : Int).toNat) - kH.toNat) (((a2.take ((IntKind.wrap .i64 (yt + 1)).toNat)).drop yt.toNat).length)))))))))))))
 else
 (QeZ lb n jk a2 jK b4 wF wD wP kH vG) := (Qac _).trans (by kernel_rfl)
theorem Qfa (lb n : Nat) (jk : Bool) (a2 : LL) (jK : Bool) (b4 : LL) (wF : CV) (wD : LL) :
 Qe0 lb n jk a2 jK b4 wF wD =
 optO (CV.asB wF) fun b47 =>
 bif b47 then
 (some (.tup [.list true [], .list true [], .int .i64 6]))
 else
 (bif ((b4.length : Int) == 0) then
 (some (.tup [.list true [], .list true [], .int .i64 2]))
 else
 (chkO (decide (0 ≤ ((a2.length : Int) : Int)) && decide (((a2.length : Int) : Int) ≤ ((a2.length : Int) : Int)) && decide (((a2.length : Int) : Int) * 48 ≤ 140737488355328) && decide (((a2.length : Int) : Int) ≤ 140737488355328)) (
 chkO (decide (((a2.length : Int) : Int) = (a2.length : Int))) (
 QdR lb n n jk a2 jK b4 wF wD 0 (b4.length : Int) 0 (List.replicate (a2.length : Int).toNat [.str [], .str [], .str []]))))) := (Qac _).trans (by kernel_rfl)
theorem Qgy (lb n og : Nat) (jk : Bool) (a2 : LL) (jK : Bool) (b4 : LL) (nk : CV) (yq : Int) (vh : LL) :
 party_Split_L1 lb n (og + 1) jk a2 jK b4 nk yq vh =
 bif (decide (yq < (b4.length : Int))) then
 (optO (atL b4 yq) fun nr =>
 chkO (nr.length == 1) (
 optO (nr[0]?) fun kQ =>
 optO (CV.asI .i64 kQ) fun gp =>
 bif (decide (gp < 0)) then
 (some (.tup [.list true [], .list true [], .int .i64 7]))
 else
 (optO (CV.asI .i64 kQ) fun oj =>
 bif (decide (oj ≥ (a2.length : Int))) then
 (some (.tup [.list true [], .list true [], .int .i64 7]))
 else
 (optO (CV.asB nk) fun b37 =>
 bif b37 then
 (optO (CV.asN kQ) fun yv =>
 chkO ((decide (0 ≤ (yv : Int))) && (decide ((yv : Int) < ((((a2.length : Int).toNat) : Nat) : Int)))) (
 optO (vh[0 + yv.toNat]?) fun gm =>
 chkO (decide ((1 : Nat) ≤ gm.length)) (
 party_Split_L1 lb n og jk a2 jK b4 (.bool true) (IntKind.wrap .i64 (yq + 1)) (setN vh (0 + yv.toNat) (Qbv gm 0 [.bool true])))))
 else
 (optO (CV.asN kQ) fun sS =>
 chkO ((decide (0 ≤ (sS : Int))) && (decide ((sS : Int) < ((((a2.length : Int).toNat) : Nat) : Int)))) (
 optO (vh[0 + sS.toNat]?) fun u4 =>
 optO (u4[0]?) fun ny =>
 optO (CV.asN kQ) fun w6 =>
 chkO ((decide (0 ≤ (w6 : Int))) && (decide ((w6 : Int) < ((((a2.length : Int).toNat) : Nat) : Int)))) (
 optO (vh[0 + w6.toNat]?) fun gH =>
 chkO (decide ((1 : Nat) ≤ gH.length)) (
 party_Split_L1 lb n og jk a2 jK b4 ny (IntKind.wrap .i64 (yq + 1)) (setN vh (0 + w6.toNat) (Qbv gH 0 [.bool true]))))))))))
 else
 (Qe0 lb n jk a2 jK b4 nk vh) := (Qac _).trans (by kernel_rfl)
theorem Qkj (lb n : Nat) (jk : Bool) (a2 : LL) (jK : Bool) (b4 : LL) :
 top lb n Qai [.list jk a2, .list jK b4] =
 chkO (decide (0 ≤ ((a2.length : Int) : Int)) && decide (((a2.length : Int) : Int) ≤ ((a2.length : Int) : Int)) && decide (((a2.length : Int) : Int) * 1 ≤ 140737488355328) && decide (((a2.length : Int) : Int) ≤ 140737488355328)) (
 chkO (decide (((a2.length : Int) : Int) = (a2.length : Int))) (
 party_Split_L1 lb n n jk a2 jK b4 (.bool false) 0 (List.replicate (a2.length : Int).toNat [.bool false]))) := by kernel_rfl
noncomputable def Qco (lb n yD : Nat) (jj : LB) (jb : Bool) (jd : LL) (jg : Int) (ja : Bool) (jf : LL) (je : Bool) (jh : LL) (jc : Int) (jn : Bool) (jv : LL) (jp : LB) (jq jr jm jy : CV) (jP : Int) (wY : Bool × LL) (wV : Bool) (wP : Int) (yS : Bool) (yV : LL) (yu : Bool) (yw : LL) : Option CV :=
 hold (Qav (E0 lb n 0 990) 0 (Qag (sub (B Qaa) [1,1,1,1,1,1,0,1,0,0]) ++ [16,18,16]) [15] (sub (B Qaa) [1,1,1,1,1,1,0,1,0,0]) (Qak 1 (seqK (E0 lb n 0 993) (sub (B Qaa) [1,1,1,1,1,1,0]) (sub (B Qaa) [1,1,1,1,1,1,1]) (retK Tryz.prog (R Qaa) 0 (outK (Qad Tryz.prog Qaa))))) yD ⟨fr 120 [(0, .val (.agg [.str jj, .list jb jd, .int .i64 jg, .list ja jf, .list je jh, .int .i64 jc])),(1, .val (.list jn jv)),(2,vS jp),(3, .ptr 0 3 0),(6, .ptr 0 6 0),(7, .ptr 0 7 0),(8,vI 0),(9,vV jq),(10,vV jr),(11,vV jm),(12, .ptr 0 12 0),(13, .ptr 0 13 0),(19,vV jy),(20, .ptr 0 3 1),(21, .val (.list jb jd)),(22, .val (.list jn jv)),(23,vV jy),(24,vV jq),(25,vV jr),(26,vV jm),(27, .val (.bool (jP != 0))),(33, .val (.bool (jg == 0))),(44, .val (.bool (decide ((wY.2.length : Int) > 9)))),(50, .val (.bool (!wV))),(56, .val (.bool (jp == jj))),(63, .val (.agg [.str jj, .list jb jd, .int .i64 jg, .list ja jf, .list je jh, .int .i64 jc])),(64, .val (.agg [.str jj, .list jb jd, .int .i64 jg, .list ja jf, .list je jh, .int .i64 jc])),(65,vV jr),(66, .ptr 0 12 1),(67, .ptr 0 12 4),(68,vV jq),(69,vS jp),(70, .ptr 0 13 1),(71, .ptr 0 13 4),(72, .ptr 0 13 0),(73, .ptr 0 13 2),(74, .ptr 0 3 4),(75, .val (.list je jh)),(76, .val (.int .i64 (jh.length : Int))),(77,vI wP)],[bx 120 [(3,some [vS jj, .val (.list jb jd),vI jg, .val (.list ja jf), .val (.list je jh),vI jc]),(6,some [.val (.str []), .lst true true 89 [],vI 0, .lst true true 39 [], .lst true true 70 [],vI 0]),(7,some [.val (.str []), .lst true true 89 [],vI 0, .lst true true 39 [], .lst true true 70 [],vI 0]),(12,some [vS jj, .val jr,vI jg, .val (.list ja jf), .lst true yS 70 yV,vI jc]),(13,some [vS jp, .val jq,vI 0, .val (.list ja jf), .lst true yu 70 yw,vI jc])]],KK⟩)
noncomputable def QcP (lb n gG yD : Nat) (jj : LB) (jb : Bool) (jd : LL) (jg : Int) (ja : Bool) (jf : LL) (je : Bool) (jh : LL) (jc : Int) (jn : Bool) (jv : LL) (jp : LB) (jq jr jm jy : CV) (jP : Int) (wY : Bool × LL) (wV : Bool) (wP : Int) (vr : List CV) (ve y6 vj : CV) (yS : Bool) (yV : LL) (yu : Bool) (yw : LL) (me gC : Int) : Option CV :=
 hold (Qav (E0 lb n 0 980) 0 (Qag (sub (B Qaa) [1,1,1,1,1,1,0,1,0,0,1,1,0,0,1,1,0,1,0,0]) ++ [18]) [] (sub (B Qaa) [1,1,1,1,1,1,0,1,0,0,1,1,0,0,1,1,0,1,0,0]) (Qak 3 (seqK (E0 lb n 0 983) (sub (B Qaa) [1,1,1,1,1,1,0,1,0,0,1,1,0,0,1,1,0]) (sub (B Qaa) [1,1,1,1,1,1,0,1,0,0,1,1,0,0,1,1,1]) (Qak 2 (seqK (E0 lb n 0 987) (sub (B Qaa) [1,1,1,1,1,1,0,1,0,0,1,1,0]) (sub (B Qaa) [1,1,1,1,1,1,0,1,0,0,1,1,1]) (QbG 0 (Qag (sub (B Qaa) [1,1,1,1,1,1,0,1,0,0]) ++ [16,18,16]) [15] (Qav (E0 lb n 0 990) 0 (Qag (sub (B Qaa) [1,1,1,1,1,1,0,1,0,0]) ++ [16,18,16]) [15] (sub (B Qaa) [1,1,1,1,1,1,0,1,0,0]) (Qak 1 (seqK (E0 lb n 0 993) (sub (B Qaa) [1,1,1,1,1,1,0]) (sub (B Qaa) [1,1,1,1,1,1,1]) (retK Tryz.prog (R Qaa) 0 (outK (Qad Tryz.prog Qaa))))) yD) (Qak 1 (seqK (E0 lb n 0 993) (sub (B Qaa) [1,1,1,1,1,1,0]) (sub (B Qaa) [1,1,1,1,1,1,1]) (retK Tryz.prog (R Qaa) 0 (outK (Qad Tryz.prog Qaa)))))))))) gG ⟨fr 120 [(0, .val (.agg [.str jj, .list jb jd, .int .i64 jg, .list ja jf, .list je jh, .int .i64 jc])),(1, .val (.list jn jv)),(2,vS jp),(3, .ptr 0 3 0),(6, .ptr 0 6 0),(7, .ptr 0 7 0),(8,vI 0),(9,vV jq),(10,vV jr),(11,vV jm),(12, .ptr 0 12 0),(13, .ptr 0 13 0),(15, .ptr 0 15 0),(16,vI me),(19,vV jy),(20, .ptr 0 3 1),(21, .val (.list jb jd)),(22, .val (.list jn jv)),(23,vV jy),(24,vV jq),(25,vV jr),(26,vV jm),(27, .val (.bool (jP != 0))),(33, .val (.bool (jg == 0))),(44, .val (.bool (decide ((wY.2.length : Int) > 9)))),(50, .val (.bool (!wV))),(56, .val (.bool (jp == jj))),(63, .val (.agg [.str jj, .list jb jd, .int .i64 jg, .list ja jf, .list je jh, .int .i64 jc])),(64, .val (.agg [.str jj, .list jb jd, .int .i64 jg, .list ja jf, .list je jh, .int .i64 jc])),(65,vV jr),(66, .ptr 0 12 1),(67, .ptr 0 12 4),(68,vV jq),(69,vS jp),(70, .ptr 0 13 1),(71, .ptr 0 13 4),(72, .ptr 0 13 0),(73, .ptr 0 13 2),(74, .ptr 0 3 4),(75, .val (.list je jh)),(76, .val (.int .i64 (jh.length : Int))),(77,vI wP),(78, .val (.bool (decide (wP < (jh.length : Int))))),(79, .cptr vr 0),(80, .val (.agg [ve,y6,vj])),(81, .val (.list jn jv)),(82, .val (.int .i64 (jv.length : Int))),(83,vI gC)],[bx 120 [(3,some [vS jj, .val (.list jb jd),vI jg, .val (.list ja jf), .val (.list je jh),vI jc]),(6,some [.val (.str []), .lst true true 89 [],vI 0, .lst true true 39 [], .lst true true 70 [],vI 0]),(7,some [.val (.str []), .lst true true 89 [],vI 0, .lst true true 39 [], .lst true true 70 [],vI 0]),(12,some [vS jj, .val jr,vI jg, .val (.list ja jf), .lst true yS 70 yV,vI jc]),(13,some [vS jp, .val jq,vI 0, .val (.list ja jf), .lst true yu 70 yw,vI jc]),(15,some [.val ve, .val y6, .val vj])]],KK⟩)
noncomputable def Qff (lb n yD : Nat) (jj : LB) (jb : Bool) (jd : LL) (jg : Int) (ja : Bool) (jf : LL) (je : Bool) (jh : LL) (jc : Int) (jn : Bool) (jv : LL) (jp : LB) (jq jr jm jy : CV) (jP : Int) (wY : Bool × LL) (wV : Bool) (wP : Int) (vr : List CV) (ve y6 vj : CV) (yS : Bool) (yV : LL) (yu : Bool) (yw : LL) (kM : Int) : Option CV :=
 hold (E0 lb n 0 983 (sub (B Qaa) [1,1,1,1,1,1,0,1,0,0,1,1,0,0,1,1,1]) (Qak 2 (seqK (E0 lb n 0 987) (sub (B Qaa) [1,1,1,1,1,1,0,1,0,0,1,1,0]) (sub (B Qaa) [1,1,1,1,1,1,0,1,0,0,1,1,1]) (QbG 0 (Qag (sub (B Qaa) [1,1,1,1,1,1,0,1,0,0]) ++ [16,18,16]) [15] (Qav (E0 lb n 0 990) 0 (Qag (sub (B Qaa) [1,1,1,1,1,1,0,1,0,0]) ++ [16,18,16]) [15] (sub (B Qaa) [1,1,1,1,1,1,0,1,0,0]) (Qak 1 (seqK (E0 lb n 0 993) (sub (B Qaa) [1,1,1,1,1,1,0]) (sub (B Qaa) [1,1,1,1,1,1,1]) (retK Tryz.prog (R Qaa) 0 (outK (Qad Tryz.prog Qaa))))) yD) (Qak 1 (seqK (E0 lb n 0 993) (sub (B Qaa) [1,1,1,1,1,1,0]) (sub (B Qaa) [1,1,1,1,1,1,1]) (retK Tryz.prog (R Qaa) 0 (outK (Qad Tryz.prog Qaa)))))))) ⟨fr 120 [(0, .val (.agg [.str jj, .list jb jd, .int .i64 jg, .list ja jf, .list je jh, .int .i64 jc])),(1, .val (.list jn jv)),(2,vS jp),(3, .ptr 0 3 0),(6, .ptr 0 6 0),(7, .ptr 0 7 0),(8,vI 0),(9,vV jq),(10,vV jr),(11,vV jm),(12, .ptr 0 12 0),(13, .ptr 0 13 0),(15, .ptr 0 15 0),(16,vI kM),(19,vV jy),(20, .ptr 0 3 1),(21, .val (.list jb jd)),(22, .val (.list jn jv)),(23,vV jy),(24,vV jq),(25,vV jr),(26,vV jm),(27, .val (.bool (jP != 0))),(33, .val (.bool (jg == 0))),(44, .val (.bool (decide ((wY.2.length : Int) > 9)))),(50, .val (.bool (!wV))),(56, .val (.bool (jp == jj))),(63, .val (.agg [.str jj, .list jb jd, .int .i64 jg, .list ja jf, .list je jh, .int .i64 jc])),(64, .val (.agg [.str jj, .list jb jd, .int .i64 jg, .list ja jf, .list je jh, .int .i64 jc])),(65,vV jr),(66, .ptr 0 12 1),(67, .ptr 0 12 4),(68,vV jq),(69,vS jp),(70, .ptr 0 13 1),(71, .ptr 0 13 4),(72, .ptr 0 13 0),(73, .ptr 0 13 2),(74, .ptr 0 3 4),(75, .val (.list je jh)),(76, .val (.int .i64 (jh.length : Int))),(77,vI wP),(78, .val (.bool (decide (wP < (jh.length : Int))))),(79, .cptr vr 0),(80, .val (.agg [ve,y6,vj]))],[bx 120 [(3,some [vS jj, .val (.list jb jd),vI jg, .val (.list ja jf), .val (.list je jh),vI jc]),(6,some [.val (.str []), .lst true true 89 [],vI 0, .lst true true 39 [], .lst true true 70 [],vI 0]),(7,some [.val (.str []), .lst true true 89 [],vI 0, .lst true true 39 [], .lst true true 70 [],vI 0]),(12,some [vS jj, .val jr,vI jg, .val (.list ja jf), .lst true yS 70 yV,vI jc]),(13,some [vS jp, .val jq,vI 0, .val (.list ja jf), .lst true yu 70 yw,vI jc]),(15,some [.val ve, .val y6, .val vj])]],KK⟩)
noncomputable def QhZ (lb n yD : Nat) (jj : LB) (jb : Bool) (jd : LL) (jg : Int) (ja : Bool) (jf : LL) (je : Bool) (jh : LL) (jc : Int) (jn : Bool) (jv : LL) (jp : LB) (jq jr jm jy : CV) (jP : Int) (wY : Bool × LL) (wV : Bool) (wP : Int) (yS : Bool) (yV : LL) (nH : Int) (ky : Bool) (kx : LL) (nY : CV) (nP : Int) (pH : CV) : Option CV :=
 hold (E0 lb n 0 987 (sub (B Qaa) [1,1,1,1,1,1,0,1,0,0,1,1,1]) (QbG 0 (Qag (sub (B Qaa) [1,1,1,1,1,1,0,1,0,0]) ++ [16,18,16]) [15] (Qav (E0 lb n 0 990) 0 (Qag (sub (B Qaa) [1,1,1,1,1,1,0,1,0,0]) ++ [16,18,16]) [15] (sub (B Qaa) [1,1,1,1,1,1,0,1,0,0]) (Qak 1 (seqK (E0 lb n 0 993) (sub (B Qaa) [1,1,1,1,1,1,0]) (sub (B Qaa) [1,1,1,1,1,1,1]) (retK Tryz.prog (R Qaa) 0 (outK (Qad Tryz.prog Qaa))))) yD) (Qak 1 (seqK (E0 lb n 0 993) (sub (B Qaa) [1,1,1,1,1,1,0]) (sub (B Qaa) [1,1,1,1,1,1,1]) (retK Tryz.prog (R Qaa) 0 (outK (Qad Tryz.prog Qaa)))))) ⟨fr 120 [(0, .val (.agg [.str jj, .list jb jd, .int .i64 jg, .list ja jf, .list je jh, .int .i64 jc])),(1, .val (.list jn jv)),(2,vS jp),(3, .ptr 0 3 0),(6, .ptr 0 6 0),(7, .ptr 0 7 0),(8,vI 0),(9,vV jq),(10,vV jr),(11,vV jm),(12, .ptr 0 12 0),(13, .ptr 0 13 0),(16,vI nH),(19,vV jy),(20, .ptr 0 3 1),(21, .val (.list jb jd)),(22, .val (.list jn jv)),(23,vV jy),(24,vV jq),(25,vV jr),(26,vV jm),(27, .val (.bool (jP != 0))),(33, .val (.bool (jg == 0))),(44, .val (.bool (decide ((wY.2.length : Int) > 9)))),(50, .val (.bool (!wV))),(56, .val (.bool (jp == jj))),(63, .val (.agg [.str jj, .list jb jd, .int .i64 jg, .list ja jf, .list je jh, .int .i64 jc])),(64, .val (.agg [.str jj, .list jb jd, .int .i64 jg, .list ja jf, .list je jh, .int .i64 jc])),(65,vV jr),(66, .ptr 0 12 1),(67, .ptr 0 12 4),(68,vV jq),(69,vS jp),(70, .ptr 0 13 1),(71, .ptr 0 13 4),(72, .ptr 0 13 0),(73, .ptr 0 13 2),(74, .ptr 0 3 4),(75, .val (.list je jh)),(76, .val (.int .i64 (jh.length : Int))),(77,vI wP),(78, .val (.bool (decide (wP < (jh.length : Int)))))],[bx 120 [(3,some [vS jj, .val (.list jb jd),vI jg, .val (.list ja jf), .val (.list je jh),vI jc]),(6,some [.val (.str []), .lst true true 89 [],vI 0, .lst true true 39 [], .lst true true 70 [],vI 0]),(7,some [.val (.str []), .lst true true 89 [],vI 0, .lst true true 39 [], .lst true true 70 [],vI 0]),(12,some [vS jj, .val jr,vI jg, .val (.list ja jf), .lst true yS 70 yV,vI jc]),(13,some [vS jp, .val jq,vI 0, .val (.list ja jf), .lst true ky 70 kx,vI jc]),(15,some [.val nY,vI nP, .val pH])]],KK⟩)
theorem QkH (lb n yD : Nat) (jj : LB) (jb : Bool) (jd : LL) (jg : Int) (ja : Bool) (jf : LL) (je : Bool) (jh : LL) (jc : Int) (jn : Bool) (jv : LL) (jp : LB) (jq jr jm jy : CV) (jP : Int) (wY : Bool × LL) (wV : Bool) (wP : Int) (yS : Bool) (yV : LL) (nH : Int) (ky : Bool) (kx : LL) (nY : CV) (nP : Int) (pH : CV) :
 QhZ lb n yD jj jb jd jg ja jf je jh jc jn jv jp jq jr jm jy jP wY wV wP yS yV nH ky kx nY nP pH =
 Qco lb n yD jj jb jd jg ja jf je jh jc jn jv jp jq jr jm jy jP wY wV (IntKind.wrap .i64 (wP + 1)) yS yV ky kx := (Qac _).trans (by kernel_rfl)
noncomputable def QhR (lb n yD : Nat) (jj : LB) (jb : Bool) (jd : LL) (jg : Int) (ja : Bool) (jf : LL) (je : Bool) (jh : LL) (jc : Int) (jn : Bool) (jv : LL) (jp : LB) (jq jr jm jy : CV) (jP : Int) (wY : Bool × LL) (wV : Bool) (wP : Int) (yu : Bool) (yw : LL) (pr : Int) (mu : Bool) (mn : LL) (nQ : CV) (ki : Int) (pw : CV) : Option CV :=
 hold (E0 lb n 0 987 (sub (B Qaa) [1,1,1,1,1,1,0,1,0,0,1,1,1]) (QbG 0 (Qag (sub (B Qaa) [1,1,1,1,1,1,0,1,0,0]) ++ [16,18,16]) [15] (Qav (E0 lb n 0 990) 0 (Qag (sub (B Qaa) [1,1,1,1,1,1,0,1,0,0]) ++ [16,18,16]) [15] (sub (B Qaa) [1,1,1,1,1,1,0,1,0,0]) (Qak 1 (seqK (E0 lb n 0 993) (sub (B Qaa) [1,1,1,1,1,1,0]) (sub (B Qaa) [1,1,1,1,1,1,1]) (retK Tryz.prog (R Qaa) 0 (outK (Qad Tryz.prog Qaa))))) yD) (Qak 1 (seqK (E0 lb n 0 993) (sub (B Qaa) [1,1,1,1,1,1,0]) (sub (B Qaa) [1,1,1,1,1,1,1]) (retK Tryz.prog (R Qaa) 0 (outK (Qad Tryz.prog Qaa)))))) ⟨fr 120 [(0, .val (.agg [.str jj, .list jb jd, .int .i64 jg, .list ja jf, .list je jh, .int .i64 jc])),(1, .val (.list jn jv)),(2,vS jp),(3, .ptr 0 3 0),(6, .ptr 0 6 0),(7, .ptr 0 7 0),(8,vI 0),(9,vV jq),(10,vV jr),(11,vV jm),(12, .ptr 0 12 0),(13, .ptr 0 13 0),(16,vI pr),(19,vV jy),(20, .ptr 0 3 1),(21, .val (.list jb jd)),(22, .val (.list jn jv)),(23,vV jy),(24,vV jq),(25,vV jr),(26,vV jm),(27, .val (.bool (jP != 0))),(33, .val (.bool (jg == 0))),(44, .val (.bool (decide ((wY.2.length : Int) > 9)))),(50, .val (.bool (!wV))),(56, .val (.bool (jp == jj))),(63, .val (.agg [.str jj, .list jb jd, .int .i64 jg, .list ja jf, .list je jh, .int .i64 jc])),(64, .val (.agg [.str jj, .list jb jd, .int .i64 jg, .list ja jf, .list je jh, .int .i64 jc])),(65,vV jr),(66, .ptr 0 12 1),(67, .ptr 0 12 4),(68,vV jq),(69,vS jp),(70, .ptr 0 13 1),(71, .ptr 0 13 4),(72, .ptr 0 13 0),(73, .ptr 0 13 2),(74, .ptr 0 3 4),(75, .val (.list je jh)),(76, .val (.int .i64 (jh.length : Int))),(77,vI wP),(78, .val (.bool (decide (wP < (jh.length : Int)))))],[bx 120 [(3,some [vS jj, .val (.list jb jd),vI jg, .val (.list ja jf), .val (.list je jh),vI jc]),(6,some [.val (.str []), .lst true true 89 [],vI 0, .lst true true 39 [], .lst true true 70 [],vI 0]),(7,some [.val (.str []), .lst true true 89 [],vI 0, .lst true true 39 [], .lst true true 70 [],vI 0]),(12,some [vS jj, .val jr,vI jg, .val (.list ja jf), .lst true mu 70 mn,vI jc]),(13,some [vS jp, .val jq,vI 0, .val (.list ja jf), .lst true yu 70 yw,vI jc]),(15,some [.val nQ,vI ki, .val pw])]],KK⟩)
theorem QkE (lb n yD : Nat) (jj : LB) (jb : Bool) (jd : LL) (jg : Int) (ja : Bool) (jf : LL) (je : Bool) (jh : LL) (jc : Int) (jn : Bool) (jv : LL) (jp : LB) (jq jr jm jy : CV) (jP : Int) (wY : Bool × LL) (wV : Bool) (wP : Int) (yu : Bool) (yw : LL) (pr : Int) (mu : Bool) (mn : LL) (nQ : CV) (ki : Int) (pw : CV) :
 QhR lb n yD jj jb jd jg ja jf je jh jc jn jv jp jq jr jm jy jP wY wV wP yu yw pr mu mn nQ ki pw =
 Qco lb n yD jj jb jd jg ja jf je jh jc jn jv jp jq jr jm jy jP wY wV (IntKind.wrap .i64 (wP + 1)) mu mn yu yw := (Qac _).trans (by kernel_rfl)
theorem QkN (lb n yD : Nat) (jj : LB) (jb : Bool) (jd : LL) (jg : Int) (ja : Bool) (jf : LL) (je : Bool) (jh : LL) (jc : Int) (jn : Bool) (jv : LL) (jp : LB) (jq jr jm jy : CV) (jP : Int) (wY : Bool × LL) (wV : Bool) (wP : Int) (vr : List CV) (ve y6 vj : CV) (yS : Bool) (yV : LL) (yu : Bool) (yw : LL) (kM : Int) :
 Qff lb n yD jj jb jd jg ja jf je jh jc jn jv jp jq jr jm jy jP wY wV wP vr ve y6 vj yS yV yu yw kM =
 optO (C lb n Qbo [.list jn jv,y6]) fun vo =>
 optO (CV.asB vo) fun oB =>
 bif oB then
 (chkO (room (yw.length + 1) 32) (
 QhZ lb n yD jj jb jd jg ja jf je jh jc jn jv jp jq jr jm jy jP wY wV wP yS yV kM (yu && false) (yw ++ [[ve,CV.int .i64 kM,vj]]) ve kM vj))
 else
 (optO (CV.asI .i64 y6) fun qJ =>
 chkO (room (yV.length + 1) 32) (
 QhR lb n yD jj jb jd jg ja jf je jh jc jn jv jp jq jr jm jy jP wY wV wP yu yw kM (yS && false) (yV ++ [[ve,CV.int .i64 (IntKind.wrap .i64 (qJ - kM)),vj]]) ve (IntKind.wrap .i64 (qJ - kM)) vj)) := (Qac _).trans (by kernel_rfl)
theorem Qfp (lb n gG yD : Nat) (jj : LB) (jb : Bool) (jd : LL) (jg : Int) (ja : Bool) (jf : LL) (je : Bool) (jh : LL) (jc : Int) (jn : Bool) (jv : LL) (jp : LB) (jq jr jm jy : CV) (jP : Int) (wY : Bool × LL) (wV : Bool) (wP : Int) (vr : List CV) (ve y6 vj : CV) (yS : Bool) (yV : LL) (yu : Bool) (yw : LL) (me gC : Int) :
 QcP lb n (gG + 1) yD jj jb jd jg ja jf je jh jc jn jv jp jq jr jm jy jP wY wV wP vr ve y6 vj yS yV yu yw me gC =
 bif (decide (gC < (jv.length : Int))) then
 (optO (atL jv gC) fun qi =>
 chkO (qi.length == 1) (
 optO (qi[0]?) fun w5 =>
 optO (CV.asI .i64 w5) fun re =>
 optO (CV.asI .i64 y6) fun zN =>
 bif (decide (re < zN)) then
 (QcP lb n gG yD jj jb jd jg ja jf je jh jc jn jv jp jq jr jm jy jP wY wV wP vr ve y6 vj yS yV yu yw (IntKind.wrap .i64 (me + 1)) (IntKind.wrap .i64 (gC + 1)))
 else
 (QcP lb n gG yD jj jb jd jg ja jf je jh jc jn jv jp jq jr jm jy jP wY wV wP vr ve y6 vj yS yV yu yw me (IntKind.wrap .i64 (gC + 1)))))
 else
 (Qff lb n yD jj jb jd jg ja jf je jh jc jn jv jp jq jr jm jy jP wY wV wP vr ve y6 vj yS yV yu yw me) := (Qac _).trans (by kernel_rfl)
noncomputable def QdK (lb n : Nat) (jj : LB) (jb : Bool) (jd : LL) (jg : Int) (ja : Bool) (jf : LL) (je : Bool) (jh : LL) (jc : Int) (jn : Bool) (jv : LL) (jp : LB) (jq jr jm jy : CV) (jP : Int) (wY : Bool × LL) (wV mU : Bool) (mP : LL) (mq : Bool) (nb : LL) : Option CV :=
 hold (E0 lb n 0 993 (sub (B Qaa) [1,1,1,1,1,1,1]) (retK Tryz.prog (R Qaa) 0 (outK (Qad Tryz.prog Qaa))) ⟨fr 120 [(0, .val (.agg [.str jj, .list jb jd, .int .i64 jg, .list ja jf, .list je jh, .int .i64 jc])),(1, .val (.list jn jv)),(2,vS jp),(3, .ptr 0 3 0),(6, .ptr 0 6 0),(7, .ptr 0 7 0),(8,vI 0),(9,vV jq),(10,vV jr),(11,vV jm),(12, .ptr 0 12 0),(13, .ptr 0 13 0),(19,vV jy),(20, .ptr 0 3 1),(21, .val (.list jb jd)),(22, .val (.list jn jv)),(23,vV jy),(24,vV jq),(25,vV jr),(26,vV jm),(27, .val (.bool (jP != 0))),(33, .val (.bool (jg == 0))),(44, .val (.bool (decide ((wY.2.length : Int) > 9)))),(50, .val (.bool (!wV))),(56, .val (.bool (jp == jj))),(63, .val (.agg [.str jj, .list jb jd, .int .i64 jg, .list ja jf, .list je jh, .int .i64 jc])),(64, .val (.agg [.str jj, .list jb jd, .int .i64 jg, .list ja jf, .list je jh, .int .i64 jc])),(65,vV jr),(66, .ptr 0 12 1),(67, .ptr 0 12 4),(68,vV jq),(69,vS jp),(70, .ptr 0 13 1),(71, .ptr 0 13 4),(72, .ptr 0 13 0),(73, .ptr 0 13 2)],[bx 120 [(3,some [vS jj, .val (.list jb jd),vI jg, .val (.list ja jf), .val (.list je jh),vI jc]),(6,some [.val (.str []), .lst true true 89 [],vI 0, .lst true true 39 [], .lst true true 70 [],vI 0]),(7,some [.val (.str []), .lst true true 89 [],vI 0, .lst true true 39 [], .lst true true 70 [],vI 0]),(12,some [vS jj, .val jr,vI jg, .val (.list ja jf), .lst true mU 70 mP,vI jc]),(13,some [vS jp, .val jq,vI 0, .val (.list ja jf), .lst true mq 70 nb,vI jc])]],KK⟩)
theorem Qk8 (lb n : Nat) (jj : LB) (jb : Bool) (jd : LL) (jg : Int) (ja : Bool) (jf : LL) (je : Bool) (jh : LL) (jc : Int) (jn : Bool) (jv : LL) (jp : LB) (jq jr jm jy : CV) (jP : Int) (wY : Bool × LL) (wV mU : Bool) (mP : LL) (mq : Bool) (nb : LL) :
 QdK lb n jj jb jd jg ja jf je jh jc jn jv jp jq jr jm jy jP wY wV mU mP mq nb =
 some (.tup [.agg [.str jj,jr, .int .i64 jg, .list ja jf, .list mU mP, .int .i64 jc], .agg [.str jp,jq, .int .i64 0, .list ja jf, .list mq nb, .int .i64 jc], .int .i64 0]) := (Qac _).trans (by kernel_rfl)
theorem Qfk (lb n yD : Nat) (jj : LB) (jb : Bool) (jd : LL) (jg : Int) (ja : Bool) (jf : LL) (je : Bool) (jh : LL) (jc : Int) (jn : Bool) (jv : LL) (jp : LB) (jq jr jm jy : CV) (jP : Int) (wY : Bool × LL) (wV : Bool) (wP : Int) (yS : Bool) (yV : LL) (yu : Bool) (yw : LL) :
 Qco lb n (yD + 1) jj jb jd jg ja jf je jh jc jn jv jp jq jr jm jy jP wY wV wP yS yV yu yw =
 bif (decide (wP < (jh.length : Int))) then
 (optO (atL jh wP) fun vr =>
 chkO (vr.length == 3) (
 optO (vr[0]?) fun ve =>
 optO (vr[1]?) fun y6 =>
 optO (vr[2]?) fun vj =>
 QcP lb n n yD jj jb jd jg ja jf je jh jc jn jv jp jq jr jm jy jP wY wV wP vr ve y6 vj yS yV yu yw 0 0))
 else
 (QdK lb n jj jb jd jg ja jf je jh jc jn jv jp jq jr jm jy jP wY wV yS yV yu yw) := (Qac _).trans (by kernel_rfl)
noncomputable def Qcl (lb n w7 : Nat) (jj : LB) (jb : Bool) (jd : LL) (jg : Int) (ja : Bool) (jf : LL) (je : Bool) (jh : LL) (jc : Int) (jn : Bool) (jv : LL) (jp : LB) (jq jr jm jy : CV) (jP : Int) (wJ : Bool × LL) (wI : Bool) (jR : Int) (yp : Bool) (ym : LL) (yo : Bool) (yk : LL) : Option CV :=
 hold (Qav (E0 lb n 0 990) 0 (Qag (sub (B Qaa) [1,1,1,1,1,1,0,1,0,0]) ++ [16,18,16]) [15] (sub (B Qaa) [1,1,1,1,1,1,0,1,0,0]) (Qak 1 (seqK (E0 lb n 0 993) (sub (B Qaa) [1,1,1,1,1,1,0]) (sub (B Qaa) [1,1,1,1,1,1,1]) (retK Tryz.prog (R Qaa) 0 (outK (Qad Tryz.prog Qaa))))) w7 ⟨fr 120 [(0, .val (.agg [.str jj, .list jb jd, .int .i64 jg, .list ja jf, .list je jh, .int .i64 jc])),(1, .val (.list jn jv)),(2,vS jp),(3, .ptr 0 3 0),(6, .ptr 0 6 0),(7, .ptr 0 7 0),(8,vI 0),(9,vV jq),(10,vV jr),(11,vV jm),(12, .ptr 0 12 0),(13, .ptr 0 13 0),(19,vV jy),(20, .ptr 0 3 1),(21, .val (.list jb jd)),(22, .val (.list jn jv)),(23,vV jy),(24,vV jq),(25,vV jr),(26,vV jm),(27, .val (.bool (jP != 0))),(33,vB false),(44, .val (.bool (decide ((wJ.2.length : Int) > 9)))),(50, .val (.bool (!wI))),(56, .val (.bool (jp == jj))),(63, .val (.agg [.str jj, .list jb jd, .int .i64 jg, .list ja jf, .list je jh, .int .i64 jc])),(64, .val (.agg [.str jj, .list jb jd, .int .i64 jg, .list ja jf, .list je jh, .int .i64 jc])),(65,vV jr),(66, .ptr 0 12 1),(67, .ptr 0 12 4),(68,vV jq),(69,vS jp),(70, .ptr 0 13 1),(71, .ptr 0 13 4),(72, .ptr 0 13 0),(73, .ptr 0 13 2),(74, .ptr 0 3 4),(75, .val (.list je jh)),(76, .val (.int .i64 (jh.length : Int))),(77,vI jR)],[bx 120 [(3,some [vS jj, .val (.list jb jd),vI jg, .val (.list ja jf), .val (.list je jh),vI jc]),(6,some [.val (.str []), .lst true true 89 [],vI 0, .lst true true 39 [], .lst true true 70 [],vI 0]),(7,some [.val (.str []), .lst true true 89 [],vI 0, .lst true true 39 [], .lst true true 70 [],vI 0]),(12,some [vS jj, .val jr,vI jg, .val (.list ja jf), .lst true yp 70 ym,vI jc]),(13,some [vS jp, .val jq,vI 0, .val (.list ja jf), .lst true yo 70 yk,vI jc])]],KK⟩)
noncomputable def QcT (lb n gK w7 : Nat) (jj : LB) (jb : Bool) (jd : LL) (jg : Int) (ja : Bool) (jf : LL) (je : Bool) (jh : LL) (jc : Int) (jn : Bool) (jv : LL) (jp : LB) (jq jr jm jy : CV) (jP : Int) (wJ : Bool × LL) (wI : Bool) (jR : Int) (y2 : List CV) (yz yN yO : CV) (yp : Bool) (ym : LL) (yo : Bool) (yk : LL) (oa kJ : Int) : Option CV :=
 hold (Qav (E0 lb n 0 980) 0 (Qag (sub (B Qaa) [1,1,1,1,1,1,0,1,0,0,1,1,0,0,1,1,0,1,0,0]) ++ [18]) [] (sub (B Qaa) [1,1,1,1,1,1,0,1,0,0,1,1,0,0,1,1,0,1,0,0]) (Qak 3 (seqK (E0 lb n 0 983) (sub (B Qaa) [1,1,1,1,1,1,0,1,0,0,1,1,0,0,1,1,0]) (sub (B Qaa) [1,1,1,1,1,1,0,1,0,0,1,1,0,0,1,1,1]) (Qak 2 (seqK (E0 lb n 0 987) (sub (B Qaa) [1,1,1,1,1,1,0,1,0,0,1,1,0]) (sub (B Qaa) [1,1,1,1,1,1,0,1,0,0,1,1,1]) (QbG 0 (Qag (sub (B Qaa) [1,1,1,1,1,1,0,1,0,0]) ++ [16,18,16]) [15] (Qav (E0 lb n 0 990) 0 (Qag (sub (B Qaa) [1,1,1,1,1,1,0,1,0,0]) ++ [16,18,16]) [15] (sub (B Qaa) [1,1,1,1,1,1,0,1,0,0]) (Qak 1 (seqK (E0 lb n 0 993) (sub (B Qaa) [1,1,1,1,1,1,0]) (sub (B Qaa) [1,1,1,1,1,1,1]) (retK Tryz.prog (R Qaa) 0 (outK (Qad Tryz.prog Qaa))))) w7) (Qak 1 (seqK (E0 lb n 0 993) (sub (B Qaa) [1,1,1,1,1,1,0]) (sub (B Qaa) [1,1,1,1,1,1,1]) (retK Tryz.prog (R Qaa) 0 (outK (Qad Tryz.prog Qaa)))))))))) gK ⟨fr 120 [(0, .val (.agg [.str jj, .list jb jd, .int .i64 jg, .list ja jf, .list je jh, .int .i64 jc])),(1, .val (.list jn jv)),(2,vS jp),(3, .ptr 0 3 0),(6, .ptr 0 6 0),(7, .ptr 0 7 0),(8,vI 0),(9,vV jq),(10,vV jr),(11,vV jm),(12, .ptr 0 12 0),(13, .ptr 0 13 0),(15, .ptr 0 15 0),(16,vI oa),(19,vV jy),(20, .ptr 0 3 1),(21, .val (.list jb jd)),(22, .val (.list jn jv)),(23,vV jy),(24,vV jq),(25,vV jr),(26,vV jm),(27, .val (.bool (jP != 0))),(33,vB false),(44, .val (.bool (decide ((wJ.2.length : Int) > 9)))),(50, .val (.bool (!wI))),(56, .val (.bool (jp == jj))),(63, .val (.agg [.str jj, .list jb jd, .int .i64 jg, .list ja jf, .list je jh, .int .i64 jc])),(64, .val (.agg [.str jj, .list jb jd, .int .i64 jg, .list ja jf, .list je jh, .int .i64 jc])),(65,vV jr),(66, .ptr 0 12 1),(67, .ptr 0 12 4),(68,vV jq),(69,vS jp),(70, .ptr 0 13 1),(71, .ptr 0 13 4),(72, .ptr 0 13 0),(73, .ptr 0 13 2),(74, .ptr 0 3 4),(75, .val (.list je jh)),(76, .val (.int .i64 (jh.length : Int))),(77,vI jR),(78, .val (.bool (decide (jR < (jh.length : Int))))),(79, .cptr y2 0),(80, .val (.agg [yz,yN,yO])),(81, .val (.list jn jv)),(82, .val (.int .i64 (jv.length : Int))),(83,vI kJ)],[bx 120 [(3,some [vS jj, .val (.list jb jd),vI jg, .val (.list ja jf), .val (.list je jh),vI jc]),(6,some [.val (.str []), .lst true true 89 [],vI 0, .lst true true 39 [], .lst true true 70 [],vI 0]),(7,some [.val (.str []), .lst true true 89 [],vI 0, .lst true true 39 [], .lst true true 70 [],vI 0]),(12,some [vS jj, .val jr,vI jg, .val (.list ja jf), .lst true yp 70 ym,vI jc]),(13,some [vS jp, .val jq,vI 0, .val (.list ja jf), .lst true yo 70 yk,vI jc]),(15,some [.val yz, .val yN, .val yO])]],KK⟩)
noncomputable def Qfd (lb n w7 : Nat) (jj : LB) (jb : Bool) (jd : LL) (jg : Int) (ja : Bool) (jf : LL) (je : Bool) (jh : LL) (jc : Int) (jn : Bool) (jv : LL) (jp : LB) (jq jr jm jy : CV) (jP : Int) (wJ : Bool × LL) (wI : Bool) (jR : Int) (y2 : List CV) (yz yN yO : CV) (yp : Bool) (ym : LL) (yo : Bool) (yk : LL) (kI : Int) : Option CV :=
 hold (E0 lb n 0 983 (sub (B Qaa) [1,1,1,1,1,1,0,1,0,0,1,1,0,0,1,1,1]) (Qak 2 (seqK (E0 lb n 0 987) (sub (B Qaa) [1,1,1,1,1,1,0,1,0,0,1,1,0]) (sub (B Qaa) [1,1,1,1,1,1,0,1,0,0,1,1,1]) (QbG 0 (Qag (sub (B Qaa) [1,1,1,1,1,1,0,1,0,0]) ++ [16,18,16]) [15] (Qav (E0 lb n 0 990) 0 (Qag (sub (B Qaa) [1,1,1,1,1,1,0,1,0,0]) ++ [16,18,16]) [15] (sub (B Qaa) [1,1,1,1,1,1,0,1,0,0]) (Qak 1 (seqK (E0 lb n 0 993) (sub (B Qaa) [1,1,1,1,1,1,0]) (sub (B Qaa) [1,1,1,1,1,1,1]) (retK Tryz.prog (R Qaa) 0 (outK (Qad Tryz.prog Qaa))))) w7) (Qak 1 (seqK (E0 lb n 0 993) (sub (B Qaa) [1,1,1,1,1,1,0]) (sub (B Qaa) [1,1,1,1,1,1,1]) (retK Tryz.prog (R Qaa) 0 (outK (Qad Tryz.prog Qaa)))))))) ⟨fr 120 [(0, .val (.agg [.str jj, .list jb jd, .int .i64 jg, .list ja jf, .list je jh, .int .i64 jc])),(1, .val (.list jn jv)),(2,vS jp),(3, .ptr 0 3 0),(6, .ptr 0 6 0),(7, .ptr 0 7 0),(8,vI 0),(9,vV jq),(10,vV jr),(11,vV jm),(12, .ptr 0 12 0),(13, .ptr 0 13 0),(15, .ptr 0 15 0),(16,vI kI),(19,vV jy),(20, .ptr 0 3 1),(21, .val (.list jb jd)),(22, .val (.list jn jv)),(23,vV jy),(24,vV jq),(25,vV jr),(26,vV jm),(27, .val (.bool (jP != 0))),(33,vB false),(44, .val (.bool (decide ((wJ.2.length : Int) > 9)))),(50, .val (.bool (!wI))),(56, .val (.bool (jp == jj))),(63, .val (.agg [.str jj, .list jb jd, .int .i64 jg, .list ja jf, .list je jh, .int .i64 jc])),(64, .val (.agg [.str jj, .list jb jd, .int .i64 jg, .list ja jf, .list je jh, .int .i64 jc])),(65,vV jr),(66, .ptr 0 12 1),(67, .ptr 0 12 4),(68,vV jq),(69,vS jp),(70, .ptr 0 13 1),(71, .ptr 0 13 4),(72, .ptr 0 13 0),(73, .ptr 0 13 2),(74, .ptr 0 3 4),(75, .val (.list je jh)),(76, .val (.int .i64 (jh.length : Int))),(77,vI jR),(78, .val (.bool (decide (jR < (jh.length : Int))))),(79, .cptr y2 0),(80, .val (.agg [yz,yN,yO]))],[bx 120 [(3,some [vS jj, .val (.list jb jd),vI jg, .val (.list ja jf), .val (.list je jh),vI jc]),(6,some [.val (.str []), .lst true true 89 [],vI 0, .lst true true 39 [], .lst true true 70 [],vI 0]),(7,some [.val (.str []), .lst true true 89 [],vI 0, .lst true true 39 [], .lst true true 70 [],vI 0]),(12,some [vS jj, .val jr,vI jg, .val (.list ja jf), .lst true yp 70 ym,vI jc]),(13,some [vS jp, .val jq,vI 0, .val (.list ja jf), .lst true yo 70 yk,vI jc]),(15,some [.val yz, .val yN, .val yO])]],KK⟩)
noncomputable def Qhx (lb n w7 : Nat) (jj : LB) (jb : Bool) (jd : LL) (jg : Int) (ja : Bool) (jf : LL) (je : Bool) (jh : LL) (jc : Int) (jn : Bool) (jv : LL) (jp : LB) (jq jr jm jy : CV) (jP : Int) (wJ : Bool × LL) (wI : Bool) (jR : Int) (yp : Bool) (ym : LL) (nL : Int) (mG : Bool) (mE : LL) (v210 : CV) (vT : Int) (v212 : CV) : Option CV :=
 hold (E0 lb n 0 987 (sub (B Qaa) [1,1,1,1,1,1,0,1,0,0,1,1,1]) (QbG 0 (Qag (sub (B Qaa) [1,1,1,1,1,1,0,1,0,0]) ++ [16,18,16]) [15] (Qav (E0 lb n 0 990) 0 (Qag (sub (B Qaa) [1,1,1,1,1,1,0,1,0,0]) ++ [16,18,16]) [15] (sub (B Qaa) [1,1,1,1,1,1,0,1,0,0]) (Qak 1 (seqK (E0 lb n 0 993) (sub (B Qaa) [1,1,1,1,1,1,0]) (sub (B Qaa) [1,1,1,1,1,1,1]) (retK Tryz.prog (R Qaa) 0 (outK (Qad Tryz.prog Qaa))))) w7) (Qak 1 (seqK (E0 lb n 0 993) (sub (B Qaa) [1,1,1,1,1,1,0]) (sub (B Qaa) [1,1,1,1,1,1,1]) (retK Tryz.prog (R Qaa) 0 (outK (Qad Tryz.prog Qaa)))))) ⟨fr 120 [(0, .val (.agg [.str jj, .list jb jd, .int .i64 jg, .list ja jf, .list je jh, .int .i64 jc])),(1, .val (.list jn jv)),(2,vS jp),(3, .ptr 0 3 0),(6, .ptr 0 6 0),(7, .ptr 0 7 0),(8,vI 0),(9,vV jq),(10,vV jr),(11,vV jm),(12, .ptr 0 12 0),(13, .ptr 0 13 0),(16,vI nL),(19,vV jy),(20, .ptr 0 3 1),(21, .val (.list jb jd)),(22, .val (.list jn jv)),(23,vV jy),(24,vV jq),(25,vV jr),(26,vV jm),(27, .val (.bool (jP != 0))),(33,vB false),(44, .val (.bool (decide ((wJ.2.length : Int) > 9)))),(50, .val (.bool (!wI))),(56, .val (.bool (jp == jj))),(63, .val (.agg [.str jj, .list jb jd, .int .i64 jg, .list ja jf, .list je jh, .int .i64 jc])),(64, .val (.agg [.str jj, .list jb jd, .int .i64 jg, .list ja jf, .list je jh, .int .i64 jc])),(65,vV jr),(66, .ptr 0 12 1),(67, .ptr 0 12 4),(68,vV jq),(69,vS jp),(70, .ptr 0 13 1),(71, .ptr 0 13 4),(72, .ptr 0 13 0),(73, .ptr 0 13 2),(74, .ptr 0 3 4),(75, .val (.list je jh)),(76, .val (.int .i64 (jh.length : Int))),(77,vI jR),(78, .val (.bool (decide (jR < (jh.length : Int)))))],[bx 120 [(3,some [vS jj, .val (.list jb jd),vI jg, .val (.list ja jf), .val (.list je jh),vI jc]),(6,some [.val (.str []), .lst true true 89 [],vI 0, .lst true true 39 [], .lst true true 70 [],vI 0]),(7,some [.val (.str []), .lst true true 89 [],vI 0, .lst true true 39 [], .lst true true 70 [],vI 0]),(12,some [vS jj, .val jr,vI jg, .val (.list ja jf), .lst true yp 70 ym,vI jc]),(13,some [vS jp, .val jq,vI 0, .val (.list ja jf), .lst true mG 70 mE,vI jc]),(15,some [.val v210,vI vT, .val v212])]],KK⟩)
theorem Qj6 (lb n w7 : Nat) (jj : LB) (jb : Bool) (jd : LL) (jg : Int) (ja : Bool) (jf : LL) (je : Bool) (jh : LL) (jc : Int) (jn : Bool) (jv : LL) (jp : LB) (jq jr jm jy : CV) (jP : Int) (wJ : Bool × LL) (wI : Bool) (jR : Int) (yp : Bool) (ym : LL) (nL : Int) (mG : Bool) (mE : LL) (v210 : CV) (vT : Int) (v212 : CV) :
 Qhx lb n w7 jj jb jd jg ja jf je jh jc jn jv jp jq jr jm jy jP wJ wI jR yp ym nL mG mE v210 vT v212 =
 Qcl lb n w7 jj jb jd jg ja jf je jh jc jn jv jp jq jr jm jy jP wJ wI (IntKind.wrap .i64 (jR + 1)) yp ym mG mE := (Qac _).trans (by kernel_rfl)
noncomputable def QhB (lb n w7 : Nat) (jj : LB) (jb : Bool) (jd : LL) (jg : Int) (ja : Bool) (jf : LL) (je : Bool) (jh : LL) (jc : Int) (jn : Bool) (jv : LL) (jp : LB) (jq jr jm jy : CV) (jP : Int) (wJ : Bool × LL) (wI : Bool) (jR : Int) (yo : Bool) (yk : LL) (gO : Int) (mJ : Bool) (mD : LL) (pm : CV) (gw : Int) (nS : CV) : Option CV :=
 hold (E0 lb n 0 987 (sub (B Qaa) [1,1,1,1,1,1,0,1,0,0,1,1,1]) (QbG 0 (Qag (sub (B Qaa) [1,1,1,1,1,1,0,1,0,0]) ++ [16,18,16]) [15] (Qav (E0 lb n 0 990) 0 (Qag (sub (B Qaa) [1,1,1,1,1,1,0,1,0,0]) ++ [16,18,16]) [15] (sub (B Qaa) [1,1,1,1,1,1,0,1,0,0]) (Qak 1 (seqK (E0 lb n 0 993) (sub (B Qaa) [1,1,1,1,1,1,0]) (sub (B Qaa) [1,1,1,1,1,1,1]) (retK Tryz.prog (R Qaa) 0 (outK (Qad Tryz.prog Qaa))))) w7) (Qak 1 (seqK (E0 lb n 0 993) (sub (B Qaa) [1,1,1,1,1,1,0]) (sub (B Qaa) [1,1,1,1,1,1,1]) (retK Tryz.prog (R Qaa) 0 (outK (Qad Tryz.prog Qaa)))))) ⟨fr 120 [(0, .val (.agg [.str jj, .list jb jd, .int .i64 jg, .list ja jf, .list je jh, .int .i64 jc])),(1, .val (.list jn jv)),(2,vS jp),(3, .ptr 0 3 0),(6, .ptr 0 6 0),(7, .ptr 0 7 0),(8,vI 0),(9,vV jq),(10,vV jr),(11,vV jm),(12, .ptr 0 12 0),(13, .ptr 0 13 0),(16,vI gO),(19,vV jy),(20, .ptr 0 3 1),(21, .val (.list jb jd)),(22, .val (.list jn jv)),(23,vV jy),(24,vV jq),(25,vV jr),(26,vV jm),(27, .val (.bool (jP != 0))),(33,vB false),(44, .val (.bool (decide ((wJ.2.length : Int) > 9)))),(50, .val (.bool (!wI))),(56, .val (.bool (jp == jj))),(63, .val (.agg [.str jj, .list jb jd, .int .i64 jg, .list ja jf, .list je jh, .int .i64 jc])),(64, .val (.agg [.str jj, .list jb jd, .int .i64 jg, .list ja jf, .list je jh, .int .i64 jc])),(65,vV jr),(66, .ptr 0 12 1),(67, .ptr 0 12 4),(68,vV jq),(69,vS jp),(70, .ptr 0 13 1),(71, .ptr 0 13 4),(72, .ptr 0 13 0),(73, .ptr 0 13 2),(74, .ptr 0 3 4),(75, .val (.list je jh)),(76, .val (.int .i64 (jh.length : Int))),(77,vI jR),(78, .val (.bool (decide (jR < (jh.length : Int)))))],[bx 120 [(3,some [vS jj, .val (.list jb jd),vI jg, .val (.list ja jf), .val (.list je jh),vI jc]),(6,some [.val (.str []), .lst true true 89 [],vI 0, .lst true true 39 [], .lst true true 70 [],vI 0]),(7,some [.val (.str []), .lst true true 89 [],vI 0, .lst true true 39 [], .lst true true 70 [],vI 0]),(12,some [vS jj, .val jr,vI jg, .val (.list ja jf), .lst true mJ 70 mD,vI jc]),(13,some [vS jp, .val jq,vI 0, .val (.list ja jf), .lst true yo 70 yk,vI jc]),(15,some [.val pm,vI gw, .val nS])]],KK⟩)
theorem Qkh (lb n w7 : Nat) (jj : LB) (jb : Bool) (jd : LL) (jg : Int) (ja : Bool) (jf : LL) (je : Bool) (jh : LL) (jc : Int) (jn : Bool) (jv : LL) (jp : LB) (jq jr jm jy : CV) (jP : Int) (wJ : Bool × LL) (wI : Bool) (jR : Int) (yo : Bool) (yk : LL) (gO : Int) (mJ : Bool) (mD : LL) (pm : CV) (gw : Int) (nS : CV) :
 QhB lb n w7 jj jb jd jg ja jf je jh jc jn jv jp jq jr jm jy jP wJ wI jR yo yk gO mJ mD pm gw nS =
 Qcl lb n w7 jj jb jd jg ja jf je jh jc jn jv jp jq jr jm jy jP wJ wI (IntKind.wrap .i64 (jR + 1)) mJ mD yo yk := (Qac _).trans (by kernel_rfl)
theorem Qky (lb n w7 : Nat) (jj : LB) (jb : Bool) (jd : LL) (jg : Int) (ja : Bool) (jf : LL) (je : Bool) (jh : LL) (jc : Int) (jn : Bool) (jv : LL) (jp : LB) (jq jr jm jy : CV) (jP : Int) (wJ : Bool × LL) (wI : Bool) (jR : Int) (y2 : List CV) (yz yN yO : CV) (yp : Bool) (ym : LL) (yo : Bool) (yk : LL) (kI : Int) :
 Qfd lb n w7 jj jb jd jg ja jf je jh jc jn jv jp jq jr jm jy jP wJ wI jR y2 yz yN yO yp ym yo yk kI =
 optO (C lb n Qbo [.list jn jv,yN]) fun rT =>
 optO (CV.asB rT) fun lr =>
 bif lr then
 (chkO (room (yk.length + 1) 32) (
 Qhx lb n w7 jj jb jd jg ja jf je jh jc jn jv jp jq jr jm jy jP wJ wI jR yp ym kI (yo && false) (yk ++ [[yz,CV.int .i64 kI,yO]]) yz kI yO))
 else
 (optO (CV.asI .i64 yN) fun my =>
 chkO (room (ym.length + 1) 32) (
 QhB lb n w7 jj jb jd jg ja jf je jh jc jn jv jp jq jr jm jy jP wJ wI jR yo yk kI (yp && false) (ym ++ [[yz,CV.int .i64 (IntKind.wrap .i64 (my - kI)),yO]]) yz (IntKind.wrap .i64 (my - kI)) yO)) := (Qac _).trans (by kernel_rfl)
theorem Qfr (lb n gK w7 : Nat) (jj : LB) (jb : Bool) (jd : LL) (jg : Int) (ja : Bool) (jf : LL) (je : Bool) (jh : LL) (jc : Int) (jn : Bool) (jv : LL) (jp : LB) (jq jr jm jy : CV) (jP : Int) (wJ : Bool × LL) (wI : Bool) (jR : Int) (y2 : List CV) (yz yN yO : CV) (yp : Bool) (ym : LL) (yo : Bool) (yk : LL) (oa kJ : Int) :
 QcT lb n (gK + 1) w7 jj jb jd jg ja jf je jh jc jn jv jp jq jr jm jy jP wJ wI jR y2 yz yN yO yp ym yo yk oa kJ =
 bif (decide (kJ < (jv.length : Int))) then
 (optO (atL jv kJ) fun qW =>
 chkO (qW.length == 1) (
 optO (qW[0]?) fun rL =>
 optO (CV.asI .i64 rL) fun zx =>
 optO (CV.asI .i64 yN) fun tJ =>
 bif (decide (zx < tJ)) then
 (QcT lb n gK w7 jj jb jd jg ja jf je jh jc jn jv jp jq jr jm jy jP wJ wI jR y2 yz yN yO yp ym yo yk (IntKind.wrap .i64 (oa + 1)) (IntKind.wrap .i64 (kJ + 1)))
 else
 (QcT lb n gK w7 jj jb jd jg ja jf je jh jc jn jv jp jq jr jm jy jP wJ wI jR y2 yz yN yO yp ym yo yk oa (IntKind.wrap .i64 (kJ + 1)))))
 else
 (Qfd lb n w7 jj jb jd jg ja jf je jh jc jn jv jp jq jr jm jy jP wJ wI jR y2 yz yN yO yp ym yo yk oa) := (Qac _).trans (by kernel_rfl)
noncomputable def Qdw (lb n : Nat) (jj : LB) (jb : Bool) (jd : LL) (jg : Int) (ja : Bool) (jf : LL) (je : Bool) (jh : LL) (jc : Int) (jn : Bool) (jv : LL) (jp : LB) (jq jr jm jy : CV) (jP : Int) (wJ : Bool × LL) (wI mF : Bool) (mo : LL) (mQ : Bool) (mL : LL) : Option CV :=
 hold (E0 lb n 0 993 (sub (B Qaa) [1,1,1,1,1,1,1]) (retK Tryz.prog (R Qaa) 0 (outK (Qad Tryz.prog Qaa))) ⟨fr 120 [(0, .val (.agg [.str jj, .list jb jd, .int .i64 jg, .list ja jf, .list je jh, .int .i64 jc])),(1, .val (.list jn jv)),(2,vS jp),(3, .ptr 0 3 0),(6, .ptr 0 6 0),(7, .ptr 0 7 0),(8,vI 0),(9,vV jq),(10,vV jr),(11,vV jm),(12, .ptr 0 12 0),(13, .ptr 0 13 0),(19,vV jy),(20, .ptr 0 3 1),(21, .val (.list jb jd)),(22, .val (.list jn jv)),(23,vV jy),(24,vV jq),(25,vV jr),(26,vV jm),(27, .val (.bool (jP != 0))),(33,vB false),(44, .val (.bool (decide ((wJ.2.length : Int) > 9)))),(50, .val (.bool (!wI))),(56, .val (.bool (jp == jj))),(63, .val (.agg [.str jj, .list jb jd, .int .i64 jg, .list ja jf, .list je jh, .int .i64 jc])),(64, .val (.agg [.str jj, .list jb jd, .int .i64 jg, .list ja jf, .list je jh, .int .i64 jc])),(65,vV jr),(66, .ptr 0 12 1),(67, .ptr 0 12 4),(68,vV jq),(69,vS jp),(70, .ptr 0 13 1),(71, .ptr 0 13 4),(72, .ptr 0 13 0),(73, .ptr 0 13 2)],[bx 120 [(3,some [vS jj, .val (.list jb jd),vI jg, .val (.list ja jf), .val (.list je jh),vI jc]),(6,some [.val (.str []), .lst true true 89 [],vI 0, .lst true true 39 [], .lst true true 70 [],vI 0]),(7,some [.val (.str []), .lst true true 89 [],vI 0, .lst true true 39 [], .lst true true 70 [],vI 0]),(12,some [vS jj, .val jr,vI jg, .val (.list ja jf), .lst true mF 70 mo,vI jc]),(13,some [vS jp, .val jq,vI 0, .val (.list ja jf), .lst true mQ 70 mL,vI jc])]],KK⟩)
theorem QjQ (lb n : Nat) (jj : LB) (jb : Bool) (jd : LL) (jg : Int) (ja : Bool) (jf : LL) (je : Bool) (jh : LL) (jc : Int) (jn : Bool) (jv : LL) (jp : LB) (jq jr jm jy : CV) (jP : Int) (wJ : Bool × LL) (wI mF : Bool) (mo : LL) (mQ : Bool) (mL : LL) :
 Qdw lb n jj jb jd jg ja jf je jh jc jn jv jp jq jr jm jy jP wJ wI mF mo mQ mL =
 some (.tup [.agg [.str jj,jr, .int .i64 jg, .list ja jf, .list mF mo, .int .i64 jc], .agg [.str jp,jq, .int .i64 0, .list ja jf, .list mQ mL, .int .i64 jc], .int .i64 0]) := (Qac _).trans (by kernel_rfl)
theorem Qfl (lb n w7 : Nat) (jj : LB) (jb : Bool) (jd : LL) (jg : Int) (ja : Bool) (jf : LL) (je : Bool) (jh : LL) (jc : Int) (jn : Bool) (jv : LL) (jp : LB) (jq jr jm jy : CV) (jP : Int) (wJ : Bool × LL) (wI : Bool) (jR : Int) (yp : Bool) (ym : LL) (yo : Bool) (yk : LL) :
 Qcl lb n (w7 + 1) jj jb jd jg ja jf je jh jc jn jv jp jq jr jm jy jP wJ wI jR yp ym yo yk =
 bif (decide (jR < (jh.length : Int))) then
 (optO (atL jh jR) fun y2 =>
 chkO (y2.length == 3) (
 optO (y2[0]?) fun yz =>
 optO (y2[1]?) fun yN =>
 optO (y2[2]?) fun yO =>
 QcT lb n n w7 jj jb jd jg ja jf je jh jc jn jv jp jq jr jm jy jP wJ wI jR y2 yz yN yO yp ym yo yk 0 0))
 else
 (Qdw lb n jj jb jd jg ja jf je jh jc jn jv jp jq jr jm jy jP wJ wI yp ym yo yk) := (Qac _).trans (by kernel_rfl)
theorem Qnh (lb n : Nat) (jj : LB) (jb : Bool) (jd : LL) (jg : Int) (ja : Bool) (jf : LL) (je : Bool) (jh : LL) (jc : Int) (jn : Bool) (jv : LL) (jp : LB) :
 top lb n Qaa [.agg [.str jj, .list jb jd, .int .i64 jg, .list ja jf, .list je jh, .int .i64 jc], .list jn jv, .str jp] =
 optO (C lb n Qai [.list jb jd, .list jn jv]) fun jy =>
 optO (CV.asT jy) fun qA =>
 optO (qA[0]?) fun jq =>
 optO (CV.asT jy) fun se =>
 optO (se[1]?) fun jr =>
 optO (CV.asT jy) fun t20 =>
 optO (t20[2]?) fun jm =>
 optO (CV.asI .i64 jm) fun jP =>
 bif (jP != 0) then
 (some (.tup [.agg [.str [], .list true [], .int .i64 0, .list true [], .list true [], .int .i64 0], .agg [.str [], .list true [], .int .i64 0, .list true [], .list true [], .int .i64 0],jm]))
 else
 (optO (CV.asL jr) fun sz =>
 bif ((sz.2.length : Int) == 0) then
 (bif (jg == 0) then
 (some (.tup [.agg [.str [], .list true [], .int .i64 0, .list true [], .list true [], .int .i64 0], .agg [.str [], .list true [], .int .i64 0, .list true [], .list true [], .int .i64 0], .int .i64 2]))
 else
 (optO (CV.asL jq) fun wY =>
 bif (decide ((wY.2.length : Int) > 9)) then
 (some (.tup [.agg [.str [], .list true [], .int .i64 0, .list true [], .list true [], .int .i64 0], .agg [.str [], .list true [], .int .i64 0, .list true [], .list true [], .int .i64 0], .int .i64 4]))
 else
 (optO (C lb n QcR [.str jp]) fun nq =>
 optO (CV.asB nq) fun wV =>
 bif (!wV) then
 (some (.tup [.agg [.str [], .list true [], .int .i64 0, .list true [], .list true [], .int .i64 0], .agg [.str [], .list true [], .int .i64 0, .list true [], .list true [], .int .i64 0], .int .i64 5]))
 else
 (bif (jp == jj) then
 (some (.tup [.agg [.str [], .list true [], .int .i64 0, .list true [], .list true [], .int .i64 0], .agg [.str [], .list true [], .int .i64 0, .list true [], .list true [], .int .i64 0], .int .i64 6]))
 else
 (chkO (CV.isCell jr) (
 chkO (CV.isCell jq) (
 Qco lb n n jj jb jd jg ja jf je jh jc jn jv jp jq jr jm jy jP wY wV 0 true [] true [])))))))
 else
 (optO (CV.asL jq) fun wJ =>
 bif (decide ((wJ.2.length : Int) > 9)) then
 (some (.tup [.agg [.str [], .list true [], .int .i64 0, .list true [], .list true [], .int .i64 0], .agg [.str [], .list true [], .int .i64 0, .list true [], .list true [], .int .i64 0], .int .i64 4]))
 else
 (optO (C lb n QcR [.str jp]) fun rD =>
 optO (CV.asB rD) fun wI =>
 bif (!wI) then
 (some (.tup [.agg [.str [], .list true [], .int .i64 0, .list true [], .list true [], .int .i64 0], .agg [.str [], .list true [], .int .i64 0, .list true [], .list true [], .int .i64 0], .int .i64 5]))
 else
 (bif (jp == jj) then
 (some (.tup [.agg [.str [], .list true [], .int .i64 0, .list true [], .list true [], .int .i64 0], .agg [.str [], .list true [], .int .i64 0, .list true [], .list true [], .int .i64 0], .int .i64 6]))
 else
 (chkO (CV.isCell jr) (
 chkO (CV.isCell jq) (
 Qcl lb n n jj jb jd jg ja jf je jh jc jn jv jp jq jr jm jy jP wJ wI 0 true [] true []))))))) := by kernel_rfl
end Go.Proofs
