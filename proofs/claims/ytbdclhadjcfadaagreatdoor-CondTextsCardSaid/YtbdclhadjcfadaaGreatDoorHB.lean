/- Equations of functions, printed by program. Conditions: none. -/
import Derived.Test.YtbdclhadjcfadaaGreatDoorEv
namespace Go.Proofs
open Go.Am
set_option maxRecDepth 100000
set_option linter.unusedVariables false
noncomputable def cond_codes_text_Carrier_L1 :=
 fun lb n (yx:Nat) (jl:Bool) (a2:LL) jv =>
 hold (Qau (E0 lb n 0 994) 0 (Qah (sub (B Qar) [1,1,0,1,0,0]) ++ [5,6]) [] (sub (B Qar) [1,1,0,1,0,0]) (Qak 0 (seqK (E0 lb n 0 997) (sub (B Qar) [1,1,0]) (sub (B Qar) [1,1,1]) (retK Tryz.prog (R Qar) 0 (outK (Qag Tryz.prog Qar))))) yx ⟨fr 27 [(0, .val (.list jl a2)),(1, .val (.fn QaZ)),(4,vI 0),(10, .val (.list jl a2)),(11, .val (.int .i64 (a2.length:Int))),(12,vI jv)],[bx 27 []],KK⟩)
noncomputable def QeN (lb n:Nat) (jl:Bool) (a2:LL):Option CV :=
 hold (E0 lb n 0 997 (sub (B Qar) [1,1,1]) (retK Tryz.prog (R Qar) 0 (outK (Qag Tryz.prog Qar))) ⟨fr 27 [(0, .val (.list jl a2)),(1, .val (.fn QaZ)),(4,vI 0)],[bx 27 []],KK⟩)
theorem Qhq (lb n:Nat) (jl:Bool) (a2:LL) :
 QeN lb n jl a2 =
 some (.int .i64 0) := (Qac _).trans (by kernel_rfl)
theorem QdU (lb n yx:Nat) (jl:Bool) (a2:LL) (jv:Int) :
 cond_codes_text_Carrier_L1 lb n (yx + 1) jl a2 jv =
 bif (decide (jv < (a2.length:Int))) then
 (optO (atL a2 jv) fun vH =>
 chkO (vH.length == 1) (
 optO (vH[0]?) fun jq =>
 optO (C lb n QaZ [jq]) fun vt =>
 optO (CV.asB vt) fun yY =>
 bif (!yY) then
 (some (.int .i64 5))
 else
 (chkO (a2.all (·.length == 1)) (
 chkO (decide ((0:Int) ≤ jv ∧ jv ≤ (a2.length:Int))) (
 optO (C lb n QaL [.list jl ((a2.take jv.toNat).drop 0),jq]) fun yd =>
 optO (CV.asB yd) fun kd =>
 bif kd then
 (some (.int .i64 6))
 else
 (cond_codes_text_Carrier_L1 lb n yx jl a2 (IntKind.wrap .i64 (jv + 1))))))))
 else
 (QeN lb n jl a2 ) := (Qac _).trans (by kernel_rfl)
theorem QiO (lb n:Nat) (jl:Bool) (a2:LL) :
 top lb n Qar [.list jl a2, .fn QaZ] =
 bif ((a2.length:Int) == 0) then
 (some (.int .i64 2))
 else
 (cond_codes_text_Carrier_L1 lb n n jl a2 0) := by kernel_rfl
noncomputable def Qcd (lb n yx:Nat) (jl:Bool) (a2:LL) (jv:Int):Option CV :=
 hold (Qau (E0 lb n 0 994) 0 (Qah (sub (B Qar) [1,1,0,1,0,0]) ++ [5,6]) [] (sub (B Qar) [1,1,0,1,0,0]) (Qak 0 (seqK (E0 lb n 0 997) (sub (B Qar) [1,1,0]) (sub (B Qar) [1,1,1]) (retK Tryz.prog (R Qar) 0 (outK (Qag Tryz.prog Qar))))) yx ⟨fr 27 [(0, .val (.list jl a2)),(1, .val (.fn QaY)),(4,vI 0),(10, .val (.list jl a2)),(11, .val (.int .i64 (a2.length:Int))),(12,vI jv)],[bx 27 []],KK⟩)
noncomputable def QeL (lb n:Nat) (jl:Bool) (a2:LL):Option CV :=
 hold (E0 lb n 0 997 (sub (B Qar) [1,1,1]) (retK Tryz.prog (R Qar) 0 (outK (Qag Tryz.prog Qar))) ⟨fr 27 [(0, .val (.list jl a2)),(1, .val (.fn QaY)),(4,vI 0)],[bx 27 []],KK⟩)
theorem Qhp (lb n:Nat) (jl:Bool) (a2:LL) :
 QeL lb n jl a2 =
 some (.int .i64 0) := (Qac _).trans (by kernel_rfl)
theorem QdS (lb n yx:Nat) (jl:Bool) (a2:LL) (jv:Int) :
 Qcd lb n (yx + 1) jl a2 jv =
 bif (decide (jv < (a2.length:Int))) then
 (optO (atL a2 jv) fun vH =>
 chkO (vH.length == 1) (
 optO (vH[0]?) fun jq =>
 optO (C lb n QaY [jq]) fun vt =>
 optO (CV.asB vt) fun yY =>
 bif (!yY) then
 (some (.int .i64 5))
 else
 (chkO (a2.all (·.length == 1)) (
 chkO (decide ((0:Int) ≤ jv ∧ jv ≤ (a2.length:Int))) (
 optO (C lb n QaL [.list jl ((a2.take jv.toNat).drop 0),jq]) fun yd =>
 optO (CV.asB yd) fun kd =>
 bif kd then
 (some (.int .i64 6))
 else
 (Qcd lb n yx jl a2 (IntKind.wrap .i64 (jv + 1))))))))
 else
 (QeL lb n jl a2 ) := (Qac _).trans (by kernel_rfl)
theorem QiZ (lb n:Nat) (jl:Bool) (a2:LL) :
 top lb n Qar [.list jl a2, .fn QaY] =
 bif ((a2.length:Int) == 0) then
 (some (.int .i64 2))
 else
 (Qcd lb n n jl a2 0) := by kernel_rfl
noncomputable def Qb1 (lb n yx:Nat) (jl:Bool) (a2:LL) (jv:Int):Option CV :=
 hold (Qau (E0 lb n 0 994) 0 (Qah (sub (B Qar) [1,1,0,1,0,0]) ++ [5,6]) [] (sub (B Qar) [1,1,0,1,0,0]) (Qak 0 (seqK (E0 lb n 0 997) (sub (B Qar) [1,1,0]) (sub (B Qar) [1,1,1]) (retK Tryz.prog (R Qar) 0 (outK (Qag Tryz.prog Qar))))) yx ⟨fr 27 [(0, .val (.list jl a2)),(1, .val (.fn QaP)),(4,vI 0),(10, .val (.list jl a2)),(11, .val (.int .i64 (a2.length:Int))),(12,vI jv)],[bx 27 []],KK⟩)
noncomputable def Qel (lb n:Nat) (jl:Bool) (a2:LL):Option CV :=
 hold (E0 lb n 0 997 (sub (B Qar) [1,1,1]) (retK Tryz.prog (R Qar) 0 (outK (Qag Tryz.prog Qar))) ⟨fr 27 [(0, .val (.list jl a2)),(1, .val (.fn QaP)),(4,vI 0)],[bx 27 []],KK⟩)
theorem QgK (lb n:Nat) (jl:Bool) (a2:LL) :
 Qel lb n jl a2 =
 some (.int .i64 0) := (Qac _).trans (by kernel_rfl)
theorem Qdw (lb n yx:Nat) (jl:Bool) (a2:LL) (jv:Int) :
 Qb1 lb n (yx + 1) jl a2 jv =
 bif (decide (jv < (a2.length:Int))) then
 (optO (atL a2 jv) fun vH =>
 chkO (vH.length == 1) (
 optO (vH[0]?) fun jq =>
 optO (C lb n QaP [jq]) fun vt =>
 optO (CV.asB vt) fun yY =>
 bif (!yY) then
 (some (.int .i64 5))
 else
 (chkO (a2.all (·.length == 1)) (
 chkO (decide ((0:Int) ≤ jv ∧ jv ≤ (a2.length:Int))) (
 optO (C lb n QaL [.list jl ((a2.take jv.toNat).drop 0),jq]) fun yd =>
 optO (CV.asB yd) fun kd =>
 bif kd then
 (some (.int .i64 6))
 else
 (Qb1 lb n yx jl a2 (IntKind.wrap .i64 (jv + 1))))))))
 else
 (Qel lb n jl a2 ) := (Qac _).trans (by kernel_rfl)
theorem QhM (lb n:Nat) (jl:Bool) (a2:LL) :
 top lb n Qar [.list jl a2, .fn QaP] =
 bif ((a2.length:Int) == 0) then
 (some (.int .i64 2))
 else
 (Qb1 lb n n jl a2 0) := by kernel_rfl
theorem QoO (lb n:Nat) (a1:LB) :
 top lb n QaP [.str a1] =
 optO (C lb n QhV [.str a1, .int .i64 3, .int .i64 3]) fun r2 =>
 some (r2) := by kernel_rfl
theorem Qw1 (lb n:Nat) (a1:Int) :
 top lb n QgP [.int .i64 a1] =
 bif (a1 == 2) then
 (some (.bool true))
 else
 (bif (a1 == 3) then
 (some (.bool true))
 else
 (some (.bool (a1 == 4)))) := by kernel_rfl
theorem Qt0 (lb n:Nat) (a1:Int) :
 top lb n QcD [.int .i64 a1] =
 bif (a1 == 5) then
 (some (.bool true))
 else
 (some (.bool (a1 == 6))) := by kernel_rfl
theorem QuH (lb n:Nat) (a1:Int) :
 top lb n QeR [.int .i64 a1] =
 bif (a1 == 11) then
 (some (.bool true))
 else
 (bif (a1 == 13) then
 (some (.bool true))
 else
 (some (.bool (a1 == 14)))) := by kernel_rfl
theorem QrQ (lb n:Nat) (a1:Int) :
 top lb n QaB [.int .i64 a1] =
 bif (a1 == 8) then
 (some (.int .i64 2))
 else
 (bif (a1 == 12) then
 (some (.int .i64 2))
 else
 (bif (a1 == 7) then
 (some (.int .i64 1))
 else
 (bif (a1 == 9) then
 (some (.int .i64 1))
 else
 (bif (a1 == 10) then
 (some (.int .i64 1))
 else
 (some (.int .i64 0)))))) := by kernel_rfl
theorem Qvc (lb n:Nat) (jf:Int) (jg:Bool) (jh:LL) (ji jj ja jc jb:Int) (jd:Bool) (je:LL) :
 top lb n Qll [.agg [.int .i64 jf, .list jg jh, .int .i64 ji, .int .i64 jj, .int .i64 ja, .int .i64 jc, .int .i64 jb, .list jd je]] =
 optO (C lb n QgP [.int .i64 jf]) fun jk =>
 optO (CV.asB jk) fun jz =>
 bif (!jz) then
 (bif (decide ((jh.length:Int) > 0)) then
 (some (.bool true))
 else
 (optO (C lb n QeR [.int .i64 jf]) fun jr =>
 optO (CV.asB jr) fun vW =>
 bif (!vW) then
 (bif (decide ((je.length:Int) > 0)) then
 (some (.bool true))
 else
 (optO (C lb n QcD [.int .i64 jf]) fun wi =>
 optO (CV.asB wi) fun yC =>
 bif (!yC) then
 (bif (!((ja == 0) && ((jc == 0) && ((jb == 0) && true)))) then
 (some (.bool true))
 else
 (optO (C lb n QaB [.int .i64 jf]) fun yv =>
 optO (CV.asI .i64 yv) fun i20 =>
 bif (decide (i20 < 1)) then
 (bif (ji != 0) then
 (some (.bool true))
 else
 (optO (C lb n QaB [.int .i64 jf]) fun vt =>
 optO (CV.asI .i64 vt) fun mu =>
 bif (decide (mu < 2)) then
 (some (.bool (jj != 0)))
 else
 (some (.bool false))))
 else
 (optO (C lb n QaB [.int .i64 jf]) fun yd =>
 optO (CV.asI .i64 yd) fun jZ =>
 bif (decide (jZ < 2)) then
 (some (.bool (jj != 0)))
 else
 (some (.bool false)))))
 else
 (optO (C lb n QaB [.int .i64 jf]) fun od =>
 optO (CV.asI .i64 od) fun jX =>
 bif (decide (jX < 1)) then
 (bif (ji != 0) then
 (some (.bool true))
 else
 (optO (C lb n QaB [.int .i64 jf]) fun ku =>
 optO (CV.asI .i64 ku) fun gE =>
 bif (decide (gE < 2)) then
 (some (.bool (jj != 0)))
 else
 (some (.bool false))))
 else
 (optO (C lb n QaB [.int .i64 jf]) fun ri =>
 optO (CV.asI .i64 ri) fun wx =>
 bif (decide (wx < 2)) then
 (some (.bool (jj != 0)))
 else
 (some (.bool false))))))
 else
 (optO (C lb n QcD [.int .i64 jf]) fun lY =>
 optO (CV.asB lY) fun gU =>
 bif (!gU) then
 (bif (!((ja == 0) && ((jc == 0) && ((jb == 0) && true)))) then
 (some (.bool true))
 else
 (optO (C lb n QaB [.int .i64 jf]) fun gA =>
 optO (CV.asI .i64 gA) fun yQ =>
 bif (decide (yQ < 1)) then
 (bif (ji != 0) then
 (some (.bool true))
 else
 (optO (C lb n QaB [.int .i64 jf]) fun zU =>
 optO (CV.asI .i64 zU) fun i37 =>
 bif (decide (i37 < 2)) then
 (some (.bool (jj != 0)))
 else
 (some (.bool false))))
 else
 (optO (C lb n QaB [.int .i64 jf]) fun gi =>
 optO (CV.asI .i64 gi) fun wc =>
 bif (decide (wc < 2)) then
 (some (.bool (jj != 0)))
 else
 (some (.bool false)))))
 else
 (optO (C lb n QaB [.int .i64 jf]) fun lf =>
 optO (CV.asI .i64 lf) fun zG =>
 bif (decide (zG < 1)) then
 (bif (ji != 0) then
 (some (.bool true))
 else
 (optO (C lb n QaB [.int .i64 jf]) fun ru =>
 optO (CV.asI .i64 ru) fun ke =>
 bif (decide (ke < 2)) then
 (some (.bool (jj != 0)))
 else
 (some (.bool false))))
 else
 (optO (C lb n QaB [.int .i64 jf]) fun re =>
 optO (CV.asI .i64 re) fun ro =>
 bif (decide (ro < 2)) then
 (some (.bool (jj != 0)))
 else
 (some (.bool false)))))))
 else
 (optO (C lb n QeR [.int .i64 jf]) fun l9 =>
 optO (CV.asB l9) fun lr =>
 bif (!lr) then
 (bif (decide ((je.length:Int) > 0)) then
 (some (.bool true))
 else
 (optO (C lb n QcD [.int .i64 jf]) fun yW =>
 optO (CV.asB yW) fun lm =>
 bif (!lm) then
 (bif (!((ja == 0) && ((jc == 0) && ((jb == 0) && true)))) then
 (some (.bool true))
 else
 (optO (C lb n QaB [.int .i64 jf]) fun zR =>
 optO (CV.asI .i64 zR) fun i51 =>
 bif (decide (i51 < 1)) then
 (bif (ji != 0) then
 (some (.bool true))
 else
 (optO (C lb n QaB [.int .i64 jf]) fun ma =>
 optO (CV.asI .i64 ma) fun i53 =>
 bif (decide (i53 < 2)) then
 (some (.bool (jj != 0)))
 else
 (some (.bool false))))
 else
 (optO (C lb n QaB [.int .i64 jf]) fun lF =>
 optO (CV.asI .i64 lF) fun vJ =>
 bif (decide (vJ < 2)) then
 (some (.bool (jj != 0)))
 else
 (some (.bool false)))))
 else
 (optO (C lb n QaB [.int .i64 jf]) fun gk =>
 optO (CV.asI .i64 gk) fun zK =>
 bif (decide (zK < 1)) then
 (bif (ji != 0) then
 (some (.bool true))
 else
 (optO (C lb n QaB [.int .i64 jf]) fun lq =>
 optO (CV.asI .i64 lq) fun mr =>
 bif (decide (mr < 2)) then
 (some (.bool (jj != 0)))
 else
 (some (.bool false))))
 else
 (optO (C lb n QaB [.int .i64 jf]) fun vM =>
 optO (CV.asI .i64 vM) fun vb =>
 bif (decide (vb < 2)) then
 (some (.bool (jj != 0)))
 else
 (some (.bool false))))))
 else
 (optO (C lb n QcD [.int .i64 jf]) fun rz =>
 optO (CV.asB rz) fun zX =>
 bif (!zX) then
 (bif (!((ja == 0) && ((jc == 0) && ((jb == 0) && true)))) then
 (some (.bool true))
 else
 (optO (C lb n QaB [.int .i64 jf]) fun gv =>
 optO (CV.asI .i64 gv) fun wo =>
 bif (decide (wo < 1)) then
 (bif (ji != 0) then
 (some (.bool true))
 else
 (optO (C lb n QaB [.int .i64 jf]) fun zV =>
 optO (CV.asI .i64 zV) fun yV =>
 bif (decide (yV < 2)) then
 (some (.bool (jj != 0)))
 else
 (some (.bool false))))
 else
 (optO (C lb n QaB [.int .i64 jf]) fun mg =>
 optO (CV.asI .i64 mg) fun vO =>
 bif (decide (vO < 2)) then
 (some (.bool (jj != 0)))
 else
 (some (.bool false)))))
 else
 (optO (C lb n QaB [.int .i64 jf]) fun l8 =>
 optO (CV.asI .i64 l8) fun oF =>
 bif (decide (oF < 1)) then
 (bif (ji != 0) then
 (some (.bool true))
 else
 (optO (C lb n QaB [.int .i64 jf]) fun zE =>
 optO (CV.asI .i64 zE) fun wV =>
 bif (decide (wV < 2)) then
 (some (.bool (jj != 0)))
 else
 (some (.bool false))))
 else
 (optO (C lb n QaB [.int .i64 jf]) fun m7 =>
 optO (CV.asI .i64 m7) fun i76 =>
 bif (decide (i76 < 2)) then
 (some (.bool (jj != 0)))
 else
 (some (.bool false)))))) := by kernel_rfl
noncomputable def Qkj (lb n:Nat) (jf:Int) (jg:Bool) (jh:LL) (ji jj ja jc jb:Int) (jd:Bool) (je:LL) (jD:Bool):Option CV :=
 hold (E0 lb n 0 995 (sub (B QaX) [1,0,1,0,1]) (Qak 0 (seqK (E0 lb n 0 998) (sub (B QaX) [1,0]) (sub (B QaX) [1,1]) (retK Tryz.prog (R QaX) 0 (outK (Qag Tryz.prog QaX))))) ⟨fr 76 [(0, .val (.agg [.int .i64 jf, .list jg jh, .int .i64 ji, .int .i64 jj, .int .i64 ja, .int .i64 jc, .int .i64 jb, .list jd je])),(1, .ptr 0 1 0),(2,vB false),(3, .ptr 0 1 0),(4,vI jf),(5,vB jD)],[bx 76 [(1,some [vI jf, .val (.list jg jh),vI ji,vI jj,vI ja,vI jc,vI jb, .val (.list jd je)])]],KK⟩)
noncomputable def QjP (lb n:Nat) (jf:Int) (jg:Bool) (jh:LL) (ji jj ja jc jb:Int) (jd:Bool) (je:LL) (jD jz:Bool):Option CV :=
 hold (E0 lb n 0 987 (sub (B QaX) [1,0,1,0,1,1,1,1,1,1,1,1,1]) (QaS (sub (B QaX) [1,0,1,0,1,1,1,1,1,1,1,0]) (sub (B QaX) [1,0,1,0,1,1,1,1,1,1,1,1]) (QaS (sub (B QaX) [1,0,1,0,1,1,1,1,1,0]) (sub (B QaX) [1,0,1,0,1,1,1,1,1,1]) (QaS (sub (B QaX) [1,0,1,0,1,1,1,0]) (sub (B QaX) [1,0,1,0,1,1,1,1]) (QaS (sub (B QaX) [1,0,1,0,1,0]) (sub (B QaX) [1,0,1,0,1,1]) (Qak 0 (seqK (E0 lb n 0 998) (sub (B QaX) [1,0]) (sub (B QaX) [1,1]) (retK Tryz.prog (R QaX) 0 (outK (Qag Tryz.prog QaX))))))))) ⟨fr 76 [(0, .val (.agg [.int .i64 jf, .list jg jh, .int .i64 ji, .int .i64 jj, .int .i64 ja, .int .i64 jc, .int .i64 jb, .list jd je])),(1, .ptr 0 1 0),(2,vB false),(3, .ptr 0 1 0),(4,vI jf),(5,vB jD),(12, .val (.bool (jf == 4))),(13, .val (.bool (jf == 4))),(18, .val (.bool (jf == 7))),(19, .val (.bool (jf == 7))),(28, .val (.bool (jf == 8))),(29, .val (.bool (jf == 8))),(48,vB jz)],[bx 76 [(1,some [vI jf, .val (.list jg jh),vI ji,vI jj,vI ja,vI jc,vI jb, .val (.list jd je)])]],KK⟩)
theorem QkG (lb n:Nat) (jf:Int) (jg:Bool) (jh:LL) (ji jj ja jc jb:Int) (jd:Bool) (je:LL) (jD jz:Bool) :
 QjP lb n jf jg jh ji jj ja jc jb jd je jD jz =
 bif jz then
 (bif (decide (ji < 0)) then
 (some (.bool true))
 else
 (some (.bool (decide (ji > 6)))))
 else
 (bif (jf == 12) then
 (bif (decide (ji < 1)) then
 (some (.bool true))
 else
 (bif (decide (ji > jj)) then
 (some (.bool true))
 else
 (some (.bool (decide (jj > 9999))))))
 else
 (some (.bool false))) := (Qac _).trans (by kernel_rfl)
theorem QkI (lb n:Nat) (jf:Int) (jg:Bool) (jh:LL) (ji jj ja jc jb:Int) (jd:Bool) (je:LL) (jD:Bool) :
 Qkj lb n jf jg jh ji jj ja jc jb jd je jD =
 bif jD then
 (some (.bool ((jh.length:Int) == 0)))
 else
 (bif (jf == 4) then
 (some (.bool ((jh.length:Int) != 1)))
 else
 (bif (jf == 7) then
 (bif (decide (ji < 0)) then
 (some (.bool true))
 else
 (some (.bool (decide (ji ≥ 36525)))))
 else
 (bif (jf == 8) then
 (bif (decide (ji < 0)) then
 (some (.bool true))
 else
 (bif (decide (ji ≥ 1440)) then
 (some (.bool true))
 else
 (bif (decide (jj < 0)) then
 (some (.bool true))
 else
 (some (.bool (decide (jj ≥ 1440)))))))
 else
 (bif (jf == 9) then
 (QjP lb n jf jg jh ji jj ja jc jb jd je jD (jf == 9))
 else
 (QjP lb n jf jg jh ji jj ja jc jb jd je jD (jf == 10)))))) := (Qac _).trans (by kernel_rfl)
theorem Qu0 (lb n:Nat) (jf:Int) (jg:Bool) (jh:LL) (ji jj ja jc jb:Int) (jd:Bool) (je:LL) :
 top lb n QaX [.agg [.int .i64 jf, .list jg jh, .int .i64 ji, .int .i64 jj, .int .i64 ja, .int .i64 jc, .int .i64 jb, .list jd je]] =
 bif (jf == 2) then
 (Qkj lb n jf jg jh ji jj ja jc jb jd je (jf == 2))
 else
 (Qkj lb n jf jg jh ji jj ja jc jb jd je (jf == 3)) := by kernel_rfl
theorem QwM (lb n:Nat) (a1:Int) (b2:LB) :
 top lb n Qg0 [.int .i64 a1, .str b2] =
 bif (a1 == 11) then
 (optO (C lb n QiY [.str b2]) fun r3 =>
 some (r3))
 else
 (bif (a1 == 13) then
 (optO (C lb n QiL [.str b2]) fun r4 =>
 some (r4))
 else
 (optO (C lb n Qb0 [.str b2, .int .i64 3, .int .i64 3]) fun r5 =>
 some (r5))) := by kernel_rfl
noncomputable def Qjp (lb n wz:Nat) (jl:Bool) (a2:LL) (b3:LB) (i7:Int):Option CV :=
 hold (Qau (E0 lb n 0 995) 0 (Qah (sub (B Qb5) [1,0,1,0,0]) ++ []) [] (sub (B Qb5) [1,0,1,0,0]) (Qak 0 (seqK (E0 lb n 0 998) (sub (B Qb5) [1,0]) (sub (B Qb5) [1,1]) (retK Tryz.prog (R Qb5) 0 (outK (Qag Tryz.prog Qb5))))) wz ⟨fr 18 [(0, .val (.list jl a2)),(1,vS b3),(4,vB false),(5,vI i7)],[bx 18 []],KK⟩)
noncomputable def Qri (lb n:Nat) (jl:Bool) (a2:LL) (b3:LB) (jB:Int):Option CV :=
 hold (E0 lb n 0 998 (sub (B Qb5) [1,1]) (retK Tryz.prog (R Qb5) 0 (outK (Qag Tryz.prog Qb5))) ⟨fr 18 [(0, .val (.list jl a2)),(1,vS b3),(4,vB false),(5,vI jB)],[bx 18 []],KK⟩)
theorem Quf (lb n:Nat) (jl:Bool) (a2:LL) (b3:LB) (jB:Int) :
 Qri lb n jl a2 b3 jB =
 some (.bool false) := (Qac _).trans (by kernel_rfl)
theorem QkJ (lb n wz:Nat) (jl:Bool) (a2:LL) (b3:LB) (i7:Int) :
 Qjp lb n (wz + 1) jl a2 b3 i7 =
 bif (decide (i7 < (a2.length:Int))) then
 (optO (atL a2 i7) fun j8 =>
 chkO (j8.length == 1) (
 optO (j8[0]?) fun y6 =>
 optO (CV.asS y6) fun wH =>
 bif (wH == b3) then
 (some (.bool true))
 else
 (Qjp lb n wz jl a2 b3 (IntKind.wrap .i64 (i7 + 1)))))
 else
 (Qri lb n jl a2 b3 i7) := (Qac _).trans (by kernel_rfl)
theorem Qyp (lb n:Nat) (jl:Bool) (a2:LL) (b3:LB) :
 top lb n Qb5 [.list jl a2, .str b3] =
 Qjp lb n n jl a2 b3 0 := by kernel_rfl
noncomputable def QfN (lb n gj:Nat) (jf:Int) (jg:Bool) (jh:LL) (ji jj ja jc jb:Int) (jd:Bool) (je:LL) (wx:Int):Option CV :=
 hold (Qau (E0 lb n 0 990) 0 (Qah (sub (B Qcf) [1,1,1,1,1,1,0,1,0,0]) ++ []) [] (sub (B Qcf) [1,1,1,1,1,1,0,1,0,0]) (Qak 0 (seqK (E0 lb n 0 993) (sub (B Qcf) [1,1,1,1,1,1,0]) (sub (B Qcf) [1,1,1,1,1,1,1]) (retK Tryz.prog (R Qcf) 0 (outK (Qag Tryz.prog Qcf))))) gj ⟨fr 57 [(0, .val (.agg [.int .i64 jf, .list jg jh, .int .i64 ji, .int .i64 jj, .int .i64 ja, .int .i64 jc, .int .i64 jb, .list jd je])),(1, .ptr 0 1 0),(2,vI 0),(3,vI wx)],[bx 57 [(1,some [vI jf, .val (.list jg jh),vI ji,vI jj,vI ja,vI jc,vI jb, .val (.list jd je)])]],KK⟩)
noncomputable def QpG (lb n:Nat) (jf:Int) (jg:Bool) (jh:LL) (ji jj ja jc jb:Int) (jd:Bool) (je:LL) (ym:Int):Option CV :=
 hold (E0 lb n 0 993 (sub (B Qcf) [1,1,1,1,1,1,1]) (retK Tryz.prog (R Qcf) 0 (outK (Qag Tryz.prog Qcf))) ⟨fr 57 [(0, .val (.agg [.int .i64 jf, .list jg jh, .int .i64 ji, .int .i64 jj, .int .i64 ja, .int .i64 jc, .int .i64 jb, .list jd je])),(1, .ptr 0 1 0),(2,vI 0),(3,vI ym)],[bx 57 [(1,some [vI jf, .val (.list jg jh),vI ji,vI jj,vI ja,vI jc,vI jb, .val (.list jd je)])]],KK⟩)
theorem Qr9 (lb n:Nat) (jf:Int) (jg:Bool) (jh:LL) (ji jj ja jc jb:Int) (jd:Bool) (je:LL) (ym:Int) :
 QpG lb n jf jg jh ji jj ja jc jb jd je ym =
 some (.int .i64 0) := (Qac _).trans (by kernel_rfl)
theorem Qj7 (lb n gj:Nat) (jf:Int) (jg:Bool) (jh:LL) (ji jj ja jc jb:Int) (jd:Bool) (je:LL) (wx:Int) :
 QfN lb n (gj + 1) jf jg jh ji jj ja jc jb jd je wx =
 bif (decide (wx < (je.length:Int))) then
 (optO (atL je wx) fun nR =>
 chkO (nR.length == 1) (
 optO (nR[0]?) fun w3 =>
 optO (C lb n Qg0 [.int .i64 jf,w3]) fun gc =>
 optO (CV.asB gc) fun ll =>
 bif (!ll) then
 (some (.int .i64 5))
 else
 (chkO (je.all (·.length == 1)) (
 chkO (decide ((0:Int) ≤ wx ∧ wx ≤ (je.length:Int))) (
 optO (atL je wx) fun nQ =>
 chkO (nQ.length == 1) (
 optO (nQ[0]?) fun yo =>
 optO (C lb n Qb5 [.list jd ((je.take wx.toNat).drop 0),yo]) fun gu =>
 optO (CV.asB gu) fun zz =>
 bif zz then
 (some (.int .i64 6))
 else
 (QfN lb n gj jf jg jh ji jj ja jc jb jd je (IntKind.wrap .i64 (wx + 1)))))))))
 else
 (QpG lb n jf jg jh ji jj ja jc jb jd je wx) := (Qac _).trans (by kernel_rfl)
theorem Qw0 (lb n:Nat) (jf:Int) (jg:Bool) (jh:LL) (ji jj ja jc jb:Int) (jd:Bool) (je:LL) :
 top lb n Qcf [.agg [.int .i64 jf, .list jg jh, .int .i64 ji, .int .i64 jj, .int .i64 ja, .int .i64 jc, .int .i64 jb, .list jd je]] =
 bif (decide (jf < 1)) then
 (some (.int .i64 8))
 else
 (bif (decide (jf > 14)) then
 (some (.int .i64 8))
 else
 (optO (C lb n Qll [.agg [.int .i64 jf, .list jg jh, .int .i64 ji, .int .i64 jj, .int .i64 ja, .int .i64 jc, .int .i64 jb, .list jd je]]) fun jk =>
 optO (CV.asB jk) fun jz =>
 bif jz then
 (some (.int .i64 3))
 else
 (optO (C lb n QaX [.agg [.int .i64 jf, .list jg jh, .int .i64 ji, .int .i64 jj, .int .i64 ja, .int .i64 jc, .int .i64 jb, .list jd je]]) fun jr =>
 optO (CV.asB jr) fun vW =>
 bif vW then
 (some (.int .i64 2))
 else
 (optO (C lb n QcD [.int .i64 jf]) fun wi =>
 optO (CV.asB wi) fun yC =>
 bif yC then
 (optO (C lb n Qdy [.agg [.int .i64 ja, .int .i64 jc, .int .i64 jb]]) fun yv =>
 some (yv))
 else
 (optO (C lb n QeR [.int .i64 jf]) fun kl =>
 optO (CV.asB kl) fun yN =>
 bif yN then
 (bif ((je.length:Int) == 0) then
 (some (.int .i64 2))
 else
 (QfN lb n n jf jg jh ji jj ja jc jb jd je 0))
 else
 (QfN lb n n jf jg jh ji jj ja jc jb jd je 0)))))) := by kernel_rfl
noncomputable def Qg5 (lb n yw:Nat) (jf:Int) (jg:Bool) (jh:LL) (ji jj ja jc jb:Int) (jd:Bool) (je:LL) (jk:CV) (jX:Int):Option CV :=
 hold (Qau (E0 lb n 0 994) 0 (Qah (sub (B QbG) [1,1,0,1,0,0]) ++ [5]) [] (sub (B QbG) [1,1,0,1,0,0]) (Qak 0 (seqK (E0 lb n 0 997) (sub (B QbG) [1,1,0]) (sub (B QbG) [1,1,1]) (retK Tryz.prog (R QbG) 0 (outK (Qag Tryz.prog QbG))))) yw ⟨fr 27 [(0, .val (.agg [.int .i64 jf, .list jg jh, .int .i64 ji, .int .i64 jj, .int .i64 ja, .int .i64 jc, .int .i64 jb, .list jd je])),(1, .ptr 0 1 0),(2,vI 0),(3,vV jk),(4,vI jX)],[bx 27 [(1,some [vI jf, .val (.list jg jh),vI ji,vI jj,vI ja,vI jc,vI jb, .val (.list jd je)])]],KK⟩)
noncomputable def Qnl (lb n:Nat) (jf:Int) (jg:Bool) (jh:LL) (ji jj ja jc jb:Int) (jd:Bool) (je:LL) (jk:CV) (i51:Int):Option CV :=
 hold (E0 lb n 0 997 (sub (B QbG) [1,1,1]) (retK Tryz.prog (R QbG) 0 (outK (Qag Tryz.prog QbG))) ⟨fr 27 [(0, .val (.agg [.int .i64 jf, .list jg jh, .int .i64 ji, .int .i64 jj, .int .i64 ja, .int .i64 jc, .int .i64 jb, .list jd je])),(1, .ptr 0 1 0),(2,vI 0),(3,vV jk),(4,vI i51)],[bx 27 [(1,some [vI jf, .val (.list jg jh),vI ji,vI jj,vI ja,vI jc,vI jb, .val (.list jd je)])]],KK⟩)
theorem Qrn (lb n:Nat) (jf:Int) (jg:Bool) (jh:LL) (ji jj ja jc jb:Int) (jd:Bool) (je:LL) (jk:CV) (i51:Int) :
 Qnl lb n jf jg jh ji jj ja jc jb jd je jk i51 =
 some (.int .i64 0) := (Qac _).trans (by kernel_rfl)
theorem Qi5 (lb n yw:Nat) (jf:Int) (jg:Bool) (jh:LL) (ji jj ja jc jb:Int) (jd:Bool) (je:LL) (jk:CV) (jX:Int) :
 Qg5 lb n (yw + 1) jf jg jh ji jj ja jc jb jd je jk jX =
 bif (decide (jX < (jh.length:Int))) then
 (optO (atL jh jX) fun wk =>
 chkO (wk.length == 8) (
 optO (wk[0]?) fun yl =>
 optO (wk[1]?) fun w3 =>
 optO (wk[2]?) fun yD =>
 optO (wk[3]?) fun yt =>
 optO (wk[4]?) fun yu =>
 optO (wk[5]?) fun yo =>
 optO (wk[6]?) fun wZ =>
 optO (wk[7]?) fun oA =>
 optO (C lb n QbG [.agg [yl,w3,yD,yt,yu,yo,wZ,oA]]) fun kj =>
 optO (CV.asI .i64 kj) fun wm =>
 bif (wm != 0) then
 (some (kj))
 else
 (Qg5 lb n yw jf jg jh ji jj ja jc jb jd je jk (IntKind.wrap .i64 (jX + 1)))))
 else
 (Qnl lb n jf jg jh ji jj ja jc jb jd je jk jX) := (Qac _).trans (by kernel_rfl)
theorem Qvl (lb n:Nat) (jf:Int) (jg:Bool) (jh:LL) (ji jj ja jc jb:Int) (jd:Bool) (je:LL) :
 top lb n QbG [.agg [.int .i64 jf, .list jg jh, .int .i64 ji, .int .i64 jj, .int .i64 ja, .int .i64 jc, .int .i64 jb, .list jd je]] =
 optO (C lb n Qcf [.agg [.int .i64 jf, .list jg jh, .int .i64 ji, .int .i64 jj, .int .i64 ja, .int .i64 jc, .int .i64 jb, .list jd je]]) fun jk =>
 optO (CV.asI .i64 jk) fun jm =>
 bif (jm != 0) then
 (some (jk))
 else
 (Qg5 lb n n jf jg jh ji jj ja jc jb jd je jk 0) := by kernel_rfl
theorem Qwc (lb n:Nat) (jf:Int) (jg:Bool) (jh:LL) (ji jj ja jc jb:Int) (jd:Bool) (je:LL) :
 top lb n Qlc [.agg [.int .i64 jf, .list jg jh, .int .i64 ji, .int .i64 jj, .int .i64 ja, .int .i64 jc, .int .i64 jb, .list jd je]] =
 optO (C lb n Qbp [.agg [.int .i64 jf, .list jg jh, .int .i64 ji, .int .i64 jj, .int .i64 ja, .int .i64 jc, .int .i64 jb, .list jd je]]) fun jk =>
 optO (CV.asI .i64 jk) fun jm =>
 bif (decide (jm > 8)) then
 (some (.int .i64 4))
 else
 (optO (C lb n QbI [.agg [.int .i64 jf, .list jg jh, .int .i64 ji, .int .i64 jj, .int .i64 ja, .int .i64 jc, .int .i64 jb, .list jd je]]) fun jr =>
 optO (CV.asI .i64 jr) fun we =>
 bif (decide (we > 128)) then
 (some (.int .i64 4))
 else
 (optO (C lb n QbG [.agg [.int .i64 jf, .list jg jh, .int .i64 ji, .int .i64 jj, .int .i64 ja, .int .i64 jc, .int .i64 jb, .list jd je]]) fun wi =>
 some (wi))) := by kernel_rfl
noncomputable def Qgj (lb n yw:Nat) (jf:Int) (jg:Bool) (jh:LL) (ji jj ja jc jb:Int) (jd:Bool) (je:LL) (jk:CV) (jX:Int):Option CV :=
 hold (Qau (E0 lb n 0 994) 0 (Qah (sub (B Qbr) [1,1,0,1,0,0]) ++ [6]) [5] (sub (B Qbr) [1,1,0,1,0,0]) (Qak 0 (seqK (E0 lb n 0 997) (sub (B Qbr) [1,1,0]) (sub (B Qbr) [1,1,1]) (retK Tryz.prog (R Qbr) 0 (outK (Qag Tryz.prog Qbr))))) yw ⟨fr 25 [(0, .val (.agg [.int .i64 jf, .list jg jh, .int .i64 ji, .int .i64 jj, .int .i64 ja, .int .i64 jc, .int .i64 jb, .list jd je])),(1, .ptr 0 1 0),(2,vI 0),(3,vV jk),(12, .ptr 0 1 1),(13, .val (.list jg jh)),(14, .val (.int .i64 (jh.length:Int))),(15,vI jX)],[bx 25 [(1,some [vI jf, .val (.list jg jh),vI ji,vI jj,vI ja,vI jc,vI jb, .val (.list jd je)])]],KK⟩)
noncomputable def Qm5 (lb n:Nat) (jf:Int) (jg:Bool) (jh:LL) (ji jj ja jc jb:Int) (jd:Bool) (je:LL) (jk:CV):Option CV :=
 hold (E0 lb n 0 997 (sub (B Qbr) [1,1,1]) (retK Tryz.prog (R Qbr) 0 (outK (Qag Tryz.prog Qbr))) ⟨fr 25 [(0, .val (.agg [.int .i64 jf, .list jg jh, .int .i64 ji, .int .i64 jj, .int .i64 ja, .int .i64 jc, .int .i64 jb, .list jd je])),(1, .ptr 0 1 0),(2,vI 0),(3,vV jk)],[bx 25 [(1,some [vI jf, .val (.list jg jh),vI ji,vI jj,vI ja,vI jc,vI jb, .val (.list jd je)])]],KK⟩)
theorem Qp2 (lb n:Nat) (jf:Int) (jg:Bool) (jh:LL) (ji jj ja jc jb:Int) (jd:Bool) (je:LL) (jk:CV) :
 Qm5 lb n jf jg jh ji jj ja jc jb jd je jk =
 some (.int .i64 0) := (Qac _).trans (by kernel_rfl)
theorem Qiy (lb n yw:Nat) (jf:Int) (jg:Bool) (jh:LL) (ji jj ja jc jb:Int) (jd:Bool) (je:LL) (jk:CV) (jX:Int) :
 Qgj lb n (yw + 1) jf jg jh ji jj ja jc jb jd je jk jX =
 bif (decide (jX < (jh.length:Int))) then
 (optO (atL jh jX) fun wk =>
 chkO (wk.length == 8) (
 optO (wk[0]?) fun yl =>
 optO (wk[1]?) fun w3 =>
 optO (wk[2]?) fun yD =>
 optO (wk[3]?) fun yt =>
 optO (wk[4]?) fun yu =>
 optO (wk[5]?) fun yo =>
 optO (wk[6]?) fun wZ =>
 optO (wk[7]?) fun oA =>
 optO (C lb n Qbr [.agg [yl,w3,yD,yt,yu,yo,wZ,oA]]) fun kj =>
 optO (CV.asI .i64 kj) fun wm =>
 bif (wm != 0) then
 (some (kj))
 else
 (Qgj lb n yw jf jg jh ji jj ja jc jb jd je jk (IntKind.wrap .i64 (jX + 1)))))
 else
 (Qm5 lb n jf jg jh ji jj ja jc jb jd je jk ) := (Qac _).trans (by kernel_rfl)
theorem Qt7 (lb n:Nat) (jf:Int) (jg:Bool) (jh:LL) (ji jj ja jc jb:Int) (jd:Bool) (je:LL) :
 top lb n Qbr [.agg [.int .i64 jf, .list jg jh, .int .i64 ji, .int .i64 jj, .int .i64 ja, .int .i64 jc, .int .i64 jb, .list jd je]] =
 optO (C lb n Qcs [.agg [.int .i64 jf, .list jg jh, .int .i64 ji, .int .i64 jj, .int .i64 ja, .int .i64 jc, .int .i64 jb, .list jd je]]) fun jk =>
 optO (CV.asI .i64 jk) fun jm =>
 bif (jm != 0) then
 (some (jk))
 else
 (Qgj lb n n jf jg jh ji jj ja jc jb jd je jk 0) := by kernel_rfl
theorem QtN (lb n:Nat) (jf:Int) (jg:Bool) (jh:LL) (ji jj ja jc jb:Int) (jd:Bool) (je:LL) :
 top lb n Qj5 [.agg [.int .i64 jf, .list jg jh, .int .i64 ji, .int .i64 jj, .int .i64 ja, .int .i64 jc, .int .i64 jb, .list jd je]] =
 optO (C lb n Qbg [.agg [.int .i64 jf, .list jg jh, .int .i64 ji, .int .i64 jj, .int .i64 ja, .int .i64 jc, .int .i64 jb, .list jd je]]) fun jk =>
 optO (CV.asI .i64 jk) fun jm =>
 bif (decide (jm > 8)) then
 (some (.int .i64 4))
 else
 (optO (C lb n QbF [.agg [.int .i64 jf, .list jg jh, .int .i64 ji, .int .i64 jj, .int .i64 ja, .int .i64 jc, .int .i64 jb, .list jd je]]) fun jr =>
 optO (CV.asI .i64 jr) fun we =>
 bif (decide (we > 128)) then
 (some (.int .i64 4))
 else
 (optO (C lb n Qbr [.agg [.int .i64 jf, .list jg jh, .int .i64 ji, .int .i64 jj, .int .i64 ja, .int .i64 jc, .int .i64 jb, .list jd je]]) fun wi =>
 some (wi))) := by kernel_rfl
theorem Qjl (lb n:Nat) (jl:Bool) (a2:LL) (b3:LB) :
 top lb n QaL [.list jl a2, .str b3] =
 optO (C lb n QaN [.list jl a2, .str b3]) fun r4 =>
 optO (CV.asI .i64 r4) fun i5 =>
 some (.bool (decide (i5 ≥ 0))) := by kernel_rfl
noncomputable def Qc2 (lb n wz:Nat) (jl:Bool) (a2:LL) (b3:LB) (i7:Int):Option CV :=
 hold (Qau (E0 lb n 0 995) 0 (Qah (sub (B QaN) [1,0,1,0,0]) ++ [5]) [] (sub (B QaN) [1,0,1,0,0]) (Qak 0 (seqK (E0 lb n 0 998) (sub (B QaN) [1,0]) (sub (B QaN) [1,1]) (retK Tryz.prog (R QaN) 0 (outK (Qag Tryz.prog QaN))))) wz ⟨fr 19 [(0, .val (.list jl a2)),(1,vS b3),(4,vI 0),(6, .val (.list jl a2)),(7, .val (.int .i64 (a2.length:Int))),(8,vI i7)],[bx 19 []],KK⟩)
noncomputable def QfX (lb n:Nat) (jl:Bool) (a2:LL) (b3:LB):Option CV :=
 hold (E0 lb n 0 998 (sub (B QaN) [1,1]) (retK Tryz.prog (R QaN) 0 (outK (Qag Tryz.prog QaN))) ⟨fr 19 [(0, .val (.list jl a2)),(1,vS b3),(4,vI 0)],[bx 19 []],KK⟩)
theorem Qjd (lb n:Nat) (jl:Bool) (a2:LL) (b3:LB) :
 QfX lb n jl a2 b3 =
 some (.int .i64 (-1)) := (Qac _).trans (by kernel_rfl)
theorem Qet (lb n wz:Nat) (jl:Bool) (a2:LL) (b3:LB) (i7:Int) :
 Qc2 lb n (wz + 1) jl a2 b3 i7 =
 bif (decide (i7 < (a2.length:Int))) then
 (optO (atL a2 i7) fun j8 =>
 chkO (j8.length == 1) (
 optO (j8[0]?) fun y6 =>
 optO (CV.asS y6) fun wH =>
 bif (b3 == wH) then
 (some (.int .i64 i7))
 else
 (Qc2 lb n wz jl a2 b3 (IntKind.wrap .i64 (i7 + 1)))))
 else
 (QfX lb n jl a2 b3 ) := (Qac _).trans (by kernel_rfl)
theorem Qlk (lb n:Nat) (jl:Bool) (a2:LL) (b3:LB) :
 top lb n QaN [.list jl a2, .str b3] =
 Qc2 lb n n jl a2 b3 0 := by kernel_rfl
end Go.Proofs
namespace Go.Proofs
open Go.Am
set_option maxRecDepth 100000
set_option linter.unusedVariables false
noncomputable def QhZ (lb n gD:Nat) (jf:Int) (jg:Bool) (jh:LL) (ji jj ja jc jb:Int) (jd:Bool) (je:LL) (wh:Int) (wG:Bool) (wK:LL) (wP wO jF jK jG:Int) (jW:Bool) (wg:LL) (i46:Int):Option CV :=
 hold (Qau (E0 lb n 0 994) 0 (Qah (sub (B QbS) [1,1,0,1,0,0]) ++ []) [] (sub (B QbS) [1,1,0,1,0,0]) (Qak 0 (seqK (E0 lb n 0 997) (sub (B QbS) [1,1,0]) (sub (B QbS) [1,1,1]) (retK Tryz.prog (R QbS) 0 (outK (Qag Tryz.prog QbS))))) gD ⟨fr 68 [(0, .val (.agg [.int .i64 jf, .list jg jh, .int .i64 ji, .int .i64 jj, .int .i64 ja, .int .i64 jc, .int .i64 jb, .list jd je])),(1, .val (.agg [.int .i64 wh, .list wG wK, .int .i64 wP, .int .i64 wO, .int .i64 jF, .int .i64 jK, .int .i64 jG, .list jW wg])),(2, .ptr 0 2 0),(3, .ptr 0 3 0),(4,vB false),(5,vI i46)],[bx 68 [(2,some [vI jf, .val (.list jg jh),vI ji,vI jj,vI ja,vI jc,vI jb, .val (.list jd je)]),(3,some [vI wh, .val (.list wG wK),vI wP,vI wO,vI jF,vI jK,vI jG, .val (.list jW wg)])]],KK⟩)
noncomputable def QpF (lb n:Nat) (jf:Int) (jg:Bool) (jh:LL) (ji jj ja jc jb:Int) (jd:Bool) (je:LL) (wh:Int) (wG:Bool) (wK:LL) (wP wO jF jK jG:Int) (jW:Bool) (wg:LL) (mA:Int):Option CV :=
 hold (E0 lb n 0 997 (sub (B QbS) [1,1,1]) (retK Tryz.prog (R QbS) 0 (outK (Qag Tryz.prog QbS))) ⟨fr 68 [(0, .val (.agg [.int .i64 jf, .list jg jh, .int .i64 ji, .int .i64 jj, .int .i64 ja, .int .i64 jc, .int .i64 jb, .list jd je])),(1, .val (.agg [.int .i64 wh, .list wG wK, .int .i64 wP, .int .i64 wO, .int .i64 jF, .int .i64 jK, .int .i64 jG, .list jW wg])),(2, .ptr 0 2 0),(3, .ptr 0 3 0),(4,vB false),(5,vI mA)],[bx 68 [(2,some [vI jf, .val (.list jg jh),vI ji,vI jj,vI ja,vI jc,vI jb, .val (.list jd je)]),(3,some [vI wh, .val (.list wG wK),vI wP,vI wO,vI jF,vI jK,vI jG, .val (.list jW wg)])]],KK⟩)
theorem Qsr (lb n:Nat) (jf:Int) (jg:Bool) (jh:LL) (ji jj ja jc jb:Int) (jd:Bool) (je:LL) (wh:Int) (wG:Bool) (wK:LL) (wP wO jF jK jG:Int) (jW:Bool) (wg:LL) (mA:Int) :
 QpF lb n jf jg jh ji jj ja jc jb jd je wh wG wK wP wO jF jK jG jW wg mA =
 some (.bool true) := (Qac _).trans (by kernel_rfl)
theorem QjY (lb n gD:Nat) (jf:Int) (jg:Bool) (jh:LL) (ji jj ja jc jb:Int) (jd:Bool) (je:LL) (wh:Int) (wG:Bool) (wK:LL) (wP wO jF jK jG:Int) (jW:Bool) (wg:LL) (i46:Int) :
 QhZ lb n (gD + 1) jf jg jh ji jj ja jc jb jd je wh wG wK wP wO jF jK jG jW wg i46 =
 bif (decide (i46 < (jh.length:Int))) then
 (optO (atL jh i46) fun vo =>
 chkO (vo.length == 8) (
 optO (vo[0]?) fun zL =>
 optO (vo[1]?) fun rb =>
 optO (vo[2]?) fun zT =>
 optO (vo[3]?) fun ly =>
 optO (vo[4]?) fun rA =>
 optO (vo[5]?) fun rh =>
 optO (vo[6]?) fun lE =>
 optO (vo[7]?) fun le =>
 optO (atL wK i46) fun vp =>
 chkO (vp.length == 8) (
 optO (vp[0]?) fun lW =>
 optO (vp[1]?) fun ls =>
 optO (vp[2]?) fun lk =>
 optO (vp[3]?) fun ra =>
 optO (vp[4]?) fun l7 =>
 optO (vp[5]?) fun lw =>
 optO (vp[6]?) fun zJ =>
 optO (vp[7]?) fun lZ =>
 optO (C lb n QbS [.agg [zL,rb,zT,ly,rA,rh,lE,le], .agg [lW,ls,lk,ra,l7,lw,zJ,lZ]]) fun mc =>
 optO (CV.asB mc) fun rc =>
 bif (!rc) then
 (some (.bool false))
 else
 (QhZ lb n gD jf jg jh ji jj ja jc jb jd je wh wG wK wP wO jF jK jG jW wg (IntKind.wrap .i64 (i46 + 1))))))
 else
 (QpF lb n jf jg jh ji jj ja jc jb jd je wh wG wK wP wO jF jK jG jW wg i46) := (Qac _).trans (by kernel_rfl)
theorem Qw8 (lb n:Nat) (jf:Int) (jg:Bool) (jh:LL) (ji jj ja jc jb:Int) (jd:Bool) (je:LL) (wh:Int) (wG:Bool) (wK:LL) (wP wO jF jK jG:Int) (jW:Bool) (wg:LL) :
 top lb n QbS [.agg [.int .i64 jf, .list jg jh, .int .i64 ji, .int .i64 jj, .int .i64 ja, .int .i64 jc, .int .i64 jb, .list jd je], .agg [.int .i64 wh, .list wG wK, .int .i64 wP, .int .i64 wO, .int .i64 jF, .int .i64 jK, .int .i64 jG, .list jW wg]] =
 bif (jf != wh) then
 (some (.bool false))
 else
 (bif (ji != wP) then
 (some (.bool false))
 else
 (bif (jj != wO) then
 (some (.bool false))
 else
 (bif (!((ja == jF) && ((jc == jK) && ((jb == jG) && true)))) then
 (some (.bool false))
 else
 (bif ((jh.length:Int) != (wK.length:Int)) then
 (some (.bool false))
 else
 (optO (C lb n Qce [.list jd je, .list jW wg]) fun yd =>
 optO (CV.asB yd) fun kd =>
 bif (!kd) then
 (some (.bool false))
 else
 (QhZ lb n n jf jg jh ji jj ja jc jb jd je wh wG wK wP wO jF jK jG jW wg 0)))))) := by kernel_rfl
end Go.Proofs
namespace Go.Proofs
open Go.Am
set_option maxRecDepth 100000
set_option linter.unusedVariables false
end Go.Proofs
namespace Go.Proofs
open Go.Am
set_option maxRecDepth 100000
set_option linter.unusedVariables false
theorem Qa8 (lb n:Nat) (a1:Int) :
 top lb n Qax [.int .i64 a1] =
 bif (a1 == 1) then
 (some (.agg [.str [97,108,108], .int .i64 0, .int .i64 0, .int .i64 (-1), .int .i64 (-1), .bool false, .nilfn, .bool false, .bool true]))
 else
 (bif (a1 == 2) then
 (some (.agg [.str [97,110,100], .int .i64 1, .int .i64 128, .int .i64 (-1), .int .i64 (-1), .bool false, .nilfn, .bool false, .bool true]))
 else
 (bif (a1 == 3) then
 (some (.agg [.str [111,114], .int .i64 1, .int .i64 128, .int .i64 (-1), .int .i64 (-1), .bool false, .nilfn, .bool false, .bool true]))
 else
 (bif (a1 == 4) then
 (some (.agg [.str [110,111,116], .int .i64 1, .int .i64 1, .int .i64 (-1), .int .i64 (-1), .bool false, .nilfn, .bool false, .bool true]))
 else
 (bif (a1 == 5) then
 (some (.agg [.str [116,114,97,118,101,108], .int .i64 0, .int .i64 0, .int .i64 (-1), .int .i64 (-1), .bool true, .nilfn, .bool false, .bool true]))
 else
 (bif (a1 == 6) then
 (some (.agg [.str [115,97,108,101], .int .i64 0, .int .i64 0, .int .i64 (-1), .int .i64 (-1), .bool true, .nilfn, .bool false, .bool true]))
 else
 (bif (a1 == 7) then
 (some (.agg [.str [97,100,118,97,110,99,101], .int .i64 0, .int .i64 0, .int .i64 36524, .int .i64 (-1), .bool false, .nilfn, .bool false, .bool true]))
 else
 (bif (a1 == 8) then
 (some (.agg [.str [104,111,117,114], .int .i64 0, .int .i64 0, .int .i64 1439, .int .i64 1439, .bool false, .nilfn, .bool false, .bool true]))
 else
 (bif (a1 == 9) then
 (some (.agg [.str [115,116,111,112,115], .int .i64 0, .int .i64 0, .int .i64 6, .int .i64 (-1), .bool false, .nilfn, .bool false, .bool true]))
 else
 (bif (a1 == 10) then
 (some (.agg [.str [116,114,97,110,115,102,101,114,115], .int .i64 0, .int .i64 0, .int .i64 6, .int .i64 (-1), .bool false, .nilfn, .bool false, .bool true]))
 else
 (bif (a1 == 11) then
 (some (.agg [.str [99,97,114,114,105,101,114], .int .i64 0, .int .i64 0, .int .i64 (-1), .int .i64 (-1), .bool false, .fn QaZ, .bool false, .bool true]))
 else
 (bif (a1 == 12) then
 (some (.agg [.str [110,117,109,98,101,114], .int .i64 0, .int .i64 0, .int .i64 9999, .int .i64 9999, .bool false, .nilfn, .bool true, .bool true]))
 else
 (bif (a1 == 13) then
 (some (.agg [.str [118,105,97], .int .i64 0, .int .i64 0, .int .i64 (-1), .int .i64 (-1), .bool false, .fn QaY, .bool false, .bool true]))
 else
 (bif (a1 == 14) then
 (some (.agg [.str [116,121,112,101], .int .i64 0, .int .i64 0, .int .i64 (-1), .int .i64 (-1), .bool false, .fn QaP, .bool false, .bool true]))
 else
 (some (.agg [.str [], .int .i64 0, .int .i64 0, .int .i64 (-1), .int .i64 (-1), .bool false, .nilfn, .bool false, .bool false]))))))))))))))) := by kernel_rfl
theorem Qmi (lb n:Nat) (a1 b2:LB) :
 top lb n Qbv [.str a1, .str b2] =
 optO (C lb n QdI [.str a1, .str b2]) fun r3 =>
 optO (CV.asT r3) fun t4 =>
 optO (t4[0]?) fun x5 =>
 optO (CV.asT r3) fun t6 =>
 optO (t6[1]?) fun x7 =>
 some (.tup [x5,x7]) := by kernel_rfl
theorem Qfc (lb n:Nat) (a1 b2:LB) :
 top lb n QdI [.str a1, .str b2] =
 optO (C lb n QdD [.str a1, .str b2]) fun r3 =>
 optO (CV.asB r3) fun b4 =>
 bif (!b4) then
 (some (.tup [.str a1, .bool false]))
 else
 (chkO (decide ((0:Int) ≤ (b2.length:Int) ∧ (b2.length:Int) ≤ (a1.length:Int))) (
 some (.tup [.str ((a1.take ((a1.length:Int).toNat)).drop ((b2.length:Int).toNat)), .bool true]))) := by kernel_rfl
theorem Qjg (lb n:Nat) (a1 b2:LB) :
 top lb n QdD [.str a1, .str b2] =
 bif (decide ((a1.length:Int) ≥ (b2.length:Int))) then
 (chkO (decide ((0:Int) ≤ (b2.length:Int) ∧ (b2.length:Int) ≤ (a1.length:Int))) (
 some (.bool (((a1.take ((b2.length:Int).toNat)).drop 0) == b2))))
 else
 (some (.bool false)) := by kernel_rfl
end Go.Proofs
