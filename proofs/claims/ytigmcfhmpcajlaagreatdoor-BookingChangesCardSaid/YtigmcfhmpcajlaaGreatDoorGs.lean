/- Equations of functions, printed by program. Conditions: none. -/
import Derived.Test.YtigmcfhmpcajlaaGreatDoorEv
namespace Go.Proofs
open Go.Am
set_option maxRecDepth 100000
set_option linter.unusedVariables false
noncomputable def r35_Same_L1:=
 fun lb n (oL:Nat) jj (jb:Bool) (jf:LL) jg (je:Bool) (ja:LL) (jd:Bool) (jh:LL) jc jQ (jH:Bool) (jM:LL) jO (jF:Bool) (jL:LL) (jG:Bool) (jN:LL) jP ga=>
 hold (Qax (E0 lb n 0 994) 0 (Qak (sub (B Qaq) [1,1,0,1,0,0])++ []) [] (sub (B Qaq) [1,1,0,1,0,0]) (Qam 0 (seqK (E0 lb n 0 997) (sub (B Qaq) [1,1,0]) (sub (B Qaq) [1,1,1]) (retK Tryz.prog (R Qaq) 0 (outK (Qae Tryz.prog Qaq))))) oL ⟨fr 108 [(0, .val (.agg [.str jj, .list jb jf, .int .i64 jg, .list je ja, .list jd jh, .int .i64 jc])),(1, .val (.agg [.str jQ, .list jH jM, .int .i64 jO, .list jF jL, .list jG jN, .int .i64 jP])),(2, .ptr 0 2 0),(3, .ptr 0 3 0),(4,vB false),(5,vI ga)],[bx 108 [(2,some [vS jj, .val (.list jb jf),vI jg, .val (.list je ja), .val (.list jd jh),vI jc]),(3,some [vS jQ, .val (.list jH jM),vI jO, .val (.list jF jL), .val (.list jG jN),vI jP])]],KK⟩)
noncomputable def QoD (lb n:Nat) (jj:LB) (jb:Bool) (jf:LL) (jg:Int) (je:Bool) (ja:LL) (jd:Bool) (jh:LL) (jc:Int) (jQ:LB) (jH:Bool) (jM:LL) (jO:Int) (jF:Bool) (jL:LL) (jG:Bool) (jN:LL) (jP yp:Int):Option CV:=
 hold (E0 lb n 0 997 (sub (B Qaq) [1,1,1]) (retK Tryz.prog (R Qaq) 0 (outK (Qae Tryz.prog Qaq))) ⟨fr 108 [(0, .val (.agg [.str jj, .list jb jf, .int .i64 jg, .list je ja, .list jd jh, .int .i64 jc])),(1, .val (.agg [.str jQ, .list jH jM, .int .i64 jO, .list jF jL, .list jG jN, .int .i64 jP])),(2, .ptr 0 2 0),(3, .ptr 0 3 0),(4,vB false),(5,vI yp)],[bx 108 [(2,some [vS jj, .val (.list jb jf),vI jg, .val (.list je ja), .val (.list jd jh),vI jc]),(3,some [vS jQ, .val (.list jH jM),vI jO, .val (.list jF jL), .val (.list jG jN),vI jP])]],KK⟩)
noncomputable def Qh6 (lb n ng:Nat) (jj:LB) (jb:Bool) (jf:LL) (jg:Int) (je:Bool) (ja:LL) (jd:Bool) (jh:LL) (jc:Int) (jQ:LB) (jH:Bool) (jM:LL) (jO:Int) (jF:Bool) (jL:LL) (jG:Bool) (jN:LL) (jP yp kO:Int):Option CV:=
 hold (Qax (E0 lb n 0 993) 0 (Qak (sub (B Qaq) [1,1,1,0,1,0,0])++ []) [] (sub (B Qaq) [1,1,1,0,1,0,0]) (Qam 2 (seqK (E0 lb n 0 996) (sub (B Qaq) [1,1,1,0]) (sub (B Qaq) [1,1,1,1]) (retK Tryz.prog (R Qaq) 0 (outK (Qae Tryz.prog Qaq))))) ng ⟨fr 108 [(0, .val (.agg [.str jj, .list jb jf, .int .i64 jg, .list je ja, .list jd jh, .int .i64 jc])),(1, .val (.agg [.str jQ, .list jH jM, .int .i64 jO, .list jF jL, .list jG jN, .int .i64 jP])),(2, .ptr 0 2 0),(3, .ptr 0 3 0),(4,vB false),(5,vI yp),(6,vI kO)],[bx 108 [(2,some [vS jj, .val (.list jb jf),vI jg, .val (.list je ja), .val (.list jd jh),vI jc]),(3,some [vS jQ, .val (.list jH jM),vI jO, .val (.list jF jL), .val (.list jG jN),vI jP])]],KK⟩)
noncomputable def Qoy (lb n:Nat) (jj:LB) (jb:Bool) (jf:LL) (jg:Int) (je:Bool) (ja:LL) (jd:Bool) (jh:LL) (jc:Int) (jQ:LB) (jH:Bool) (jM:LL) (jO:Int) (jF:Bool) (jL:LL) (jG:Bool) (jN:LL) (jP yp yY:Int):Option CV:=
 hold (E0 lb n 0 996 (sub (B Qaq) [1,1,1,1]) (retK Tryz.prog (R Qaq) 0 (outK (Qae Tryz.prog Qaq))) ⟨fr 108 [(0, .val (.agg [.str jj, .list jb jf, .int .i64 jg, .list je ja, .list jd jh, .int .i64 jc])),(1, .val (.agg [.str jQ, .list jH jM, .int .i64 jO, .list jF jL, .list jG jN, .int .i64 jP])),(2, .ptr 0 2 0),(3, .ptr 0 3 0),(4,vB false),(5,vI yp),(6,vI yY)],[bx 108 [(2,some [vS jj, .val (.list jb jf),vI jg, .val (.list je ja), .val (.list jd jh),vI jc]),(3,some [vS jQ, .val (.list jH jM),vI jO, .val (.list jF jL), .val (.list jG jN),vI jP])]],KK⟩)
noncomputable def Qih (lb n mP:Nat) (jj:LB) (jb:Bool) (jf:LL) (jg:Int) (je:Bool) (ja:LL) (jd:Bool) (jh:LL) (jc:Int) (jQ:LB) (jH:Bool) (jM:LL) (jO:Int) (jF:Bool) (jL:LL) (jG:Bool) (jN:LL) (jP yp yY kT:Int):Option CV:=
 hold (Qax (E0 lb n 0 992) 0 (Qak (sub (B Qaq) [1,1,1,1,0,1,0,0])++ []) [] (sub (B Qaq) [1,1,1,1,0,1,0,0]) (Qam 4 (seqK (E0 lb n 0 995) (sub (B Qaq) [1,1,1,1,0]) (sub (B Qaq) [1,1,1,1,1]) (retK Tryz.prog (R Qaq) 0 (outK (Qae Tryz.prog Qaq))))) mP ⟨fr 108 [(0, .val (.agg [.str jj, .list jb jf, .int .i64 jg, .list je ja, .list jd jh, .int .i64 jc])),(1, .val (.agg [.str jQ, .list jH jM, .int .i64 jO, .list jF jL, .list jG jN, .int .i64 jP])),(2, .ptr 0 2 0),(3, .ptr 0 3 0),(4,vB false),(5,vI yp),(6,vI yY),(7,vI kT)],[bx 108 [(2,some [vS jj, .val (.list jb jf),vI jg, .val (.list je ja), .val (.list jd jh),vI jc]),(3,some [vS jQ, .val (.list jH jM),vI jO, .val (.list jF jL), .val (.list jG jN),vI jP])]],KK⟩)
noncomputable def QoF (lb n:Nat) (jj:LB) (jb:Bool) (jf:LL) (jg:Int) (je:Bool) (ja:LL) (jd:Bool) (jh:LL) (jc:Int) (jQ:LB) (jH:Bool) (jM:LL) (jO:Int) (jF:Bool) (jL:LL) (jG:Bool) (jN:LL) (jP yp yY pg:Int):Option CV:=
 hold (E0 lb n 0 995 (sub (B Qaq) [1,1,1,1,1]) (retK Tryz.prog (R Qaq) 0 (outK (Qae Tryz.prog Qaq))) ⟨fr 108 [(0, .val (.agg [.str jj, .list jb jf, .int .i64 jg, .list je ja, .list jd jh, .int .i64 jc])),(1, .val (.agg [.str jQ, .list jH jM, .int .i64 jO, .list jF jL, .list jG jN, .int .i64 jP])),(2, .ptr 0 2 0),(3, .ptr 0 3 0),(4,vB false),(5,vI yp),(6,vI yY),(7,vI pg)],[bx 108 [(2,some [vS jj, .val (.list jb jf),vI jg, .val (.list je ja), .val (.list jd jh),vI jc]),(3,some [vS jQ, .val (.list jH jM),vI jO, .val (.list jF jL), .val (.list jG jN),vI jP])]],KK⟩)
theorem Qrq (lb n:Nat) (jj:LB) (jb:Bool) (jf:LL) (jg:Int) (je:Bool) (ja:LL) (jd:Bool) (jh:LL) (jc:Int) (jQ:LB) (jH:Bool) (jM:LL) (jO:Int) (jF:Bool) (jL:LL) (jG:Bool) (jN:LL) (jP yp yY pg:Int):
 QoF lb n jj jb jf jg je ja jd jh jc jQ jH jM jO jF jL jG jN jP yp yY pg=
 some (.bool true):=(Qah _).trans (by kernel_rfl)
theorem QjA (lb n mP:Nat) (jj:LB) (jb:Bool) (jf:LL) (jg:Int) (je:Bool) (ja:LL) (jd:Bool) (jh:LL) (jc:Int) (jQ:LB) (jH:Bool) (jM:LL) (jO:Int) (jF:Bool) (jL:LL) (jG:Bool) (jN:LL) (jP yp yY kT:Int):
 Qih lb n (mP+1) jj jb jf jg je ja jd jh jc jQ jH jM jO jF jL jG jN jP yp yY kT=
 bif (decide (kT<(jh.length:Int))) then
 (optO (atL jh kT) fun mU=>
 chkO (mU.length==3) (
 optO (mU[0]?) fun ux=>
 optO (mU[1]?) fun l8=>
 optO (mU[2]?) fun rS=>
 optO (atL jN kT) fun m6=>
 chkO (m6.length==3) (
 optO (m6[0]?) fun u4=>
 optO (m6[1]?) fun tZ=>
 optO (m6[2]?) fun uY=>
 optO (CV.asS ux) fun uB=>
 optO (CV.asS u4) fun ls=>
 optO (CV.asI .i64 l8) fun u3=>
 optO (CV.asI .i64 tZ) fun nI=>
 optO (CV.asI .i64 rS) fun n8=>
 optO (CV.asI .i64 uY) fun ud=>
 bif (!((uB==ls)&&((u3==nI)&&((n8==ud)&&true)))) then
 (some (.bool false))
 else
 (Qih lb n mP jj jb jf jg je ja jd jh jc jQ jH jM jO jF jL jG jN jP yp yY (IntKind.wrap .i64 (kT+1))))))
 else
 (QoF lb n jj jb jf jg je ja jd jh jc jQ jH jM jO jF jL jG jN jP yp yY kT):=(Qah _).trans (by kernel_rfl)
theorem Qrm (lb n:Nat) (jj:LB) (jb:Bool) (jf:LL) (jg:Int) (je:Bool) (ja:LL) (jd:Bool) (jh:LL) (jc:Int) (jQ:LB) (jH:Bool) (jM:LL) (jO:Int) (jF:Bool) (jL:LL) (jG:Bool) (jN:LL) (jP yp yY:Int):
 Qoy lb n jj jb jf jg je ja jd jh jc jQ jH jM jO jF jL jG jN jP yp yY=
 Qih lb n n jj jb jf jg je ja jd jh jc jQ jH jM jO jF jL jG jN jP yp yY 0:=(Qah _).trans (by kernel_rfl)
theorem Qjr (lb n ng:Nat) (jj:LB) (jb:Bool) (jf:LL) (jg:Int) (je:Bool) (ja:LL) (jd:Bool) (jh:LL) (jc:Int) (jQ:LB) (jH:Bool) (jM:LL) (jO:Int) (jF:Bool) (jL:LL) (jG:Bool) (jN:LL) (jP yp kO:Int):
 Qh6 lb n (ng+1) jj jb jf jg je ja jd jh jc jQ jH jM jO jF jL jG jN jP yp kO=
 bif (decide (kO<(ja.length:Int))) then
 (optO (atL ja kO) fun vZ=>
 chkO (vZ.length==10) (
 optO (vZ[0]?) fun ow=>
 optO (vZ[1]?) fun rb=>
 optO (vZ[2]?) fun mc=>
 optO (vZ[3]?) fun pd=>
 optO (vZ[4]?) fun pt=>
 optO (vZ[5]?) fun n4=>
 optO (vZ[6]?) fun mh=>
 optO (vZ[7]?) fun pq=>
 optO (vZ[8]?) fun nN=>
 optO (vZ[9]?) fun tu=>
 optO (atL jL kO) fun vT=>
 chkO (vT.length==10) (
 optO (vT[0]?) fun uw=>
 optO (vT[1]?) fun wU=>
 optO (vT[2]?) fun n7=>
 optO (vT[3]?) fun wT=>
 optO (vT[4]?) fun nJ=>
 optO (vT[5]?) fun yl=>
 optO (vT[6]?) fun ym=>
 optO (vT[7]?) fun yu=>
 optO (vT[8]?) fun yv=>
 optO (vT[9]?) fun yw=>
 optO (CV.asS ow) fun tX=>
 optO (CV.asS uw) fun uH=>
 optO (CV.asI .i64 rb) fun gY=>
 optO (CV.asI .i64 wU) fun rH=>
 optO (CV.asI .i64 mc) fun rA=>
 optO (CV.asI .i64 n7) fun oW=>
 optO (CV.asS pd) fun lG=>
 optO (CV.asS wT) fun t8=>
 optO (CV.asS pt) fun ta=>
 optO (CV.asS nJ) fun ua=>
 optO (CV.asI .i64 n4) fun pE=>
 optO (CV.asI .i64 yl) fun uz=>
 optO (CV.asI .i64 mh) fun tM=>
 optO (CV.asI .i64 ym) fun oZ=>
 optO (CV.asS pq) fun rl=>
 optO (CV.asS yu) fun rN=>
 optO (CV.asI .i64 nN) fun tl=>
 optO (CV.asI .i64 yv) fun lC=>
 optO (CV.asI .i64 tu) fun jad=>
 optO (CV.asI .i64 yw) fun r7=>
 bif (!((tX==uH)&&((gY==rH)&&((rA==oW)&&((lG==t8)&&((ta==ua)&&((pE==uz)&&((tM==oZ)&&((rl==rN)&&((tl==lC)&&((jad==r7)&&true))))))))))) then
 (some (.bool false))
 else
 (Qh6 lb n ng jj jb jf jg je ja jd jh jc jQ jH jM jO jF jL jG jN jP yp (IntKind.wrap .i64 (kO+1))))))
 else
 (Qoy lb n jj jb jf jg je ja jd jh jc jQ jH jM jO jF jL jG jN jP yp kO):=(Qah _).trans (by kernel_rfl)
theorem Qq8 (lb n:Nat) (jj:LB) (jb:Bool) (jf:LL) (jg:Int) (je:Bool) (ja:LL) (jd:Bool) (jh:LL) (jc:Int) (jQ:LB) (jH:Bool) (jM:LL) (jO:Int) (jF:Bool) (jL:LL) (jG:Bool) (jN:LL) (jP yp:Int):
 QoD lb n jj jb jf jg je ja jd jh jc jQ jH jM jO jF jL jG jN jP yp=
 Qh6 lb n n jj jb jf jg je ja jd jh jc jQ jH jM jO jF jL jG jN jP yp 0:=(Qah _).trans (by kernel_rfl)
theorem QjD (lb n oL:Nat) (jj:LB) (jb:Bool) (jf:LL) (jg:Int) (je:Bool) (ja:LL) (jd:Bool) (jh:LL) (jc:Int) (jQ:LB) (jH:Bool) (jM:LL) (jO:Int) (jF:Bool) (jL:LL) (jG:Bool) (jN:LL) (jP ga:Int):
 r35_Same_L1 lb n (oL+1) jj jb jf jg je ja jd jh jc jQ jH jM jO jF jL jG jN jP ga=
 bif (decide (ga<(jf.length:Int))) then
 (optO (atL jf ga) fun gZ=>
 chkO (gZ.length==3) (
 optO (gZ[0]?) fun g9=>
 optO (gZ[1]?) fun jU=>
 optO (gZ[2]?) fun nu=>
 optO (atL jM ga) fun p8=>
 chkO (p8.length==3) (
 optO (p8[0]?) fun x57=>
 optO (p8[1]?) fun wA=>
 optO (p8[2]?) fun wz=>
 optO (CV.asS g9) fun s60=>
 optO (CV.asS x57) fun kI=>
 optO (CV.asS jU) fun s62=>
 optO (CV.asS wA) fun s63=>
 optO (CV.asS nu) fun s65=>
 optO (CV.asS wz) fun s66=>
 bif (!((s60==kI)&&((s62==s63)&&((s65==s66)&&true)))) then
 (some (.bool false))
 else
 (r35_Same_L1 lb n oL jj jb jf jg je ja jd jh jc jQ jH jM jO jF jL jG jN jP (IntKind.wrap .i64 (ga+1))))))
 else
 (QoD lb n jj jb jf jg je ja jd jh jc jQ jH jM jO jF jL jG jN jP ga):=(Qah _).trans (by kernel_rfl)
theorem QuX (lb n:Nat) (jj:LB) (jb:Bool) (jf:LL) (jg:Int) (je:Bool) (ja:LL) (jd:Bool) (jh:LL) (jc:Int) (jQ:LB) (jH:Bool) (jM:LL) (jO:Int) (jF:Bool) (jL:LL) (jG:Bool) (jN:LL) (jP:Int):
 top lb n Qaq [.agg [.str jj, .list jb jf, .int .i64 jg, .list je ja, .list jd jh, .int .i64 jc], .agg [.str jQ, .list jH jM, .int .i64 jO, .list jF jL, .list jG jN, .int .i64 jP]]=
 bif (!(jj==jQ)) then
 (some (.bool false))
 else
 (bif (jg !=jO) then
 (some (.bool false))
 else
 (bif (jc !=jP) then
 (some (.bool false))
 else
 (bif ((jf.length:Int) !=(jM.length:Int)) then
 (some (.bool false))
 else
 (bif ((ja.length:Int) !=(jL.length:Int)) then
 (some (.bool false))
 else
 (bif ((jh.length:Int) !=(jN.length:Int)) then
 (some (.bool false))
 else
 (r35_Same_L1 lb n n jj jb jf jg je ja jd jh jc jQ jH jM jO jF jL jG jN jP 0)))))):=by kernel_rfl
noncomputable def QgX (lb n pO:Nat) (jj:LB) (jb:Bool) (jf:LL) (jg:Int) (je:Bool) (ja:LL) (jd:Bool) (jh:LL) (jc i21:Int):Option CV:=
 hold (Qax (E0 lb n 0 994) 0 (Qak (sub (B QaJ) [1,1,0,1,0,0])++ []) [] (sub (B QaJ) [1,1,0,1,0,0]) (Qam 0 (seqK (E0 lb n 0 997) (sub (B QaJ) [1,1,0]) (sub (B QaJ) [1,1,1]) (retK Tryz.prog (R QaJ) 0 (outK (Qae Tryz.prog QaJ))))) pO ⟨fr 120 [(0, .val (.agg [.str jj, .list jb jf, .int .i64 jg, .list je ja, .list jd jh, .int .i64 jc])),(1, .ptr 0 1 0),(2,vB false),(3,vI i21)],[bx 120 [(1,some [vS jj, .val (.list jb jf),vI jg, .val (.list je ja), .val (.list jd jh),vI jc])]],KK⟩)
noncomputable def QmT (lb n:Nat) (jj:LB) (jb:Bool) (jf:LL) (jg:Int) (je:Bool) (ja:LL) (jd:Bool) (jh:LL) (jc yK:Int):Option CV:=
 hold (E0 lb n 0 997 (sub (B QaJ) [1,1,1]) (retK Tryz.prog (R QaJ) 0 (outK (Qae Tryz.prog QaJ))) ⟨fr 120 [(0, .val (.agg [.str jj, .list jb jf, .int .i64 jg, .list je ja, .list jd jh, .int .i64 jc])),(1, .ptr 0 1 0),(2,vB false),(3,vI yK)],[bx 120 [(1,some [vS jj, .val (.list jb jf),vI jg, .val (.list je ja), .val (.list jd jh),vI jc])]],KK⟩)
noncomputable def Qhf (lb n pI:Nat) (jj:LB) (jb:Bool) (jf:LL) (jg:Int) (je:Bool) (ja:LL) (jd:Bool) (jh:LL) (jc yK gb:Int):Option CV:=
 hold (Qax (E0 lb n 0 993) 0 (Qak (sub (B QaJ) [1,1,1,0,1,0,0])++ []) [5] (sub (B QaJ) [1,1,1,0,1,0,0]) (Qam 2 (seqK (E0 lb n 0 996) (sub (B QaJ) [1,1,1,0]) (sub (B QaJ) [1,1,1,1]) (retK Tryz.prog (R QaJ) 0 (outK (Qae Tryz.prog QaJ))))) pI ⟨fr 120 [(0, .val (.agg [.str jj, .list jb jf, .int .i64 jg, .list je ja, .list jd jh, .int .i64 jc])),(1, .ptr 0 1 0),(2,vB false),(3,vI yK),(4,vI gb)],[bx 120 [(1,some [vS jj, .val (.list jb jf),vI jg, .val (.list je ja), .val (.list jd jh),vI jc])]],KK⟩)
noncomputable def Qna (lb n:Nat) (jj:LB) (jb:Bool) (jf:LL) (jg:Int) (je:Bool) (ja:LL) (jd:Bool) (jh:LL) (jc yK v6:Int):Option CV:=
 hold (E0 lb n 0 996 (sub (B QaJ) [1,1,1,1]) (retK Tryz.prog (R QaJ) 0 (outK (Qae Tryz.prog QaJ))) ⟨fr 120 [(0, .val (.agg [.str jj, .list jb jf, .int .i64 jg, .list je ja, .list jd jh, .int .i64 jc])),(1, .ptr 0 1 0),(2,vB false),(3,vI yK),(4,vI v6)],[bx 120 [(1,some [vS jj, .val (.list jb jf),vI jg, .val (.list je ja), .val (.list jd jh),vI jc])]],KK⟩)
noncomputable def QgZ (lb n pQ:Nat) (jj:LB) (jb:Bool) (jf:LL) (jg:Int) (je:Bool) (ja:LL) (jd:Bool) (jh:LL) (jc yK v6 oI:Int):Option CV:=
 hold (Qax (E0 lb n 0 992) 0 (Qak (sub (B QaJ) [1,1,1,1,0,1,0,0])++ []) [] (sub (B QaJ) [1,1,1,1,0,1,0,0]) (Qam 4 (seqK (E0 lb n 0 995) (sub (B QaJ) [1,1,1,1,0]) (sub (B QaJ) [1,1,1,1,1]) (retK Tryz.prog (R QaJ) 0 (outK (Qae Tryz.prog QaJ))))) pQ ⟨fr 120 [(0, .val (.agg [.str jj, .list jb jf, .int .i64 jg, .list je ja, .list jd jh, .int .i64 jc])),(1, .ptr 0 1 0),(2,vB false),(3,vI yK),(4,vI v6),(6,vI oI)],[bx 120 [(1,some [vS jj, .val (.list jb jf),vI jg, .val (.list je ja), .val (.list jd jh),vI jc])]],KK⟩)
noncomputable def Qm0 (lb n:Nat) (jj:LB) (jb:Bool) (jf:LL) (jg:Int) (je:Bool) (ja:LL) (jd:Bool) (jh:LL) (jc yK v6 nO:Int):Option CV:=
 hold (E0 lb n 0 995 (sub (B QaJ) [1,1,1,1,1]) (retK Tryz.prog (R QaJ) 0 (outK (Qae Tryz.prog QaJ))) ⟨fr 120 [(0, .val (.agg [.str jj, .list jb jf, .int .i64 jg, .list je ja, .list jd jh, .int .i64 jc])),(1, .ptr 0 1 0),(2,vB false),(3,vI yK),(4,vI v6),(6,vI nO)],[bx 120 [(1,some [vS jj, .val (.list jb jf),vI jg, .val (.list je ja), .val (.list jd jh),vI jc])]],KK⟩)
theorem QqJ (lb n:Nat) (jj:LB) (jb:Bool) (jf:LL) (jg:Int) (je:Bool) (ja:LL) (jd:Bool) (jh:LL) (jc yK v6 nO:Int):
 Qm0 lb n jj jb jf jg je ja jd jh jc yK v6 nO=
 some (.bool true):=(Qah _).trans (by kernel_rfl)
theorem QiR (lb n pQ:Nat) (jj:LB) (jb:Bool) (jf:LL) (jg:Int) (je:Bool) (ja:LL) (jd:Bool) (jh:LL) (jc yK v6 oI:Int):
 QgZ lb n (pQ+1) jj jb jf jg je ja jd jh jc yK v6 oI=
 bif (decide (oI<(jh.length:Int))) then
 (optO (atL jh oI) fun zP=>
 chkO (zP.length==3) (
 optO (zP[0]?) fun wg=>
 optO (CV.asS wg) fun s99=>
 bif (decide ((s99.length:Int)>100)) then
 (some (.bool false))
 else
 (QgZ lb n pQ jj jb jf jg je ja jd jh jc yK v6 (IntKind.wrap .i64 (oI+1)))))
 else
 (Qm0 lb n jj jb jf jg je ja jd jh jc yK v6 oI):=(Qah _).trans (by kernel_rfl)
theorem QqL (lb n:Nat) (jj:LB) (jb:Bool) (jf:LL) (jg:Int) (je:Bool) (ja:LL) (jd:Bool) (jh:LL) (jc yK v6:Int):
 Qna lb n jj jb jf jg je ja jd jh jc yK v6=
 QgZ lb n n jj jb jf jg je ja jd jh jc yK v6 0:=(Qah _).trans (by kernel_rfl)
theorem Qi1 (lb n pI:Nat) (jj:LB) (jb:Bool) (jf:LL) (jg:Int) (je:Bool) (ja:LL) (jd:Bool) (jh:LL) (jc yK gb:Int):
 Qhf lb n (pI+1) jj jb jf jg je ja jd jh jc yK gb=
 bif (decide (gb<(ja.length:Int))) then
 (optO (atL ja gb) fun kP=>
 chkO (kP.length==10) (
 optO (kP[0]?) fun pU=>
 optO (kP[1]?) fun me=>
 optO (kP[2]?) fun si=>
 optO (kP[3]?) fun oN=>
 optO (kP[4]?) fun qH=>
 optO (kP[5]?) fun mB=>
 optO (kP[6]?) fun zE=>
 optO (CV.asS pU) fun s82=>
 bif (decide ((s82.length:Int)>100)) then
 (some (.bool false))
 else
 (optO (CV.asS oN) fun s83=>
 bif (decide ((s83.length:Int)>100)) then
 (some (.bool false))
 else
 (optO (CV.asS qH) fun s84=>
 bif (decide ((s84.length:Int)>100)) then
 (some (.bool false))
 else
 (optO (atL ja gb) fun c85=>
 chkO (c85.length==10) (
 optO (c85[7]?) fun gp=>
 optO (CV.asS gp) fun s87=>
 bif (decide ((s87.length:Int)>100)) then
 (some (.bool false))
 else
 (Qhf lb n pI jj jb jf jg je ja jd jh jc yK (IntKind.wrap .i64 (gb+1)))))))))
 else
 (Qna lb n jj jb jf jg je ja jd jh jc yK gb):=(Qah _).trans (by kernel_rfl)
theorem Qqm (lb n:Nat) (jj:LB) (jb:Bool) (jf:LL) (jg:Int) (je:Bool) (ja:LL) (jd:Bool) (jh:LL) (jc yK:Int):
 QmT lb n jj jb jf jg je ja jd jh jc yK=
 Qhf lb n n jj jb jf jg je ja jd jh jc yK 0:=(Qah _).trans (by kernel_rfl)
theorem QiS (lb n pO:Nat) (jj:LB) (jb:Bool) (jf:LL) (jg:Int) (je:Bool) (ja:LL) (jd:Bool) (jh:LL) (jc i21:Int):
 QgX lb n (pO+1) jj jb jf jg je ja jd jh jc i21=
 bif (decide (i21<(jf.length:Int))) then
 (optO (atL jf i21) fun zL=>
 chkO (zL.length==3) (
 optO (zL[0]?) fun pY=>
 optO (CV.asS pY) fun s35=>
 bif (decide ((s35.length:Int)>100)) then
 (some (.bool false))
 else
 (optO (atL jf i21) fun zK=>
 chkO (zK.length==3) (
 optO (zK[1]?) fun oK=>
 optO (CV.asS oK) fun s38=>
 bif (decide ((s38.length:Int)>100)) then
 (some (.bool false))
 else
 (optO (atL jf i21) fun zN=>
 chkO (zN.length==3) (
 optO (zN[2]?) fun zB=>
 optO (CV.asS zB) fun s41=>
 bif (decide ((s41.length:Int)>100)) then
 (some (.bool false))
 else
 (QgX lb n pO jj jb jf jg je ja jd jh jc (IntKind.wrap .i64 (i21+1)))))))))
 else
 (QmT lb n jj jb jf jg je ja jd jh jc i21):=(Qah _).trans (by kernel_rfl)
theorem Qtj (lb n:Nat) (jj:LB) (jb:Bool) (jf:LL) (jg:Int) (je:Bool) (ja:LL) (jd:Bool) (jh:LL) (jc:Int):
 top lb n QaJ [.agg [.str jj, .list jb jf, .int .i64 jg, .list je ja, .list jd jh, .int .i64 jc]]=
 bif (decide ((jf.length:Int)>60)) then
 (some (.bool false))
 else
 (bif (decide ((ja.length:Int)>60)) then
 (some (.bool false))
 else
 (bif (decide ((jh.length:Int)>60)) then
 (some (.bool false))
 else
 (bif (decide ((jj.length:Int)>100)) then
 (some (.bool false))
 else
 (QgX lb n n jj jb jf jg je ja jd jh jc 0)))):=by kernel_rfl
end Go.Proofs
