/- awake of chapter 35 answers true: each of its calls is run in the kernel. Conditions: none. -/
import Derived.Test.YtigmcfhmpcajlaaGreatDoorNh
import Derived.Test.YtigmcfhmpcajlaaGreatDoorRet
import Derived.Test.YtigmcfhmpcajlaaGreatDoorGw
import Derived.Test.YtigmcfhmpcajlaaGreatDoorGp
import Derived.Test.YtigmcfhmpcajlaaGreatDoorRA
namespace Go.Proofs
open Go.Am
set_option maxRecDepth 100000
abbrev Qgp:CV:=CV.list false [[CV.str [77,69,65,76],CV.int .i64 1,CV.int .i64 0]]
abbrev Qv2:CV:=CV.list false [[CV.str [77,69,65,76],CV.int .i64 0,CV.int .i64 0]]
abbrev awv33:CV:=CV.str [115,101,114,118,105,99,101,32,77,69,65,76,32,49,32,48]
abbrev Qyc:CV:=CV.agg [CV.str [83,77,73,84,72],CV.str [65,78,78],CV.str [65,68,84]]
abbrev QyB:CV:=CV.str [115,101,114,118,105,99,101,32,77,69,65,76,32,49,32,48,10]
abbrev awv29:CV:=CV.list false [[CV.int .i64 7,CV.str [115,101,114,118,105,99,101,32,48]]]
abbrev Qyd:CV:=CV.agg [CV.str [83,77,73,84,72],CV.str [74,79,72,78],CV.str [65,68,84]]
abbrev awv28:CV:=CV.str [98,111,111,107,105,110,103,32,65,66,67,50,51,52,32,48,32,48]
abbrev Qv0:CV:=CV.list false [[CV.str [83,77,73,84,72],CV.str [65,78,78],CV.str [65,68,84]]]
abbrev QsX:CV:=CV.list false [[CV.str [83,77,73,84,72],CV.str [74,79,72,78],CV.str [65,68,84]]]
abbrev awv25:CV:=CV.str [112,101,114,115,111,110,32,34,83,77,73,84,72,47,65,78,78,32,65,68,84,34]
abbrev awv24:CV:=CV.str [112,101,114,115,111,110,32,34,83,77,73,84,72,47,74,79,72,78,32,65,68,84,34]
abbrev awv23:CV:=CV.tup [CV.agg [CV.str [],CV.list true [],CV.int .i64 0,CV.list true [],CV.list true [],CV.int .i64 0],CV.int .i64 1,CV.int .i64 3]
abbrev awv21:CV:=CV.str [115,101,103,32,66,65,32,50,32,57,32,76,72,82,32,67,68,71,32,49,51,48,48,48,32,49,51,48,56,48,32,89,32,72,75,32,49]
abbrev awv22:CV:=CV.str [115,101,103,32,66,65,32,51,32,57,32,67,68,71,32,74,70,75,32,49,51,50,48,48,32,49,51,55,48,48,32,89,32,72,75,32,49]
abbrev Qij:CV:=CV.list false [[CV.str [83,77,73,84,72],CV.str [74,79,72,78],CV.str [65,68,84]],[CV.str [83,77,73,84,72],CV.str [65,78,78],CV.str [65,68,84]]]
abbrev QsT:CV:=CV.list false [[CV.str [98,111,111,107,105,110,103]],[CV.str [112,101,114,115,111,110]],[CV.str [115,101,103]],[CV.str [115,101,114,118,105,99,101]]]
abbrev Qyp:CV:=CV.agg [CV.str [66,65],CV.int .i64 2,CV.int .i64 9,CV.str [76,72,82],CV.str [67,68,71],CV.int .i64 13000,CV.int .i64 13080,CV.str [89],CV.int .i64 1,CV.int .i64 1]
abbrev Qyf:CV:=CV.agg [CV.str [66,65],CV.int .i64 3,CV.int .i64 9,CV.str [67,68,71],CV.str [74,70,75],CV.int .i64 13200,CV.int .i64 13700,CV.str [89],CV.int .i64 1,CV.int .i64 1]
abbrev Qyy:CV:=CV.str [115,101,103,32,66,65,32,51,32,57,32,67,68,71,32,74,70,75,32,49,51,50,48,48,32,49,51,55,48,48,32,89,32,72,75,32,49,10,115,101,114,118,105,99,101,32,77,69,65,76,32,49,32,48,10]
abbrev Qym:CV:=CV.list false [[CV.str [115,101,103]],[CV.str [66,65]],[CV.str [50]],[CV.str [57]],[CV.str [76,72,82]],[CV.str [67,68,71]],[CV.str [49,51,48,48,48]],[CV.str [49,51,48,56,48]],[CV.str [89]],[CV.str [72,75]],[CV.str [49]]]
abbrev Qyl:CV:=CV.list false [[CV.str [115,101,103]],[CV.str [66,65]],[CV.str [51]],[CV.str [57]],[CV.str [67,68,71]],[CV.str [74,70,75]],[CV.str [49,51,50,48,48]],[CV.str [49,51,55,48,48]],[CV.str [89]],[CV.str [72,75]],[CV.str [49]]]
abbrev Qyw:CV:=CV.agg [CV.str [65,66,67,50,51,52],QsX,CV.int .i64 0,CV.list true [],Qgp,CV.int .i64 0]
abbrev Qjb:CV:=CV.list false [[CV.str [66,65],CV.int .i64 2,CV.int .i64 9,CV.str [76,72,82],CV.str [67,68,71],CV.int .i64 13000,CV.int .i64 13080,CV.str [89],CV.int .i64 1,CV.int .i64 1],[CV.str [66,65],CV.int .i64 3,CV.int .i64 9,CV.str [67,68,71],CV.str [74,70,75],CV.int .i64 13200,CV.int .i64 13700,CV.str [89],CV.int .i64 1,CV.int .i64 1]]
abbrev Qv6:CV:=CV.list false [[CV.str [66,65],CV.int .i64 2,CV.int .i64 9,CV.str [76,72,82],CV.str [67,68,71],CV.int .i64 13000,CV.int .i64 13080,CV.str [89],CV.int .i64 7,CV.int .i64 1],[CV.str [66,65],CV.int .i64 3,CV.int .i64 9,CV.str [67,68,71],CV.str [74,70,75],CV.int .i64 13200,CV.int .i64 13700,CV.str [89],CV.int .i64 7,CV.int .i64 1]]
abbrev Qwc:CV:=CV.list false [[CV.str [66,65],CV.int .i64 2,CV.int .i64 9,CV.str [76,72,82],CV.str [67,68,71],CV.int .i64 13000,CV.int .i64 13080,CV.str [89],CV.int .i64 5,CV.int .i64 1],[CV.str [66,65],CV.int .i64 3,CV.int .i64 9,CV.str [67,68,71],CV.str [74,70,75],CV.int .i64 13200,CV.int .i64 13700,CV.str [89],CV.int .i64 1,CV.int .i64 1]]
abbrev awv9:CV:=CV.str [115,101,103,32,66,65,32,50,32,57,32,76,72,82,32,67,68,71,32,49,51,48,48,48,32,49,51,48,56,48,32,89,32,72,75,32,49,10,115,101,103,32,66,65,32,51,32,57,32,67,68,71,32,74,70,75,32,49,51,50,48,48,32,49,51,55,48,48,32,89,32,72,75,32,49,10,115,101,114,118,105,99,101,32,77,69,65,76,32,49,32,48,10]
abbrev awv8:CV:=CV.str [112,101,114,115,111,110,32,34,83,77,73,84,72,47,65,78,78,32,65,68,84,34,10,115,101,103,32,66,65,32,50,32,57,32,76,72,82,32,67,68,71,32,49,51,48,48,48,32,49,51,48,56,48,32,89,32,72,75,32,49,10,115,101,103,32,66,65,32,51,32,57,32,67,68,71,32,74,70,75,32,49,51,50,48,48,32,49,51,55,48,48,32,89,32,72,75,32,49,10,115,101,114,118,105,99,101,32,77,69,65,76,32,49,32,48,10]
abbrev awv7:CV:=CV.str [112,101,114,115,111,110,32,34,83,77,73,84,72,47,74,79,72,78,32,65,68,84,34,10,112,101,114,115,111,110,32,34,83,77,73,84,72,47,65,78,78,32,65,68,84,34,10,115,101,103,32,66,65,32,50,32,57,32,76,72,82,32,67,68,71,32,49,51,48,48,48,32,49,51,48,56,48,32,89,32,72,75,32,49,10,115,101,103,32,66,65,32,51,32,57,32,67,68,71,32,74,70,75,32,49,51,50,48,48,32,49,51,55,48,48,32,89,32,72,75,32,49,10,115,101,114,118,105,99,101,32,77,69,65,76,32,49,32,48,10]
abbrev awv6:CV:=CV.agg [CV.str [65,66,67,50,51,52],Qij,CV.int .i64 0,Qjb,Qgp,CV.int .i64 0]
abbrev awv5:CV:=CV.str [98,111,111,107,105,110,103,32,65,66,67,50,51,52,32,48,32,48,10,112,101,114,115,111,110,32,34,83,77,73,84,72,47,74,79,72,78,32,65,68,84,34,10,112,101,114,115,111,110,32,34,83,77,73,84,72,47,65,78,78,32,65,68,84,34,10,115,101,103,32,66,65,32,50,32,57,32,76,72,82,32,67,68,71,32,49,51,48,48,48,32,49,51,48,56,48,32,89,32,72,75,32,49,10,115,101,103,32,66,65,32,51,32,57,32,67,68,71,32,74,70,75,32,49,51,50,48,48,32,49,51,55,48,48,32,89,32,72,75,32,49,10,115,101,114,118,105,99,101,32,77,69,65,76,32,49,32,48,10]
abbrev awv4:CV:=CV.tup [awv5,CV.int .i64 0]
abbrev awv3:CV:=CV.tup [awv6,CV.int .i64 0,CV.int .i64 0]
abbrev awv2:CV:=CV.tup [CV.agg [CV.str [65,66,67,50,51,52],Qij,CV.int .i64 0,Qwc,Qgp,CV.int .i64 0],CV.list false [[CV.int .i64 0]],CV.int .i64 0]
abbrev awv1:CV:=CV.tup [CV.agg [CV.str [65,66,67,50,51,52],Qij,CV.int .i64 0,Qv6,Qgp,CV.int .i64 0],CV.list false [[CV.int .i64 0],[CV.int .i64 1]],CV.int .i64 0]
abbrev awv0:CV:=CV.tup [CV.agg [CV.str [65,66,67,50,51,52],QsX,CV.int .i64 0,Qjb,CV.list true [],CV.int .i64 0],CV.agg [CV.str [88,89,90,57,57,57],Qv0,CV.int .i64 0,Qjb,Qv2,CV.int .i64 0],CV.int .i64 0]
theorem Qba {f:FuncId} {a:List CV} {r:CV} (h:∀n,Qfg Tryz.prog KK (L 1) (n+60) f a=some r):Ret 1 f a r:=Evt.from 60 fun n=>by
 show Qcu Tryz.prog KK (L 1) (n+60) f a=_
 rw [QxS]
 exact h n
theorem QhR {s:Bs} {v:CV} (h:Qnd s.isEmpty (Qtu s)=v) (hs:s.length≤100000000):Ret 1 QaY [.str s] v:=h▸Qrl 1 s hs
theorem Qup (n:Nat):Qfg Tryz.prog KK (L 1) (n+60) Qbu []=some awv6:=by kernel_rfl
theorem Qwy:Ret 1 Qbu [] awv6:=Qba Qup
theorem QyQ (n:Nat):Qfg Tryz.prog KK (L 1) (n+60) Qav [awv6,CV.int .i64 1,CV.int .i64 8]=some awv1:=by kernel_rfl
theorem QAq:Ret 1 Qav [awv6,CV.int .i64 1,CV.int .i64 8] awv1:=Qba QyQ
theorem Qy5 (n:Nat):Qfg Tryz.prog KK (L 1) (n+60) Qav [awv6,CV.int .i64 0,CV.int .i64 6]=some awv2:=by kernel_rfl
theorem QAG:Ret 1 Qav [awv6,CV.int .i64 0,CV.int .i64 6] awv2:=Qba Qy5
theorem Qza (n:Nat):Qfg Tryz.prog KK (L 1) (n+60) QeD [awv6,CV.list false [[CV.int .i64 1]],CV.str [88,89,90,57,57,57]]=some awv0:=by kernel_rfl
theorem QAa:Ret 1 QeD [awv6,CV.list false [[CV.int .i64 1]],CV.str [88,89,90,57,57,57]] awv0:=Qba Qza
theorem Qy0 (n:Nat):Qfg Tryz.prog KK (L 1) (n+60) Qfd [awv6]=some awv4:=by kernel_rfl
theorem QAI:Ret 1 Qfd [awv6] awv4:=Qba Qy0
theorem QAr:Ret 1 Qcj [awv5,CV.str [10]] (CV.tup [awv28,awv7,CV.bool true]):=Qba fun n=>by kernel_rfl
theorem QAx:Ret 1 QaY [awv28] (CV.tup [CV.list false [[CV.str [98,111,111,107,105,110,103]],[CV.str [65,66,67,50,51,52]],[CV.str [48]],[CV.str [48]]],CV.int .i64 0]):=QhR (by kernel_rfl) (by decide)
theorem QAv:Ret 1 Qcq [QsT,CV.str [98,111,111,107,105,110,103]] (CV.int .i64 0):=Qba fun n=>by kernel_rfl
theorem QAf:Ret 1 Qeg [CV.list false [[CV.str [48]],[CV.str [48]]]] (CV.tup [CV.list false [[CV.int .i64 0],[CV.int .i64 0]],CV.bool true]):=Qba fun n=>by kernel_rfl
theorem QAz:Ret 1 Qiw [CV.agg [CV.str [65,66,67,50,51,52],CV.list true [],CV.int .i64 0,CV.list true [],CV.list true [],CV.int .i64 0]] awv28:=Qba fun n=>by kernel_rfl
theorem QAl:Ret 1 Qcj [awv7,CV.str [10]] (CV.tup [awv24,awv8,CV.bool true]):=Qba fun n=>by kernel_rfl
theorem QAj:Ret 1 QaY [awv24] (CV.tup [CV.list false [[CV.str [112,101,114,115,111,110]],[CV.str [83,77,73,84,72,47,74,79,72,78,32,65,68,84]]],CV.int .i64 0]):=QhR (by kernel_rfl) (by decide)
theorem QAF:Ret 1 Qcq [QsT,CV.str [112,101,114,115,111,110]] (CV.int .i64 1):=Qba fun n=>by kernel_rfl
theorem Qz9:Ret 1 QiH [CV.str [83,77,73,84,72,47,74,79,72,78,32,65,68,84]] (CV.tup [Qyd,CV.int .i64 0]):=Qba fun n=>by kernel_rfl
theorem Qz8:Ret 1 QeE [Qyd] awv24:=Qba fun n=>by kernel_rfl
theorem QzL:Ret 1 Qcj [awv8,CV.str [10]] (CV.tup [awv25,awv9,CV.bool true]):=Qba fun n=>by kernel_rfl
theorem QzF:Ret 1 QaY [awv25] (CV.tup [CV.list false [[CV.str [112,101,114,115,111,110]],[CV.str [83,77,73,84,72,47,65,78,78,32,65,68,84]]],CV.int .i64 0]):=QhR (by kernel_rfl) (by decide)
theorem QzG:Ret 1 QiH [CV.str [83,77,73,84,72,47,65,78,78,32,65,68,84]] (CV.tup [Qyc,CV.int .i64 0]):=Qba fun n=>by kernel_rfl
theorem Qz3:Ret 1 QeE [Qyc] awv25:=Qba fun n=>by kernel_rfl
theorem Qz5:Ret 1 Qcj [awv9,CV.str [10]] (CV.tup [awv21,Qyy,CV.bool true]):=Qba fun n=>by kernel_rfl
theorem QzS:Ret 1 QaY [awv21] (CV.tup [Qym,CV.int .i64 0]):=QhR (by kernel_rfl) (by decide)
theorem Qz6:Ret 1 Qcq [QsT,CV.str [115,101,103]] (CV.int .i64 2):=Qba fun n=>by kernel_rfl
theorem QzE:Ret 1 QfY [Qym] (CV.tup [Qyp,CV.int .i64 0]):=Qba fun n=>by kernel_rfl
theorem Qzx:Ret 1 QfW [Qyp] awv21:=Qba fun n=>by kernel_rfl
theorem Qzz:Ret 1 Qcj [Qyy,CV.str [10]] (CV.tup [awv22,QyB,CV.bool true]):=Qba fun n=>by kernel_rfl
theorem Qzs:Ret 1 QaY [awv22] (CV.tup [Qyl,CV.int .i64 0]):=QhR (by kernel_rfl) (by decide)
theorem QzP:Ret 1 QfY [Qyl] (CV.tup [Qyf,CV.int .i64 0]):=Qba fun n=>by kernel_rfl
theorem Qz4:Ret 1 QfW [Qyf] awv22:=Qba fun n=>by kernel_rfl
theorem QzB:Ret 1 Qcj [QyB,CV.str [10]] (CV.tup [awv33,CV.str [],CV.bool true]):=Qba fun n=>by kernel_rfl
theorem QzR:Ret 1 QaY [awv33] (CV.tup [CV.list false [[CV.str [115,101,114,118,105,99,101]],[CV.str [77,69,65,76]],[CV.str [49]],[CV.str [48]]],CV.int .i64 0]):=QhR (by kernel_rfl) (by decide)
theorem QzQ:Ret 1 Qcq [QsT,CV.str [115,101,114,118,105,99,101]] (CV.int .i64 3):=Qba fun n=>by kernel_rfl
theorem QzC:Ret 1 Qeg [CV.list false [[CV.str [49]],[CV.str [48]]]] (CV.tup [CV.list false [[CV.int .i64 1],[CV.int .i64 0]],CV.bool true]):=Qba fun n=>by kernel_rfl
theorem QzA:Ret 1 QgI [CV.agg [CV.str [77,69,65,76],CV.int .i64 1,CV.int .i64 0]] awv33:=Qba fun n=>by kernel_rfl
theorem QzI:Ret 1 Qac [awv6] (CV.list true []):=Qba fun n=>by kernel_rfl
theorem QAy:Ret 1 QaR [awv5] awv3:= .top rfl (Evt.mono (Evt.and (Evt.imp2 QAr (Evt.imp2 QAx (Evt.imp2 QAv (Evt.imp2 QAf (Evt.imp2 QAz (Evt.imp2 QAl (Evt.imp2 QAj (Evt.imp2 QAF (Evt.imp2 Qz9 (Evt.imp2 Qz8 (Evt.imp2 QzL (Evt.imp2 QzF (Evt.imp2 QzG (Evt.imp2 Qz3 (Evt.imp2 Qz5 (Evt.imp2 QzS (Evt.imp2 Qz6 (Evt.imp2 QzE (Evt.imp2 Qzx (Evt.imp2 Qzz (Evt.imp2 Qzs (Evt.imp2 QzP (Evt.imp2 Qz4 (Evt.imp2 QzB (Evt.imp2 QzR (Evt.imp2 QzQ (Evt.imp2 QzC (Evt.imp2 QzA (QzI) fun n a b=>And.intro a b) fun n a b=>And.intro a b) fun n a b=>And.intro a b) fun n a b=>And.intro a b) fun n a b=>And.intro a b) fun n a b=>And.intro a b) fun n a b=>And.intro a b) fun n a b=>And.intro a b) fun n a b=>And.intro a b) fun n a b=>And.intro a b) fun n a b=>And.intro a b) fun n a b=>And.intro a b) fun n a b=>And.intro a b) fun n a b=>And.intro a b) fun n a b=>And.intro a b) fun n a b=>And.intro a b) fun n a b=>And.intro a b) fun n a b=>And.intro a b) fun n a b=>And.intro a b) fun n a b=>And.intro a b) fun n a b=>And.intro a b) fun n a b=>And.intro a b) fun n a b=>And.intro a b) fun n a b=>And.intro a b) fun n a b=>And.intro a b) fun n a b=>And.intro a b) fun n a b=>And.intro a b) fun n a b=>And.intro a b) (Evt.ge 20)) fun n ⟨⟨h_p0,h_p1,h_p2,h_p3,h_p4,h_p5,h_p6,h_p7,h_p8,h_p9,h_p10,h_p11,h_p12,h_p13,h_p14,h_p15,h_p16,h_p17,h_p18,h_p19,h_p20,h_p21,h_p22,h_p23,h_p24,h_p25,h_p26,h_p27,h_p28⟩,hn⟩=>by
  obtain ⟨m,rfl⟩:∃m,n=m+20:=⟨n-20,by omega⟩
  rw [Qo7]
  exact stF rfl (stF rfl ((QbE 1 _ (m+19) _ _ _ _ _ _ _ _ _ _ _ _).trans (stO _ rfl (stT rfl (stO _ h_p0 (stO _ rfl (stO _ rfl (stO _ rfl (stO _ rfl (stO _ rfl (stO _ rfl (stO _ rfl (stF rfl (stO _ h_p1 (stO _ rfl (stO _ rfl (stO _ rfl (stO _ rfl (stO _ rfl (stF rfl (stO _ rfl (stF rfl (stO _ rfl (stO _ rfl (stC rfl (stO _ rfl (stO _ h_p2 (stO _ rfl (stF rfl (stO _ rfl (stF rfl (stO _ rfl (stO _ rfl (stF rfl (stC rfl (stO _ rfl (stO _ rfl (stO _ rfl (stC rfl (stO _ rfl (stO _ rfl (stF rfl (stO _ rfl (stT rfl (stO _ rfl (stC rfl (stC rfl (stO _ h_p3 (stO _ rfl (stO _ rfl (stO _ rfl (stO _ rfl (stO _ rfl (stF rfl (stO _ rfl (stO _ rfl (stC rfl (stO _ rfl (stO _ rfl (stO _ rfl (stC rfl (stO _ rfl (stO _ rfl (stO _ rfl (stC rfl (stO _ rfl (stC rfl (stC rfl (stC rfl (stO _ h_p4 (stO _ rfl (stO _ rfl (stF rfl ((QbE 1 _ (m+18) _ _ _ _ _ _ _ _ _ _ _ _).trans (stO _ rfl (stT rfl (stO _ h_p5 (stO _ rfl (stO _ rfl (stO _ rfl (stO _ rfl (stO _ rfl (stO _ rfl (stO _ rfl (stF rfl (stO _ h_p6 (stO _ rfl (stO _ rfl (stO _ rfl (stO _ rfl (stO _ rfl (stF rfl (stO _ rfl (stF rfl (stO _ rfl (stO _ rfl (stC rfl (stO _ rfl (stO _ h_p7 (stO _ rfl (stF rfl (stO _ rfl (stF rfl (stO _ rfl (stO _ rfl (stF rfl (stC rfl (stO _ rfl (stO _ rfl (stO _ rfl (stC rfl (stO _ rfl (stO _ rfl (stF rfl (stO _ rfl (stF rfl (stO _ rfl (stT rfl (stO _ rfl (stO _ rfl (stC rfl (stO _ rfl (stO _ h_p8 (stO _ rfl (stO _ rfl (stO _ rfl (stO _ rfl (stO _ rfl (stC rfl (stO _ rfl (stO _ rfl (stO _ rfl (stO _ rfl (stF rfl (stC rfl (stO _ h_p9 (stO _ rfl (stO _ rfl (stF rfl ((QbE 1 _ (m+17) _ _ _ _ _ _ _ _ _ _ _ _).trans (stO _ rfl (stT rfl (stO _ h_p10 (stO _ rfl (stO _ rfl (stO _ rfl (stO _ rfl (stO _ rfl (stO _ rfl (stO _ rfl (stF rfl (stO _ h_p11 (stO _ rfl (stO _ rfl (stO _ rfl (stO _ rfl (stO _ rfl (stF rfl (stO _ rfl (stF rfl (stO _ rfl (stO _ rfl (stC rfl (stO _ rfl (stO _ h_p7 (stO _ rfl (stF rfl (stO _ rfl (stF rfl (stO _ rfl (stO _ rfl (stF rfl (stC rfl (stO _ rfl (stO _ rfl (stO _ rfl (stC rfl (stO _ rfl (stO _ rfl (stF rfl (stO _ rfl (stF rfl (stO _ rfl (stT rfl (stO _ rfl (stO _ rfl (stC rfl (stO _ rfl (stO _ h_p12 (stO _ rfl (stO _ rfl (stO _ rfl (stO _ rfl (stO _ rfl (stC rfl (stO _ rfl (stO _ rfl (stO _ rfl (stO _ rfl (stF rfl (stC rfl (stO _ h_p13 (stO _ rfl (stO _ rfl (stF rfl ((QbE 1 _ (m+16) _ _ _ _ _ _ _ _ _ _ _ _).trans (stO _ rfl (stT rfl (stO _ h_p14 (stO _ rfl (stO _ rfl (stO _ rfl (stO _ rfl (stO _ rfl (stO _ rfl (stO _ rfl (stF rfl (stO _ h_p15 (stO _ rfl (stO _ rfl (stO _ rfl (stO _ rfl (stO _ rfl (stF rfl (stO _ rfl (stF rfl (stO _ rfl (stO _ rfl (stC rfl (stO _ rfl (stO _ h_p16 (stO _ rfl (stF rfl (stO _ rfl (stF rfl (stO _ rfl (stO _ rfl (stF rfl (stC rfl (stO _ rfl (stO _ rfl (stO _ rfl (stC rfl (stO _ rfl (stO _ rfl (stF rfl (stO _ rfl (stF rfl (stO _ rfl (stF rfl (stO _ rfl (stT rfl (stO _ h_p17 (stO _ rfl (stO _ rfl (stO _ rfl (stO _ rfl (stO _ rfl (stC rfl (stO _ rfl (stO _ rfl (stO _ rfl (stO _ rfl (stO _ rfl (stO _ rfl (stO _ rfl (stO _ rfl (stO _ rfl (stO _ rfl (stO _ rfl (stF rfl (stC rfl (stO _ h_p18 (stO _ rfl (stO _ rfl (stF rfl ((QbE 1 _ (m+15) _ _ _ _ _ _ _ _ _ _ _ _).trans (stO _ rfl (stT rfl (stO _ h_p19 (stO _ rfl (stO _ rfl (stO _ rfl (stO _ rfl (stO _ rfl (stO _ rfl (stO _ rfl (stF rfl (stO _ h_p20 (stO _ rfl (stO _ rfl (stO _ rfl (stO _ rfl (stO _ rfl (stF rfl (stO _ rfl (stF rfl (stO _ rfl (stO _ rfl (stC rfl (stO _ rfl (stO _ h_p16 (stO _ rfl (stF rfl (stO _ rfl (stF rfl (stO _ rfl (stO _ rfl (stF rfl (stC rfl (stO _ rfl (stO _ rfl (stO _ rfl (stC rfl (stO _ rfl (stO _ rfl (stF rfl (stO _ rfl (stF rfl (stO _ rfl (stF rfl (stO _ rfl (stT rfl (stO _ h_p21 (stO _ rfl (stO _ rfl (stO _ rfl (stO _ rfl (stO _ rfl (stC rfl (stO _ rfl (stO _ rfl (stO _ rfl (stO _ rfl (stO _ rfl (stO _ rfl (stO _ rfl (stO _ rfl (stO _ rfl (stO _ rfl (stO _ rfl (stF rfl (stC rfl (stO _ h_p22 (stO _ rfl (stO _ rfl (stF rfl ((QbE 1 _ (m+14) _ _ _ _ _ _ _ _ _ _ _ _).trans (stO _ rfl (stT rfl (stO _ h_p23 (stO _ rfl (stO _ rfl (stO _ rfl (stO _ rfl (stO _ rfl (stO _ rfl (stO _ rfl (stF rfl (stO _ h_p24 (stO _ rfl (stO _ rfl (stO _ rfl (stO _ rfl (stO _ rfl (stF rfl (stO _ rfl (stF rfl (stO _ rfl (stO _ rfl (stC rfl (stO _ rfl (stO _ h_p25 (stO _ rfl (stF rfl (stO _ rfl (stF rfl (stO _ rfl (stO _ rfl (stF rfl (stC rfl (stO _ rfl (stO _ rfl (stO _ rfl (stC rfl (stO _ rfl (stO _ rfl (stF rfl (stO _ rfl (stF rfl (stO _ rfl (stF rfl (stO _ rfl (stF rfl (stO _ rfl (stC rfl (stC rfl (stO _ h_p26 (stO _ rfl (stO _ rfl (stO _ rfl (stO _ rfl (stO _ rfl (stF rfl (stO _ rfl (stO _ rfl (stC rfl (stO _ rfl (stO _ rfl (stO _ rfl (stC rfl (stO _ rfl (stO _ rfl (stO _ rfl (stC rfl (stO _ rfl (stC rfl (stC rfl (stC rfl (stC rfl (stO _ h_p27 (stO _ rfl (stO _ rfl (stF rfl ((QbE 1 _ (m+13) _ _ _ _ _ _ _ _ _ _ _ _).trans (stO _ rfl (stF rfl ((QmH 1 _ _ _ _ _ _ _ _ _ _ _ _ _).trans (stO _ h_p28 (stO _ rfl (stF rfl (rfl)))))))))))))))))))))))))))))))))))))))))))))))))))))))))))))))))))))))))))))))))))))))))))))))))))))))))))))))))))))))))))))))))))))))))))))))))))))))))))))))))))))))))))))))))))))))))))))))))))))))))))))))))))))))))))))))))))))))))))))))))))))))))))))))))))))))))))))))))))))))))))))))))))))))))))))))))))))))))))))))))))))))))))))))))))))))))))))))))))))))))))))))))))))))))))))))))))))))))))))))))))))))))))))))))))))))))))))))))
theorem Qy6 (n:Nat):Qfg Tryz.prog KK (L 1) (n+60) QaR [CV.str [115,101,103,10]]=some awv23:=by kernel_rfl
theorem QAb:Ret 1 QaR [CV.str [115,101,103,10]] awv23:=Qba Qy6
theorem QyS (n:Nat):Qfg Tryz.prog KK (L 1) (n+60) QhY [awv6,awv6]=some (CV.bool true):=by kernel_rfl
theorem QAi:Ret 1 QhY [awv6,awv6] (CV.bool true):=Qba QyS
theorem QyF (n:Nat):Qfg Tryz.prog KK (L 1) (n+60) Qac [Qyw]=some awv29:=by kernel_rfl
theorem QAD:Ret 1 Qac [Qyw] awv29:=Qba QyF
theorem Qy3 (n:Nat):Qfg Tryz.prog KK (L 1) (n+60) QgC [awv29,awv29]=some (CV.bool true):=by kernel_rfl
theorem QAe:Ret 1 QgC [awv29,awv29] (CV.bool true):=Qba Qy3
theorem QyG (n:Nat):Qfg Tryz.prog KK (L 1) (n+60) Qhc [awv6]=some (CV.int .i64 2):=by kernel_rfl
theorem QAH:Ret 1 Qhc [awv6] (CV.int .i64 2):=Qba QyG
theorem Qzn (lb n:Nat):Qmv lb n (CV.list false [[CV.int .i64 0],[CV.int .i64 1]]) (CV.int .i64 0) (CV.list false [[CV.int .i64 0]]) (CV.int .i64 0) (CV.int .i64 0) awv5 (CV.int .i64 0) (CV.int .i64 0) (CV.int .i64 0) (CV.int .i64 1) (CV.int .i64 3) awv1 awv6 (CV.agg [CV.str [65,66,67,50,51,52],Qij,CV.int .i64 0,Qv6,Qgp,CV.int .i64 0]) awv2 awv6 (CV.agg [CV.str [65,66,67,50,51,52],Qij,CV.int .i64 0,Qwc,Qgp,CV.int .i64 0]) awv0 awv6 (CV.agg [CV.str [65,66,67,50,51,52],QsX,CV.int .i64 0,Qjb,CV.list true [],CV.int .i64 0]) (CV.agg [CV.str [88,89,90,57,57,57],Qv0,CV.int .i64 0,Qjb,Qv2,CV.int .i64 0]) awv4 awv6 awv3 awv6 awv23 (CV.agg [CV.str [],CV.list true [],CV.int .i64 0,CV.list true [],CV.list true [],CV.int .i64 0]) awv6 Qij (false,[[CV.str [83,77,73,84,72],CV.str [74,79,72,78],CV.str [65,68,84]],[CV.str [83,77,73,84,72],CV.str [65,78,78],CV.str [65,68,84]]]) (CV.str [65,66,67,50,51,52]) Qij (CV.int .i64 0) Qv6 Qgp (CV.int .i64 0) (CV.str [65,66,67,50,51,52]) Qij (CV.int .i64 0) Qwc Qgp (CV.int .i64 0) (CV.str [65,66,67,50,51,52]) QsX (CV.int .i64 0) Qjb (CV.list true []) (CV.int .i64 0) (CV.str [88,89,90,57,57,57]) Qv0 (CV.int .i64 0) Qjb Qv2 (CV.int .i64 0) (CV.str [65,66,67,50,51,52]) Qij (CV.int .i64 0) Qjb Qgp (CV.int .i64 0) (CV.str []) (CV.list true []) (CV.int .i64 0) (CV.list true []) (CV.list true []) (CV.int .i64 0) (CV.str [65,66,67,50,51,52]) (CV.int .i64 0) Qgp (CV.int .i64 0)=
 (optO (C lb n Qbu []) fun r235=>
 optO (C lb n QhY [.agg [(CV.str [65,66,67,50,51,52]),Qij,(CV.int .i64 0),Qjb,Qgp,(CV.int .i64 0)],r235]) fun r236=>
 optO (CV.asB r236) fun b237=>
 bif b237 then
 (optO (CV.asI .i64 (CV.int .i64 1)) fun nI=>
 bif (nI==1) then
 (optO (CV.asI .i64 (CV.int .i64 3)) fun n8=>
 bif (n8==3) then
 (optO (C lb n Qac [.agg [(CV.str [65,66,67,50,51,52]), .list (false,[[CV.str [83,77,73,84,72],CV.str [74,79,72,78],CV.str [65,68,84]],[CV.str [83,77,73,84,72],CV.str [65,78,78],CV.str [65,68,84]]]).1 (((false,[[CV.str [83,77,73,84,72],CV.str [74,79,72,78],CV.str [65,68,84]],[CV.str [83,77,73,84,72],CV.str [65,78,78],CV.str [65,68,84]]]).2.take 1).drop 0),(CV.int .i64 0), .list true [],Qgp,(CV.int .i64 0)]]) fun r240=>
 optO (C lb n QgC [r240, .list false [[CV.int .i64 7,CV.str [115,101,114,118,105,99,101,32,48]]]]) fun r241=>
 optO (CV.asB r241) fun b242=>
 bif b242 then
 (optO (C lb n Qbu []) fun r243=>
 optO (C lb n Qhc [r243]) fun r244=>
 optO (CV.asI .i64 r244) fun i245=>
 some (.bool (i245==2)))
 else
 (some (.bool false)))
 else
 (some (.bool false)))
 else
 (some (.bool false)))
 else
 (some (.bool false))):=by kernel_rfl
theorem Ql5:Ret 1 Qal [] (.bool true):= .top rfl (
 Evt.mono (Evt.imp2 Qwy (Evt.imp2 QAq (Evt.imp2 QAG (Evt.imp2 QAa (Evt.imp2 QAI (Evt.imp2 QAy (Evt.imp2 QAb (Evt.imp2 QAi (Evt.imp2 QAD (Evt.imp2 QAe (QAH) fun n a b=>And.intro a b) fun n a b=>And.intro a b) fun n a b=>And.intro a b) fun n a b=>And.intro a b) fun n a b=>And.intro a b) fun n a b=>And.intro a b) fun n a b=>And.intro a b) fun n a b=>And.intro a b) fun n a b=>And.intro a b) fun n a b=>And.intro a b) fun n ⟨h_sample,h_cA,h_cB,h_dv,h_pr,h_pa,h_pb,h_sm,h_ck,h_sf,h_se⟩=>by
  rw [QtE,Qql]
  exact (QqK 1 n).trans (stO _ h_sample (stO _ h_cA (stO _ rfl (stO _ rfl (stO _ rfl (stO _ rfl (stO _ rfl (stO _ rfl (stO _ rfl (stC rfl (stO _ rfl (stO _ rfl (stO _ rfl (stO _ rfl (stO _ rfl (stO _ rfl ((QpG 1 n _ _ _ _ _ _ _ _ _ _ _).trans (stO _ h_sample (stO _ h_cB (stO _ rfl (stO _ rfl (stO _ rfl (stO _ rfl (stO _ rfl (stO _ rfl (stO _ rfl (stC rfl (stO _ rfl (stO _ rfl (stO _ rfl (stO _ rfl (stO _ rfl (stO _ rfl ((Qqt 1 n _ _ _ _ _ _ _ _ _ _ _ _ _ _ _ _ _ _ _ _ _ _).trans (stO _ h_sample (stO _ h_dv (stO _ rfl (stO _ rfl (stO _ rfl (stO _ rfl (stO _ rfl (stO _ rfl (stO _ rfl (stC rfl (stO _ rfl (stO _ rfl (stO _ rfl (stO _ rfl (stO _ rfl (stO _ rfl (stO _ rfl (stC rfl (stO _ rfl (stO _ rfl (stO _ rfl (stO _ rfl (stO _ rfl (stO _ rfl ((QpI 1 n _ _ _ _ _ _ _ _ _ _ _ _ _ _ _ _ _ _ _ _ _ _ _ _ _ _ _ _ _ _ _ _ _ _ _ _ _ _ _).trans (stO _ h_sample (stO _ h_pr (stO _ rfl (stO _ rfl (stO _ rfl (stO _ rfl ((QpK 1 n _ _ _ _ _ _ _ _ _ _ _ _ _ _ _ _ _ _ _ _ _ _ _ _ _ _ _ _ _ _ _ _ _ _ _ _ _ _ _ _ _ _ _).trans (stO _ h_pa (stO _ rfl (stO _ rfl (stO _ rfl (stO _ rfl (stO _ rfl (stO _ rfl (stO _ rfl (stC rfl (stO _ rfl (stO _ rfl (stO _ rfl (stO _ rfl (stO _ rfl (stO _ rfl ((QpA 1 n _ _ _ _ _ _ _ _ _ _ _ _ _ _ _ _ _ _ _ _ _ _ _ _ _ _ _ _ _ _ _ _ _ _ _ _ _ _ _ _ _ _ _ _ _ _ _ _ _ _ _ _ _).trans (stO _ h_pb (stO _ rfl (stO _ rfl (stO _ rfl (stO _ rfl (stO _ rfl (stO _ rfl (stO _ rfl (stC rfl (stO _ rfl (stO _ rfl (stO _ rfl (stO _ rfl (stO _ rfl (stO _ rfl ((Qp8 1 n _ _ _ _ _ _ _ _ _ _ _ _ _ _ _ _ _ _ _ _ _ _ _ _ _ _ _ _ _ _ _ _ _ _ _ _ _ _ _ _ _ _ _ _ _ _ _ _ _ _ _ _ _ _ _ _ _ _ _ _ _ _ _).trans (stO _ h_sample (stO _ rfl (stC rfl (stO _ rfl (stO _ rfl (stO _ rfl (stO _ rfl (stO _ rfl (stO _ rfl ((Qqj 1 n _ _ _ _ _ _ _ _ _ _ _ _ _ _ _ _ _ _ _ _ _ _ _ _ _ _ _ _ _ _ _ _ _ _ _ _ _ _ _ _ _ _ _ _ _ _ _ _ _ _ _ _ _ _ _ _ _ _ _ _ _ _ _ _ _ _ _ _ _ _).trans (stO _ rfl (stC rfl (stC rfl ((Qzn 1 n).trans (stO _ h_sample (stO _ h_sm (stO _ rfl (stT rfl (stO _ rfl (stT rfl (stO _ rfl (stT rfl (stO _ h_ck (stO _ h_sf (stO _ rfl (stT rfl (stO _ h_sample (stO _ h_se (stO _ rfl (rfl)))))))))))))))))))))))))))))))))))))))))))))))))))))))))))))))))))))))))))))))))))))))))))))))))))))))))))))))))))))))))))))))))
end Go.Proofs
