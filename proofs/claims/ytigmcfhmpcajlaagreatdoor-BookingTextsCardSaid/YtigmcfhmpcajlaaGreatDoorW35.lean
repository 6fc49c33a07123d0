/- awake of chapter 35 answers true: each of its calls is run in the kernel. Conditions: none. -/
import Derived.Test.YtigmcfhmpcajlaaGreatDoorNh
import Derived.Test.YtigmcfhmpcajlaaGreatDoorRet
import Derived.Test.YtigmcfhmpcajlaaGreatDoorGw
import Derived.Test.YtigmcfhmpcajlaaGreatDoorGp
import Derived.Test.YtigmcfhmpcajlaaGreatDoorRA
namespace Go.Proofs
open Go.Am
set_option maxRecDepth 100000
abbrev Qgj : CV := CV.list false [[CV.str [77,69,65,76],CV.int .i64 1,CV.int .i64 0]]
abbrev Qwq : CV := CV.list false [[CV.str [77,69,65,76],CV.int .i64 0,CV.int .i64 0]]
abbrev awv33 : CV := CV.str [115,101,114,118,105,99,101,32,77,69,65,76,32,49,32,48]
abbrev Qy3 : CV := CV.agg [CV.str [83,77,73,84,72],CV.str [65,78,78],CV.str [65,68,84]]
abbrev QyH : CV := CV.str [115,101,114,118,105,99,101,32,77,69,65,76,32,49,32,48,10]
abbrev awv29 : CV := CV.list false [[CV.int .i64 7,CV.str [115,101,114,118,105,99,101,32,48]]]
abbrev QyI : CV := CV.agg [CV.str [83,77,73,84,72],CV.str [74,79,72,78],CV.str [65,68,84]]
abbrev awv28 : CV := CV.str [98,111,111,107,105,110,103,32,65,66,67,50,51,52,32,48,32,48]
abbrev QvR : CV := CV.list false [[CV.str [83,77,73,84,72],CV.str [65,78,78],CV.str [65,68,84]]]
abbrev Qs1 : CV := CV.list false [[CV.str [83,77,73,84,72],CV.str [74,79,72,78],CV.str [65,68,84]]]
abbrev awv25 : CV := CV.str [112,101,114,115,111,110,32,34,83,77,73,84,72,47,65,78,78,32,65,68,84,34]
abbrev awv24 : CV := CV.str [112,101,114,115,111,110,32,34,83,77,73,84,72,47,74,79,72,78,32,65,68,84,34]
abbrev awv23 : CV := CV.tup [CV.agg [CV.str [],CV.list true [],CV.int .i64 0,CV.list true [],CV.list true [],CV.int .i64 0],CV.int .i64 1,CV.int .i64 3]
abbrev awv21 : CV := CV.str [115,101,103,32,66,65,32,50,32,57,32,76,72,82,32,67,68,71,32,49,51,48,48,48,32,49,51,48,56,48,32,89,32,72,75,32,49]
abbrev awv22 : CV := CV.str [115,101,103,32,66,65,32,51,32,57,32,67,68,71,32,74,70,75,32,49,51,50,48,48,32,49,51,55,48,48,32,89,32,72,75,32,49]
abbrev Qib : CV := CV.list false [[CV.str [83,77,73,84,72],CV.str [74,79,72,78],CV.str [65,68,84]],[CV.str [83,77,73,84,72],CV.str [65,78,78],CV.str [65,68,84]]]
abbrev Qs5 : CV := CV.list false [[CV.str [98,111,111,107,105,110,103]],[CV.str [112,101,114,115,111,110]],[CV.str [115,101,103]],[CV.str [115,101,114,118,105,99,101]]]
abbrev Qy0 : CV := CV.agg [CV.str [66,65],CV.int .i64 2,CV.int .i64 9,CV.str [76,72,82],CV.str [67,68,71],CV.int .i64 13000,CV.int .i64 13080,CV.str [89],CV.int .i64 1,CV.int .i64 1]
abbrev Qza : CV := CV.agg [CV.str [66,65],CV.int .i64 3,CV.int .i64 9,CV.str [67,68,71],CV.str [74,70,75],CV.int .i64 13200,CV.int .i64 13700,CV.str [89],CV.int .i64 1,CV.int .i64 1]
abbrev Qy5 : CV := CV.str [115,101,103,32,66,65,32,51,32,57,32,67,68,71,32,74,70,75,32,49,51,50,48,48,32,49,51,55,48,48,32,89,32,72,75,32,49,10,115,101,114,118,105,99,101,32,77,69,65,76,32,49,32,48,10]
abbrev QyR : CV := CV.list false [[CV.str [115,101,103]],[CV.str [66,65]],[CV.str [50]],[CV.str [57]],[CV.str [76,72,82]],[CV.str [67,68,71]],[CV.str [49,51,48,48,48]],[CV.str [49,51,48,56,48]],[CV.str [89]],[CV.str [72,75]],[CV.str [49]]]
abbrev Qy1 : CV := CV.list false [[CV.str [115,101,103]],[CV.str [66,65]],[CV.str [51]],[CV.str [57]],[CV.str [67,68,71]],[CV.str [74,70,75]],[CV.str [49,51,50,48,48]],[CV.str [49,51,55,48,48]],[CV.str [89]],[CV.str [72,75]],[CV.str [49]]]
abbrev QyN : CV := CV.agg [CV.str [65,66,67,50,51,52],Qs1,CV.int .i64 0,CV.list true [],Qgj,CV.int .i64 0]
abbrev Qi7 : CV := CV.list false [[CV.str [66,65],CV.int .i64 2,CV.int .i64 9,CV.str [76,72,82],CV.str [67,68,71],CV.int .i64 13000,CV.int .i64 13080,CV.str [89],CV.int .i64 1,CV.int .i64 1],[CV.str [66,65],CV.int .i64 3,CV.int .i64 9,CV.str [67,68,71],CV.str [74,70,75],CV.int .i64 13200,CV.int .i64 13700,CV.str [89],CV.int .i64 1,CV.int .i64 1]]
abbrev QvU : CV := CV.list false [[CV.str [66,65],CV.int .i64 2,CV.int .i64 9,CV.str [76,72,82],CV.str [67,68,71],CV.int .i64 13000,CV.int .i64 13080,CV.str [89],CV.int .i64 7,CV.int .i64 1],[CV.str [66,65],CV.int .i64 3,CV.int .i64 9,CV.str [67,68,71],CV.str [74,70,75],CV.int .i64 13200,CV.int .i64 13700,CV.str [89],CV.int .i64 7,CV.int .i64 1]]
abbrev Qwk : CV := CV.list false [[CV.str [66,65],CV.int .i64 2,CV.int .i64 9,CV.str [76,72,82],CV.str [67,68,71],CV.int .i64 13000,CV.int .i64 13080,CV.str [89],CV.int .i64 5,CV.int .i64 1],[CV.str [66,65],CV.int .i64 3,CV.int .i64 9,CV.str [67,68,71],CV.str [74,70,75],CV.int .i64 13200,CV.int .i64 13700,CV.str [89],CV.int .i64 1,CV.int .i64 1]]
abbrev awv9 : CV := CV.str [115,101,103,32,66,65,32,50,32,57,32,76,72,82,32,67,68,71,32,49,51,48,48,48,32,49,51,48,56,48,32,89,32,72,75,32,49,10,115,101,103,32,66,65,32,51,32,57,32,67,68,71,32,74,70,75,32,49,51,50,48,48,32,49,51,55,48,48,32,89,32,72,75,32,49,10,115,101,114,118,105,99,101,32,77,69,65,76,32,49,32,48,10]
abbrev awv8 : CV := CV.str [112,101,114,115,111,110,32,34,83,77,73,84,72,47,65,78,78,32,65,68,84,34,10,115,101,103,32,66,65,32,50,32,57,32,76,72,82,32,67,68,71,32,49,51,48,48,48,32,49,51,48,56,48,32,89,32,72,75,32,49,10,115,101,103,32,66,65,32,51,32,57,32,67,68,71,32,74,70,75,32,49,51,50,48,48,32,49,51,55,48,48,32,89,32,72,75,32,49,10,115,101,114,118,105,99,101,32,77,69,65,76,32,49,32,48,10]
abbrev awv7 : CV := CV.str [112,101,114,115,111,110,32,34,83,77,73,84,72,47,74,79,72,78,32,65,68,84,34,10,112,101,114,115,111,110,32,34,83,77,73,84,72,47,65,78,78,32,65,68,84,34,10,115,101,103,32,66,65,32,50,32,57,32,76,72,82,32,67,68,71,32,49,51,48,48,48,32,49,51,48,56,48,32,89,32,72,75,32,49,10,115,101,103,32,66,65,32,51,32,57,32,67,68,71,32,74,70,75,32,49,51,50,48,48,32,49,51,55,48,48,32,89,32,72,75,32,49,10,115,101,114,118,105,99,101,32,77,69,65,76,32,49,32,48,10]
abbrev awv6 : CV := CV.agg [CV.str [65,66,67,50,51,52],Qib,CV.int .i64 0,Qi7,Qgj,CV.int .i64 0]
abbrev awv5 : CV := CV.str [98,111,111,107,105,110,103,32,65,66,67,50,51,52,32,48,32,48,10,112,101,114,115,111,110,32,34,83,77,73,84,72,47,74,79,72,78,32,65,68,84,34,10,112,101,114,115,111,110,32,34,83,77,73,84,72,47,65,78,78,32,65,68,84,34,10,115,101,103,32,66,65,32,50,32,57,32,76,72,82,32,67,68,71,32,49,51,48,48,48,32,49,51,48,56,48,32,89,32,72,75,32,49,10,115,101,103,32,66,65,32,51,32,57,32,67,68,71,32,74,70,75,32,49,51,50,48,48,32,49,51,55,48,48,32,89,32,72,75,32,49,10,115,101,114,118,105,99,101,32,77,69,65,76,32,49,32,48,10]
abbrev awv4 : CV := CV.tup [awv5,CV.int .i64 0]
abbrev awv3 : CV := CV.tup [awv6,CV.int .i64 0,CV.int .i64 0]
abbrev awv2 : CV := CV.tup [CV.agg [CV.str [65,66,67,50,51,52],Qib,CV.int .i64 0,Qwk,Qgj,CV.int .i64 0],CV.list false [[CV.int .i64 0]],CV.int .i64 0]
abbrev awv1 : CV := CV.tup [CV.agg [CV.str [65,66,67,50,51,52],Qib,CV.int .i64 0,QvU,Qgj,CV.int .i64 0],CV.list false [[CV.int .i64 0],[CV.int .i64 1]],CV.int .i64 0]
abbrev awv0 : CV := CV.tup [CV.agg [CV.str [65,66,67,50,51,52],Qs1,CV.int .i64 0,Qi7,CV.list true [],CV.int .i64 0],CV.agg [CV.str [88,89,90,57,57,57],QvR,CV.int .i64 0,Qi7,Qwq,CV.int .i64 0],CV.int .i64 0]
theorem Qbe {f : FuncId} {a : List CV} {r : CV} (h : ∀ n,Qfa Tryz.prog KK (L 1) (n + 60) f a = some r) : Ret 1 f a r := Evt.from 60 fun n => by
 show Qdj Tryz.prog KK (L 1) (n + 60) f a = _
 rw [QxM]
 exact h n
theorem QhS {s : Bs} {v : CV} (h : QkN s.isEmpty (QbS s) = v) (hs : s.length ≤ 100000000) : Ret 1 Qa4 [.str s] v := h ▸ Qa0 1 s hs
theorem QuJ (n : Nat) : Qfa Tryz.prog KK (L 1) (n + 60) Qbw [] = some awv6 := by kernel_rfl
theorem Qxe : Ret 1 Qbw [] awv6 := Qbe QuJ
theorem QzP (n : Nat) : Qfa Tryz.prog KK (L 1) (n + 60) QbW [awv6,CV.int .i64 1,CV.int .i64 8] = some awv1 := by kernel_rfl
theorem QAZ : Ret 1 QbW [awv6,CV.int .i64 1,CV.int .i64 8] awv1 := Qbe QzP
theorem QzH (n : Nat) : Qfa Tryz.prog KK (L 1) (n + 60) QbW [awv6,CV.int .i64 0,CV.int .i64 6] = some awv2 := by kernel_rfl
theorem QBo : Ret 1 QbW [awv6,CV.int .i64 0,CV.int .i64 6] awv2 := Qbe QzH
theorem QzT (n : Nat) : Qfa Tryz.prog KK (L 1) (n + 60) QeD [awv6,CV.list false [[CV.int .i64 1]],CV.str [88,89,90,57,57,57]] = some awv0 := by kernel_rfl
theorem QBe : Ret 1 QeD [awv6,CV.list false [[CV.int .i64 1]],CV.str [88,89,90,57,57,57]] awv0 := Qbe QzT
theorem QzQ (n : Nat) : Qfa Tryz.prog KK (L 1) (n + 60) Qan [awv6] = some awv4 := by kernel_rfl
theorem QAT : Ret 1 Qan [awv6] awv4 := Qbe QzQ
theorem QBf : Ret 1 QbM [awv5,CV.str [10]] (CV.tup [awv28,awv7,CV.bool true]) := Qbe fun n => by kernel_rfl
theorem QBk : Ret 1 Qa4 [awv28] (CV.tup [CV.list false [[CV.str [98,111,111,107,105,110,103]],[CV.str [65,66,67,50,51,52]],[CV.str [48]],[CV.str [48]]],CV.int .i64 0]) := QhS (by kernel_rfl) (by decide)
theorem QBl : Ret 1 Qax [Qs5,CV.str [98,111,111,107,105,110,103]] (CV.int .i64 0) := Qbe fun n => by kernel_rfl
theorem QBn : Ret 1 QaR [CV.list false [[CV.str [48]],[CV.str [48]]]] (CV.tup [CV.list false [[CV.int .i64 0],[CV.int .i64 0]],CV.bool true]) := Qbe fun n => by kernel_rfl
theorem QA2 : Ret 1 Qcw [CV.agg [CV.str [65,66,67,50,51,52],CV.list true [],CV.int .i64 0,CV.list true [],CV.list true [],CV.int .i64 0]] awv28 := Qbe fun n => by kernel_rfl
theorem QAN : Ret 1 QbM [awv7,CV.str [10]] (CV.tup [awv24,awv8,CV.bool true]) := Qbe fun n => by kernel_rfl
theorem QA4 : Ret 1 Qa4 [awv24] (CV.tup [CV.list false [[CV.str [112,101,114,115,111,110]],[CV.str [83,77,73,84,72,47,74,79,72,78,32,65,68,84]]],CV.int .i64 0]) := QhS (by kernel_rfl) (by decide)
theorem QA7 : Ret 1 Qax [Qs5,CV.str [112,101,114,115,111,110]] (CV.int .i64 1) := Qbe fun n => by kernel_rfl
theorem QAQ : Ret 1 QeM [CV.str [83,77,73,84,72,47,74,79,72,78,32,65,68,84]] (CV.tup [QyI,CV.int .i64 0]) := Qbe fun n => by kernel_rfl
theorem QBi : Ret 1 QbJ [QyI] awv24 := Qbe fun n => by kernel_rfl
theorem Qz6 : Ret 1 QbM [awv8,CV.str [10]] (CV.tup [awv25,awv9,CV.bool true]) := Qbe fun n => by kernel_rfl
theorem QAd : Ret 1 Qa4 [awv25] (CV.tup [CV.list false [[CV.str [112,101,114,115,111,110]],[CV.str [83,77,73,84,72,47,65,78,78,32,65,68,84]]],CV.int .i64 0]) := QhS (by kernel_rfl) (by decide)
theorem QAu : Ret 1 QeM [CV.str [83,77,73,84,72,47,65,78,78,32,65,68,84]] (CV.tup [Qy3,CV.int .i64 0]) := Qbe fun n => by kernel_rfl
theorem QAk : Ret 1 QbJ [Qy3] awv25 := Qbe fun n => by kernel_rfl
theorem Qz9 : Ret 1 QbM [awv9,CV.str [10]] (CV.tup [awv21,Qy5,CV.bool true]) := Qbe fun n => by kernel_rfl
theorem QAG : Ret 1 Qa4 [awv21] (CV.tup [QyR,CV.int .i64 0]) := QhS (by kernel_rfl) (by decide)
theorem QAD : Ret 1 Qax [Qs5,CV.str [115,101,103]] (CV.int .i64 2) := Qbe fun n => by kernel_rfl
theorem QAm : Ret 1 Qdr [QyR] (CV.tup [Qy0,CV.int .i64 0]) := Qbe fun n => by kernel_rfl
theorem QAF : Ret 1 Qca [Qy0] awv21 := Qbe fun n => by kernel_rfl
theorem QAj : Ret 1 QbM [Qy5,CV.str [10]] (CV.tup [awv22,QyH,CV.bool true]) := Qbe fun n => by kernel_rfl
theorem QAc : Ret 1 Qa4 [awv22] (CV.tup [Qy1,CV.int .i64 0]) := QhS (by kernel_rfl) (by decide)
theorem QAL : Ret 1 Qdr [Qy1] (CV.tup [Qza,CV.int .i64 0]) := Qbe fun n => by kernel_rfl
theorem Qz8 : Ret 1 Qca [Qza] awv22 := Qbe fun n => by kernel_rfl
theorem QAf : Ret 1 QbM [QyH,CV.str [10]] (CV.tup [awv33,CV.str [],CV.bool true]) := Qbe fun n => by kernel_rfl
theorem QAJ : Ret 1 Qa4 [awv33] (CV.tup [CV.list false [[CV.str [115,101,114,118,105,99,101]],[CV.str [77,69,65,76]],[CV.str [49]],[CV.str [48]]],CV.int .i64 0]) := QhS (by kernel_rfl) (by decide)
theorem Qz7 : Ret 1 Qax [Qs5,CV.str [115,101,114,118,105,99,101]] (CV.int .i64 3) := Qbe fun n => by kernel_rfl
theorem QAK : Ret 1 QaR [CV.list false [[CV.str [49]],[CV.str [48]]]] (CV.tup [CV.list false [[CV.int .i64 1],[CV.int .i64 0]],CV.bool true]) := Qbe fun n => by kernel_rfl
theorem QAy : Ret 1 QbV [CV.agg [CV.str [77,69,65,76],CV.int .i64 1,CV.int .i64 0]] awv33 := Qbe fun n => by kernel_rfl
theorem QAn : Ret 1 Qaa [awv6] (CV.list true []) := Qbe fun n => by kernel_rfl
theorem QBh : Ret 1 QaM [awv5] awv3 := .top rfl (Evt.mono (Evt.and (Evt.imp2 QBf (Evt.imp2 QBk (Evt.imp2 QBl (Evt.imp2 QBn (Evt.imp2 QA2 (Evt.imp2 QAN (Evt.imp2 QA4 (Evt.imp2 QA7 (Evt.imp2 QAQ (Evt.imp2 QBi (Evt.imp2 Qz6 (Evt.imp2 QAd (Evt.imp2 QAu (Evt.imp2 QAk (Evt.imp2 Qz9 (Evt.imp2 QAG (Evt.imp2 QAD (Evt.imp2 QAm (Evt.imp2 QAF (Evt.imp2 QAj (Evt.imp2 QAc (Evt.imp2 QAL (Evt.imp2 Qz8 (Evt.imp2 QAf (Evt.imp2 QAJ (Evt.imp2 Qz7 (Evt.imp2 QAK (Evt.imp2 QAy (QAn) fun n a b => And.intro a b) fun n a b => And.intro a b) fun n a b => And.intro a b) fun n a b => And.intro a b) fun n a b => And.intro a b) fun n a b => And.intro a b) fun n a b => And.intro a b) fun n a b => And.intro a b) fun n a b => And.intro a b) fun n a b => And.intro a b) fun n a b => And.intro a b) fun n a b => And.intro a b) fun n a b => And.intro a b) fun n a b => And.intro a b) fun n a b => And.intro a b) fun n a b => And.intro a b) fun n a b => And.intro a b) fun n a b => And.intro a b) fun n a b => And.intro a b) fun n a b => And.intro a b) fun n a b => And.intro a b) fun n a b => And.intro a b) fun n a b => And.intro a b) fun n a b => And.intro a b) fun n a b => And.intro a b) fun n a b => And.intro a b) fun n a b => And.intro a b) fun n a b => And.intro a b) (Evt.ge 20)) fun n ⟨⟨h_p0,h_p1,h_p2,h_p3,h_p4,h_p5,h_p6,h_p7,h_p8,h_p9,h_p10,h_p11,h_p12,h_p13,h_p14,h_p15,h_p16,h_p17,h_p18,h_p19,h_p20,h_p21,h_p22,h_p23,h_p24,h_p25,h_p26,h_p27,h_p28⟩,hn⟩ => by
  obtain ⟨m,rfl⟩ : ∃ m,n = m + 20 := ⟨n - 20,by omega⟩
  rw [QeA]
  exact stF rfl (stF rfl ((Qal 1 _ (m + 19) _ _ _ _ _ _ _ _ _ _ _ _).trans (stO _ rfl (stT rfl (stO _ h_p0 (stO _ rfl (stO _ rfl (stO _ rfl (stO _ rfl (stO _ rfl (stO _ rfl (stO _ rfl (stF rfl (stO _ h_p1 (stO _ rfl (stO _ rfl (stO _ rfl (stO _ rfl (stO _ rfl (stF rfl (stO _ rfl (stF rfl (stO _ rfl (stO _ rfl (stC rfl (stO _ rfl (stO _ h_p2 (stO _ rfl (stF rfl (stO _ rfl (stF rfl (stO _ rfl (stO _ rfl (stF rfl (stC rfl (stO _ rfl (stO _ rfl (stO _ rfl (stC rfl (stO _ rfl (stO _ rfl (stF rfl (stO _ rfl (stT rfl (stO _ rfl (stC rfl (stC rfl (stO _ h_p3 (stO _ rfl (stO _ rfl (stO _ rfl (stO _ rfl (stO _ rfl (stF rfl (stO _ rfl (stO _ rfl (stC rfl (stO _ rfl (stO _ rfl (stO _ rfl (stC rfl (stO _ rfl (stO _ rfl (stO _ rfl (stC rfl (stO _ rfl (stC rfl (stC rfl (stC rfl (stO _ h_p4 (stO _ rfl (stO _ rfl (stF rfl ((Qal 1 _ (m + 18) _ _ _ _ _ _ _ _ _ _ _ _).trans (stO _ rfl (stT rfl (stO _ h_p5 (stO _ rfl (stO _ rfl (stO _ rfl (stO _ rfl (stO _ rfl (stO _ rfl (stO _ rfl (stF rfl (stO _ h_p6 (stO _ rfl (stO _ rfl (stO _ rfl (stO _ rfl (stO _ rfl (stF rfl (stO _ rfl (stF rfl (stO _ rfl (stO _ rfl (stC rfl (stO _ rfl (stO _ h_p7 (stO _ rfl (stF rfl (stO _ rfl (stF rfl (stO _ rfl (stO _ rfl (stF rfl (stC rfl (stO _ rfl (stO _ rfl (stO _ rfl (stC rfl (stO _ rfl (stO _ rfl (stF rfl (stO _ rfl (stF rfl (stO _ rfl (stT rfl (stO _ rfl (stO _ rfl (stC rfl (stO _ rfl (stO _ h_p8 (stO _ rfl (stO _ rfl (stO _ rfl (stO _ rfl (stO _ rfl (stC rfl (stO _ rfl (stO _ rfl (stO _ rfl (stO _ rfl (stF rfl (stC rfl (stO _ h_p9 (stO _ rfl (stO _ rfl (stF rfl ((Qal 1 _ (m + 17) _ _ _ _ _ _ _ _ _ _ _ _).trans (stO _ rfl (stT rfl (stO _ h_p10 (stO _ rfl (stO _ rfl (stO _ rfl (stO _ rfl (stO _ rfl (stO _ rfl (stO _ rfl (stF rfl (stO _ h_p11 (stO _ rfl (stO _ rfl (stO _ rfl (stO _ rfl (stO _ rfl (stF rfl (stO _ rfl (stF rfl (stO _ rfl (stO _ rfl (stC rfl (stO _ rfl (stO _ h_p7 (stO _ rfl (stF rfl (stO _ rfl (stF rfl (stO _ rfl (stO _ rfl (stF rfl (stC rfl (stO _ rfl (stO _ rfl (stO _ rfl (stC rfl (stO _ rfl (stO _ rfl (stF rfl (stO _ rfl (stF rfl (stO _ rfl (stT rfl (stO _ rfl (stO _ rfl (stC rfl (stO _ rfl (stO _ h_p12 (stO _ rfl (stO _ rfl (stO _ rfl (stO _ rfl (stO _ rfl (stC rfl (stO _ rfl (stO _ rfl (stO _ rfl (stO _ rfl (stF rfl (stC rfl (stO _ h_p13 (stO _ rfl (stO _ rfl (stF rfl ((Qal 1 _ (m + 16) _ _ _ _ _ _ _ _ _ _ _ _).trans (stO _ rfl (stT rfl (stO _ h_p14 (stO _ rfl (stO _ rfl (stO _ rfl (stO _ rfl (stO _ rfl (stO _ rfl (stO _ rfl (stF rfl (stO _ h_p15 (stO _ rfl (stO _ rfl (stO _ rfl (stO _ rfl (stO _ rfl (stF rfl (stO _ rfl (stF rfl (stO _ rfl (stO _ rfl (stC rfl (stO _ rfl (stO _ h_p16 (stO _ rfl (stF rfl (stO _ rfl (stF rfl (stO _ rfl (stO _ rfl (stF rfl (stC rfl (stO _ rfl (stO _ rfl (stO _ rfl (stC rfl (stO _ rfl (stO _ rfl (stF rfl (stO _ rfl (stF rfl (stO _ rfl (stF rfl (stO _ rfl (stT rfl (stO _ h_p17 (stO _ rfl (stO _ rfl (stO _ rfl (stO _ rfl (stO _ rfl (stC rfl (stO _ rfl (stO _ rfl (stO _ rfl (stO _ rfl (stO _ rfl (stO _ rfl (stO _ rfl (stO _ rfl (stO _ rfl (stO _ rfl (stO _ rfl (stF rfl (stC rfl (stO _ h_p18 (stO _ rfl (stO _ rfl (stF rfl ((Qal 1 _ (m + 15) _ _ _ _ _ _ _ _ _ _ _ _).trans (stO _ rfl (stT rfl (stO _ h_p19 (stO _ rfl (stO _ rfl (stO _ rfl (stO _ rfl (stO _ rfl (stO _ rfl (stO _ rfl (stF rfl (stO _ h_p20 (stO _ rfl (stO _ rfl (stO _ rfl (stO _ rfl (stO _ rfl (stF rfl (stO _ rfl (stF rfl (stO _ rfl (stO _ rfl (stC rfl (stO _ rfl (stO _ h_p16 (stO _ rfl (stF rfl (stO _ rfl (stF rfl (stO _ rfl (stO _ rfl (stF rfl (stC rfl (stO _ rfl (stO _ rfl (stO _ rfl (stC rfl (stO _ rfl (stO _ rfl (stF rfl (stO _ rfl (stF rfl (stO _ rfl (stF rfl (stO _ rfl (stT rfl (stO _ h_p21 (stO _ rfl (stO _ rfl (stO _ rfl (stO _ rfl (stO _ rfl (stC rfl (stO _ rfl (stO _ rfl (stO _ rfl (stO _ rfl (stO _ rfl (stO _ rfl (stO _ rfl (stO _ rfl (stO _ rfl (stO _ rfl (stO _ rfl (stF rfl (stC rfl (stO _ h_p22 (stO _ rfl (stO _ rfl (stF rfl ((Qal 1 _ (m + 14) _ _ _ _ _ _ _ _ _ _ _ _).trans (stO _ rfl (stT rfl (stO _ h_p23 (stO _ rfl (stO _ rfl (stO _ rfl (stO _ rfl (stO _ rfl (stO _ rfl (stO _ rfl (stF rfl (stO _ h_p24 (stO _ rfl (stO _ rfl (stO _ rfl (stO _ rfl (stO _ rfl (stF rfl (stO _ rfl (stF rfl (stO _ rfl (stO _ rfl (stC rfl (stO _ rfl (stO _ h_p25 (stO _ rfl (stF rfl (stO _ rfl (stF rfl (stO _ rfl (stO _ rfl (stF rfl (stC rfl (stO _ rfl (stO _ rfl (stO _ rfl (stC rfl (stO _ rfl (stO _ rfl (stF rfl (stO _ rfl (stF rfl (stO _ rfl (stF rfl (stO _ rfl (stF rfl (stO _ rfl (stC rfl (stC rfl (stO _ h_p26 (stO _ rfl (stO _ rfl (stO _ rfl (stO _ rfl (stO _ rfl (stF rfl (stO _ rfl (stO _ rfl (stC rfl (stO _ rfl (stO _ rfl (stO _ rfl (stC rfl (stO _ rfl (stO _ rfl (stO _ rfl (stC rfl (stO _ rfl (stC rfl (stC rfl (stC rfl (stC rfl (stO _ h_p27 (stO _ rfl (stO _ rfl (stF rfl ((Qal 1 _ (m + 13) _ _ _ _ _ _ _ _ _ _ _ _).trans (stO _ rfl (stF rfl ((Qhu 1 _ _ _ _ _ _ _ _ _ _ _ _ _).trans (stO _ h_p28 (stO _ rfl (stF rfl (rfl)))))))))))))))))))))))))))))))))))))))))))))))))))))))))))))))))))))))))))))))))))))))))))))))))))))))))))))))))))))))))))))))))))))))))))))))))))))))))))))))))))))))))))))))))))))))))))))))))))))))))))))))))))))))))))))))))))))))))))))))))))))))))))))))))))))))))))))))))))))))))))))))))))))))))))))))))))))))))))))))))))))))))))))))))))))))))))))))))))))))))))))))))))))))))))))))))))))))))))))))))))))))))))))))))))))))))))))))))
theorem Qzg (n : Nat) : Qfa Tryz.prog KK (L 1) (n + 60) QaM [CV.str [115,101,103,10]] = some awv23 := by kernel_rfl
theorem QBm : Ret 1 QaM [CV.str [115,101,103,10]] awv23 := Qbe Qzg
theorem QzO (n : Nat) : Qfa Tryz.prog KK (L 1) (n + 60) QhB [awv6,awv6] = some (CV.bool true) := by kernel_rfl
theorem QAY : Ret 1 QhB [awv6,awv6] (CV.bool true) := Qbe QzO
theorem QzM (n : Nat) : Qfa Tryz.prog KK (L 1) (n + 60) Qaa [QyN] = some awv29 := by kernel_rfl
theorem QAV : Ret 1 Qaa [QyN] awv29 := Qbe QzM
theorem Qzu (n : Nat) : Qfa Tryz.prog KK (L 1) (n + 60) Qgt [awv29,awv29] = some (CV.bool true) := by kernel_rfl
theorem QA1 : Ret 1 Qgt [awv29,awv29] (CV.bool true) := Qbe Qzu
theorem Qze (n : Nat) : Qfa Tryz.prog KK (L 1) (n + 60) Qhc [awv6] = some (CV.int .i64 2) := by kernel_rfl
theorem QA6 : Ret 1 Qhc [awv6] (CV.int .i64 2) := Qbe Qze
theorem QzB (lb n : Nat) : QlY lb n (CV.list false [[CV.int .i64 0],[CV.int .i64 1]]) (CV.int .i64 0) (CV.list false [[CV.int .i64 0]]) (CV.int .i64 0) (CV.int .i64 0) awv5 (CV.int .i64 0) (CV.int .i64 0) (CV.int .i64 0) (CV.int .i64 1) (CV.int .i64 3) awv1 awv6 (CV.agg [CV.str [65,66,67,50,51,52],Qib,CV.int .i64 0,QvU,Qgj,CV.int .i64 0]) awv2 awv6 (CV.agg [CV.str [65,66,67,50,51,52],Qib,CV.int .i64 0,Qwk,Qgj,CV.int .i64 0]) awv0 awv6 (CV.agg [CV.str [65,66,67,50,51,52],Qs1,CV.int .i64 0,Qi7,CV.list true [],CV.int .i64 0]) (CV.agg [CV.str [88,89,90,57,57,57],QvR,CV.int .i64 0,Qi7,Qwq,CV.int .i64 0]) awv4 awv6 awv3 awv6 awv23 (CV.agg [CV.str [],CV.list true [],CV.int .i64 0,CV.list true [],CV.list true [],CV.int .i64 0]) awv6 Qib (false,[[CV.str [83,77,73,84,72],CV.str [74,79,72,78],CV.str [65,68,84]],[CV.str [83,77,73,84,72],CV.str [65,78,78],CV.str [65,68,84]]]) (CV.str [65,66,67,50,51,52]) Qib (CV.int .i64 0) QvU Qgj (CV.int .i64 0) (CV.str [65,66,67,50,51,52]) Qib (CV.int .i64 0) Qwk Qgj (CV.int .i64 0) (CV.str [65,66,67,50,51,52]) Qs1 (CV.int .i64 0) Qi7 (CV.list true []) (CV.int .i64 0) (CV.str [88,89,90,57,57,57]) QvR (CV.int .i64 0) Qi7 Qwq (CV.int .i64 0) (CV.str [65,66,67,50,51,52]) Qib (CV.int .i64 0) Qi7 Qgj (CV.int .i64 0) (CV.str []) (CV.list true []) (CV.int .i64 0) (CV.list true []) (CV.list true []) (CV.int .i64 0) (CV.str [65,66,67,50,51,52]) (CV.int .i64 0) Qgj (CV.int .i64 0) =
 (optO (C lb n Qbw []) fun r235 =>
 optO (C lb n QhB [.agg [(CV.str [65,66,67,50,51,52]),Qib,(CV.int .i64 0),Qi7,Qgj,(CV.int .i64 0)],r235]) fun r236 =>
 optO (CV.asB r236) fun b237 =>
 bif b237 then
 (optO (CV.asI .i64 (CV.int .i64 1)) fun mT =>
 bif (mT == 1) then
 (optO (CV.asI .i64 (CV.int .i64 3)) fun nh =>
 bif (nh == 3) then
 (optO (C lb n Qaa [.agg [(CV.str [65,66,67,50,51,52]), .list (false,[[CV.str [83,77,73,84,72],CV.str [74,79,72,78],CV.str [65,68,84]],[CV.str [83,77,73,84,72],CV.str [65,78,78],CV.str [65,68,84]]]).1 (((false,[[CV.str [83,77,73,84,72],CV.str [74,79,72,78],CV.str [65,68,84]],[CV.str [83,77,73,84,72],CV.str [65,78,78],CV.str [65,68,84]]]).2.take 1).drop 0),(CV.int .i64 0), .list true [],Qgj,(CV.int .i64 0)]]) fun r240 =>
 optO (C lb n Qgt [r240, .list false [[CV.int .i64 7,CV.str [115,101,114,118,105,99,101,32,48]]]]) fun r241 =>
 optO (CV.asB r241) fun b242 =>
 bif b242 then
 (optO (C lb n Qbw []) fun r243 =>
 optO (C lb n Qhc [r243]) fun r244 =>
 optO (CV.asI .i64 r244) fun i245 =>
 some (.bool (i245 == 2)))
 else
 (some (.bool false)))
 else
 (some (.bool false)))
 else
 (some (.bool false)))
 else
 (some (.bool false))) := by kernel_rfl
theorem Qwp : Ret 1 Qaj [] (.bool true) := .top rfl (
 Evt.mono (Evt.imp2 Qxe (Evt.imp2 QAZ (Evt.imp2 QBo (Evt.imp2 QBe (Evt.imp2 QAT (Evt.imp2 QBh (Evt.imp2 QBm (Evt.imp2 QAY (Evt.imp2 QAV (Evt.imp2 QA1 (QA6) fun n a b => And.intro a b) fun n a b => And.intro a b) fun n a b => And.intro a b) fun n a b => And.intro a b) fun n a b => And.intro a b) fun n a b => And.intro a b) fun n a b => And.intro a b) fun n a b => And.intro a b) fun n a b => And.intro a b) fun n a b => And.intro a b) fun n ⟨h_sample,h_cA,h_cB,h_dv,h_pr,h_pa,h_pb,h_sm,h_ck,h_sf,h_se⟩ => by
  rw [Qtl,Qqb]
  exact (QqD 1 n).trans (stO _ h_sample (stO _ h_cA (stO _ rfl (stO _ rfl (stO _ rfl (stO _ rfl (stO _ rfl (stO _ rfl (stO _ rfl (stC rfl (stO _ rfl (stO _ rfl (stO _ rfl (stO _ rfl (stO _ rfl (stO _ rfl ((QqA 1 n _ _ _ _ _ _ _ _ _ _ _).trans (stO _ h_sample (stO _ h_cB (stO _ rfl (stO _ rfl (stO _ rfl (stO _ rfl (stO _ rfl (stO _ rfl (stO _ rfl (stC rfl (stO _ rfl (stO _ rfl (stO _ rfl (stO _ rfl (stO _ rfl (stO _ rfl ((Qp7 1 n _ _ _ _ _ _ _ _ _ _ _ _ _ _ _ _ _ _ _ _ _ _).trans (stO _ h_sample (stO _ h_dv (stO _ rfl (stO _ rfl (stO _ rfl (stO _ rfl (stO _ rfl (stO _ rfl (stO _ rfl (stC rfl (stO _ rfl (stO _ rfl (stO _ rfl (stO _ rfl (stO _ rfl (stO _ rfl (stO _ rfl (stC rfl (stO _ rfl (stO _ rfl (stO _ rfl (stO _ rfl (stO _ rfl (stO _ rfl ((Qp9 1 n _ _ _ _ _ _ _ _ _ _ _ _ _ _ _ _ _ _ _ _ _ _ _ _ _ _ _ _ _ _ _ _ _ _ _ _ _ _ _).trans (stO _ h_sample (stO _ h_pr (stO _ rfl (stO _ rfl (stO _ rfl (stO _ rfl ((Qqv 1 n _ _ _ _ _ _ _ _ _ _ _ _ _ _ _ _ _ _ _ _ _ _ _ _ _ _ _ _ _ _ _ _ _ _ _ _ _ _ _ _ _ _ _).trans (stO _ h_pa (stO _ rfl (stO _ rfl (stO _ rfl (stO _ rfl (stO _ rfl (stO _ rfl (stO _ rfl (stC rfl (stO _ rfl (stO _ rfl (stO _ rfl (stO _ rfl (stO _ rfl (stO _ rfl ((QpZ 1 n _ _ _ _ _ _ _ _ _ _ _ _ _ _ _ _ _ _ _ _ _ _ _ _ _ _ _ _ _ _ _ _ _ _ _ _ _ _ _ _ _ _ _ _ _ _ _ _ _ _ _ _ _).trans (stO _ h_pb (stO _ rfl (stO _ rfl (stO _ rfl (stO _ rfl (stO _ rfl (stO _ rfl (stO _ rfl (stC rfl (stO _ rfl (stO _ rfl (stO _ rfl (stO _ rfl (stO _ rfl (stO _ rfl ((QqC 1 n _ _ _ _ _ _ _ _ _ _ _ _ _ _ _ _ _ _ _ _ _ _ _ _ _ _ _ _ _ _ _ _ _ _ _ _ _ _ _ _ _ _ _ _ _ _ _ _ _ _ _ _ _ _ _ _ _ _ _ _ _ _ _).trans (stO _ h_sample (stO _ rfl (stC rfl (stO _ rfl (stO _ rfl (stO _ rfl (stO _ rfl (stO _ rfl (stO _ rfl ((QpY 1 n _ _ _ _ _ _ _ _ _ _ _ _ _ _ _ _ _ _ _ _ _ _ _ _ _ _ _ _ _ _ _ _ _ _ _ _ _ _ _ _ _ _ _ _ _ _ _ _ _ _ _ _ _ _ _ _ _ _ _ _ _ _ _ _ _ _ _ _ _ _).trans (stO _ rfl (stC rfl (stC rfl ((QzB 1 n).trans (stO _ h_sample (stO _ h_sm (stO _ rfl (stT rfl (stO _ rfl (stT rfl (stO _ rfl (stT rfl (stO _ h_ck (stO _ h_sf (stO _ rfl (stT rfl (stO _ h_sample (stO _ h_se (stO _ rfl (rfl)))))))))))))))))))))))))))))))))))))))))))))))))))))))))))))))))))))))))))))))))))))))))))))))))))))))))))))))))))))))))))))))))
end Go.Proofs
