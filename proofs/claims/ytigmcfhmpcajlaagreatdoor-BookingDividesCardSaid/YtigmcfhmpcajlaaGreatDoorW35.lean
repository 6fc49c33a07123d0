/- awake of chapter 35 answers true: each of its calls is run in the kernel. Conditions: none. -/
import Derived.Test.YtigmcfhmpcajlaaGreatDoorNh
import Derived.Test.YtigmcfhmpcajlaaGreatDoorRet
import Derived.Test.YtigmcfhmpcajlaaGreatDoorGw
import Derived.Test.YtigmcfhmpcajlaaGreatDoorGp
import Derived.Test.YtigmcfhmpcajlaaGreatDoorRA
namespace Go.Proofs
open Go.Am
set_option maxRecDepth 100000
abbrev Qfx : CV := CV.list false [[CV.str [77,69,65,76],CV.int .i64 1,CV.int .i64 0]]
abbrev Qun : CV := CV.list false [[CV.str [77,69,65,76],CV.int .i64 0,CV.int .i64 0]]
abbrev awv33 : CV := CV.str [115,101,114,118,105,99,101,32,77,69,65,76,32,49,32,48]
abbrev QwG : CV := CV.agg [CV.str [83,77,73,84,72],CV.str [65,78,78],CV.str [65,68,84]]
abbrev QwJ : CV := CV.str [115,101,114,118,105,99,101,32,77,69,65,76,32,49,32,48,10]
abbrev awv29 : CV := CV.list false [[CV.int .i64 7,CV.str [115,101,114,118,105,99,101,32,48]]]
abbrev Qwr : CV := CV.agg [CV.str [83,77,73,84,72],CV.str [74,79,72,78],CV.str [65,68,84]]
abbrev awv28 : CV := CV.str [98,111,111,107,105,110,103,32,65,66,67,50,51,52,32,48,32,48]
abbrev Qt8 : CV := CV.list false [[CV.str [83,77,73,84,72],CV.str [65,78,78],CV.str [65,68,84]]]
abbrev Qrs : CV := CV.list false [[CV.str [83,77,73,84,72],CV.str [74,79,72,78],CV.str [65,68,84]]]
abbrev awv25 : CV := CV.str [112,101,114,115,111,110,32,34,83,77,73,84,72,47,65,78,78,32,65,68,84,34]
abbrev awv24 : CV := CV.str [112,101,114,115,111,110,32,34,83,77,73,84,72,47,74,79,72,78,32,65,68,84,34]
abbrev awv23 : CV := CV.tup [CV.agg [CV.str [],CV.list true [],CV.int .i64 0,CV.list true [],CV.list true [],CV.int .i64 0],CV.int .i64 1,CV.int .i64 3]
abbrev awv21 : CV := CV.str [115,101,103,32,66,65,32,50,32,57,32,76,72,82,32,67,68,71,32,49,51,48,48,48,32,49,51,48,56,48,32,89,32,72,75,32,49]
abbrev awv22 : CV := CV.str [115,101,103,32,66,65,32,51,32,57,32,67,68,71,32,74,70,75,32,49,51,50,48,48,32,49,51,55,48,48,32,89,32,72,75,32,49]
abbrev Qhh : CV := CV.list false [[CV.str [83,77,73,84,72],CV.str [74,79,72,78],CV.str [65,68,84]],[CV.str [83,77,73,84,72],CV.str [65,78,78],CV.str [65,68,84]]]
abbrev Qrr : CV := CV.list false [[CV.str [98,111,111,107,105,110,103]],[CV.str [112,101,114,115,111,110]],[CV.str [115,101,103]],[CV.str [115,101,114,118,105,99,101]]]
abbrev Qwm : CV := CV.agg [CV.str [66,65],CV.int .i64 2,CV.int .i64 9,CV.str [76,72,82],CV.str [67,68,71],CV.int .i64 13000,CV.int .i64 13080,CV.str [89],CV.int .i64 1,CV.int .i64 1]
abbrev Qwl : CV := CV.agg [CV.str [66,65],CV.int .i64 3,CV.int .i64 9,CV.str [67,68,71],CV.str [74,70,75],CV.int .i64 13200,CV.int .i64 13700,CV.str [89],CV.int .i64 1,CV.int .i64 1]
abbrev QwB : CV := CV.str [115,101,103,32,66,65,32,51,32,57,32,67,68,71,32,74,70,75,32,49,51,50,48,48,32,49,51,55,48,48,32,89,32,72,75,32,49,10,115,101,114,118,105,99,101,32,77,69,65,76,32,49,32,48,10]
abbrev Qwu : CV := CV.list false [[CV.str [115,101,103]],[CV.str [66,65]],[CV.str [50]],[CV.str [57]],[CV.str [76,72,82]],[CV.str [67,68,71]],[CV.str [49,51,48,48,48]],[CV.str [49,51,48,56,48]],[CV.str [89]],[CV.str [72,75]],[CV.str [49]]]
abbrev Qws : CV := CV.list false [[CV.str [115,101,103]],[CV.str [66,65]],[CV.str [51]],[CV.str [57]],[CV.str [67,68,71]],[CV.str [74,70,75]],[CV.str [49,51,50,48,48]],[CV.str [49,51,55,48,48]],[CV.str [89]],[CV.str [72,75]],[CV.str [49]]]
abbrev Qwt : CV := CV.agg [CV.str [65,66,67,50,51,52],Qrs,CV.int .i64 0,CV.list true [],Qfx,CV.int .i64 0]
abbrev Qie : CV := CV.list false [[CV.str [66,65],CV.int .i64 2,CV.int .i64 9,CV.str [76,72,82],CV.str [67,68,71],CV.int .i64 13000,CV.int .i64 13080,CV.str [89],CV.int .i64 1,CV.int .i64 1],[CV.str [66,65],CV.int .i64 3,CV.int .i64 9,CV.str [67,68,71],CV.str [74,70,75],CV.int .i64 13200,CV.int .i64 13700,CV.str [89],CV.int .i64 1,CV.int .i64 1]]
abbrev Quq : CV := CV.list false [[CV.str [66,65],CV.int .i64 2,CV.int .i64 9,CV.str [76,72,82],CV.str [67,68,71],CV.int .i64 13000,CV.int .i64 13080,CV.str [89],CV.int .i64 7,CV.int .i64 1],[CV.str [66,65],CV.int .i64 3,CV.int .i64 9,CV.str [67,68,71],CV.str [74,70,75],CV.int .i64 13200,CV.int .i64 13700,CV.str [89],CV.int .i64 7,CV.int .i64 1]]
abbrev Qt0 : CV := CV.list false [[CV.str [66,65],CV.int .i64 2,CV.int .i64 9,CV.str [76,72,82],CV.str [67,68,71],CV.int .i64 13000,CV.int .i64 13080,CV.str [89],CV.int .i64 5,CV.int .i64 1],[CV.str [66,65],CV.int .i64 3,CV.int .i64 9,CV.str [67,68,71],CV.str [74,70,75],CV.int .i64 13200,CV.int .i64 13700,CV.str [89],CV.int .i64 1,CV.int .i64 1]]
abbrev awv9 : CV := CV.str [115,101,103,32,66,65,32,50,32,57,32,76,72,82,32,67,68,71,32,49,51,48,48,48,32,49,51,48,56,48,32,89,32,72,75,32,49,10,115,101,103,32,66,65,32,51,32,57,32,67,68,71,32,74,70,75,32,49,51,50,48,48,32,49,51,55,48,48,32,89,32,72,75,32,49,10,115,101,114,118,105,99,101,32,77,69,65,76,32,49,32,48,10]
abbrev awv8 : CV := CV.str [112,101,114,115,111,110,32,34,83,77,73,84,72,47,65,78,78,32,65,68,84,34,10,115,101,103,32,66,65,32,50,32,57,32,76,72,82,32,67,68,71,32,49,51,48,48,48,32,49,51,48,56,48,32,89,32,72,75,32,49,10,115,101,103,32,66,65,32,51,32,57,32,67,68,71,32,74,70,75,32,49,51,50,48,48,32,49,51,55,48,48,32,89,32,72,75,32,49,10,115,101,114,118,105,99,101,32,77,69,65,76,32,49,32,48,10]
abbrev awv7 : CV := CV.str [112,101,114,115,111,110,32,34,83,77,73,84,72,47,74,79,72,78,32,65,68,84,34,10,112,101,114,115,111,110,32,34,83,77,73,84,72,47,65,78,78,32,65,68,84,34,10,115,101,103,32,66,65,32,50,32,57,32,76,72,82,32,67,68,71,32,49,51,48,48,48,32,49,51,48,56,48,32,89,32,72,75,32,49,10,115,101,103,32,66,65,32,51,32,57,32,67,68,71,32,74,70,75,32,49,51,50,48,48,32,49,51,55,48,48,32,89,32,72,75,32,49,10,115,101,114,118,105,99,101,32,77,69,65,76,32,49,32,48,10]
abbrev awv6 : CV := CV.agg [CV.str [65,66,67,50,51,52],Qhh,CV.int .i64 0,Qie,Qfx,CV.int .i64 0]
abbrev awv5 : CV := CV.str [98,111,111,107,105,110,103,32,65,66,67,50,51,52,32,48,32,48,10,112,101,114,115,111,110,32,34,83,77,73,84,72,47,74,79,72,78,32,65,68,84,34,10,112,101,114,115,111,110,32,34,83,77,73,84,72,47,65,78,78,32,65,68,84,34,10,115,101,103,32,66,65,32,50,32,57,32,76,72,82,32,67,68,71,32,49,51,48,48,48,32,49,51,48,56,48,32,89,32,72,75,32,49,10,115,101,103,32,66,65,32,51,32,57,32,67,68,71,32,74,70,75,32,49,51,50,48,48,32,49,51,55,48,48,32,89,32,72,75,32,49,10,115,101,114,118,105,99,101,32,77,69,65,76,32,49,32,48,10]
abbrev awv4 : CV := CV.tup [awv5,CV.int .i64 0]
abbrev awv3 : CV := CV.tup [awv6,CV.int .i64 0,CV.int .i64 0]
abbrev awv2 : CV := CV.tup [CV.agg [CV.str [65,66,67,50,51,52],Qhh,CV.int .i64 0,Qt0,Qfx,CV.int .i64 0],CV.list false [[CV.int .i64 0]],CV.int .i64 0]
abbrev awv1 : CV := CV.tup [CV.agg [CV.str [65,66,67,50,51,52],Qhh,CV.int .i64 0,Quq,Qfx,CV.int .i64 0],CV.list false [[CV.int .i64 0],[CV.int .i64 1]],CV.int .i64 0]
abbrev awv0 : CV := CV.tup [CV.agg [CV.str [65,66,67,50,51,52],Qrs,CV.int .i64 0,Qie,CV.list true [],CV.int .i64 0],CV.agg [CV.str [88,89,90,57,57,57],Qt8,CV.int .i64 0,Qie,Qun,CV.int .i64 0],CV.int .i64 0]
theorem QaY {f : FuncId} {a : List CV} {r : CV} (h : ∀ n,Qer Tryz.prog KK (L 1) (n + 60) f a = some r) : Ret 1 f a r := Evt.from 60 fun n => by
 show QcJ Tryz.prog KK (L 1) (n + 60) f a = _
 rw [Qwd]
 exact h n
theorem QgI {s : Bs} {v : CV} (h : Qmm s.isEmpty (Qse s) = v) (hs : s.length ≤ 100000000) : Ret 1 QaR [.str s] v := h ▸ Qp7 1 s hs
theorem Qta (n : Nat) : Qer Tryz.prog KK (L 1) (n + 60) Qbg [] = some awv6 := by kernel_rfl
theorem QuZ : Ret 1 Qbg [] awv6 := QaY Qta
theorem QwL (n : Nat) : Qer Tryz.prog KK (L 1) (n + 60) QbH [awv6,CV.int .i64 1,CV.int .i64 8] = some awv1 := by kernel_rfl
theorem Qys : Ret 1 QbH [awv6,CV.int .i64 1,CV.int .i64 8] awv1 := QaY QwL
theorem Qxx (n : Nat) : Qer Tryz.prog KK (L 1) (n + 60) QbH [awv6,CV.int .i64 0,CV.int .i64 6] = some awv2 := by kernel_rfl
theorem Qyr : Ret 1 QbH [awv6,CV.int .i64 0,CV.int .i64 6] awv2 := QaY Qxx
theorem QwV (n : Nat) : Qer Tryz.prog KK (L 1) (n + 60) Qaa [awv6,CV.list false [[CV.int .i64 1]],CV.str [88,89,90,57,57,57]] = some awv0 := by kernel_rfl
theorem QyM : Ret 1 Qaa [awv6,CV.list false [[CV.int .i64 1]],CV.str [88,89,90,57,57,57]] awv0 := QaY QwV
theorem Qw2 (n : Nat) : Qer Tryz.prog KK (L 1) (n + 60) Qep [awv6] = some awv4 := by kernel_rfl
theorem Qyq : Ret 1 Qep [awv6] awv4 := QaY Qw2
theorem QyA : Ret 1 QbZ [awv5,CV.str [10]] (CV.tup [awv28,awv7,CV.bool true]) := QaY fun n => by kernel_rfl
theorem QyG : Ret 1 QaR [awv28] (CV.tup [CV.list false [[CV.str [98,111,111,107,105,110,103]],[CV.str [65,66,67,50,51,52]],[CV.str [48]],[CV.str [48]]],CV.int .i64 0]) := QgI (by kernel_rfl) (by decide)
theorem Qyc : Ret 1 Qb7 [Qrr,CV.str [98,111,111,107,105,110,103]] (CV.int .i64 0) := QaY fun n => by kernel_rfl
theorem Qyg : Ret 1 QdL [CV.list false [[CV.str [48]],[CV.str [48]]]] (CV.tup [CV.list false [[CV.int .i64 0],[CV.int .i64 0]],CV.bool true]) := QaY fun n => by kernel_rfl
theorem QyE : Ret 1 Qhy [CV.agg [CV.str [65,66,67,50,51,52],CV.list true [],CV.int .i64 0,CV.list true [],CV.list true [],CV.int .i64 0]] awv28 := QaY fun n => by kernel_rfl
theorem QyB : Ret 1 QbZ [awv7,CV.str [10]] (CV.tup [awv24,awv8,CV.bool true]) := QaY fun n => by kernel_rfl
theorem Qyj : Ret 1 QaR [awv24] (CV.tup [CV.list false [[CV.str [112,101,114,115,111,110]],[CV.str [83,77,73,84,72,47,74,79,72,78,32,65,68,84]]],CV.int .i64 0]) := QgI (by kernel_rfl) (by decide)
theorem Qyv : Ret 1 Qb7 [Qrr,CV.str [112,101,114,115,111,110]] (CV.int .i64 1) := QaY fun n => by kernel_rfl
theorem Qye : Ret 1 QhK [CV.str [83,77,73,84,72,47,74,79,72,78,32,65,68,84]] (CV.tup [Qwr,CV.int .i64 0]) := QaY fun n => by kernel_rfl
theorem QyL : Ret 1 Qd0 [Qwr] awv24 := QaY fun n => by kernel_rfl
theorem Qx8 : Ret 1 QbZ [awv8,CV.str [10]] (CV.tup [awv25,awv9,CV.bool true]) := QaY fun n => by kernel_rfl
theorem QxO : Ret 1 QaR [awv25] (CV.tup [CV.list false [[CV.str [112,101,114,115,111,110]],[CV.str [83,77,73,84,72,47,65,78,78,32,65,68,84]]],CV.int .i64 0]) := QgI (by kernel_rfl) (by decide)
theorem QxZ : Ret 1 QhK [CV.str [83,77,73,84,72,47,65,78,78,32,65,68,84]] (CV.tup [QwG,CV.int .i64 0]) := QaY fun n => by kernel_rfl
theorem Qx5 : Ret 1 Qd0 [QwG] awv25 := QaY fun n => by kernel_rfl
theorem QxJ : Ret 1 QbZ [awv9,CV.str [10]] (CV.tup [awv21,QwB,CV.bool true]) := QaY fun n => by kernel_rfl
theorem Qxz : Ret 1 QaR [awv21] (CV.tup [Qwu,CV.int .i64 0]) := QgI (by kernel_rfl) (by decide)
theorem QxT : Ret 1 Qb7 [Qrr,CV.str [115,101,103]] (CV.int .i64 2) := QaY fun n => by kernel_rfl
theorem Qx7 : Ret 1 Qfe [Qwu] (CV.tup [Qwm,CV.int .i64 0]) := QaY fun n => by kernel_rfl
theorem QxY : Ret 1 Qe7 [Qwm] awv21 := QaY fun n => by kernel_rfl
theorem Qx3 : Ret 1 QbZ [QwB,CV.str [10]] (CV.tup [awv22,QwJ,CV.bool true]) := QaY fun n => by kernel_rfl
theorem Qx6 : Ret 1 QaR [awv22] (CV.tup [Qws,CV.int .i64 0]) := QgI (by kernel_rfl) (by decide)
theorem QxA : Ret 1 Qfe [Qws] (CV.tup [Qwl,CV.int .i64 0]) := QaY fun n => by kernel_rfl
theorem Qya : Ret 1 Qe7 [Qwl] awv22 := QaY fun n => by kernel_rfl
theorem QxD : Ret 1 QbZ [QwJ,CV.str [10]] (CV.tup [awv33,CV.str [],CV.bool true]) := QaY fun n => by kernel_rfl
theorem Qx9 : Ret 1 QaR [awv33] (CV.tup [CV.list false [[CV.str [115,101,114,118,105,99,101]],[CV.str [77,69,65,76]],[CV.str [49]],[CV.str [48]]],CV.int .i64 0]) := QgI (by kernel_rfl) (by decide)
theorem QxC : Ret 1 Qb7 [Qrr,CV.str [115,101,114,118,105,99,101]] (CV.int .i64 3) := QaY fun n => by kernel_rfl
theorem QxQ : Ret 1 QdL [CV.list false [[CV.str [49]],[CV.str [48]]]] (CV.tup [CV.list false [[CV.int .i64 1],[CV.int .i64 0]],CV.bool true]) := QaY fun n => by kernel_rfl
theorem Qx0 : Ret 1 QfR [CV.agg [CV.str [77,69,65,76],CV.int .i64 1,CV.int .i64 0]] awv33 := QaY fun n => by kernel_rfl
theorem QxP : Ret 1 Qab [awv6] (CV.list true []) := QaY fun n => by kernel_rfl
theorem QyD : Ret 1 QaN [awv5] awv3 := .top rfl (Evt.mono (Evt.and (Evt.imp2 QyA (Evt.imp2 QyG (Evt.imp2 Qyc (Evt.imp2 Qyg (Evt.imp2 QyE (Evt.imp2 QyB (Evt.imp2 Qyj (Evt.imp2 Qyv (Evt.imp2 Qye (Evt.imp2 QyL (Evt.imp2 Qx8 (Evt.imp2 QxO (Evt.imp2 QxZ (Evt.imp2 Qx5 (Evt.imp2 QxJ (Evt.imp2 Qxz (Evt.imp2 QxT (Evt.imp2 Qx7 (Evt.imp2 QxY (Evt.imp2 Qx3 (Evt.imp2 Qx6 (Evt.imp2 QxA (Evt.imp2 Qya (Evt.imp2 QxD (Evt.imp2 Qx9 (Evt.imp2 QxC (Evt.imp2 QxQ (Evt.imp2 Qx0 (QxP) fun n a b => And.intro a b) fun n a b => And.intro a b) fun n a b => And.intro a b) fun n a b => And.intro a b) fun n a b => And.intro a b) fun n a b => And.intro a b) fun n a b => And.intro a b) fun n a b => And.intro a b) fun n a b => And.intro a b) fun n a b => And.intro a b) fun n a b => And.intro a b) fun n a b => And.intro a b) fun n a b => And.intro a b) fun n a b => And.intro a b) fun n a b => And.intro a b) fun n a b => And.intro a b) fun n a b => And.intro a b) fun n a b => And.intro a b) fun n a b => And.intro a b) fun n a b => And.intro a b) fun n a b => And.intro a b) fun n a b => And.intro a b) fun n a b => And.intro a b) fun n a b => And.intro a b) fun n a b => And.intro a b) fun n a b => And.intro a b) fun n a b => And.intro a b) fun n a b => And.intro a b) (Evt.ge 20)) fun n ⟨⟨h_p0,h_p1,h_p2,h_p3,h_p4,h_p5,h_p6,h_p7,h_p8,h_p9,h_p10,h_p11,h_p12,h_p13,h_p14,h_p15,h_p16,h_p17,h_p18,h_p19,h_p20,h_p21,h_p22,h_p23,h_p24,h_p25,h_p26,h_p27,h_p28⟩,hn⟩ => by
  obtain ⟨m,rfl⟩ : ∃ m,n = m + 20 := ⟨n - 20,by omega⟩
  rw [Qoi]
  exact stF rfl (stF rfl ((Qbr 1 _ (m + 19) _ _ _ _ _ _ _ _ _ _ _ _).trans (stO _ rfl (stT rfl (stO _ h_p0 (stO _ rfl (stO _ rfl (stO _ rfl (stO _ rfl (stO _ rfl (stO _ rfl (stO _ rfl (stF rfl (stO _ h_p1 (stO _ rfl (stO _ rfl (stO _ rfl (stO _ rfl (stO _ rfl (stF rfl (stO _ rfl (stF rfl (stO _ rfl (stO _ rfl (stC rfl (stO _ rfl (stO _ h_p2 (stO _ rfl (stF rfl (stO _ rfl (stF rfl (stO _ rfl (stO _ rfl (stF rfl (stC rfl (stO _ rfl (stO _ rfl (stO _ rfl (stC rfl (stO _ rfl (stO _ rfl (stF rfl (stO _ rfl (stT rfl (stO _ rfl (stC rfl (stC rfl (stO _ h_p3 (stO _ rfl (stO _ rfl (stO _ rfl (stO _ rfl (stO _ rfl (stF rfl (stO _ rfl (stO _ rfl (stC rfl (stO _ rfl (stO _ rfl (stO _ rfl (stC rfl (stO _ rfl (stO _ rfl (stO _ rfl (stC rfl (stO _ rfl (stC rfl (stC rfl (stC rfl (stO _ h_p4 (stO _ rfl (stO _ rfl (stF rfl ((Qbr 1 _ (m + 18) _ _ _ _ _ _ _ _ _ _ _ _).trans (stO _ rfl (stT rfl (stO _ h_p5 (stO _ rfl (stO _ rfl (stO _ rfl (stO _ rfl (stO _ rfl (stO _ rfl (stO _ rfl (stF rfl (stO _ h_p6 (stO _ rfl (stO _ rfl (stO _ rfl (stO _ rfl (stO _ rfl (stF rfl (stO _ rfl (stF rfl (stO _ rfl (stO _ rfl (stC rfl (stO _ rfl (stO _ h_p7 (stO _ rfl (stF rfl (stO _ rfl (stF rfl (stO _ rfl (stO _ rfl (stF rfl (stC rfl (stO _ rfl (stO _ rfl (stO _ rfl (stC rfl (stO _ rfl (stO _ rfl (stF rfl (stO _ rfl (stF rfl (stO _ rfl (stT rfl (stO _ rfl (stO _ rfl (stC rfl (stO _ rfl (stO _ h_p8 (stO _ rfl (stO _ rfl (stO _ rfl (stO _ rfl (stO _ rfl (stC rfl (stO _ rfl (stO _ rfl (stO _ rfl (stO _ rfl (stF rfl (stC rfl (stO _ h_p9 (stO _ rfl (stO _ rfl (stF rfl ((Qbr 1 _ (m + 17) _ _ _ _ _ _ _ _ _ _ _ _).trans (stO _ rfl (stT rfl (stO _ h_p10 (stO _ rfl (stO _ rfl (stO _ rfl (stO _ rfl (stO _ rfl (stO _ rfl (stO _ rfl (stF rfl (stO _ h_p11 (stO _ rfl (stO _ rfl (stO _ rfl (stO _ rfl (stO _ rfl (stF rfl (stO _ rfl (stF rfl (stO _ rfl (stO _ rfl (stC rfl (stO _ rfl (stO _ h_p7 (stO _ rfl (stF rfl (stO _ rfl (stF rfl (stO _ rfl (stO _ rfl (stF rfl (stC rfl (stO _ rfl (stO _ rfl (stO _ rfl (stC rfl (stO _ rfl (stO _ rfl (stF rfl (stO _ rfl (stF rfl (stO _ rfl (stT rfl (stO _ rfl (stO _ rfl (stC rfl (stO _ rfl (stO _ h_p12 (stO _ rfl (stO _ rfl (stO _ rfl (stO _ rfl (stO _ rfl (stC rfl (stO _ rfl (stO _ rfl (stO _ rfl (stO _ rfl (stF rfl (stC rfl (stO _ h_p13 (stO _ rfl (stO _ rfl (stF rfl ((Qbr 1 _ (m + 16) _ _ _ _ _ _ _ _ _ _ _ _).trans (stO _ rfl (stT rfl (stO _ h_p14 (stO _ rfl (stO _ rfl (stO _ rfl (stO _ rfl (stO _ rfl (stO _ rfl (stO _ rfl (stF rfl (stO _ h_p15 (stO _ rfl (stO _ rfl (stO _ rfl (stO _ rfl (stO _ rfl (stF rfl (stO _ rfl (stF rfl (stO _ rfl (stO _ rfl (stC rfl (stO _ rfl (stO _ h_p16 (stO _ rfl (stF rfl (stO _ rfl (stF rfl (stO _ rfl (stO _ rfl (stF rfl (stC rfl (stO _ rfl (stO _ rfl (stO _ rfl (stC rfl (stO _ rfl (stO _ rfl (stF rfl (stO _ rfl (stF rfl (stO _ rfl (stF rfl (stO _ rfl (stT rfl (stO _ h_p17 (stO _ rfl (stO _ rfl (stO _ rfl (stO _ rfl (stO _ rfl (stC rfl (stO _ rfl (stO _ rfl (stO _ rfl (stO _ rfl (stO _ rfl (stO _ rfl (stO _ rfl (stO _ rfl (stO _ rfl (stO _ rfl (stO _ rfl (stF rfl (stC rfl (stO _ h_p18 (stO _ rfl (stO _ rfl (stF rfl ((Qbr 1 _ (m + 15) _ _ _ _ _ _ _ _ _ _ _ _).trans (stO _ rfl (stT rfl (stO _ h_p19 (stO _ rfl (stO _ rfl (stO _ rfl (stO _ rfl (stO _ rfl (stO _ rfl (stO _ rfl (stF rfl (stO _ h_p20 (stO _ rfl (stO _ rfl (stO _ rfl (stO _ rfl (stO _ rfl (stF rfl (stO _ rfl (stF rfl (stO _ rfl (stO _ rfl (stC rfl (stO _ rfl (stO _ h_p16 (stO _ rfl (stF rfl (stO _ rfl (stF rfl (stO _ rfl (stO _ rfl (stF rfl (stC rfl (stO _ rfl (stO _ rfl (stO _ rfl (stC rfl (stO _ rfl (stO _ rfl (stF rfl (stO _ rfl (stF rfl (stO _ rfl (stF rfl (stO _ rfl (stT rfl (stO _ h_p21 (stO _ rfl (stO _ rfl (stO _ rfl (stO _ rfl (stO _ rfl (stC rfl (stO _ rfl (stO _ rfl (stO _ rfl (stO _ rfl (stO _ rfl (stO _ rfl (stO _ rfl (stO _ rfl (stO _ rfl (stO _ rfl (stO _ rfl (stF rfl (stC rfl (stO _ h_p22 (stO _ rfl (stO _ rfl (stF rfl ((Qbr 1 _ (m + 14) _ _ _ _ _ _ _ _ _ _ _ _).trans (stO _ rfl (stT rfl (stO _ h_p23 (stO _ rfl (stO _ rfl (stO _ rfl (stO _ rfl (stO _ rfl (stO _ rfl (stO _ rfl (stF rfl (stO _ h_p24 (stO _ rfl (stO _ rfl (stO _ rfl (stO _ rfl (stO _ rfl (stF rfl (stO _ rfl (stF rfl (stO _ rfl (stO _ rfl (stC rfl (stO _ rfl (stO _ h_p25 (stO _ rfl (stF rfl (stO _ rfl (stF rfl (stO _ rfl (stO _ rfl (stF rfl (stC rfl (stO _ rfl (stO _ rfl (stO _ rfl (stC rfl (stO _ rfl (stO _ rfl (stF rfl (stO _ rfl (stF rfl (stO _ rfl (stF rfl (stO _ rfl (stF rfl (stO _ rfl (stC rfl (stC rfl (stO _ h_p26 (stO _ rfl (stO _ rfl (stO _ rfl (stO _ rfl (stO _ rfl (stF rfl (stO _ rfl (stO _ rfl (stC rfl (stO _ rfl (stO _ rfl (stO _ rfl (stC rfl (stO _ rfl (stO _ rfl (stO _ rfl (stC rfl (stO _ rfl (stC rfl (stC rfl (stC rfl (stC rfl (stO _ h_p27 (stO _ rfl (stO _ rfl (stF rfl ((Qbr 1 _ (m + 13) _ _ _ _ _ _ _ _ _ _ _ _).trans (stO _ rfl (stF rfl ((QlI 1 _ _ _ _ _ _ _ _ _ _ _ _ _).trans (stO _ h_p28 (stO _ rfl (stF rfl (rfl)))))))))))))))))))))))))))))))))))))))))))))))))))))))))))))))))))))))))))))))))))))))))))))))))))))))))))))))))))))))))))))))))))))))))))))))))))))))))))))))))))))))))))))))))))))))))))))))))))))))))))))))))))))))))))))))))))))))))))))))))))))))))))))))))))))))))))))))))))))))))))))))))))))))))))))))))))))))))))))))))))))))))))))))))))))))))))))))))))))))))))))))))))))))))))))))))))))))))))))))))))))))))))))))))))))))))))))))))
theorem QwN (n : Nat) : Qer Tryz.prog KK (L 1) (n + 60) QaN [CV.str [115,101,103,10]] = some awv23 := by kernel_rfl
theorem QyJ : Ret 1 QaN [CV.str [115,101,103,10]] awv23 := QaY QwN
theorem Qxi (n : Nat) : Qer Tryz.prog KK (L 1) (n + 60) QgW [awv6,awv6] = some (CV.bool true) := by kernel_rfl
theorem QyK : Ret 1 QgW [awv6,awv6] (CV.bool true) := QaY Qxi
theorem Qxt (n : Nat) : Qer Tryz.prog KK (L 1) (n + 60) Qab [Qwt] = some awv29 := by kernel_rfl
theorem Qyk : Ret 1 Qab [Qwt] awv29 := QaY Qxt
theorem Qxo (n : Nat) : Qer Tryz.prog KK (L 1) (n + 60) QfG [awv29,awv29] = some (CV.bool true) := by kernel_rfl
theorem QyC : Ret 1 QfG [awv29,awv29] (CV.bool true) := QaY Qxo
theorem QwU (n : Nat) : Qer Tryz.prog KK (L 1) (n + 60) QbA [awv6] = some (CV.int .i64 2) := by kernel_rfl
theorem QyH : Ret 1 QbA [awv6] (CV.int .i64 2) := QaY QwU
theorem Qxc (lb n : Nat) : Qlk lb n (CV.list false [[CV.int .i64 0],[CV.int .i64 1]]) (CV.int .i64 0) (CV.list false [[CV.int .i64 0]]) (CV.int .i64 0) (CV.int .i64 0) awv5 (CV.int .i64 0) (CV.int .i64 0) (CV.int .i64 0) (CV.int .i64 1) (CV.int .i64 3) awv1 awv6 (CV.agg [CV.str [65,66,67,50,51,52],Qhh,CV.int .i64 0,Quq,Qfx,CV.int .i64 0]) awv2 awv6 (CV.agg [CV.str [65,66,67,50,51,52],Qhh,CV.int .i64 0,Qt0,Qfx,CV.int .i64 0]) awv0 awv6 (CV.agg [CV.str [65,66,67,50,51,52],Qrs,CV.int .i64 0,Qie,CV.list true [],CV.int .i64 0]) (CV.agg [CV.str [88,89,90,57,57,57],Qt8,CV.int .i64 0,Qie,Qun,CV.int .i64 0]) awv4 awv6 awv3 awv6 awv23 (CV.agg [CV.str [],CV.list true [],CV.int .i64 0,CV.list true [],CV.list true [],CV.int .i64 0]) awv6 Qhh (false,[[CV.str [83,77,73,84,72],CV.str [74,79,72,78],CV.str [65,68,84]],[CV.str [83,77,73,84,72],CV.str [65,78,78],CV.str [65,68,84]]]) (CV.str [65,66,67,50,51,52]) Qhh (CV.int .i64 0) Quq Qfx (CV.int .i64 0) (CV.str [65,66,67,50,51,52]) Qhh (CV.int .i64 0) Qt0 Qfx (CV.int .i64 0) (CV.str [65,66,67,50,51,52]) Qrs (CV.int .i64 0) Qie (CV.list true []) (CV.int .i64 0) (CV.str [88,89,90,57,57,57]) Qt8 (CV.int .i64 0) Qie Qun (CV.int .i64 0) (CV.str [65,66,67,50,51,52]) Qhh (CV.int .i64 0) Qie Qfx (CV.int .i64 0) (CV.str []) (CV.list true []) (CV.int .i64 0) (CV.list true []) (CV.list true []) (CV.int .i64 0) (CV.str [65,66,67,50,51,52]) (CV.int .i64 0) Qfx (CV.int .i64 0) =
 (optO (C lb n Qbg []) fun r235 =>
 optO (C lb n QgW [.agg [(CV.str [65,66,67,50,51,52]),Qhh,(CV.int .i64 0),Qie,Qfx,(CV.int .i64 0)],r235]) fun r236 =>
 optO (CV.asB r236) fun b237 =>
 bif b237 then
 (optO (CV.asI .i64 (CV.int .i64 1)) fun nZ =>
 bif (nZ == 1) then
 (optO (CV.asI .i64 (CV.int .i64 3)) fun pk =>
 bif (pk == 3) then
 (optO (C lb n Qab [.agg [(CV.str [65,66,67,50,51,52]), .list (false,[[CV.str [83,77,73,84,72],CV.str [74,79,72,78],CV.str [65,68,84]],[CV.str [83,77,73,84,72],CV.str [65,78,78],CV.str [65,68,84]]]).1 (((false,[[CV.str [83,77,73,84,72],CV.str [74,79,72,78],CV.str [65,68,84]],[CV.str [83,77,73,84,72],CV.str [65,78,78],CV.str [65,68,84]]]).2.take 1).drop 0),(CV.int .i64 0), .list true [],Qfx,(CV.int .i64 0)]]) fun r240 =>
 optO (C lb n QfG [r240, .list false [[CV.int .i64 7,CV.str [115,101,114,118,105,99,101,32,48]]]]) fun r241 =>
 optO (CV.asB r241) fun b242 =>
 bif b242 then
 (optO (C lb n Qbg []) fun r243 =>
 optO (C lb n QbA [r243]) fun r244 =>
 optO (CV.asI .i64 r244) fun i245 =>
 some (.bool (i245 == 2)))
 else
 (some (.bool false)))
 else
 (some (.bool false)))
 else
 (some (.bool false)))
 else
 (some (.bool false))) := by kernel_rfl
theorem Que : Ret 1 Qal [] (.bool true) := .top rfl (
 Evt.mono (Evt.imp2 QuZ (Evt.imp2 Qys (Evt.imp2 Qyr (Evt.imp2 QyM (Evt.imp2 Qyq (Evt.imp2 QyD (Evt.imp2 QyJ (Evt.imp2 QyK (Evt.imp2 Qyk (Evt.imp2 QyC (QyH) fun n a b => And.intro a b) fun n a b => And.intro a b) fun n a b => And.intro a b) fun n a b => And.intro a b) fun n a b => And.intro a b) fun n a b => And.intro a b) fun n a b => And.intro a b) fun n a b => And.intro a b) fun n a b => And.intro a b) fun n a b => And.intro a b) fun n ⟨h_sample,h_cA,h_cB,h_dv,h_pr,h_pa,h_pb,h_sm,h_ck,h_sf,h_se⟩ => by
  rw [Qsn,QoG]
  exact (Qo1 1 n).trans (stO _ h_sample (stO _ h_cA (stO _ rfl (stO _ rfl (stO _ rfl (stO _ rfl (stO _ rfl (stO _ rfl (stO _ rfl (stC rfl (stO _ rfl (stO _ rfl (stO _ rfl (stO _ rfl (stO _ rfl (stO _ rfl ((Qpm 1 n _ _ _ _ _ _ _ _ _ _ _).trans (stO _ h_sample (stO _ h_cB (stO _ rfl (stO _ rfl (stO _ rfl (stO _ rfl (stO _ rfl (stO _ rfl (stO _ rfl (stC rfl (stO _ rfl (stO _ rfl (stO _ rfl (stO _ rfl (stO _ rfl (stO _ rfl ((Qov 1 n _ _ _ _ _ _ _ _ _ _ _ _ _ _ _ _ _ _ _ _ _ _).trans (stO _ h_sample (stO _ h_dv (stO _ rfl (stO _ rfl (stO _ rfl (stO _ rfl (stO _ rfl (stO _ rfl (stO _ rfl (stC rfl (stO _ rfl (stO _ rfl (stO _ rfl (stO _ rfl (stO _ rfl (stO _ rfl (stO _ rfl (stC rfl (stO _ rfl (stO _ rfl (stO _ rfl (stO _ rfl (stO _ rfl (stO _ rfl ((Qpd 1 n _ _ _ _ _ _ _ _ _ _ _ _ _ _ _ _ _ _ _ _ _ _ _ _ _ _ _ _ _ _ _ _ _ _ _ _ _ _ _).trans (stO _ h_sample (stO _ h_pr (stO _ rfl (stO _ rfl (stO _ rfl (stO _ rfl ((QoX 1 n _ _ _ _ _ _ _ _ _ _ _ _ _ _ _ _ _ _ _ _ _ _ _ _ _ _ _ _ _ _ _ _ _ _ _ _ _ _ _ _ _ _ _).trans (stO _ h_pa (stO _ rfl (stO _ rfl (stO _ rfl (stO _ rfl (stO _ rfl (stO _ rfl (stO _ rfl (stC rfl (stO _ rfl (stO _ rfl (stO _ rfl (stO _ rfl (stO _ rfl (stO _ rfl ((QoT 1 n _ _ _ _ _ _ _ _ _ _ _ _ _ _ _ _ _ _ _ _ _ _ _ _ _ _ _ _ _ _ _ _ _ _ _ _ _ _ _ _ _ _ _ _ _ _ _ _ _ _ _ _ _).trans (stO _ h_pb (stO _ rfl (stO _ rfl (stO _ rfl (stO _ rfl (stO _ rfl (stO _ rfl (stO _ rfl (stC rfl (stO _ rfl (stO _ rfl (stO _ rfl (stO _ rfl (stO _ rfl (stO _ rfl ((Qpu 1 n _ _ _ _ _ _ _ _ _ _ _ _ _ _ _ _ _ _ _ _ _ _ _ _ _ _ _ _ _ _ _ _ _ _ _ _ _ _ _ _ _ _ _ _ _ _ _ _ _ _ _ _ _ _ _ _ _ _ _ _ _ _ _).trans (stO _ h_sample (stO _ rfl (stC rfl (stO _ rfl (stO _ rfl (stO _ rfl (stO _ rfl (stO _ rfl (stO _ rfl ((QoD 1 n _ _ _ _ _ _ _ _ _ _ _ _ _ _ _ _ _ _ _ _ _ _ _ _ _ _ _ _ _ _ _ _ _ _ _ _ _ _ _ _ _ _ _ _ _ _ _ _ _ _ _ _ _ _ _ _ _ _ _ _ _ _ _ _ _ _ _ _ _ _).trans (stO _ rfl (stC rfl (stC rfl ((Qxc 1 n).trans (stO _ h_sample (stO _ h_sm (stO _ rfl (stT rfl (stO _ rfl (stT rfl (stO _ rfl (stT rfl (stO _ h_ck (stO _ h_sf (stO _ rfl (stT rfl (stO _ h_sample (stO _ h_se (stO _ rfl (rfl)))))))))))))))))))))))))))))))))))))))))))))))))))))))))))))))))))))))))))))))))))))))))))))))))))))))))))))))))))))))))))))))))
end Go.Proofs
