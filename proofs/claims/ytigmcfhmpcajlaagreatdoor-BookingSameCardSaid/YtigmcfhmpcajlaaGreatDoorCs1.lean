/- Chapter 35: the law BookingSame on plain data. Conditions: as each says. -/
import Derived.Test.YtigmcfhmpcajlaaGreatDoorCq
import Derived.Test.YtigmcfhmpcajlaaGreatDoorW35
set_option linter.unusedSimpArgs false
set_option linter.unusedVariables false
namespace Go.Proofs
open Go.Am
theorem QjJ (a b : Bk) : Ret 1 QcY [.agg (bkE a), .agg (bkE b)] (.bool true) := by
 have hA := Qmv
 have hS := Qj3 1 a
 have hT := Qj3 1 b
 have eqn : ∀ n, top 1 n QcY [.agg (bkE a), .agg (bkE b)] = _ := fun n => Qho 1 n a.loc a.pn (a.ps.map peE) a.grp a.bn (a.segs.map sgE) a.rn (a.svs.map svE) a.lim b.loc b.pn (b.ps.map peE) b.grp b.bn (b.segs.map sgE) b.rn (b.svs.map svE) b.lim
 cases ha : QfG a with
 | false =>
  rw [ha] at hS
  exact .top rfl (Evt.imp2 hA hS fun n h c => by rw [eqn]; exact stO _ c (stO _ (Qb1 _) (stT rfl (stO _ h rfl))))
 | true =>
 rw [ha] at hS
 cases hb : QfG b with
 | false =>
  rw [hb] at hT
  exact .top rfl (Evt.imp2 hA (Evt.imp2 hS hT fun n x y => And.intro x y) fun n h ⟨c, d⟩ => by rw [eqn]; exact stO _ c (stO _ (Qb1 _) (stF rfl (stO _ d (stO _ (Qb1 _) (stT rfl (stO _ h rfl)))))))
 | true =>
  rw [hb] at hT
  have ok := QnN ha
  have h1 : a.ps.length ≤ 1000000 := by have := ok.ps; omega
  have h2 : a.segs.length ≤ 1000000 := by have := ok.segs; omega
  have h3 : a.svs.length ≤ 1000000 := by have := ok.svs; omega
  have q1 := Qe0 1 a b h1 h2 h3
  have q2 := QlA 1 a b h1 h2 h3
  have q3 := Qe0 1 a a h1 h2 h3
  rw [Qm7] at q3
  have q4 := QhM 1 a h1
  have q5 := QkB 1 a h1
  refine .top rfl (Evt.imp2 (Evt.imp2 hA (Evt.imp2 hS hT fun n x y => And.intro x y) fun n x y => And.intro x y) (Evt.imp2 (Evt.imp2 q1 q2 fun n x y => And.intro x y) (Evt.imp2 q3 (Evt.imp2 q4 q5 fun n x y => And.intro x y) fun n x y => And.intro x y) fun n x y => And.intro x y) fun n ⟨h, c, d⟩ ⟨⟨r1, r2⟩, r3, r4, r5⟩ => ?_)
  rw [eqn]
  exact stO _ c (stO _ (Qb1 _) (stF rfl (stO _ d (stO _ (Qb1 _) (stF rfl (stO _ r1 (stO _ r2 (stO _ (Qb1 _) (stO _ (Qb1 _) (stT (by simp) (stO _ r3 (stO _ (Qb1 _) (stT rfl (stO _ r4 (stO _ r5 (stO _ (QaA ..) (stO _ (QaA ..) (stT (beqT rfl) (stO _ h rfl)))))))))))))))))))
end Go.Proofs
