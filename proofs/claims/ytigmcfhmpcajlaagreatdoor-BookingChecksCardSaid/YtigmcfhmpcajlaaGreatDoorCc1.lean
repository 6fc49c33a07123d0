/- Chapter 35: the law BookingChecks on plain data. Conditions: as each says. -/
import Derived.Test.YtigmcfhmpcajlaaGreatDoorCn
import Derived.Test.YtigmcfhmpcajlaaGreatDoorW35
set_option linter.unusedSimpArgs false
set_option linter.unusedVariables false
namespace Go.Proofs
open Go.Am
theorem QjS (lb : Nat) (an cn : Bool) (l : List Fau) (hl : l.length ≤ 1000000) : ∀ (t p : List Fau), p ++ t = l → ∀ n k, t.length < k → Qdi lb n k an (l.map fauE) cn (l.map fauE) (p.length : Int) = some (.bool true)
 | [], p, h, n, k, hk => by
  obtain ⟨k, rfl⟩ : ∃ j, k = j + 1 := ⟨k - 1, by simp at hk; omega⟩
  have hp : p = l := by simpa using h
  rw [QeJ]
  refine stF (decF (by simp [hp])) ?_
  rw [Qjl]
 | x :: t, p, h, n, k, hk => by
  obtain ⟨k, rfl⟩ : ∃ j, k = j + 1 := ⟨k - 1, by simp at hk; omega⟩
  have hpl : p.length + (t.length + 1) = l.length := by rw [← h]; simp
  have hat : atL (l.map fauE) (p.length : Int) = some (fauE x) := Qdk (by rw [List.getElem?_map, ← h]; simp)
  have hw : IntKind.wrap .i64 ((p.length : Int) + 1) = ((p ++ [x]).length : Int) := by rw [QaK (by omega) (by omega)]; simp
  have ih := QjS lb an cn l hl t (p ++ [x]) (by rw [← h]; simp) n k (by simp at hk; omega)
  rw [QeJ, hw]
  exact stT (decT (by simp; omega)) (stO _ hat (stC rfl (stO _ rfl (stO _ rfl (stO _ hat (stC rfl (stO _ rfl (stO _ rfl (stO _ (Qa2 ..) (stO _ (Qa2 ..) (stO _ rfl (stO _ rfl (stF (by simp) ih)))))))))))))
theorem QnI (lb : Nat) (l : List Fau) (hl : l.length ≤ 1000000) : Ret lb QaE [QaG l, QaG l] (.bool true) :=
 .top rfl ((Evt.ge (l.length + 1)).mono fun n hn => by
  rw [show top lb n QaE [QaG l, QaG l] = _ from Qlo lb n l.isEmpty (l.map fauE) l.isEmpty (l.map fauE)]
  exact stF (bneF rfl) (QjS lb l.isEmpty l.isEmpty l hl l [] rfl n n (by omega)))
theorem QsF (loc : Bs) (ps : List Pe) (g : Int) (l : List Sg) (svs : List Sv) (lim : Int) : (Qk4 loc ps g l svs lim).length ≤ 2 * ps.length + 4 * l.length + 2 * svs.length + 10 := by
 unfold Qk4
 have a1 := QaR (!Qby loc 6 6) 5 Qgd
 have a2 := QaR (QeO lim) 13 QdF
 have a3 := QnP ps g
 have a4 := QaR (decide ((l.length : Int) > 24)) 4 Qbr
 have a5 := QaR (marE (mars l) != 0) (marE (mars l)) Qbr
 have a6 := Qde QlU l 0
 have a7 := Qde (QnM ps.length l.length) svs 0
 simp only [List.length_append]; omega
theorem Qpm (lb : Nat) {b : Bk} (ok : SmallOk b) : Ret lb Qaa [.agg (bkE b)] (QaG (Qk7 b)) ∧ Ret lb Qad [.agg (bkE b)] (QaG (Qk7 b)) := by
 have hl := ok.loc
 have h1 := ok.ps
 have h2 := ok.segs
 have h3 := ok.svs
 refine ⟨Qlr lb b.loc b.pn b.ps b.grp b.bn b.segs b.rn b.svs b.lim (by omega) (by omega) (fun p hp => ?_) (by omega) (fun s hs => ?_) (by omega) (fun x hx => ?_),
  Qo6 lb b (by omega) (by omega) (fun p hp => ?_) (by omega) (fun s hs => ?_) (by omega) (fun x hx => ?_)⟩
 ·have := ok.pe p hp; exact ⟨by omega, by omega, by omega⟩
 ·have := ok.sg s hs; exact ⟨by omega, by omega, by omega⟩
 ·have := ok.sv x hx; omega
 ·have := ok.pe p hp; exact ⟨by omega, by omega, by omega⟩
 ·have := ok.sg s hs; exact ⟨⟨by omega, by omega, by omega⟩, by omega⟩
 ·have := ok.sv x hx; omega
theorem Qmp (b : Bk) : Ret 1 QdP [.agg (bkE b)] (.bool true) := by
 have hA := QrT
 have hS := Qr8 1 b
 have eqn : ∀ n, top 1 n QdP [.agg (bkE b)] = _ := fun n => Qjs 1 n b.loc b.pn (b.ps.map peE) b.grp b.bn (b.segs.map sgE) b.rn (b.svs.map svE) b.lim
 cases hb : QkP b with
 | false =>
  rw [hb] at hS
  exact .top rfl (hS.mono fun n c => by rw [eqn]; exact stO _ c (stO _ (QaL _) (stT rfl rfl)))
 | true =>
  rw [hb] at hS
  have ok := Qtq hb
  obtain ⟨c1, c2⟩ := Qpm 1 ok
  have h1 := ok.ps
  have h2 := ok.segs
  have h3 := ok.svs
  have hlen := QsF b.loc b.ps b.grp b.segs b.svs b.lim
  have c3 := QnI 1 (Qk7 b) (by unfold Qk7; omega)
  refine .top rfl (Evt.imp2 (Evt.imp2 hA hS fun n x y => And.intro x y) (Evt.imp2 c1 (Evt.imp2 c2 c3 fun n x y => And.intro x y) fun n x y => And.intro x y) fun n ⟨h, c⟩ ⟨d1, d2, d3⟩ => ?_)
  rw [eqn]
  exact stO _ c (stO _ (QaL _) (stF rfl (stO _ d1 (stO _ d2 (stO _ d3 (stO _ (QaL _) (stT rfl (stO _ h rfl))))))))
end Go.Proofs
