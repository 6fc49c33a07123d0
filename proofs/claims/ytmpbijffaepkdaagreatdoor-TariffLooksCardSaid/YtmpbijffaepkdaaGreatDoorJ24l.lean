/- The law TariffLooks of chapter 24 holds of the program. Conditions: none beyond the given rows. -/
import Derived.Test.YtmpbijffaepkdaaGreatDoorJd24
import Derived.Test.YtmpbijffaepkdaaGreatDoorYA
import Derived.Test.YtmpbijffaepkdaaGreatDoorW24
import Derived.Test.YtmpbijffaepkdaaGreatDoorTie
import Derived.Test.YtmpbijffaepkdaaGreatDoorCards
import Derived.SevenTiedAt
namespace Go.Proofs.YtmpbijffaepkdaaGreatDoor
open Go.ChangeShapes Go.WideShapes Go.ChangeAt Go.RowKit Go.Am
set_option maxRecDepth 100000 in
theorem Qgl (os : Os) (started : os.Started) (H : Type) (enc : TypeId × Value → H) :
  ReturnsInHanded {} Tryz.checked os 4 .any (fun w args => (Rows.tariffLooksSpec.pre enc Tryz.prog Tryz.f4 [] false w args ∧ laidMetH Tryz.prog Rows.tariffLooksRow.laid w) ∧ sizedMet enc Tryz.prog Tryz.f4 (OpenSpec.ofChange Rows.tariffLooksSpec) false w args)
   (Rows.tariffLooksSpec.post enc Tryz.prog Tryz.f4 false true false false) := by
 refine Qk2 (C := Tryz.checked) (S := [27, 3, 22, 23, 24, 25, 72, 41, 46, 81, 9, 4, 38, 29, 39, 44, 36, 33, 35, 84, 86]) (tb := 4) (laid := Rows.tariffLooksRow.laid) (by kernel_rfl) Tryz.own started (by kernel_rfl) Tryz.func4
  (ChangeSpec.witness_shaped (enc := enc) (C := Tryz.checked) (os := os) (X := fun w _ => laidMetH Tryz.prog Rows.tariffLooksRow.laid w) false (World.laidAll Tryz.prog os Rows.tariffLooksRow.laid) #[.agg #[.slice none 0 0, .slice none 0 0, .slice none 0 0, .slice none 0 0], .int .i64 0] 8 (World.laidAll_os _ _ _)
   (World.shaped_of_ZipB (by kernel_rfl) (by kernel_rfl)) (by kernel_rfl) (by kernel_rfl) (by kernel_rfl)
   (by rw [MakeChecks.laidMetH_plain _ _ _ (by kernel_rfl)]; exact laidMet_laidAll _ (by kernel_rfl) (by kernel_rfl)))
  QkQ (by kernel_rfl) (by kernel_rfl) (by kernel_rfl) Tryz.underlying4 rfl (fun ds hd => ?_) fun W M vs cs hsh hL hA hR => ?_
 ·match ds, hd with
  | [d0, d1], _ => rfl
 ·have hT : Tw 1 W := Qn1 hsh (by kernel_rfl) hL (.tail _ (.tail _ (.tail _ (.head _)))) (.tail _ (.tail _ (.tail _ (.tail _ (.tail _ (.tail _ (.tail _ (.head _)))))))) (fun _ => ⟨.tail _ (.tail _ (.tail _ (.tail _ (.tail _ (.tail _ (.head _)))))), .tail _ (.tail _ (.tail _ (.tail _ (.tail _ (.head _)))))⟩)
  rw [Tryz.params4] at hA
  obtain ⟨c0, r0, rfl, h0, hA⟩ := ArgsTyR.cons hA
  obtain ⟨c1, r1, rfl, h1, hA⟩ := ArgsTyR.cons hA
  obtain rfl := ArgsTyR.nil hA
  obtain ⟨t, rfl, ht⟩ := QnI h0
  obtain ⟨z, rfl⟩ := QnC h1
  obtain ⟨n, hn⟩ := (QhX 1 (Qli 0) t ht z).one
  exact Tryz.walk hn W hT M vs hR
theorem Qit : (Rows.tariffLooksRow.inPlace == Tryz.prog.inPlace 4) = true := by kernel_rfl
theorem Qiz : (Rows.tariffLooksRow.unfollowed == Tryz.prog.unfollowed 4) = true := by kernel_rfl
theorem Qik : (Rows.tariffLooksRow.recurses == Tryz.prog.recurses 4) = true := by kernel_rfl
theorem Qim : (Rows.tariffLooksRow.named == Tryz.prog.varsNamed 4) = true := by kernel_rfl
theorem Qgx : joinedFacts Tryz.prog 4 Tryz.f4 Rows.tariffLooksSpec Rows.tariffLooksRow = true := by
 unfold joinedFacts
 simp only [Bool.and_eq_true]
 exact ⟨⟨⟨⟨⟨⟨⟨⟨⟨⟨⟨⟨⟨⟨⟨⟨⟨⟨⟨⟨⟨⟨⟨⟨⟨⟨⟨⟨⟨⟨⟨by kernel_rfl, QkQ⟩, QmA⟩, by kernel_rfl⟩, by kernel_rfl⟩, rfl⟩, QmM⟩, rfl⟩, QmB⟩, Qit⟩, Qiz⟩, Qik⟩, Qim⟩, by kernel_rfl⟩, by kernel_rfl⟩, by kernel_rfl⟩, by kernel_rfl⟩, by kernel_rfl⟩, by kernel_rfl⟩, by kernel_rfl⟩, by kernel_rfl⟩, by kernel_rfl⟩, Qnj⟩, rfl⟩, QmC⟩, Qmr⟩, Qmb⟩, Qnw⟩, by kernel_rfl⟩, by kernel_rfl⟩, by kernel_rfl⟩, by kernel_rfl⟩
theorem tariffLooks_fn : Tryz.prog.funcNamed "airline/airlinelaw24.TariffLooks" = some 4 := by kernel_rfl
theorem Qhw : false = Rows.tariffLooksRow.goesBy Tryz.prog := by kernel_rfl
theorem QgV : Rows.TariffLooksSaid :=
 OpenClaim.holds_of_wide 4 Tryz.f4 rfl rfl rfl rfl rfl rfl rfl ⟨rfl, rfl, rfl, rfl, rfl⟩ rfl rfl rfl rfl rfl tariffLooks_fn Tryz.func4 Qgx
  (of_decide_eq_true (by kernel_rfl)) (by unfold Func.isWrapper; first | (rw [if_pos (by decide +kernel)]; kernel_rfl) | (rw [if_neg (by decide +kernel)]; exact ⟨rfl, rfl⟩))
  (fun os started H enc _ => Qgl os started H enc)
theorem TariffLooksHolds : Rows.TariffLooksCardSaid :=
 Claim7.holds_tied_plain_at .later [] [.data, .data, .data, .data, .data, .sentinel, .sentinel, .data, .pinned] true (true, "e1c966f8f8480a1b87a2223572a0ccae1c8646e05a03f39d5edbc9d99738ed78") true
  QgV (fun _ h => by cases h) (by kernel_rfl) (fun _ h => by cases h) tariffLooks_row_tie rfl ⟨rfl, rfl⟩ QnB rfl
  (fun f fn hf hfn => by
   obtain rfl : f = 4 := Option.some.inj (tariffLooks_fn.symm.trans hf) |>.symm
   obtain rfl : fn = Tryz.f4 := (Option.some.inj (Tryz.func4.symm.trans hfn)).symm
   exact ⟨QmS, fun j t ht => by
    rw [Tryz.params4] at ht
    have hm : t ∈ [27, 3] := by simpa using Array.mem_of_getElem? ht
    have hall : ([27, 3].all fun u => !Tryz.prog.wantsStandIn u) = true := by kernel_rfl
    exact (show Tryz.prog.wantsStandIn t = false by simpa using List.all_eq_true.1 hall t hm)⟩)
  Qhw
end Go.Proofs.YtmpbijffaepkdaaGreatDoor
