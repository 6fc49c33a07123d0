/- The law RevisionPacks of chapter 10 holds of the program. Conditions: none beyond the given rows. -/
import Derived.Test.YtdcpdknginpohaaGreatDoorJd10
import Derived.Test.YtdcpdknginpohaaGreatDoorNC
import Derived.Test.YtdcpdknginpohaaGreatDoorTie
import Derived.Test.YtdcpdknginpohaaGreatDoorCards
import Derived.SevenTiedAt
namespace Go.Proofs.YtdcpdknginpohaaGreatDoor
open Go.ChangeShapes Go.WideShapes Go.ChangeAt Go.RowKit Go.Am
set_option maxRecDepth 100000 in
theorem Qjv (os : Os) (started : os.Started) (H : Type) (enc : TypeId × Value → H) :
  ReturnsInHanded {} Tryz.checked os 6 .any (fun w args => (Rows.revisionPacksSpec.pre enc Tryz.prog Tryz.f6 [] false w args ∧ laidMetH Tryz.prog Rows.revisionPacksRow.laid w) ∧ sizedMet enc Tryz.prog Tryz.f6 (OpenSpec.ofChange Rows.revisionPacksSpec) false w args)
   (Rows.revisionPacksSpec.post enc Tryz.prog Tryz.f6 false true false false) := by
 refine Qtx (C := Tryz.checked) (tb := 4) (laid := Rows.revisionPacksRow.laid) Tryz.own started (by kernel_rfl) Tryz.func6
  (ChangeSpec.witness_shaped (enc := enc) (C := Tryz.checked) (os := os) (X := fun w _ => laidMetH Tryz.prog Rows.revisionPacksRow.laid w) false (World.laidAll Tryz.prog os Rows.revisionPacksRow.laid) #[.agg #[.slice none 0 0, .slice none 0 0], .slice none 0 0, .int .i64 0] 8 (World.laidAll_os _ _ _)
   (World.shaped_of_ZipB (by kernel_rfl) (by kernel_rfl)) (by kernel_rfl) (by kernel_rfl) (by kernel_rfl)
   (by rw [MakeChecks.laidMetH_plain _ _ _ (by kernel_rfl)]; exact laidMet_laidAll _ (by kernel_rfl) (by kernel_rfl)))
  QrQ (by kernel_rfl) (by kernel_rfl) (by kernel_rfl) Tryz.underlying4 rfl (fun ds hd => ?_) fun W M vs cs hsh hL hA hR => ?_
 ·match ds, hd with
  | [d0, d1, d2], _ => rfl
 ·have hT : Tw 0 W := Qwp hsh (by kernel_rfl) hL (.tail _ (.tail _ (.tail _ (.head _)))) (.head _) (fun q => absurd q (by decide))
  rw [Tryz.params6] at hA
  obtain ⟨c0, r0, rfl, h0, hA⟩ := ArgsTy.cons hA
  obtain ⟨c1, r1, rfl, h1, hA⟩ := ArgsTy.cons hA
  obtain ⟨c2, r2, rfl, h2, hA⟩ := ArgsTy.cons hA
  obtain rfl := ArgsTy.nil hA
  obtain ⟨p, rfl, hp, _⟩ := QsA h0
  obtain ⟨bn, l, rfl, hl, hl2⟩ := Qko h1
  obtain ⟨day, rfl, _⟩ := ArgTy.int Tryz.underlying3 h2
  obtain ⟨n, hn⟩ := (Qmy 0 p hp bn l hl (fun f hf x hx => (hl2 f hf x hx).2) day).one
  exact Tryz.walk hn W hT M vs hR
theorem QmA : (Rows.revisionPacksRow.inPlace == Tryz.prog.inPlace 6) = true := by kernel_rfl
theorem Qmk : (Rows.revisionPacksRow.unfollowed == Tryz.prog.unfollowed 6) = true := by kernel_rfl
theorem Qms : (Rows.revisionPacksRow.recurses == Tryz.prog.recurses 6) = true := by kernel_rfl
theorem Qmx : (Rows.revisionPacksRow.named == Tryz.prog.varsNamed 6) = true := by kernel_rfl
theorem Qjd : joinedFacts Tryz.prog 6 Tryz.f6 Rows.revisionPacksSpec Rows.revisionPacksRow = true := by
 unfold joinedFacts
 simp only [Bool.and_eq_true]
 exact ⟨⟨⟨⟨⟨⟨⟨⟨⟨⟨⟨⟨⟨⟨⟨⟨⟨⟨⟨⟨⟨⟨⟨⟨⟨⟨⟨⟨⟨⟨⟨by kernel_rfl, QrQ⟩, Que⟩, by kernel_rfl⟩, by kernel_rfl⟩, rfl⟩, Quj⟩, rfl⟩, Quq⟩, QmA⟩, Qmk⟩, Qms⟩, Qmx⟩, by kernel_rfl⟩, by kernel_rfl⟩, by kernel_rfl⟩, by kernel_rfl⟩, by kernel_rfl⟩, by kernel_rfl⟩, by kernel_rfl⟩, by kernel_rfl⟩, by kernel_rfl⟩, Qvi⟩, rfl⟩, Quu⟩, Qur⟩, Qtc⟩, QvO⟩, by kernel_rfl⟩, by kernel_rfl⟩, by kernel_rfl⟩, by kernel_rfl⟩
theorem revisionPacks_fn : Tryz.prog.funcNamed "airline/airlinelaw10.RevisionPacks" = some 6 := by kernel_rfl
theorem QkV : false = Rows.revisionPacksRow.goesBy Tryz.prog := by kernel_rfl
theorem Qj1 : Rows.RevisionPacksSaid :=
 OpenClaim.holds_of_wide 6 Tryz.f6 rfl rfl rfl rfl rfl rfl rfl ⟨rfl, rfl, rfl, rfl, rfl⟩ rfl rfl rfl rfl rfl revisionPacks_fn Tryz.func6 Qjd
  (of_decide_eq_true (by kernel_rfl)) (by unfold Func.isWrapper; first | (rw [if_pos (by decide +kernel)]; kernel_rfl) | (rw [if_neg (by decide +kernel)]; exact ⟨rfl, rfl⟩))
  (fun os started H enc _ => Qjv os started H enc)
theorem RevisionPacksHolds : Rows.RevisionPacksCardSaid :=
 Claim7.holds_tied_plain_at .later [] [.data, .data, .data, .data] true (true, "b87047f6675b9913d9f0592e2ea0dd659961c8b449ebf9dffd428cda67c90b5c") true
  Qj1 (fun _ h => by cases h) (by kernel_rfl) (fun _ h => by cases h) revisionPacks_row_tie rfl ⟨rfl, rfl⟩ Qvt rfl
  (fun f fn hf hfn => by
   obtain rfl : f = 6 := Option.some.inj (revisionPacks_fn.symm.trans hf) |>.symm
   obtain rfl : fn = Tryz.f6 := (Option.some.inj (Tryz.func6.symm.trans hfn)).symm
   exact ⟨QuD, fun j t ht => by
    rw [Tryz.params6] at ht
    have hm : t ∈ [25, 26, 3] := by simpa using Array.mem_of_getElem? ht
    have hall : ([25, 26, 3].all fun u => !Tryz.prog.wantsStandIn u) = true := by kernel_rfl
    exact (show Tryz.prog.wantsStandIn t = false by simpa using List.all_eq_true.1 hall t hm)⟩)
  QkV
end Go.Proofs.YtdcpdknginpohaaGreatDoor
