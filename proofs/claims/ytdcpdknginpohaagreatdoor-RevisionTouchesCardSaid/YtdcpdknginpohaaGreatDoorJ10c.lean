/- The law RevisionTouches of chapter 10 holds of the program. Conditions: none beyond the given rows. -/
import Derived.Test.YtdcpdknginpohaaGreatDoorNC
import Derived.Test.YtdcpdknginpohaaGreatDoorTie
import Derived.Test.YtdcpdknginpohaaGreatDoorCards
import Derived.SevenTiedAt
namespace Go.Proofs.YtdcpdknginpohaaGreatDoor
open Go.ChangeShapes Go.WideShapes Go.ChangeAt Go.RowKit Go.Am
set_option maxRecDepth 100000 in
theorem QhC (os : Os) (started : os.Started) (H : Type) (enc : TypeId × Value → H) :
  ReturnsInHanded {} Tryz.checked os 8 .any (fun w args => (Rows.revisionTouchesSpec.pre enc Tryz.prog Tryz.f8 [] false w args ∧ laidMetH Tryz.prog Rows.revisionTouchesRow.laid w) ∧ sizedMet enc Tryz.prog Tryz.f8 (OpenSpec.ofChange Rows.revisionTouchesSpec) false w args)
   (Rows.revisionTouchesSpec.post enc Tryz.prog Tryz.f8 false true false false) := by
 refine Qsm (C := Tryz.checked) (tb := 4) (laid := Rows.revisionTouchesRow.laid) Tryz.own started (by kernel_rfl) Tryz.func8
  (ChangeSpec.witness_shaped (enc := enc) (C := Tryz.checked) (os := os) (X := fun w _ => laidMetH Tryz.prog Rows.revisionTouchesRow.laid w) false (World.laidAll Tryz.prog os Rows.revisionTouchesRow.laid) #[.agg #[.slice none 0 0, .slice none 0 0], .slice none 0 0, .slice none 0 0] 8 (World.laidAll_os _ _ _)
   (World.shaped_of_ZipB (by kernel_rfl) (by kernel_rfl)) (by kernel_rfl) (by kernel_rfl) (by kernel_rfl)
   (by rw [MakeChecks.laidMetH_plain _ _ _ (by kernel_rfl)]; exact laidMet_laidAll _ (by kernel_rfl) (by kernel_rfl)))
  Qqz (by kernel_rfl) (by kernel_rfl) (by kernel_rfl) Tryz.underlying4 rfl (fun ds hd => ?_) fun W M vs cs hsh hL hA hR => ?_
 ·match ds, hd with
  | [d0, d1, d2], _ => rfl
 ·have hT : Tw 0 W := QuD hsh (by kernel_rfl) hL (.tail _ (.tail _ (.tail _ (.head _)))) (.head _) (fun q => absurd q (by decide))
  rw [Tryz.params8] at hA
  obtain ⟨c0, r0, rfl, h0, hA⟩ := ArgsTy.cons hA
  obtain ⟨c1, r1, rfl, h1, hA⟩ := ArgsTy.cons hA
  obtain ⟨c2, r2, rfl, h2, hA⟩ := ArgsTy.cons hA
  obtain rfl := ArgsTy.nil hA
  obtain ⟨p, rfl, hp, _⟩ := Qrb h0
  obtain ⟨bn, l, rfl, hl⟩ := Qp1 h1
  obtain ⟨cn, S, rfl⟩ := Qtb h2
  obtain ⟨n, hn⟩ := (Qj4 0 p hp bn l hl cn S).one
  exact Tryz.walk hn W hT M vs hR
theorem QjW : (Rows.revisionTouchesRow.inPlace == Tryz.prog.inPlace 8) = true := by kernel_rfl
theorem Qjs : (Rows.revisionTouchesRow.unfollowed == Tryz.prog.unfollowed 8) = true := by kernel_rfl
theorem QjO : (Rows.revisionTouchesRow.recurses == Tryz.prog.recurses 8) = true := by kernel_rfl
theorem Qjp : (Rows.revisionTouchesRow.named == Tryz.prog.varsNamed 8) = true := by kernel_rfl
theorem QhI : joinedFacts Tryz.prog 8 Tryz.f8 Rows.revisionTouchesSpec Rows.revisionTouchesRow = true := by
 unfold joinedFacts
 simp only [Bool.and_eq_true]
 exact ⟨⟨⟨⟨⟨⟨⟨⟨⟨⟨⟨⟨⟨⟨⟨⟨⟨⟨⟨⟨⟨⟨⟨⟨⟨⟨⟨⟨⟨⟨⟨by kernel_rfl, Qqz⟩, QsU⟩, by kernel_rfl⟩, by kernel_rfl⟩, rfl⟩, Qs5⟩, rfl⟩, Qs1⟩, QjW⟩, Qjs⟩, QjO⟩, Qjp⟩, by kernel_rfl⟩, by kernel_rfl⟩, by kernel_rfl⟩, by kernel_rfl⟩, by kernel_rfl⟩, by kernel_rfl⟩, by kernel_rfl⟩, by kernel_rfl⟩, by kernel_rfl⟩, QtU⟩, rfl⟩, Qte⟩, Qs4⟩, Qsl⟩, QtZ⟩, by kernel_rfl⟩, by kernel_rfl⟩, by kernel_rfl⟩, by kernel_rfl⟩
theorem revisionTouches_fn : Tryz.prog.funcNamed "airline/airlinelaw10.RevisionTouches" = some 8 := by kernel_rfl
theorem Qiq : false = Rows.revisionTouchesRow.goesBy Tryz.prog := by kernel_rfl
theorem Qh1 : Rows.RevisionTouchesSaid :=
 OpenClaim.holds_of_wide 8 Tryz.f8 rfl rfl rfl rfl rfl rfl rfl ⟨rfl, rfl, rfl, rfl, rfl⟩ rfl rfl rfl rfl rfl revisionTouches_fn Tryz.func8 QhI
  (of_decide_eq_true (by kernel_rfl)) (by unfold Func.isWrapper; first | (rw [if_pos (by decide +kernel)]; kernel_rfl) | (rw [if_neg (by decide +kernel)]; exact ⟨rfl, rfl⟩))
  (fun os started H enc _ => QhC os started H enc)
theorem RevisionTouchesHolds : Rows.RevisionTouchesCardSaid :=
 Claim7.holds_tied_plain_at .later [] [.data, .data, .data, .data] true (true, "b87047f6675b9913d9f0592e2ea0dd659961c8b449ebf9dffd428cda67c90b5c") true
  Qh1 (fun _ h => by cases h) (by kernel_rfl) (fun _ h => by cases h) revisionTouches_row_tie rfl ⟨rfl, rfl⟩ Qt4 rfl
  (fun f fn hf hfn => by
   obtain rfl : f = 8 := Option.some.inj (revisionTouches_fn.symm.trans hf) |>.symm
   obtain rfl : fn = Tryz.f8 := (Option.some.inj (Tryz.func8.symm.trans hfn)).symm
   exact ⟨QsH, fun j t ht => by
    rw [Tryz.params8] at ht
    have hm : t ∈ [25, 26, 58] := by simpa using Array.mem_of_getElem? ht
    have hall : ([25, 26, 58].all fun u => !Tryz.prog.wantsStandIn u) = true := by kernel_rfl
    exact (show Tryz.prog.wantsStandIn t = false by simpa using List.all_eq_true.1 hall t hm)⟩)
  Qiq
end Go.Proofs.YtdcpdknginpohaaGreatDoor
