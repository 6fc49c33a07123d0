/- The law RevisionApplies of chapter 10 holds of the program. Conditions: none beyond the given rows. -/
import Derived.Test.YtdcpdknginpohaaGreatDoorJd10
import Derived.Test.YtdcpdknginpohaaGreatDoorNB
import Derived.Test.YtdcpdknginpohaaGreatDoorTie
import Derived.Test.YtdcpdknginpohaaGreatDoorCards
import Derived.SevenTiedAt
namespace Go.Proofs.YtdcpdknginpohaaGreatDoor
open Go.ChangeShapes Go.WideShapes Go.ChangeAt Go.RowKit Go.Am
set_option maxRecDepth 100000 in
theorem Qkn (os : Os) (started : os.Started) (H : Type) (enc : TypeId × Value → H) :
  ReturnsInHanded {} Tryz.checked os 4 .any (fun w args => (Rows.revisionAppliesSpec.pre enc Tryz.prog Tryz.f4 [] false w args ∧ laidMetH Tryz.prog Rows.revisionAppliesRow.laid w) ∧ sizedMet enc Tryz.prog Tryz.f4 (OpenSpec.ofChange Rows.revisionAppliesSpec) false w args)
   (Rows.revisionAppliesSpec.post enc Tryz.prog Tryz.f4 false true false false) := by
 refine QwO (C := Tryz.checked) (tb := 4) (laid := Rows.revisionAppliesRow.laid) Tryz.own started (by kernel_rfl) Tryz.func4
  (ChangeSpec.witness_shaped (enc := enc) (C := Tryz.checked) (os := os) (X := fun w _ => laidMetH Tryz.prog Rows.revisionAppliesRow.laid w) false (World.laidAll Tryz.prog os Rows.revisionAppliesRow.laid) #[.agg #[.slice none 0 0, .slice none 0 0], .slice none 0 0, .agg #[.int .i64 0, .string ⟨#[]⟩, .int .i64 0, .int .i64 0, .int .i64 0, .int .i64 0, .int .i64 0, .string ⟨#[]⟩, .slice none 0 0]] 8 (World.laidAll_os _ _ _)
   (World.shaped_of_ZipB (by kernel_rfl) (by kernel_rfl)) (by kernel_rfl) (by kernel_rfl) (by kernel_rfl)
   (by rw [MakeChecks.laidMetH_plain _ _ _ (by kernel_rfl)]; exact laidMet_laidAll _ (by kernel_rfl) (by kernel_rfl)))
  Qvs (by kernel_rfl) (by kernel_rfl) (by kernel_rfl) Tryz.underlying4 rfl (fun ds hd => ?_) fun W M vs cs hsh hL hA hR => ?_
 ·match ds, hd with
  | [d0, d1, d2], _ => rfl
 ·have hT : Tw 0 W := QAa hsh (by kernel_rfl) hL (.tail _ (.tail _ (.tail _ (.head _)))) (.head _) (fun q => absurd q (by decide))
  rw [Tryz.params4] at hA
  obtain ⟨c0, r0, rfl, h0, hA⟩ := ArgsTy.cons hA
  obtain ⟨c1, r1, rfl, h1, hA⟩ := ArgsTy.cons hA
  obtain ⟨c2, r2, rfl, h2, hA⟩ := ArgsTy.cons hA
  obtain rfl := ArgsTy.nil hA
  obtain ⟨p, rfl, hp, _⟩ := QvV h0
  obtain ⟨bn, l, rfl, hl⟩ := Qu7 h1
  obtain ⟨r, rfl, hr, _⟩ := QtC h2
  obtain ⟨n, hn⟩ := (QmB 0 p hp bn l hl r hr).one
  exact Tryz.walk hn W hT M vs hR
theorem QmV : (Rows.revisionAppliesRow.inPlace == Tryz.prog.inPlace 4) = true := by kernel_rfl
theorem Qna : (Rows.revisionAppliesRow.unfollowed == Tryz.prog.unfollowed 4) = true := by kernel_rfl
theorem Qnd : (Rows.revisionAppliesRow.recurses == Tryz.prog.recurses 4) = true := by kernel_rfl
theorem QmQ : (Rows.revisionAppliesRow.named == Tryz.prog.varsNamed 4) = true := by kernel_rfl
theorem Qkf : joinedFacts Tryz.prog 4 Tryz.f4 Rows.revisionAppliesSpec Rows.revisionAppliesRow = true := by
 unfold joinedFacts
 simp only [Bool.and_eq_true]
 exact ⟨⟨⟨⟨⟨⟨⟨⟨⟨⟨⟨⟨⟨⟨⟨⟨⟨⟨⟨⟨⟨⟨⟨⟨⟨⟨⟨⟨⟨⟨⟨by kernel_rfl, Qvs⟩, QxV⟩, by kernel_rfl⟩, by kernel_rfl⟩, rfl⟩, QxT⟩, rfl⟩, Qx1⟩, QmV⟩, Qna⟩, Qnd⟩, QmQ⟩, by kernel_rfl⟩, by kernel_rfl⟩, by kernel_rfl⟩, by kernel_rfl⟩, by kernel_rfl⟩, by kernel_rfl⟩, by kernel_rfl⟩, by kernel_rfl⟩, by kernel_rfl⟩, Qy7⟩, rfl⟩, QxR⟩, Qyl⟩, Qxk⟩, QyF⟩, by kernel_rfl⟩, by kernel_rfl⟩, by kernel_rfl⟩, by kernel_rfl⟩
theorem revisionApplies_fn : Tryz.prog.funcNamed "airline/airlinelaw10.RevisionApplies" = some 4 := by kernel_rfl
theorem QlW : false = Rows.revisionAppliesRow.goesBy Tryz.prog := by kernel_rfl
theorem QkH : Rows.RevisionAppliesSaid :=
 OpenClaim.holds_of_wide 4 Tryz.f4 rfl rfl rfl rfl rfl rfl rfl ⟨rfl, rfl, rfl, rfl, rfl⟩ rfl rfl rfl rfl rfl revisionApplies_fn Tryz.func4 Qkf
  (of_decide_eq_true (by kernel_rfl)) (by unfold Func.isWrapper; first | (rw [if_pos (by decide +kernel)]; kernel_rfl) | (rw [if_neg (by decide +kernel)]; exact ⟨rfl, rfl⟩))
  (fun os started H enc _ => Qkn os started H enc)
theorem RevisionAppliesHolds : Rows.RevisionAppliesCardSaid :=
 Claim7.holds_tied_plain_at .later [] [.data, .data, .data, .data] true (true, "b87047f6675b9913d9f0592e2ea0dd659961c8b449ebf9dffd428cda67c90b5c") true
  QkH (fun _ h => by cases h) (by kernel_rfl) (fun _ h => by cases h) revisionApplies_row_tie rfl ⟨rfl, rfl⟩ Qzb rfl
  (fun f fn hf hfn => by
   obtain rfl : f = 4 := Option.some.inj (revisionApplies_fn.symm.trans hf) |>.symm
   obtain rfl : fn = Tryz.f4 := (Option.some.inj (Tryz.func4.symm.trans hfn)).symm
   exact ⟨QxN, fun j t ht => by
    rw [Tryz.params4] at ht
    have hm : t ∈ [25, 26, 31] := by simpa using Array.mem_of_getElem? ht
    have hall : ([25, 26, 31].all fun u => !Tryz.prog.wantsStandIn u) = true := by kernel_rfl
    exact (show Tryz.prog.wantsStandIn t = false by simpa using List.all_eq_true.1 hall t hm)⟩)
  QlW
end Go.Proofs.YtdcpdknginpohaaGreatDoor
