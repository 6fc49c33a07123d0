/- The law RevisionSteps of chapter 10 holds of the program. Conditions: none beyond the given rows. -/
import Derived.Test.YtdcpdknginpohaaGreatDoorJd10
import Derived.Test.YtdcpdknginpohaaGreatDoorNB
import Derived.Test.YtdcpdknginpohaaGreatDoorTie
import Derived.Test.YtdcpdknginpohaaGreatDoorCards
import Derived.SevenTiedAt
namespace Go.Proofs.YtdcpdknginpohaaGreatDoor
open Go.ChangeShapes Go.WideShapes Go.ChangeAt Go.RowKit Go.Am
set_option maxRecDepth 100000 in
theorem Ql0 (os : Os) (started : os.Started) (H : Type) (enc : TypeId × Value → H) :
  ReturnsInHanded {} Tryz.checked os 7 .any (fun w args => (Rows.revisionStepsSpec.pre enc Tryz.prog Tryz.f7 [] false w args ∧ laidMetH Tryz.prog Rows.revisionStepsRow.laid w) ∧ sizedMet enc Tryz.prog Tryz.f7 (OpenSpec.ofChange Rows.revisionStepsSpec) false w args)
   (Rows.revisionStepsSpec.post enc Tryz.prog Tryz.f7 false true false false) := by
 refine Qx0 (C := Tryz.checked) (tb := 4) (laid := Rows.revisionStepsRow.laid) Tryz.own started (by kernel_rfl) Tryz.func7
  (ChangeSpec.witness_shaped (enc := enc) (C := Tryz.checked) (os := os) (X := fun w _ => laidMetH Tryz.prog Rows.revisionStepsRow.laid w) false (World.laidAll Tryz.prog os Rows.revisionStepsRow.laid) #[.agg #[.slice none 0 0, .slice none 0 0], .slice none 0 0, .slice none 0 0] 8 (World.laidAll_os _ _ _)
   (World.shaped_of_ZipB (by kernel_rfl) (by kernel_rfl)) (by kernel_rfl) (by kernel_rfl) (by kernel_rfl)
   (by rw [MakeChecks.laidMetH_plain _ _ _ (by kernel_rfl)]; exact laidMet_laidAll _ (by kernel_rfl) (by kernel_rfl)))
  QvS (by kernel_rfl) (by kernel_rfl) (by kernel_rfl) Tryz.underlying4 rfl (fun ds hd => ?_) fun W M vs cs hsh hL hA hR => ?_
 ·match ds, hd with
  | [d0, d1, d2], _ => rfl
 ·have hT : Tw 0 W := QAx hsh (by kernel_rfl) hL (.tail _ (.tail _ (.tail _ (.head _)))) (.head _) (fun q => absurd q (by decide))
  rw [Tryz.params7] at hA
  obtain ⟨c0, r0, rfl, h0, hA⟩ := ArgsTy.cons hA
  obtain ⟨c1, r1, rfl, h1, hA⟩ := ArgsTy.cons hA
  obtain ⟨c2, r2, rfl, h2, hA⟩ := ArgsTy.cons hA
  obtain rfl := ArgsTy.nil hA
  obtain ⟨p, rfl, hp, _⟩ := QwB h0
  obtain ⟨bn, l, rfl, hl⟩ := QvB h1
  obtain ⟨cn, rs, rfl, hrl, hr⟩ := Qtf h2
  obtain ⟨n, hn⟩ := (Qpn 0 p hp bn l hl cn rs (fun r h => (hr r h).1) hrl).one
  exact Tryz.walk hn W hT M vs hR
theorem Qpr : (Rows.revisionStepsRow.inPlace == Tryz.prog.inPlace 7) = true := by kernel_rfl
theorem Qpo : (Rows.revisionStepsRow.unfollowed == Tryz.prog.unfollowed 7) = true := by kernel_rfl
theorem Qph : (Rows.revisionStepsRow.recurses == Tryz.prog.recurses 7) = true := by kernel_rfl
theorem Qpe : (Rows.revisionStepsRow.named == Tryz.prog.varsNamed 7) = true := by kernel_rfl
theorem Qly : joinedFacts Tryz.prog 7 Tryz.f7 Rows.revisionStepsSpec Rows.revisionStepsRow = true := by
 unfold joinedFacts
 simp only [Bool.and_eq_true]
 exact ⟨⟨⟨⟨⟨⟨⟨⟨⟨⟨⟨⟨⟨⟨⟨⟨⟨⟨⟨⟨⟨⟨⟨⟨⟨⟨⟨⟨⟨⟨⟨by kernel_rfl, QvS⟩, Qyu⟩, by kernel_rfl⟩, by kernel_rfl⟩, rfl⟩, QyB⟩, rfl⟩, Qyr⟩, Qpr⟩, Qpo⟩, Qph⟩, Qpe⟩, by kernel_rfl⟩, by kernel_rfl⟩, by kernel_rfl⟩, by kernel_rfl⟩, by kernel_rfl⟩, by kernel_rfl⟩, by kernel_rfl⟩, by kernel_rfl⟩, by kernel_rfl⟩, QzI⟩, rfl⟩, Qx4⟩, QyC⟩, Qx1⟩, Qzu⟩, by kernel_rfl⟩, by kernel_rfl⟩, by kernel_rfl⟩, by kernel_rfl⟩
theorem revisionSteps_fn : Tryz.prog.funcNamed "airline/airlinelaw10.RevisionSteps" = some 7 := by kernel_rfl
theorem QnP : false = Rows.revisionStepsRow.goesBy Tryz.prog := by kernel_rfl
theorem Qms : Rows.RevisionStepsSaid :=
 OpenClaim.holds_of_wide 7 Tryz.f7 rfl rfl rfl rfl rfl rfl rfl ⟨rfl, rfl, rfl, rfl, rfl⟩ rfl rfl rfl rfl rfl revisionSteps_fn Tryz.func7 Qly
  (of_decide_eq_true (by kernel_rfl)) (by unfold Func.isWrapper; first | (rw [if_pos (by decide +kernel)]; kernel_rfl) | (rw [if_neg (by decide +kernel)]; exact ⟨rfl, rfl⟩))
  (fun os started H enc _ => Ql0 os started H enc)
theorem RevisionStepsHolds : Rows.RevisionStepsCardSaid :=
 Claim7.holds_tied_plain_at .later [] [.data, .data, .data, .data] true (true, "b87047f6675b9913d9f0592e2ea0dd659961c8b449ebf9dffd428cda67c90b5c") true
  Qms (fun _ h => by cases h) (by kernel_rfl) (fun _ h => by cases h) revisionSteps_row_tie rfl ⟨rfl, rfl⟩ Qzq rfl
  (fun f fn hf hfn => by
   obtain rfl : f = 7 := Option.some.inj (revisionSteps_fn.symm.trans hf) |>.symm
   obtain rfl : fn = Tryz.f7 := (Option.some.inj (Tryz.func7.symm.trans hfn)).symm
   exact ⟨Qyn, fun j t ht => by
    rw [Tryz.params7] at ht
    have hm : t ∈ [25, 26, 54] := by simpa using Array.mem_of_getElem? ht
    have hall : ([25, 26, 54].all fun u => !Tryz.prog.wantsStandIn u) = true := by kernel_rfl
    exact (show Tryz.prog.wantsStandIn t = false by simpa using List.all_eq_true.1 hall t hm)⟩)
  QnP
end Go.Proofs.YtdcpdknginpohaaGreatDoor
