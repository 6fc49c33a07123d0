/- The law TopRevises holds of the program. Conditions: none beyond the given rows. -/
import Derived.Test.YtdcpdknginpohaaGreatDoorJd10
import Derived.Test.YtdcpdknginpohaaGreatDoorNC
import Derived.Test.YtdcpdknginpohaaGreatDoorTie
import Derived.Test.YtdcpdknginpohaaGreatDoorCards
import Derived.SevenTiedAt
namespace Go.Proofs.YtdcpdknginpohaaGreatDoor
open Go.ChangeShapes Go.WideShapes Go.ChangeAt Go.RowKit Go.Am
set_option maxRecDepth 100000 in
theorem QnT (os : Os) (started : os.Started) (H : Type) (enc : TypeId × Value → H) :
  ReturnsInHanded {} Tryz.checked os 3 .any (fun w args => (Rows.topRevisesSpec.pre enc Tryz.prog Tryz.f3 [] false w args ∧ laidMetH Tryz.prog Rows.topRevisesRow.laid w) ∧ sizedMet enc Tryz.prog Tryz.f3 (OpenSpec.ofChange Rows.topRevisesSpec) false w args)
   (Rows.topRevisesSpec.post enc Tryz.prog Tryz.f3 false true false false) := by
 refine QwJ (C := Tryz.checked) (tb := 4) (laid := Rows.topRevisesRow.laid) Tryz.own started (by kernel_rfl) Tryz.func3
  (ChangeSpec.witness_shaped (enc := enc) (C := Tryz.checked) (os := os) (X := fun w _ => laidMetH Tryz.prog Rows.topRevisesRow.laid w) false (World.laidAll Tryz.prog os Rows.topRevisesRow.laid) #[.agg #[.slice none 0 0, .slice none 0 0], .slice none 0 0, .agg #[.int .i64 0, .string ⟨#[]⟩, .int .i64 0, .int .i64 0, .int .i64 0, .int .i64 0, .int .i64 0, .string ⟨#[]⟩, .slice none 0 0]] 8 (World.laidAll_os _ _ _)
   (World.shaped_of_ZipB (by kernel_rfl) (by kernel_rfl)) (by kernel_rfl) (by kernel_rfl) (by kernel_rfl)
   (by rw [MakeChecks.laidMetH_plain _ _ _ (by kernel_rfl)]; exact laidMet_laidAll _ (by kernel_rfl) (by kernel_rfl)))
  Qvo (by kernel_rfl) (by kernel_rfl) (by kernel_rfl) Tryz.underlying4 rfl (fun ds hd => ?_) fun W M vs cs hsh hL hA hR => ?_
 ·match ds, hd with
  | [d0, d1, d2], _ => rfl
 ·have hT : Tw 0 W := QAd hsh (by kernel_rfl) hL (.tail _ (.tail _ (.tail _ (.head _)))) (.head _) (fun q => absurd q (by decide))
  rw [Tryz.params3] at hA
  obtain ⟨c0, r0, rfl, h0, hA⟩ := ArgsTy.cons hA
  obtain ⟨c1, r1, rfl, h1, hA⟩ := ArgsTy.cons hA
  obtain ⟨c2, r2, rfl, h2, hA⟩ := ArgsTy.cons hA
  obtain rfl := ArgsTy.nil hA
  obtain ⟨p, rfl, hp, _⟩ := Qv3 h0
  obtain ⟨bn, l, rfl, hl, hl2⟩ := Qnt h1
  obtain ⟨r, rfl, hr, hr2⟩ := QtQ h2
  obtain ⟨n, hn⟩ := (QsV 0 p hp bn l hl r hr (fun f hf x hx => (hl2 f hf x hx).2) hr2.1 (fun x hx => (hr2.2 x hx).2)).one
  exact Tryz.walk hn W hT M vs hR
theorem QsF : (Rows.topRevisesRow.inPlace == Tryz.prog.inPlace 3) = true := by kernel_rfl
theorem Qss : (Rows.topRevisesRow.unfollowed == Tryz.prog.unfollowed 3) = true := by kernel_rfl
theorem Qsz : (Rows.topRevisesRow.recurses == Tryz.prog.recurses 3) = true := by kernel_rfl
theorem QsK : (Rows.topRevisesRow.named == Tryz.prog.varsNamed 3) = true := by kernel_rfl
theorem QnZ : joinedFacts Tryz.prog 3 Tryz.f3 Rows.topRevisesSpec Rows.topRevisesRow = true := by
 unfold joinedFacts
 simp only [Bool.and_eq_true]
 exact ⟨⟨⟨⟨⟨⟨⟨⟨⟨⟨⟨⟨⟨⟨⟨⟨⟨⟨⟨⟨⟨⟨⟨⟨⟨⟨⟨⟨⟨⟨⟨by kernel_rfl, Qvo⟩, QxR⟩, by kernel_rfl⟩, by kernel_rfl⟩, rfl⟩, QxO⟩, rfl⟩, QxZ⟩, QsF⟩, Qss⟩, Qsz⟩, QsK⟩, by kernel_rfl⟩, by kernel_rfl⟩, by kernel_rfl⟩, by kernel_rfl⟩, by kernel_rfl⟩, by kernel_rfl⟩, by kernel_rfl⟩, by kernel_rfl⟩, by kernel_rfl⟩, QyC⟩, rfl⟩, QxG⟩, Qx3⟩, Qw5⟩, QyE⟩, by kernel_rfl⟩, by kernel_rfl⟩, by kernel_rfl⟩, by kernel_rfl⟩
theorem topRevises_fn : Tryz.prog.funcNamed "airline/airlinetop.TopRevises" = some 3 := by kernel_rfl
theorem Qpo : false = Rows.topRevisesRow.goesBy Tryz.prog := by kernel_rfl
theorem QoW : Rows.TopRevisesSaid :=
 OpenClaim.holds_of_wide 3 Tryz.f3 rfl rfl rfl rfl rfl rfl rfl ⟨rfl, rfl, rfl, rfl, rfl⟩ rfl rfl rfl rfl rfl topRevises_fn Tryz.func3 QnZ
  (of_decide_eq_true (by kernel_rfl)) (by unfold Func.isWrapper; first | (rw [if_pos (by decide +kernel)]; kernel_rfl) | (rw [if_neg (by decide +kernel)]; exact ⟨rfl, rfl⟩))
  (fun os started H enc _ => QnT os started H enc)
theorem TopRevisesHolds : Rows.TopRevisesCardSaid :=
 Claim7.holds_tied_plain_at .later [] [.data, .data, .data, .data] true (true, "b87047f6675b9913d9f0592e2ea0dd659961c8b449ebf9dffd428cda67c90b5c") true
  QoW (fun _ h => by cases h) (by kernel_rfl) (fun _ h => by cases h) topRevises_row_tie rfl ⟨rfl, rfl⟩ QyY rfl
  (fun f fn hf hfn => by
   obtain rfl : f = 3 := Option.some.inj (topRevises_fn.symm.trans hf) |>.symm
   obtain rfl : fn = Tryz.f3 := (Option.some.inj (Tryz.func3.symm.trans hfn)).symm
   exact ⟨QxF, fun j t ht => by
    rw [Tryz.params3] at ht
    have hm : t ∈ [25, 26, 31] := by simpa using Array.mem_of_getElem? ht
    have hall : ([25, 26, 31].all fun u => !Tryz.prog.wantsStandIn u) = true := by kernel_rfl
    exact (show Tryz.prog.wantsStandIn t = false by simpa using List.all_eq_true.1 hall t hm)⟩)
  Qpo
end Go.Proofs.YtdcpdknginpohaaGreatDoor
