/- The law RevisionOthers of chapter 10 holds of the program. Conditions: none beyond the given rows. -/
import Derived.Test.YtdcpdknginpohaaGreatDoorJd10
import Derived.Test.YtdcpdknginpohaaGreatDoorNC
import Derived.Test.YtdcpdknginpohaaGreatDoorTie
import Derived.Test.YtdcpdknginpohaaGreatDoorCards
import Derived.SevenTiedAt
namespace Go.Proofs.YtdcpdknginpohaaGreatDoor
open Go.ChangeShapes Go.WideShapes Go.ChangeAt Go.RowKit Go.Am
set_option maxRecDepth 100000 in
theorem QkM (os : Os) (started : os.Started) (H : Type) (enc : TypeId × Value → H) :
  ReturnsInHanded {} Tryz.checked os 5 .any (fun w args => (Rows.revisionOthersSpec.pre enc Tryz.prog Tryz.f5 [] false w args ∧ laidMetH Tryz.prog Rows.revisionOthersRow.laid w) ∧ sizedMet enc Tryz.prog Tryz.f5 (OpenSpec.ofChange Rows.revisionOthersSpec) false w args)
   (Rows.revisionOthersSpec.post enc Tryz.prog Tryz.f5 false true false false) := by
 refine QwR (C := Tryz.checked) (tb := 4) (laid := Rows.revisionOthersRow.laid) Tryz.own started (by kernel_rfl) Tryz.func5
  (ChangeSpec.witness_shaped (enc := enc) (C := Tryz.checked) (os := os) (X := fun w _ => laidMetH Tryz.prog Rows.revisionOthersRow.laid w) false (World.laidAll Tryz.prog os Rows.revisionOthersRow.laid) #[.agg #[.slice none 0 0, .slice none 0 0], .slice none 0 0, .agg #[.int .i64 0, .string ⟨#[]⟩, .int .i64 0, .int .i64 0, .int .i64 0, .int .i64 0, .int .i64 0, .string ⟨#[]⟩, .slice none 0 0], .int .i64 0] 8 (World.laidAll_os _ _ _)
   (World.shaped_of_ZipB (by kernel_rfl) (by kernel_rfl)) (by kernel_rfl) (by kernel_rfl) (by kernel_rfl)
   (by rw [MakeChecks.laidMetH_plain _ _ _ (by kernel_rfl)]; exact laidMet_laidAll _ (by kernel_rfl) (by kernel_rfl)))
  Qu8 (by kernel_rfl) (by kernel_rfl) (by kernel_rfl) Tryz.underlying4 rfl (fun ds hd => ?_) fun W M vs cs hsh hL hA hR => ?_
 ·match ds, hd with
  | [d0, d1, d2, d3], _ => rfl
 ·have hT : Tw 0 W := Qz5 hsh (by kernel_rfl) hL (.tail _ (.tail _ (.tail _ (.head _)))) (.head _) (fun q => absurd q (by decide))
  rw [Tryz.params5] at hA
  obtain ⟨c0, r0, rfl, h0, hA⟩ := ArgsTy.cons hA
  obtain ⟨c1, r1, rfl, h1, hA⟩ := ArgsTy.cons hA
  obtain ⟨c2, r2, rfl, h2, hA⟩ := ArgsTy.cons hA
  obtain ⟨c3, r3, rfl, h3, hA⟩ := ArgsTy.cons hA
  obtain rfl := ArgsTy.nil hA
  obtain ⟨p, rfl, hp, _⟩ := QvT h0
  obtain ⟨bn, l, rfl, hl⟩ := Qum h1
  obtain ⟨r, rfl, hr, _⟩ := QtW h2
  obtain ⟨day, rfl, _⟩ := ArgTy.int Tryz.underlying3 h3
  obtain ⟨n, hn⟩ := (QnH 0 p hp bn l hl r hr day).one
  exact Tryz.walk hn W hT M vs hR
theorem QnJ : (Rows.revisionOthersRow.inPlace == Tryz.prog.inPlace 5) = true := by kernel_rfl
theorem QnV : (Rows.revisionOthersRow.unfollowed == Tryz.prog.unfollowed 5) = true := by kernel_rfl
theorem QnD : (Rows.revisionOthersRow.recurses == Tryz.prog.recurses 5) = true := by kernel_rfl
theorem QnI : (Rows.revisionOthersRow.named == Tryz.prog.varsNamed 5) = true := by kernel_rfl
theorem QkN : joinedFacts Tryz.prog 5 Tryz.f5 Rows.revisionOthersSpec Rows.revisionOthersRow = true := by
 unfold joinedFacts
 simp only [Bool.and_eq_true]
 exact ⟨⟨⟨⟨⟨⟨⟨⟨⟨⟨⟨⟨⟨⟨⟨⟨⟨⟨⟨⟨⟨⟨⟨⟨⟨⟨⟨⟨⟨⟨⟨by kernel_rfl, Qu8⟩, QxT⟩, by kernel_rfl⟩, by kernel_rfl⟩, rfl⟩, QxN⟩, rfl⟩, QxB⟩, QnJ⟩, QnV⟩, QnD⟩, QnI⟩, by kernel_rfl⟩, by kernel_rfl⟩, by kernel_rfl⟩, by kernel_rfl⟩, by kernel_rfl⟩, by kernel_rfl⟩, by kernel_rfl⟩, by kernel_rfl⟩, by kernel_rfl⟩, Qy4⟩, rfl⟩, QxM⟩, Qxu⟩, Qw2⟩, Qyt⟩, by kernel_rfl⟩, by kernel_rfl⟩, by kernel_rfl⟩, by kernel_rfl⟩
theorem revisionOthers_fn : Tryz.prog.funcNamed "airline/airlinelaw10.RevisionOthers" = some 5 := by kernel_rfl
theorem Ql6 : false = Rows.revisionOthersRow.goesBy Tryz.prog := by kernel_rfl
theorem Qlr : Rows.RevisionOthersSaid :=
 OpenClaim.holds_of_wide 5 Tryz.f5 rfl rfl rfl rfl rfl rfl rfl ⟨rfl, rfl, rfl, rfl, rfl⟩ rfl rfl rfl rfl rfl revisionOthers_fn Tryz.func5 QkN
  (of_decide_eq_true (by kernel_rfl)) (by unfold Func.isWrapper; first | (rw [if_pos (by decide +kernel)]; kernel_rfl) | (rw [if_neg (by decide +kernel)]; exact ⟨rfl, rfl⟩))
  (fun os started H enc _ => QkM os started H enc)
theorem RevisionOthersHolds : Rows.RevisionOthersCardSaid :=
 Claim7.holds_tied_plain_at .later [] [.data, .data, .data, .data] true (true, "b87047f6675b9913d9f0592e2ea0dd659961c8b449ebf9dffd428cda67c90b5c") true
  Qlr (fun _ h => by cases h) (by kernel_rfl) (fun _ h => by cases h) revisionOthers_row_tie rfl ⟨rfl, rfl⟩ Qy8 rfl
  (fun f fn hf hfn => by
   obtain rfl : f = 5 := Option.some.inj (revisionOthers_fn.symm.trans hf) |>.symm
   obtain rfl : fn = Tryz.f5 := (Option.some.inj (Tryz.func5.symm.trans hfn)).symm
   exact ⟨QxH, fun j t ht => by
    rw [Tryz.params5] at ht
    have hm : t ∈ [25, 26, 31, 3] := by simpa using Array.mem_of_getElem? ht
    have hall : ([25, 26, 31, 3].all fun u => !Tryz.prog.wantsStandIn u) = true := by kernel_rfl
    exact (show Tryz.prog.wantsStandIn t = false by simpa using List.all_eq_true.1 hall t hm)⟩)
  Ql6
end Go.Proofs.YtdcpdknginpohaaGreatDoor
