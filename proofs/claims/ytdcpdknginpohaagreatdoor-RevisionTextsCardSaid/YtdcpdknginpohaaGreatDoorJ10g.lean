/- The law RevisionTexts of chapter 10 holds of the program. Conditions: none beyond the given rows. -/
import Derived.Test.YtdcpdknginpohaaGreatDoorJd10
import Derived.Test.YtdcpdknginpohaaGreatDoorTA
import Derived.Test.YtdcpdknginpohaaGreatDoorTie
import Derived.Test.YtdcpdknginpohaaGreatDoorCards
import Derived.SevenTiedAt
namespace Go.Proofs.YtdcpdknginpohaaGreatDoor
open Go.ChangeShapes Go.WideShapes Go.ChangeAt Go.RowKit Go.Am
set_option maxRecDepth 100000 in
theorem QkP (os : Os) (started : os.Started) (H : Type) (enc : TypeId × Value → H) :
  ReturnsInHanded {} Tryz.checked os 10 .any (fun w args => (Rows.revisionTextsSpec.pre enc Tryz.prog Tryz.f10 [] false w args ∧ laidMetH Tryz.prog Rows.revisionTextsRow.laid w) ∧ sizedMet enc Tryz.prog Tryz.f10 (OpenSpec.ofChange Rows.revisionTextsSpec) false w args)
   (Rows.revisionTextsSpec.post enc Tryz.prog Tryz.f10 false true false false) := by
 refine Qv9 (C := Tryz.checked) (tb := 4) (laid := Rows.revisionTextsRow.laid) Tryz.own started (by kernel_rfl) Tryz.func10
  (ChangeSpec.witness_shaped (enc := enc) (C := Tryz.checked) (os := os) (X := fun w _ => laidMetH Tryz.prog Rows.revisionTextsRow.laid w) false (World.laidAll Tryz.prog os Rows.revisionTextsRow.laid) #[.agg #[.int .i64 0, .string ⟨#[]⟩, .int .i64 0, .int .i64 0, .int .i64 0, .int .i64 0, .int .i64 0, .string ⟨#[]⟩, .slice none 0 0], .string ⟨#[]⟩] 8 (World.laidAll_os _ _ _)
   (World.shaped_of_ZipB (by kernel_rfl) (by kernel_rfl)) (by kernel_rfl) (by kernel_rfl) (by kernel_rfl)
   (by rw [MakeChecks.laidMetH_plain _ _ _ (by kernel_rfl)]; exact laidMet_laidAll _ (by kernel_rfl) (by kernel_rfl)))
  QuB (by kernel_rfl) (by kernel_rfl) (by kernel_rfl) Tryz.underlying4 rfl (fun ds hd => ?_) fun W M vs cs hsh hL hA hR => ?_
 ·match ds, hd with
  | [d0, d1], _ => rfl
 ·have hT : Tw 1 W := Qzl hsh (by kernel_rfl) hL (.tail _ (.tail _ (.tail _ (.head _)))) (.head _) (fun _ => ⟨.tail _ (.tail _ (.tail _ (.tail _ (.tail _ (.tail _ (.head _)))))), .tail _ (.tail _ (.tail _ (.tail _ (.tail _ (.head _)))))⟩)
  rw [Tryz.params10] at hA
  obtain ⟨c0, r0, rfl, h0, hA⟩ := ArgsTy.cons hA
  obtain ⟨c1, r1, rfl, h1, hA⟩ := ArgsTy.cons hA
  obtain rfl := ArgsTy.nil hA
  obtain ⟨r, rfl, ⟨hr, _⟩, hm⟩ := QlZ h0
  obtain ⟨s, rfl, hs⟩ := ArgTy.str Tryz.underlying9 h1
  obtain ⟨n, hn⟩ := (Qol 0 r hr hm s).one
  exact Tryz.walk hn W hT M vs hR
theorem QoD : (Rows.revisionTextsRow.inPlace == Tryz.prog.inPlace 10) = true := by kernel_rfl
theorem Qoi : (Rows.revisionTextsRow.unfollowed == Tryz.prog.unfollowed 10) = true := by kernel_rfl
theorem Qoo : (Rows.revisionTextsRow.recurses == Tryz.prog.recurses 10) = true := by kernel_rfl
theorem Qom : (Rows.revisionTextsRow.named == Tryz.prog.varsNamed 10) = true := by kernel_rfl
theorem Qlg : joinedFacts Tryz.prog 10 Tryz.f10 Rows.revisionTextsSpec Rows.revisionTextsRow = true := by
 unfold joinedFacts
 simp only [Bool.and_eq_true]
 exact ⟨⟨⟨⟨⟨⟨⟨⟨⟨⟨⟨⟨⟨⟨⟨⟨⟨⟨⟨⟨⟨⟨⟨⟨⟨⟨⟨⟨⟨⟨⟨by kernel_rfl, QuB⟩, QwX⟩, by kernel_rfl⟩, by kernel_rfl⟩, rfl⟩, Qxx⟩, rfl⟩, Qw5⟩, QoD⟩, Qoi⟩, Qoo⟩, Qom⟩, by kernel_rfl⟩, by kernel_rfl⟩, by kernel_rfl⟩, by kernel_rfl⟩, by kernel_rfl⟩, by kernel_rfl⟩, by kernel_rfl⟩, by kernel_rfl⟩, by kernel_rfl⟩, Qyj⟩, rfl⟩, Qw2⟩, QwG⟩, Qwx⟩, Qx9⟩, by kernel_rfl⟩, by kernel_rfl⟩, by kernel_rfl⟩, by kernel_rfl⟩
theorem revisionTexts_fn : Tryz.prog.funcNamed "airline/airlinelaw10.RevisionTexts" = some 10 := by kernel_rfl
theorem Qmd : false = Rows.revisionTextsRow.goesBy Tryz.prog := by kernel_rfl
theorem Ql4 : Rows.RevisionTextsSaid :=
 OpenClaim.holds_of_wide 10 Tryz.f10 rfl rfl rfl rfl rfl rfl rfl ⟨rfl, rfl, rfl, rfl, rfl⟩ rfl rfl rfl rfl rfl revisionTexts_fn Tryz.func10 Qlg
  (of_decide_eq_true (by kernel_rfl)) (by unfold Func.isWrapper; first | (rw [if_pos (by decide +kernel)]; kernel_rfl) | (rw [if_neg (by decide +kernel)]; exact ⟨rfl, rfl⟩))
  (fun os started H enc _ => QkP os started H enc)
theorem RevisionTextsHolds : Rows.RevisionTextsCardSaid :=
 Claim7.holds_tied_plain_at .later [] [.data, .data, .data, .data, .data, .sentinel, .sentinel, .pinned] true (true, "b87047f6675b9913d9f0592e2ea0dd659961c8b449ebf9dffd428cda67c90b5c") true
  Ql4 (fun _ h => by cases h) (by kernel_rfl) (fun _ h => by cases h) revisionTexts_row_tie rfl ⟨rfl, rfl⟩ Qx3 rfl
  (fun f fn hf hfn => by
   obtain rfl : f = 10 := Option.some.inj (revisionTexts_fn.symm.trans hf) |>.symm
   obtain rfl : fn = Tryz.f10 := (Option.some.inj (Tryz.func10.symm.trans hfn)).symm
   exact ⟨QwI, fun j t ht => by
    rw [Tryz.params10] at ht
    have hm : t ∈ [31, 9] := by simpa using Array.mem_of_getElem? ht
    have hall : ([31, 9].all fun u => !Tryz.prog.wantsStandIn u) = true := by kernel_rfl
    exact (show Tryz.prog.wantsStandIn t = false by simpa using List.all_eq_true.1 hall t hm)⟩)
  Qmd
end Go.Proofs.YtdcpdknginpohaaGreatDoor
