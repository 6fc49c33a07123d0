/- The law JournalClashes of chapter 36 holds of the program. Conditions: none beyond the given rows. -/
import Derived.Test.YtiffhngfneikoaaDoorJf
import Derived.Test.YtiffhngfneikoaaDoorSc
import Derived.Test.YtiffhngfneikoaaDoorTie
import Derived.Test.YtiffhngfneikoaaDoorCards
import Derived.SevenTiedAt
namespace Go.Proofs.YtiffhngfneikoaaDoor
open Go.ChangeShapes Go.WideShapes Go.ChangeAt Go.RowKit Go.Am

set_option maxRecDepth 100000 in
theorem journalClashes_lifted (os : Os) (started : os.Started) (H : Type) (enc : TypeId × Value → H) :
    ReturnsInHanded {} Tryd.checked os 5 .any (fun w args => (Rows.journalClashesSpec.pre enc Tryd.prog Tryd.f5 [] false w args ∧ laidMetH Tryd.prog Rows.journalClashesRow.laid w) ∧ sizedMet enc Tryd.prog Tryd.f5 (OpenSpec.ofChange Rows.journalClashesSpec) false w args)
      (Rows.journalClashesSpec.post enc Tryd.prog Tryd.f5 false true false false) := by
  refine lift_laid (C := Tryd.checked) (tb := 4) (laid := Rows.journalClashesRow.laid) Tryd.own started (by kernel_rfl) Tryd.func5
    (ChangeSpec.witness_shaped (enc := enc) (C := Tryd.checked) (os := os) (X := fun w _ => laidMetH Tryd.prog Rows.journalClashesRow.laid w) false (World.laidAll Tryd.prog os Rows.journalClashesRow.laid) #[.slice none 0 0, .slice none 0 0] 8 (World.laidAll_os _ _ _)
      (World.shaped_of_ZipB (by kernel_rfl) (by kernel_rfl)) (by kernel_rfl) (by kernel_rfl) (by kernel_rfl)
      (by rw [MakeChecks.laidMetH_plain _ _ _ (by kernel_rfl)]; exact laidMet_laidAll _ (by kernel_rfl) (by kernel_rfl)))
    laidOut (by kernel_rfl) (by kernel_rfl) (by kernel_rfl) Tryd.underlying4 rfl (fun ds hd => ?_) fun W M vs cs hsh hL hA hR => ?_
  · match ds, hd with
    | [d0, d1], _ => rfl
  · have hT : Tw false W := tw_of hsh (by kernel_rfl) hL (.tail _ (.tail _ (.head _))) (fun q => by cases q)
    rw [Tryd.params5] at hA
    obtain ⟨c0, r0, rfl, h0, hA⟩ := ArgsTy.cons hA
    obtain ⟨c1, r1, rfl, h1, hA⟩ := ArgsTy.cons hA
    obtain rfl := ArgsTy.nil hA
    obtain ⟨an, l, rfl, hl⟩ := recs_arg h0
    obtain ⟨bn, l2, rfl, hl2⟩ := recs_arg h1
    obtain ⟨n, hn⟩ := (journalClashes_ok false an bn l l2 hl hl2).one
    exact Tryd.walk hn W hT M vs hR
theorem journalClashes_c1 : (Rows.journalClashesRow.inPlace == Tryd.prog.inPlace 5) = true := by kernel_rfl
theorem journalClashes_c2 : (Rows.journalClashesRow.unfollowed == Tryd.prog.unfollowed 5) = true := by kernel_rfl
theorem journalClashes_c3 : (Rows.journalClashesRow.recurses == Tryd.prog.recurses 5) = true := by kernel_rfl
theorem journalClashes_c4 : (Rows.journalClashesRow.named == Tryd.prog.varsNamed 5) = true := by kernel_rfl
theorem journalClashes_closed : joinedFacts Tryd.prog 5 Tryd.f5 Rows.journalClashesSpec Rows.journalClashesRow = true := by
  unfold joinedFacts
  simp only [Bool.and_eq_true]
  exact ⟨⟨⟨⟨⟨⟨⟨⟨⟨⟨⟨⟨⟨⟨⟨⟨⟨⟨⟨⟨⟨⟨⟨⟨⟨⟨⟨⟨⟨⟨⟨by kernel_rfl, laidOut⟩, sh_rowed⟩, by kernel_rfl⟩, by kernel_rfl⟩, rfl⟩, sh_stops⟩, rfl⟩, sh_knobs⟩, journalClashes_c1⟩, journalClashes_c2⟩, journalClashes_c3⟩, journalClashes_c4⟩, by kernel_rfl⟩, by kernel_rfl⟩, by kernel_rfl⟩, by kernel_rfl⟩, by kernel_rfl⟩, by kernel_rfl⟩, by kernel_rfl⟩, by kernel_rfl⟩, by kernel_rfl⟩, sh_keys⟩, rfl⟩, sh_heard⟩, sh_enter⟩, sh_lifted⟩, sh_make⟩, by kernel_rfl⟩, by kernel_rfl⟩, by kernel_rfl⟩, by kernel_rfl⟩
theorem journalClashes_fn : Tryd.prog.funcNamed "airline/airlinelaw36.JournalClashes" = some 5 := by kernel_rfl
theorem journalClashes_goes : false = Rows.journalClashesRow.goesBy Tryd.prog := by kernel_rfl
theorem journalClashes_holds : Rows.JournalClashesSaid :=
  OpenClaim.holds_of_wide 5 Tryd.f5 rfl rfl rfl rfl rfl rfl rfl ⟨rfl, rfl, rfl, rfl, rfl⟩ rfl rfl rfl rfl rfl journalClashes_fn Tryd.func5 journalClashes_closed
    (of_decide_eq_true (by kernel_rfl)) (by unfold Func.isWrapper; first | (rw [if_pos (by decide +kernel)]; kernel_rfl) | (rw [if_neg (by decide +kernel)]; exact ⟨rfl, rfl⟩))
    (fun os started H enc _ => journalClashes_lifted os started H enc)
theorem JournalClashesHolds : Rows.JournalClashesCardSaid :=
  Claim7.holds_tied_plain_at .later [] [.data, .data, .data] true (true, "169db74cd3f551dd55bb08887a5c8c35f9aed73eef7fae6cc9707762c104c8e1") true
    journalClashes_holds (fun _ h => by cases h) (by kernel_rfl) (fun _ h => by cases h) journalClashes_row_tie rfl ⟨rfl, rfl⟩ sh_main rfl
    (fun f fn hf hfn => by
      obtain rfl : f = 5 := Option.some.inj (journalClashes_fn.symm.trans hf) |>.symm
      obtain rfl : fn = Tryd.f5 := (Option.some.inj (Tryd.func5.symm.trans hfn)).symm
      exact ⟨sh_looks, fun j t ht => by
        rw [Tryd.params5] at ht
        have hm : t ∈ [25, 25] := by simpa using Array.mem_of_getElem? ht
        have hall : ([25, 25].all fun u => !Tryd.prog.wantsStandIn u) = true := by kernel_rfl
        exact (show Tryd.prog.wantsStandIn t = false by simpa using List.all_eq_true.1 hall t hm)⟩)
    journalClashes_goes
end Go.Proofs.YtiffhngfneikoaaDoor
