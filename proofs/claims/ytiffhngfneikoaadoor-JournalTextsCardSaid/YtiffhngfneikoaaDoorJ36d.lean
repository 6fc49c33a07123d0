/- The law JournalTexts of chapter 36 holds of the program. Conditions: none beyond the given rows. -/
import Derived.Test.YtiffhngfneikoaaDoorJf
import Derived.Test.YtiffhngfneikoaaDoorSf
import Derived.Test.YtiffhngfneikoaaDoorTie
import Derived.Test.YtiffhngfneikoaaDoorCards
import Derived.SevenTiedAt
namespace Go.Proofs.YtiffhngfneikoaaDoor
open Go.ChangeShapes Go.WideShapes Go.ChangeAt Go.RowKit Go.Am

set_option maxRecDepth 100000 in
theorem journalTexts_lifted (os : Os) (started : os.Started) (H : Type) (enc : TypeId × Value → H) :
    ReturnsInHanded {} Tryd.checked os 16 .any (fun w args => (Rows.journalTextsSpec.pre enc Tryd.prog Tryd.f16 [] false w args ∧ laidMetH Tryd.prog Rows.journalTextsRow.laid w) ∧ sizedMet enc Tryd.prog Tryd.f16 (OpenSpec.ofChange Rows.journalTextsSpec) false w args)
      (Rows.journalTextsSpec.post enc Tryd.prog Tryd.f16 false true false false) := by
  refine lift_laid (C := Tryd.checked) (tb := 4) (laid := Rows.journalTextsRow.laid) Tryd.own started (by kernel_rfl) Tryd.func16
    (ChangeSpec.witness_shaped (enc := enc) (C := Tryd.checked) (os := os) (X := fun w _ => laidMetH Tryd.prog Rows.journalTextsRow.laid w) false (World.laidAll Tryd.prog os Rows.journalTextsRow.laid) #[.slice none 0 0, .string ⟨#[]⟩] 8 (World.laidAll_os _ _ _)
      (World.shaped_of_ZipB (by kernel_rfl) (by kernel_rfl)) (by kernel_rfl) (by kernel_rfl) (by kernel_rfl)
      (by rw [MakeChecks.laidMetH_plain _ _ _ (by kernel_rfl)]; exact laidMet_laidAll _ (by kernel_rfl) (by kernel_rfl)))
    laidOut (by kernel_rfl) (by kernel_rfl) (by kernel_rfl) Tryd.underlying4 rfl (fun ds hd => ?_) fun W M vs cs hsh hL hA hR => ?_
  · match ds, hd with
    | [d0, d1], _ => rfl
  · have hT : Tw true W := tw_of hsh (by kernel_rfl) hL (.tail _ (.tail _ (.head _))) (fun _ => ⟨.tail _ (.tail _ (.tail _ (.tail _ (.head _)))), .tail _ (.tail _ (.tail _ (.head _)))⟩)
    rw [Tryd.params16] at hA
    obtain ⟨c0, r0, rfl, h0, hA⟩ := ArgsTy.cons hA
    obtain ⟨c1, r1, rfl, h1, hA⟩ := ArgsTy.cons hA
    obtain rfl := ArgsTy.nil hA
    obtain ⟨an, l, rfl, hl, hi⟩ := recs_argI h0
    obtain ⟨a1, rfl, _⟩ := ArgTy.str Tryd.underlying9 h1
    obtain ⟨n, hn⟩ := (journalTexts_ok an l a1 hl hi).one
    exact Tryd.walk hn W hT M vs hR
theorem journalTexts_c1 : (Rows.journalTextsRow.inPlace == Tryd.prog.inPlace 16) = true := by kernel_rfl
theorem journalTexts_c2 : (Rows.journalTextsRow.unfollowed == Tryd.prog.unfollowed 16) = true := by kernel_rfl
theorem journalTexts_c3 : (Rows.journalTextsRow.recurses == Tryd.prog.recurses 16) = true := by kernel_rfl
theorem journalTexts_c4 : (Rows.journalTextsRow.named == Tryd.prog.varsNamed 16) = true := by kernel_rfl
theorem journalTexts_closed : joinedFacts Tryd.prog 16 Tryd.f16 Rows.journalTextsSpec Rows.journalTextsRow = true := by
  unfold joinedFacts
  simp only [Bool.and_eq_true]
  exact ⟨⟨⟨⟨⟨⟨⟨⟨⟨⟨⟨⟨⟨⟨⟨⟨⟨⟨⟨⟨⟨⟨⟨⟨⟨⟨⟨⟨⟨⟨⟨by kernel_rfl, laidOut⟩, sh_rowed⟩, by kernel_rfl⟩, by kernel_rfl⟩, rfl⟩, sh_stops⟩, rfl⟩, sh_knobs⟩, journalTexts_c1⟩, journalTexts_c2⟩, journalTexts_c3⟩, journalTexts_c4⟩, by kernel_rfl⟩, by kernel_rfl⟩, by kernel_rfl⟩, by kernel_rfl⟩, by kernel_rfl⟩, by kernel_rfl⟩, by kernel_rfl⟩, by kernel_rfl⟩, by kernel_rfl⟩, sh_keys⟩, rfl⟩, sh_heard⟩, sh_enter⟩, sh_lifted⟩, sh_make⟩, by kernel_rfl⟩, by kernel_rfl⟩, by kernel_rfl⟩, by kernel_rfl⟩
theorem journalTexts_fn : Tryd.prog.funcNamed "airline/airlinelaw36.JournalTexts" = some 16 := by kernel_rfl
theorem journalTexts_goes : false = Rows.journalTextsRow.goesBy Tryd.prog := by kernel_rfl
theorem journalTexts_holds : Rows.JournalTextsSaid :=
  OpenClaim.holds_of_wide 16 Tryd.f16 rfl rfl rfl rfl rfl rfl rfl ⟨rfl, rfl, rfl, rfl, rfl⟩ rfl rfl rfl rfl rfl journalTexts_fn Tryd.func16 journalTexts_closed
    (of_decide_eq_true (by kernel_rfl)) (by unfold Func.isWrapper; first | (rw [if_pos (by decide +kernel)]; kernel_rfl) | (rw [if_neg (by decide +kernel)]; exact ⟨rfl, rfl⟩))
    (fun os started H enc _ => journalTexts_lifted os started H enc)
theorem JournalTextsHolds : Rows.JournalTextsCardSaid :=
  Claim7.holds_tied_plain_at .later [] [.data, .data, .data, .sentinel, .sentinel] true (true, "169db74cd3f551dd55bb08887a5c8c35f9aed73eef7fae6cc9707762c104c8e1") true
    journalTexts_holds (fun _ h => by cases h) (by kernel_rfl) (fun _ h => by cases h) journalTexts_row_tie rfl ⟨rfl, rfl⟩ sh_main rfl
    (fun f fn hf hfn => by
      obtain rfl : f = 16 := Option.some.inj (journalTexts_fn.symm.trans hf) |>.symm
      obtain rfl : fn = Tryd.f16 := (Option.some.inj (Tryd.func16.symm.trans hfn)).symm
      exact ⟨sh_looks, fun j t ht => by
        rw [Tryd.params16] at ht
        have hm : t ∈ [25, 9] := by simpa using Array.mem_of_getElem? ht
        have hall : ([25, 9].all fun u => !Tryd.prog.wantsStandIn u) = true := by kernel_rfl
        exact (show Tryd.prog.wantsStandIn t = false by simpa using List.all_eq_true.1 hall t hm)⟩)
    journalTexts_goes
end Go.Proofs.YtiffhngfneikoaaDoor
