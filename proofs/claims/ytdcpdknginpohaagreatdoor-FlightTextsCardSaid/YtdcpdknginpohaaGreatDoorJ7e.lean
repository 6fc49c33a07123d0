/- The law FlightTexts of chapter 7 holds of the program. Conditions: none beyond the given rows. -/
import Derived.Test.YtdcpdknginpohaaGreatDoorJd07
import Derived.Test.YtdcpdknginpohaaGreatDoorPs1
import Derived.Test.YtdcpdknginpohaaGreatDoorTie
import Derived.Test.YtdcpdknginpohaaGreatDoorCards
import Derived.SevenTiedAt
namespace Go.Proofs.YtdcpdknginpohaaGreatDoor
open Go.ChangeShapes Go.WideShapes Go.ChangeAt Go.RowKit Go.Am

set_option maxRecDepth 100000 in
theorem flightTexts_lifted (os : Os) (started : os.Started) (H : Type) (enc : TypeId × Value → H) :
    ReturnsInHanded {} Tryz.checked os 9 .any (fun w args => (Rows.flightTextsSpec.pre enc Tryz.prog Tryz.f9 [] false w args ∧ laidMetH Tryz.prog Rows.flightTextsRow.laid w) ∧ sizedMet enc Tryz.prog Tryz.f9 (OpenSpec.ofChange Rows.flightTextsSpec) false w args)
      (Rows.flightTextsSpec.post enc Tryz.prog Tryz.f9 false true false false) := by
  refine lift_laid (C := Tryz.checked) (tb := 4) (laid := Rows.flightTextsRow.laid) Tryz.own started (by kernel_rfl) Tryz.func9
    (ChangeSpec.witness_shaped (enc := enc) (C := Tryz.checked) (os := os) (X := fun w _ => laidMetH Tryz.prog Rows.flightTextsRow.laid w) false (World.laidAll Tryz.prog os Rows.flightTextsRow.laid) #[.agg #[.string ⟨#[]⟩, .int .i64 0, .int .i64 0, .int .i64 0, .int .i64 0, .slice none 0 0], .string ⟨#[]⟩] 8 (World.laidAll_os _ _ _)
      (World.shaped_of_ZipB (by kernel_rfl) (by kernel_rfl)) (by kernel_rfl) (by kernel_rfl) (by kernel_rfl)
      (by rw [MakeChecks.laidMetH_plain _ _ _ (by kernel_rfl)]; exact laidMet_laidAll _ (by kernel_rfl) (by kernel_rfl)))
    laidOut (by kernel_rfl) (by kernel_rfl) (by kernel_rfl) Tryz.underlying4 rfl (fun ds hd => ?_) fun W M vs cs hsh hL hA hR => ?_
  · match ds, hd with
    | [d0, d1], _ => rfl
  · have hT : Tw 1 W := tw_of hsh (by kernel_rfl) hL (.tail _ (.tail _ (.tail _ (.head _)))) (.head _) (fun _ => ⟨.tail _ (.tail _ (.tail _ (.tail _ (.tail _ (.tail _ (.head _)))))), .tail _ (.tail _ (.tail _ (.tail _ (.tail _ (.head _)))))⟩)
    rw [Tryz.params9] at hA
    obtain ⟨c0, r0, rfl, h0, hA⟩ := ArgsTy.cons hA
    obtain ⟨c1, r1, rfl, h1, hA⟩ := ArgsTy.cons hA
    obtain rfl := ArgsTy.nil hA
    obtain ⟨f, rfl, hf, _⟩ := flight_arg h0
    obtain ⟨s, rfl, hs⟩ := ArgTy.str Tryz.underlying9 h1
    obtain ⟨n, hn⟩ := (flightTexts_ok 0 f s hf (Nat.le_trans hs reach_le)).one
    exact Tryz.walk hn W hT M vs hR
theorem flightTexts_c1 : (Rows.flightTextsRow.inPlace == Tryz.prog.inPlace 9) = true := by kernel_rfl
theorem flightTexts_c2 : (Rows.flightTextsRow.unfollowed == Tryz.prog.unfollowed 9) = true := by kernel_rfl
theorem flightTexts_c3 : (Rows.flightTextsRow.recurses == Tryz.prog.recurses 9) = true := by kernel_rfl
theorem flightTexts_c4 : (Rows.flightTextsRow.named == Tryz.prog.varsNamed 9) = true := by kernel_rfl
theorem flightTexts_closed : joinedFacts Tryz.prog 9 Tryz.f9 Rows.flightTextsSpec Rows.flightTextsRow = true := by
  unfold joinedFacts
  simp only [Bool.and_eq_true]
  exact ⟨⟨⟨⟨⟨⟨⟨⟨⟨⟨⟨⟨⟨⟨⟨⟨⟨⟨⟨⟨⟨⟨⟨⟨⟨⟨⟨⟨⟨⟨⟨by kernel_rfl, laidOut⟩, sh_rowed⟩, by kernel_rfl⟩, by kernel_rfl⟩, rfl⟩, sh_stops⟩, rfl⟩, sh_knobs⟩, flightTexts_c1⟩, flightTexts_c2⟩, flightTexts_c3⟩, flightTexts_c4⟩, by kernel_rfl⟩, by kernel_rfl⟩, by kernel_rfl⟩, by kernel_rfl⟩, by kernel_rfl⟩, by kernel_rfl⟩, by kernel_rfl⟩, by kernel_rfl⟩, by kernel_rfl⟩, sh_keys⟩, rfl⟩, sh_heard⟩, sh_enter⟩, sh_lifted⟩, sh_make⟩, by kernel_rfl⟩, by kernel_rfl⟩, by kernel_rfl⟩, by kernel_rfl⟩
theorem flightTexts_fn : Tryz.prog.funcNamed "airline/airlinelaw07.FlightTexts" = some 9 := by kernel_rfl
theorem flightTexts_goes : false = Rows.flightTextsRow.goesBy Tryz.prog := by kernel_rfl
theorem flightTexts_holds : Rows.FlightTextsSaid :=
  OpenClaim.holds_of_wide 9 Tryz.f9 rfl rfl rfl rfl rfl rfl rfl ⟨rfl, rfl, rfl, rfl, rfl⟩ rfl rfl rfl rfl rfl flightTexts_fn Tryz.func9 flightTexts_closed
    (of_decide_eq_true (by kernel_rfl)) (by unfold Func.isWrapper; first | (rw [if_pos (by decide +kernel)]; kernel_rfl) | (rw [if_neg (by decide +kernel)]; exact ⟨rfl, rfl⟩))
    (fun os started H enc _ => flightTexts_lifted os started H enc)
theorem FlightTextsHolds : Rows.FlightTextsCardSaid :=
  Claim7.holds_tied_plain_at .later [] [.data, .data, .data, .data, .data, .sentinel, .sentinel, .pinned] true (true, "b87047f6675b9913d9f0592e2ea0dd659961c8b449ebf9dffd428cda67c90b5c") true
    flightTexts_holds (fun _ h => by cases h) (by kernel_rfl) (fun _ h => by cases h) flightTexts_row_tie rfl ⟨rfl, rfl⟩ sh_main rfl
    (fun f fn hf hfn => by
      obtain rfl : f = 9 := Option.some.inj (flightTexts_fn.symm.trans hf) |>.symm
      obtain rfl : fn = Tryz.f9 := (Option.some.inj (Tryz.func9.symm.trans hfn)).symm
      exact ⟨sh_looks, fun j t ht => by
        rw [Tryz.params9] at ht
        have hm : t ∈ [42, 9] := by simpa using Array.mem_of_getElem? ht
        have hall : ([42, 9].all fun u => !Tryz.prog.wantsStandIn u) = true := by kernel_rfl
        exact (show Tryz.prog.wantsStandIn t = false by simpa using List.all_eq_true.1 hall t hm)⟩)
    flightTexts_goes
end Go.Proofs.YtdcpdknginpohaaGreatDoor
