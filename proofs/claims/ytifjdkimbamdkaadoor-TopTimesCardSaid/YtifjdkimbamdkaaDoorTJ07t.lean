/- The law TopTimes holds of the program. Conditions: none beyond the given rows. -/
import Derived.Test.YtifjdkimbamdkaaDoorTJd07
import Derived.Test.YtifjdkimbamdkaaDoorTKu
import Derived.Test.YtifjdkimbamdkaaDoorTie
import Derived.Test.YtifjdkimbamdkaaDoorCards
import Derived.SevenTiedAt
namespace Go.Proofs.YtifjdkimbamdkaaDoor
open Go.ChangeShapes Go.WideShapes Go.ChangeAt Go.RowKit Go.Am

set_option maxRecDepth 100000 in
theorem topTimes_lifted (os : Os) (started : os.Started) (H : Type) (enc : TypeId × Value → H) :
    ReturnsInHanded {} Tryd.checked os 4 .any (fun w args => (Rows.topTimesSpec.pre enc Tryd.prog Tryd.f4 [] false w args ∧ laidMetH Tryd.prog Rows.topTimesRow.laid w) ∧ sizedMet enc Tryd.prog Tryd.f4 (OpenSpec.ofChange Rows.topTimesSpec) false w args)
      (Rows.topTimesSpec.post enc Tryd.prog Tryd.f4 false true false false) := by
  refine lift_laid (C := Tryd.checked) (tb := 4) (laid := Rows.topTimesRow.laid) Tryd.own started (by kernel_rfl) Tryd.func4
    (ChangeSpec.witness_shaped (enc := enc) (C := Tryd.checked) (os := os) (X := fun w _ => laidMetH Tryd.prog Rows.topTimesRow.laid w) false (World.laidAll Tryd.prog os Rows.topTimesRow.laid) #[.agg #[.slice none 0 0, .slice none 0 0], .agg #[.string ⟨#[]⟩, .int .i64 0, .int .i64 0, .int .i64 0, .int .i64 0, .slice none 0 0], .int .i64 0] 8 (World.laidAll_os _ _ _)
      (World.shaped_of_ZipB (by kernel_rfl) (by kernel_rfl)) (by kernel_rfl) (by kernel_rfl) (by kernel_rfl)
      (by rw [MakeChecks.laidMetH_plain _ _ _ (by kernel_rfl)]; exact laidMet_laidAll _ (by kernel_rfl) (by kernel_rfl)))
    laidOut (by kernel_rfl) (by kernel_rfl) (by kernel_rfl) Tryd.underlying4 rfl (fun ds hd => ?_) fun W M vs cs hsh hL hA hR => ?_
  · match ds, hd with
    | [d0, d1, d2], _ => rfl
  · have hT : Tw false W := tw_of hsh (by kernel_rfl) hL (.head _) 
    rw [Tryd.params4] at hA
    obtain ⟨c0, r0, rfl, h0, hA⟩ := ArgsTy.cons hA
    obtain ⟨c1, r1, rfl, h1, hA⟩ := ArgsTy.cons hA
    obtain ⟨c2, r2, rfl, h2, hA⟩ := ArgsTy.cons hA
    obtain rfl := ArgsTy.nil hA
    obtain ⟨p, rfl, hp, _⟩ := places_arg h0
    obtain ⟨f, rfl, hf, hq⟩ := flight_arg h1
    obtain ⟨day, rfl, _⟩ := ArgTy.int Tryd.underlying3 h2
    obtain ⟨n, hn⟩ := (topTimes_ok false p f day hp hf (fun x h => (hq x h).2)).one
    exact Tryd.walk hn W hT M vs hR
theorem topTimes_c1 : (Rows.topTimesRow.inPlace == Tryd.prog.inPlace 4) = true := by kernel_rfl
theorem topTimes_c2 : (Rows.topTimesRow.unfollowed == Tryd.prog.unfollowed 4) = true := by kernel_rfl
theorem topTimes_c3 : (Rows.topTimesRow.recurses == Tryd.prog.recurses 4) = true := by kernel_rfl
theorem topTimes_c4 : (Rows.topTimesRow.named == Tryd.prog.varsNamed 4) = true := by kernel_rfl
theorem topTimes_closed : joinedFacts Tryd.prog 4 Tryd.f4 Rows.topTimesSpec Rows.topTimesRow = true := by
  unfold joinedFacts
  simp only [Bool.and_eq_true]
  exact ⟨⟨⟨⟨⟨⟨⟨⟨⟨⟨⟨⟨⟨⟨⟨⟨⟨⟨⟨⟨⟨⟨⟨⟨⟨⟨⟨⟨⟨⟨⟨by kernel_rfl, laidOut⟩, sh_rowed⟩, by kernel_rfl⟩, by kernel_rfl⟩, rfl⟩, sh_stops⟩, rfl⟩, sh_knobs⟩, topTimes_c1⟩, topTimes_c2⟩, topTimes_c3⟩, topTimes_c4⟩, by kernel_rfl⟩, by kernel_rfl⟩, by kernel_rfl⟩, by kernel_rfl⟩, by kernel_rfl⟩, by kernel_rfl⟩, by kernel_rfl⟩, by kernel_rfl⟩, by kernel_rfl⟩, sh_keys⟩, rfl⟩, sh_heard⟩, sh_enter⟩, sh_lifted⟩, sh_make⟩, by kernel_rfl⟩, by kernel_rfl⟩, by kernel_rfl⟩, by kernel_rfl⟩
theorem topTimes_fn : Tryd.prog.funcNamed "airline/airlinetop.TopTimes" = some 4 := by kernel_rfl
theorem topTimes_goes : false = Rows.topTimesRow.goesBy Tryd.prog := by kernel_rfl
theorem topTimes_holds : Rows.TopTimesSaid :=
  OpenClaim.holds_of_wide 4 Tryd.f4 rfl rfl rfl rfl rfl rfl rfl ⟨rfl, rfl, rfl, rfl, rfl⟩ rfl rfl rfl rfl rfl topTimes_fn Tryd.func4 topTimes_closed
    (of_decide_eq_true (by kernel_rfl)) (by unfold Func.isWrapper; first | (rw [if_pos (by decide +kernel)]; kernel_rfl) | (rw [if_neg (by decide +kernel)]; exact ⟨rfl, rfl⟩))
    (fun os started H enc _ => topTimes_lifted os started H enc)
theorem TopTimesHolds : Rows.TopTimesCardSaid :=
  Claim7.holds_tied_plain_at .later [] [.data] true (true, "94015ee2fadb71e2a82d01fec23e33f528006b603c846508c8681c68d7b3b6f8") false
    topTimes_holds (fun _ h => by cases h) (by kernel_rfl) (fun _ h => by cases h) topTimes_row_tie rfl ⟨rfl, rfl⟩ sh_main rfl
    (fun f fn hf hfn => by
      obtain rfl : f = 4 := Option.some.inj (topTimes_fn.symm.trans hf) |>.symm
      obtain rfl : fn = Tryd.f4 := (Option.some.inj (Tryd.func4.symm.trans hfn)).symm
      exact ⟨sh_looks, fun j t ht => by
        rw [Tryd.params4] at ht
        have hm : t ∈ [25, 30, 3] := by simpa using Array.mem_of_getElem? ht
        have hall : ([25, 30, 3].all fun u => !Tryd.prog.wantsStandIn u) = true := by kernel_rfl
        exact (show Tryd.prog.wantsStandIn t = false by simpa using List.all_eq_true.1 hall t hm)⟩)
    topTimes_goes
end Go.Proofs.YtifjdkimbamdkaaDoor
