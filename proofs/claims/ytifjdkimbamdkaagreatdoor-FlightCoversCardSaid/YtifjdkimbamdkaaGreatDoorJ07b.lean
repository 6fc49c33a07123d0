/- The laws FlightPaths and FlightCovers of chapter 7 hold of the program. Conditions: none beyond the given rows. -/
import Derived.Test.YtifjdkimbamdkaaGreatDoorJd7s
import Derived.Test.YtifjdkimbamdkaaGreatDoorKo
import Derived.Test.YtifjdkimbamdkaaGreatDoorTie
import Derived.Test.YtifjdkimbamdkaaGreatDoorCards
import Derived.SevenTiedAt
namespace Go.Proofs.YtifjdkimbamdkaaGreatDoor
open Go.ChangeShapes Go.WideShapes Go.ChangeAt Go.RowKit Go.Am

set_option maxRecDepth 100000 in
theorem flightPaths_lifted (os : Os) (started : os.Started) (H : Type) (enc : TypeId × Value → H) :
    ReturnsInHanded {} Tryz.checked os 5 .any (fun w args => (Rows.flightPathsSpec.pre enc Tryz.prog Tryz.f5 [] false w args ∧ laidMetH Tryz.prog Rows.flightPathsRow.laid w) ∧ sizedMet enc Tryz.prog Tryz.f5 (OpenSpec.ofChange Rows.flightPathsSpec) false w args)
      (Rows.flightPathsSpec.post enc Tryz.prog Tryz.f5 false true false false) := by
  refine lift_laid (C := Tryz.checked) (tb := 4) (laid := Rows.flightPathsRow.laid) Tryz.own started (by kernel_rfl) Tryz.func5
    (ChangeSpec.witness_shaped (enc := enc) (C := Tryz.checked) (os := os) (X := fun w _ => laidMetH Tryz.prog Rows.flightPathsRow.laid w) false (World.laidAll Tryz.prog os Rows.flightPathsRow.laid) #[.agg #[.slice none 0 0, .slice none 0 0], .agg #[.string ⟨#[]⟩, .int .i64 0, .int .i64 0, .int .i64 0, .int .i64 0, .slice none 0 0], .agg #[.string ⟨#[]⟩, .int .i64 0, .int .i64 0, .string ⟨#[]⟩, .string ⟨#[]⟩, .int .i64 0, .int .i64 0]] 8 (World.laidAll_os _ _ _)
      (World.shaped_of_ZipB (by kernel_rfl) (by kernel_rfl)) (by kernel_rfl) (by kernel_rfl) (by kernel_rfl)
      (by rw [MakeChecks.laidMetH_plain _ _ _ (by kernel_rfl)]; exact laidMet_laidAll _ (by kernel_rfl) (by kernel_rfl)))
    laidOut (by kernel_rfl) (by kernel_rfl) (by kernel_rfl) Tryz.underlying4 rfl (fun ds hd => ?_) fun W M vs cs hsh hL hA hR => ?_
  · match ds, hd with
    | [d0, d1, d2], _ => rfl
  · have hT : Tw false W := tw_of hsh (by kernel_rfl) hL (.tail _ (.tail _ (.tail _ (.head _)))) (.head _) (fun q => by cases q)
    rw [Tryz.params5] at hA
    obtain ⟨c0, r0, rfl, h0, hA⟩ := ArgsTy.cons hA
    obtain ⟨c1, r1, rfl, h1, hA⟩ := ArgsTy.cons hA
    obtain ⟨c2, r2, rfl, h2, hA⟩ := ArgsTy.cons hA
    obtain rfl := ArgsTy.nil hA
    obtain ⟨p, rfl, hp, _⟩ := places_arg h0
    obtain ⟨f, rfl, hf, _⟩ := flight_arg h1
    obtain ⟨s, rfl⟩ := seg_arg h2
    obtain ⟨n, hn⟩ := (flightPaths_ok false p f s hp hf).one
    exact Tryz.walk hn W hT M vs hR
theorem flightPaths_c1 : (Rows.flightPathsRow.inPlace == Tryz.prog.inPlace 5) = true := by kernel_rfl
theorem flightPaths_c2 : (Rows.flightPathsRow.unfollowed == Tryz.prog.unfollowed 5) = true := by kernel_rfl
theorem flightPaths_c3 : (Rows.flightPathsRow.recurses == Tryz.prog.recurses 5) = true := by kernel_rfl
theorem flightPaths_c4 : (Rows.flightPathsRow.named == Tryz.prog.varsNamed 5) = true := by kernel_rfl
theorem flightPaths_closed : joinedFacts Tryz.prog 5 Tryz.f5 Rows.flightPathsSpec Rows.flightPathsRow = true := by
  unfold joinedFacts
  simp only [Bool.and_eq_true]
  exact ⟨⟨⟨⟨⟨⟨⟨⟨⟨⟨⟨⟨⟨⟨⟨⟨⟨⟨⟨⟨⟨⟨⟨⟨⟨⟨⟨⟨⟨⟨⟨by kernel_rfl, laidOut⟩, sh_rowed⟩, by kernel_rfl⟩, by kernel_rfl⟩, rfl⟩, sh_stops⟩, rfl⟩, sh_knobs⟩, flightPaths_c1⟩, flightPaths_c2⟩, flightPaths_c3⟩, flightPaths_c4⟩, by kernel_rfl⟩, by kernel_rfl⟩, by kernel_rfl⟩, by kernel_rfl⟩, by kernel_rfl⟩, by kernel_rfl⟩, by kernel_rfl⟩, by kernel_rfl⟩, by kernel_rfl⟩, sh_keys⟩, rfl⟩, sh_heard⟩, sh_enter⟩, sh_lifted⟩, sh_make⟩, by kernel_rfl⟩, by kernel_rfl⟩, by kernel_rfl⟩, by kernel_rfl⟩
theorem flightPaths_fn : Tryz.prog.funcNamed "airline/airlinelaw07.FlightPaths" = some 5 := by kernel_rfl
theorem flightPaths_goes : false = Rows.flightPathsRow.goesBy Tryz.prog := by kernel_rfl
theorem flightPaths_holds : Rows.FlightPathsSaid :=
  OpenClaim.holds_of_wide 5 Tryz.f5 rfl rfl rfl rfl rfl rfl rfl ⟨rfl, rfl, rfl, rfl, rfl⟩ rfl rfl rfl rfl rfl flightPaths_fn Tryz.func5 flightPaths_closed
    (of_decide_eq_true (by kernel_rfl)) (by unfold Func.isWrapper; first | (rw [if_pos (by decide +kernel)]; kernel_rfl) | (rw [if_neg (by decide +kernel)]; exact ⟨rfl, rfl⟩))
    (fun os started H enc _ => flightPaths_lifted os started H enc)
theorem FlightPathsHolds : Rows.FlightPathsCardSaid :=
  Claim7.holds_tied_plain_at .later [] [.data, .data, .data, .data] true (true, "1f05cae96923df943ef01dd64bfe3d6b8dfa1149dffc71b83ed2f394932725dc") true
    flightPaths_holds (fun _ h => by cases h) (by kernel_rfl) (fun _ h => by cases h) flightPaths_row_tie rfl ⟨rfl, rfl⟩ sh_main rfl
    (fun f fn hf hfn => by
      obtain rfl : f = 5 := Option.some.inj (flightPaths_fn.symm.trans hf) |>.symm
      obtain rfl : fn = Tryz.f5 := (Option.some.inj (Tryz.func5.symm.trans hfn)).symm
      exact ⟨sh_looks, fun j t ht => by
        rw [Tryz.params5] at ht
        have hm : t ∈ [25, 30, 47] := by simpa using Array.mem_of_getElem? ht
        have hall : ([25, 30, 47].all fun u => !Tryz.prog.wantsStandIn u) = true := by kernel_rfl
        exact (show Tryz.prog.wantsStandIn t = false by simpa using List.all_eq_true.1 hall t hm)⟩)
    flightPaths_goes

set_option maxRecDepth 100000 in
theorem flightCovers_lifted (os : Os) (started : os.Started) (H : Type) (enc : TypeId × Value → H) :
    ReturnsInHanded {} Tryz.checked os 6 .any (fun w args => (Rows.flightCoversSpec.pre enc Tryz.prog Tryz.f6 [] false w args ∧ laidMetH Tryz.prog Rows.flightCoversRow.laid w) ∧ sizedMet enc Tryz.prog Tryz.f6 (OpenSpec.ofChange Rows.flightCoversSpec) false w args)
      (Rows.flightCoversSpec.post enc Tryz.prog Tryz.f6 false true false false) := by
  refine lift_laid (C := Tryz.checked) (tb := 4) (laid := Rows.flightCoversRow.laid) Tryz.own started (by kernel_rfl) Tryz.func6
    (ChangeSpec.witness_shaped (enc := enc) (C := Tryz.checked) (os := os) (X := fun w _ => laidMetH Tryz.prog Rows.flightCoversRow.laid w) false (World.laidAll Tryz.prog os Rows.flightCoversRow.laid) #[.agg #[.slice none 0 0, .slice none 0 0], .agg #[.string ⟨#[]⟩, .int .i64 0, .int .i64 0, .int .i64 0, .int .i64 0, .slice none 0 0], .int .i64 0] 8 (World.laidAll_os _ _ _)
      (World.shaped_of_ZipB (by kernel_rfl) (by kernel_rfl)) (by kernel_rfl) (by kernel_rfl) (by kernel_rfl)
      (by rw [MakeChecks.laidMetH_plain _ _ _ (by kernel_rfl)]; exact laidMet_laidAll _ (by kernel_rfl) (by kernel_rfl)))
    laidOut (by kernel_rfl) (by kernel_rfl) (by kernel_rfl) Tryz.underlying4 rfl (fun ds hd => ?_) fun W M vs cs hsh hL hA hR => ?_
  · match ds, hd with
    | [d0, d1, d2], _ => rfl
  · have hT : Tw false W := tw_of hsh (by kernel_rfl) hL (.tail _ (.tail _ (.tail _ (.head _)))) (.head _) (fun q => by cases q)
    rw [Tryz.params6] at hA
    obtain ⟨c0, r0, rfl, h0, hA⟩ := ArgsTy.cons hA
    obtain ⟨c1, r1, rfl, h1, hA⟩ := ArgsTy.cons hA
    obtain ⟨c2, r2, rfl, h2, hA⟩ := ArgsTy.cons hA
    obtain rfl := ArgsTy.nil hA
    obtain ⟨p, rfl, hp, _⟩ := places_arg h0
    obtain ⟨f, rfl, hf, _⟩ := flight_arg h1
    obtain ⟨day, rfl, _⟩ := ArgTy.int Tryz.underlying3 h2
    obtain ⟨n, hn⟩ := (flightCovers_ok false p f day hp hf).one
    exact Tryz.walk hn W hT M vs hR
theorem flightCovers_c1 : (Rows.flightCoversRow.inPlace == Tryz.prog.inPlace 6) = true := by kernel_rfl
theorem flightCovers_c2 : (Rows.flightCoversRow.unfollowed == Tryz.prog.unfollowed 6) = true := by kernel_rfl
theorem flightCovers_c3 : (Rows.flightCoversRow.recurses == Tryz.prog.recurses 6) = true := by kernel_rfl
theorem flightCovers_c4 : (Rows.flightCoversRow.named == Tryz.prog.varsNamed 6) = true := by kernel_rfl
theorem flightCovers_closed : joinedFacts Tryz.prog 6 Tryz.f6 Rows.flightCoversSpec Rows.flightCoversRow = true := by
  unfold joinedFacts
  simp only [Bool.and_eq_true]
  exact ⟨⟨⟨⟨⟨⟨⟨⟨⟨⟨⟨⟨⟨⟨⟨⟨⟨⟨⟨⟨⟨⟨⟨⟨⟨⟨⟨⟨⟨⟨⟨by kernel_rfl, laidOut⟩, sh_rowed⟩, by kernel_rfl⟩, by kernel_rfl⟩, rfl⟩, sh_stops⟩, rfl⟩, sh_knobs⟩, flightCovers_c1⟩, flightCovers_c2⟩, flightCovers_c3⟩, flightCovers_c4⟩, by kernel_rfl⟩, by kernel_rfl⟩, by kernel_rfl⟩, by kernel_rfl⟩, by kernel_rfl⟩, by kernel_rfl⟩, by kernel_rfl⟩, by kernel_rfl⟩, by kernel_rfl⟩, sh_keys⟩, rfl⟩, sh_heard⟩, sh_enter⟩, sh_lifted⟩, sh_make⟩, by kernel_rfl⟩, by kernel_rfl⟩, by kernel_rfl⟩, by kernel_rfl⟩
theorem flightCovers_fn : Tryz.prog.funcNamed "airline/airlinelaw07.FlightCovers" = some 6 := by kernel_rfl
theorem flightCovers_goes : false = Rows.flightCoversRow.goesBy Tryz.prog := by kernel_rfl
theorem flightCovers_holds : Rows.FlightCoversSaid :=
  OpenClaim.holds_of_wide 6 Tryz.f6 rfl rfl rfl rfl rfl rfl rfl ⟨rfl, rfl, rfl, rfl, rfl⟩ rfl rfl rfl rfl rfl flightCovers_fn Tryz.func6 flightCovers_closed
    (of_decide_eq_true (by kernel_rfl)) (by unfold Func.isWrapper; first | (rw [if_pos (by decide +kernel)]; kernel_rfl) | (rw [if_neg (by decide +kernel)]; exact ⟨rfl, rfl⟩))
    (fun os started H enc _ => flightCovers_lifted os started H enc)
theorem FlightCoversHolds : Rows.FlightCoversCardSaid :=
  Claim7.holds_tied_plain_at .later [] [.data, .data, .data, .data] true (true, "1f05cae96923df943ef01dd64bfe3d6b8dfa1149dffc71b83ed2f394932725dc") true
    flightCovers_holds (fun _ h => by cases h) (by kernel_rfl) (fun _ h => by cases h) flightCovers_row_tie rfl ⟨rfl, rfl⟩ sh_main rfl
    (fun f fn hf hfn => by
      obtain rfl : f = 6 := Option.some.inj (flightCovers_fn.symm.trans hf) |>.symm
      obtain rfl : fn = Tryz.f6 := (Option.some.inj (Tryz.func6.symm.trans hfn)).symm
      exact ⟨sh_looks, fun j t ht => by
        rw [Tryz.params6] at ht
        have hm : t ∈ [25, 30, 3] := by simpa using Array.mem_of_getElem? ht
        have hall : ([25, 30, 3].all fun u => !Tryz.prog.wantsStandIn u) = true := by kernel_rfl
        exact (show Tryz.prog.wantsStandIn t = false by simpa using List.all_eq_true.1 hall t hm)⟩)
    flightCovers_goes
end Go.Proofs.YtifjdkimbamdkaaGreatDoor
