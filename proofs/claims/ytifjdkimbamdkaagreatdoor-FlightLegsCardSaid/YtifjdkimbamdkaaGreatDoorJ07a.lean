/- The laws FlightChecks and FlightLegs of chapter 7 hold of the program. Conditions: none beyond the given rows. -/
import Derived.Test.YtifjdkimbamdkaaGreatDoorJd07
import Derived.Test.YtifjdkimbamdkaaGreatDoorKk
import Derived.Test.YtifjdkimbamdkaaGreatDoorTie
import Derived.Test.YtifjdkimbamdkaaGreatDoorCards
import Derived.SevenTiedAt
namespace Go.Proofs.YtifjdkimbamdkaaGreatDoor
open Go.ChangeShapes Go.WideShapes Go.ChangeAt Go.RowKit Go.Am

set_option maxRecDepth 100000 in
theorem flightChecks_lifted (os : Os) (started : os.Started) (H : Type) (enc : TypeId × Value → H) :
    ReturnsInHanded {} Tryz.checked os 3 .any (fun w args => (Rows.flightChecksSpec.pre enc Tryz.prog Tryz.f3 [] false w args ∧ laidMetH Tryz.prog Rows.flightChecksRow.laid w) ∧ sizedMet enc Tryz.prog Tryz.f3 (OpenSpec.ofChange Rows.flightChecksSpec) false w args)
      (Rows.flightChecksSpec.post enc Tryz.prog Tryz.f3 false true false false) := by
  refine lift_laid (C := Tryz.checked) (tb := 4) (laid := Rows.flightChecksRow.laid) Tryz.own started (by kernel_rfl) Tryz.func3
    (ChangeSpec.witness_shaped (enc := enc) (C := Tryz.checked) (os := os) (X := fun w _ => laidMetH Tryz.prog Rows.flightChecksRow.laid w) false (World.laidAll Tryz.prog os Rows.flightChecksRow.laid) #[.agg #[.slice none 0 0, .slice none 0 0], .agg #[.string ⟨#[]⟩, .int .i64 0, .int .i64 0, .int .i64 0, .int .i64 0, .slice none 0 0]] 8 (World.laidAll_os _ _ _)
      (World.shaped_of_ZipB (by kernel_rfl) (by kernel_rfl)) (by kernel_rfl) (by kernel_rfl) (by kernel_rfl)
      (by rw [MakeChecks.laidMetH_plain _ _ _ (by kernel_rfl)]; exact laidMet_laidAll _ (by kernel_rfl) (by kernel_rfl)))
    laidOut (by kernel_rfl) (by kernel_rfl) (by kernel_rfl) Tryz.underlying4 rfl (fun ds hd => ?_) fun W M vs cs hsh hL hA hR => ?_
  · match ds, hd with
    | [d0, d1], _ => rfl
  · have hT : Tw false W := tw_of hsh (by kernel_rfl) hL (.tail _ (.tail _ (.tail _ (.head _)))) (.head _) (fun q => by cases q)
    rw [Tryz.params3] at hA
    obtain ⟨c0, r0, rfl, h0, hA⟩ := ArgsTy.cons hA
    obtain ⟨c1, r1, rfl, h1, hA⟩ := ArgsTy.cons hA
    obtain rfl := ArgsTy.nil hA
    obtain ⟨p, rfl, hp, _⟩ := places_arg h0
    obtain ⟨f, rfl, hf, _⟩ := flight_arg h1
    obtain ⟨n, hn⟩ := (flightChecks_ok false p f hp hf).one
    exact Tryz.walk hn W hT M vs hR
theorem flightChecks_c1 : (Rows.flightChecksRow.inPlace == Tryz.prog.inPlace 3) = true := by kernel_rfl
theorem flightChecks_c2 : (Rows.flightChecksRow.unfollowed == Tryz.prog.unfollowed 3) = true := by kernel_rfl
theorem flightChecks_c3 : (Rows.flightChecksRow.recurses == Tryz.prog.recurses 3) = true := by kernel_rfl
theorem flightChecks_c4 : (Rows.flightChecksRow.named == Tryz.prog.varsNamed 3) = true := by kernel_rfl
theorem flightChecks_closed : joinedFacts Tryz.prog 3 Tryz.f3 Rows.flightChecksSpec Rows.flightChecksRow = true := by
  unfold joinedFacts
  simp only [Bool.and_eq_true]
  exact ⟨⟨⟨⟨⟨⟨⟨⟨⟨⟨⟨⟨⟨⟨⟨⟨⟨⟨⟨⟨⟨⟨⟨⟨⟨⟨⟨⟨⟨⟨⟨by kernel_rfl, laidOut⟩, sh_rowed⟩, by kernel_rfl⟩, by kernel_rfl⟩, rfl⟩, sh_stops⟩, rfl⟩, sh_knobs⟩, flightChecks_c1⟩, flightChecks_c2⟩, flightChecks_c3⟩, flightChecks_c4⟩, by kernel_rfl⟩, by kernel_rfl⟩, by kernel_rfl⟩, by kernel_rfl⟩, by kernel_rfl⟩, by kernel_rfl⟩, by kernel_rfl⟩, by kernel_rfl⟩, by kernel_rfl⟩, sh_keys⟩, rfl⟩, sh_heard⟩, sh_enter⟩, sh_lifted⟩, sh_make⟩, by kernel_rfl⟩, by kernel_rfl⟩, by kernel_rfl⟩, by kernel_rfl⟩
theorem flightChecks_fn : Tryz.prog.funcNamed "airline/airlinelaw07.FlightChecks" = some 3 := by kernel_rfl
theorem flightChecks_goes : false = Rows.flightChecksRow.goesBy Tryz.prog := by kernel_rfl
theorem flightChecks_holds : Rows.FlightChecksSaid :=
  OpenClaim.holds_of_wide 3 Tryz.f3 rfl rfl rfl rfl rfl rfl rfl ⟨rfl, rfl, rfl, rfl, rfl⟩ rfl rfl rfl rfl rfl flightChecks_fn Tryz.func3 flightChecks_closed
    (of_decide_eq_true (by kernel_rfl)) (by unfold Func.isWrapper; first | (rw [if_pos (by decide +kernel)]; kernel_rfl) | (rw [if_neg (by decide +kernel)]; exact ⟨rfl, rfl⟩))
    (fun os started H enc _ => flightChecks_lifted os started H enc)
theorem FlightChecksHolds : Rows.FlightChecksCardSaid :=
  Claim7.holds_tied_plain_at .later [] [.data, .data, .data, .data] true (true, "1f05cae96923df943ef01dd64bfe3d6b8dfa1149dffc71b83ed2f394932725dc") true
    flightChecks_holds (fun _ h => by cases h) (by kernel_rfl) (fun _ h => by cases h) flightChecks_row_tie rfl ⟨rfl, rfl⟩ sh_main rfl
    (fun f fn hf hfn => by
      obtain rfl : f = 3 := Option.some.inj (flightChecks_fn.symm.trans hf) |>.symm
      obtain rfl : fn = Tryz.f3 := (Option.some.inj (Tryz.func3.symm.trans hfn)).symm
      exact ⟨sh_looks, fun j t ht => by
        rw [Tryz.params3] at ht
        have hm : t ∈ [25, 30] := by simpa using Array.mem_of_getElem? ht
        have hall : ([25, 30].all fun u => !Tryz.prog.wantsStandIn u) = true := by kernel_rfl
        exact (show Tryz.prog.wantsStandIn t = false by simpa using List.all_eq_true.1 hall t hm)⟩)
    flightChecks_goes

set_option maxRecDepth 100000 in
theorem flightLegs_lifted (os : Os) (started : os.Started) (H : Type) (enc : TypeId × Value → H) :
    ReturnsInHanded {} Tryz.checked os 4 .any (fun w args => (Rows.flightLegsSpec.pre enc Tryz.prog Tryz.f4 [] false w args ∧ laidMetH Tryz.prog Rows.flightLegsRow.laid w) ∧ sizedMet enc Tryz.prog Tryz.f4 (OpenSpec.ofChange Rows.flightLegsSpec) false w args)
      (Rows.flightLegsSpec.post enc Tryz.prog Tryz.f4 false true false false) := by
  refine lift_laid (C := Tryz.checked) (tb := 4) (laid := Rows.flightLegsRow.laid) Tryz.own started (by kernel_rfl) Tryz.func4
    (ChangeSpec.witness_shaped (enc := enc) (C := Tryz.checked) (os := os) (X := fun w _ => laidMetH Tryz.prog Rows.flightLegsRow.laid w) false (World.laidAll Tryz.prog os Rows.flightLegsRow.laid) #[.agg #[.slice none 0 0, .slice none 0 0], .agg #[.string ⟨#[]⟩, .int .i64 0, .int .i64 0, .int .i64 0, .int .i64 0, .slice none 0 0], .int .i64 0] 8 (World.laidAll_os _ _ _)
      (World.shaped_of_ZipB (by kernel_rfl) (by kernel_rfl)) (by kernel_rfl) (by kernel_rfl) (by kernel_rfl)
      (by rw [MakeChecks.laidMetH_plain _ _ _ (by kernel_rfl)]; exact laidMet_laidAll _ (by kernel_rfl) (by kernel_rfl)))
    laidOut (by kernel_rfl) (by kernel_rfl) (by kernel_rfl) Tryz.underlying4 rfl (fun ds hd => ?_) fun W M vs cs hsh hL hA hR => ?_
  · match ds, hd with
    | [d0, d1, d2], _ => rfl
  · have hT : Tw false W := tw_of hsh (by kernel_rfl) hL (.tail _ (.tail _ (.tail _ (.head _)))) (.head _) (fun q => by cases q)
    rw [Tryz.params4] at hA
    obtain ⟨c0, r0, rfl, h0, hA⟩ := ArgsTy.cons hA
    obtain ⟨c1, r1, rfl, h1, hA⟩ := ArgsTy.cons hA
    obtain ⟨c2, r2, rfl, h2, hA⟩ := ArgsTy.cons hA
    obtain rfl := ArgsTy.nil hA
    obtain ⟨p, rfl, hp, _⟩ := places_arg h0
    obtain ⟨f, rfl, hf, _⟩ := flight_arg h1
    obtain ⟨day, rfl, _⟩ := ArgTy.int Tryz.underlying3 h2
    obtain ⟨n, hn⟩ := (flightLegs_ok false p f day hp hf).one
    exact Tryz.walk hn W hT M vs hR
theorem flightLegs_c1 : (Rows.flightLegsRow.inPlace == Tryz.prog.inPlace 4) = true := by kernel_rfl
theorem flightLegs_c2 : (Rows.flightLegsRow.unfollowed == Tryz.prog.unfollowed 4) = true := by kernel_rfl
theorem flightLegs_c3 : (Rows.flightLegsRow.recurses == Tryz.prog.recurses 4) = true := by kernel_rfl
theorem flightLegs_c4 : (Rows.flightLegsRow.named == Tryz.prog.varsNamed 4) = true := by kernel_rfl
theorem flightLegs_closed : joinedFacts Tryz.prog 4 Tryz.f4 Rows.flightLegsSpec Rows.flightLegsRow = true := by
  unfold joinedFacts
  simp only [Bool.and_eq_true]
  exact ⟨⟨⟨⟨⟨⟨⟨⟨⟨⟨⟨⟨⟨⟨⟨⟨⟨⟨⟨⟨⟨⟨⟨⟨⟨⟨⟨⟨⟨⟨⟨by kernel_rfl, laidOut⟩, sh_rowed⟩, by kernel_rfl⟩, by kernel_rfl⟩, rfl⟩, sh_stops⟩, rfl⟩, sh_knobs⟩, flightLegs_c1⟩, flightLegs_c2⟩, flightLegs_c3⟩, flightLegs_c4⟩, by kernel_rfl⟩, by kernel_rfl⟩, by kernel_rfl⟩, by kernel_rfl⟩, by kernel_rfl⟩, by kernel_rfl⟩, by kernel_rfl⟩, by kernel_rfl⟩, by kernel_rfl⟩, sh_keys⟩, rfl⟩, sh_heard⟩, sh_enter⟩, sh_lifted⟩, sh_make⟩, by kernel_rfl⟩, by kernel_rfl⟩, by kernel_rfl⟩, by kernel_rfl⟩
theorem flightLegs_fn : Tryz.prog.funcNamed "airline/airlinelaw07.FlightLegs" = some 4 := by kernel_rfl
theorem flightLegs_goes : false = Rows.flightLegsRow.goesBy Tryz.prog := by kernel_rfl
theorem flightLegs_holds : Rows.FlightLegsSaid :=
  OpenClaim.holds_of_wide 4 Tryz.f4 rfl rfl rfl rfl rfl rfl rfl ⟨rfl, rfl, rfl, rfl, rfl⟩ rfl rfl rfl rfl rfl flightLegs_fn Tryz.func4 flightLegs_closed
    (of_decide_eq_true (by kernel_rfl)) (by unfold Func.isWrapper; first | (rw [if_pos (by decide +kernel)]; kernel_rfl) | (rw [if_neg (by decide +kernel)]; exact ⟨rfl, rfl⟩))
    (fun os started H enc _ => flightLegs_lifted os started H enc)
theorem FlightLegsHolds : Rows.FlightLegsCardSaid :=
  Claim7.holds_tied_plain_at .later [] [.data, .data, .data, .data] true (true, "1f05cae96923df943ef01dd64bfe3d6b8dfa1149dffc71b83ed2f394932725dc") true
    flightLegs_holds (fun _ h => by cases h) (by kernel_rfl) (fun _ h => by cases h) flightLegs_row_tie rfl ⟨rfl, rfl⟩ sh_main rfl
    (fun f fn hf hfn => by
      obtain rfl : f = 4 := Option.some.inj (flightLegs_fn.symm.trans hf) |>.symm
      obtain rfl : fn = Tryz.f4 := (Option.some.inj (Tryz.func4.symm.trans hfn)).symm
      exact ⟨sh_looks, fun j t ht => by
        rw [Tryz.params4] at ht
        have hm : t ∈ [25, 30, 3] := by simpa using Array.mem_of_getElem? ht
        have hall : ([25, 30, 3].all fun u => !Tryz.prog.wantsStandIn u) = true := by kernel_rfl
        exact (show Tryz.prog.wantsStandIn t = false by simpa using List.all_eq_true.1 hall t hm)⟩)
    flightLegs_goes
end Go.Proofs.YtifjdkimbamdkaaGreatDoor
