/- The laws FlightOrder and FlightSames of chapter 7 hold of the program. Conditions: none beyond the given rows. -/
import Derived.Test.YtifjdkimbamdkaaDoorJd07
import Derived.Test.YtifjdkimbamdkaaDoorKl
import Derived.Test.YtifjdkimbamdkaaDoorTie
import Derived.Test.YtifjdkimbamdkaaDoorCards
import Derived.SevenTiedAt
namespace Go.Proofs.YtifjdkimbamdkaaDoor
open Go.ChangeShapes Go.WideShapes Go.ChangeAt Go.RowKit Go.Am

set_option maxRecDepth 100000 in
theorem flightOrder_lifted (os : Os) (started : os.Started) (H : Type) (enc : TypeId × Value → H) :
    ReturnsInHanded {} Tryd.checked os 3 .any (fun w args => (Rows.flightOrderSpec.pre enc Tryd.prog Tryd.f3 [] false w args ∧ laidMetH Tryd.prog Rows.flightOrderRow.laid w) ∧ sizedMet enc Tryd.prog Tryd.f3 (OpenSpec.ofChange Rows.flightOrderSpec) false w args)
      (Rows.flightOrderSpec.post enc Tryd.prog Tryd.f3 false true false false) := by
  refine lift_laid (C := Tryd.checked) (tb := 4) (laid := Rows.flightOrderRow.laid) Tryd.own started (by kernel_rfl) Tryd.func3
    (ChangeSpec.witness_shaped (enc := enc) (C := Tryd.checked) (os := os) (X := fun w _ => laidMetH Tryd.prog Rows.flightOrderRow.laid w) false (World.laidAll Tryd.prog os Rows.flightOrderRow.laid) #[.agg #[.slice none 0 0, .slice none 0 0], .agg #[.string ⟨#[]⟩, .int .i64 0, .int .i64 0, .int .i64 0, .int .i64 0, .slice none 0 0], .int .i64 0] 8 (World.laidAll_os _ _ _)
      (World.shaped_of_ZipB (by kernel_rfl) (by kernel_rfl)) (by kernel_rfl) (by kernel_rfl) (by kernel_rfl)
      (by rw [MakeChecks.laidMetH_plain _ _ _ (by kernel_rfl)]; exact laidMet_laidAll _ (by kernel_rfl) (by kernel_rfl)))
    laidOut (by kernel_rfl) (by kernel_rfl) (by kernel_rfl) Tryd.underlying4 rfl (fun ds hd => ?_) fun W M vs cs hsh hL hA hR => ?_
  · match ds, hd with
    | [d0, d1, d2], _ => rfl
  · have hT : Tw false W := tw_of hsh (by kernel_rfl) hL (.tail _ (.tail _ (.tail _ (.head _)))) (.head _) 
    rw [Tryd.params3] at hA
    obtain ⟨c0, r0, rfl, h0, hA⟩ := ArgsTy.cons hA
    obtain ⟨c1, r1, rfl, h1, hA⟩ := ArgsTy.cons hA
    obtain ⟨c2, r2, rfl, h2, hA⟩ := ArgsTy.cons hA
    obtain rfl := ArgsTy.nil hA
    obtain ⟨p, rfl, hp, _⟩ := places_arg h0
    obtain ⟨f, rfl, hf, _⟩ := flight_arg h1
    obtain ⟨day, rfl, _⟩ := ArgTy.int Tryd.underlying3 h2
    obtain ⟨n, hn⟩ := (flightOrder_ok false p f day hp hf).one
    exact Tryd.walk hn W hT M vs hR
theorem flightOrder_c1 : (Rows.flightOrderRow.inPlace == Tryd.prog.inPlace 3) = true := by kernel_rfl
theorem flightOrder_c2 : (Rows.flightOrderRow.unfollowed == Tryd.prog.unfollowed 3) = true := by kernel_rfl
theorem flightOrder_c3 : (Rows.flightOrderRow.recurses == Tryd.prog.recurses 3) = true := by kernel_rfl
theorem flightOrder_c4 : (Rows.flightOrderRow.named == Tryd.prog.varsNamed 3) = true := by kernel_rfl
theorem flightOrder_closed : joinedFacts Tryd.prog 3 Tryd.f3 Rows.flightOrderSpec Rows.flightOrderRow = true := by
  unfold joinedFacts
  simp only [Bool.and_eq_true]
  exact ⟨⟨⟨⟨⟨⟨⟨⟨⟨⟨⟨⟨⟨⟨⟨⟨⟨⟨⟨⟨⟨⟨⟨⟨⟨⟨⟨⟨⟨⟨⟨by kernel_rfl, laidOut⟩, sh_rowed⟩, by kernel_rfl⟩, by kernel_rfl⟩, rfl⟩, sh_stops⟩, rfl⟩, sh_knobs⟩, flightOrder_c1⟩, flightOrder_c2⟩, flightOrder_c3⟩, flightOrder_c4⟩, by kernel_rfl⟩, by kernel_rfl⟩, by kernel_rfl⟩, by kernel_rfl⟩, by kernel_rfl⟩, by kernel_rfl⟩, by kernel_rfl⟩, by kernel_rfl⟩, by kernel_rfl⟩, sh_keys⟩, rfl⟩, sh_heard⟩, sh_enter⟩, sh_lifted⟩, sh_make⟩, by kernel_rfl⟩, by kernel_rfl⟩, by kernel_rfl⟩, by kernel_rfl⟩
theorem flightOrder_fn : Tryd.prog.funcNamed "airline/airlinelaw07.FlightOrder" = some 3 := by kernel_rfl
theorem flightOrder_goes : false = Rows.flightOrderRow.goesBy Tryd.prog := by kernel_rfl
theorem flightOrder_holds : Rows.FlightOrderSaid :=
  OpenClaim.holds_of_wide 3 Tryd.f3 rfl rfl rfl rfl rfl rfl rfl ⟨rfl, rfl, rfl, rfl, rfl⟩ rfl rfl rfl rfl rfl flightOrder_fn Tryd.func3 flightOrder_closed
    (of_decide_eq_true (by kernel_rfl)) (by unfold Func.isWrapper; first | (rw [if_pos (by decide +kernel)]; kernel_rfl) | (rw [if_neg (by decide +kernel)]; exact ⟨rfl, rfl⟩))
    (fun os started H enc _ => flightOrder_lifted os started H enc)
theorem FlightOrderHolds : Rows.FlightOrderCardSaid :=
  Claim7.holds_tied_plain_at .later [] [.data, .data, .data, .data] true (true, "94015ee2fadb71e2a82d01fec23e33f528006b603c846508c8681c68d7b3b6f8") false
    flightOrder_holds (fun _ h => by cases h) (by kernel_rfl) (fun _ h => by cases h) flightOrder_row_tie rfl ⟨rfl, rfl⟩ sh_main rfl
    (fun f fn hf hfn => by
      obtain rfl : f = 3 := Option.some.inj (flightOrder_fn.symm.trans hf) |>.symm
      obtain rfl : fn = Tryd.f3 := (Option.some.inj (Tryd.func3.symm.trans hfn)).symm
      exact ⟨sh_looks, fun j t ht => by
        rw [Tryd.params3] at ht
        have hm : t ∈ [25, 30, 3] := by simpa using Array.mem_of_getElem? ht
        have hall : ([25, 30, 3].all fun u => !Tryd.prog.wantsStandIn u) = true := by kernel_rfl
        exact (show Tryd.prog.wantsStandIn t = false by simpa using List.all_eq_true.1 hall t hm)⟩)
    flightOrder_goes

set_option maxRecDepth 100000 in
theorem flightSames_lifted (os : Os) (started : os.Started) (H : Type) (enc : TypeId × Value → H) :
    ReturnsInHanded {} Tryd.checked os 5 .any (fun w args => (Rows.flightSamesSpec.pre enc Tryd.prog Tryd.f5 [] false w args ∧ laidMetH Tryd.prog Rows.flightSamesRow.laid w) ∧ sizedMet enc Tryd.prog Tryd.f5 (OpenSpec.ofChange Rows.flightSamesSpec) false w args)
      (Rows.flightSamesSpec.post enc Tryd.prog Tryd.f5 false true false false) := by
  refine lift_laid (C := Tryd.checked) (tb := 4) (laid := Rows.flightSamesRow.laid) Tryd.own started (by kernel_rfl) Tryd.func5
    (ChangeSpec.witness_shaped (enc := enc) (C := Tryd.checked) (os := os) (X := fun w _ => laidMetH Tryd.prog Rows.flightSamesRow.laid w) false (World.laidAll Tryd.prog os Rows.flightSamesRow.laid) #[.agg #[.string ⟨#[]⟩, .int .i64 0, .int .i64 0, .int .i64 0, .int .i64 0, .slice none 0 0], .agg #[.string ⟨#[]⟩, .int .i64 0, .int .i64 0, .int .i64 0, .int .i64 0, .slice none 0 0]] 8 (World.laidAll_os _ _ _)
      (World.shaped_of_ZipB (by kernel_rfl) (by kernel_rfl)) (by kernel_rfl) (by kernel_rfl) (by kernel_rfl)
      (by rw [MakeChecks.laidMetH_plain _ _ _ (by kernel_rfl)]; exact laidMet_laidAll _ (by kernel_rfl) (by kernel_rfl)))
    laidOut (by kernel_rfl) (by kernel_rfl) (by kernel_rfl) Tryd.underlying4 rfl (fun ds hd => ?_) fun W M vs cs hsh hL hA hR => ?_
  · match ds, hd with
    | [d0, d1], _ => rfl
  · have hT : Tw false W := tw_of hsh (by kernel_rfl) hL (.tail _ (.tail _ (.tail _ (.head _)))) (.head _) 
    rw [Tryd.params5] at hA
    obtain ⟨c0, r0, rfl, h0, hA⟩ := ArgsTy.cons hA
    obtain ⟨c1, r1, rfl, h1, hA⟩ := ArgsTy.cons hA
    obtain rfl := ArgsTy.nil hA
    obtain ⟨f, rfl, hf, _⟩ := flight_arg h0
    obtain ⟨g, rfl, hg, _⟩ := flight_arg h1
    obtain ⟨n, hn⟩ := (flightSames_ok false f g hf hg).one
    exact Tryd.walk hn W hT M vs hR
theorem flightSames_c1 : (Rows.flightSamesRow.inPlace == Tryd.prog.inPlace 5) = true := by kernel_rfl
theorem flightSames_c2 : (Rows.flightSamesRow.unfollowed == Tryd.prog.unfollowed 5) = true := by kernel_rfl
theorem flightSames_c3 : (Rows.flightSamesRow.recurses == Tryd.prog.recurses 5) = true := by kernel_rfl
theorem flightSames_c4 : (Rows.flightSamesRow.named == Tryd.prog.varsNamed 5) = true := by kernel_rfl
theorem flightSames_closed : joinedFacts Tryd.prog 5 Tryd.f5 Rows.flightSamesSpec Rows.flightSamesRow = true := by
  unfold joinedFacts
  simp only [Bool.and_eq_true]
  exact ⟨⟨⟨⟨⟨⟨⟨⟨⟨⟨⟨⟨⟨⟨⟨⟨⟨⟨⟨⟨⟨⟨⟨⟨⟨⟨⟨⟨⟨⟨⟨by kernel_rfl, laidOut⟩, sh_rowed⟩, by kernel_rfl⟩, by kernel_rfl⟩, rfl⟩, sh_stops⟩, rfl⟩, sh_knobs⟩, flightSames_c1⟩, flightSames_c2⟩, flightSames_c3⟩, flightSames_c4⟩, by kernel_rfl⟩, by kernel_rfl⟩, by kernel_rfl⟩, by kernel_rfl⟩, by kernel_rfl⟩, by kernel_rfl⟩, by kernel_rfl⟩, by kernel_rfl⟩, by kernel_rfl⟩, sh_keys⟩, rfl⟩, sh_heard⟩, sh_enter⟩, sh_lifted⟩, sh_make⟩, by kernel_rfl⟩, by kernel_rfl⟩, by kernel_rfl⟩, by kernel_rfl⟩
theorem flightSames_fn : Tryd.prog.funcNamed "airline/airlinelaw07.FlightSames" = some 5 := by kernel_rfl
theorem flightSames_goes : false = Rows.flightSamesRow.goesBy Tryd.prog := by kernel_rfl
theorem flightSames_holds : Rows.FlightSamesSaid :=
  OpenClaim.holds_of_wide 5 Tryd.f5 rfl rfl rfl rfl rfl rfl rfl ⟨rfl, rfl, rfl, rfl, rfl⟩ rfl rfl rfl rfl rfl flightSames_fn Tryd.func5 flightSames_closed
    (of_decide_eq_true (by kernel_rfl)) (by unfold Func.isWrapper; first | (rw [if_pos (by decide +kernel)]; kernel_rfl) | (rw [if_neg (by decide +kernel)]; exact ⟨rfl, rfl⟩))
    (fun os started H enc _ => flightSames_lifted os started H enc)
theorem FlightSamesHolds : Rows.FlightSamesCardSaid :=
  Claim7.holds_tied_plain_at .later [] [.data, .data, .data, .data] true (true, "94015ee2fadb71e2a82d01fec23e33f528006b603c846508c8681c68d7b3b6f8") false
    flightSames_holds (fun _ h => by cases h) (by kernel_rfl) (fun _ h => by cases h) flightSames_row_tie rfl ⟨rfl, rfl⟩ sh_main rfl
    (fun f fn hf hfn => by
      obtain rfl : f = 5 := Option.some.inj (flightSames_fn.symm.trans hf) |>.symm
      obtain rfl : fn = Tryd.f5 := (Option.some.inj (Tryd.func5.symm.trans hfn)).symm
      exact ⟨sh_looks, fun j t ht => by
        rw [Tryd.params5] at ht
        have hm : t ∈ [30, 30] := by simpa using Array.mem_of_getElem? ht
        have hall : ([30, 30].all fun u => !Tryd.prog.wantsStandIn u) = true := by kernel_rfl
        exact (show Tryd.prog.wantsStandIn t = false by simpa using List.all_eq_true.1 hall t hm)⟩)
    flightSames_goes
end Go.Proofs.YtifjdkimbamdkaaDoor
