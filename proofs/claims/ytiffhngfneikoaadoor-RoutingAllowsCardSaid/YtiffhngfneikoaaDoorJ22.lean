/- The laws RoutingChecks and RoutingAllows of chapter 22 hold of the program. Conditions: none beyond the given rows. -/
import Derived.Test.YtiffhngfneikoaaDoorJd
import Derived.Test.YtiffhngfneikoaaDoorJe
import Derived.Test.YtiffhngfneikoaaDoorRf
import Derived.Test.YtiffhngfneikoaaDoorTie
import Derived.Test.YtiffhngfneikoaaDoorCards
import Derived.SevenTiedAt
namespace Go.Proofs.YtiffhngfneikoaaDoor
open Go.ChangeShapes Go.WideShapes Go.ChangeAt Go.RowKit Go.Am

set_option maxRecDepth 100000 in
theorem routingChecks_lifted (os : Os) (started : os.Started) (H : Type) (enc : TypeId × Value → H) :
    ReturnsInHanded {} Tryd.checked os 8 .any (fun w args => (Rows.routingChecksSpec.pre enc Tryd.prog Tryd.f8 [] false w args ∧ laidMetH Tryd.prog Rows.routingChecksRow.laid w) ∧ sizedMet enc Tryd.prog Tryd.f8 (OpenSpec.ofChange Rows.routingChecksSpec) false w args)
      (Rows.routingChecksSpec.post enc Tryd.prog Tryd.f8 false true false false) := by
  refine lift_laid (C := Tryd.checked) (tb := 4) (laid := Rows.routingChecksRow.laid) Tryd.own started (by kernel_rfl) Tryd.func8
    (ChangeSpec.witness_shaped (enc := enc) (C := Tryd.checked) (os := os) (X := fun w _ => laidMetH Tryd.prog Rows.routingChecksRow.laid w) false (World.laidAll Tryd.prog os Rows.routingChecksRow.laid) #[.agg #[.int .i64 0, .slice none 0 0, .int .i64 0]] 8 (World.laidAll_os _ _ _)
      (World.shaped_of_ZipB (by kernel_rfl) (by kernel_rfl)) (by kernel_rfl) (by kernel_rfl) (by kernel_rfl)
      (by rw [MakeChecks.laidMetH_plain _ _ _ (by kernel_rfl)]; exact laidMet_laidAll _ (by kernel_rfl) (by kernel_rfl)))
    laidOut (by kernel_rfl) (by kernel_rfl) (by kernel_rfl) Tryd.underlying4 rfl (fun ds hd => ?_) fun W M vs cs hsh hL hA hR => ?_
  · match ds, hd with
    | [d0], _ => rfl
  · have hT : Tw false W := tw_of hsh (by kernel_rfl) hL (.tail _ (.tail _ (.head _))) (fun q => by cases q)
    rw [Tryd.params8] at hA
    obtain ⟨c0, r0, rfl, h0, hA⟩ := ArgsTy.cons hA
    obtain rfl := ArgsTy.nil hA
    obtain ⟨num, an, l, miles, rfl, bn, bl⟩ := routing_arg h0
    obtain ⟨n, hn⟩ := (routingChecks_ok false num miles an l bl).one
    exact Tryd.walk hn W hT M vs hR
theorem routingChecks_c1 : (Rows.routingChecksRow.inPlace == Tryd.prog.inPlace 8) = true := by kernel_rfl
theorem routingChecks_c2 : (Rows.routingChecksRow.unfollowed == Tryd.prog.unfollowed 8) = true := by kernel_rfl
theorem routingChecks_c3 : (Rows.routingChecksRow.recurses == Tryd.prog.recurses 8) = true := by kernel_rfl
theorem routingChecks_c4 : (Rows.routingChecksRow.named == Tryd.prog.varsNamed 8) = true := by kernel_rfl
theorem routingChecks_closed : joinedFacts Tryd.prog 8 Tryd.f8 Rows.routingChecksSpec Rows.routingChecksRow = true := by
  unfold joinedFacts
  simp only [Bool.and_eq_true]
  exact ⟨⟨⟨⟨⟨⟨⟨⟨⟨⟨⟨⟨⟨⟨⟨⟨⟨⟨⟨⟨⟨⟨⟨⟨⟨⟨⟨⟨⟨⟨⟨by kernel_rfl, laidOut⟩, sh_rowed⟩, by kernel_rfl⟩, by kernel_rfl⟩, rfl⟩, sh_stops⟩, rfl⟩, sh_knobs⟩, routingChecks_c1⟩, routingChecks_c2⟩, routingChecks_c3⟩, routingChecks_c4⟩, by kernel_rfl⟩, by kernel_rfl⟩, by kernel_rfl⟩, by kernel_rfl⟩, by kernel_rfl⟩, by kernel_rfl⟩, by kernel_rfl⟩, by kernel_rfl⟩, by kernel_rfl⟩, sh_keys⟩, rfl⟩, sh_heard⟩, sh_enter⟩, sh_lifted⟩, sh_make⟩, by kernel_rfl⟩, by kernel_rfl⟩, by kernel_rfl⟩, by kernel_rfl⟩
theorem routingChecks_fn : Tryd.prog.funcNamed "airline/airlinelaw22.RoutingChecks" = some 8 := by kernel_rfl
theorem routingChecks_goes : false = Rows.routingChecksRow.goesBy Tryd.prog := by kernel_rfl
theorem routingChecks_holds : Rows.RoutingChecksSaid :=
  OpenClaim.holds_of_wide 8 Tryd.f8 rfl rfl rfl rfl rfl rfl rfl ⟨rfl, rfl, rfl, rfl, rfl⟩ rfl rfl rfl rfl rfl routingChecks_fn Tryd.func8 routingChecks_closed
    (of_decide_eq_true (by kernel_rfl)) (by unfold Func.isWrapper; first | (rw [if_pos (by decide +kernel)]; kernel_rfl) | (rw [if_neg (by decide +kernel)]; exact ⟨rfl, rfl⟩))
    (fun os started H enc _ => routingChecks_lifted os started H enc)
theorem RoutingChecksHolds : Rows.RoutingChecksCardSaid :=
  Claim7.holds_tied_plain_at .later [] [.data, .data, .data] true (true, "169db74cd3f551dd55bb08887a5c8c35f9aed73eef7fae6cc9707762c104c8e1") true
    routingChecks_holds (fun _ h => by cases h) (by kernel_rfl) (fun _ h => by cases h) routingChecks_row_tie rfl ⟨rfl, rfl⟩ sh_main rfl
    (fun f fn hf hfn => by
      obtain rfl : f = 8 := Option.some.inj (routingChecks_fn.symm.trans hf) |>.symm
      obtain rfl : fn = Tryd.f8 := (Option.some.inj (Tryd.func8.symm.trans hfn)).symm
      exact ⟨sh_looks, fun j t ht => by
        rw [Tryd.params8] at ht
        have hm : t ∈ [57] := by simpa using Array.mem_of_getElem? ht
        have hall : ([57].all fun u => !Tryd.prog.wantsStandIn u) = true := by kernel_rfl
        exact (show Tryd.prog.wantsStandIn t = false by simpa using List.all_eq_true.1 hall t hm)⟩)
    routingChecks_goes

set_option maxRecDepth 100000 in
theorem routingAllows_lifted (os : Os) (started : os.Started) (H : Type) (enc : TypeId × Value → H) :
    ReturnsInHanded {} Tryd.checked os 9 .any (fun w args => (Rows.routingAllowsSpec.pre enc Tryd.prog Tryd.f9 [] false w args ∧ laidMetH Tryd.prog Rows.routingAllowsRow.laid w) ∧ sizedMet enc Tryd.prog Tryd.f9 (OpenSpec.ofChange Rows.routingAllowsSpec) false w args)
      (Rows.routingAllowsSpec.post enc Tryd.prog Tryd.f9 false true false false) := by
  refine lift_laid (C := Tryd.checked) (tb := 4) (laid := Rows.routingAllowsRow.laid) Tryd.own started (by kernel_rfl) Tryd.func9
    (ChangeSpec.witness_shaped (enc := enc) (C := Tryd.checked) (os := os) (X := fun w _ => laidMetH Tryd.prog Rows.routingAllowsRow.laid w) false (World.laidAll Tryd.prog os Rows.routingAllowsRow.laid) #[.agg #[.int .i64 0, .slice none 0 0, .int .i64 0], .slice none 0 0] 8 (World.laidAll_os _ _ _)
      (World.shaped_of_ZipB (by kernel_rfl) (by kernel_rfl)) (by kernel_rfl) (by kernel_rfl) (by kernel_rfl)
      (by rw [MakeChecks.laidMetH_plain _ _ _ (by kernel_rfl)]; exact laidMet_laidAll _ (by kernel_rfl) (by kernel_rfl)))
    laidOut (by kernel_rfl) (by kernel_rfl) (by kernel_rfl) Tryd.underlying4 rfl (fun ds hd => ?_) fun W M vs cs hsh hL hA hR => ?_
  · match ds, hd with
    | [d0, d1], _ => rfl
  · have hT : Tw false W := tw_of hsh (by kernel_rfl) hL (.tail _ (.tail _ (.head _))) (fun q => by cases q)
    rw [Tryd.params9] at hA
    obtain ⟨c0, r0, rfl, h0, hA⟩ := ArgsTy.cons hA
    obtain ⟨c1, r1, rfl, h1, hA⟩ := ArgsTy.cons hA
    obtain rfl := ArgsTy.nil hA
    obtain ⟨num, an, l, miles, rfl, bn, bl⟩ := routing_arg h0
    obtain ⟨z1, x1, rfl, _, _, b1⟩ := ArgTy.slice Tryd.underlying41 h1
    obtain ⟨a1, rfl, k1⟩ := texts_gen Tryd.underlying9 b1
    obtain ⟨n, hn⟩ := (routingAllows_ok false num miles an z1 l bl a1 k1).one
    exact Tryd.walk hn W hT M vs hR
theorem routingAllows_c1 : (Rows.routingAllowsRow.inPlace == Tryd.prog.inPlace 9) = true := by kernel_rfl
theorem routingAllows_c2 : (Rows.routingAllowsRow.unfollowed == Tryd.prog.unfollowed 9) = true := by kernel_rfl
theorem routingAllows_c3 : (Rows.routingAllowsRow.recurses == Tryd.prog.recurses 9) = true := by kernel_rfl
theorem routingAllows_c4 : (Rows.routingAllowsRow.named == Tryd.prog.varsNamed 9) = true := by kernel_rfl
theorem routingAllows_closed : joinedFacts Tryd.prog 9 Tryd.f9 Rows.routingAllowsSpec Rows.routingAllowsRow = true := by
  unfold joinedFacts
  simp only [Bool.and_eq_true]
  exact ⟨⟨⟨⟨⟨⟨⟨⟨⟨⟨⟨⟨⟨⟨⟨⟨⟨⟨⟨⟨⟨⟨⟨⟨⟨⟨⟨⟨⟨⟨⟨by kernel_rfl, laidOut⟩, sh_rowed⟩, by kernel_rfl⟩, by kernel_rfl⟩, rfl⟩, sh_stops⟩, rfl⟩, sh_knobs⟩, routingAllows_c1⟩, routingAllows_c2⟩, routingAllows_c3⟩, routingAllows_c4⟩, by kernel_rfl⟩, by kernel_rfl⟩, by kernel_rfl⟩, by kernel_rfl⟩, by kernel_rfl⟩, by kernel_rfl⟩, by kernel_rfl⟩, by kernel_rfl⟩, by kernel_rfl⟩, sh_keys⟩, rfl⟩, sh_heard⟩, sh_enter⟩, sh_lifted⟩, sh_make⟩, by kernel_rfl⟩, by kernel_rfl⟩, by kernel_rfl⟩, by kernel_rfl⟩
theorem routingAllows_fn : Tryd.prog.funcNamed "airline/airlinelaw22.RoutingAllows" = some 9 := by kernel_rfl
theorem routingAllows_goes : false = Rows.routingAllowsRow.goesBy Tryd.prog := by kernel_rfl
theorem routingAllows_holds : Rows.RoutingAllowsSaid :=
  OpenClaim.holds_of_wide 9 Tryd.f9 rfl rfl rfl rfl rfl rfl rfl ⟨rfl, rfl, rfl, rfl, rfl⟩ rfl rfl rfl rfl rfl routingAllows_fn Tryd.func9 routingAllows_closed
    (of_decide_eq_true (by kernel_rfl)) (by unfold Func.isWrapper; first | (rw [if_pos (by decide +kernel)]; kernel_rfl) | (rw [if_neg (by decide +kernel)]; exact ⟨rfl, rfl⟩))
    (fun os started H enc _ => routingAllows_lifted os started H enc)
theorem RoutingAllowsHolds : Rows.RoutingAllowsCardSaid :=
  Claim7.holds_tied_plain_at .later [] [.data, .data, .data] true (true, "169db74cd3f551dd55bb08887a5c8c35f9aed73eef7fae6cc9707762c104c8e1") true
    routingAllows_holds (fun _ h => by cases h) (by kernel_rfl) (fun _ h => by cases h) routingAllows_row_tie rfl ⟨rfl, rfl⟩ sh_main rfl
    (fun f fn hf hfn => by
      obtain rfl : f = 9 := Option.some.inj (routingAllows_fn.symm.trans hf) |>.symm
      obtain rfl : fn = Tryd.f9 := (Option.some.inj (Tryd.func9.symm.trans hfn)).symm
      exact ⟨sh_looks, fun j t ht => by
        rw [Tryd.params9] at ht
        have hm : t ∈ [57, 41] := by simpa using Array.mem_of_getElem? ht
        have hall : ([57, 41].all fun u => !Tryd.prog.wantsStandIn u) = true := by kernel_rfl
        exact (show Tryd.prog.wantsStandIn t = false by simpa using List.all_eq_true.1 hall t hm)⟩)
    routingAllows_goes
end Go.Proofs.YtiffhngfneikoaaDoor
