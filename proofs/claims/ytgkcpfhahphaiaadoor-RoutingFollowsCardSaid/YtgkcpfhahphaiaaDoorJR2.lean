/- The law RoutingFollows holds of the program. Conditions: none beyond the given rows. -/
import Derived.Test.YtgkcpfhahphaiaaDoorJd22
import Derived.Test.YtgkcpfhahphaiaaDoorQh
import Derived.Test.YtgkcpfhahphaiaaDoorTie
import Derived.Test.YtgkcpfhahphaiaaDoorCards
import Derived.SevenTiedAt
namespace Go.Proofs.YtgkcpfhahphaiaaDoor
open Go.ChangeShapes Go.WideShapes Go.ChangeAt Go.RowKit Go.Am

set_option maxRecDepth 100000 in
theorem routingFollows_lifted (os : Os) (started : os.Started) (H : Type) (enc : TypeId × Value → H) :
    ReturnsInHanded {} Tryd.checked os 4 .any (fun w args => (Rows.routingFollowsSpec.pre enc Tryd.prog Tryd.f4 [] false w args ∧ laidMetH Tryd.prog Rows.routingFollowsRow.laid w) ∧ sizedMet enc Tryd.prog Tryd.f4 (OpenSpec.ofChange Rows.routingFollowsSpec) false w args)
      (Rows.routingFollowsSpec.post enc Tryd.prog Tryd.f4 false true false false) := by
  refine lift_laid (C := Tryd.checked) (tb := 4) (laid := Rows.routingFollowsRow.laid) Tryd.own started (by kernel_rfl) Tryd.func4
    (ChangeSpec.witness_shaped (enc := enc) (C := Tryd.checked) (os := os) (X := fun w _ => laidMetH Tryd.prog Rows.routingFollowsRow.laid w) false (World.laidAll Tryd.prog os Rows.routingFollowsRow.laid) #[.agg #[.int .i64 0, .slice none 0 0, .int .i64 0], .slice none 0 0] 8 (World.laidAll_os _ _ _)
      (World.shaped_of_ZipB (by kernel_rfl) (by kernel_rfl)) (by kernel_rfl) (by kernel_rfl) (by kernel_rfl)
      (by rw [MakeChecks.laidMetH_plain _ _ _ (by kernel_rfl)]; exact laidMet_laidAll _ (by kernel_rfl) (by kernel_rfl)))
    laidOut (by kernel_rfl) (by kernel_rfl) (by kernel_rfl) Tryd.underlying4 rfl (fun ds hd => ?_) fun W M vs cs hsh hL hA hR => ?_
  · match ds, hd with
    | [d0, d1], _ => rfl
  · have hT : Tw false W := tw_of hsh (by kernel_rfl) hL (.tail _ (.tail _ (.head _))) 
    rw [Tryd.params4] at hA
    obtain ⟨c0, r0, rfl, h0, hA⟩ := ArgsTy.cons hA
    obtain ⟨c1, r1, rfl, h1, hA⟩ := ArgsTy.cons hA
    obtain rfl := ArgsTy.nil hA
    obtain ⟨num, an, l, miles, rfl, bl⟩ := routing_arg h0
    obtain ⟨bn, cs, rfl, hcs⟩ := cities_arg h1
    obtain ⟨n, hn⟩ := (routingFollows_ok false num miles an bn l bl cs hcs).one
    exact Tryd.walk hn W hT M vs hR
theorem routingFollows_c1 : (Rows.routingFollowsRow.inPlace == Tryd.prog.inPlace 4) = true := by kernel_rfl
theorem routingFollows_c2 : (Rows.routingFollowsRow.unfollowed == Tryd.prog.unfollowed 4) = true := by kernel_rfl
theorem routingFollows_c3 : (Rows.routingFollowsRow.recurses == Tryd.prog.recurses 4) = true := by kernel_rfl
theorem routingFollows_c4 : (Rows.routingFollowsRow.named == Tryd.prog.varsNamed 4) = true := by kernel_rfl
theorem routingFollows_closed : joinedFacts Tryd.prog 4 Tryd.f4 Rows.routingFollowsSpec Rows.routingFollowsRow = true := by
  unfold joinedFacts
  simp only [Bool.and_eq_true]
  exact ⟨⟨⟨⟨⟨⟨⟨⟨⟨⟨⟨⟨⟨⟨⟨⟨⟨⟨⟨⟨⟨⟨⟨⟨⟨⟨⟨⟨⟨⟨⟨by kernel_rfl, laidOut⟩, sh_rowed⟩, by kernel_rfl⟩, by kernel_rfl⟩, rfl⟩, sh_stops⟩, rfl⟩, sh_knobs⟩, routingFollows_c1⟩, routingFollows_c2⟩, routingFollows_c3⟩, routingFollows_c4⟩, by kernel_rfl⟩, by kernel_rfl⟩, by kernel_rfl⟩, by kernel_rfl⟩, by kernel_rfl⟩, by kernel_rfl⟩, by kernel_rfl⟩, by kernel_rfl⟩, by kernel_rfl⟩, sh_keys⟩, rfl⟩, sh_heard⟩, sh_enter⟩, sh_lifted⟩, sh_make⟩, by kernel_rfl⟩, by kernel_rfl⟩, by kernel_rfl⟩, by kernel_rfl⟩
theorem routingFollows_fn : Tryd.prog.funcNamed "airline/airlinelaw22.RoutingFollows" = some 4 := by kernel_rfl
theorem routingFollows_goes : false = Rows.routingFollowsRow.goesBy Tryd.prog := by kernel_rfl
theorem routingFollows_holds : Rows.RoutingFollowsSaid :=
  OpenClaim.holds_of_wide 4 Tryd.f4 rfl rfl rfl rfl rfl rfl rfl ⟨rfl, rfl, rfl, rfl, rfl⟩ rfl rfl rfl rfl rfl routingFollows_fn Tryd.func4 routingFollows_closed
    (of_decide_eq_true (by kernel_rfl)) (by unfold Func.isWrapper; first | (rw [if_pos (by decide +kernel)]; kernel_rfl) | (rw [if_neg (by decide +kernel)]; exact ⟨rfl, rfl⟩))
    (fun os started H enc _ => routingFollows_lifted os started H enc)
theorem RoutingFollowsHolds : Rows.RoutingFollowsCardSaid :=
  Claim7.holds_tied_plain_at .later [] [.data, .data, .data] true (true, "a1e032f6ba2ebdfd539ff1127e69bd776be125fcad6672e736718ec30831f576") false
    routingFollows_holds (fun _ h => by cases h) (by kernel_rfl) (fun _ h => by cases h) routingFollows_row_tie rfl ⟨rfl, rfl⟩ sh_main rfl
    (fun f fn hf hfn => by
      obtain rfl : f = 4 := Option.some.inj (routingFollows_fn.symm.trans hf) |>.symm
      obtain rfl : fn = Tryd.f4 := (Option.some.inj (Tryd.func4.symm.trans hfn)).symm
      exact ⟨sh_looks, fun j t ht => by
        rw [Tryd.params4] at ht
        have hm : t ∈ [24, 34] := by simpa using Array.mem_of_getElem? ht
        have hall : ([24, 34].all fun u => !Tryd.prog.wantsStandIn u) = true := by kernel_rfl
        exact (show Tryd.prog.wantsStandIn t = false by simpa using List.all_eq_true.1 hall t hm)⟩)
    routingFollows_goes
end Go.Proofs.YtgkcpfhahphaiaaDoor
