/- The law RoutingWays holds of the program. Conditions: none beyond the given rows. -/
import Derived.Test.YtgkcpfhahphaiaaDoorJd22
import Derived.Test.YtgkcpfhahphaiaaDoorTie
import Derived.Test.YtgkcpfhahphaiaaDoorCards
import Derived.SevenTiedAt
namespace Go.Proofs.YtgkcpfhahphaiaaDoor
open Go.ChangeShapes Go.WideShapes Go.ChangeAt Go.RowKit Go.Am

set_option maxRecDepth 100000 in
theorem routingWays_lifted (os : Os) (started : os.Started) (H : Type) (enc : TypeId × Value → H) :
    ReturnsInHanded {} Tryd.checked os 3 .any (fun w args => (Rows.routingWaysSpec.pre enc Tryd.prog Tryd.f3 [] false w args ∧ laidMetH Tryd.prog Rows.routingWaysRow.laid w) ∧ sizedMet enc Tryd.prog Tryd.f3 (OpenSpec.ofChange Rows.routingWaysSpec) false w args)
      (Rows.routingWaysSpec.post enc Tryd.prog Tryd.f3 false true false false) := by
  refine lift_laid (C := Tryd.checked) (tb := 4) (laid := Rows.routingWaysRow.laid) Tryd.own started (by kernel_rfl) Tryd.func3
    (ChangeSpec.witness_shaped (enc := enc) (C := Tryd.checked) (os := os) (X := fun w _ => laidMetH Tryd.prog Rows.routingWaysRow.laid w) false (World.laidAll Tryd.prog os Rows.routingWaysRow.laid) #[.agg #[.int .i64 0, .slice none 0 0, .int .i64 0], .string ⟨#[]⟩, .string ⟨#[]⟩, .int .i64 0] 8 (World.laidAll_os _ _ _)
      (World.shaped_of_ZipB (by kernel_rfl) (by kernel_rfl)) (by kernel_rfl) (by kernel_rfl) (by kernel_rfl)
      (by rw [MakeChecks.laidMetH_plain _ _ _ (by kernel_rfl)]; exact laidMet_laidAll _ (by kernel_rfl) (by kernel_rfl)))
    laidOut (by kernel_rfl) (by kernel_rfl) (by kernel_rfl) Tryd.underlying4 rfl (fun ds hd => ?_) fun W M vs cs hsh hL hA hR => ?_
  · match ds, hd with
    | [d0, d1, d2, d3], _ => rfl
  · have hT : Tw false W := tw_of hsh (by kernel_rfl) hL (.tail _ (.tail _ (.head _))) 
    rw [Tryd.params3] at hA
    obtain ⟨c0, r0, rfl, h0, hA⟩ := ArgsTy.cons hA
    obtain ⟨c1, r1, rfl, h1, hA⟩ := ArgsTy.cons hA
    obtain ⟨c2, r2, rfl, h2, hA⟩ := ArgsTy.cons hA
    obtain ⟨c3, r3, rfl, h3, hA⟩ := ArgsTy.cons hA
    obtain rfl := ArgsTy.nil hA
    obtain ⟨num, an, l, miles, rfl, bl⟩ := routing_arg h0
    obtain ⟨a, rfl, _⟩ := ArgTy.str Tryd.underlying9 h1
    obtain ⟨b, rfl, _⟩ := ArgTy.str Tryd.underlying9 h2
    obtain ⟨m, rfl, _⟩ := ArgTy.int Tryd.underlying3 h3
    obtain ⟨n, hn⟩ := (routingWays_ok false num miles an l bl a b m).one
    exact Tryd.walk hn W hT M vs hR
theorem routingWays_c1 : (Rows.routingWaysRow.inPlace == Tryd.prog.inPlace 3) = true := by kernel_rfl
theorem routingWays_c2 : (Rows.routingWaysRow.unfollowed == Tryd.prog.unfollowed 3) = true := by kernel_rfl
theorem routingWays_c3 : (Rows.routingWaysRow.recurses == Tryd.prog.recurses 3) = true := by kernel_rfl
theorem routingWays_c4 : (Rows.routingWaysRow.named == Tryd.prog.varsNamed 3) = true := by kernel_rfl
theorem routingWays_closed : joinedFacts Tryd.prog 3 Tryd.f3 Rows.routingWaysSpec Rows.routingWaysRow = true := by
  unfold joinedFacts
  simp only [Bool.and_eq_true]
  exact ⟨⟨⟨⟨⟨⟨⟨⟨⟨⟨⟨⟨⟨⟨⟨⟨⟨⟨⟨⟨⟨⟨⟨⟨⟨⟨⟨⟨⟨⟨⟨by kernel_rfl, laidOut⟩, sh_rowed⟩, by kernel_rfl⟩, by kernel_rfl⟩, rfl⟩, sh_stops⟩, rfl⟩, sh_knobs⟩, routingWays_c1⟩, routingWays_c2⟩, routingWays_c3⟩, routingWays_c4⟩, by kernel_rfl⟩, by kernel_rfl⟩, by kernel_rfl⟩, by kernel_rfl⟩, by kernel_rfl⟩, by kernel_rfl⟩, by kernel_rfl⟩, by kernel_rfl⟩, by kernel_rfl⟩, sh_keys⟩, rfl⟩, sh_heard⟩, sh_enter⟩, sh_lifted⟩, sh_make⟩, by kernel_rfl⟩, by kernel_rfl⟩, by kernel_rfl⟩, by kernel_rfl⟩
theorem routingWays_fn : Tryd.prog.funcNamed "airline/airlinelaw22.RoutingWays" = some 3 := by kernel_rfl
theorem routingWays_goes : false = Rows.routingWaysRow.goesBy Tryd.prog := by kernel_rfl
theorem routingWays_holds : Rows.RoutingWaysSaid :=
  OpenClaim.holds_of_wide 3 Tryd.f3 rfl rfl rfl rfl rfl rfl rfl ⟨rfl, rfl, rfl, rfl, rfl⟩ rfl rfl rfl rfl rfl routingWays_fn Tryd.func3 routingWays_closed
    (of_decide_eq_true (by kernel_rfl)) (by unfold Func.isWrapper; first | (rw [if_pos (by decide +kernel)]; kernel_rfl) | (rw [if_neg (by decide +kernel)]; exact ⟨rfl, rfl⟩))
    (fun os started H enc _ => routingWays_lifted os started H enc)
theorem RoutingWaysHolds : Rows.RoutingWaysCardSaid :=
  Claim7.holds_tied_plain_at .later [] [.data, .data, .data] true (true, "a1e032f6ba2ebdfd539ff1127e69bd776be125fcad6672e736718ec30831f576") false
    routingWays_holds (fun _ h => by cases h) (by kernel_rfl) (fun _ h => by cases h) routingWays_row_tie rfl ⟨rfl, rfl⟩ sh_main rfl
    (fun f fn hf hfn => by
      obtain rfl : f = 3 := Option.some.inj (routingWays_fn.symm.trans hf) |>.symm
      obtain rfl : fn = Tryd.f3 := (Option.some.inj (Tryd.func3.symm.trans hfn)).symm
      exact ⟨sh_looks, fun j t ht => by
        rw [Tryd.params3] at ht
        have hm : t ∈ [24, 9, 9, 3] := by simpa using Array.mem_of_getElem? ht
        have hall : ([24, 9, 9, 3].all fun u => !Tryd.prog.wantsStandIn u) = true := by kernel_rfl
        exact (show Tryd.prog.wantsStandIn t = false by simpa using List.all_eq_true.1 hall t hm)⟩)
    routingWays_goes
end Go.Proofs.YtgkcpfhahphaiaaDoor
