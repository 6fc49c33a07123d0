/- The law RoutingTexts of chapter 22 holds of the program. Conditions: none beyond the given rows. -/
import Derived.Test.YtiffhngfneikoaaDoorJd
import Derived.Test.YtiffhngfneikoaaDoorJe
import Derived.Test.YtiffhngfneikoaaDoorRh
import Derived.Test.YtiffhngfneikoaaDoorTie
import Derived.Test.YtiffhngfneikoaaDoorCards
import Derived.SevenTiedAt
namespace Go.Proofs.YtiffhngfneikoaaDoor
open Go.ChangeShapes Go.WideShapes Go.ChangeAt Go.RowKit Go.Am

set_option maxRecDepth 100000 in
theorem routingTexts_lifted (os : Os) (started : os.Started) (H : Type) (enc : TypeId × Value → H) :
    ReturnsInHanded {} Tryd.checked os 12 .any (fun w args => (Rows.routingTextsSpec.pre enc Tryd.prog Tryd.f12 [] false w args ∧ laidMetH Tryd.prog Rows.routingTextsRow.laid w) ∧ sizedMet enc Tryd.prog Tryd.f12 (OpenSpec.ofChange Rows.routingTextsSpec) false w args)
      (Rows.routingTextsSpec.post enc Tryd.prog Tryd.f12 false true false false) := by
  refine lift_laid (C := Tryd.checked) (tb := 4) (laid := Rows.routingTextsRow.laid) Tryd.own started (by kernel_rfl) Tryd.func12
    (ChangeSpec.witness_shaped (enc := enc) (C := Tryd.checked) (os := os) (X := fun w _ => laidMetH Tryd.prog Rows.routingTextsRow.laid w) false (World.laidAll Tryd.prog os Rows.routingTextsRow.laid) #[.agg #[.int .i64 0, .slice none 0 0, .int .i64 0], .string ⟨#[]⟩] 8 (World.laidAll_os _ _ _)
      (World.shaped_of_ZipB (by kernel_rfl) (by kernel_rfl)) (by kernel_rfl) (by kernel_rfl) (by kernel_rfl)
      (by rw [MakeChecks.laidMetH_plain _ _ _ (by kernel_rfl)]; exact laidMet_laidAll _ (by kernel_rfl) (by kernel_rfl)))
    laidOut (by kernel_rfl) (by kernel_rfl) (by kernel_rfl) Tryd.underlying4 rfl (fun ds hd => ?_) fun W M vs cs hsh hL hA hR => ?_
  · match ds, hd with
    | [d0, d1], _ => rfl
  · have hT : Tw true W := tw_of hsh (by kernel_rfl) hL (.tail _ (.tail _ (.head _))) (fun _ => ⟨.tail _ (.tail _ (.tail _ (.tail _ (.head _)))), .tail _ (.tail _ (.tail _ (.head _)))⟩)
    rw [Tryd.params12] at hA
    obtain ⟨c0, r0, rfl, h0, hA⟩ := ArgsTy.cons hA
    obtain ⟨c1, r1, rfl, h1, hA⟩ := ArgsTy.cons hA
    obtain rfl := ArgsTy.nil hA
    obtain ⟨num, an, l, miles, rfl, _, bl⟩ := routing_arg h0
    obtain ⟨a1, rfl, _⟩ := ArgTy.str Tryd.underlying9 h1
    obtain ⟨n, hn⟩ := (routingTexts_ok num miles an l bl a1).one
    exact Tryd.walk hn W hT M vs hR
theorem routingTexts_c1 : (Rows.routingTextsRow.inPlace == Tryd.prog.inPlace 12) = true := by kernel_rfl
theorem routingTexts_c2 : (Rows.routingTextsRow.unfollowed == Tryd.prog.unfollowed 12) = true := by kernel_rfl
theorem routingTexts_c3 : (Rows.routingTextsRow.recurses == Tryd.prog.recurses 12) = true := by kernel_rfl
theorem routingTexts_c4 : (Rows.routingTextsRow.named == Tryd.prog.varsNamed 12) = true := by kernel_rfl
theorem routingTexts_closed : joinedFacts Tryd.prog 12 Tryd.f12 Rows.routingTextsSpec Rows.routingTextsRow = true := by
  unfold joinedFacts
  simp only [Bool.and_eq_true]
  exact ⟨⟨⟨⟨⟨⟨⟨⟨⟨⟨⟨⟨⟨⟨⟨⟨⟨⟨⟨⟨⟨⟨⟨⟨⟨⟨⟨⟨⟨⟨⟨by kernel_rfl, laidOut⟩, sh_rowed⟩, by kernel_rfl⟩, by kernel_rfl⟩, rfl⟩, sh_stops⟩, rfl⟩, sh_knobs⟩, routingTexts_c1⟩, routingTexts_c2⟩, routingTexts_c3⟩, routingTexts_c4⟩, by kernel_rfl⟩, by kernel_rfl⟩, by kernel_rfl⟩, by kernel_rfl⟩, by kernel_rfl⟩, by kernel_rfl⟩, by kernel_rfl⟩, by kernel_rfl⟩, by kernel_rfl⟩, sh_keys⟩, rfl⟩, sh_heard⟩, sh_enter⟩, sh_lifted⟩, sh_make⟩, by kernel_rfl⟩, by kernel_rfl⟩, by kernel_rfl⟩, by kernel_rfl⟩
theorem routingTexts_fn : Tryd.prog.funcNamed "airline/airlinelaw22.RoutingTexts" = some 12 := by kernel_rfl
theorem routingTexts_goes : false = Rows.routingTextsRow.goesBy Tryd.prog := by kernel_rfl
theorem routingTexts_holds : Rows.RoutingTextsSaid :=
  OpenClaim.holds_of_wide 12 Tryd.f12 rfl rfl rfl rfl rfl rfl rfl ⟨rfl, rfl, rfl, rfl, rfl⟩ rfl rfl rfl rfl rfl routingTexts_fn Tryd.func12 routingTexts_closed
    (of_decide_eq_true (by kernel_rfl)) (by unfold Func.isWrapper; first | (rw [if_pos (by decide +kernel)]; kernel_rfl) | (rw [if_neg (by decide +kernel)]; exact ⟨rfl, rfl⟩))
    (fun os started H enc _ => routingTexts_lifted os started H enc)
theorem RoutingTextsHolds : Rows.RoutingTextsCardSaid :=
  Claim7.holds_tied_plain_at .later [] [.data, .data, .data, .sentinel, .sentinel] true (true, "169db74cd3f551dd55bb08887a5c8c35f9aed73eef7fae6cc9707762c104c8e1") true
    routingTexts_holds (fun _ h => by cases h) (by kernel_rfl) (fun _ h => by cases h) routingTexts_row_tie rfl ⟨rfl, rfl⟩ sh_main rfl
    (fun f fn hf hfn => by
      obtain rfl : f = 12 := Option.some.inj (routingTexts_fn.symm.trans hf) |>.symm
      obtain rfl : fn = Tryd.f12 := (Option.some.inj (Tryd.func12.symm.trans hfn)).symm
      exact ⟨sh_looks, fun j t ht => by
        rw [Tryd.params12] at ht
        have hm : t ∈ [57, 9] := by simpa using Array.mem_of_getElem? ht
        have hall : ([57, 9].all fun u => !Tryd.prog.wantsStandIn u) = true := by kernel_rfl
        exact (show Tryd.prog.wantsStandIn t = false by simpa using List.all_eq_true.1 hall t hm)⟩)
    routingTexts_goes
end Go.Proofs.YtiffhngfneikoaaDoor
