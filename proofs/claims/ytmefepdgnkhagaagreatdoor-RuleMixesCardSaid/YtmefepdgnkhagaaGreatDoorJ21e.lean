/- The law RuleMixes of chapter 21 holds of the program. Conditions: none beyond the given rows. -/
import Derived.Test.YtmefepdgnkhagaaGreatDoorJd21
import Derived.Test.YtmefepdgnkhagaaGreatDoorMc
import Derived.Test.YtmefepdgnkhagaaGreatDoorTie
import Derived.Test.YtmefepdgnkhagaaGreatDoorCards
import Derived.SevenTiedAt
namespace Go.Proofs.YtmefepdgnkhagaaGreatDoor
open Go.ChangeShapes Go.WideShapes Go.ChangeAt Go.RowKit Go.Am

set_option maxRecDepth 100000 in
theorem ruleMixes_lifted (os : Os) (started : os.Started) (H : Type) (enc : TypeId × Value → H) :
    ReturnsInHanded {} Tryz.checked os 7 .any (fun w args => (Rows.ruleMixesSpec.pre enc Tryz.prog Tryz.f7 [] false w args ∧ laidMetH Tryz.prog Rows.ruleMixesRow.laid w) ∧ sizedMet enc Tryz.prog Tryz.f7 (OpenSpec.ofChange Rows.ruleMixesSpec) false w args)
      (Rows.ruleMixesSpec.post enc Tryz.prog Tryz.f7 false true false false) := by
  refine lift_laidR (C := Tryz.checked) (S := [31, 3, 27, 22, 24, 25, 9, 28, 29, 63, 38]) (tb := 4) (laid := Rows.ruleMixesRow.laid) (by kernel_rfl) Tryz.own started (by kernel_rfl) Tryz.func7
    (ChangeSpec.witness_shaped (enc := enc) (C := Tryz.checked) (os := os) (X := fun w _ => laidMetH Tryz.prog Rows.ruleMixesRow.laid w) false (World.laidAll Tryz.prog os Rows.ruleMixesRow.laid) #[.agg #[.int .i64 0, .int .i64 0, .slice none 0 0, .int .i64 0, .int .i64 0, .int .i64 0, .int .i64 0, .int .i64 0, .slice none 0 0, .slice none 0 0, .int .i64 0, .int .i64 0, .int .i64 0, .int .i64 0, .slice none 0 0], .agg #[.int .i64 0, .int .i64 0, .slice none 0 0, .int .i64 0, .int .i64 0, .int .i64 0, .int .i64 0, .int .i64 0, .slice none 0 0, .slice none 0 0, .int .i64 0, .int .i64 0, .int .i64 0, .int .i64 0, .slice none 0 0]] 8 (World.laidAll_os _ _ _)
      (World.shaped_of_ZipB (by kernel_rfl) (by kernel_rfl)) (by kernel_rfl) (by kernel_rfl) (by kernel_rfl)
      (by rw [MakeChecks.laidMetH_plain _ _ _ (by kernel_rfl)]; exact laidMet_laidAll _ (by kernel_rfl) (by kernel_rfl)))
    laidOut (by kernel_rfl) (by kernel_rfl) (by kernel_rfl) Tryz.underlying4 rfl (fun ds hd => ?_) fun W M vs cs hsh hL hA hR => ?_
  · match ds, hd with
    | [d0, d1], _ => rfl
  · have hT : Tw 2 W := tw_of hsh (by kernel_rfl) hL (.tail _ (.tail _ (.tail _ (.head _)))) (.head _) (.tail _ (.tail _ (.tail _ (.tail _ (.tail _ (.tail _ (.tail _ (.head _)))))))) (fun _ => ⟨.tail _ (.tail _ (.tail _ (.tail _ (.tail _ (.tail _ (.head _)))))), .tail _ (.tail _ (.tail _ (.tail _ (.tail _ (.head _)))))⟩)
    rw [Tryz.params7] at hA
    obtain ⟨c0, r0, rfl, h0, hA⟩ := ArgsTyR.cons hA
    obtain ⟨c1, r1, rfl, h1, hA⟩ := ArgsTyR.cons hA
    obtain rfl := ArgsTyR.nil hA
    obtain ⟨a, rfl, ha⟩ := ru_arg h0
    obtain ⟨b, rfl, hb⟩ := ru_arg h1
    obtain ⟨n, hn⟩ := (ruleMixes_ret 0 a b ha.2.1 hb.2.1).one
    exact Tryz.walk hn W hT M vs hR
theorem ruleMixes_c1 : (Rows.ruleMixesRow.inPlace == Tryz.prog.inPlace 7) = true := by kernel_rfl
theorem ruleMixes_c2 : (Rows.ruleMixesRow.unfollowed == Tryz.prog.unfollowed 7) = true := by kernel_rfl
theorem ruleMixes_c3 : (Rows.ruleMixesRow.recurses == Tryz.prog.recurses 7) = true := by kernel_rfl
theorem ruleMixes_c4 : (Rows.ruleMixesRow.named == Tryz.prog.varsNamed 7) = true := by kernel_rfl
theorem ruleMixes_closed : joinedFacts Tryz.prog 7 Tryz.f7 Rows.ruleMixesSpec Rows.ruleMixesRow = true := by
  unfold joinedFacts
  simp only [Bool.and_eq_true]
  exact ⟨⟨⟨⟨⟨⟨⟨⟨⟨⟨⟨⟨⟨⟨⟨⟨⟨⟨⟨⟨⟨⟨⟨⟨⟨⟨⟨⟨⟨⟨⟨by kernel_rfl, laidOut⟩, sh_rowed⟩, by kernel_rfl⟩, by kernel_rfl⟩, rfl⟩, sh_stops⟩, rfl⟩, sh_knobs⟩, ruleMixes_c1⟩, ruleMixes_c2⟩, ruleMixes_c3⟩, ruleMixes_c4⟩, by kernel_rfl⟩, by kernel_rfl⟩, by kernel_rfl⟩, by kernel_rfl⟩, by kernel_rfl⟩, by kernel_rfl⟩, by kernel_rfl⟩, by kernel_rfl⟩, by kernel_rfl⟩, sh_keys⟩, rfl⟩, sh_heard⟩, sh_enter⟩, sh_lifted⟩, sh_make⟩, by kernel_rfl⟩, by kernel_rfl⟩, by kernel_rfl⟩, by kernel_rfl⟩
theorem ruleMixes_fn : Tryz.prog.funcNamed "airline/airlinelaw21.RuleMixes" = some 7 := by kernel_rfl
theorem ruleMixes_goes : false = Rows.ruleMixesRow.goesBy Tryz.prog := by kernel_rfl
theorem ruleMixes_holds : Rows.RuleMixesSaid :=
  OpenClaim.holds_of_wide 7 Tryz.f7 rfl rfl rfl rfl rfl rfl rfl ⟨rfl, rfl, rfl, rfl, rfl⟩ rfl rfl rfl rfl rfl ruleMixes_fn Tryz.func7 ruleMixes_closed
    (of_decide_eq_true (by kernel_rfl)) (by unfold Func.isWrapper; first | (rw [if_pos (by decide +kernel)]; kernel_rfl) | (rw [if_neg (by decide +kernel)]; exact ⟨rfl, rfl⟩))
    (fun os started H enc _ => ruleMixes_lifted os started H enc)
theorem RuleMixesHolds : Rows.RuleMixesCardSaid :=
  Claim7.holds_tied_plain_at .later [] [.data, .data, .data, .data, .data, .sentinel, .sentinel, .data, .pinned] true (true, "6e6382b7bca30ce046227d79d6514d34abf61014a1b910034225d085734a6eeb") true
    ruleMixes_holds (fun _ h => by cases h) (by kernel_rfl) (fun _ h => by cases h) ruleMixes_row_tie rfl ⟨rfl, rfl⟩ sh_main rfl
    (fun f fn hf hfn => by
      obtain rfl : f = 7 := Option.some.inj (ruleMixes_fn.symm.trans hf) |>.symm
      obtain rfl : fn = Tryz.f7 := (Option.some.inj (Tryz.func7.symm.trans hfn)).symm
      exact ⟨sh_looks, fun j t ht => by
        rw [Tryz.params7] at ht
        have hm : t ∈ [31, 31] := by simpa using Array.mem_of_getElem? ht
        have hall : ([31, 31].all fun u => !Tryz.prog.wantsStandIn u) = true := by kernel_rfl
        exact (show Tryz.prog.wantsStandIn t = false by simpa using List.all_eq_true.1 hall t hm)⟩)
    ruleMixes_goes
end Go.Proofs.YtmefepdgnkhagaaGreatDoor
