/- The law RulePays of chapter 21 holds of the program. Conditions: none beyond the given rows. -/
import Derived.Test.YtmefepdgnkhagaaGreatDoorJd21
import Derived.Test.YtmefepdgnkhagaaGreatDoorMq
import Derived.Test.YtmefepdgnkhagaaGreatDoorTie
import Derived.Test.YtmefepdgnkhagaaGreatDoorCards
import Derived.SevenTiedAt
namespace Go.Proofs.YtmefepdgnkhagaaGreatDoor
open Go.ChangeShapes Go.WideShapes Go.ChangeAt Go.RowKit Go.Am

set_option maxRecDepth 100000 in
theorem rulePays_lifted (os : Os) (started : os.Started) (H : Type) (enc : TypeId × Value → H) :
    ReturnsInHanded {} Tryz.checked os 5 .any (fun w args => (Rows.rulePaysSpec.pre enc Tryz.prog Tryz.f5 [] false w args ∧ laidMetH Tryz.prog Rows.rulePaysRow.laid w) ∧ sizedMet enc Tryz.prog Tryz.f5 (OpenSpec.ofChange Rows.rulePaysSpec) false w args)
      (Rows.rulePaysSpec.post enc Tryz.prog Tryz.f5 false true false false) := by
  refine lift_laidR (C := Tryz.checked) (S := [31, 3, 27, 22, 24, 25, 9, 28, 29, 63, 38]) (tb := 4) (laid := Rows.rulePaysRow.laid) (by kernel_rfl) Tryz.own started (by kernel_rfl) Tryz.func5
    (ChangeSpec.witness_shaped (enc := enc) (C := Tryz.checked) (os := os) (X := fun w _ => laidMetH Tryz.prog Rows.rulePaysRow.laid w) false (World.laidAll Tryz.prog os Rows.rulePaysRow.laid) #[.agg #[.int .i64 0, .int .i64 0, .slice none 0 0, .int .i64 0, .int .i64 0, .int .i64 0, .int .i64 0, .int .i64 0, .slice none 0 0, .slice none 0 0, .int .i64 0, .int .i64 0, .int .i64 0, .int .i64 0, .slice none 0 0], .string ⟨#[]⟩, .int .i64 0] 8 (World.laidAll_os _ _ _)
      (World.shaped_of_ZipB (by kernel_rfl) (by kernel_rfl)) (by kernel_rfl) (by kernel_rfl) (by kernel_rfl)
      (by rw [MakeChecks.laidMetH_plain _ _ _ (by kernel_rfl)]; exact laidMet_laidAll _ (by kernel_rfl) (by kernel_rfl)))
    laidOut (by kernel_rfl) (by kernel_rfl) (by kernel_rfl) Tryz.underlying4 rfl (fun ds hd => ?_) fun W M vs cs hsh hL hA hR => ?_
  · match ds, hd with
    | [d0, d1, d2], _ => rfl
  · have hT : Tw 2 W := tw_of hsh (by kernel_rfl) hL (.tail _ (.tail _ (.tail _ (.head _)))) (.head _) (.tail _ (.tail _ (.tail _ (.tail _ (.tail _ (.tail _ (.tail _ (.head _)))))))) (fun _ => ⟨.tail _ (.tail _ (.tail _ (.tail _ (.tail _ (.tail _ (.head _)))))), .tail _ (.tail _ (.tail _ (.tail _ (.tail _ (.head _)))))⟩)
    rw [Tryz.params5] at hA
    obtain ⟨c0, r0, rfl, h0, hA⟩ := ArgsTyR.cons hA
    obtain ⟨c1, r1, rfl, h1, hA⟩ := ArgsTyR.cons hA
    obtain ⟨c2, r2, rfl, h2, hA⟩ := ArgsTyR.cons hA
    obtain rfl := ArgsTyR.nil hA
    obtain ⟨r, rfl, hr⟩ := ru_arg h0
    obtain ⟨s, rfl, _⟩ := str_arg h1
    obtain ⟨a, rfl⟩ := int_arg h2
    obtain ⟨n, hn⟩ := (rulePays_ret 2 (awake21_ok 0) r s a hr).one
    exact Tryz.walk hn W hT M vs hR
theorem rulePays_c1 : (Rows.rulePaysRow.inPlace == Tryz.prog.inPlace 5) = true := by kernel_rfl
theorem rulePays_c2 : (Rows.rulePaysRow.unfollowed == Tryz.prog.unfollowed 5) = true := by kernel_rfl
theorem rulePays_c3 : (Rows.rulePaysRow.recurses == Tryz.prog.recurses 5) = true := by kernel_rfl
theorem rulePays_c4 : (Rows.rulePaysRow.named == Tryz.prog.varsNamed 5) = true := by kernel_rfl
theorem rulePays_closed : joinedFacts Tryz.prog 5 Tryz.f5 Rows.rulePaysSpec Rows.rulePaysRow = true := by
  unfold joinedFacts
  simp only [Bool.and_eq_true]
  exact ⟨⟨⟨⟨⟨⟨⟨⟨⟨⟨⟨⟨⟨⟨⟨⟨⟨⟨⟨⟨⟨⟨⟨⟨⟨⟨⟨⟨⟨⟨⟨by kernel_rfl, laidOut⟩, sh_rowed⟩, by kernel_rfl⟩, by kernel_rfl⟩, rfl⟩, sh_stops⟩, rfl⟩, sh_knobs⟩, rulePays_c1⟩, rulePays_c2⟩, rulePays_c3⟩, rulePays_c4⟩, by kernel_rfl⟩, by kernel_rfl⟩, by kernel_rfl⟩, by kernel_rfl⟩, by kernel_rfl⟩, by kernel_rfl⟩, by kernel_rfl⟩, by kernel_rfl⟩, by kernel_rfl⟩, sh_keys⟩, rfl⟩, sh_heard⟩, sh_enter⟩, sh_lifted⟩, sh_make⟩, by kernel_rfl⟩, by kernel_rfl⟩, by kernel_rfl⟩, by kernel_rfl⟩
theorem rulePays_fn : Tryz.prog.funcNamed "airline/airlinelaw21.RulePays" = some 5 := by kernel_rfl
theorem rulePays_goes : false = Rows.rulePaysRow.goesBy Tryz.prog := by kernel_rfl
theorem rulePays_holds : Rows.RulePaysSaid :=
  OpenClaim.holds_of_wide 5 Tryz.f5 rfl rfl rfl rfl rfl rfl rfl ⟨rfl, rfl, rfl, rfl, rfl⟩ rfl rfl rfl rfl rfl rulePays_fn Tryz.func5 rulePays_closed
    (of_decide_eq_true (by kernel_rfl)) (by unfold Func.isWrapper; first | (rw [if_pos (by decide +kernel)]; kernel_rfl) | (rw [if_neg (by decide +kernel)]; exact ⟨rfl, rfl⟩))
    (fun os started H enc _ => rulePays_lifted os started H enc)
theorem RulePaysHolds : Rows.RulePaysCardSaid :=
  Claim7.holds_tied_plain_at .later [] [.data, .data, .data, .data, .data, .sentinel, .sentinel, .data, .pinned] true (true, "6e6382b7bca30ce046227d79d6514d34abf61014a1b910034225d085734a6eeb") true
    rulePays_holds (fun _ h => by cases h) (by kernel_rfl) (fun _ h => by cases h) rulePays_row_tie rfl ⟨rfl, rfl⟩ sh_main rfl
    (fun f fn hf hfn => by
      obtain rfl : f = 5 := Option.some.inj (rulePays_fn.symm.trans hf) |>.symm
      obtain rfl : fn = Tryz.f5 := (Option.some.inj (Tryz.func5.symm.trans hfn)).symm
      exact ⟨sh_looks, fun j t ht => by
        rw [Tryz.params5] at ht
        have hm : t ∈ [31, 9, 3] := by simpa using Array.mem_of_getElem? ht
        have hall : ([31, 9, 3].all fun u => !Tryz.prog.wantsStandIn u) = true := by kernel_rfl
        exact (show Tryz.prog.wantsStandIn t = false by simpa using List.all_eq_true.1 hall t hm)⟩)
    rulePays_goes
end Go.Proofs.YtmefepdgnkhagaaGreatDoor
