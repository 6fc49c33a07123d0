/- The law RuleStays of chapter 21 holds of the program. Conditions: none beyond the given rows. -/
import Derived.Test.YtmefepdgnkhagaaGreatDoorJd21
import Derived.Test.YtmefepdgnkhagaaGreatDoorMi
import Derived.Test.YtmefepdgnkhagaaGreatDoorTie
import Derived.Test.YtmefepdgnkhagaaGreatDoorCards
import Derived.SevenTiedAt
namespace Go.Proofs.YtmefepdgnkhagaaGreatDoor
open Go.ChangeShapes Go.WideShapes Go.ChangeAt Go.RowKit Go.Am

set_option maxRecDepth 100000 in
theorem ruleStays_lifted (os : Os) (started : os.Started) (H : Type) (enc : TypeId × Value → H) :
    ReturnsInHanded {} Tryz.checked os 6 .any (fun w args => (Rows.ruleStaysSpec.pre enc Tryz.prog Tryz.f6 [] false w args ∧ laidMetH Tryz.prog Rows.ruleStaysRow.laid w) ∧ sizedMet enc Tryz.prog Tryz.f6 (OpenSpec.ofChange Rows.ruleStaysSpec) false w args)
      (Rows.ruleStaysSpec.post enc Tryz.prog Tryz.f6 false true false false) := by
  refine lift_laidR (C := Tryz.checked) (S := [31, 3, 27, 22, 24, 25, 9, 28, 29, 63, 38]) (tb := 4) (laid := Rows.ruleStaysRow.laid) (by kernel_rfl) Tryz.own started (by kernel_rfl) Tryz.func6
    (ChangeSpec.witness_shaped (enc := enc) (C := Tryz.checked) (os := os) (X := fun w _ => laidMetH Tryz.prog Rows.ruleStaysRow.laid w) false (World.laidAll Tryz.prog os Rows.ruleStaysRow.laid) #[.agg #[.int .i64 0, .int .i64 0, .slice none 0 0, .int .i64 0, .int .i64 0, .int .i64 0, .int .i64 0, .int .i64 0, .slice none 0 0, .slice none 0 0, .int .i64 0, .int .i64 0, .int .i64 0, .int .i64 0, .slice none 0 0], .int .i64 0, .int .i64 0] 8 (World.laidAll_os _ _ _)
      (World.shaped_of_ZipB (by kernel_rfl) (by kernel_rfl)) (by kernel_rfl) (by kernel_rfl) (by kernel_rfl)
      (by rw [MakeChecks.laidMetH_plain _ _ _ (by kernel_rfl)]; exact laidMet_laidAll _ (by kernel_rfl) (by kernel_rfl)))
    laidOut (by kernel_rfl) (by kernel_rfl) (by kernel_rfl) Tryz.underlying4 rfl (fun ds hd => ?_) fun W M vs cs hsh hL hA hR => ?_
  · match ds, hd with
    | [d0, d1, d2], _ => rfl
  · have hT : Tw 2 W := tw_of hsh (by kernel_rfl) hL (.tail _ (.tail _ (.tail _ (.head _)))) (.head _) (.tail _ (.tail _ (.tail _ (.tail _ (.tail _ (.tail _ (.tail _ (.head _)))))))) (fun _ => ⟨.tail _ (.tail _ (.tail _ (.tail _ (.tail _ (.tail _ (.head _)))))), .tail _ (.tail _ (.tail _ (.tail _ (.tail _ (.head _)))))⟩)
    rw [Tryz.params6] at hA
    obtain ⟨c0, r0, rfl, h0, hA⟩ := ArgsTyR.cons hA
    obtain ⟨c1, r1, rfl, h1, hA⟩ := ArgsTyR.cons hA
    obtain ⟨c2, r2, rfl, h2, hA⟩ := ArgsTyR.cons hA
    obtain rfl := ArgsTyR.nil hA
    obtain ⟨r, rfl, hr⟩ := ru_arg h0
    obtain ⟨o, rfl⟩ := int_arg h1
    obtain ⟨b, rfl⟩ := int_arg h2
    obtain ⟨n, hn⟩ := (ruleStays_ret 2 (awake21_ok 0) r o b hr).one
    exact Tryz.walk hn W hT M vs hR
theorem ruleStays_c1 : (Rows.ruleStaysRow.inPlace == Tryz.prog.inPlace 6) = true := by kernel_rfl
theorem ruleStays_c2 : (Rows.ruleStaysRow.unfollowed == Tryz.prog.unfollowed 6) = true := by kernel_rfl
theorem ruleStays_c3 : (Rows.ruleStaysRow.recurses == Tryz.prog.recurses 6) = true := by kernel_rfl
theorem ruleStays_c4 : (Rows.ruleStaysRow.named == Tryz.prog.varsNamed 6) = true := by kernel_rfl
theorem ruleStays_closed : joinedFacts Tryz.prog 6 Tryz.f6 Rows.ruleStaysSpec Rows.ruleStaysRow = true := by
  unfold joinedFacts
  simp only [Bool.and_eq_true]
  exact ⟨⟨⟨⟨⟨⟨⟨⟨⟨⟨⟨⟨⟨⟨⟨⟨⟨⟨⟨⟨⟨⟨⟨⟨⟨⟨⟨⟨⟨⟨⟨by kernel_rfl, laidOut⟩, sh_rowed⟩, by kernel_rfl⟩, by kernel_rfl⟩, rfl⟩, sh_stops⟩, rfl⟩, sh_knobs⟩, ruleStays_c1⟩, ruleStays_c2⟩, ruleStays_c3⟩, ruleStays_c4⟩, by kernel_rfl⟩, by kernel_rfl⟩, by kernel_rfl⟩, by kernel_rfl⟩, by kernel_rfl⟩, by kernel_rfl⟩, by kernel_rfl⟩, by kernel_rfl⟩, by kernel_rfl⟩, sh_keys⟩, rfl⟩, sh_heard⟩, sh_enter⟩, sh_lifted⟩, sh_make⟩, by kernel_rfl⟩, by kernel_rfl⟩, by kernel_rfl⟩, by kernel_rfl⟩
theorem ruleStays_fn : Tryz.prog.funcNamed "airline/airlinelaw21.RuleStays" = some 6 := by kernel_rfl
theorem ruleStays_goes : false = Rows.ruleStaysRow.goesBy Tryz.prog := by kernel_rfl
theorem ruleStays_holds : Rows.RuleStaysSaid :=
  OpenClaim.holds_of_wide 6 Tryz.f6 rfl rfl rfl rfl rfl rfl rfl ⟨rfl, rfl, rfl, rfl, rfl⟩ rfl rfl rfl rfl rfl ruleStays_fn Tryz.func6 ruleStays_closed
    (of_decide_eq_true (by kernel_rfl)) (by unfold Func.isWrapper; first | (rw [if_pos (by decide +kernel)]; kernel_rfl) | (rw [if_neg (by decide +kernel)]; exact ⟨rfl, rfl⟩))
    (fun os started H enc _ => ruleStays_lifted os started H enc)
theorem RuleStaysHolds : Rows.RuleStaysCardSaid :=
  Claim7.holds_tied_plain_at .later [] [.data, .data, .data, .data, .data, .sentinel, .sentinel, .data, .pinned] true (true, "6e6382b7bca30ce046227d79d6514d34abf61014a1b910034225d085734a6eeb") true
    ruleStays_holds (fun _ h => by cases h) (by kernel_rfl) (fun _ h => by cases h) ruleStays_row_tie rfl ⟨rfl, rfl⟩ sh_main rfl
    (fun f fn hf hfn => by
      obtain rfl : f = 6 := Option.some.inj (ruleStays_fn.symm.trans hf) |>.symm
      obtain rfl : fn = Tryz.f6 := (Option.some.inj (Tryz.func6.symm.trans hfn)).symm
      exact ⟨sh_looks, fun j t ht => by
        rw [Tryz.params6] at ht
        have hm : t ∈ [31, 3, 3] := by simpa using Array.mem_of_getElem? ht
        have hall : ([31, 3, 3].all fun u => !Tryz.prog.wantsStandIn u) = true := by kernel_rfl
        exact (show Tryz.prog.wantsStandIn t = false by simpa using List.all_eq_true.1 hall t hm)⟩)
    ruleStays_goes
end Go.Proofs.YtmefepdgnkhagaaGreatDoor
