/- The law RuleAllows of chapter 21 holds of the program. Conditions: none beyond the given rows. -/
import Derived.Test.YtmefepdgnkhagaaGreatDoorJd21
import Derived.Test.YtmefepdgnkhagaaGreatDoorMi
import Derived.Test.YtmefepdgnkhagaaGreatDoorTie
import Derived.Test.YtmefepdgnkhagaaGreatDoorCards
import Derived.SevenTiedAt
namespace Go.Proofs.YtmefepdgnkhagaaGreatDoor
open Go.ChangeShapes Go.WideShapes Go.ChangeAt Go.RowKit Go.Am

set_option maxRecDepth 100000 in
theorem ruleAllows_lifted (os : Os) (started : os.Started) (H : Type) (enc : TypeId × Value → H) :
    ReturnsInHanded {} Tryz.checked os 4 .any (fun w args => (Rows.ruleAllowsSpec.pre enc Tryz.prog Tryz.f4 [] false w args ∧ laidMetH Tryz.prog Rows.ruleAllowsRow.laid w) ∧ sizedMet enc Tryz.prog Tryz.f4 (OpenSpec.ofChange Rows.ruleAllowsSpec) false w args)
      (Rows.ruleAllowsSpec.post enc Tryz.prog Tryz.f4 false true false false) := by
  refine lift_laidR (C := Tryz.checked) (S := [31, 3, 27, 22, 24, 25, 9, 28, 29, 63, 38]) (tb := 4) (laid := Rows.ruleAllowsRow.laid) (by kernel_rfl) Tryz.own started (by kernel_rfl) Tryz.func4
    (ChangeSpec.witness_shaped (enc := enc) (C := Tryz.checked) (os := os) (X := fun w _ => laidMetH Tryz.prog Rows.ruleAllowsRow.laid w) false (World.laidAll Tryz.prog os Rows.ruleAllowsRow.laid) #[.agg #[.int .i64 0, .int .i64 0, .slice none 0 0, .int .i64 0, .int .i64 0, .int .i64 0, .int .i64 0, .int .i64 0, .slice none 0 0, .slice none 0 0, .int .i64 0, .int .i64 0, .int .i64 0, .int .i64 0, .slice none 0 0], .agg #[.string ⟨#[]⟩, .int .i64 0, .int .i64 0, .int .i64 0, .int .i64 0, .int .i64 0, .slice none 0 0, .slice none 0 0, .slice none 0 0]] 8 (World.laidAll_os _ _ _)
      (World.shaped_of_ZipB (by kernel_rfl) (by kernel_rfl)) (by kernel_rfl) (by kernel_rfl) (by kernel_rfl)
      (by rw [MakeChecks.laidMetH_plain _ _ _ (by kernel_rfl)]; exact laidMet_laidAll _ (by kernel_rfl) (by kernel_rfl)))
    laidOut (by kernel_rfl) (by kernel_rfl) (by kernel_rfl) Tryz.underlying4 rfl (fun ds hd => ?_) fun W M vs cs hsh hL hA hR => ?_
  · match ds, hd with
    | [d0, d1], _ => rfl
  · have hT : Tw 2 W := tw_of hsh (by kernel_rfl) hL (.tail _ (.tail _ (.tail _ (.head _)))) (.head _) (.tail _ (.tail _ (.tail _ (.tail _ (.tail _ (.tail _ (.tail _ (.head _)))))))) (fun _ => ⟨.tail _ (.tail _ (.tail _ (.tail _ (.tail _ (.tail _ (.head _)))))), .tail _ (.tail _ (.tail _ (.tail _ (.tail _ (.head _)))))⟩)
    rw [Tryz.params4] at hA
    obtain ⟨c0, r0, rfl, h0, hA⟩ := ArgsTyR.cons hA
    obtain ⟨c1, r1, rfl, h1, hA⟩ := ArgsTyR.cons hA
    obtain rfl := ArgsTyR.nil hA
    obtain ⟨r, rfl, hr⟩ := ru_arg h0
    obtain ⟨t, rfl⟩ := tp_arg h1
    obtain ⟨n, hn⟩ := (ruleAllows_ret 2 (awake21_ok 0) r t hr).one
    exact Tryz.walk hn W hT M vs hR
theorem ruleAllows_c1 : (Rows.ruleAllowsRow.inPlace == Tryz.prog.inPlace 4) = true := by kernel_rfl
theorem ruleAllows_c2 : (Rows.ruleAllowsRow.unfollowed == Tryz.prog.unfollowed 4) = true := by kernel_rfl
theorem ruleAllows_c3 : (Rows.ruleAllowsRow.recurses == Tryz.prog.recurses 4) = true := by kernel_rfl
theorem ruleAllows_c4 : (Rows.ruleAllowsRow.named == Tryz.prog.varsNamed 4) = true := by kernel_rfl
theorem ruleAllows_closed : joinedFacts Tryz.prog 4 Tryz.f4 Rows.ruleAllowsSpec Rows.ruleAllowsRow = true := by
  unfold joinedFacts
  simp only [Bool.and_eq_true]
  exact ⟨⟨⟨⟨⟨⟨⟨⟨⟨⟨⟨⟨⟨⟨⟨⟨⟨⟨⟨⟨⟨⟨⟨⟨⟨⟨⟨⟨⟨⟨⟨by kernel_rfl, laidOut⟩, sh_rowed⟩, by kernel_rfl⟩, by kernel_rfl⟩, rfl⟩, sh_stops⟩, rfl⟩, sh_knobs⟩, ruleAllows_c1⟩, ruleAllows_c2⟩, ruleAllows_c3⟩, ruleAllows_c4⟩, by kernel_rfl⟩, by kernel_rfl⟩, by kernel_rfl⟩, by kernel_rfl⟩, by kernel_rfl⟩, by kernel_rfl⟩, by kernel_rfl⟩, by kernel_rfl⟩, by kernel_rfl⟩, sh_keys⟩, rfl⟩, sh_heard⟩, sh_enter⟩, sh_lifted⟩, sh_make⟩, by kernel_rfl⟩, by kernel_rfl⟩, by kernel_rfl⟩, by kernel_rfl⟩
theorem ruleAllows_fn : Tryz.prog.funcNamed "airline/airlinelaw21.RuleAllows" = some 4 := by kernel_rfl
theorem ruleAllows_goes : false = Rows.ruleAllowsRow.goesBy Tryz.prog := by kernel_rfl
theorem ruleAllows_holds : Rows.RuleAllowsSaid :=
  OpenClaim.holds_of_wide 4 Tryz.f4 rfl rfl rfl rfl rfl rfl rfl ⟨rfl, rfl, rfl, rfl, rfl⟩ rfl rfl rfl rfl rfl ruleAllows_fn Tryz.func4 ruleAllows_closed
    (of_decide_eq_true (by kernel_rfl)) (by unfold Func.isWrapper; first | (rw [if_pos (by decide +kernel)]; kernel_rfl) | (rw [if_neg (by decide +kernel)]; exact ⟨rfl, rfl⟩))
    (fun os started H enc _ => ruleAllows_lifted os started H enc)
theorem RuleAllowsHolds : Rows.RuleAllowsCardSaid :=
  Claim7.holds_tied_plain_at .later [] [.data, .data, .data, .data, .data, .sentinel, .sentinel, .data, .pinned] true (true, "6e6382b7bca30ce046227d79d6514d34abf61014a1b910034225d085734a6eeb") true
    ruleAllows_holds (fun _ h => by cases h) (by kernel_rfl) (fun _ h => by cases h) ruleAllows_row_tie rfl ⟨rfl, rfl⟩ sh_main rfl
    (fun f fn hf hfn => by
      obtain rfl : f = 4 := Option.some.inj (ruleAllows_fn.symm.trans hf) |>.symm
      obtain rfl : fn = Tryz.f4 := (Option.some.inj (Tryz.func4.symm.trans hfn)).symm
      exact ⟨sh_looks, fun j t ht => by
        rw [Tryz.params4] at ht
        have hm : t ∈ [31, 38] := by simpa using Array.mem_of_getElem? ht
        have hall : ([31, 38].all fun u => !Tryz.prog.wantsStandIn u) = true := by kernel_rfl
        exact (show Tryz.prog.wantsStandIn t = false by simpa using List.all_eq_true.1 hall t hm)⟩)
    ruleAllows_goes
end Go.Proofs.YtmefepdgnkhagaaGreatDoor
