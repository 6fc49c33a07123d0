/- The law RuleChecks of chapter 21 holds of the program. Conditions: none beyond the given rows. -/
import Derived.Test.YtmefepdgnkhagaaGreatDoorJd21
import Derived.Test.YtmefepdgnkhagaaGreatDoorMl
import Derived.Test.YtmefepdgnkhagaaGreatDoorTie
import Derived.Test.YtmefepdgnkhagaaGreatDoorCards
import Derived.SevenTiedAt
namespace Go.Proofs.YtmefepdgnkhagaaGreatDoor
open Go.ChangeShapes Go.WideShapes Go.ChangeAt Go.RowKit Go.Am

set_option maxRecDepth 100000 in
theorem ruleChecks_lifted (os : Os) (started : os.Started) (H : Type) (enc : TypeId × Value → H) :
    ReturnsInHanded {} Tryz.checked os 3 .any (fun w args => (Rows.ruleChecksSpec.pre enc Tryz.prog Tryz.f3 [] false w args ∧ laidMetH Tryz.prog Rows.ruleChecksRow.laid w) ∧ sizedMet enc Tryz.prog Tryz.f3 (OpenSpec.ofChange Rows.ruleChecksSpec) false w args)
      (Rows.ruleChecksSpec.post enc Tryz.prog Tryz.f3 false true false false) := by
  refine lift_laidR (C := Tryz.checked) (S := [31, 3, 27, 22, 24, 25, 9, 28, 29, 63, 38]) (tb := 4) (laid := Rows.ruleChecksRow.laid) (by kernel_rfl) Tryz.own started (by kernel_rfl) Tryz.func3
    (ChangeSpec.witness_shaped (enc := enc) (C := Tryz.checked) (os := os) (X := fun w _ => laidMetH Tryz.prog Rows.ruleChecksRow.laid w) false (World.laidAll Tryz.prog os Rows.ruleChecksRow.laid) #[.agg #[.int .i64 0, .int .i64 0, .slice none 0 0, .int .i64 0, .int .i64 0, .int .i64 0, .int .i64 0, .int .i64 0, .slice none 0 0, .slice none 0 0, .int .i64 0, .int .i64 0, .int .i64 0, .int .i64 0, .slice none 0 0]] 8 (World.laidAll_os _ _ _)
      (World.shaped_of_ZipB (by kernel_rfl) (by kernel_rfl)) (by kernel_rfl) (by kernel_rfl) (by kernel_rfl)
      (by rw [MakeChecks.laidMetH_plain _ _ _ (by kernel_rfl)]; exact laidMet_laidAll _ (by kernel_rfl) (by kernel_rfl)))
    laidOut (by kernel_rfl) (by kernel_rfl) (by kernel_rfl) Tryz.underlying4 rfl (fun ds hd => ?_) fun W M vs cs hsh hL hA hR => ?_
  · match ds, hd with
    | [d0], _ => rfl
  · have hT : Tw 2 W := tw_of hsh (by kernel_rfl) hL (.tail _ (.tail _ (.tail _ (.head _)))) (.head _) (.tail _ (.tail _ (.tail _ (.tail _ (.tail _ (.tail _ (.tail _ (.head _)))))))) (fun _ => ⟨.tail _ (.tail _ (.tail _ (.tail _ (.tail _ (.tail _ (.head _)))))), .tail _ (.tail _ (.tail _ (.tail _ (.tail _ (.head _)))))⟩)
    rw [Tryz.params3] at hA
    obtain ⟨c0, r0, rfl, h0, hA⟩ := ArgsTyR.cons hA
    obtain rfl := ArgsTyR.nil hA
    obtain ⟨r, rfl, hr⟩ := ru_arg h0
    obtain ⟨n, hn⟩ := (ruleChecks_ret 2 (awake21_ok 0) r hr).one
    exact Tryz.walk hn W hT M vs hR
theorem ruleChecks_c1 : (Rows.ruleChecksRow.inPlace == Tryz.prog.inPlace 3) = true := by kernel_rfl
theorem ruleChecks_c2 : (Rows.ruleChecksRow.unfollowed == Tryz.prog.unfollowed 3) = true := by kernel_rfl
theorem ruleChecks_c3 : (Rows.ruleChecksRow.recurses == Tryz.prog.recurses 3) = true := by kernel_rfl
theorem ruleChecks_c4 : (Rows.ruleChecksRow.named == Tryz.prog.varsNamed 3) = true := by kernel_rfl
theorem ruleChecks_closed : joinedFacts Tryz.prog 3 Tryz.f3 Rows.ruleChecksSpec Rows.ruleChecksRow = true := by
  unfold joinedFacts
  simp only [Bool.and_eq_true]
  exact ⟨⟨⟨⟨⟨⟨⟨⟨⟨⟨⟨⟨⟨⟨⟨⟨⟨⟨⟨⟨⟨⟨⟨⟨⟨⟨⟨⟨⟨⟨⟨by kernel_rfl, laidOut⟩, sh_rowed⟩, by kernel_rfl⟩, by kernel_rfl⟩, rfl⟩, sh_stops⟩, rfl⟩, sh_knobs⟩, ruleChecks_c1⟩, ruleChecks_c2⟩, ruleChecks_c3⟩, ruleChecks_c4⟩, by kernel_rfl⟩, by kernel_rfl⟩, by kernel_rfl⟩, by kernel_rfl⟩, by kernel_rfl⟩, by kernel_rfl⟩, by kernel_rfl⟩, by kernel_rfl⟩, by kernel_rfl⟩, sh_keys⟩, rfl⟩, sh_heard⟩, sh_enter⟩, sh_lifted⟩, sh_make⟩, by kernel_rfl⟩, by kernel_rfl⟩, by kernel_rfl⟩, by kernel_rfl⟩
theorem ruleChecks_fn : Tryz.prog.funcNamed "airline/airlinelaw21.RuleChecks" = some 3 := by kernel_rfl
theorem ruleChecks_goes : false = Rows.ruleChecksRow.goesBy Tryz.prog := by kernel_rfl
theorem ruleChecks_holds : Rows.RuleChecksSaid :=
  OpenClaim.holds_of_wide 3 Tryz.f3 rfl rfl rfl rfl rfl rfl rfl ⟨rfl, rfl, rfl, rfl, rfl⟩ rfl rfl rfl rfl rfl ruleChecks_fn Tryz.func3 ruleChecks_closed
    (of_decide_eq_true (by kernel_rfl)) (by unfold Func.isWrapper; first | (rw [if_pos (by decide +kernel)]; kernel_rfl) | (rw [if_neg (by decide +kernel)]; exact ⟨rfl, rfl⟩))
    (fun os started H enc _ => ruleChecks_lifted os started H enc)
theorem RuleChecksHolds : Rows.RuleChecksCardSaid :=
  Claim7.holds_tied_plain_at .later [] [.data, .data, .data, .data, .data, .sentinel, .sentinel, .data, .pinned] true (true, "6e6382b7bca30ce046227d79d6514d34abf61014a1b910034225d085734a6eeb") true
    ruleChecks_holds (fun _ h => by cases h) (by kernel_rfl) (fun _ h => by cases h) ruleChecks_row_tie rfl ⟨rfl, rfl⟩ sh_main rfl
    (fun f fn hf hfn => by
      obtain rfl : f = 3 := Option.some.inj (ruleChecks_fn.symm.trans hf) |>.symm
      obtain rfl : fn = Tryz.f3 := (Option.some.inj (Tryz.func3.symm.trans hfn)).symm
      exact ⟨sh_looks, fun j t ht => by
        rw [Tryz.params3] at ht
        have hm : t ∈ [31] := by simpa using Array.mem_of_getElem? ht
        have hall : ([31].all fun u => !Tryz.prog.wantsStandIn u) = true := by kernel_rfl
        exact (show Tryz.prog.wantsStandIn t = false by simpa using List.all_eq_true.1 hall t hm)⟩)
    ruleChecks_goes
end Go.Proofs.YtmefepdgnkhagaaGreatDoor
