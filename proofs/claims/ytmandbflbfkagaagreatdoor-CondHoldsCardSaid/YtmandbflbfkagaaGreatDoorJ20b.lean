/- The law CondHolds of chapter 20 holds of the program. Conditions: none beyond the given rows. -/
import Derived.Test.YtmandbflbfkagaaGreatDoorJd20
import Derived.Test.YtmandbflbfkagaaGreatDoorCj
import Derived.Test.YtmandbflbfkagaaGreatDoorTie
import Derived.Test.YtmandbflbfkagaaGreatDoorCards
import Derived.SevenTiedAt
namespace Go.Proofs.YtmandbflbfkagaaGreatDoor
open Go.ChangeShapes Go.WideShapes Go.ChangeAt Go.RowKit Go.Am

set_option maxRecDepth 100000 in
theorem condHolds_lifted (os : Os) (started : os.Started) (H : Type) (enc : TypeId × Value → H) :
    ReturnsInHanded {} Tryz.checked os 3 .any (fun w args => (Rows.condHoldsSpec.pre enc Tryz.prog Tryz.f3 [] false w args ∧ laidMetH Tryz.prog Rows.condHoldsRow.laid w) ∧ sizedMet enc Tryz.prog Tryz.f3 (OpenSpec.ofChange Rows.condHoldsSpec) false w args)
      (Rows.condHoldsSpec.post enc Tryz.prog Tryz.f3 false true false false) := by
  refine lift_laidR (C := Tryz.checked) (S := [27, 3, 22, 24, 25, 9, 30, 28]) (tb := 4) (laid := Rows.condHoldsRow.laid) (by kernel_rfl) Tryz.own started (by kernel_rfl) Tryz.func3
    (ChangeSpec.witness_shaped (enc := enc) (C := Tryz.checked) (os := os) (X := fun w _ => laidMetH Tryz.prog Rows.condHoldsRow.laid w) false (World.laidAll Tryz.prog os Rows.condHoldsRow.laid) #[.agg #[.int .i64 0, .slice none 0 0, .int .i64 0, .int .i64 0, .int .i64 0, .int .i64 0, .int .i64 0, .slice none 0 0], .agg #[.string ⟨#[]⟩, .int .i64 0, .int .i64 0, .int .i64 0, .int .i64 0, .int .i64 0, .slice none 0 0, .slice none 0 0, .slice none 0 0]] 8 (World.laidAll_os _ _ _)
      (World.shaped_of_ZipB (by kernel_rfl) (by kernel_rfl)) (by kernel_rfl) (by kernel_rfl) (by kernel_rfl)
      (by rw [MakeChecks.laidMetH_plain _ _ _ (by kernel_rfl)]; exact laidMet_laidAll _ (by kernel_rfl) (by kernel_rfl)))
    laidOut (by kernel_rfl) (by kernel_rfl) (by kernel_rfl) Tryz.underlying4 rfl (fun ds hd => ?_) fun W M vs cs hsh hL hA hR => ?_
  · match ds, hd with
    | [d0, d1], _ => rfl
  · have hT : Tw 2 W := tw_of hsh (by kernel_rfl) hL (.tail _ (.tail _ (.tail _ (.head _)))) (.head _) (fun _ => ⟨.tail _ (.tail _ (.tail _ (.tail _ (.tail _ (.tail _ (.head _)))))), .tail _ (.tail _ (.tail _ (.tail _ (.tail _ (.head _)))))⟩)
    rw [Tryz.params3] at hA
    obtain ⟨c0, r0, rfl, h0, hA⟩ := ArgsTyR.cons hA
    obtain ⟨c1, r1, rfl, h1, hA⟩ := ArgsTyR.cons hA
    obtain rfl := ArgsTyR.nil hA
    obtain ⟨a, rfl, ha⟩ := cd_arg h0
    obtain ⟨t, rfl⟩ := tp_arg h1
    obtain ⟨n, hn⟩ := (condHolds_ret 0 a t ha).one
    exact Tryz.walk hn W hT M vs hR
theorem condHolds_c1 : (Rows.condHoldsRow.inPlace == Tryz.prog.inPlace 3) = true := by kernel_rfl
theorem condHolds_c2 : (Rows.condHoldsRow.unfollowed == Tryz.prog.unfollowed 3) = true := by kernel_rfl
theorem condHolds_c3 : (Rows.condHoldsRow.recurses == Tryz.prog.recurses 3) = true := by kernel_rfl
theorem condHolds_c4 : (Rows.condHoldsRow.named == Tryz.prog.varsNamed 3) = true := by kernel_rfl
theorem condHolds_closed : joinedFacts Tryz.prog 3 Tryz.f3 Rows.condHoldsSpec Rows.condHoldsRow = true := by
  unfold joinedFacts
  simp only [Bool.and_eq_true]
  exact ⟨⟨⟨⟨⟨⟨⟨⟨⟨⟨⟨⟨⟨⟨⟨⟨⟨⟨⟨⟨⟨⟨⟨⟨⟨⟨⟨⟨⟨⟨⟨by kernel_rfl, laidOut⟩, sh_rowed⟩, by kernel_rfl⟩, by kernel_rfl⟩, rfl⟩, sh_stops⟩, rfl⟩, sh_knobs⟩, condHolds_c1⟩, condHolds_c2⟩, condHolds_c3⟩, condHolds_c4⟩, by kernel_rfl⟩, by kernel_rfl⟩, by kernel_rfl⟩, by kernel_rfl⟩, by kernel_rfl⟩, by kernel_rfl⟩, by kernel_rfl⟩, by kernel_rfl⟩, by kernel_rfl⟩, sh_keys⟩, rfl⟩, sh_heard⟩, sh_enter⟩, sh_lifted⟩, sh_make⟩, by kernel_rfl⟩, by kernel_rfl⟩, by kernel_rfl⟩, by kernel_rfl⟩
theorem condHolds_fn : Tryz.prog.funcNamed "airline/airlinelaw20.CondHolds" = some 3 := by kernel_rfl
theorem condHolds_goes : false = Rows.condHoldsRow.goesBy Tryz.prog := by kernel_rfl
theorem condHolds_holds : Rows.CondHoldsSaid :=
  OpenClaim.holds_of_wide 3 Tryz.f3 rfl rfl rfl rfl rfl rfl rfl ⟨rfl, rfl, rfl, rfl, rfl⟩ rfl rfl rfl rfl rfl condHolds_fn Tryz.func3 condHolds_closed
    (of_decide_eq_true (by kernel_rfl)) (by unfold Func.isWrapper; first | (rw [if_pos (by decide +kernel)]; kernel_rfl) | (rw [if_neg (by decide +kernel)]; exact ⟨rfl, rfl⟩))
    (fun os started H enc _ => condHolds_lifted os started H enc)
theorem CondHoldsHolds : Rows.CondHoldsCardSaid :=
  Claim7.holds_tied_plain_at .later [] [.data, .data, .data, .data, .data, .sentinel, .sentinel, .pinned] true (true, "967a09c48d3583c2cc33cbba8483a8dae641531f5a562c96d3b3ac1946ed4be0") true
    condHolds_holds (fun _ h => by cases h) (by kernel_rfl) (fun _ h => by cases h) condHolds_row_tie rfl ⟨rfl, rfl⟩ sh_main rfl
    (fun f fn hf hfn => by
      obtain rfl : f = 3 := Option.some.inj (condHolds_fn.symm.trans hf) |>.symm
      obtain rfl : fn = Tryz.f3 := (Option.some.inj (Tryz.func3.symm.trans hfn)).symm
      exact ⟨sh_looks, fun j t ht => by
        rw [Tryz.params3] at ht
        have hm : t ∈ [27, 30] := by simpa using Array.mem_of_getElem? ht
        have hall : ([27, 30].all fun u => !Tryz.prog.wantsStandIn u) = true := by kernel_rfl
        exact (show Tryz.prog.wantsStandIn t = false by simpa using List.all_eq_true.1 hall t hm)⟩)
    condHolds_goes
end Go.Proofs.YtmandbflbfkagaaGreatDoor
