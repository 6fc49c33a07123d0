/- The law CondChecks of chapter 20 holds of the program. Conditions: none beyond the given rows. -/
import Derived.Test.YtmandbflbfkagaaGreatDoorJd20
import Derived.Test.YtmandbflbfkagaaGreatDoorCi
import Derived.Test.YtmandbflbfkagaaGreatDoorTie
import Derived.Test.YtmandbflbfkagaaGreatDoorCards
import Derived.SevenTiedAt
namespace Go.Proofs.YtmandbflbfkagaaGreatDoor
open Go.ChangeShapes Go.WideShapes Go.ChangeAt Go.RowKit Go.Am

set_option maxRecDepth 100000 in
theorem condChecks_lifted (os : Os) (started : os.Started) (H : Type) (enc : TypeId × Value → H) :
    ReturnsInHanded {} Tryz.checked os 7 .any (fun w args => (Rows.condChecksSpec.pre enc Tryz.prog Tryz.f7 [] false w args ∧ laidMetH Tryz.prog Rows.condChecksRow.laid w) ∧ sizedMet enc Tryz.prog Tryz.f7 (OpenSpec.ofChange Rows.condChecksSpec) false w args)
      (Rows.condChecksSpec.post enc Tryz.prog Tryz.f7 false true false false) := by
  refine lift_laidR (C := Tryz.checked) (S := [27, 3, 22, 24, 25, 9, 30, 28]) (tb := 4) (laid := Rows.condChecksRow.laid) (by kernel_rfl) Tryz.own started (by kernel_rfl) Tryz.func7
    (ChangeSpec.witness_shaped (enc := enc) (C := Tryz.checked) (os := os) (X := fun w _ => laidMetH Tryz.prog Rows.condChecksRow.laid w) false (World.laidAll Tryz.prog os Rows.condChecksRow.laid) #[.agg #[.int .i64 0, .slice none 0 0, .int .i64 0, .int .i64 0, .int .i64 0, .int .i64 0, .int .i64 0, .slice none 0 0], .agg #[.int .i64 0, .slice none 0 0, .int .i64 0, .int .i64 0, .int .i64 0, .int .i64 0, .int .i64 0, .slice none 0 0]] 8 (World.laidAll_os _ _ _)
      (World.shaped_of_ZipB (by kernel_rfl) (by kernel_rfl)) (by kernel_rfl) (by kernel_rfl) (by kernel_rfl)
      (by rw [MakeChecks.laidMetH_plain _ _ _ (by kernel_rfl)]; exact laidMet_laidAll _ (by kernel_rfl) (by kernel_rfl)))
    laidOut (by kernel_rfl) (by kernel_rfl) (by kernel_rfl) Tryz.underlying4 rfl (fun ds hd => ?_) fun W M vs cs hsh hL hA hR => ?_
  · match ds, hd with
    | [d0, d1], _ => rfl
  · have hT : Tw 2 W := tw_of hsh (by kernel_rfl) hL (.tail _ (.tail _ (.tail _ (.head _)))) (.head _) (fun _ => ⟨.tail _ (.tail _ (.tail _ (.tail _ (.tail _ (.tail _ (.head _)))))), .tail _ (.tail _ (.tail _ (.tail _ (.tail _ (.head _)))))⟩)
    rw [Tryz.params7] at hA
    obtain ⟨c0, r0, rfl, h0, hA⟩ := ArgsTyR.cons hA
    obtain ⟨c1, r1, rfl, h1, hA⟩ := ArgsTyR.cons hA
    obtain rfl := ArgsTyR.nil hA
    obtain ⟨a, rfl, ha⟩ := cd_arg h0
    obtain ⟨b, rfl, hb⟩ := cd_arg h1
    obtain ⟨n, hn⟩ := (condChecks_ret 0 a b ha hb).one
    exact Tryz.walk hn W hT M vs hR
theorem condChecks_c1 : (Rows.condChecksRow.inPlace == Tryz.prog.inPlace 7) = true := by kernel_rfl
theorem condChecks_c2 : (Rows.condChecksRow.unfollowed == Tryz.prog.unfollowed 7) = true := by kernel_rfl
theorem condChecks_c3 : (Rows.condChecksRow.recurses == Tryz.prog.recurses 7) = true := by kernel_rfl
theorem condChecks_c4 : (Rows.condChecksRow.named == Tryz.prog.varsNamed 7) = true := by kernel_rfl
theorem condChecks_closed : joinedFacts Tryz.prog 7 Tryz.f7 Rows.condChecksSpec Rows.condChecksRow = true := by
  unfold joinedFacts
  simp only [Bool.and_eq_true]
  exact ⟨⟨⟨⟨⟨⟨⟨⟨⟨⟨⟨⟨⟨⟨⟨⟨⟨⟨⟨⟨⟨⟨⟨⟨⟨⟨⟨⟨⟨⟨⟨by kernel_rfl, laidOut⟩, sh_rowed⟩, by kernel_rfl⟩, by kernel_rfl⟩, rfl⟩, sh_stops⟩, rfl⟩, sh_knobs⟩, condChecks_c1⟩, condChecks_c2⟩, condChecks_c3⟩, condChecks_c4⟩, by kernel_rfl⟩, by kernel_rfl⟩, by kernel_rfl⟩, by kernel_rfl⟩, by kernel_rfl⟩, by kernel_rfl⟩, by kernel_rfl⟩, by kernel_rfl⟩, by kernel_rfl⟩, sh_keys⟩, rfl⟩, sh_heard⟩, sh_enter⟩, sh_lifted⟩, sh_make⟩, by kernel_rfl⟩, by kernel_rfl⟩, by kernel_rfl⟩, by kernel_rfl⟩
theorem condChecks_fn : Tryz.prog.funcNamed "airline/airlinelaw20.CondChecks" = some 7 := by kernel_rfl
theorem condChecks_goes : false = Rows.condChecksRow.goesBy Tryz.prog := by kernel_rfl
theorem condChecks_holds : Rows.CondChecksSaid :=
  OpenClaim.holds_of_wide 7 Tryz.f7 rfl rfl rfl rfl rfl rfl rfl ⟨rfl, rfl, rfl, rfl, rfl⟩ rfl rfl rfl rfl rfl condChecks_fn Tryz.func7 condChecks_closed
    (of_decide_eq_true (by kernel_rfl)) (by unfold Func.isWrapper; first | (rw [if_pos (by decide +kernel)]; kernel_rfl) | (rw [if_neg (by decide +kernel)]; exact ⟨rfl, rfl⟩))
    (fun os started H enc _ => condChecks_lifted os started H enc)
theorem CondChecksHolds : Rows.CondChecksCardSaid :=
  Claim7.holds_tied_plain_at .later [] [.data, .data, .data, .data, .data, .sentinel, .sentinel, .pinned] true (true, "967a09c48d3583c2cc33cbba8483a8dae641531f5a562c96d3b3ac1946ed4be0") true
    condChecks_holds (fun _ h => by cases h) (by kernel_rfl) (fun _ h => by cases h) condChecks_row_tie rfl ⟨rfl, rfl⟩ sh_main rfl
    (fun f fn hf hfn => by
      obtain rfl : f = 7 := Option.some.inj (condChecks_fn.symm.trans hf) |>.symm
      obtain rfl : fn = Tryz.f7 := (Option.some.inj (Tryz.func7.symm.trans hfn)).symm
      exact ⟨sh_looks, fun j t ht => by
        rw [Tryz.params7] at ht
        have hm : t ∈ [27, 27] := by simpa using Array.mem_of_getElem? ht
        have hall : ([27, 27].all fun u => !Tryz.prog.wantsStandIn u) = true := by kernel_rfl
        exact (show Tryz.prog.wantsStandIn t = false by simpa using List.all_eq_true.1 hall t hm)⟩)
    condChecks_goes
end Go.Proofs.YtmandbflbfkagaaGreatDoor
