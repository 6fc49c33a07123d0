/- The law JournalAdds of chapter 36 holds of the program. Conditions: none beyond the given rows. -/
import Derived.Test.YtiffhngfneikoaaDoorJf
import Derived.Test.YtiffhngfneikoaaDoorSd
import Derived.Test.YtiffhngfneikoaaDoorTie
import Derived.Test.YtiffhngfneikoaaDoorCards
import Derived.SevenTiedAt
namespace Go.Proofs.YtiffhngfneikoaaDoor
open Go.ChangeShapes Go.WideShapes Go.ChangeAt Go.RowKit Go.Am

set_option maxRecDepth 100000 in
theorem journalAdds_lifted (os : Os) (started : os.Started) (H : Type) (enc : TypeId × Value → H) :
    ReturnsInHanded {} Tryd.checked os 6 .any (fun w args => (Rows.journalAddsSpec.pre enc Tryd.prog Tryd.f6 [] false w args ∧ laidMetH Tryd.prog Rows.journalAddsRow.laid w) ∧ sizedMet enc Tryd.prog Tryd.f6 (OpenSpec.ofChange Rows.journalAddsSpec) false w args)
      (Rows.journalAddsSpec.post enc Tryd.prog Tryd.f6 false true false false) := by
  refine lift_laid (C := Tryd.checked) (tb := 4) (laid := Rows.journalAddsRow.laid) Tryd.own started (by kernel_rfl) Tryd.func6
    (ChangeSpec.witness_shaped (enc := enc) (C := Tryd.checked) (os := os) (X := fun w _ => laidMetH Tryd.prog Rows.journalAddsRow.laid w) false (World.laidAll Tryd.prog os Rows.journalAddsRow.laid) #[.slice none 0 0, .int .i64 0] 8 (World.laidAll_os _ _ _)
      (World.shaped_of_ZipB (by kernel_rfl) (by kernel_rfl)) (by kernel_rfl) (by kernel_rfl) (by kernel_rfl)
      (by rw [MakeChecks.laidMetH_plain _ _ _ (by kernel_rfl)]; exact laidMet_laidAll _ (by kernel_rfl) (by kernel_rfl)))
    laidOut (by kernel_rfl) (by kernel_rfl) (by kernel_rfl) Tryd.underlying4 rfl (fun ds hd => ?_) fun W M vs cs hsh hL hA hR => ?_
  · match ds, hd with
    | [d0, d1], _ => rfl
  · have hT : Tw false W := tw_of hsh (by kernel_rfl) hL (.tail _ (.tail _ (.head _))) (fun q => by cases q)
    rw [Tryd.params6] at hA
    obtain ⟨c0, r0, rfl, h0, hA⟩ := ArgsTy.cons hA
    obtain ⟨c1, r1, rfl, h1, hA⟩ := ArgsTy.cons hA
    obtain rfl := ArgsTy.nil hA
    obtain ⟨z1, x1, rfl, _, _, b1⟩ := ArgTy.slice Tryd.underlying41 h0
    obtain ⟨a1, rfl, k1⟩ := texts_gen Tryd.underlying9 b1
    obtain ⟨m, rfl, _⟩ := ArgTy.int Tryd.underlying3 h1
    obtain ⟨n, hn⟩ := (journalAdds_ok false z1 a1 m k1).one
    exact Tryd.walk hn W hT M vs hR
theorem journalAdds_c1 : (Rows.journalAddsRow.inPlace == Tryd.prog.inPlace 6) = true := by kernel_rfl
theorem journalAdds_c2 : (Rows.journalAddsRow.unfollowed == Tryd.prog.unfollowed 6) = true := by kernel_rfl
theorem journalAdds_c3 : (Rows.journalAddsRow.recurses == Tryd.prog.recurses 6) = true := by kernel_rfl
theorem journalAdds_c4 : (Rows.journalAddsRow.named == Tryd.prog.varsNamed 6) = true := by kernel_rfl
theorem journalAdds_closed : joinedFacts Tryd.prog 6 Tryd.f6 Rows.journalAddsSpec Rows.journalAddsRow = true := by
  unfold joinedFacts
  simp only [Bool.and_eq_true]
  exact ⟨⟨⟨⟨⟨⟨⟨⟨⟨⟨⟨⟨⟨⟨⟨⟨⟨⟨⟨⟨⟨⟨⟨⟨⟨⟨⟨⟨⟨⟨⟨by kernel_rfl, laidOut⟩, sh_rowed⟩, by kernel_rfl⟩, by kernel_rfl⟩, rfl⟩, sh_stops⟩, rfl⟩, sh_knobs⟩, journalAdds_c1⟩, journalAdds_c2⟩, journalAdds_c3⟩, journalAdds_c4⟩, by kernel_rfl⟩, by kernel_rfl⟩, by kernel_rfl⟩, by kernel_rfl⟩, by kernel_rfl⟩, by kernel_rfl⟩, by kernel_rfl⟩, by kernel_rfl⟩, by kernel_rfl⟩, sh_keys⟩, rfl⟩, sh_heard⟩, sh_enter⟩, sh_lifted⟩, sh_make⟩, by kernel_rfl⟩, by kernel_rfl⟩, by kernel_rfl⟩, by kernel_rfl⟩
theorem journalAdds_fn : Tryd.prog.funcNamed "airline/airlinelaw36.JournalAdds" = some 6 := by kernel_rfl
theorem journalAdds_goes : false = Rows.journalAddsRow.goesBy Tryd.prog := by kernel_rfl
theorem journalAdds_holds : Rows.JournalAddsSaid :=
  OpenClaim.holds_of_wide 6 Tryd.f6 rfl rfl rfl rfl rfl rfl rfl ⟨rfl, rfl, rfl, rfl, rfl⟩ rfl rfl rfl rfl rfl journalAdds_fn Tryd.func6 journalAdds_closed
    (of_decide_eq_true (by kernel_rfl)) (by unfold Func.isWrapper; first | (rw [if_pos (by decide +kernel)]; kernel_rfl) | (rw [if_neg (by decide +kernel)]; exact ⟨rfl, rfl⟩))
    (fun os started H enc _ => journalAdds_lifted os started H enc)
theorem JournalAddsHolds : Rows.JournalAddsCardSaid :=
  Claim7.holds_tied_plain_at .later [] [.data, .data, .data] true (true, "169db74cd3f551dd55bb08887a5c8c35f9aed73eef7fae6cc9707762c104c8e1") true
    journalAdds_holds (fun _ h => by cases h) (by kernel_rfl) (fun _ h => by cases h) journalAdds_row_tie rfl ⟨rfl, rfl⟩ sh_main rfl
    (fun f fn hf hfn => by
      obtain rfl : f = 6 := Option.some.inj (journalAdds_fn.symm.trans hf) |>.symm
      obtain rfl : fn = Tryd.f6 := (Option.some.inj (Tryd.func6.symm.trans hfn)).symm
      exact ⟨sh_looks, fun j t ht => by
        rw [Tryd.params6] at ht
        have hm : t ∈ [41, 3] := by simpa using Array.mem_of_getElem? ht
        have hall : ([41, 3].all fun u => !Tryd.prog.wantsStandIn u) = true := by kernel_rfl
        exact (show Tryd.prog.wantsStandIn t = false by simpa using List.all_eq_true.1 hall t hm)⟩)
    journalAdds_goes
end Go.Proofs.YtiffhngfneikoaaDoor
