/- The laws JournalSums and JournalVerifies of chapter 36 hold of the program. Conditions: none beyond the given rows. -/
import Derived.Test.YtiffhngfneikoaaDoorJf
import Derived.Test.YtiffhngfneikoaaDoorTie
import Derived.Test.YtiffhngfneikoaaDoorCards
import Derived.SevenTiedAt
namespace Go.Proofs.YtiffhngfneikoaaDoor
open Go.ChangeShapes Go.WideShapes Go.ChangeAt Go.RowKit Go.Am

set_option maxRecDepth 100000 in
theorem journalSums_lifted (os : Os) (started : os.Started) (H : Type) (enc : TypeId × Value → H) :
    ReturnsInHanded {} Tryd.checked os 3 .any (fun w args => (Rows.journalSumsSpec.pre enc Tryd.prog Tryd.f3 [] false w args ∧ laidMetH Tryd.prog Rows.journalSumsRow.laid w) ∧ sizedMet enc Tryd.prog Tryd.f3 (OpenSpec.ofChange Rows.journalSumsSpec) false w args)
      (Rows.journalSumsSpec.post enc Tryd.prog Tryd.f3 false true false false) := by
  refine lift_laid (C := Tryd.checked) (tb := 4) (laid := Rows.journalSumsRow.laid) Tryd.own started (by kernel_rfl) Tryd.func3
    (ChangeSpec.witness_shaped (enc := enc) (C := Tryd.checked) (os := os) (X := fun w _ => laidMetH Tryd.prog Rows.journalSumsRow.laid w) false (World.laidAll Tryd.prog os Rows.journalSumsRow.laid) #[.int .i64 0, .string ⟨#[]⟩] 8 (World.laidAll_os _ _ _)
      (World.shaped_of_ZipB (by kernel_rfl) (by kernel_rfl)) (by kernel_rfl) (by kernel_rfl) (by kernel_rfl)
      (by rw [MakeChecks.laidMetH_plain _ _ _ (by kernel_rfl)]; exact laidMet_laidAll _ (by kernel_rfl) (by kernel_rfl)))
    laidOut (by kernel_rfl) (by kernel_rfl) (by kernel_rfl) Tryd.underlying4 rfl (fun ds hd => ?_) fun W M vs cs hsh hL hA hR => ?_
  · match ds, hd with
    | [d0, d1], _ => rfl
  · have hT : Tw false W := tw_of hsh (by kernel_rfl) hL (.tail _ (.tail _ (.head _))) (fun q => by cases q)
    rw [Tryd.params3] at hA
    obtain ⟨c0, r0, rfl, h0, hA⟩ := ArgsTy.cons hA
    obtain ⟨c1, r1, rfl, h1, hA⟩ := ArgsTy.cons hA
    obtain rfl := ArgsTy.nil hA
    obtain ⟨a0, rfl, _⟩ := ArgTy.int Tryd.underlying3 h0
    obtain ⟨a1, rfl, _⟩ := ArgTy.str Tryd.underlying9 h1
    obtain ⟨n, hn⟩ := (journalSums_ok false a0 a1).one
    exact Tryd.walk hn W hT M vs hR
theorem journalSums_c1 : (Rows.journalSumsRow.inPlace == Tryd.prog.inPlace 3) = true := by kernel_rfl
theorem journalSums_c2 : (Rows.journalSumsRow.unfollowed == Tryd.prog.unfollowed 3) = true := by kernel_rfl
theorem journalSums_c3 : (Rows.journalSumsRow.recurses == Tryd.prog.recurses 3) = true := by kernel_rfl
theorem journalSums_c4 : (Rows.journalSumsRow.named == Tryd.prog.varsNamed 3) = true := by kernel_rfl
theorem journalSums_closed : joinedFacts Tryd.prog 3 Tryd.f3 Rows.journalSumsSpec Rows.journalSumsRow = true := by
  unfold joinedFacts
  simp only [Bool.and_eq_true]
  exact ⟨⟨⟨⟨⟨⟨⟨⟨⟨⟨⟨⟨⟨⟨⟨⟨⟨⟨⟨⟨⟨⟨⟨⟨⟨⟨⟨⟨⟨⟨⟨by kernel_rfl, laidOut⟩, sh_rowed⟩, by kernel_rfl⟩, by kernel_rfl⟩, rfl⟩, sh_stops⟩, rfl⟩, sh_knobs⟩, journalSums_c1⟩, journalSums_c2⟩, journalSums_c3⟩, journalSums_c4⟩, by kernel_rfl⟩, by kernel_rfl⟩, by kernel_rfl⟩, by kernel_rfl⟩, by kernel_rfl⟩, by kernel_rfl⟩, by kernel_rfl⟩, by kernel_rfl⟩, by kernel_rfl⟩, sh_keys⟩, rfl⟩, sh_heard⟩, sh_enter⟩, sh_lifted⟩, sh_make⟩, by kernel_rfl⟩, by kernel_rfl⟩, by kernel_rfl⟩, by kernel_rfl⟩
theorem journalSums_fn : Tryd.prog.funcNamed "airline/airlinelaw36.JournalSums" = some 3 := by kernel_rfl
theorem journalSums_goes : false = Rows.journalSumsRow.goesBy Tryd.prog := by kernel_rfl
theorem journalSums_holds : Rows.JournalSumsSaid :=
  OpenClaim.holds_of_wide 3 Tryd.f3 rfl rfl rfl rfl rfl rfl rfl ⟨rfl, rfl, rfl, rfl, rfl⟩ rfl rfl rfl rfl rfl journalSums_fn Tryd.func3 journalSums_closed
    (of_decide_eq_true (by kernel_rfl)) (by unfold Func.isWrapper; first | (rw [if_pos (by decide +kernel)]; kernel_rfl) | (rw [if_neg (by decide +kernel)]; exact ⟨rfl, rfl⟩))
    (fun os started H enc _ => journalSums_lifted os started H enc)
theorem JournalSumsHolds : Rows.JournalSumsCardSaid :=
  Claim7.holds_tied_plain_at .later [] [.data, .data, .data] true (true, "169db74cd3f551dd55bb08887a5c8c35f9aed73eef7fae6cc9707762c104c8e1") true
    journalSums_holds (fun _ h => by cases h) (by kernel_rfl) (fun _ h => by cases h) journalSums_row_tie rfl ⟨rfl, rfl⟩ sh_main rfl
    (fun f fn hf hfn => by
      obtain rfl : f = 3 := Option.some.inj (journalSums_fn.symm.trans hf) |>.symm
      obtain rfl : fn = Tryd.f3 := (Option.some.inj (Tryd.func3.symm.trans hfn)).symm
      exact ⟨sh_looks, fun j t ht => by
        rw [Tryd.params3] at ht
        have hm : t ∈ [3, 9] := by simpa using Array.mem_of_getElem? ht
        have hall : ([3, 9].all fun u => !Tryd.prog.wantsStandIn u) = true := by kernel_rfl
        exact (show Tryd.prog.wantsStandIn t = false by simpa using List.all_eq_true.1 hall t hm)⟩)
    journalSums_goes

set_option maxRecDepth 100000 in
theorem journalVerifies_lifted (os : Os) (started : os.Started) (H : Type) (enc : TypeId × Value → H) :
    ReturnsInHanded {} Tryd.checked os 4 .any (fun w args => (Rows.journalVerifiesSpec.pre enc Tryd.prog Tryd.f4 [] false w args ∧ laidMetH Tryd.prog Rows.journalVerifiesRow.laid w) ∧ sizedMet enc Tryd.prog Tryd.f4 (OpenSpec.ofChange Rows.journalVerifiesSpec) false w args)
      (Rows.journalVerifiesSpec.post enc Tryd.prog Tryd.f4 false true false false) := by
  refine lift_laid (C := Tryd.checked) (tb := 4) (laid := Rows.journalVerifiesRow.laid) Tryd.own started (by kernel_rfl) Tryd.func4
    (ChangeSpec.witness_shaped (enc := enc) (C := Tryd.checked) (os := os) (X := fun w _ => laidMetH Tryd.prog Rows.journalVerifiesRow.laid w) false (World.laidAll Tryd.prog os Rows.journalVerifiesRow.laid) #[.slice none 0 0] 8 (World.laidAll_os _ _ _)
      (World.shaped_of_ZipB (by kernel_rfl) (by kernel_rfl)) (by kernel_rfl) (by kernel_rfl) (by kernel_rfl)
      (by rw [MakeChecks.laidMetH_plain _ _ _ (by kernel_rfl)]; exact laidMet_laidAll _ (by kernel_rfl) (by kernel_rfl)))
    laidOut (by kernel_rfl) (by kernel_rfl) (by kernel_rfl) Tryd.underlying4 rfl (fun ds hd => ?_) fun W M vs cs hsh hL hA hR => ?_
  · match ds, hd with
    | [d0], _ => rfl
  · have hT : Tw false W := tw_of hsh (by kernel_rfl) hL (.tail _ (.tail _ (.head _))) (fun q => by cases q)
    rw [Tryd.params4] at hA
    obtain ⟨c0, r0, rfl, h0, hA⟩ := ArgsTy.cons hA
    obtain rfl := ArgsTy.nil hA
    obtain ⟨an, l, rfl, hl⟩ := recs_arg h0
    obtain ⟨n, hn⟩ := (journalVerifies_ok false an l hl).one
    exact Tryd.walk hn W hT M vs hR
theorem journalVerifies_c1 : (Rows.journalVerifiesRow.inPlace == Tryd.prog.inPlace 4) = true := by kernel_rfl
theorem journalVerifies_c2 : (Rows.journalVerifiesRow.unfollowed == Tryd.prog.unfollowed 4) = true := by kernel_rfl
theorem journalVerifies_c3 : (Rows.journalVerifiesRow.recurses == Tryd.prog.recurses 4) = true := by kernel_rfl
theorem journalVerifies_c4 : (Rows.journalVerifiesRow.named == Tryd.prog.varsNamed 4) = true := by kernel_rfl
theorem journalVerifies_closed : joinedFacts Tryd.prog 4 Tryd.f4 Rows.journalVerifiesSpec Rows.journalVerifiesRow = true := by
  unfold joinedFacts
  simp only [Bool.and_eq_true]
  exact ⟨⟨⟨⟨⟨⟨⟨⟨⟨⟨⟨⟨⟨⟨⟨⟨⟨⟨⟨⟨⟨⟨⟨⟨⟨⟨⟨⟨⟨⟨⟨by kernel_rfl, laidOut⟩, sh_rowed⟩, by kernel_rfl⟩, by kernel_rfl⟩, rfl⟩, sh_stops⟩, rfl⟩, sh_knobs⟩, journalVerifies_c1⟩, journalVerifies_c2⟩, journalVerifies_c3⟩, journalVerifies_c4⟩, by kernel_rfl⟩, by kernel_rfl⟩, by kernel_rfl⟩, by kernel_rfl⟩, by kernel_rfl⟩, by kernel_rfl⟩, by kernel_rfl⟩, by kernel_rfl⟩, by kernel_rfl⟩, sh_keys⟩, rfl⟩, sh_heard⟩, sh_enter⟩, sh_lifted⟩, sh_make⟩, by kernel_rfl⟩, by kernel_rfl⟩, by kernel_rfl⟩, by kernel_rfl⟩
theorem journalVerifies_fn : Tryd.prog.funcNamed "airline/airlinelaw36.JournalVerifies" = some 4 := by kernel_rfl
theorem journalVerifies_goes : false = Rows.journalVerifiesRow.goesBy Tryd.prog := by kernel_rfl
theorem journalVerifies_holds : Rows.JournalVerifiesSaid :=
  OpenClaim.holds_of_wide 4 Tryd.f4 rfl rfl rfl rfl rfl rfl rfl ⟨rfl, rfl, rfl, rfl, rfl⟩ rfl rfl rfl rfl rfl journalVerifies_fn Tryd.func4 journalVerifies_closed
    (of_decide_eq_true (by kernel_rfl)) (by unfold Func.isWrapper; first | (rw [if_pos (by decide +kernel)]; kernel_rfl) | (rw [if_neg (by decide +kernel)]; exact ⟨rfl, rfl⟩))
    (fun os started H enc _ => journalVerifies_lifted os started H enc)
theorem JournalVerifiesHolds : Rows.JournalVerifiesCardSaid :=
  Claim7.holds_tied_plain_at .later [] [.data, .data, .data] true (true, "169db74cd3f551dd55bb08887a5c8c35f9aed73eef7fae6cc9707762c104c8e1") true
    journalVerifies_holds (fun _ h => by cases h) (by kernel_rfl) (fun _ h => by cases h) journalVerifies_row_tie rfl ⟨rfl, rfl⟩ sh_main rfl
    (fun f fn hf hfn => by
      obtain rfl : f = 4 := Option.some.inj (journalVerifies_fn.symm.trans hf) |>.symm
      obtain rfl : fn = Tryd.f4 := (Option.some.inj (Tryd.func4.symm.trans hfn)).symm
      exact ⟨sh_looks, fun j t ht => by
        rw [Tryd.params4] at ht
        have hm : t ∈ [25] := by simpa using Array.mem_of_getElem? ht
        have hall : ([25].all fun u => !Tryd.prog.wantsStandIn u) = true := by kernel_rfl
        exact (show Tryd.prog.wantsStandIn t = false by simpa using List.all_eq_true.1 hall t hm)⟩)
    journalVerifies_goes
end Go.Proofs.YtiffhngfneikoaaDoor
