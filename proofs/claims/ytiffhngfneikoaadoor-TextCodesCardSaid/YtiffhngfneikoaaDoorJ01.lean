/- The laws of chapter 1 hold of the program: TextQuotes, TextNumbers, TextCodes. Conditions: none beyond the given rows. -/
import Derived.Test.YtiffhngfneikoaaDoorJd
import Derived.Test.YtiffhngfneikoaaDoorL01
import Derived.Test.YtiffhngfneikoaaDoorTie
import Derived.Test.YtiffhngfneikoaaDoorCards
import Derived.SevenTiedAt
namespace Go.Proofs.YtiffhngfneikoaaDoor
open Go.ChangeShapes Go.WideShapes Go.ChangeAt Go.RowKit Go.Am
set_option maxRecDepth 100000 in
theorem textQuotes_lifted (os : Os) (started : os.Started) (H : Type) (enc : TypeId × Value → H) :
    ReturnsInHanded {} Tryd.checked os 13 .any (fun w args => (Rows.textQuotesSpec.pre enc Tryd.prog Tryd.f13 [] false w args ∧ laidMetH Tryd.prog Rows.textQuotesRow.laid w) ∧ sizedMet enc Tryd.prog Tryd.f13 (OpenSpec.ofChange Rows.textQuotesSpec) false w args)
      (Rows.textQuotesSpec.post enc Tryd.prog Tryd.f13 false true false false) := by
  refine lift_laid (C := Tryd.checked) (tb := 4) (laid := Rows.textQuotesRow.laid) Tryd.own started (by kernel_rfl) Tryd.func13
    (ChangeSpec.witness_shaped (enc := enc) (C := Tryd.checked) (os := os) (X := fun w _ => laidMetH Tryd.prog Rows.textQuotesRow.laid w) false (World.laidAll Tryd.prog os Rows.textQuotesRow.laid) #[.string ⟨#[]⟩, .string ⟨#[]⟩] 8 (World.laidAll_os _ _ _)
      (World.shaped_of_ZipB (by kernel_rfl) (by kernel_rfl)) (by kernel_rfl) (by kernel_rfl) (by kernel_rfl)
      (by rw [MakeChecks.laidMetH_plain _ _ _ (by kernel_rfl)]; exact laidMet_laidAll _ (by kernel_rfl) (by kernel_rfl)))
    laidOut (by kernel_rfl) (by kernel_rfl) (by kernel_rfl) Tryd.underlying4 rfl (fun ds hd => ?_) fun W M vs cs hsh hL hA hR => ?_
  · match ds, hd with
    | [d1, d2], _ => rfl
  · have hT : Tw true W := tw_of hsh (by kernel_rfl) hL (.tail _ (.tail _ (.head _))) (fun _ => ⟨.tail _ (.tail _ (.tail _ (.tail _ (.tail _ (.head _))))), .tail _ (.tail _ (.tail _ (.tail _ (.head _))))⟩)
    rw [Tryd.params13] at hA
    obtain ⟨c0, r0, rfl, h0, hA⟩ := ArgsTy.cons hA
    obtain ⟨c1, r1, rfl, h1, hA⟩ := ArgsTy.cons hA
    obtain rfl := ArgsTy.nil hA
    obtain ⟨a0, rfl, b0⟩ := ArgTy.str Tryd.underlying9 h0
    have b0 : a0.length ≤ 281474976710656 := Nat.le_trans b0 reach_le
    obtain ⟨a1, rfl, b1⟩ := ArgTy.str Tryd.underlying9 h1
    have b1 : a1.length ≤ 281474976710656 := Nat.le_trans b1 reach_le
    obtain ⟨n, hn⟩ := (textQuotes_ok a0 a1 b0 b1).one
    exact Tryd.walk hn W hT M vs hR
theorem textQuotes_c1 : (Rows.textQuotesRow.inPlace == Tryd.prog.inPlace 13) = true := by kernel_rfl
theorem textQuotes_c2 : (Rows.textQuotesRow.unfollowed == Tryd.prog.unfollowed 13) = true := by kernel_rfl
theorem textQuotes_c3 : (Rows.textQuotesRow.recurses == Tryd.prog.recurses 13) = true := by kernel_rfl
theorem textQuotes_c4 : (Rows.textQuotesRow.named == Tryd.prog.varsNamed 13) = true := by kernel_rfl
theorem textQuotes_closed : joinedFacts Tryd.prog 13 Tryd.f13 Rows.textQuotesSpec Rows.textQuotesRow = true := by
  unfold joinedFacts
  simp only [Bool.and_eq_true]
  exact ⟨⟨⟨⟨⟨⟨⟨⟨⟨⟨⟨⟨⟨⟨⟨⟨⟨⟨⟨⟨⟨⟨⟨⟨⟨⟨⟨⟨⟨⟨⟨by kernel_rfl, laidOut⟩, sh_rowed⟩, by kernel_rfl⟩, by kernel_rfl⟩, rfl⟩, sh_stops⟩, rfl⟩, sh_knobs⟩, textQuotes_c1⟩, textQuotes_c2⟩, textQuotes_c3⟩, textQuotes_c4⟩, by kernel_rfl⟩, by kernel_rfl⟩, by kernel_rfl⟩, by kernel_rfl⟩, by kernel_rfl⟩, by kernel_rfl⟩, by kernel_rfl⟩, by kernel_rfl⟩, by kernel_rfl⟩, sh_keys⟩, rfl⟩, sh_heard⟩, sh_enter⟩, sh_lifted⟩, sh_make⟩, by kernel_rfl⟩, by kernel_rfl⟩, by kernel_rfl⟩, by kernel_rfl⟩
theorem textQuotes_fn : Tryd.prog.funcNamed "airline/airlinelaw01.TextQuotes" = some 13 := by kernel_rfl
theorem textQuotes_goes : false = Rows.textQuotesRow.goesBy Tryd.prog := by kernel_rfl
theorem textQuotes_holds : Rows.TextQuotesSaid :=
  OpenClaim.holds_of_wide 13 Tryd.f13 rfl rfl rfl rfl rfl rfl rfl ⟨rfl, rfl, rfl, rfl, rfl⟩ rfl rfl rfl rfl rfl textQuotes_fn Tryd.func13 textQuotes_closed
    (of_decide_eq_true (by kernel_rfl)) (by unfold Func.isWrapper; first | (rw [if_pos (by decide +kernel)]; kernel_rfl) | (rw [if_neg (by decide +kernel)]; exact ⟨rfl, rfl⟩))
    (fun os started H enc _ => textQuotes_lifted os started H enc)
theorem TextQuotesHolds : Rows.TextQuotesCardSaid :=
  Claim7.holds_tied_plain_at .later [] [.data, .data, .data, .data, .sentinel, .sentinel, .pinned] true (true, "169db74cd3f551dd55bb08887a5c8c35f9aed73eef7fae6cc9707762c104c8e1") true
    textQuotes_holds (fun _ h => by cases h) (by kernel_rfl) (fun _ h => by cases h) textQuotes_row_tie rfl ⟨rfl, rfl⟩ sh_main rfl
    (fun f fn hf hfn => by
      obtain rfl : f = 13 := Option.some.inj (textQuotes_fn.symm.trans hf) |>.symm
      obtain rfl : fn = Tryd.f13 := (Option.some.inj (Tryd.func13.symm.trans hfn)).symm
      exact ⟨sh_looks, fun j t ht => by
        rw [Tryd.params13] at ht
        have hm : t ∈ [9, 9] := by simpa using Array.mem_of_getElem? ht
        have hall : ([9, 9].all fun u => !Tryd.prog.wantsStandIn u) = true := by kernel_rfl
        exact (show Tryd.prog.wantsStandIn t = false by simpa using List.all_eq_true.1 hall t hm)⟩)
    textQuotes_goes

set_option maxRecDepth 100000 in
theorem textNumbers_lifted (os : Os) (started : os.Started) (H : Type) (enc : TypeId × Value → H) :
    ReturnsInHanded {} Tryd.checked os 14 .any (fun w args => (Rows.textNumbersSpec.pre enc Tryd.prog Tryd.f14 [] false w args ∧ laidMetH Tryd.prog Rows.textNumbersRow.laid w) ∧ sizedMet enc Tryd.prog Tryd.f14 (OpenSpec.ofChange Rows.textNumbersSpec) false w args)
      (Rows.textNumbersSpec.post enc Tryd.prog Tryd.f14 false true false false) := by
  refine lift_laid (C := Tryd.checked) (tb := 4) (laid := Rows.textNumbersRow.laid) Tryd.own started (by kernel_rfl) Tryd.func14
    (ChangeSpec.witness_shaped (enc := enc) (C := Tryd.checked) (os := os) (X := fun w _ => laidMetH Tryd.prog Rows.textNumbersRow.laid w) false (World.laidAll Tryd.prog os Rows.textNumbersRow.laid) #[.string ⟨#[]⟩, .int .i64 0] 8 (World.laidAll_os _ _ _)
      (World.shaped_of_ZipB (by kernel_rfl) (by kernel_rfl)) (by kernel_rfl) (by kernel_rfl) (by kernel_rfl)
      (by rw [MakeChecks.laidMetH_plain _ _ _ (by kernel_rfl)]; exact laidMet_laidAll _ (by kernel_rfl) (by kernel_rfl)))
    laidOut (by kernel_rfl) (by kernel_rfl) (by kernel_rfl) Tryd.underlying4 rfl (fun ds hd => ?_) fun W M vs cs hsh hL hA hR => ?_
  · match ds, hd with
    | [d1, d2], _ => rfl
  · have hT : Tw true W := tw_of hsh (by kernel_rfl) hL (.tail _ (.tail _ (.head _))) (fun _ => ⟨.tail _ (.tail _ (.tail _ (.tail _ (.tail _ (.head _))))), .tail _ (.tail _ (.tail _ (.tail _ (.head _))))⟩)
    rw [Tryd.params14] at hA
    obtain ⟨c0, r0, rfl, h0, hA⟩ := ArgsTy.cons hA
    obtain ⟨c1, r1, rfl, h1, hA⟩ := ArgsTy.cons hA
    obtain rfl := ArgsTy.nil hA
    obtain ⟨a0, rfl, b0⟩ := ArgTy.str Tryd.underlying9 h0
    have b0 : a0.length ≤ 281474976710656 := Nat.le_trans b0 reach_le
    obtain ⟨a1, rfl, b1⟩ := ArgTy.int Tryd.underlying3 h1
    have b1 : -9223372036854775808 ≤ a1 ∧ a1 ≤ 9223372036854775807 := b1
    obtain ⟨n, hn⟩ := (textNumbers_ok a0 a1 b1.1 b1.2 b0).one
    exact Tryd.walk hn W hT M vs hR
theorem textNumbers_c1 : (Rows.textNumbersRow.inPlace == Tryd.prog.inPlace 14) = true := by kernel_rfl
theorem textNumbers_c2 : (Rows.textNumbersRow.unfollowed == Tryd.prog.unfollowed 14) = true := by kernel_rfl
theorem textNumbers_c3 : (Rows.textNumbersRow.recurses == Tryd.prog.recurses 14) = true := by kernel_rfl
theorem textNumbers_c4 : (Rows.textNumbersRow.named == Tryd.prog.varsNamed 14) = true := by kernel_rfl
theorem textNumbers_closed : joinedFacts Tryd.prog 14 Tryd.f14 Rows.textNumbersSpec Rows.textNumbersRow = true := by
  unfold joinedFacts
  simp only [Bool.and_eq_true]
  exact ⟨⟨⟨⟨⟨⟨⟨⟨⟨⟨⟨⟨⟨⟨⟨⟨⟨⟨⟨⟨⟨⟨⟨⟨⟨⟨⟨⟨⟨⟨⟨by kernel_rfl, laidOut⟩, sh_rowed⟩, by kernel_rfl⟩, by kernel_rfl⟩, rfl⟩, sh_stops⟩, rfl⟩, sh_knobs⟩, textNumbers_c1⟩, textNumbers_c2⟩, textNumbers_c3⟩, textNumbers_c4⟩, by kernel_rfl⟩, by kernel_rfl⟩, by kernel_rfl⟩, by kernel_rfl⟩, by kernel_rfl⟩, by kernel_rfl⟩, by kernel_rfl⟩, by kernel_rfl⟩, by kernel_rfl⟩, sh_keys⟩, rfl⟩, sh_heard⟩, sh_enter⟩, sh_lifted⟩, sh_make⟩, by kernel_rfl⟩, by kernel_rfl⟩, by kernel_rfl⟩, by kernel_rfl⟩
theorem textNumbers_fn : Tryd.prog.funcNamed "airline/airlinelaw01.TextNumbers" = some 14 := by kernel_rfl
theorem textNumbers_goes : false = Rows.textNumbersRow.goesBy Tryd.prog := by kernel_rfl
theorem textNumbers_holds : Rows.TextNumbersSaid :=
  OpenClaim.holds_of_wide 14 Tryd.f14 rfl rfl rfl rfl rfl rfl rfl ⟨rfl, rfl, rfl, rfl, rfl⟩ rfl rfl rfl rfl rfl textNumbers_fn Tryd.func14 textNumbers_closed
    (of_decide_eq_true (by kernel_rfl)) (by unfold Func.isWrapper; first | (rw [if_pos (by decide +kernel)]; kernel_rfl) | (rw [if_neg (by decide +kernel)]; exact ⟨rfl, rfl⟩))
    (fun os started H enc _ => textNumbers_lifted os started H enc)
theorem TextNumbersHolds : Rows.TextNumbersCardSaid :=
  Claim7.holds_tied_plain_at .later [] [.data, .data, .data, .data, .sentinel, .sentinel, .pinned] true (true, "169db74cd3f551dd55bb08887a5c8c35f9aed73eef7fae6cc9707762c104c8e1") true
    textNumbers_holds (fun _ h => by cases h) (by kernel_rfl) (fun _ h => by cases h) textNumbers_row_tie rfl ⟨rfl, rfl⟩ sh_main rfl
    (fun f fn hf hfn => by
      obtain rfl : f = 14 := Option.some.inj (textNumbers_fn.symm.trans hf) |>.symm
      obtain rfl : fn = Tryd.f14 := (Option.some.inj (Tryd.func14.symm.trans hfn)).symm
      exact ⟨sh_looks, fun j t ht => by
        rw [Tryd.params14] at ht
        have hm : t ∈ [9, 3] := by simpa using Array.mem_of_getElem? ht
        have hall : ([9, 3].all fun u => !Tryd.prog.wantsStandIn u) = true := by kernel_rfl
        exact (show Tryd.prog.wantsStandIn t = false by simpa using List.all_eq_true.1 hall t hm)⟩)
    textNumbers_goes

set_option maxRecDepth 100000 in
theorem textCodes_lifted (os : Os) (started : os.Started) (H : Type) (enc : TypeId × Value → H) :
    ReturnsInHanded {} Tryd.checked os 15 .any (fun w args => (Rows.textCodesSpec.pre enc Tryd.prog Tryd.f15 [] false w args ∧ laidMetH Tryd.prog Rows.textCodesRow.laid w) ∧ sizedMet enc Tryd.prog Tryd.f15 (OpenSpec.ofChange Rows.textCodesSpec) false w args)
      (Rows.textCodesSpec.post enc Tryd.prog Tryd.f15 false true false false) := by
  refine lift_laid (C := Tryd.checked) (tb := 4) (laid := Rows.textCodesRow.laid) Tryd.own started (by kernel_rfl) Tryd.func15
    (ChangeSpec.witness_shaped (enc := enc) (C := Tryd.checked) (os := os) (X := fun w _ => laidMetH Tryd.prog Rows.textCodesRow.laid w) false (World.laidAll Tryd.prog os Rows.textCodesRow.laid) #[.string ⟨#[]⟩, .int .i64 0, .int .i64 0] 8 (World.laidAll_os _ _ _)
      (World.shaped_of_ZipB (by kernel_rfl) (by kernel_rfl)) (by kernel_rfl) (by kernel_rfl) (by kernel_rfl)
      (by rw [MakeChecks.laidMetH_plain _ _ _ (by kernel_rfl)]; exact laidMet_laidAll _ (by kernel_rfl) (by kernel_rfl)))
    laidOut (by kernel_rfl) (by kernel_rfl) (by kernel_rfl) Tryd.underlying4 rfl (fun ds hd => ?_) fun W M vs cs hsh hL hA hR => ?_
  · match ds, hd with
    | [d1, d2, d3], _ => rfl
  · have hT : Tw true W := tw_of hsh (by kernel_rfl) hL (.tail _ (.tail _ (.head _))) (fun _ => ⟨.tail _ (.tail _ (.tail _ (.tail _ (.tail _ (.head _))))), .tail _ (.tail _ (.tail _ (.tail _ (.head _))))⟩)
    rw [Tryd.params15] at hA
    obtain ⟨c0, r0, rfl, h0, hA⟩ := ArgsTy.cons hA
    obtain ⟨c1, r1, rfl, h1, hA⟩ := ArgsTy.cons hA
    obtain ⟨c2, r2, rfl, h2, hA⟩ := ArgsTy.cons hA
    obtain rfl := ArgsTy.nil hA
    obtain ⟨a0, rfl, b0⟩ := ArgTy.str Tryd.underlying9 h0
    have b0 : a0.length ≤ 281474976710656 := Nat.le_trans b0 reach_le
    obtain ⟨a1, rfl, b1⟩ := ArgTy.int Tryd.underlying3 h1
    have b1 : -9223372036854775808 ≤ a1 ∧ a1 ≤ 9223372036854775807 := b1
    obtain ⟨a2, rfl, b2⟩ := ArgTy.int Tryd.underlying3 h2
    have b2 : -9223372036854775808 ≤ a2 ∧ a2 ≤ 9223372036854775807 := b2
    obtain ⟨n, hn⟩ := (textCodes_ok a0 a1 a2 b0).one
    exact Tryd.walk hn W hT M vs hR
theorem textCodes_c1 : (Rows.textCodesRow.inPlace == Tryd.prog.inPlace 15) = true := by kernel_rfl
theorem textCodes_c2 : (Rows.textCodesRow.unfollowed == Tryd.prog.unfollowed 15) = true := by kernel_rfl
theorem textCodes_c3 : (Rows.textCodesRow.recurses == Tryd.prog.recurses 15) = true := by kernel_rfl
theorem textCodes_c4 : (Rows.textCodesRow.named == Tryd.prog.varsNamed 15) = true := by kernel_rfl
theorem textCodes_closed : joinedFacts Tryd.prog 15 Tryd.f15 Rows.textCodesSpec Rows.textCodesRow = true := by
  unfold joinedFacts
  simp only [Bool.and_eq_true]
  exact ⟨⟨⟨⟨⟨⟨⟨⟨⟨⟨⟨⟨⟨⟨⟨⟨⟨⟨⟨⟨⟨⟨⟨⟨⟨⟨⟨⟨⟨⟨⟨by kernel_rfl, laidOut⟩, sh_rowed⟩, by kernel_rfl⟩, by kernel_rfl⟩, rfl⟩, sh_stops⟩, rfl⟩, sh_knobs⟩, textCodes_c1⟩, textCodes_c2⟩, textCodes_c3⟩, textCodes_c4⟩, by kernel_rfl⟩, by kernel_rfl⟩, by kernel_rfl⟩, by kernel_rfl⟩, by kernel_rfl⟩, by kernel_rfl⟩, by kernel_rfl⟩, by kernel_rfl⟩, by kernel_rfl⟩, sh_keys⟩, rfl⟩, sh_heard⟩, sh_enter⟩, sh_lifted⟩, sh_make⟩, by kernel_rfl⟩, by kernel_rfl⟩, by kernel_rfl⟩, by kernel_rfl⟩
theorem textCodes_fn : Tryd.prog.funcNamed "airline/airlinelaw01.TextCodes" = some 15 := by kernel_rfl
theorem textCodes_goes : false = Rows.textCodesRow.goesBy Tryd.prog := by kernel_rfl
theorem textCodes_holds : Rows.TextCodesSaid :=
  OpenClaim.holds_of_wide 15 Tryd.f15 rfl rfl rfl rfl rfl rfl rfl ⟨rfl, rfl, rfl, rfl, rfl⟩ rfl rfl rfl rfl rfl textCodes_fn Tryd.func15 textCodes_closed
    (of_decide_eq_true (by kernel_rfl)) (by unfold Func.isWrapper; first | (rw [if_pos (by decide +kernel)]; kernel_rfl) | (rw [if_neg (by decide +kernel)]; exact ⟨rfl, rfl⟩))
    (fun os started H enc _ => textCodes_lifted os started H enc)
theorem TextCodesHolds : Rows.TextCodesCardSaid :=
  Claim7.holds_tied_plain_at .later [] [.data, .data, .data, .data, .sentinel, .sentinel, .pinned] true (true, "169db74cd3f551dd55bb08887a5c8c35f9aed73eef7fae6cc9707762c104c8e1") true
    textCodes_holds (fun _ h => by cases h) (by kernel_rfl) (fun _ h => by cases h) textCodes_row_tie rfl ⟨rfl, rfl⟩ sh_main rfl
    (fun f fn hf hfn => by
      obtain rfl : f = 15 := Option.some.inj (textCodes_fn.symm.trans hf) |>.symm
      obtain rfl : fn = Tryd.f15 := (Option.some.inj (Tryd.func15.symm.trans hfn)).symm
      exact ⟨sh_looks, fun j t ht => by
        rw [Tryd.params15] at ht
        have hm : t ∈ [9, 3, 3] := by simpa using Array.mem_of_getElem? ht
        have hall : ([9, 3, 3].all fun u => !Tryd.prog.wantsStandIn u) = true := by kernel_rfl
        exact (show Tryd.prog.wantsStandIn t = false by simpa using List.all_eq_true.1 hall t hm)⟩)
    textCodes_goes

end Go.Proofs.YtiffhngfneikoaaDoor
