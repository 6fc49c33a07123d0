/- The laws of chapter 1 hold of the program: TextLines, TextParts, TextBack. Conditions: none beyond the given rows. -/
import Derived.Test.YtiffhngfneikoaaDoorJd
import Derived.Test.YtiffhngfneikoaaDoorL01
import Derived.Test.YtiffhngfneikoaaDoorTie
import Derived.Test.YtiffhngfneikoaaDoorCards
import Derived.SevenTiedAt
namespace Go.Proofs.YtiffhngfneikoaaDoor
open Go.ChangeShapes Go.WideShapes Go.ChangeAt Go.RowKit Go.Am
set_option maxRecDepth 100000 in
theorem textLines_lifted (os : Os) (started : os.Started) (H : Type) (enc : TypeId × Value → H) :
    ReturnsInHanded {} Tryd.checked os 17 .any (fun w args => (Rows.textLinesSpec.pre enc Tryd.prog Tryd.f17 [] false w args ∧ laidMetH Tryd.prog Rows.textLinesRow.laid w) ∧ sizedMet enc Tryd.prog Tryd.f17 (OpenSpec.ofChange Rows.textLinesSpec) false w args)
      (Rows.textLinesSpec.post enc Tryd.prog Tryd.f17 false true false false) := by
  refine lift_laid (C := Tryd.checked) (tb := 4) (laid := Rows.textLinesRow.laid) Tryd.own started (by kernel_rfl) Tryd.func17
    (ChangeSpec.witness_shaped (enc := enc) (C := Tryd.checked) (os := os) (X := fun w _ => laidMetH Tryd.prog Rows.textLinesRow.laid w) false (World.laidAll Tryd.prog os Rows.textLinesRow.laid) #[.string ⟨#[]⟩, .slice none 0 0] 8 (World.laidAll_os _ _ _)
      (World.shaped_of_ZipB (by kernel_rfl) (by kernel_rfl)) (by kernel_rfl) (by kernel_rfl) (by kernel_rfl)
      (by rw [MakeChecks.laidMetH_plain _ _ _ (by kernel_rfl)]; exact laidMet_laidAll _ (by kernel_rfl) (by kernel_rfl)))
    laidOut (by kernel_rfl) (by kernel_rfl) (by kernel_rfl) Tryd.underlying4 rfl (fun ds hd => ?_) fun W M vs cs hsh hL hA hR => ?_
  · match ds, hd with
    | [d1, d2], _ => rfl
  · have hT : Tw true W := tw_of hsh (by kernel_rfl) hL (.tail _ (.tail _ (.head _))) (fun _ => ⟨.tail _ (.tail _ (.tail _ (.tail _ (.tail _ (.head _))))), .tail _ (.tail _ (.tail _ (.tail _ (.head _))))⟩)
    rw [Tryd.params17] at hA
    obtain ⟨c0, r0, rfl, h0, hA⟩ := ArgsTy.cons hA
    obtain ⟨c1, r1, rfl, h1, hA⟩ := ArgsTy.cons hA
    obtain rfl := ArgsTy.nil hA
    obtain ⟨a0, rfl, b0⟩ := ArgTy.str Tryd.underlying9 h0
    have b0 : a0.length ≤ 281474976710656 := Nat.le_trans b0 reach_le
    obtain ⟨z1, x1, rfl, _, _, b1⟩ := ArgTy.slice Tryd.underlying41 h1
    obtain ⟨a1, rfl, k1⟩ := texts_gen Tryd.underlying9 b1
    obtain ⟨n, hn⟩ := (textLines_ok a0 z1 a1 b0 k1).one
    exact Tryd.walk hn W hT M vs hR
theorem textLines_c1 : (Rows.textLinesRow.inPlace == Tryd.prog.inPlace 17) = true := by kernel_rfl
theorem textLines_c2 : (Rows.textLinesRow.unfollowed == Tryd.prog.unfollowed 17) = true := by kernel_rfl
theorem textLines_c3 : (Rows.textLinesRow.recurses == Tryd.prog.recurses 17) = true := by kernel_rfl
theorem textLines_c4 : (Rows.textLinesRow.named == Tryd.prog.varsNamed 17) = true := by kernel_rfl
theorem textLines_closed : joinedFacts Tryd.prog 17 Tryd.f17 Rows.textLinesSpec Rows.textLinesRow = true := by
  unfold joinedFacts
  simp only [Bool.and_eq_true]
  exact ⟨⟨⟨⟨⟨⟨⟨⟨⟨⟨⟨⟨⟨⟨⟨⟨⟨⟨⟨⟨⟨⟨⟨⟨⟨⟨⟨⟨⟨⟨⟨by kernel_rfl, laidOut⟩, sh_rowed⟩, by kernel_rfl⟩, by kernel_rfl⟩, rfl⟩, sh_stops⟩, rfl⟩, sh_knobs⟩, textLines_c1⟩, textLines_c2⟩, textLines_c3⟩, textLines_c4⟩, by kernel_rfl⟩, by kernel_rfl⟩, by kernel_rfl⟩, by kernel_rfl⟩, by kernel_rfl⟩, by kernel_rfl⟩, by kernel_rfl⟩, by kernel_rfl⟩, by kernel_rfl⟩, sh_keys⟩, rfl⟩, sh_heard⟩, sh_enter⟩, sh_lifted⟩, sh_make⟩, by kernel_rfl⟩, by kernel_rfl⟩, by kernel_rfl⟩, by kernel_rfl⟩
theorem textLines_fn : Tryd.prog.funcNamed "airline/airlinelaw01.TextLines" = some 17 := by kernel_rfl
theorem textLines_goes : false = Rows.textLinesRow.goesBy Tryd.prog := by kernel_rfl
theorem textLines_holds : Rows.TextLinesSaid :=
  OpenClaim.holds_of_wide 17 Tryd.f17 rfl rfl rfl rfl rfl rfl rfl ⟨rfl, rfl, rfl, rfl, rfl⟩ rfl rfl rfl rfl rfl textLines_fn Tryd.func17 textLines_closed
    (of_decide_eq_true (by kernel_rfl)) (by unfold Func.isWrapper; first | (rw [if_pos (by decide +kernel)]; kernel_rfl) | (rw [if_neg (by decide +kernel)]; exact ⟨rfl, rfl⟩))
    (fun os started H enc _ => textLines_lifted os started H enc)
theorem TextLinesHolds : Rows.TextLinesCardSaid :=
  Claim7.holds_tied_plain_at .later [] [.data, .data, .data, .data, .sentinel, .sentinel, .pinned] true (true, "169db74cd3f551dd55bb08887a5c8c35f9aed73eef7fae6cc9707762c104c8e1") true
    textLines_holds (fun _ h => by cases h) (by kernel_rfl) (fun _ h => by cases h) textLines_row_tie rfl ⟨rfl, rfl⟩ sh_main rfl
    (fun f fn hf hfn => by
      obtain rfl : f = 17 := Option.some.inj (textLines_fn.symm.trans hf) |>.symm
      obtain rfl : fn = Tryd.f17 := (Option.some.inj (Tryd.func17.symm.trans hfn)).symm
      exact ⟨sh_looks, fun j t ht => by
        rw [Tryd.params17] at ht
        have hm : t ∈ [9, 41] := by simpa using Array.mem_of_getElem? ht
        have hall : ([9, 41].all fun u => !Tryd.prog.wantsStandIn u) = true := by kernel_rfl
        exact (show Tryd.prog.wantsStandIn t = false by simpa using List.all_eq_true.1 hall t hm)⟩)
    textLines_goes

set_option maxRecDepth 100000 in
theorem textParts_lifted (os : Os) (started : os.Started) (H : Type) (enc : TypeId × Value → H) :
    ReturnsInHanded {} Tryd.checked os 18 .any (fun w args => (Rows.textPartsSpec.pre enc Tryd.prog Tryd.f18 [] false w args ∧ laidMetH Tryd.prog Rows.textPartsRow.laid w) ∧ sizedMet enc Tryd.prog Tryd.f18 (OpenSpec.ofChange Rows.textPartsSpec) false w args)
      (Rows.textPartsSpec.post enc Tryd.prog Tryd.f18 false true false false) := by
  refine lift_laid (C := Tryd.checked) (tb := 4) (laid := Rows.textPartsRow.laid) Tryd.own started (by kernel_rfl) Tryd.func18
    (ChangeSpec.witness_shaped (enc := enc) (C := Tryd.checked) (os := os) (X := fun w _ => laidMetH Tryd.prog Rows.textPartsRow.laid w) false (World.laidAll Tryd.prog os Rows.textPartsRow.laid) #[.slice none 0 0, .slice none 0 0] 8 (World.laidAll_os _ _ _)
      (World.shaped_of_ZipB (by kernel_rfl) (by kernel_rfl)) (by kernel_rfl) (by kernel_rfl) (by kernel_rfl)
      (by rw [MakeChecks.laidMetH_plain _ _ _ (by kernel_rfl)]; exact laidMet_laidAll _ (by kernel_rfl) (by kernel_rfl)))
    laidOut (by kernel_rfl) (by kernel_rfl) (by kernel_rfl) Tryd.underlying4 rfl (fun ds hd => ?_) fun W M vs cs hsh hL hA hR => ?_
  · match ds, hd with
    | [d1, d2], _ => rfl
  · have hT : Tw true W := tw_of hsh (by kernel_rfl) hL (.tail _ (.tail _ (.head _))) (fun _ => ⟨.tail _ (.tail _ (.tail _ (.tail _ (.tail _ (.head _))))), .tail _ (.tail _ (.tail _ (.tail _ (.head _))))⟩)
    rw [Tryd.params18] at hA
    obtain ⟨c0, r0, rfl, h0, hA⟩ := ArgsTy.cons hA
    obtain ⟨c1, r1, rfl, h1, hA⟩ := ArgsTy.cons hA
    obtain rfl := ArgsTy.nil hA
    obtain ⟨z0, x0, rfl, _, _, b0⟩ := ArgTy.slice Tryd.underlying41 h0
    obtain ⟨a0, rfl, k0⟩ := texts_gen Tryd.underlying9 b0
    obtain ⟨z1, x1, rfl, _, _, b1⟩ := ArgTy.slice Tryd.underlying41 h1
    obtain ⟨a1, rfl, k1⟩ := texts_gen Tryd.underlying9 b1
    obtain ⟨n, hn⟩ := (textParts_ok z0 z1 a0 a1 k0 k1).one
    exact Tryd.walk hn W hT M vs hR
theorem textParts_c1 : (Rows.textPartsRow.inPlace == Tryd.prog.inPlace 18) = true := by kernel_rfl
theorem textParts_c2 : (Rows.textPartsRow.unfollowed == Tryd.prog.unfollowed 18) = true := by kernel_rfl
theorem textParts_c3 : (Rows.textPartsRow.recurses == Tryd.prog.recurses 18) = true := by kernel_rfl
theorem textParts_c4 : (Rows.textPartsRow.named == Tryd.prog.varsNamed 18) = true := by kernel_rfl
theorem textParts_closed : joinedFacts Tryd.prog 18 Tryd.f18 Rows.textPartsSpec Rows.textPartsRow = true := by
  unfold joinedFacts
  simp only [Bool.and_eq_true]
  exact ⟨⟨⟨⟨⟨⟨⟨⟨⟨⟨⟨⟨⟨⟨⟨⟨⟨⟨⟨⟨⟨⟨⟨⟨⟨⟨⟨⟨⟨⟨⟨by kernel_rfl, laidOut⟩, sh_rowed⟩, by kernel_rfl⟩, by kernel_rfl⟩, rfl⟩, sh_stops⟩, rfl⟩, sh_knobs⟩, textParts_c1⟩, textParts_c2⟩, textParts_c3⟩, textParts_c4⟩, by kernel_rfl⟩, by kernel_rfl⟩, by kernel_rfl⟩, by kernel_rfl⟩, by kernel_rfl⟩, by kernel_rfl⟩, by kernel_rfl⟩, by kernel_rfl⟩, by kernel_rfl⟩, sh_keys⟩, rfl⟩, sh_heard⟩, sh_enter⟩, sh_lifted⟩, sh_make⟩, by kernel_rfl⟩, by kernel_rfl⟩, by kernel_rfl⟩, by kernel_rfl⟩
theorem textParts_fn : Tryd.prog.funcNamed "airline/airlinelaw01.TextParts" = some 18 := by kernel_rfl
theorem textParts_goes : false = Rows.textPartsRow.goesBy Tryd.prog := by kernel_rfl
theorem textParts_holds : Rows.TextPartsSaid :=
  OpenClaim.holds_of_wide 18 Tryd.f18 rfl rfl rfl rfl rfl rfl rfl ⟨rfl, rfl, rfl, rfl, rfl⟩ rfl rfl rfl rfl rfl textParts_fn Tryd.func18 textParts_closed
    (of_decide_eq_true (by kernel_rfl)) (by unfold Func.isWrapper; first | (rw [if_pos (by decide +kernel)]; kernel_rfl) | (rw [if_neg (by decide +kernel)]; exact ⟨rfl, rfl⟩))
    (fun os started H enc _ => textParts_lifted os started H enc)
theorem TextPartsHolds : Rows.TextPartsCardSaid :=
  Claim7.holds_tied_plain_at .later [] [.data, .data, .data, .data, .sentinel, .sentinel, .pinned] true (true, "169db74cd3f551dd55bb08887a5c8c35f9aed73eef7fae6cc9707762c104c8e1") true
    textParts_holds (fun _ h => by cases h) (by kernel_rfl) (fun _ h => by cases h) textParts_row_tie rfl ⟨rfl, rfl⟩ sh_main rfl
    (fun f fn hf hfn => by
      obtain rfl : f = 18 := Option.some.inj (textParts_fn.symm.trans hf) |>.symm
      obtain rfl : fn = Tryd.f18 := (Option.some.inj (Tryd.func18.symm.trans hfn)).symm
      exact ⟨sh_looks, fun j t ht => by
        rw [Tryd.params18] at ht
        have hm : t ∈ [41, 41] := by simpa using Array.mem_of_getElem? ht
        have hall : ([41, 41].all fun u => !Tryd.prog.wantsStandIn u) = true := by kernel_rfl
        exact (show Tryd.prog.wantsStandIn t = false by simpa using List.all_eq_true.1 hall t hm)⟩)
    textParts_goes

set_option maxRecDepth 100000 in
theorem textBack_lifted (os : Os) (started : os.Started) (H : Type) (enc : TypeId × Value → H) :
    ReturnsInHanded {} Tryd.checked os 19 .any (fun w args => (Rows.textBackSpec.pre enc Tryd.prog Tryd.f19 [] false w args ∧ laidMetH Tryd.prog Rows.textBackRow.laid w) ∧ sizedMet enc Tryd.prog Tryd.f19 (OpenSpec.ofChange Rows.textBackSpec) false w args)
      (Rows.textBackSpec.post enc Tryd.prog Tryd.f19 false true false false) := by
  refine lift_laid (C := Tryd.checked) (tb := 4) (laid := Rows.textBackRow.laid) Tryd.own started (by kernel_rfl) Tryd.func19
    (ChangeSpec.witness_shaped (enc := enc) (C := Tryd.checked) (os := os) (X := fun w _ => laidMetH Tryd.prog Rows.textBackRow.laid w) false (World.laidAll Tryd.prog os Rows.textBackRow.laid) #[.string ⟨#[]⟩, .slice none 0 0, .int .i64 0] 8 (World.laidAll_os _ _ _)
      (World.shaped_of_ZipB (by kernel_rfl) (by kernel_rfl)) (by kernel_rfl) (by kernel_rfl) (by kernel_rfl)
      (by rw [MakeChecks.laidMetH_plain _ _ _ (by kernel_rfl)]; exact laidMet_laidAll _ (by kernel_rfl) (by kernel_rfl)))
    laidOut (by kernel_rfl) (by kernel_rfl) (by kernel_rfl) Tryd.underlying4 rfl (fun ds hd => ?_) fun W M vs cs hsh hL hA hR => ?_
  · match ds, hd with
    | [d1, d2, d3], _ => rfl
  · have hT : Tw true W := tw_of hsh (by kernel_rfl) hL (.tail _ (.tail _ (.head _))) (fun _ => ⟨.tail _ (.tail _ (.tail _ (.tail _ (.tail _ (.head _))))), .tail _ (.tail _ (.tail _ (.tail _ (.head _))))⟩)
    rw [Tryd.params19] at hA
    obtain ⟨c0, r0, rfl, h0, hA⟩ := ArgsTy.cons hA
    obtain ⟨c1, r1, rfl, h1, hA⟩ := ArgsTy.cons hA
    obtain ⟨c2, r2, rfl, h2, hA⟩ := ArgsTy.cons hA
    obtain rfl := ArgsTy.nil hA
    obtain ⟨a0, rfl, b0⟩ := ArgTy.str Tryd.underlying9 h0
    have b0 : a0.length ≤ 281474976710656 := Nat.le_trans b0 reach_le
    obtain ⟨z1, x1, rfl, _, _, b1⟩ := ArgTy.slice Tryd.underlying41 h1
    obtain ⟨a1, rfl, k1⟩ := texts_gen Tryd.underlying9 b1
    obtain ⟨a2, rfl, b2⟩ := ArgTy.int Tryd.underlying3 h2
    have b2 : -9223372036854775808 ≤ a2 ∧ a2 ≤ 9223372036854775807 := b2
    obtain ⟨n, hn⟩ := (textBack_ok a0 z1 a1 a2 b2.1 b2.2 b0 k1).one
    exact Tryd.walk hn W hT M vs hR
theorem textBack_c1 : (Rows.textBackRow.inPlace == Tryd.prog.inPlace 19) = true := by kernel_rfl
theorem textBack_c2 : (Rows.textBackRow.unfollowed == Tryd.prog.unfollowed 19) = true := by kernel_rfl
theorem textBack_c3 : (Rows.textBackRow.recurses == Tryd.prog.recurses 19) = true := by kernel_rfl
theorem textBack_c4 : (Rows.textBackRow.named == Tryd.prog.varsNamed 19) = true := by kernel_rfl
theorem textBack_closed : joinedFacts Tryd.prog 19 Tryd.f19 Rows.textBackSpec Rows.textBackRow = true := by
  unfold joinedFacts
  simp only [Bool.and_eq_true]
  exact ⟨⟨⟨⟨⟨⟨⟨⟨⟨⟨⟨⟨⟨⟨⟨⟨⟨⟨⟨⟨⟨⟨⟨⟨⟨⟨⟨⟨⟨⟨⟨by kernel_rfl, laidOut⟩, sh_rowed⟩, by kernel_rfl⟩, by kernel_rfl⟩, rfl⟩, sh_stops⟩, rfl⟩, sh_knobs⟩, textBack_c1⟩, textBack_c2⟩, textBack_c3⟩, textBack_c4⟩, by kernel_rfl⟩, by kernel_rfl⟩, by kernel_rfl⟩, by kernel_rfl⟩, by kernel_rfl⟩, by kernel_rfl⟩, by kernel_rfl⟩, by kernel_rfl⟩, by kernel_rfl⟩, sh_keys⟩, rfl⟩, sh_heard⟩, sh_enter⟩, sh_lifted⟩, sh_make⟩, by kernel_rfl⟩, by kernel_rfl⟩, by kernel_rfl⟩, by kernel_rfl⟩
theorem textBack_fn : Tryd.prog.funcNamed "airline/airlinelaw01.TextBack" = some 19 := by kernel_rfl
theorem textBack_goes : false = Rows.textBackRow.goesBy Tryd.prog := by kernel_rfl
theorem textBack_holds : Rows.TextBackSaid :=
  OpenClaim.holds_of_wide 19 Tryd.f19 rfl rfl rfl rfl rfl rfl rfl ⟨rfl, rfl, rfl, rfl, rfl⟩ rfl rfl rfl rfl rfl textBack_fn Tryd.func19 textBack_closed
    (of_decide_eq_true (by kernel_rfl)) (by unfold Func.isWrapper; first | (rw [if_pos (by decide +kernel)]; kernel_rfl) | (rw [if_neg (by decide +kernel)]; exact ⟨rfl, rfl⟩))
    (fun os started H enc _ => textBack_lifted os started H enc)
theorem TextBackHolds : Rows.TextBackCardSaid :=
  Claim7.holds_tied_plain_at .later [] [.data, .data, .data, .data, .sentinel, .sentinel, .pinned] true (true, "169db74cd3f551dd55bb08887a5c8c35f9aed73eef7fae6cc9707762c104c8e1") true
    textBack_holds (fun _ h => by cases h) (by kernel_rfl) (fun _ h => by cases h) textBack_row_tie rfl ⟨rfl, rfl⟩ sh_main rfl
    (fun f fn hf hfn => by
      obtain rfl : f = 19 := Option.some.inj (textBack_fn.symm.trans hf) |>.symm
      obtain rfl : fn = Tryd.f19 := (Option.some.inj (Tryd.func19.symm.trans hfn)).symm
      exact ⟨sh_looks, fun j t ht => by
        rw [Tryd.params19] at ht
        have hm : t ∈ [9, 41, 3] := by simpa using Array.mem_of_getElem? ht
        have hall : ([9, 41, 3].all fun u => !Tryd.prog.wantsStandIn u) = true := by kernel_rfl
        exact (show Tryd.prog.wantsStandIn t = false by simpa using List.all_eq_true.1 hall t hm)⟩)
    textBack_goes

end Go.Proofs.YtiffhngfneikoaaDoor
