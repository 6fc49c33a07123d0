/- The law JournalNil of chapter 36 holds of the program. Conditions: none beyond the given rows. -/
import Derived.Test.YtiffhngfneikoaaDoorJf
import Derived.Test.YtiffhngfneikoaaDoorWn
import Derived.Test.YtiffhngfneikoaaDoorTie
import Derived.Test.YtiffhngfneikoaaDoorCards
import Derived.SevenTiedAt
namespace Go.Proofs.YtiffhngfneikoaaDoor
open Go.ChangeShapes Go.WideShapes Go.ChangeAt Go.RowKit Go.Am

set_option maxRecDepth 100000 in
theorem journalNil_lifted (os : Os) (started : os.Started) (H : Type) (enc : TypeId × Value → H) :
    ReturnsInHanded {} Tryd.checked os 7 .any (fun w args => (Rows.journalNilSpec.pre enc Tryd.prog Tryd.f7 [] false w args ∧ laidMetH Tryd.prog Rows.journalNilRow.laid w) ∧ sizedMet enc Tryd.prog Tryd.f7 (OpenSpec.ofChange Rows.journalNilSpec) false w args)
      (Rows.journalNilSpec.post enc Tryd.prog Tryd.f7 false true false false) := by
  refine lift_laid (C := Tryd.checked) (tb := 4) (laid := Rows.journalNilRow.laid) Tryd.own started (by kernel_rfl) Tryd.func7
    (ChangeSpec.witness_shaped (enc := enc) (C := Tryd.checked) (os := os) (X := fun w _ => laidMetH Tryd.prog Rows.journalNilRow.laid w) false (World.laidAll Tryd.prog os Rows.journalNilRow.laid) #[.string ⟨#[]⟩, .int .i64 0] 8 (World.laidAll_os _ _ _)
      (World.shaped_of_ZipB (by kernel_rfl) (by kernel_rfl)) (by kernel_rfl) (by kernel_rfl) (by kernel_rfl)
      (by rw [MakeChecks.laidMetH_plain _ _ _ (by kernel_rfl)]; exact laidMet_laidAll _ (by kernel_rfl) (by kernel_rfl)))
    laidOut (by kernel_rfl) (by kernel_rfl) (by kernel_rfl) Tryd.underlying4 rfl (fun ds hd => ?_) fun W M vs cs hsh hL hA hR => ?_
  · match ds, hd with
    | [d0, d1], _ => rfl
  · have hT : Tw false W := tw_of hsh (by kernel_rfl) hL (.tail _ (.tail _ (.head _))) (fun q => by cases q)
    rw [Tryd.params7] at hA
    obtain ⟨c0, r0, rfl, h0, hA⟩ := ArgsTy.cons hA
    obtain ⟨c1, r1, rfl, h1, hA⟩ := ArgsTy.cons hA
    obtain rfl := ArgsTy.nil hA
    obtain ⟨a0, rfl, _⟩ := ArgTy.str Tryd.underlying9 h0
    obtain ⟨m, rfl, _⟩ := ArgTy.int Tryd.underlying3 h1
    obtain ⟨n, hn⟩ := (awake36_ok false).one
    simp only [CRepT, CRep] at hR
    obtain ⟨v0, s0, rfl, rfl, v1, s1, rfl, rfl, rfl⟩ := hR
    exact nil_walk ⟨a0.toArray⟩ m W W W.heap.size (Below.refl _ _) (Nat.le_refl _) fun w' hb _ => Tryd.walk hn w' (Tw.below hT hb) M [] (by simp only [CRepT])
theorem journalNil_c1 : (Rows.journalNilRow.inPlace == Tryd.prog.inPlace 7) = true := by kernel_rfl
theorem journalNil_c2 : (Rows.journalNilRow.unfollowed == Tryd.prog.unfollowed 7) = true := by kernel_rfl
theorem journalNil_c3 : (Rows.journalNilRow.recurses == Tryd.prog.recurses 7) = true := by kernel_rfl
theorem journalNil_c4 : (Rows.journalNilRow.named == Tryd.prog.varsNamed 7) = true := by kernel_rfl
theorem journalNil_closed : joinedFacts Tryd.prog 7 Tryd.f7 Rows.journalNilSpec Rows.journalNilRow = true := by
  unfold joinedFacts
  simp only [Bool.and_eq_true]
  exact ⟨⟨⟨⟨⟨⟨⟨⟨⟨⟨⟨⟨⟨⟨⟨⟨⟨⟨⟨⟨⟨⟨⟨⟨⟨⟨⟨⟨⟨⟨⟨by kernel_rfl, laidOut⟩, sh_rowed⟩, by kernel_rfl⟩, by kernel_rfl⟩, rfl⟩, sh_stops⟩, rfl⟩, sh_knobs⟩, journalNil_c1⟩, journalNil_c2⟩, journalNil_c3⟩, journalNil_c4⟩, by kernel_rfl⟩, by kernel_rfl⟩, by kernel_rfl⟩, by kernel_rfl⟩, by kernel_rfl⟩, by kernel_rfl⟩, by kernel_rfl⟩, by kernel_rfl⟩, by kernel_rfl⟩, sh_keys⟩, rfl⟩, sh_heard⟩, sh_enter⟩, sh_lifted⟩, sh_make⟩, by kernel_rfl⟩, by kernel_rfl⟩, by kernel_rfl⟩, by kernel_rfl⟩
theorem journalNil_fn : Tryd.prog.funcNamed "airline/airlinelaw36.JournalNil" = some 7 := by kernel_rfl
theorem journalNil_goes : false = Rows.journalNilRow.goesBy Tryd.prog := by kernel_rfl
theorem journalNil_holds : Rows.JournalNilSaid :=
  OpenClaim.holds_of_wide 7 Tryd.f7 rfl rfl rfl rfl rfl rfl rfl ⟨rfl, rfl, rfl, rfl, rfl⟩ rfl rfl rfl rfl rfl journalNil_fn Tryd.func7 journalNil_closed
    (of_decide_eq_true (by kernel_rfl)) (by unfold Func.isWrapper; first | (rw [if_pos (by decide +kernel)]; kernel_rfl) | (rw [if_neg (by decide +kernel)]; exact ⟨rfl, rfl⟩))
    (fun os started H enc _ => journalNil_lifted os started H enc)
theorem JournalNilHolds : Rows.JournalNilCardSaid :=
  Claim7.holds_tied_plain_at .later [] [.data, .data, .data] true (true, "169db74cd3f551dd55bb08887a5c8c35f9aed73eef7fae6cc9707762c104c8e1") true
    journalNil_holds (fun _ h => by cases h) (by kernel_rfl) (fun _ h => by cases h) journalNil_row_tie rfl ⟨rfl, rfl⟩ sh_main rfl
    (fun f fn hf hfn => by
      obtain rfl : f = 7 := Option.some.inj (journalNil_fn.symm.trans hf) |>.symm
      obtain rfl : fn = Tryd.f7 := (Option.some.inj (Tryd.func7.symm.trans hfn)).symm
      exact ⟨sh_looks, fun j t ht => by
        rw [Tryd.params7] at ht
        have hm : t ∈ [9, 3] := by simpa using Array.mem_of_getElem? ht
        have hall : ([9, 3].all fun u => !Tryd.prog.wantsStandIn u) = true := by kernel_rfl
        exact (show Tryd.prog.wantsStandIn t = false by simpa using List.all_eq_true.1 hall t hm)⟩)
    journalNil_goes
end Go.Proofs.YtiffhngfneikoaaDoor
