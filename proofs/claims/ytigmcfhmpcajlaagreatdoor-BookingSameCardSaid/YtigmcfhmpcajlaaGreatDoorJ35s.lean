/- The law BookingSame holds of the program. Conditions: none beyond the given rows. -/
import Derived.Test.YtigmcfhmpcajlaaGreatDoorJd35
import Derived.Test.YtigmcfhmpcajlaaGreatDoorCs1
import Derived.Test.YtigmcfhmpcajlaaGreatDoorTie
import Derived.Test.YtigmcfhmpcajlaaGreatDoorCards
import Derived.SevenTiedAt
namespace Go.Proofs.YtigmcfhmpcajlaaGreatDoor
open Go.ChangeShapes Go.WideShapes Go.ChangeAt Go.RowKit Go.Am
set_option maxRecDepth 100000 in
theorem Qhw (os : Os) (started : os.Started) (H : Type) (enc : TypeId × Value → H) :
  ReturnsInHanded {} Tryz.checked os 8 .any (fun w args => (Rows.bookingSameSpec.pre enc Tryz.prog Tryz.f8 [] false w args ∧ laidMetH Tryz.prog Rows.bookingSameRow.laid w) ∧ sizedMet enc Tryz.prog Tryz.f8 (OpenSpec.ofChange Rows.bookingSameSpec) false w args)
   (Rows.bookingSameSpec.post enc Tryz.prog Tryz.f8 false true false false) := by
 refine Qnj (C := Tryz.checked) (tb := 4) (laid := Rows.bookingSameRow.laid) Tryz.own started (by kernel_rfl) Tryz.func8
  (ChangeSpec.witness_shaped (enc := enc) (C := Tryz.checked) (os := os) (X := fun w _ => laidMetH Tryz.prog Rows.bookingSameRow.laid w) false (World.laidAll Tryz.prog os Rows.bookingSameRow.laid) #[.agg #[.string ⟨#[]⟩, .slice none 0 0, .int .i64 0, .slice none 0 0, .slice none 0 0, .int .i64 0], .agg #[.string ⟨#[]⟩, .slice none 0 0, .int .i64 0, .slice none 0 0, .slice none 0 0, .int .i64 0]] 8 (World.laidAll_os _ _ _)
   (World.shaped_of_ZipB (by kernel_rfl) (by kernel_rfl)) (by kernel_rfl) (by kernel_rfl) (by kernel_rfl)
   (by rw [MakeChecks.laidMetH_plain _ _ _ (by kernel_rfl)]; exact laidMet_laidAll _ (by kernel_rfl) (by kernel_rfl)))
  Qmc (by kernel_rfl) (by kernel_rfl) (by kernel_rfl) Tryz.underlying4 rfl (fun ds hd => ?_) fun W M vs cs hsh hL hA hR => ?_
 ·match ds, hd with
  | [d0, d1], _ => rfl
 ·have hT : Tw 1 W := Qp0 hsh (by kernel_rfl) hL (.tail _ (.tail _ (.head _))) (fun _ => ⟨.tail _ (.tail _ (.tail _ (.tail _ (.tail _ (.head _))))), .tail _ (.tail _ (.tail _ (.tail _ (.head _))))⟩)
  rw [Tryz.params8] at hA
  obtain ⟨c0, r0, rfl, h0, hA⟩ := ArgsTy.cons hA
  obtain ⟨c1, r1, rfl, h1, hA⟩ := ArgsTy.cons hA
  obtain rfl := ArgsTy.nil hA
  obtain ⟨a, rfl, ha⟩ := QhQ h0
  obtain ⟨b, rfl, hb⟩ := QhQ h1
  obtain ⟨n, hn⟩ := (QjJ a b).one
  exact Tryz.walk hn W hT M vs hR
theorem QjQ : (Rows.bookingSameRow.inPlace == Tryz.prog.inPlace 8) = true := by kernel_rfl
theorem Qjt : (Rows.bookingSameRow.unfollowed == Tryz.prog.unfollowed 8) = true := by kernel_rfl
theorem QjO : (Rows.bookingSameRow.recurses == Tryz.prog.recurses 8) = true := by kernel_rfl
theorem QjV : (Rows.bookingSameRow.named == Tryz.prog.varsNamed 8) = true := by kernel_rfl
theorem Qhh : joinedFacts Tryz.prog 8 Tryz.f8 Rows.bookingSameSpec Rows.bookingSameRow = true := by
 unfold joinedFacts
 simp only [Bool.and_eq_true]
 exact ⟨⟨⟨⟨⟨⟨⟨⟨⟨⟨⟨⟨⟨⟨⟨⟨⟨⟨⟨⟨⟨⟨⟨⟨⟨⟨⟨⟨⟨⟨⟨by kernel_rfl, Qmc⟩, QnP⟩, by kernel_rfl⟩, by kernel_rfl⟩, rfl⟩, Qod⟩, rfl⟩, Qoh⟩, QjQ⟩, Qjt⟩, QjO⟩, QjV⟩, by kernel_rfl⟩, by kernel_rfl⟩, by kernel_rfl⟩, by kernel_rfl⟩, by kernel_rfl⟩, by kernel_rfl⟩, by kernel_rfl⟩, by kernel_rfl⟩, by kernel_rfl⟩, QoN⟩, rfl⟩, QnV⟩, Qof⟩, Qnl⟩, Qo6⟩, by kernel_rfl⟩, by kernel_rfl⟩, by kernel_rfl⟩, by kernel_rfl⟩
theorem bookingSame_fn : Tryz.prog.funcNamed "airline/airlinelaw35.BookingSame" = some 8 := by kernel_rfl
theorem Qik : false = Rows.bookingSameRow.goesBy Tryz.prog := by kernel_rfl
theorem QhN : Rows.BookingSameSaid :=
 OpenClaim.holds_of_wide 8 Tryz.f8 rfl rfl rfl rfl rfl rfl rfl ⟨rfl, rfl, rfl, rfl, rfl⟩ rfl rfl rfl rfl rfl bookingSame_fn Tryz.func8 Qhh
  (of_decide_eq_true (by kernel_rfl)) (by unfold Func.isWrapper; first | (rw [if_pos (by decide +kernel)]; kernel_rfl) | (rw [if_neg (by decide +kernel)]; exact ⟨rfl, rfl⟩))
  (fun os started H enc _ => Qhw os started H enc)
theorem BookingSameHolds : Rows.BookingSameCardSaid :=
 Claim7.holds_tied_plain_at .later [] [.data, .data, .data, .data, .sentinel, .sentinel, .pinned] true (true, "c79a00f04bf7c5b077a218d23585edd8296ddf2471633b0b5a43e815602e44d2") true
  QhN (fun _ h => by cases h) (by kernel_rfl) (fun _ h => by cases h) bookingSame_row_tie rfl ⟨rfl, rfl⟩ QoZ rfl
  (fun f fn hf hfn => by
   obtain rfl : f = 8 := Option.some.inj (bookingSame_fn.symm.trans hf) |>.symm
   obtain rfl : fn = Tryz.f8 := (Option.some.inj (Tryz.func8.symm.trans hfn)).symm
   exact ⟨QnT, fun j t ht => by
    rw [Tryz.params8] at ht
    have hm : t ∈ [26, 26] := by simpa using Array.mem_of_getElem? ht
    have hall : ([26, 26].all fun u => !Tryz.prog.wantsStandIn u) = true := by kernel_rfl
    exact (show Tryz.prog.wantsStandIn t = false by simpa using List.all_eq_true.1 hall t hm)⟩)
  Qik
end Go.Proofs.YtigmcfhmpcajlaaGreatDoor
