/- The law BookingMarried holds of the program. Conditions: none beyond the given rows. -/
import Derived.Test.YtigmcfhmpcajlaaGreatDoorJd35m
import Derived.Test.YtigmcfhmpcajlaaGreatDoorTie
import Derived.Test.YtigmcfhmpcajlaaGreatDoorCards
import Derived.SevenTiedAt
namespace Go.Proofs.YtigmcfhmpcajlaaGreatDoor
open Go.ChangeShapes Go.WideShapes Go.ChangeAt Go.RowKit Go.Am
set_option maxRecDepth 100000 in
theorem QjW (os : Os) (started : os.Started) (H : Type) (enc : TypeId × Value → H) :
  ReturnsInHanded {} Tryz.checked os 6 .any (fun w args => (Rows.bookingMarriedSpec.pre enc Tryz.prog Tryz.f6 [] false w args ∧ laidMetH Tryz.prog Rows.bookingMarriedRow.laid w) ∧ sizedMet enc Tryz.prog Tryz.f6 (OpenSpec.ofChange Rows.bookingMarriedSpec) false w args)
   (Rows.bookingMarriedSpec.post enc Tryz.prog Tryz.f6 false true false false) := by
 refine Qux (C := Tryz.checked) (tb := 4) (laid := Rows.bookingMarriedRow.laid) Tryz.own started (by kernel_rfl) Tryz.func6
  (ChangeSpec.witness_shaped (enc := enc) (C := Tryz.checked) (os := os) (X := fun w _ => laidMetH Tryz.prog Rows.bookingMarriedRow.laid w) false (World.laidAll Tryz.prog os Rows.bookingMarriedRow.laid) #[.agg #[.string ⟨#[]⟩, .slice none 0 0, .int .i64 0, .slice none 0 0, .slice none 0 0, .int .i64 0], .slice none 0 0] 8 (World.laidAll_os _ _ _)
   (World.shaped_of_ZipB (by kernel_rfl) (by kernel_rfl)) (by kernel_rfl) (by kernel_rfl) (by kernel_rfl)
   (by rw [MakeChecks.laidMetH_plain _ _ _ (by kernel_rfl)]; exact laidMet_laidAll _ (by kernel_rfl) (by kernel_rfl)))
  Qtk (by kernel_rfl) (by kernel_rfl) (by kernel_rfl) Tryz.underlying4 rfl (fun ds hd => ?_) fun W M vs cs hsh hL hA hR => ?_
 ·match ds, hd with
  | [d0, d1], _ => rfl
 ·have hT : Tw 1 W := Qx7 hsh (by kernel_rfl) hL (.tail _ (.tail _ (.head _))) (fun _ => ⟨.tail _ (.tail _ (.tail _ (.tail _ (.tail _ (.head _))))), .tail _ (.tail _ (.tail _ (.tail _ (.head _))))⟩)
  rw [Tryz.params6] at hA
  obtain ⟨c0, r0, rfl, h0, hA⟩ := ArgsTy.cons hA
  obtain ⟨c1, r1, rfl, h1, hA⟩ := ArgsTy.cons hA
  obtain rfl := ArgsTy.nil hA
  obtain ⟨a, rfl, ha⟩ := QsG h0
  obtain ⟨an, acts, rfl, hu⟩ := Qvd h1
  obtain ⟨n, hn⟩ := (Qm9 a ha.bn an acts hu).one
  exact Tryz.walk hn W hT M vs hR
theorem QmZ : (Rows.bookingMarriedRow.inPlace == Tryz.prog.inPlace 6) = true := by kernel_rfl
theorem Qm1 : (Rows.bookingMarriedRow.unfollowed == Tryz.prog.unfollowed 6) = true := by kernel_rfl
theorem QmW : (Rows.bookingMarriedRow.recurses == Tryz.prog.recurses 6) = true := by kernel_rfl
theorem QmL : (Rows.bookingMarriedRow.named == Tryz.prog.varsNamed 6) = true := by kernel_rfl
theorem QjK : joinedFacts Tryz.prog 6 Tryz.f6 Rows.bookingMarriedSpec Rows.bookingMarriedRow = true := by
 unfold joinedFacts
 simp only [Bool.and_eq_true]
 exact ⟨⟨⟨⟨⟨⟨⟨⟨⟨⟨⟨⟨⟨⟨⟨⟨⟨⟨⟨⟨⟨⟨⟨⟨⟨⟨⟨⟨⟨⟨⟨by kernel_rfl, Qtk⟩, Qve⟩, by kernel_rfl⟩, by kernel_rfl⟩, rfl⟩, QvH⟩, rfl⟩, Qvh⟩, QmZ⟩, Qm1⟩, QmW⟩, QmL⟩, by kernel_rfl⟩, by kernel_rfl⟩, by kernel_rfl⟩, by kernel_rfl⟩, by kernel_rfl⟩, by kernel_rfl⟩, by kernel_rfl⟩, by kernel_rfl⟩, by kernel_rfl⟩, Qwz⟩, rfl⟩, Qvp⟩, QvA⟩, QuY⟩, Qwi⟩, by kernel_rfl⟩, by kernel_rfl⟩, by kernel_rfl⟩, by kernel_rfl⟩
theorem bookingMarried_fn : Tryz.prog.funcNamed "airline/airlinelaw35.BookingMarried" = some 6 := by kernel_rfl
theorem Qlx : false = Rows.bookingMarriedRow.goesBy Tryz.prog := by kernel_rfl
theorem Qkl : Rows.BookingMarriedSaid :=
 OpenClaim.holds_of_wide 6 Tryz.f6 rfl rfl rfl rfl rfl rfl rfl ⟨rfl, rfl, rfl, rfl, rfl⟩ rfl rfl rfl rfl rfl bookingMarried_fn Tryz.func6 QjK
  (of_decide_eq_true (by kernel_rfl)) (by unfold Func.isWrapper; first | (rw [if_pos (by decide +kernel)]; kernel_rfl) | (rw [if_neg (by decide +kernel)]; exact ⟨rfl, rfl⟩))
  (fun os started H enc _ => QjW os started H enc)
theorem BookingMarriedHolds : Rows.BookingMarriedCardSaid :=
 Claim7.holds_tied_plain_at .later [] [.data, .data, .data, .data, .sentinel, .sentinel, .pinned] true (true, "c79a00f04bf7c5b077a218d23585edd8296ddf2471633b0b5a43e815602e44d2") true
  Qkl (fun _ h => by cases h) (by kernel_rfl) (fun _ h => by cases h) bookingMarried_row_tie rfl ⟨rfl, rfl⟩ Qwg rfl
  (fun f fn hf hfn => by
   obtain rfl : f = 6 := Option.some.inj (bookingMarried_fn.symm.trans hf) |>.symm
   obtain rfl : fn = Tryz.f6 := (Option.some.inj (Tryz.func6.symm.trans hfn)).symm
   exact ⟨Qva, fun j t ht => by
    rw [Tryz.params6] at ht
    have hm : t ∈ [26, 47] := by simpa using Array.mem_of_getElem? ht
    have hall : ([26, 47].all fun u => !Tryz.prog.wantsStandIn u) = true := by kernel_rfl
    exact (show Tryz.prog.wantsStandIn t = false by simpa using List.all_eq_true.1 hall t hm)⟩)
  Qlx
end Go.Proofs.YtigmcfhmpcajlaaGreatDoor
