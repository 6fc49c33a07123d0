/- The law BookingTexts holds of the program. Conditions: none beyond the given rows. -/
import Derived.Test.YtigmcfhmpcajlaaGreatDoorJd35
import Derived.Test.YtigmcfhmpcajlaaGreatDoorEB
import Derived.Test.YtigmcfhmpcajlaaGreatDoorTie
import Derived.Test.YtigmcfhmpcajlaaGreatDoorCards
import Derived.SevenTiedAt
namespace Go.Proofs.YtigmcfhmpcajlaaGreatDoor
open Go.ChangeShapes Go.WideShapes Go.ChangeAt Go.RowKit Go.Am
set_option maxRecDepth 100000 in
theorem Qmn (os : Os) (started : os.Started) (H : Type) (enc : TypeId × Value → H) :
  ReturnsInHanded {} Tryz.checked os 9 .any (fun w args => (Rows.bookingTextsSpec.pre enc Tryz.prog Tryz.f9 [] false w args ∧ laidMetH Tryz.prog Rows.bookingTextsRow.laid w) ∧ sizedMet enc Tryz.prog Tryz.f9 (OpenSpec.ofChange Rows.bookingTextsSpec) false w args)
   (Rows.bookingTextsSpec.post enc Tryz.prog Tryz.f9 false true false false) := by
 refine QwY (C := Tryz.checked) (tb := 4) (laid := Rows.bookingTextsRow.laid) Tryz.own started (by kernel_rfl) Tryz.func9
  (ChangeSpec.witness_shaped (enc := enc) (C := Tryz.checked) (os := os) (X := fun w _ => laidMetH Tryz.prog Rows.bookingTextsRow.laid w) false (World.laidAll Tryz.prog os Rows.bookingTextsRow.laid) #[.agg #[.string ⟨#[]⟩, .slice none 0 0, .int .i64 0, .slice none 0 0, .slice none 0 0, .int .i64 0]] 8 (World.laidAll_os _ _ _)
   (World.shaped_of_ZipB (by kernel_rfl) (by kernel_rfl)) (by kernel_rfl) (by kernel_rfl) (by kernel_rfl)
   (by rw [MakeChecks.laidMetH_plain _ _ _ (by kernel_rfl)]; exact laidMet_laidAll _ (by kernel_rfl) (by kernel_rfl)))
  Qvq (by kernel_rfl) (by kernel_rfl) (by kernel_rfl) Tryz.underlying4 rfl (fun ds hd => ?_) fun W M vs cs hsh hL hA hR => ?_
 ·match ds, hd with
  | [d0], _ => rfl
 ·have hT : Tw 1 W := QBj hsh (by kernel_rfl) hL (.tail _ (.tail _ (.head _))) (fun _ => ⟨.tail _ (.tail _ (.tail _ (.tail _ (.tail _ (.head _))))), .tail _ (.tail _ (.tail _ (.tail _ (.head _))))⟩)
  rw [Tryz.params9] at hA
  obtain ⟨c0, r0, rfl, h0, hA⟩ := ArgsTy.cons hA
  obtain rfl := ArgsTy.nil hA
  obtain ⟨a, rfl, ha⟩ := Qu1 h0
  obtain ⟨n, hn⟩ := (QqP a ⟨ha.lim, ha.grp, fun s hs => (ha.segs s hs).2, fun x hx => (ha.svs x hx).2⟩).one
  exact Tryz.walk hn W hT M vs hR
theorem Qqg : (Rows.bookingTextsRow.inPlace == Tryz.prog.inPlace 9) = true := by kernel_rfl
theorem Qp0 : (Rows.bookingTextsRow.unfollowed == Tryz.prog.unfollowed 9) = true := by kernel_rfl
theorem Qqo : (Rows.bookingTextsRow.recurses == Tryz.prog.recurses 9) = true := by kernel_rfl
theorem Qp2 : (Rows.bookingTextsRow.named == Tryz.prog.varsNamed 9) = true := by kernel_rfl
theorem Qmk : joinedFacts Tryz.prog 9 Tryz.f9 Rows.bookingTextsSpec Rows.bookingTextsRow = true := by
 unfold joinedFacts
 simp only [Bool.and_eq_true]
 exact ⟨⟨⟨⟨⟨⟨⟨⟨⟨⟨⟨⟨⟨⟨⟨⟨⟨⟨⟨⟨⟨⟨⟨⟨⟨⟨⟨⟨⟨⟨⟨by kernel_rfl, Qvq⟩, Qx6⟩, by kernel_rfl⟩, by kernel_rfl⟩, rfl⟩, QyF⟩, rfl⟩, QxU⟩, Qqg⟩, Qp0⟩, Qqo⟩, Qp2⟩, by kernel_rfl⟩, by kernel_rfl⟩, by kernel_rfl⟩, by kernel_rfl⟩, by kernel_rfl⟩, by kernel_rfl⟩, by kernel_rfl⟩, by kernel_rfl⟩, by kernel_rfl⟩, Qzj⟩, rfl⟩, QxG⟩, Qx0⟩, QwH⟩, Qzi⟩, by kernel_rfl⟩, by kernel_rfl⟩, by kernel_rfl⟩, by kernel_rfl⟩
theorem bookingTexts_fn : Tryz.prog.funcNamed "airline/airlinelaw35.BookingTexts" = some 9 := by kernel_rfl
theorem Qn7 : false = Rows.bookingTextsRow.goesBy Tryz.prog := by kernel_rfl
theorem QmN : Rows.BookingTextsSaid :=
 OpenClaim.holds_of_wide 9 Tryz.f9 rfl rfl rfl rfl rfl rfl rfl ⟨rfl, rfl, rfl, rfl, rfl⟩ rfl rfl rfl rfl rfl bookingTexts_fn Tryz.func9 Qmk
  (of_decide_eq_true (by kernel_rfl)) (by unfold Func.isWrapper; first | (rw [if_pos (by decide +kernel)]; kernel_rfl) | (rw [if_neg (by decide +kernel)]; exact ⟨rfl, rfl⟩))
  (fun os started H enc _ => Qmn os started H enc)
theorem BookingTextsHolds : Rows.BookingTextsCardSaid :=
 Claim7.holds_tied_plain_at .later [] [.data, .data, .data, .data, .sentinel, .sentinel, .pinned] true (true, "c79a00f04bf7c5b077a218d23585edd8296ddf2471633b0b5a43e815602e44d2") true
  QmN (fun _ h => by cases h) (by kernel_rfl) (fun _ h => by cases h) bookingTexts_row_tie rfl ⟨rfl, rfl⟩ QzA rfl
  (fun f fn hf hfn => by
   obtain rfl : f = 9 := Option.some.inj (bookingTexts_fn.symm.trans hf) |>.symm
   obtain rfl : fn = Tryz.f9 := (Option.some.inj (Tryz.func9.symm.trans hfn)).symm
   exact ⟨Qye, fun j t ht => by
    rw [Tryz.params9] at ht
    have hm : t ∈ [26] := by simpa using Array.mem_of_getElem? ht
    have hall : ([26].all fun u => !Tryz.prog.wantsStandIn u) = true := by kernel_rfl
    exact (show Tryz.prog.wantsStandIn t = false by simpa using List.all_eq_true.1 hall t hm)⟩)
  Qn7
end Go.Proofs.YtigmcfhmpcajlaaGreatDoor
