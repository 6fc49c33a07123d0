/- The law BookingDivides holds of the program. Conditions: none beyond the given rows. -/
import Derived.Test.YtigmcfhmpcajlaaGreatDoorJd35
import Derived.Test.YtigmcfhmpcajlaaGreatDoorDA
import Derived.Test.YtigmcfhmpcajlaaGreatDoorTie
import Derived.Test.YtigmcfhmpcajlaaGreatDoorCards
import Derived.SevenTiedAt
namespace Go.Proofs.YtigmcfhmpcajlaaGreatDoor
open Go.ChangeShapes Go.WideShapes Go.ChangeAt Go.RowKit Go.Am
set_option maxRecDepth 100000 in
theorem Qkg (os : Os) (started : os.Started) (H : Type) (enc : TypeId × Value → H) :
  ReturnsInHanded {} Tryz.checked os 7 .any (fun w args => (Rows.bookingDividesSpec.pre enc Tryz.prog Tryz.f7 [] false w args ∧ laidMetH Tryz.prog Rows.bookingDividesRow.laid w) ∧ sizedMet enc Tryz.prog Tryz.f7 (OpenSpec.ofChange Rows.bookingDividesSpec) false w args)
   (Rows.bookingDividesSpec.post enc Tryz.prog Tryz.f7 false true false false) := by
 refine Qvd (C := Tryz.checked) (tb := 4) (laid := Rows.bookingDividesRow.laid) Tryz.own started (by kernel_rfl) Tryz.func7
  (ChangeSpec.witness_shaped (enc := enc) (C := Tryz.checked) (os := os) (X := fun w _ => laidMetH Tryz.prog Rows.bookingDividesRow.laid w) false (World.laidAll Tryz.prog os Rows.bookingDividesRow.laid) #[.agg #[.string ⟨#[]⟩, .slice none 0 0, .int .i64 0, .slice none 0 0, .slice none 0 0, .int .i64 0], .slice none 0 0, .string ⟨#[]⟩] 8 (World.laidAll_os _ _ _)
   (World.shaped_of_ZipB (by kernel_rfl) (by kernel_rfl)) (by kernel_rfl) (by kernel_rfl) (by kernel_rfl)
   (by rw [MakeChecks.laidMetH_plain _ _ _ (by kernel_rfl)]; exact laidMet_laidAll _ (by kernel_rfl) (by kernel_rfl)))
  QtP (by kernel_rfl) (by kernel_rfl) (by kernel_rfl) Tryz.underlying4 rfl (fun ds hd => ?_) fun W M vs cs hsh hL hA hR => ?_
 ·match ds, hd with
  | [d0, d1, d2], _ => rfl
 ·have hT : Tw 1 W := Qym hsh (by kernel_rfl) hL (.tail _ (.tail _ (.head _))) (fun _ => ⟨.tail _ (.tail _ (.tail _ (.tail _ (.tail _ (.head _))))), .tail _ (.tail _ (.tail _ (.tail _ (.head _))))⟩)
  rw [Tryz.params7] at hA
  obtain ⟨c0, r0, rfl, h0, hA⟩ := ArgsTy.cons hA
  obtain ⟨c1, r1, rfl, h1, hA⟩ := ArgsTy.cons hA
  obtain ⟨c2, r2, rfl, h2, hA⟩ := ArgsTy.cons hA
  obtain rfl := ArgsTy.nil hA
  obtain ⟨a, rfl, ha⟩ := Qs8 h0
  obtain ⟨bn, at', rfl, _⟩ := Qv3 h1
  obtain ⟨name, rfl, hname⟩ := ArgTy.str Tryz.underlying9 h2
  obtain ⟨n, hn⟩ := (Qnb a bn at' name (Nat.le_trans hname QgM)).one
  exact Tryz.walk hn W hT M vs hR
theorem Qnk : (Rows.bookingDividesRow.inPlace == Tryz.prog.inPlace 7) = true := by kernel_rfl
theorem QmY : (Rows.bookingDividesRow.unfollowed == Tryz.prog.unfollowed 7) = true := by kernel_rfl
theorem QmW : (Rows.bookingDividesRow.recurses == Tryz.prog.recurses 7) = true := by kernel_rfl
theorem Qm2 : (Rows.bookingDividesRow.named == Tryz.prog.varsNamed 7) = true := by kernel_rfl
theorem Qkn : joinedFacts Tryz.prog 7 Tryz.f7 Rows.bookingDividesSpec Rows.bookingDividesRow = true := by
 unfold joinedFacts
 simp only [Bool.and_eq_true]
 exact ⟨⟨⟨⟨⟨⟨⟨⟨⟨⟨⟨⟨⟨⟨⟨⟨⟨⟨⟨⟨⟨⟨⟨⟨⟨⟨⟨⟨⟨⟨⟨by kernel_rfl, QtP⟩, QvO⟩, by kernel_rfl⟩, by kernel_rfl⟩, rfl⟩, Qv8⟩, rfl⟩, Qv6⟩, Qnk⟩, QmY⟩, QmW⟩, Qm2⟩, by kernel_rfl⟩, by kernel_rfl⟩, by kernel_rfl⟩, by kernel_rfl⟩, by kernel_rfl⟩, by kernel_rfl⟩, by kernel_rfl⟩, by kernel_rfl⟩, by kernel_rfl⟩, Qw0⟩, rfl⟩, Qwh⟩, QvY⟩, Qvo⟩, Qxb⟩, by kernel_rfl⟩, by kernel_rfl⟩, by kernel_rfl⟩, by kernel_rfl⟩
theorem bookingDivides_fn : Tryz.prog.funcNamed "airline/airlinelaw35.BookingDivides" = some 7 := by kernel_rfl
theorem QlC : false = Rows.bookingDividesRow.goesBy Tryz.prog := by kernel_rfl
theorem QkJ : Rows.BookingDividesSaid :=
 OpenClaim.holds_of_wide 7 Tryz.f7 rfl rfl rfl rfl rfl rfl rfl ⟨rfl, rfl, rfl, rfl, rfl⟩ rfl rfl rfl rfl rfl bookingDivides_fn Tryz.func7 Qkn
  (of_decide_eq_true (by kernel_rfl)) (by unfold Func.isWrapper; first | (rw [if_pos (by decide +kernel)]; kernel_rfl) | (rw [if_neg (by decide +kernel)]; exact ⟨rfl, rfl⟩))
  (fun os started H enc _ => Qkg os started H enc)
theorem BookingDividesHolds : Rows.BookingDividesCardSaid :=
 Claim7.holds_tied_plain_at .later [] [.data, .data, .data, .data, .sentinel, .sentinel, .pinned] true (true, "c79a00f04bf7c5b077a218d23585edd8296ddf2471633b0b5a43e815602e44d2") true
  QkJ (fun _ h => by cases h) (by kernel_rfl) (fun _ h => by cases h) bookingDivides_row_tie rfl ⟨rfl, rfl⟩ QwY rfl
  (fun f fn hf hfn => by
   obtain rfl : f = 7 := Option.some.inj (bookingDivides_fn.symm.trans hf) |>.symm
   obtain rfl : fn = Tryz.f7 := (Option.some.inj (Tryz.func7.symm.trans hfn)).symm
   exact ⟨QvD, fun j t ht => by
    rw [Tryz.params7] at ht
    have hm : t ∈ [26, 27, 9] := by simpa using Array.mem_of_getElem? ht
    have hall : ([26, 27, 9].all fun u => !Tryz.prog.wantsStandIn u) = true := by kernel_rfl
    exact (show Tryz.prog.wantsStandIn t = false by simpa using List.all_eq_true.1 hall t hm)⟩)
  QlC
end Go.Proofs.YtigmcfhmpcajlaaGreatDoor
