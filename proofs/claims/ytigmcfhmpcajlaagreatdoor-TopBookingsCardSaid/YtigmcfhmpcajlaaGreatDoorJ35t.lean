/- The law TopBookings holds of the program. Conditions: none beyond the given rows. -/
import Derived.Test.YtigmcfhmpcajlaaGreatDoorJd35
import Derived.Test.YtigmcfhmpcajlaaGreatDoorBo
import Derived.Test.YtigmcfhmpcajlaaGreatDoorTie
import Derived.Test.YtigmcfhmpcajlaaGreatDoorCards
import Derived.SevenTiedAt
namespace Go.Proofs.YtigmcfhmpcajlaaGreatDoor
open Go.ChangeShapes Go.WideShapes Go.ChangeAt Go.RowKit Go.Am
set_option maxRecDepth 100000 in
theorem QiS (os : Os) (started : os.Started) (H : Type) (enc : TypeId × Value → H) :
  ReturnsInHanded {} Tryz.checked os 3 .any (fun w args => (Rows.topBookingsSpec.pre enc Tryz.prog Tryz.f3 [] false w args ∧ laidMetH Tryz.prog Rows.topBookingsRow.laid w) ∧ sizedMet enc Tryz.prog Tryz.f3 (OpenSpec.ofChange Rows.topBookingsSpec) false w args)
   (Rows.topBookingsSpec.post enc Tryz.prog Tryz.f3 false true false false) := by
 refine QpD (C := Tryz.checked) (tb := 4) (laid := Rows.topBookingsRow.laid) Tryz.own started (by kernel_rfl) Tryz.func3
  (ChangeSpec.witness_shaped (enc := enc) (C := Tryz.checked) (os := os) (X := fun w _ => laidMetH Tryz.prog Rows.topBookingsRow.laid w) false (World.laidAll Tryz.prog os Rows.topBookingsRow.laid) #[.agg #[.string ⟨#[]⟩, .slice none 0 0, .int .i64 0, .slice none 0 0, .slice none 0 0, .int .i64 0], .slice none 0 0, .slice none 0 0] 8 (World.laidAll_os _ _ _)
   (World.shaped_of_ZipB (by kernel_rfl) (by kernel_rfl)) (by kernel_rfl) (by kernel_rfl) (by kernel_rfl)
   (by rw [MakeChecks.laidMetH_plain _ _ _ (by kernel_rfl)]; exact laidMet_laidAll _ (by kernel_rfl) (by kernel_rfl)))
  QoK (by kernel_rfl) (by kernel_rfl) (by kernel_rfl) Tryz.underlying4 rfl (fun ds hd => ?_) fun W M vs cs hsh hL hA hR => ?_
 ·match ds, hd with
  | [d0, d1, d2], _ => rfl
 ·have hT : Tw 0 W := Qr7 hsh (by kernel_rfl) hL (.tail _ (.tail _ (.tail _ (.head _)))) (.head _) (fun q => absurd q (by decide))
  rw [Tryz.params3] at hA
  obtain ⟨c0, r0, rfl, h0, hA⟩ := ArgsTy.cons hA
  obtain ⟨c1, r1, rfl, h1, hA⟩ := ArgsTy.cons hA
  obtain ⟨c2, r2, rfl, h2, hA⟩ := ArgsTy.cons hA
  obtain rfl := ArgsTy.nil hA
  obtain ⟨b, rfl, hb⟩ := Qn5 h0
  obtain ⟨an, ats, rfl, _⟩ := QnL h1
  obtain ⟨cn, evs, rfl, _⟩ := QnL h2
  obtain ⟨n, hn⟩ := (QlU b.loc b.pn b.ps b.grp b.bn b.segs b.rn b.svs b.lim an ats cn evs hb.loc hb.ps hb.bn (fun s hs => (hb.segs s hs).1) (fun x hx => (hb.svs x hx).1)).one
  exact Tryz.walk hn W hT M vs hR
theorem QlV : (Rows.topBookingsRow.inPlace == Tryz.prog.inPlace 3) = true := by kernel_rfl
theorem QlB : (Rows.topBookingsRow.unfollowed == Tryz.prog.unfollowed 3) = true := by kernel_rfl
theorem Qmc : (Rows.topBookingsRow.recurses == Tryz.prog.recurses 3) = true := by kernel_rfl
theorem QlC : (Rows.topBookingsRow.named == Tryz.prog.varsNamed 3) = true := by kernel_rfl
theorem Qjn : joinedFacts Tryz.prog 3 Tryz.f3 Rows.topBookingsSpec Rows.topBookingsRow = true := by
 unfold joinedFacts
 simp only [Bool.and_eq_true]
 exact ⟨⟨⟨⟨⟨⟨⟨⟨⟨⟨⟨⟨⟨⟨⟨⟨⟨⟨⟨⟨⟨⟨⟨⟨⟨⟨⟨⟨⟨⟨⟨by kernel_rfl, QoK⟩, QqM⟩, by kernel_rfl⟩, by kernel_rfl⟩, rfl⟩, Qqp⟩, rfl⟩, Qqx⟩, QlV⟩, QlB⟩, Qmc⟩, QlC⟩, by kernel_rfl⟩, by kernel_rfl⟩, by kernel_rfl⟩, by kernel_rfl⟩, by kernel_rfl⟩, by kernel_rfl⟩, by kernel_rfl⟩, by kernel_rfl⟩, by kernel_rfl⟩, QrA⟩, rfl⟩, Qqo⟩, Qqq⟩, QpG⟩, Qrl⟩, by kernel_rfl⟩, by kernel_rfl⟩, by kernel_rfl⟩, by kernel_rfl⟩
theorem topBookings_fn : Tryz.prog.funcNamed "airline/airlinetop.TopBookings" = some 3 := by kernel_rfl
theorem QkJ : false = Rows.topBookingsRow.goesBy Tryz.prog := by kernel_rfl
theorem Qj0 : Rows.TopBookingsSaid :=
 OpenClaim.holds_of_wide 3 Tryz.f3 rfl rfl rfl rfl rfl rfl rfl ⟨rfl, rfl, rfl, rfl, rfl⟩ rfl rfl rfl rfl rfl topBookings_fn Tryz.func3 Qjn
  (of_decide_eq_true (by kernel_rfl)) (by unfold Func.isWrapper; first | (rw [if_pos (by decide +kernel)]; kernel_rfl) | (rw [if_neg (by decide +kernel)]; exact ⟨rfl, rfl⟩))
  (fun os started H enc _ => QiS os started H enc)
theorem TopBookingsHolds : Rows.TopBookingsCardSaid :=
 Claim7.holds_tied_plain_at .later [] [.data, .data, .data, .data, .data, .pinned] true (true, "c79a00f04bf7c5b077a218d23585edd8296ddf2471633b0b5a43e815602e44d2") true
  Qj0 (fun _ h => by cases h) (by kernel_rfl) (fun _ h => by cases h) topBookings_row_tie rfl ⟨rfl, rfl⟩ Qrm rfl
  (fun f fn hf hfn => by
   obtain rfl : f = 3 := Option.some.inj (topBookings_fn.symm.trans hf) |>.symm
   obtain rfl : fn = Tryz.f3 := (Option.some.inj (Tryz.func3.symm.trans hfn)).symm
   exact ⟨Qqs, fun j t ht => by
    rw [Tryz.params3] at ht
    have hm : t ∈ [26, 27, 27] := by simpa using Array.mem_of_getElem? ht
    have hall : ([26, 27, 27].all fun u => !Tryz.prog.wantsStandIn u) = true := by kernel_rfl
    exact (show Tryz.prog.wantsStandIn t = false by simpa using List.all_eq_true.1 hall t hm)⟩)
  QkJ
end Go.Proofs.YtigmcfhmpcajlaaGreatDoor
