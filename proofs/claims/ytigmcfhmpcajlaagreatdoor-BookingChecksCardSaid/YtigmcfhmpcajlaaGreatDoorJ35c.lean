/- The law BookingChecks holds of the program. Conditions: none beyond the given rows. -/
import Derived.Test.YtigmcfhmpcajlaaGreatDoorJd35
import Derived.Test.YtigmcfhmpcajlaaGreatDoorCc1
import Derived.Test.YtigmcfhmpcajlaaGreatDoorTie
import Derived.Test.YtigmcfhmpcajlaaGreatDoorCards
import Derived.SevenTiedAt
namespace Go.Proofs.YtigmcfhmpcajlaaGreatDoor
open Go.ChangeShapes Go.WideShapes Go.ChangeAt Go.RowKit Go.Am
set_option maxRecDepth 100000 in
theorem Qi2 (os : Os) (started : os.Started) (H : Type) (enc : TypeId × Value → H) :
  ReturnsInHanded {} Tryz.checked os 4 .any (fun w args => (Rows.bookingChecksSpec.pre enc Tryz.prog Tryz.f4 [] false w args ∧ laidMetH Tryz.prog Rows.bookingChecksRow.laid w) ∧ sizedMet enc Tryz.prog Tryz.f4 (OpenSpec.ofChange Rows.bookingChecksSpec) false w args)
   (Rows.bookingChecksSpec.post enc Tryz.prog Tryz.f4 false true false false) := by
 refine Qsb (C := Tryz.checked) (tb := 4) (laid := Rows.bookingChecksRow.laid) Tryz.own started (by kernel_rfl) Tryz.func4
  (ChangeSpec.witness_shaped (enc := enc) (C := Tryz.checked) (os := os) (X := fun w _ => laidMetH Tryz.prog Rows.bookingChecksRow.laid w) false (World.laidAll Tryz.prog os Rows.bookingChecksRow.laid) #[.agg #[.string ⟨#[]⟩, .slice none 0 0, .int .i64 0, .slice none 0 0, .slice none 0 0, .int .i64 0]] 8 (World.laidAll_os _ _ _)
   (World.shaped_of_ZipB (by kernel_rfl) (by kernel_rfl)) (by kernel_rfl) (by kernel_rfl) (by kernel_rfl)
   (by rw [MakeChecks.laidMetH_plain _ _ _ (by kernel_rfl)]; exact laidMet_laidAll _ (by kernel_rfl) (by kernel_rfl)))
  Qri (by kernel_rfl) (by kernel_rfl) (by kernel_rfl) Tryz.underlying4 rfl (fun ds hd => ?_) fun W M vs cs hsh hL hA hR => ?_
 ·match ds, hd with
  | [d0], _ => rfl
 ·have hT : Tw 1 W := QvG hsh (by kernel_rfl) hL (.tail _ (.tail _ (.head _))) (fun _ => ⟨.tail _ (.tail _ (.tail _ (.tail _ (.tail _ (.head _))))), .tail _ (.tail _ (.tail _ (.tail _ (.head _))))⟩)
  rw [Tryz.params4] at hA
  obtain ⟨c0, r0, rfl, h0, hA⟩ := ArgsTy.cons hA
  obtain rfl := ArgsTy.nil hA
  obtain ⟨a, rfl, ha⟩ := QqN h0
  obtain ⟨n, hn⟩ := (Qmp a).one
  exact Tryz.walk hn W hT M vs hR
theorem Qmn : (Rows.bookingChecksRow.inPlace == Tryz.prog.inPlace 4) = true := by kernel_rfl
theorem Ql6 : (Rows.bookingChecksRow.unfollowed == Tryz.prog.unfollowed 4) = true := by kernel_rfl
theorem Ql3 : (Rows.bookingChecksRow.recurses == Tryz.prog.recurses 4) = true := by kernel_rfl
theorem Qmm : (Rows.bookingChecksRow.named == Tryz.prog.varsNamed 4) = true := by kernel_rfl
theorem QiV : joinedFacts Tryz.prog 4 Tryz.f4 Rows.bookingChecksSpec Rows.bookingChecksRow = true := by
 unfold joinedFacts
 simp only [Bool.and_eq_true]
 exact ⟨⟨⟨⟨⟨⟨⟨⟨⟨⟨⟨⟨⟨⟨⟨⟨⟨⟨⟨⟨⟨⟨⟨⟨⟨⟨⟨⟨⟨⟨⟨by kernel_rfl, Qri⟩, Qtd⟩, by kernel_rfl⟩, by kernel_rfl⟩, rfl⟩, QsY⟩, rfl⟩, QsO⟩, Qmn⟩, Ql6⟩, Ql3⟩, Qmm⟩, by kernel_rfl⟩, by kernel_rfl⟩, by kernel_rfl⟩, by kernel_rfl⟩, by kernel_rfl⟩, by kernel_rfl⟩, by kernel_rfl⟩, by kernel_rfl⟩, by kernel_rfl⟩, Quf⟩, rfl⟩, Qtn⟩, Qs9⟩, Qst⟩, QtN⟩, by kernel_rfl⟩, by kernel_rfl⟩, by kernel_rfl⟩, by kernel_rfl⟩
theorem bookingChecks_fn : Tryz.prog.funcNamed "airline/airlinelaw35.BookingChecks" = some 4 := by kernel_rfl
theorem Qky : false = Rows.bookingChecksRow.goesBy Tryz.prog := by kernel_rfl
theorem QjZ : Rows.BookingChecksSaid :=
 OpenClaim.holds_of_wide 4 Tryz.f4 rfl rfl rfl rfl rfl rfl rfl ⟨rfl, rfl, rfl, rfl, rfl⟩ rfl rfl rfl rfl rfl bookingChecks_fn Tryz.func4 QiV
  (of_decide_eq_true (by kernel_rfl)) (by unfold Func.isWrapper; first | (rw [if_pos (by decide +kernel)]; kernel_rfl) | (rw [if_neg (by decide +kernel)]; exact ⟨rfl, rfl⟩))
  (fun os started H enc _ => Qi2 os started H enc)
theorem BookingChecksHolds : Rows.BookingChecksCardSaid :=
 Claim7.holds_tied_plain_at .later [] [.data, .data, .data, .data, .sentinel, .sentinel, .pinned] true (true, "c79a00f04bf7c5b077a218d23585edd8296ddf2471633b0b5a43e815602e44d2") true
  QjZ (fun _ h => by cases h) (by kernel_rfl) (fun _ h => by cases h) bookingChecks_row_tie rfl ⟨rfl, rfl⟩ Quj rfl
  (fun f fn hf hfn => by
   obtain rfl : f = 4 := Option.some.inj (bookingChecks_fn.symm.trans hf) |>.symm
   obtain rfl : fn = Tryz.f4 := (Option.some.inj (Tryz.func4.symm.trans hfn)).symm
   exact ⟨Qti, fun j t ht => by
    rw [Tryz.params4] at ht
    have hm : t ∈ [26] := by simpa using Array.mem_of_getElem? ht
    have hall : ([26].all fun u => !Tryz.prog.wantsStandIn u) = true := by kernel_rfl
    exact (show Tryz.prog.wantsStandIn t = false by simpa using List.all_eq_true.1 hall t hm)⟩)
  Qky
end Go.Proofs.YtigmcfhmpcajlaaGreatDoor
