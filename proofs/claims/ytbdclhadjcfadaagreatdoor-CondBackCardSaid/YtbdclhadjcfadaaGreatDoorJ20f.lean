/- The law CondBack of chapter 20 holds of the program. Conditions: none beyond the given rows. -/
import Derived.Test.YtbdclhadjcfadaaGreatDoorJd20
import Derived.Test.YtbdclhadjcfadaaGreatDoorDB
import Derived.Test.YtbdclhadjcfadaaGreatDoorTie
import Derived.Test.YtbdclhadjcfadaaGreatDoorCards
import Derived.SevenTiedAt
namespace Go.Proofs.YtbdclhadjcfadaaGreatDoor
open Go.ChangeShapes Go.WideShapes Go.ChangeAt Go.RowKit Go.Am
set_option maxRecDepth 100000 in
theorem Qnv (os : Os) (started : os.Started) (H : Type) (enc : TypeId × Value → H) :
  ReturnsInHanded {} Tryz.checked os 4 .any (fun w args => (Rows.condBackSpec.pre enc Tryz.prog Tryz.f4 [] false w args ∧ laidMetH Tryz.prog Rows.condBackRow.laid w) ∧ sizedMet enc Tryz.prog Tryz.f4 (OpenSpec.ofChange Rows.condBackSpec) false w args)
   (Rows.condBackSpec.post enc Tryz.prog Tryz.f4 false true false false) := by
 refine QsE (C := Tryz.checked) (S := [27, 3, 22, 24, 25, 9]) (tb := 4) (laid := Rows.condBackRow.laid) (by kernel_rfl) Tryz.own started (by kernel_rfl) Tryz.func4
  (ChangeSpec.witness_shaped (enc := enc) (C := Tryz.checked) (os := os) (X := fun w _ => laidMetH Tryz.prog Rows.condBackRow.laid w) false (World.laidAll Tryz.prog os Rows.condBackRow.laid) #[.agg #[.int .i64 0, .slice none 0 0, .int .i64 0, .int .i64 0, .int .i64 0, .int .i64 0, .int .i64 0, .slice none 0 0], .string ⟨#[]⟩] 8 (World.laidAll_os _ _ _)
   (World.shaped_of_ZipB (by kernel_rfl) (by kernel_rfl)) (by kernel_rfl) (by kernel_rfl) (by kernel_rfl)
   (by rw [MakeChecks.laidMetH_plain _ _ _ (by kernel_rfl)]; exact laidMet_laidAll _ (by kernel_rfl) (by kernel_rfl)))
  Qsh (by kernel_rfl) (by kernel_rfl) (by kernel_rfl) Tryz.underlying4 rfl (fun ds hd => ?_) fun W M vs cs hsh hL hA hR => ?_
 ·match ds, hd with
  | [d0, d1], _ => rfl
 ·have hT : Tw 2 W := Qw9 hsh (by kernel_rfl) hL (.tail _ (.tail _ (.tail _ (.head _)))) (.head _) (fun _ => ⟨.tail _ (.tail _ (.tail _ (.tail _ (.tail _ (.tail _ (.head _)))))), .tail _ (.tail _ (.tail _ (.tail _ (.tail _ (.head _)))))⟩)
  rw [Tryz.params4] at hA
  obtain ⟨c0, r0, rfl, h0, hA⟩ := ArgsTyR.cons hA
  obtain ⟨c1, r1, rfl, h1, hA⟩ := ArgsTyR.cons hA
  obtain rfl := ArgsTyR.nil hA
  obtain ⟨a, rfl, ha⟩ := QwV h0
  obtain ⟨s, rfl⟩ := Qwr h1
  obtain ⟨n, hn⟩ := (Qra 0 a s ha).one
  exact Tryz.walk hn W hT M vs hR
theorem QrI : (Rows.condBackRow.inPlace == Tryz.prog.inPlace 4) = true := by kernel_rfl
theorem QrE : (Rows.condBackRow.unfollowed == Tryz.prog.unfollowed 4) = true := by kernel_rfl
theorem QrB : (Rows.condBackRow.recurses == Tryz.prog.recurses 4) = true := by kernel_rfl
theorem Qrx : (Rows.condBackRow.named == Tryz.prog.varsNamed 4) = true := by kernel_rfl
theorem QnB : joinedFacts Tryz.prog 4 Tryz.f4 Rows.condBackSpec Rows.condBackRow = true := by
 unfold joinedFacts
 simp only [Bool.and_eq_true]
 exact ⟨⟨⟨⟨⟨⟨⟨⟨⟨⟨⟨⟨⟨⟨⟨⟨⟨⟨⟨⟨⟨⟨⟨⟨⟨⟨⟨⟨⟨⟨⟨by kernel_rfl, Qsh⟩, Qu0⟩, by kernel_rfl⟩, by kernel_rfl⟩, rfl⟩, Qu6⟩, rfl⟩, Qvb⟩, QrI⟩, QrE⟩, QrB⟩, Qrx⟩, by kernel_rfl⟩, by kernel_rfl⟩, by kernel_rfl⟩, by kernel_rfl⟩, by kernel_rfl⟩, by kernel_rfl⟩, by kernel_rfl⟩, by kernel_rfl⟩, by kernel_rfl⟩, Qv6⟩, rfl⟩, Qvm⟩, Qvk⟩, Qt4⟩, QvY⟩, by kernel_rfl⟩, by kernel_rfl⟩, by kernel_rfl⟩, by kernel_rfl⟩
theorem condBack_fn : Tryz.prog.funcNamed "airline/airlinelaw20.CondBack" = some 4 := by kernel_rfl
theorem Qpu : false = Rows.condBackRow.goesBy Tryz.prog := by kernel_rfl
theorem Qoq : Rows.CondBackSaid :=
 OpenClaim.holds_of_wide 4 Tryz.f4 rfl rfl rfl rfl rfl rfl rfl ⟨rfl, rfl, rfl, rfl, rfl⟩ rfl rfl rfl rfl rfl condBack_fn Tryz.func4 QnB
  (of_decide_eq_true (by kernel_rfl)) (by unfold Func.isWrapper; first | (rw [if_pos (by decide +kernel)]; kernel_rfl) | (rw [if_neg (by decide +kernel)]; exact ⟨rfl, rfl⟩))
  (fun os started H enc _ => Qnv os started H enc)
theorem CondBackHolds : Rows.CondBackCardSaid :=
 Claim7.holds_tied_plain_at .later [] [.data, .data, .data, .data, .data, .sentinel, .sentinel, .pinned] true (true, "08fda4b0ffaff57e1bed5d3537db53937d281378657dcfa0a1c2d346d5a6954e") true
  Qoq (fun _ h => by cases h) (by kernel_rfl) (fun _ h => by cases h) condBack_row_tie rfl ⟨rfl, rfl⟩ QvQ rfl
  (fun f fn hf hfn => by
   obtain rfl : f = 4 := Option.some.inj (condBack_fn.symm.trans hf) |>.symm
   obtain rfl : fn = Tryz.f4 := (Option.some.inj (Tryz.func4.symm.trans hfn)).symm
   exact ⟨Qva, fun j t ht => by
    rw [Tryz.params4] at ht
    have hm : t ∈ [27, 9] := by simpa using Array.mem_of_getElem? ht
    have hall : ([27, 9].all fun u => !Tryz.prog.wantsStandIn u) = true := by kernel_rfl
    exact (show Tryz.prog.wantsStandIn t = false by simpa using List.all_eq_true.1 hall t hm)⟩)
  Qpu
end Go.Proofs.YtbdclhadjcfadaaGreatDoor
