/- The law CondTexts of chapter 20 holds of the program. Conditions: none beyond the given rows. -/
import Derived.Test.YtbdclhadjcfadaaGreatDoorJd20
import Derived.Test.YtbdclhadjcfadaaGreatDoorDB
import Derived.Test.YtbdclhadjcfadaaGreatDoorTie
import Derived.Test.YtbdclhadjcfadaaGreatDoorCards
import Derived.SevenTiedAt
namespace Go.Proofs.YtbdclhadjcfadaaGreatDoor
open Go.ChangeShapes Go.WideShapes Go.ChangeAt Go.RowKit Go.Am
set_option maxRecDepth 100000 in
theorem Qqe (os:Os) (started:os.Started) (H:Type) (enc:TypeId × Value → H) :
  ReturnsInHanded {} Tryz.checked os 3 .any (fun w args => (Rows.condTextsSpec.pre enc Tryz.prog Tryz.f3 [] false w args ∧ laidMetH Tryz.prog Rows.condTextsRow.laid w) ∧ sizedMet enc Tryz.prog Tryz.f3 (OpenSpec.ofChange Rows.condTextsSpec) false w args)
   (Rows.condTextsSpec.post enc Tryz.prog Tryz.f3 false true false false) := by
 refine Qx9 (C := Tryz.checked) (S := [27,3,22,24,25,9]) (tb := 4) (laid := Rows.condTextsRow.laid) (by kernel_rfl) Tryz.own started (by kernel_rfl) Tryz.func3
  (ChangeSpec.witness_shaped (enc := enc) (C := Tryz.checked) (os := os) (X := fun w _ => laidMetH Tryz.prog Rows.condTextsRow.laid w) false (World.laidAll Tryz.prog os Rows.condTextsRow.laid) #[.agg #[.int .i64 0, .slice none 0 0, .int .i64 0, .int .i64 0, .int .i64 0, .int .i64 0, .int .i64 0, .slice none 0 0], .string ⟨#[]⟩] 8 (World.laidAll_os _ _ _)
   (World.shaped_of_ZipB (by kernel_rfl) (by kernel_rfl)) (by kernel_rfl) (by kernel_rfl) (by kernel_rfl)
   (by rw [MakeChecks.laidMetH_plain _ _ _ (by kernel_rfl)]; exact laidMet_laidAll _ (by kernel_rfl) (by kernel_rfl)))
  Qxg (by kernel_rfl) (by kernel_rfl) (by kernel_rfl) Tryz.underlying4 rfl (fun ds hd => ?_) fun W M vs cs hsh hL hA hR => ?_
 ·match ds,hd with
  | [d0,d1],_ => rfl
 ·have hT:Tw 2 W := QCO hsh (by kernel_rfl) hL (.tail _ (.tail _ (.tail _ (.head _)))) (.head _) (fun _ => ⟨.tail _ (.tail _ (.tail _ (.tail _ (.tail _ (.tail _ (.head _)))))), .tail _ (.tail _ (.tail _ (.tail _ (.tail _ (.head _)))))⟩)
  rw [Tryz.params3] at hA
  obtain ⟨c0,r0,rfl,h0,hA⟩ := ArgsTyR.cons hA
  obtain ⟨c1,r1,rfl,h1,hA⟩ := ArgsTyR.cons hA
  obtain rfl := ArgsTyR.nil hA
  obtain ⟨a,rfl,ha⟩ := QCx h0
  obtain ⟨s,rfl⟩ := QBX h1
  obtain ⟨n,hn⟩ := (Qt1 0 a s ha).one
  exact Tryz.walk hn W hT M vs hR
theorem Qvf:(Rows.condTextsRow.inPlace == Tryz.prog.inPlace 3) = true := by kernel_rfl
theorem QvN:(Rows.condTextsRow.unfollowed == Tryz.prog.unfollowed 3) = true := by kernel_rfl
theorem Qvs:(Rows.condTextsRow.recurses == Tryz.prog.recurses 3) = true := by kernel_rfl
theorem QuN:(Rows.condTextsRow.named == Tryz.prog.varsNamed 3) = true := by kernel_rfl
theorem QpY:joinedFacts Tryz.prog 3 Tryz.f3 Rows.condTextsSpec Rows.condTextsRow = true := by
 unfold joinedFacts
 simp only [Bool.and_eq_true]
 exact ⟨⟨⟨⟨⟨⟨⟨⟨⟨⟨⟨⟨⟨⟨⟨⟨⟨⟨⟨⟨⟨⟨⟨⟨⟨⟨⟨⟨⟨⟨⟨by kernel_rfl,Qxg⟩,QAq⟩,by kernel_rfl⟩,by kernel_rfl⟩,rfl⟩,QAV⟩,rfl⟩,QAx⟩,Qvf⟩,QvN⟩,Qvs⟩,QuN⟩,by kernel_rfl⟩,by kernel_rfl⟩,by kernel_rfl⟩,by kernel_rfl⟩,by kernel_rfl⟩,by kernel_rfl⟩,by kernel_rfl⟩,by kernel_rfl⟩,by kernel_rfl⟩,QB7⟩,rfl⟩,QAD⟩,QA4⟩,QyY⟩,QBQ⟩,by kernel_rfl⟩,by kernel_rfl⟩,by kernel_rfl⟩,by kernel_rfl⟩
theorem condTexts_fn : Tryz.prog.funcNamed "airline/airlinelaw20.CondTexts" = some 3 := by kernel_rfl
theorem Qst:false = Rows.condTextsRow.goesBy Tryz.prog := by kernel_rfl
theorem Qrt:Rows.CondTextsSaid :=
 OpenClaim.holds_of_wide 3 Tryz.f3 rfl rfl rfl rfl rfl rfl rfl ⟨rfl,rfl,rfl,rfl,rfl⟩ rfl rfl rfl rfl rfl condTexts_fn Tryz.func3 QpY
  (of_decide_eq_true (by kernel_rfl)) (by unfold Func.isWrapper; first | (rw [if_pos (by decide +kernel)]; kernel_rfl) | (rw [if_neg (by decide +kernel)]; exact ⟨rfl,rfl⟩))
  (fun os started H enc _ => Qqe os started H enc)
theorem CondTextsHolds:Rows.CondTextsCardSaid :=
 Claim7.holds_tied_plain_at .later [] [.data, .data, .data, .data, .data, .sentinel, .sentinel, .pinned] true (true, "08fda4b0ffaff57e1bed5d3537db53937d281378657dcfa0a1c2d346d5a6954e") true
  Qrt (fun _ h => by cases h) (by kernel_rfl) (fun _ h => by cases h) condTexts_row_tie rfl ⟨rfl,rfl⟩ QBn rfl
  (fun f fn hf hfn => by
   obtain rfl:f = 3 := Option.some.inj (condTexts_fn.symm.trans hf) |>.symm
   obtain rfl:fn = Tryz.f3 := (Option.some.inj (Tryz.func3.symm.trans hfn)).symm
   exact ⟨QAj,fun j t ht => by
    rw [Tryz.params3] at ht
    have hm:t ∈ [27,9] := by simpa using Array.mem_of_getElem? ht
    have hall:([27,9].all fun u => !Tryz.prog.wantsStandIn u) = true := by kernel_rfl
    exact (show Tryz.prog.wantsStandIn t = false by simpa using List.all_eq_true.1 hall t hm)⟩)
  Qst
end Go.Proofs.YtbdclhadjcfadaaGreatDoor
