/- The law BookingChanges holds of the program. Conditions: none beyond the given rows. -/
import Derived.Test.YtigmcfhmpcajlaaGreatDoorEo
import Derived.Test.YtigmcfhmpcajlaaGreatDoorTie
import Derived.Test.YtigmcfhmpcajlaaGreatDoorCards
import Derived.SevenTiedAt
namespace Go.Proofs.YtigmcfhmpcajlaaGreatDoor
open Go.ChangeShapes Go.WideShapes Go.ChangeAt Go.RowKit Go.Am
set_option maxRecDepth 100000 in
theorem Qlw (os:Os) (started:os.Started) (H:Type) (enc:TypeId×Value→H):
  ReturnsInHanded {} Tryz.checked os 5 .any (fun w args=>(Rows.bookingChangesSpec.pre enc Tryz.prog Tryz.f5 [] false w args∧laidMetH Tryz.prog Rows.bookingChangesRow.laid w)∧sizedMet enc Tryz.prog Tryz.f5 (OpenSpec.ofChange Rows.bookingChangesSpec) false w args)
   (Rows.bookingChangesSpec.post enc Tryz.prog Tryz.f5 false true false false):=by
 refine Qwu (C:=Tryz.checked) (tb:=4) (laid:=Rows.bookingChangesRow.laid) Tryz.own started (by kernel_rfl) Tryz.func5
  (ChangeSpec.witness_shaped (enc:=enc) (C:=Tryz.checked) (os:=os) (X:=fun w _=>laidMetH Tryz.prog Rows.bookingChangesRow.laid w) false (World.laidAll Tryz.prog os Rows.bookingChangesRow.laid) #[.agg #[.string ⟨#[]⟩, .slice none 0 0, .int .i64 0, .slice none 0 0, .slice none 0 0, .int .i64 0], .int .i64 0, .int .i64 0] 8 (World.laidAll_os _ _ _)
   (World.shaped_of_ZipB (by kernel_rfl) (by kernel_rfl)) (by kernel_rfl) (by kernel_rfl) (by kernel_rfl)
   (by rw [MakeChecks.laidMetH_plain _ _ _ (by kernel_rfl)];exact laidMet_laidAll _ (by kernel_rfl) (by kernel_rfl)))
  Qvn (by kernel_rfl) (by kernel_rfl) (by kernel_rfl) Tryz.underlying4 rfl (fun ds hd=> ?_) fun W M vs cs hsh hL hA hR=> ?_
 ·match ds,hd with
  | [d0,d1,d2],_=>rfl
 ·have hT:Tw 1 W:=QAu hsh (by kernel_rfl) hL (.tail _ (.tail _ (.head _))) (fun _=>⟨.tail _ (.tail _ (.tail _ (.tail _ (.tail _ (.head _))))), .tail _ (.tail _ (.tail _ (.tail _ (.head _))))⟩)
  rw [Tryz.params5] at hA
  obtain ⟨c0,r0,rfl,h0,hA⟩:=ArgsTy.cons hA
  obtain ⟨c1,r1,rfl,h1,hA⟩:=ArgsTy.cons hA
  obtain ⟨c2,r2,rfl,h2,hA⟩:=ArgsTy.cons hA
  obtain rfl:=ArgsTy.nil hA
  obtain ⟨a,rfl,ha⟩:=QuE h0
  obtain ⟨x,rfl,_⟩:=ArgTy.int Tryz.underlying3 h1
  obtain ⟨e,rfl,_⟩:=ArgTy.int Tryz.underlying3 h2
  obtain ⟨n,hn⟩:=QuH a ha.bn x e
  exact QAk hn W hT M vs hR
theorem Qoc:(Rows.bookingChangesRow.inPlace==Tryz.prog.inPlace 5)=true:=by kernel_rfl
theorem Qof:(Rows.bookingChangesRow.unfollowed==Tryz.prog.unfollowed 5)=true:=by kernel_rfl
theorem Qoe:(Rows.bookingChangesRow.recurses==Tryz.prog.recurses 5)=true:=by kernel_rfl
theorem Qok:(Rows.bookingChangesRow.named==Tryz.prog.varsNamed 5)=true:=by kernel_rfl
theorem Qk6:joinedFacts Tryz.prog 5 Tryz.f5 Rows.bookingChangesSpec Rows.bookingChangesRow=true:=by
 unfold joinedFacts
 simp only [Bool.and_eq_true]
 exact ⟨⟨⟨⟨⟨⟨⟨⟨⟨⟨⟨⟨⟨⟨⟨⟨⟨⟨⟨⟨⟨⟨⟨⟨⟨⟨⟨⟨⟨⟨⟨by kernel_rfl,Qvn⟩,Qx6⟩,by kernel_rfl⟩,by kernel_rfl⟩,rfl⟩,Qxq⟩,rfl⟩,QxL⟩,Qoc⟩,Qof⟩,Qoe⟩,Qok⟩,by kernel_rfl⟩,by kernel_rfl⟩,by kernel_rfl⟩,by kernel_rfl⟩,by kernel_rfl⟩,by kernel_rfl⟩,by kernel_rfl⟩,by kernel_rfl⟩,by kernel_rfl⟩,QyL⟩,rfl⟩,Qxs⟩,QxD⟩,QwI⟩,Qzg⟩,by kernel_rfl⟩,by kernel_rfl⟩,by kernel_rfl⟩,by kernel_rfl⟩
theorem bookingChanges_fn:Tryz.prog.funcNamed "airline/airlinelaw35.BookingChanges" =some 5:=by kernel_rfl
theorem QmO:false=Rows.bookingChangesRow.goesBy Tryz.prog:=by kernel_rfl
theorem Qmf:Rows.BookingChangesSaid:=
 OpenClaim.holds_of_wide 5 Tryz.f5 rfl rfl rfl rfl rfl rfl rfl ⟨rfl,rfl,rfl,rfl,rfl⟩ rfl rfl rfl rfl rfl bookingChanges_fn Tryz.func5 Qk6
  (of_decide_eq_true (by kernel_rfl)) (by unfold Func.isWrapper;first|(rw [if_pos (by decide+kernel)];kernel_rfl)|(rw [if_neg (by decide+kernel)];exact ⟨rfl,rfl⟩))
  (fun os started H enc _=>Qlw os started H enc)
theorem BookingChangesHolds:Rows.BookingChangesCardSaid:=
 Claim7.holds_tied_plain_at .later [] [.data, .data, .data, .data, .sentinel, .sentinel, .pinned] true (true, "c79a00f04bf7c5b077a218d23585edd8296ddf2471633b0b5a43e815602e44d2") true
  Qmf (fun _ h=>by cases h) (by kernel_rfl) (fun _ h=>by cases h) bookingChanges_row_tie rfl ⟨rfl,rfl⟩ Qzm rfl
  (fun f fn hf hfn=>by
   obtain rfl:f=5:=Option.some.inj (bookingChanges_fn.symm.trans hf)|>.symm
   obtain rfl:fn=Tryz.f5:=(Option.some.inj (Tryz.func5.symm.trans hfn)).symm
   exact ⟨QxW,fun j t ht=>by
    rw [Tryz.params5] at ht
    have hm:t∈ [26,3,3]:=by simpa using Array.mem_of_getElem? ht
    have hall:([26,3,3].all fun u=> !Tryz.prog.wantsStandIn u)=true:=by kernel_rfl
    exact (show Tryz.prog.wantsStandIn t=false by simpa using List.all_eq_true.1 hall t hm)⟩)
  QmO
end Go.Proofs.YtigmcfhmpcajlaaGreatDoor
