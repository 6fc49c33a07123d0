/- What the machine finds of a function holds of the program. Conditions: as each says. -/
import Derived.Test.YtigmcfhmpcajlaaGreatDoorAmB
import Derived.Test.YtigmcfhmpcajlaaGreatDoorChecked
import Derived.Shelf.Vars
import Derived.Stop.Joined
import Derived.Test.YtigmcfhmpcajlaaGreatDoorLibOk
import Derived.Test.YtigmcfhmpcajlaaGreatDoorRet
import Derived.Test.YtigmcfhmpcajlaaGreatDoorIt
import Derived.Test.YtigmcfhmpcajlaaGreatDoorHk
import Derived.Test.YtigmcfhmpcajlaaGreatDoorHv
namespace Go.Proofs
open Go.Am Go.RowKit
theorem Tryz.names:Qe4 Tryz.prog:=by
 have h:Tryz.prog.funcs.toList.all (fun fn=> !(fn.name== "runtime.NumGoroutine"))=true:=by kernel_rfl
 intro f fn hf
 rw [List.all_eq_true] at h
 have:=h fn (by
  have:Tryz.prog.funcs.toList[f]?=some fn:=by simpa using hf
  exact List.mem_of_getElem? this)
 simpa using this
theorem QlB (N:Qe4 Tryz.prog) {f:FuncId} (h:((Tryz.prog.funcs[f]?).bind (·.body)).isSome=true) {args:Array Value} (w:World):(callFunc f args).run Tryz.prog w= .ok (.enter f args) w:=by
 obtain ⟨c,hc⟩:=Option.isSome_iff_exists.1 h
 obtain ⟨fn,h1,h2⟩:=Option.bind_eq_some_iff.1 hc
 exact Qb1 N h1 h2 args w
theorem QyK {B:Nat} {W0:Base} (hK:W0.K=KK):Qu9 Tryz.prog B W0:=by
 intro f g hg vs mem l q b v mem' h hb hq w G D M hD xs hx
 rw [hK] at hg
 have hg:QsR f=some g:=hg
 unfold QsR at hg
 by_cases h0:(f==F_slices_Collect_int)=true
 ·rw [h0,cond_true] at hg
  obtain rfl:f=F_slices_Collect_int:=by simpa using h0
  obtain rfl:=Option.some.inj hg
  refine ⟨fun w'=> ?_,QvA h hb hq M hD hx⟩
  exact QlB Tryz.names (by kernel_rfl) w'
 rw [Bool.eq_false_iff.2 h0,cond_false] at hg
 by_cases h1:(f==F_strings_Builder_copyCheck)=true
 ·rw [h1,cond_true] at hg
  obtain rfl:f=F_strings_Builder_copyCheck:=by simpa using h1
  obtain rfl:=Option.some.inj hg
  refine ⟨fun w'=> ?_,Qx1 h hq M hD hx⟩
  exact QlB Tryz.names (by kernel_rfl) w'
 rw [Bool.eq_false_iff.2 h1,cond_false] at hg
 by_cases h2:(f==F_strings_Builder_String)=true
 ·rw [h2,cond_true] at hg
  obtain rfl:f=F_strings_Builder_String:=by simpa using h2
  obtain rfl:=Option.some.inj hg
  refine ⟨fun w'=> ?_,Qw2 h hb hq M hD hx⟩
  exact QlB Tryz.names (by kernel_rfl) w'
 rw [Bool.eq_false_iff.2 h2,cond_false] at hg
 cases hg
theorem hookOK {B:Nat} {W0:Base} (hK:W0.K=KK):Qjx Tryz.prog B W0:=⟨QyK hK,Qy2 hK⟩
set_option maxHeartbeats 2000000 in
theorem QAE {lb:Nat} {f:FuncId} (h:(L 9 f).isNone=true):(L lb f).isNone=true:=by
 unfold L L1 at h⊢
 split at h
 ·cases h
 rename_i hf;rw [if_neg hf]
 split at h
 ·cases h
 rename_i hf;rw [if_neg hf]
 split at h
 ·cases h
 rename_i hf;rw [if_neg hf]
 split at h
 ·cases h
 rename_i hf;rw [if_neg hf]
 split at h
 ·cases h
 rename_i hf;rw [if_neg hf]
 split at h
 ·cases h
 rename_i hf;rw [if_neg hf]
 split at h
 ·cases h
 rename_i hf;rw [if_neg hf]
 split at h
 ·cases h
 rename_i hf;rw [if_neg hf]
 split at h
 ·cases h
 rename_i hf;rw [if_neg hf]
 split at h
 ·cases h
 rename_i hf;rw [if_neg hf]
 rfl
theorem Tw.below {lb:Nat} {W w:World} (h:Tw lb W) (hb:Below W.heap.size W w):Tw lb w:=by
 have cell:∀{g o:Nat} {v:Value},W.cell? ⟨g,o,none⟩=some v→w.cell? ⟨g,o,none⟩=some v:=by
  intro g o v hv
  have hlt:g<W.heap.size:=by
   refine Decidable.byContradiction fun hn=> ?_
   simp [World.cell?,Array.getElem?_eq_none (Nat.le_of_not_lt hn)] at hv
  rw [←hv]
  exact World.cell?_of_block (hb.block g hlt)
 exact {
  maxlen:=h.maxlen.elim fun m hm=>⟨m,cell hm⟩
  esyn:=fun q=>(h.esyn q).elim fun ev h1=>⟨ev,cell h1.1,h1.2⟩
  eran:=fun q=>(h.eran q).elim fun ev h1=>⟨ev,cell h1.1,h1.2⟩
  pow:=Lib.tabBelow_of_tabIs h.pow w hb
 }
theorem Qrn (lb:Nat) (f:FuncId) (s:List CV→Option CV) (h:L lb f=some s):Qae Tryz.prog f=none∧KK.own f=none:=by
 by_cases hf:f<Tryz.prog.funcs.size
 ·have ht:(List.range Tryz.prog.funcs.size).all (fun f=>(L 9 f).isNone||((Qae Tryz.prog f).isNone&&(owns f).isNone))=true:=by kernel_rfl
  have key:((L lb f).isNone||((Qae Tryz.prog f).isNone&&(owns f).isNone))=true:=by
   have h9:=List.all_eq_true.1 ht f (List.mem_range.2 hf)
   by_cases q:(L 9 f).isNone=true
   ·rw [QAE q];rfl
   ·have q2:(L 9 f).isNone=false:=eq_false_of_ne_true q
    simp only [q2,Bool.false_or] at h9
    simp only [h9,Bool.or_true]
  rw [h] at key
  simp only [Option.isNone_some,Bool.false_or,Bool.and_eq_true,Option.isNone_iff_eq_none] at key
  exact key
 ·refine ⟨?_, ?_⟩
  ·unfold Qae
   rw [Array.getElem?_eq_none (Nat.le_of_not_lt hf)]
  ·have hsz:Tryz.prog.funcs.size=265:=by kernel_rfl
   rw [hsz] at hf
   rfl
theorem QwS {lb k:Nat} {f:FuncId} {args:List CV} {r:CV} (hL:QnT Tryz.prog KK.gl (Tw lb) (L lb)) (h:C lb k f args=some r):Ends lb f args r:=fun w hw vs hT hz hg hv=>
 ((Qoz (Qqw _) Tryz.names (Checked.mixed Tryz.checked) (hp:=rfl) (K:=KK) (T:=fun w'=>Below w.heap.size w w') (N0:=w.heap.size) (fun _ _ h1 h2=>h2.trans h1) (lib:=L lb)
   (fun f s hs args r hr=>⟨(hL f s hs args r hr).1,fun w h vs hw hz hg hv=>(hL f s hs args r hr).2 w h vs (Tw.below hT hw) hz hg hv⟩) (Qrn lb) (fun _ _ hK _ _=>hookOK hK)
   k w.heap.size ⟨w,KK⟩ rfl (Nat.le_refl _) (Below.refl _ _)).calls h w hw vs (Below.refl _ _) hg (Nat.le_refl _) hz hv).mono
   fun _ _ ⟨v,h',h1,h2,h4,h5,h3,_⟩=>⟨v,h',h1,h2,h4,h5,h3⟩
theorem L_1:L 1=L1 1:=by
 funext f
 unfold L
 rfl
theorem QAh {f:FuncId} {args:List CV} {r:CV} (h:Ret 1 f args r):evR (L1 1) f args=some r:=Qzt (by
 obtain ⟨N,hN⟩:=h
 refine ⟨N,fun n hn=> ?_⟩
 rw [←L_1]
 exact hN n hn)
end Go.Proofs
