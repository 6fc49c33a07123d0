/- A second machine over what the first one finds: booking.Change is evaluated in place, its variables outlive it, and the reference's Same is QwQ rows as data. Conditions: none; definitions, and some laws. -/
import Derived.Test.YtigmcfhmpcajlaaGreatDoorCs
import Derived.Test.YtigmcfhmpcajlaaGreatDoorLibT
import Derived.Test.YtigmcfhmpcajlaaGreatDoorEm
namespace Go.Proofs
open Go.Am Go.RowKit
namespace K2
def QzJ:FuncId→Bool:=fun f=>f==Qav||Qvr f
def Qfc:FuncId→Bool:=fun f=>f==Qaq
def QAs:FuncId→Bool:=fun f=>f==Qav||inls f
noncomputable def KK:Cfg:=⟨gls,QsR,owns,QAs,QsQ,QzJ,rowF,none⟩
noncomputable def L (lb:Nat):FuncId→Option (List CV→Option CV):=fun f=>
 bif (f==Qaa)||((Qae Tryz.prog f).isSome||(owns f).isSome) then none else some (evR (Go.Proofs.L lb) f)
noncomputable def C (lb:Nat):Nat→FuncId→List CV→Option CV:=QdK Qfc Tryz.prog KK (L lb)
noncomputable def I0 (lb n:Nat):Inl:=evF2 Qfc Tryz.prog KK (C lb n) n 0
noncomputable def I1 (lb n:Nat):Inl:=lent Qfc (C lb n) (Qbl KK (QaW Tryz.prog KK (C lb n) n (I0 lb n)))
noncomputable def I2 (lb n:Nat):Inl:=lent Qfc (C lb n) (Qbl KK (QaW Tryz.prog KK (C lb n) n (I1 lb n)))
noncomputable def I3 (lb n:Nat):Inl:=lent Qfc (C lb n) (Qbl KK (QaW Tryz.prog KK (C lb n) n (I2 lb n)))
noncomputable def I4 (lb n:Nat):Inl:=lent Qfc (C lb n) (Qbl KK (QaW Tryz.prog KK (C lb n) n (I3 lb n)))
noncomputable def I5 (lb n:Nat):Inl:=lent Qfc (C lb n) (Qbl KK (QaW Tryz.prog KK (C lb n) n (I4 lb n)))
noncomputable def I6 (lb n:Nat):Inl:=lent Qfc (C lb n) (Qbl KK (QaW Tryz.prog KK (C lb n) n (I5 lb n)))
noncomputable def I7 (lb n:Nat):Inl:=lent Qfc (C lb n) (Qbl KK (QaW Tryz.prog KK (C lb n) n (I6 lb n)))
noncomputable def I8 (lb n:Nat):Inl:=lent Qfc (C lb n) (Qbl KK (QaW Tryz.prog KK (C lb n) n (I7 lb n)))
noncomputable def I9 (lb n:Nat):Inl:=lent Qfc (C lb n) (Qbl KK (QaW Tryz.prog KK (C lb n) n (I8 lb n)))
noncomputable def E0 (lb n d j:Nat):Ev:=evN Tryz.prog (C lb n) (I9 lb n) n d j
noncomputable def E1 (lb n d j:Nat):Ev:=evN Tryz.prog (C lb n) (I8 lb n) n d j
noncomputable def top (lb n:Nat) (f:FuncId) (args:List CV):Option CV:=QfI Tryz.prog KK (C lb n) n (I9 lb n) f (args.map .val)
theorem QpD (lb n:Nat) (f:FuncId) (args:List CV) (h:L lb f=none):C lb (n+1) f args=top lb n f args:=by
 show QdK Qfc Tryz.prog KK (L lb) (n+1) f args=_
 unfold QdK
 rw [h]
 rfl
theorem C_of {f:FuncId} {args:List CV} {r:CV} (hf:((f==Qaa)||((Qae Tryz.prog f).isSome||(owns f).isSome))=false) (h:Ret 1 f args r):Evt fun n=>C 1 n f args=some r:=
 .from 1 fun n=>by
  show QdK Qfc Tryz.prog KK (L 1) (n+1) f args=_
  unfold QdK L
  rw [hf,cond_false]
  show evR (Go.Proofs.L 1) f args=some r
  rw [L_1]
  exact QAh h
theorem QwL {B:Nat} {W0:Base} (hK:W0.K=KK) {w:World} {G:Gh} {m:MemT} (M:Mem Tryz.prog B W0 w G m):Mem Tryz.prog B ⟨W0.W,Go.Proofs.KK⟩ w G m:=
 ⟨M.below,M.base,M.own,M.hw,M.blk,M.box,M.inj,by have:=M.glob;rw [hK] at this;exact this⟩
theorem Qxt {B:Nat} {W0:Base} (hK:W0.K=KK) {w:World} {G:Gh} {m:MemT} (M:Mem Tryz.prog B ⟨W0.W,Go.Proofs.KK⟩ w G m):Mem Tryz.prog B W0 w G m:=
 ⟨M.below,M.base,M.own,M.hw,M.blk,M.box,M.inj,by have:=M.glob;rw [hK];exact this⟩
theorem hookOK {B:Nat} {W0:Base} (hK:W0.K=KK):Qjx Tryz.prog B W0:=by
 obtain ⟨h1,h2⟩:=Go.Proofs.hookOK (B:=B) (W0:=⟨W0.W,Go.Proofs.KK⟩) rfl
 refine ⟨fun f g hg vs mem l q b v mem' e1 e2 e3 w G D M hD xs hx=> ?_,fun f it hit=> ?_⟩
 ·rw [hK] at hg
  obtain ⟨a,c⟩:=h1 f g hg vs mem l q b v mem' e1 e2 e3 w G D (QwL hK M) hD xs hx
  exact ⟨a,c.mono fun e w' ⟨x,G',q1,q2,q3⟩=>⟨x,G',q1,Qxt hK q2,q3⟩⟩
 ·rw [hK] at hit
  exact h2 f it hit
theorem Qrn (lb:Nat) (f:FuncId) (s:List CV→Option CV) (h:L lb f=some s):Qae Tryz.prog f=none∧KK.own f=none:=by
 unfold L at h
 cases hc:(f==Qaa)||((Qae Tryz.prog f).isSome||(owns f).isSome) with
 |true=>rw [hc] at h;cases h
 |false=>
  simp only [Bool.or_eq_false_iff] at hc
  exact ⟨by simpa using hc.2.1,show owns f=none by simpa using hc.2.2⟩
theorem libOK (lb:Nat) (hlb:lb≤topLb):QnT Tryz.prog KK.gl (Tw lb) (L lb):=by
 intro f s hs args r hr
 unfold L at hs
 cases hc:(f==Qaa)||((Qae Tryz.prog f).isSome||(owns f).isSome) with
 |true=>rw [hc] at hs;cases hs
 |false=>
  rw [hc,cond_false] at hs
  obtain rfl:=Option.some.inj hs
  obtain ⟨N,hN⟩:=Qxv hr
  refine ⟨fun vs w=> ?_,fun w h vs hw hz hg hv=>QwS (k:=N) (Go.Proofs.libOK lb hlb) (hN N (Nat.le_refl _)) w h vs hw hz hg hv⟩
  have h1:=hN (N+1) (by omega)
  unfold Qcu at h1
  split at h1
  ·rename_i s2 hs2
   exact (Go.Proofs.libOK lb hlb f s2 hs2 args r h1).1 vs w
  ·refine QlB Tryz.names ?_ w
   cases hb:(Tryz.prog.funcs[f]?).bind (·.body) with
   |some c=>rfl
   |none=>
    unfold QfI QaW at h1
    cases hf:Tryz.prog.funcs[f]? with
    |none=>
     rw [hf] at h1
     split at h1
     ·cases h1
     ·split at h1
      ·unfold Qin at h1;rw [hf] at h1;cases h1
      ·cases h1
    |some fn=>
     rw [hf] at hb h1
     have hb:fn.body=none:=hb
     split at h1
     ·simp only [hb] at h1;cases h1
     ·split at h1
      ·unfold Qin at h1;rw [hf] at h1;simp only [hb] at h1;cases h1
      ·cases h1
theorem ends {lb k:Nat} {f:FuncId} {args:List CV} {r:CV} (hlb:lb≤topLb) (h:C lb k f args=some r):Ends lb f args r:=fun w hw vs hT hz hg hv=>
 ((Qns (ok:=Qfc) (Qqw _) Tryz.names (Checked.mixed Tryz.checked) (hp:=rfl) (K:=KK) (T:=fun w'=>Below w.heap.size w w') (N0:=w.heap.size) (fun _ _ h1 h2=>h2.trans h1) (lib:=L lb)
   (fun f s hs args r hr=>⟨(libOK lb hlb f s hs args r hr).1,fun w h vs hw hz hg hv=>(libOK lb hlb f s hs args r hr).2 w h vs (Tw.below hT hw) hz hg hv⟩) (Qrn lb) (fun _ _ hK _ _=>hookOK hK)
   k w.heap.size ⟨w,KK⟩ rfl (Nat.le_refl _) (Below.refl _ _)).calls h w hw vs (Below.refl _ _) hg (Nat.le_refl _) hz hv).mono
   fun _ _ ⟨v,h',h1,h2,h4,h5,h3,_⟩=>⟨v,h',h1,h2,h4,h5,h3⟩
end K2
end Go.Proofs
