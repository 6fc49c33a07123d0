/- A machine that hands rows to functions as data: such a function answers yes or no, and keeps nothing. Conditions: as each says. -/
import Derived.Test.YtigmcfhmpcajlaaGreatDoorAmC
namespace Go.Am
open Go.RowKit
variable {P:Program} {B:Nat} {W0:Base} {w:World} {G:Gh} {β:Type} {call:FuncId→List CV→Option CV}
 {inl:FuncId→List AV→MemT→(AV→MemT→Option β)→Option β} {m:Nat} {Z:β→List PanicEntry→Prop}
def lent (ok:FuncId→Bool) (call:FuncId→List CV→Option CV) (inl:FuncId→List AV→List (List (Option (List AV)))→(AV→List (List (Option (List AV)))→Option β)→Option β)
  (f:FuncId) (vs:List AV) (mem:List (List (Option (List AV)))) (k:AV→List (List (Option (List AV)))→Option β):Option β:=
 match ok f with
 |true=>frzL mem (mem.length-1) vs fun vs=>optO (QbF vs) fun cs=>optO (call f cs) fun r=>optO r.asB fun b=>k (.val (.bool b)) mem
 |false=>inl f vs mem k
noncomputable def evF2 (ok:FuncId→Bool) (P:Program) (K:Cfg) (call:FuncId→List CV→Option CV) (m dp:Nat):FuncId→List AV→List (List (Option (List AV)))→
  (AV→List (List (Option (List AV)))→Option β)→Option β:=
 Nat.rec (fun _ _ _ _=>none) (fun _ ih=>lent ok call (Qbl K (QaW P K call m ih))) dp
noncomputable def QdK (ok:FuncId→Bool) (P:Program) (K:Cfg) (lib:FuncId→Option (List CV→Option CV)):Nat→FuncId→List CV→Option CV
 |0,_,_=>none
 |n+1,f,args=>
  match lib f with
  |some s=>s args
  |none=>QfI P K (QdK ok P K lib n) n (evF2 ok P K (QdK ok P K lib n) n 9) f (args.map .val)
theorem Mem.called {mem:MemT} (M:Mem P B W0 w G mem) (D:Nat) {w':World} {h':Hw} (hb:Below w.heap.size w w') (h1:∀b,b<w.heap.size→h' b=G.hw b) (h2:∀b,w'.heap.size≤b→h' b=0):
  Mem P B W0 w' {G with hw:=h'} mem∧Keeps B D w w' G {G with hw:=h'}:=by
 have N:∀q,Same q w w' G {G with hw:=h'}:=fun q=>by
  refine ⟨⟨fun b=> ?_,fun b i hi=> ?_,fun b e he=>by rw [Qcc (hb.block b (QgM he))];exact he⟩,fun _ _ _ h=>h,fun b hq=> ?_⟩
  ·by_cases hlt:b<w.heap.size
   ·exact Nat.le_of_eq (h1 b hlt).symm
   ·rw [M.hw b (by omega)];omega
  ·have hlt:b<w.heap.size:=Decidable.byContradiction fun hn=>by rw [M.hw b (by omega)] at hi;omega
   exact cell?_of_heap (hb.block b hlt) i
  ·have hlt:=(M.own b _ hq).2.1
   exact ⟨hq,h1 b hlt,hb.block b hlt⟩
 have hbB:Below B w w':=hb.mono M.base
 refine ⟨⟨M.below.trans hbB,Nat.le_trans M.base hb.size,fun b p hp=> ?_,h2,M.blk,fun d' s cs hbx=> ?_,M.inj,M.glob.keep (N .none).keep⟩,
  (N .none).keep,fun b _ _ _ hp=>(N _).own b hp,fun _ _ _ _ h=>h,hbB,fun b hb=>h1 b (Nat.lt_of_lt_of_le hb M.base),fun b hlt hf=>⟨hf,h1 b hlt,hb.block b hlt⟩,fun _ _=>rfl⟩
 ·have:=M.own b p hp
  exact ⟨this.1,Nat.lt_of_lt_of_le this.2.1 hb.size,this.2.2⟩
 ·obtain ⟨b,vs,T,fz,R⟩:=M.box d' s cs hbx
  have hlt:b<w.heap.size:=R.lt
  refine ⟨b,vs,T,fz,R.blk,R.lo,by rw [hb.block b hlt];exact R.heap,R.free,(h1 b hlt).trans R.hw,R.own,⟨R.rep.len,fun i hi=> ?_⟩⟩
  obtain ⟨u,q1,q2,q3⟩:=R.rep.rep i hi
  exact ⟨u,q1,q2,ARep.same (N _) (N _) _ q3⟩
theorem QxC {ok:FuncId→Bool} {pn:Bool} (L:LinI pn inl):LinI pn (lent ok call inl):=by
 intro f vs mem k r h
 unfold lent at h
 cases hg:ok f with
 |false=>
  simp only [hg] at h
  rcases L _ _ _ _ _ h with ⟨v,mem',h1,h2⟩|⟨h1,h2⟩
  ·exact .inl ⟨v,mem',h1,fun k'=>by unfold lent;simp only [hg];exact h2 k'⟩
  ·exact .inr ⟨h1,fun k'=>by unfold lent;simp only [hg];exact h2 k'⟩
 |true=>
  simp only [hg] at h
  obtain ⟨vs',hv⟩:=Ql8 _ h
  rw [hv] at h
  obtain ⟨cs,hcs,h⟩:=Qag h
  obtain ⟨rv,hr,h⟩:=Qag h
  obtain ⟨b,hb,h⟩:=Qag h
  exact .inl ⟨_,_,h,fun k'=>by unfold lent;simp only [hg];rw [hv];simp only [hcs,hr,hb,optO]⟩
theorem Qwi {ok:FuncId→Bool} (CO:CallOK P B W0 call) (Iok:InlR Z P B W0 inl):InlR Z P B W0 (lent ok call inl):=by
 refine ⟨fun {f vs mem k r} hne h w G D M hD xs hx=> ?_,QxC Iok.lin,Iok.iter,Iok.nz⟩
 unfold lent at h
 split at h
 ·obtain ⟨vs',h,hr⟩:=Qjf M (mem.length-1) vs hx h
  obtain ⟨cs,hcs,h⟩:=Qag h
  obtain ⟨rv,hcall,h⟩:=Qag h
  obtain ⟨b,hb,h⟩:=Qag h
  obtain rfl:=Qea hb
  refine ⟨fun w'=>CO.enter hcall _ w', ?_⟩
  have hz:∀b,w.heap.size≤b→(G.slm mem (mem.length-1)).hw b=0:=fun b hb=>by
   show Qep G mem _ b=0
   rw [QeZ fun s hs=> ?_]
   ·exact M.hw b hb
   ·obtain ⟨_,_,_,_,_,R⟩:=M.blk_box hs
    have:=R.lt
    omega
  refine (CO.calls hcall w _ xs M.below (M.glob.keep (QiB M _)) M.base hz (hr.pts.data hcs)).mono fun e w' ⟨v,h',q1,q2,q3,q4,q5,_⟩=> ?_
  obtain ⟨M',K'⟩:=M.called (h':=fun b=>if b<w.heap.size then G.hw b else h' b) D q2 (fun b hb=>if_pos hb) (fun b hb=>by
   have:=q2.size
   show (if b<w.heap.size then G.hw b else h' b)=0
   rw [if_neg (by omega)]
   exact q4 b hb)
  exact .inl ⟨_,v,_,_,q1,h,M',hD,by simpa only [ARep,CRep] using q5,rfl,K'⟩
 ·exact Iok.run hne h w G D M hD xs hx
theorem QqS {ok:FuncId→Bool} (SE:Qa5 P) (N:Qe4 P) (CO:CallOK P B W0 call) (H:Qjx P B W0) (hmix:P.follows .mixedOrders=true) (hp:W0.K.pan=none:=by rfl):∀dp:Nat,InlOK (β:=β) noZ P B W0 (evF2 ok P W0.K call m dp)
 |0=>InlR.ok ⟨(fun _ h=>by cases h),(fun _ _ _ _ _ h=>by cases h),H.2,fun _ _ _ h=>h⟩ hp
 |dp+1=>(Qwi CO (Qnm H (Qmw SE N CO hmix (QqS SE N CO H hmix hp dp)))).ok hp
theorem Qns {ok:FuncId→Bool} (SE:Qa5 P) (N:Qe4 P) (hmix:P.follows .mixedOrders=true) {K:Cfg} (hp:K.pan=none:=by rfl) {T:World→Prop} {N0:Nat} (hT:∀w w',Below N0 w w'→T w→T w')
  {lib:FuncId→Option (List CV→Option CV)} (L:QnT P K.gl T lib) (Lt:∀f s,lib f=some s→Qae P f=none∧K.own f=none) (H:∀(B:Nat) (W0:Base),W0.K=K→N0≤B→T W0.W→Qjx P B W0):
  ∀(n B:Nat) (W0:Base),W0.K=K→N0≤B→T W0.W→CallOK P B W0 (QdK ok P K lib n)
 |0,B,W0,_,_,_=>⟨fun h=>by simp [QdK] at h,fun h=>by simp [QdK] at h⟩
 |n+1,B,W0,hK,hB,hW=>by
  subst hK
  have key:∀{f args r},QdK ok P W0.K lib (n+1) f args=some r→(∃s,lib f=some s∧s args=some r)∨QfI P W0.K (QdK ok P W0.K lib n) n (evF2 ok P W0.K (QdK ok P W0.K lib n) n 9) f (args.map .val)=some r:=by
   intro f args r h
   unfold QdK at h
   split at h
   ·rename_i s hs;exact .inl ⟨s,hs,h⟩
   ·exact .inr h
  refine ⟨fun {f args r} h vs w=> ?_,fun {f args r} h w hw vs hbel hglob hle hz hv=> ?_⟩
  ·rcases key h with ⟨s,hs,h⟩|h
   ·exact (L f s hs args r h).1 vs w
   ·unfold QfI at h
    split at h
    ·obtain ⟨fn,c,hf,hb,_⟩:=Qpq h
     exact Qb1 N hf hb vs w
    ·split at h
     ·unfold Qin at h
      split at h
      ·rename_i fn hf
       split at h
       ·rename_i c hb
        exact Qb1 N hf hb vs w
       ·cases h
      ·cases h
     ·cases h
  ·have hTw:T w:=hT _ _ (hbel.mono hB) hW
   rcases key h with ⟨s,hs,h⟩|h
   ·refine ((L f s hs args r h).2 w hw vs hTw hz hglob hv).mono fun e w' he=> ?_
    obtain ⟨v,h',q1,q2,q3,q4,q5⟩:=he
    exact ⟨v,h',q1,q2,q3,q4,q5,(fun e he=>by rw [(Lt f s hs).1] at he;cases he),(fun e _ he=>by rw [(Lt f s hs).2] at he;cases he)⟩
   ·have CO:=Qns (ok:=ok) SE N hmix hp hT L Lt H n w.heap.size ⟨w,W0.K⟩ rfl (Nat.le_trans hB hle) hTw
    have IF:InlOK (β:=CV) noZ P w.heap.size ⟨w,W0.K⟩ (evF2 ok P W0.K (QdK ok P W0.K lib n) n 9):=QqS (W0:=⟨w,W0.K⟩) SE N CO (H _ ⟨w,W0.K⟩ rfl (Nat.le_trans hB hle) hTw) hmix hp 9
    have M:Mem P w.heap.size ⟨w,W0.K⟩ w {blk:=fun _ _=>none,hw:=hw,own:=fun _=>none} []:=
     ⟨Below.refl _ _,Nat.le_refl _,fun b p h=>(by cases h),hz,fun _ _ _=>rfl,fun d s cs h=>(by simp [box?,nthD] at h),fun _ _ _ _ _ h=>(by cases h),hglob⟩
    unfold QfI at h
    split at h
    ·rename_i hno
     refine (QkQ (W0:=⟨w,W0.K⟩) SE N CO hmix IF h w _ 0 M rfl vs (CRepT.vals hv)).2.mono fun e w' he=> ?_
     rcases he with ⟨v,x,mem',G',rfl,hk,M',_,hr,_,K'⟩|⟨_,_,_,q,_⟩
     case inr=>exact absurd q id
     exact ⟨x,G'.hw,rfl,K'.below,K'.low,M'.hw,(Qjd hk hr).1,(Qjd hk hr).2,(fun e _ he=>by rw [hno] at he;cases he)⟩
    ·rename_i e0 ho
     split at h
     ·rename_i ht
      refine (QnC SE N CO hmix IF h w _ M vs (CRepT.vals hv) rfl).2.mono fun e w' he=> ?_
      obtain ⟨x,G',rfl,M',hr,K',hfr⟩:=he
      exact ⟨x,G'.hw,rfl,K'.below,K'.low,M'.hw,hr,(fun e he=>by rw [ht] at he;cases he),(fun e _ he=>by rw [ho] at he;cases he;exact hfr)⟩
     ·cases h
end Go.Am
