/- What is said of slices.Collect over slices.Values holds. Conditions: as each says. -/
import Derived.Test.YtigmcfhmpcajlaaGreatDoorWv
import Derived.Test.YtigmcfhmpcajlaaGreatDoorAmC
import Derived.Test.YtigmcfhmpcajlaaGreatDoorLibOk
namespace Go.Proofs
open Go.RowKit Go.Am
variable {B:Nat} {W0:Base} {w:World} {G:Gh}
theorem Qwf {P:Program} {D:Nat} {mem:MemT} (M:Mem P B W0 w G mem) {w':World} {h':Hw} (hb:Below w.heap.size w w') (h1:∀b,b<w.heap.size→h' b=G.hw b) (h2:∀b,w'.heap.size≤b→h' b=0):
  Mem P B W0 w' {G with hw:=h'} mem∧Keeps B D w w' G {G with hw:=h'}:=by
 have N:∀q,Same q w w' G {G with hw:=h'}:=fun q=>by
  refine ⟨⟨fun b=> ?_,fun b i hi=> ?_,fun b e he=>by rw [Qcc (hb.block b (QgM he))];exact he⟩,fun _ _ _ h=>h,fun b hq=> ?_⟩
  ·by_cases hlt:b<w.heap.size
   ·exact Nat.le_of_eq (h1 b hlt).symm
   ·rw [M.hw b (by omega)];omega
  ·have hlt:b<w.heap.size:=Decidable.byContradiction fun hn=>by rw [M.hw b (by omega)] at hi;omega
   exact cell?_of_heap (hb.block b hlt) i
  ·have hlt:=(M.own b _ hq).2.1
   exact ⟨hq,h1 b hlt,hb.block b hlt⟩
 have hbB:Below B w w':=hb.mono M.base
 refine ⟨⟨M.below.trans hbB,Nat.le_trans M.base hb.size,fun b p hp=> ?_,h2,M.blk,fun d' s cs hbx=> ?_,M.inj,M.glob.keep (N .none).keep⟩,
  (N .none).keep,fun b _ _ _ hp=>(N _).own b hp,fun _ _ _ _ h=>h,hbB,fun b hb=>h1 b (Nat.lt_of_lt_of_le hb M.base),fun b hlt hf=>⟨hf,h1 b hlt,hb.block b hlt⟩,fun _ _=>rfl⟩
 ·have:=M.own b p hp
  exact ⟨this.1,Nat.lt_of_lt_of_le this.2.1 hb.size,this.2.2⟩
 ·obtain ⟨b,vs,T,fz,R⟩:=M.box d' s cs hbx
  have hlt:b<w.heap.size:=R.lt
  refine ⟨b,vs,T,fz,R.blk,R.lo,by rw [hb.block b hlt];exact R.heap,R.free,(h1 b hlt).trans R.hw,R.own,⟨R.rep.len,fun i hi=> ?_⟩⟩
  obtain ⟨u,q1,q2,q3⟩:=R.rep.rep i hi
  exact ⟨u,q1,q2,ARep.same (N _) (N _) _ q3⟩
theorem QrW:∀{l:LL} {zs:List Int},Qdr l=some zs→l=zs.map fun x=> [CV.int .i64 x]
 | [],zs,h=>by simp only [Qdr,Option.some.injEq] at h;subst h;rfl
 |c::l,zs,h=>by
  unfold Qdr at h
  split at h
  ·rename_i hh;cases hh
  ·rename_i a r hh
   simp only [List.cons.injEq] at hh
   obtain ⟨rfl,rfl⟩:=hh
   obtain ⟨ys,hy,rfl⟩:=Option.map_eq_some_iff.1 h
   simp [QrW hy]
  ·cases h
theorem QvA {vs:List AV} {mem:MemT} {l:LL} {q:LB→AV×MemT} {b:LB} {v:AV} {mem':MemT} (h:Qnl 107 vs mem=some (l,q)) (hb:bytesOf l=some b) (hq:q b=(v,mem'))
  {D:Nat} (M:Mem Tryz.prog B W0 w G mem) (hD:mem.length=D) {xs:List Value} (hx:ARepL Tryz.prog w G vs xs):
  Calls Tryz.prog 105 xs.toArray w fun e w'=>∃x G',e= .returned x∧Mem Tryz.prog B W0 w' G' mem'∧mem'.length=D∧ARep Tryz.prog w' G' .none v x∧v.copy=v∧Keeps B D w w' G G':=by
 unfold Qnl at h
 split at h
 ·rename_i f d s
  split at h
  ·rename_i c hf hbx
   obtain rfl:f=107:=by simpa using hf
   split at h
   ·rename_i x hcv
    simp only [Option.some.injEq,Prod.mk.injEq] at h
    obtain ⟨rfl,rfl⟩:=h
    cases hnk:QjX x with
    |false=>rw [hnk,cond_false] at hb;simp [bytesOf] at hb
    |true=>
     obtain ⟨n,l0,rfl,hs,hlen⟩:∃n l0,x= .list n l0∧(Qdr l0).isSome=true∧l0.length≤10000000:=by
      unfold QjX at hnk
      split at hnk
      ·simp only [Bool.and_eq_true,decide_eq_true_eq] at hnk
       exact ⟨_,_,rfl,hnk⟩
      ·cases hnk
     obtain ⟨zs,hzs⟩:=Option.isSome_iff_exists.1 hs
     simp only [Prod.mk.injEq] at hq
     obtain ⟨rfl,rfl⟩:=hq
     simp only [ARepL,ARep] at hx
     obtain ⟨v0,r,rfl,⟨cs,rfl,v1,r1,hcs,⟨bk,hbk,rfl⟩,rfl⟩,rfl⟩:=hx
     have hcs:cs= [.pointer (some (Qas bk 0))]:=hcs
     subst hcs
     obtain ⟨b',us,T,fz,R⟩:=M.box d s _ hbx
     obtain rfl:b'=bk:=by have:=R.blk.symm.trans hbk;simpa using this
     have hnr:Qaz c=false:=by
      cases hr:Qaz c with
      |false=>rfl
      |true=>obtain ⟨e,l,rfl⟩:=Qc8 hr;simp [QbF] at hcv
     have hcr:=QlM (R.rep.plain hnr).1 (fun o ho=>by obtain ⟨v,r1,r2,r3⟩:=(R.rep.plain hnr).2 o ho;exact ⟨v,_,r1,r2,r3⟩) hcv
     simp only [CRepV] at hcr
     obtain ⟨u,r',hus,_,hu,rfl⟩:=hcr
     have hblt:b'<w.heap.size:=R.lt
     have hcell:w.cell? ⟨b',0,none⟩=some u:=by
      simp only [World.cell?,R.cells (Qbw hnr)]
      have:us.toList[0]?=some u:=by rw [hus];rfl
      simpa using this
     have hl0:=QrW hzs
     have hzl:zs.length=l0.length:=by rw [hl0];simp
     have key:∃(p:Option Addr) (b off cap:Nat),u= .slice p l0.length cap∧l0.length≤cap∧(0<l0.length→p=some ⟨b,off,none⟩)∧(0<l0.length→b<w.heap.size)∧QhP w b off zs:=by
      simp only [CRep] at hu
      rcases hu with ⟨_,rfl,rfl⟩|⟨_,b,off,cap,es,⟨ad,rfl,had⟩,hcap,hes,hw',hll⟩
      ·simp only [Qdr,Option.some.injEq] at hzs
       subst hzs
       exact ⟨none,0,0,0,rfl,Nat.le_refl _,fun q=>absurd q (by simp),fun q=>absurd q (by simp),fun k x hk=>by simp at hk⟩
      ·obtain ⟨q1,q2⟩:=QlJ hzs hll
       refine ⟨some ad,b,off,cap,rfl,hcap,fun q=>by rw [had (.inr (by omega))],fun q=> ?_,q2⟩
       obtain ⟨x,ys,rfl⟩:=List.exists_cons_of_ne_nil (List.ne_nil_of_length_pos (show 0<zs.length by omega))
       have:=q2 0 x (by simp)
       refine Decidable.byContradiction fun hn=> ?_
       simp [World.cell?,Array.getElem?_eq_none (Nat.le_of_not_lt hn)] at this
     obtain ⟨p,b2,off,cap,rfl,hcap,k1,k2,k3⟩:=key
     refine (callsIn_wide.1 (Tryz.Collect_in Fence.wide 4 trivial trivial trivial rfl (Nat.le_refl _) b' b2 off l0.length cap p zs hzl hlen hcap k1 w k2 hblt k3 hcell)).mono fun e w' ⟨v,q1,q2,q3,q4⟩=> ?_
     subst q1
     obtain ⟨M',K'⟩:=Qwf (D:=D) M (h':=fun b=>if b<w.heap.size then G.hw b else Qhk w' b) q4 (fun b hb=>if_pos hb) (fun b hb=>by
      have:=q4.size
      simp only [if_neg (show ¬b<w.heap.size by omega)]
      simp [Qhk,Array.getElem?_eq_none hb])
     refine ⟨v,_,rfl,M',hD, ?_,rfl,K'⟩
     simp only [ARep,QlE]
     cases hzz:zs with
     |nil=>
      rw [q3.2 hzz]
      have:l0= []:=by rw [hl0,hzz];rfl
      subst this
      simp only [CRep]
      exact .inl (by simp)
     |cons x0 s0=>
      have hne:l0.isEmpty=false:=by rw [hl0,hzz];rfl
      rw [hne,hl0]
      obtain ⟨m,hm⟩:∃m,zs.length=m+1:=⟨s0.length,by rw [hzz];rfl⟩
      rw [hm] at q2
      obtain ⟨g,capg,rfl⟩:=Ql3 q2
      obtain ⟨o1,o2,o3⟩:=Qo3 q2
      have:=Qo9 (w:=w') (h:=fun b=>if b<w.heap.size then G.hw b else Qhk w' b) (g:=g) (off:=0) (cap:=capg) (es:=1) (l:=zs.map fun x=> [CV.int .i64 x]) (us:=zs.map (Value.int .i64)) (by simp) (by simpa [hm] using o2)
       (by simp only [if_neg (show ¬g<w.heap.size by omega)];simpa [hm] using o1) (fun i u hi=> ?_) (Qvt _)
      ·simpa [hm] using this
      ·rw [Nat.zero_add]
       have hi2:i<zs.length:=by simpa using (List.getElem?_eq_some_iff.1 hi).1
       rw [←hi,←q2.cellAt i (by omega)]
   ·cases h
  ·cases h
 ·cases h
end Go.Proofs
