/- cond.read on texts that laws read as examples: the part is evaluated in read's frame, the deferred closure finds no panic. Conditions: none. -/
import Derived.Test.YtbdclhadjcfadaaGreatDoorCs
import Derived.Test.YtbdclhadjcfadaaGreatDoorNh
import Derived.Tactics
import Derived.Tactics2
import Derived.Defers
import Derived.Recover
import Derived.Laws.Pointers
import Derived.BigRegion
namespace Go.Proofs
open Go.Am Go.RowKit
set_option maxRecDepth 100000
noncomputable def partK:AV → List (List (Option (List AV))) → Option CV := fun v mem => match v.out,mem with
 | some c,[[some [.val (.str r)]]] => some (.tup [c, .str r])
 | _,_ => none
noncomputable def Qus (lb n:Nat) (s:List UInt8):Option CV := evF Tryz.prog KK (C lb n) n 9 55 [.ptr 0 0 0] [[some [.val (.str s)]]] partK
noncomputable def QCu (lb n:Nat) (s:List UInt8):Option CV := evFN Tryz.prog KK (Qru Tryz.prog KK (L lb) n) n 9 55 [.ptr 0 0 0] [[some [.val (.str s)]]] partK
theorem QAX (lb n:Nat) (s:List UInt8):Qus lb n s = QCu lb n s := by
 show evF Tryz.prog KK (Qbw Tryz.prog KK (L lb) n) n 9 _ _ _ _ = _
 rw [Qxm,QuZ]
 rfl
theorem QAZ {s:List UInt8} {x:Int × Int × Int} (h:Qjz s = some x):Qus 1 60 s = some (.tup [Qmz x, .str []]) := by
 rw [QAX]
 unfold Qjz at h
 split at h
 ·rename_i e; subst e; cases h; kernel_rfl
 ·split at h
  ·rename_i e; subst e; cases h; kernel_rfl
  ·cases h
theorem QAT {lb n:Nat} (hL:QmH Tryz.prog KK.gl (Tw lb) (L lb)) {s r:List UInt8} {c:CV} (h:Qus lb n s = some (.tup [c, .str r])) (w:World) (hT:Tw lb w) (h0:Hw) (hz:∀ b,w.heap.size ≤ b → h0 b = 0) (hg:GlobOK KK.gl w h0) :
  Calls Tryz.prog 55 #[.pointer (some ⟨w.heap.size,0,none⟩)] (w.alloc (.cells #[.string ⟨s.toArray⟩] 74)) fun e w' => ∃ v h',e = .returned v ∧ Below w.heap.size w w' ∧ CRep w' h' c v ∧
   w'.cell? ⟨w.heap.size,0,none⟩ = some (.string ⟨r.toArray⟩) := by
 have CO:CallOK Tryz.prog w.heap.size ⟨w,KK⟩ (C lb n) :=
  QfR (Qc4 _) Tryz.names (Checked.mixed Tryz.checked) (hp := rfl) (K := KK) (T := fun w' => Below w.heap.size w w') (N0 := w.heap.size) (fun _ _ h1 h2 => h2.trans h1) (lib := L lb)
   (fun f s hs args r hr => ⟨(hL f s hs args r hr).1,fun w h vs hw hz hg hv => (hL f s hs args r hr).2 w h vs (Tw.below hT hw) hz hg hv⟩) (Qow lb) (fun _ _ hK _ _ => Qnw hK)
   n w.heap.size ⟨w,KK⟩ rfl (Nat.le_refl _) (Below.refl _ _)
 have Iok:InlOK (β := CV) noZ Tryz.prog w.heap.size ⟨w,KK⟩ (evF Tryz.prog KK (C lb n) n 9) := Qnz (hp := rfl) (W0 := ⟨w,KK⟩) (Qc4 _) Tryz.names CO (Qnw rfl) (Checked.mixed Tryz.checked) 9
 have M0:Mem Tryz.prog w.heap.size ⟨w,KK⟩ w { blk := fun _ _ => none,hw := h0,own := fun _ => none } [[none]] :=
  ⟨Below.refl _ _,Nat.le_refl _,fun b p h => (by cases h),hz,fun _ _ _ => rfl,fun d s cs h => (by
   rcases d with _ | d <;> rcases s with _ | s <;> simp [box?,nthD] at h),fun _ _ _ _ _ h => (by cases h),hg⟩
 have M1 := M0.newBox (d := 0) (s := 0) (cs := [.val (.str s)]) (us := [.string ⟨s.toArray⟩]) (T := 74) rfl (by decide) (by decide) (⟨Fits.of rfl rfl,fun o ho => by
  obtain rfl:o = 0 := by simp [xp] at ho; omega
  exact ⟨_,rfl,rfl,by simp [xp,nthD,ARep,CRep]⟩⟩)
 refine (Iok.run0 (by simp) h _ _ 1 M1 rfl [.pointer (some (Qap w.heap.size 0))] (by
  simp only [ARepL,ARep]
  exact ⟨_,_,rfl,⟨w.heap.size,by simp [Gh.put],rfl⟩,rfl⟩)).2.mono fun e w' he => ?_
 obtain ⟨v,x,mem',G',rfl,hk,M',hlen,hr,_,K'⟩ := he
 unfold partK at hk
 split at hk
 ·rename_i c' r' ho
  simp only [Option.some.injEq,CV.tup.injEq,List.cons.injEq,CV.str.injEq,and_true] at hk
  obtain ⟨rfl,rfl⟩ := hk
  obtain ⟨b,vs,T,fz,R⟩ := M'.box 0 0 _ rfl
  have hb := K'.blk 0 0 w.heap.size (by decide) (by simp [Gh.put])
  have hbb := R.blk.symm.trans hb
  simp only [Option.some.injEq] at hbb
  subst hbb
  obtain ⟨u,h1,_,h3⟩ := R.rep.rep 0 (by simp [xp])
  simp only [xp,nthD,ARep,CRep] at h3
  subst h3
  refine ⟨x,G'.hw,rfl,M'.below,Qk0 ho hr, ?_⟩
  have hh := R.heap
  simp only [World.cell?,hh]
  simpa using h1
 ·cases hk
theorem Qqw {w W:World} {h:Hw} {gl:Nat → Option (List CV)} (hz:∀ b,w.heap.size ≤ b → h b = 0) (hg:GlobOK gl w h) (hb:Below w.heap.size w W):GlobOK gl W h := by
 refine GlobOK.keep ⟨fun _ => Nat.le_refl _,fun b i hi => ?_,fun b e he => ?_⟩ hg
 ·have:b < w.heap.size := Decidable.byContradiction fun hn => by rw [hz b (by omega)] at hi; omega
  exact cell?_of_heap (hb.block b this) i
 ·exact (Qc8 (hb.block b (QiC he))).trans he
theorem Qtl (p q:Addr) (w:World) :
  CallsD Tryz.prog 54 #[.pointer (some p), .pointer (some q)] .returning w fun e u' w' => e = .returned (.tuple #[]) ∧ u' = .returning ∧ w' = w := by
 refine callsD_of_wpS Tryz.func54 rfl fun c₀ cs hu => ?_
 apply wpS_seq
 apply wpS_region
 simp [wpOpsS,go_sem,recoverD,hu,Tryz.ntmps54,Exit.thenS]
 apply wpS_seq
 apply wpS_region
 simp [wpOpsS,go_sem,recoverD,hu,Exit.thenS]
 refine wpS_cond (t := false) (by simp [Act.eval,Array.replicate]) ?_
 simp only [Bool.false_eq_true,if_false]
 refine wpS_of_wp (wp_skip ?_)
 cases c₀
 simp_all [bodyPostS,results,Tryz.results54]
def Cells8 (n:Nat) (l:List Value) (W:World):Prop := l.length = 8 ∧ ∀ i,i < 8 → W.cell? ⟨n,i,none⟩ = l[i]?
theorem Cells8.set {n:Nat} {l:List Value} {W:World} (h:Cells8 n l W) (i:Nat) (v:Value) (hi:i < 8):Cells8 n (l.set i v) (W.setCell ⟨n,i,none⟩ v) := by
 refine ⟨by rw [List.length_set]; exact h.1,fun j hj => ?_⟩
 by_cases e:i = j
 ·subst e
  have hl:i < l.length := by rw [h.1]; exact hi
  rw [List.getElem?_set_self hl]
  exact World.cell?_setCell_same _ _ _ ((h.2 i hi).trans (List.getElem?_eq_getElem hl))
 ·rw [List.getElem?_set_ne e,World.cell?_setCell_other _ _ _ _ (by intro q; simp only [Addr.mk.injEq,true_and,and_true] at q; exact e q)]
  exact h.2 j hj
theorem Cells8.other {n:Nat} {l:List Value} {W:World} {p:Addr} {v:Value} (h:Cells8 n l W) (hp:p.block ≠ n):Cells8 n l (W.setCell p v) :=
 ⟨h.1,fun j hj => (World.cell?_setCell_other _ _ _ _ (by intro q; exact hp (by rw [q]))).trans (h.2 j hj)⟩
theorem Cells8.drew {n:Nat} {l:List Value} {W:World} (h:Cells8 n l W):Cells8 n l W.drew := h
set_option maxHeartbeats 4000000 in
theorem Qz7 {lb n:Nat} (hL:QmH Tryz.prog KK.gl (Tw lb) (L lb)) {s:List UInt8} {x:Int × Int × Int} (h:Qus lb n s = some (.tup [Qmz x, .str []])) (w:World) (hT:Tw lb w) (h0:Hw) (hz:∀ b,w.heap.size ≤ b → h0 b = 0) (hg:GlobOK KK.gl w h0) :
  Calls Tryz.prog 22 #[.string ⟨s.toArray⟩] w fun e w' =>
   e = .returned (.tuple #[.agg #[.int .i64 x.1, .slice none 0 0, .int .i64 x.2.1, .int .i64 x.2.2, .int .i64 0, .int .i64 0, .int .i64 0, .slice none 0 0], .bool true]) ∧ Below w.heap.size w w' := by
 have hmf:∀ (fn:Fn) (first cap:Array Value) (w:World),(Instr.makeFunc fn first cap).run Tryz.prog w = .ok (.func fn first cap) w := fun _ _ _ _ => rfl
 go_enter_defers Tryz.func22,Tryz.ntmps22
 have hb2:∀ A B:Obj,Below w.heap.size w ((w.alloc A).alloc B) := fun A B => ((Below.refl _ _).alloc (Nat.le_refl _) A).alloc (by simp) B
 have hsz:∀ A B:Obj,((w.alloc A).alloc B).heap.size = w.heap.size + 2 := fun A B => by simp
 have hp:∀ (b:Nat) (W:World),Tw lb W → Below w.heap.size w W → W.heap.size = b → Calls Tryz.prog 55 #[.pointer (some ⟨b,0,none⟩)] (W.alloc (.cells #[.string ⟨s.toArray⟩] 74)) fun e w' => e = .returned (.agg #[.int .i64 x.1, .slice none 0 0, .int .i64 x.2.1, .int .i64 x.2.2, .int .i64 0, .int .i64 0, .int .i64 0, .slice none 0 0]) ∧ Below b W w' ∧
   w'.cell? ⟨b,0,none⟩ = some (.string ⟨#[]⟩) := by
  intro b W hW hbl hb
  subst hb
  refine (QAT hL h W hW h0 (fun b hb => hz b (Nat.le_trans hbl.size hb)) (Qqw hz hg hbl)).mono fun e w' ⟨v,h',h1,h2,h3,h4⟩ => ?_
  subst h1
  refine ⟨?_,h2,h4⟩
  simp only [Qmz,CRep,CRepV] at h3
  obtain ⟨vs,rfl,v1,r1,rfl,_,rfl,v2,r2,rfl,_,h3,v3,r3,rfl,_,rfl,v4,r4,rfl,_,rfl,v5,r5,rfl,_,rfl,v6,r6,rfl,_,rfl,v7,r7,rfl,_,rfl,v8,r8,rfl,_,h5,rfl⟩ := h3
  simp at h3 h5
  subst h3; subst h5
  rfl
 have hB:∀ (A B:Obj) (w' : World),Below (w.heap.size + 2) ((w.alloc A).alloc B) w' → w'.heap[w.heap.size]? = some A ∧ w'.heap[w.heap.size + 1]? = some B := by
  intro A B w' hb
  refine ⟨?_, ?_⟩
  ·rw [hb.block w.heap.size (by omega),Below.heap_alloc _ _ _ (by simp)]; exact heap_alloc_new w A
  ·rw [hb.block (w.heap.size + 1) (by omega)]; have := heap_alloc_new (w.alloc A) B; simpa using this
 go_wp2_with (go_at_call 55; fail)
 refine (hp _ _ (Tw.below hT (hb2 _ _)) (hb2 _ _) (hsz _ _)).mono ?_
 rintro e w' ⟨rfl,hbel,hcell⟩
 obtain ⟨g1,g2⟩ := hB _ _ _ hbel
 have c0:w'.cell? ⟨w.heap.size,0,none⟩ = some (.int .i64 0) := by simp only [World.cell?,g1]; rfl
 have c1:w'.cell? ⟨w.heap.size,1,none⟩ = some (.slice none 0 0) := by simp only [World.cell?,g1]; rfl
 have c2:w'.cell? ⟨w.heap.size,2,none⟩ = some (.int .i64 0) := by simp only [World.cell?,g1]; rfl
 have c3:w'.cell? ⟨w.heap.size,3,none⟩ = some (.int .i64 0) := by simp only [World.cell?,g1]; rfl
 have c4:w'.cell? ⟨w.heap.size,4,none⟩ = some (.int .i64 0) := by simp only [World.cell?,g1]; rfl
 have c5:w'.cell? ⟨w.heap.size,5,none⟩ = some (.int .i64 0) := by simp only [World.cell?,g1]; rfl
 have c6:w'.cell? ⟨w.heap.size,6,none⟩ = some (.int .i64 0) := by simp only [World.cell?,g1]; rfl
 have c7:w'.cell? ⟨w.heap.size,7,none⟩ = some (.slice none 0 0) := by simp only [World.cell?,g1]; rfl
 have d0:w'.cell? ⟨w.heap.size + 1,0,none⟩ = some (.bool false) := by simp only [World.cell?,g2]; rfl
 have z:∀ o,w'.frozen? ⟨w.heap.size,o,none⟩ = false := by intro o; simp only [World.frozen?,g1]; simp
 have z1:∀ o,w'.frozen? ⟨w.heap.size + 1,o,none⟩ = false := by intro o; simp only [World.frozen?,g2]; simp
 go_wp2
 go_region
 go_wp2
 have hb0:Below w.heap.size w w' := (hb2 _ _).trans (hbel.mono (by omega))
 refine (show ∀ W:World,Cells8 w.heap.size [.int .i64 x.1, .slice none 0 0, .int .i64 x.2.1, .int .i64 x.2.2, .int .i64 0, .int .i64 0, .int .i64 0, .slice none 0 0] W → W.cell? ⟨w.heap.size + 1,0,none⟩ = some (.bool true) → Below w.heap.size w W → bodyPostD _ _ _ _ _ W from fun W k0 k1 k2 => ?_) _ ?_ ?_ ?_
 ·have e0 := k0.2 0 (by decide)
  have e1 := k0.2 1 (by decide)
  have e2 := k0.2 2 (by decide)
  have e3 := k0.2 3 (by decide)
  have e4 := k0.2 4 (by decide)
  have e5 := k0.2 5 (by decide)
  have e6 := k0.2 6 (by decide)
  have e7 := k0.2 7 (by decide)
  simp only [List.getElem?_cons_zero,List.getElem?_cons_succ] at e0 e1 e2 e3 e4 e5 e6 e7
  refine leaves_cons (f := 54) (args := #[.pointer (some ⟨w.heap.size,0,none⟩), .pointer (some ⟨w.heap.size + 1,0,none⟩)]) (by simp) (by simp [go_sem]) ?_
  refine (Qtl _ _ _).mono ?_
  rintro e u' w'' ⟨rfl,rfl,rfl⟩
  simp [Leaves,settle,results,Tryz.results22,go_sem,e0,e1,e2,e3,e4,e5,e6,e7,k1]
  exact k2
 ·have h0:Cells8 w.heap.size [.int .i64 0, .slice none 0 0, .int .i64 0, .int .i64 0, .int .i64 0, .int .i64 0, .int .i64 0, .slice none 0 0] w' := by
   refine ⟨rfl,fun i hi => ?_⟩
   rcases i with _ | _ | _ | _ | _ | _ | _ | _ | i
   ·exact c0
   ·exact c1
   ·exact c2
   ·exact c3
   ·exact c4
   ·exact c5
   ·exact c6
   ·exact c7
   ·omega
  refine Cells8.drew (Cells8.other ?_ (by simp))
  exact (h0.set 0 _ (by decide) |>.set 1 _ (by decide) |>.set 2 _ (by decide) |>.set 3 _ (by decide) |>.set 4 _ (by decide) |>.set 5 _ (by decide) |>.set 6 _ (by decide) |>.set 7 _ (by decide)
   |>.set 0 _ (by decide) |>.set 1 _ (by decide) |>.set 2 _ (by decide) |>.set 3 _ (by decide) |>.set 4 _ (by decide) |>.set 5 _ (by decide) |>.set 6 _ (by decide) |>.set 7 _ (by decide))
 ·have hd:∀ (W:World) (a:Addr),W.drew.cell? a = W.cell? a := fun _ _ => rfl
  rw [hd]
  refine World.cell?_setCell_same (u := .bool false) _ _ _ ?_
  iterate 16 refine (World.cell?_setCell_other _ _ _ _ (by simp)).trans ?_
  exact d0
 ·have hd:∀ {W:World},Below w.heap.size w W → Below w.heap.size w W.drew := fun h => ⟨h.os,h.tape,h.output,h.size,h.block⟩
  refine hd ?_
  iterate 17 refine Below.setCell ?_ (by simp) _
  exact hb0
end Go.Proofs
namespace Go.Proofs
open Go.Am Go.RowKit
set_option maxRecDepth 100000
theorem Qv3 {P:Program} {B:Nat} {W0:Base} {w w' : World} {G:Gh} {mem mem' : MemT} {h' : Hw} (M:Mem P B W0 w G mem) (D:Nat) (hk:Keep w w' G.hw h') (hB:Below B w w') (h2:∀ b,w'.heap.size ≤ b → h' b = 0)
  (hlow:∀ b,b < w.heap.size → h' b = G.hw b) (hown:∀ b p,G.own b = some p → w'.heap[b]? = w.heap[b]?) (hrest:∀ b,b < w.heap.size → Free G b → w'.heap[b]? = w.heap[b]?)
  (hnone:∀ d s,box? mem' d s = none → box? mem d s = none)
  (hbox:∀ d s cs,box? mem' d s = some cs → (box? mem d s = some cs ∧ ∀ b,G.blk d s = some b → w'.heap[b]? = w.heap[b]?) ∨ ∃ b vs T fz,BoxRep P B w' { G with hw := h' } d s cs b vs T fz) :
  Mem P B W0 w' { G with hw := h' } mem' ∧ Keeps B D w w' G { G with hw := h' } := by
 have N:∀ q,Same q w w' G { G with hw := h' } := fun q => ⟨hk,fun _ _ _ h => h,fun b hq => ⟨hq,hlow b (M.own b _ hq).2.1,hown b q hq⟩⟩
 refine ⟨⟨M.below.trans hB,Nat.le_trans M.base hB.size,fun b p hp => ?_,h2,fun d s hb => M.blk d s (hnone d s hb),fun d s cs hb => ?_,M.inj,M.glob.keep hk⟩,
  hk,fun b d i _ hp => (N _).own b hp,fun _ _ _ _ h => h,hB,fun b hb => hlow b (Nat.lt_of_lt_of_le hb M.base),fun b hlt hf => ⟨hf,hlow b hlt,hrest b hlt hf⟩,fun _ _ => rfl⟩
 ·have := M.own b p hp
  exact ⟨this.1,Nat.lt_of_lt_of_le this.2.1 hB.size,this.2.2⟩
 ·rcases hbox d s cs hb with ⟨h0,he⟩ | h
  ·obtain ⟨b,vs,T,fz,R⟩ := M.box d s cs h0
   have hlt:b < w.heap.size := (Array.getElem?_eq_some_iff.1 R.heap).1
   refine ⟨b,vs,T,fz,R.blk,R.lo,by rw [he b R.blk]; exact R.heap,R.free,(hlow b hlt).trans R.hw,R.own,⟨R.rep.len,fun i hi => ?_⟩⟩
   obtain ⟨u,q1,q2,q3⟩ := R.rep.rep i hi
   exact ⟨u,q1,q2,ARep.same (N _) (N _) _ q3⟩
  ·exact h
def panE:List PanicEntry := [{ v := .iface 70 (.agg #[]),recovered := false }]
def Zp (r:CV) (ch:List PanicEntry):Prop := r = .err ∧ ch = panE
theorem QCY (t:TypeId) (ht:K3.KK.pan = some t) (w:World):(Instr.build t #[]).run Tryz.prog w = .ok (.agg #[]) w ∧ (Instr.makeInterface t (.agg #[])).run Tryz.prog w = .ok (.iface t (.agg #[])) w := by
 have ht:some 70 = some t := ht
 obtain rfl := Option.some.inj ht
 have hu:Tryz.prog.underlying 70 = some (.struct #[]) := by kernel_rfl
 have hi:(Tryz.prog.info? 70).map (·.zero) = some (some (.agg #[])) := by kernel_rfl
 obtain ⟨i,h1,h2⟩ := Option.map_eq_some_iff.1 hi
 have hz:∀ w,(zeroValue 70).run Tryz.prog w = .ok (.agg #[]) w := fun w => by simp [zeroValue,typeInfo,h1,h2]
 refine ⟨?_, ?_⟩
 ·simp [Instr.build,hz,run_underlying hu]
  rfl
 ·simp [Instr.makeInterface,run_underlying hu]
section
variable {B:Nat} {W:World}
theorem inlE:InlR Zp Tryz.prog B ⟨W,K3.KK⟩ (fun _ _ _ _ => none) :=
 ⟨fun _ h => (by cases h),fun _ _ _ _ _ h => (by cases h),fun f it h => (by have h:(none:Option _) = some it := h; cases h),fun h => by cases h⟩
theorem pans {inl:Inl} (Iok:InlR Zp Tryz.prog B ⟨W,K3.KK⟩ inl):InlOK Zp Tryz.prog B ⟨W,K3.KK⟩ (Qil (some .err) inl) :=
 Qvd Iok rfl (fun r t h1 h2 => by
  have h2:some 70 = some t := h2
  obtain rfl := Option.some.inj h2
  obtain rfl := Option.some.inj h1
  exact ⟨rfl,rfl⟩) QCY
theorem QBu (hT:Tw 1 W) (lb n:Nat):CallOK Tryz.prog W.heap.size ⟨W,K3.KK⟩ (K3.C lb n) := by
 have hL:QmH Tryz.prog KK.gl (Tw 1) (L 1) := QzA 1 (by decide)
 have H:∀ m,CallOK Tryz.prog W.heap.size ⟨W,KK⟩ (C 1 m) := fun m =>
  QfR (Qc4 _) Tryz.names (Checked.mixed Tryz.checked) (hp := rfl) (K := KK) (T := fun w' => Below W.heap.size W w') (N0 := W.heap.size) (fun _ _ h1 h2 => h2.trans h1) (lib := L 1)
   (fun f s hs args r hr => ⟨(hL f s hs args r hr).1,fun w h vs hw hz hg hv => (hL f s hs args r hr).2 w h vs (Tw.below hT hw) hz hg hv⟩) (Qow 1) (fun _ _ hK _ _ => Qnw hK)
   m W.heap.size ⟨W,KK⟩ rfl (Nat.le_refl _) (Below.refl _ _)
 have h5:∀ f s,K5.L f = some s → L 1 f = some s := fun f s hs => by
  unfold K5.L at hs
  split at hs
  ·cases hs
  ·rw [L_1]; exact hs
 have H5:∀ m,CallOK Tryz.prog W.heap.size ⟨W,KK⟩ (Qbw Tryz.prog KK K5.L m) := fun m =>
  QfR (Qc4 _) Tryz.names (Checked.mixed Tryz.checked) (hp := rfl) (K := KK) (T := fun w' => Below W.heap.size W w') (N0 := W.heap.size) (fun _ _ h1 h2 => h2.trans h1) (lib := K5.L)
   (fun f s hs args r hr => ⟨(hL f s (h5 f s hs) args r hr).1,fun w h vs hw hz hg hv => (hL f s (h5 f s hs) args r hr).2 w h vs (Tw.below hT hw) hz hg hv⟩) (fun f s hs => Qow 1 f s (h5 f s hs)) (fun _ _ hK _ _ => Qnw hK)
   m W.heap.size ⟨W,KK⟩ rfl (Nat.le_refl _) (Below.refl _ _)
 have key:∀ {f args r},K3.C lb n f args = some r → ∃ call,CallOK Tryz.prog W.heap.size ⟨W,KK⟩ call ∧ call f args = some r := by
  intro f args r h
  unfold K3.C at h
  cases hf:f == Qat with
  | true =>
   rw [hf,cond_true] at h
   obtain rfl := eq_of_beq hf
   unfold K5.any at h
   split at h
   ·rename_i r1 h1
    refine ⟨C 1 1,H 1, ?_⟩
    rw [Qux 1 0 Qat args (s := QdC) (by rw [L_1]; rfl),h1]
    exact h
   ·obtain ⟨N,hN⟩ := QAE h
    exact ⟨_,H5 N,hN N (Nat.le_refl _)⟩
  | false =>
   rw [hf,cond_false] at h
   refine ⟨C 1 n,H n, ?_⟩
   show Qbw Tryz.prog KK (L 1) n f args = some r
   rw [L_1]
   exact h
 refine ⟨fun h => ?_,fun h => ?_⟩
 ·obtain ⟨call,hc,h⟩ := key h
  exact hc.enter h
 ·obtain ⟨call,hc,h⟩ := key h
  exact hc.calls h
variable {lb n:Nat} (CO:CallOK Tryz.prog B ⟨W,K3.KK⟩ (K3.C lb n))
include CO
theorem inl8:InlOK Zp Tryz.prog B ⟨W,K3.KK⟩ (K3.I8 lb n) := pans (QiM (W0 := ⟨W,K3.KK⟩) (Qc4 _) Tryz.names CO (Checked.mixed Tryz.checked) (pans inlE))
theorem inl9:InlOK Zp Tryz.prog B ⟨W,K3.KK⟩ (K3.I9 lb n) := pans (QiM (W0 := ⟨W,K3.KK⟩) (Qc4 _) Tryz.names CO (Checked.mixed Tryz.checked) (inl8 CO))
end
def Qy9 (B:Nat) (W:World) (pe:List UInt8 → Option CV):Prop := ∀ s r,pe s = some r → ∀ w G,Mem Tryz.prog B ⟨W,K3.KK⟩ w G [[some [.val (.str s)]]] → ∀ xs:List Value,ARepL Tryz.prog w G [.ptr 0 0 0] xs →
 (∀ w',(callFunc Qab xs.toArray).run Tryz.prog w' = .ok (.enter Qab xs.toArray) w') ∧ Calls Tryz.prog Qab xs.toArray w (Qjs Zp Tryz.prog B ⟨W,K3.KK⟩ K4.partK r w G 1)
theorem Qvm {B:Nat} {W:World} {n:Nat} (CO:CallOK Tryz.prog B ⟨W,K3.KK⟩ (K3.C 1 n)) {v r:CV} {lb:Nat} (h:K4.LE lb n v = some r) (w:World) (G:Gh) (M:Mem Tryz.prog B ⟨W,K3.KK⟩ w G []) (xs:List Value) (hx:ARepL Tryz.prog w G [.val v] xs) :
  (∀ w',(callFunc QaW xs.toArray).run Tryz.prog w' = .ok (.enter QaW xs.toArray) w') ∧ Calls Tryz.prog QaW xs.toArray w (Qjs Zp Tryz.prog B ⟨W,K3.KK⟩ (K3.outK (Qag Tryz.prog QaW)) r w G 0) := by
 unfold K4.LE K3.top at h
 exact Qf1 (W0 := ⟨W,K3.KK⟩) (Qc4 _) Tryz.names CO (Checked.mixed Tryz.checked) (inl9 CO) h w G 0 M rfl xs hx
def Gh.bare (G:Gh):Gh := { blk := fun _ _ => none,hw := G.hw,own := fun _ => none,lo := G.lo }
def Gh.one (G:Gh):Gh := { blk := fun d s => if d = 0 ∧ s = 0 then G.blk 0 0 else none,hw := G.hw,own := fun _ => none,lo := G.lo }
theorem Qwj {P:Program} {B:Nat} {W0:Base} {w:World} {G:Gh} {mem:MemT} (M:Mem P B W0 w G mem):Mem P B W0 w (Gh.bare G) [] :=
 ⟨M.below,M.base,fun b p h => (by cases h),M.hw,fun _ _ _ => rfl,fun d s cs h => (by simp [box?,nthD] at h),fun _ _ _ _ _ h => (by cases h),M.glob⟩
theorem QB2 {c:List AV} {d s:Nat} {cs:List AV} (h:box? [[some c]] d s = some cs):d = 0 ∧ s = 0 ∧ cs = c := by
 rcases d with _ | d <;> rcases s with _ | s <;> simp [box?,nthD] at h
 exact ⟨rfl,rfl,h.symm⟩
theorem QBp {P:Program} {B:Nat} {W0:Base} {w:World} {G:Gh} {mem:MemT} {v:CV} (M:Mem P B W0 w G mem) (hb:box? mem 0 0 = some [.val v]):Mem P B W0 w (Gh.one G) [[some [.val v]]] := by
 refine ⟨M.below,M.base,fun b p h => (by cases h),M.hw,fun d s h => ?_,fun d s cs h => ?_,fun d s d' s' b h1 h2 => ?_,M.glob⟩
 ·show (if d = 0 ∧ s = 0 then G.blk 0 0 else none) = none
  rw [if_neg]
  rintro ⟨rfl,rfl⟩
  simp [box?,nthD] at h
 ·obtain ⟨rfl,rfl,rfl⟩ := QB2 h
  obtain ⟨b,vs,T,fz,R⟩ := M.box 0 0 _ hb
  refine ⟨b,vs,T,fz,(by show (if (0:Nat) = 0 ∧ (0:Nat) = 0 then G.blk 0 0 else none) = some b; rw [if_pos ⟨rfl,rfl⟩]; exact R.blk),R.lo,R.heap,R.free,R.hw,rfl,R.rep.len,fun o ho => ?_⟩
  obtain ⟨u,q1,q2,q3⟩ := R.rep.rep o ho
  refine ⟨u,q1,q2, ?_⟩
  obtain rfl:o = 0 := by simp [xp] at ho; omega
  simpa [xp,QaC,nthD,ARep,Gh.one] using q3
 ·simp only [Gh.one] at h1 h2
  split at h1
  ·split at h2
   ·rename_i e1 e2; exact ⟨e1.1.trans e2.1.symm,e1.2.trans e2.2.symm⟩
   ·cases h2
  ·cases h1
theorem Qzj {mem:MemT} {a:AV} (h:box? mem 0 0 = some [a]):∃ r q,mem = (some [a] :: r) :: q := by
 unfold box? at h
 rcases mem with _ | ⟨f,q⟩
 ·simp [nthD] at h
 ·rcases f with _ | ⟨x,r⟩
  ·simp [nthD] at h
  ·simp only [nthD] at h; subst h; exact ⟨r,q,rfl⟩
theorem QvF {r:List (Option (List AV))} {q:MemT} {a:AV} {s:List UInt8} (d i:Nat):box? (K4.partBox s ((some [a] :: r) :: q)) d i = if d = 0 ∧ i = 0 then some [.val (.str s)] else box? ((some [a] :: r) :: q) d i := by
 rcases d with _ | d <;> rcases i with _ | i <;> simp [K4.partBox,box?,nthD]
theorem QAw {B:Nat} {W:World} {lb n:Nat} {pe:List UInt8 → Option CV} (CO:CallOK Tryz.prog B ⟨W,K3.KK⟩ (K3.C lb n)) (CO1:CallOK Tryz.prog B ⟨W,K3.KK⟩ (K3.C 1 n)) (hpe:Qy9 B W pe):InlR Zp Tryz.prog B ⟨W,K3.KK⟩ (K4.partI pe lb n) := by
 refine ⟨fun {f vs mem k r} hne h w G D M hD xs hx => ?_,fun f vs mem k r h => ?_,(inl8 CO).iter,fun h => by cases h⟩
 ·unfold K4.partI at h
  cases hf:f == Qab with
  | true =>
   rw [hf,cond_true] at h
   obtain rfl := eq_of_beq hf
   split at h
   ·rename_i v hbx
    obtain ⟨s,hs,h1⟩ := Qaf h
    clear h
    have hv:v = .str s := by
     unfold CV.asS at hs
     split at hs
     ·rename_i s'; cases hs; rfl
     ·cases hs
    subst hv
    have M1 := QBp M hbx
    have hx1:ARepL Tryz.prog w (Gh.one G) [.ptr 0 0 0] xs := by
     simp only [ARepL,ARep] at hx ⊢
     obtain ⟨x,rest,rfl,⟨bl,hbl,hv⟩,hr⟩ := hx
     exact ⟨x,rest,rfl,⟨bl,by simp [Gh.one,hbl],hv⟩,hr⟩
    obtain ⟨b0,vs0,T0,fz0,R0⟩ := M.box 0 0 _ hbx
    have hb1:(Gh.one G).blk 0 0 = some b0 := by simp [Gh.one,R0.blk]
    have free1:∀ b,b ≠ b0 → Free (Gh.one G) b := fun b hb => ⟨rfl,fun d i hbl => by
     simp only [Gh.one] at hbl
     split at hbl
     ·rw [R0.blk] at hbl; exact hb (Option.some.inj hbl).symm
     ·cases hbl⟩
    have hfree:∀ b,Free G b → b ≠ b0 := fun b hb e => hb.2 0 0 (by rw [e]; exact R0.blk)
    unfold panP at h1
    split at h1
    ·rename_i hr0
     obtain rfl := Option.some.inj h1
     obtain ⟨g1,g2⟩ := hpe s _ hr0 w _ M1 xs hx1
     refine ⟨g1,g2.mono fun e w' he => ?_⟩
     rcases he with ⟨v,x,mem',G',rfl,hk,_⟩ | ⟨ch,G',rfl,hz,K'⟩
     ·unfold K4.partK at hk
      split at hk <;> cases hk
     ·exact .inr ⟨ch,G,rfl,hz,K'.below,fun b hb hf => ⟨hf,rfl,(K'.rest b hb (free1 b (hfree b hf))).2.2⟩,fun _ _ => rfl⟩
    ·rename_i c s' hr0
     obtain ⟨g1,g2⟩ := hpe s _ hr0 w _ M1 xs hx1
     refine ⟨g1,g2.mono fun e w' he => ?_⟩
     rcases he with ⟨v,x,mem',G',rfl,hk,M',hl,hr,hc,K'⟩ | ⟨ch,G',rfl,hz,K'⟩
     ·unfold K4.partK at hk
      split at hk
      ·rename_i c' rr ho
       simp only [Option.some.injEq,CV.tup.injEq,List.cons.injEq,and_true] at hk
       obtain ⟨rfl,rfl⟩ := hk
       obtain ⟨b1,vs1,T1,fz1,R1⟩ := M'.box 0 0 _ rfl
       have hb2 := K'.blk 0 0 b0 (by decide) hb1
       obtain rfl:b1 = b0 := Option.some.inj (R1.blk.symm.trans hb2)
       obtain ⟨r,q,rfl⟩ := Qzj hbx
       have past := Qv3 (mem' := K4.partBox s' ((some [.val (.str s)] :: r) :: q)) M D K'.keep K'.below M'.hw
        (fun b hb => by
         by_cases e:b = b1
         ·subst e; rw [R1.hw,R0.hw]
         ·exact (K'.rest b hb (free1 b e)).2.1)
        (fun b p hp => (K'.rest b (M.own b p hp).2.1 (free1 b fun e => by rw [e,R0.own] at hp; cases hp)).2.2)
        (fun b hb hf => (K'.rest b hb (free1 b (hfree b hf))).2.2)
        (fun d i hb => by
         rw [QvF] at hb
         split at hb
         ·cases hb
         ·exact hb)
        (fun d i cs hb => by
         rw [QvF] at hb
         split at hb
         ·rename_i e
          obtain ⟨rfl,rfl⟩ := e
          obtain rfl := Option.some.inj hb
          refine .inr ⟨b1,vs1,T1,fz1,R0.blk,R1.lo,R1.heap,R1.free,R1.hw,R0.own,R1.rep.len,fun o ho => ?_⟩
          obtain ⟨u,q1,q2,q3⟩ := R1.rep.rep o ho
          refine ⟨u,q1,q2, ?_⟩
          obtain rfl:o = 0 := by simp [xp] at ho; omega
          simpa [xp,QaC,nthD,ARep] using q3
         ·rename_i e
          refine .inl ⟨hb,fun b hbl => ?_⟩
          have hne:b ≠ b1 := fun e2 => e (M.inj d i 0 0 b hbl (by rw [e2]; exact R0.blk))
          obtain ⟨_,_,_,_,_,Rb⟩ := M.blk_box hbl
          exact (K'.rest b (Array.getElem?_eq_some_iff.1 Rb.heap).1 (free1 b hne)).2.2)
       exact .inl ⟨_,x,_,_,rfl,h1,past.1,by simpa [K4.partBox] using hD,by simpa only [ARep] using Qk0 ho hr,rfl,past.2⟩
      ·cases hk
     ·obtain ⟨hz1,_⟩ := hz
      cases hz1
    ·cases h1
   ·cases h
  | false =>
   rw [hf,cond_false] at h
   cases hf2:f == QaW with
   | true =>
    rw [hf2,cond_true] at h
    obtain rfl := eq_of_beq hf2
    split at h
    ·rename_i v
     have hx1:ARepL Tryz.prog w (Gh.bare G) [.val v] xs := by
      simp only [ARepL,ARep] at hx ⊢
      exact hx
     have free1:∀ b,Free (Gh.bare G) b := fun b => ⟨rfl,fun _ _ h => by cases h⟩
     unfold panO at h
     split at h
     ·rename_i hr0
      obtain rfl := Option.some.inj h
      obtain ⟨g1,g2⟩ := Qvm CO1 hr0 w _ (Qwj M) xs hx1
      refine ⟨g1,g2.mono fun e w' he => ?_⟩
      rcases he with ⟨v,x,mem',G',rfl,hk,_⟩ | ⟨ch,G',rfl,hz,K'⟩
      ·unfold K3.outK at hk
       split at hk
       ·cases hk
       ·rename_i hne; exact absurd hk hne
      ·exact .inr ⟨ch,G,rfl,hz,K'.below,fun b hb hf => ⟨hf,rfl,(K'.rest b hb (free1 b)).2.2⟩,fun _ _ => rfl⟩
     ·rename_i c hc hr0
      obtain ⟨g1,g2⟩ := Qvm CO1 hr0 w _ (Qwj M) xs hx1
      refine ⟨g1,g2.mono fun e w' he => ?_⟩
      rcases he with ⟨v,x,mem',G',rfl,hk,M',hl,hr,_,K'⟩ | ⟨ch,G',rfl,hz,K'⟩
      ·have hk:v.outT (Qag Tryz.prog QaW) = some c := by
        unfold K3.outK at hk
        split at hk
        ·cases hk
        ·exact hk
       have past := Qv3 (mem' := mem) M D K'.keep K'.below M'.hw (fun b hb => (K'.rest b hb (free1 b)).2.1) (fun b p hp => (K'.rest b (M.own b p hp).2.1 (free1 b)).2.2)
        (fun b hb _ => (K'.rest b hb (free1 b)).2.2) (fun _ _ h => h) (fun d i cs hb => .inl ⟨hb,fun b hbl => by
         obtain ⟨_,_,_,_,_,Rb⟩ := M.blk_box hbl
         exact (K'.rest b (Array.getElem?_eq_some_iff.1 Rb.heap).1 (free1 b)).2.2⟩)
       exact .inl ⟨_,x,_,_,rfl,h,past.1,hD,by simpa only [ARep] using (Qml hk hr).1,rfl,past.2⟩
      ·obtain ⟨hz1,_⟩ := hz
       exact absurd hz1 hc
     ·cases h
    ·cases h
   | false =>
    rw [hf2,cond_false] at h
    exact Qf1 (W0 := ⟨W,K3.KK⟩) (Qc4 _) Tryz.names CO (Checked.mixed Tryz.checked) (inl8 CO) h w G D M hD xs hx
 ·unfold K4.partI at h ⊢
  cases hf:f == Qab with
  | true =>
   simp only [hf,cond_true] at h ⊢
   split at h
   ·rename_i v hbx
    obtain ⟨s,hs,h1⟩ := Qaf h
    simp only [hs]
    unfold panP at h1 ⊢
    split at h1
    ·rename_i hr0
     exact .inr ⟨rfl,fun _ => by simp only [optO,hr0]; exact h1⟩
    ·rename_i hr0
     exact .inl ⟨_,_,h1,fun _ => by simp only [optO,hr0]⟩
    ·cases h1
   ·cases h
  | false =>
   simp only [hf,cond_false] at h ⊢
   cases hf2:f == QaW with
   | true =>
    simp only [hf2,cond_true] at h ⊢
    split at h
    ·unfold panO at h ⊢
     split at h
     ·exact .inr ⟨rfl,fun _ => h⟩
     ·exact .inl ⟨_,_,h,fun _ => rfl⟩
     ·cases h
    ·cases h
   | false =>
    simp only [hf2,cond_false] at h ⊢
    exact Qpb (inl8 CO).lin _ _ _ _ _ h
theorem Qxb {B:Nat} {W:World} {n:Nat} (CO:∀ lb,CallOK Tryz.prog B ⟨W,K3.KK⟩ (K3.C lb n)):∀ N,Qy9 B W (K4.PE N n)
 | 0 => fun s r h => by cases h
 | N + 1 => fun s r h w G M xs hx =>
  Qf1 (W0 := ⟨W,K3.KK⟩) (Qc4 _) Tryz.names (CO N) (Checked.mixed Tryz.checked) (pans (QAw (CO N) (CO 1) (Qxb CO N))) h w G 1 M rfl xs hx
end Go.Proofs
namespace Go.Proofs
open Go.Am Go.RowKit
set_option maxRecDepth 100000
theorem QB6 {n:Nat} {s:List UInt8} {r0:CV} (h:K4.PE n n s = some r0) (w:World) (hT:Tw 1 w) (h0:Hw) (hz:∀ b,w.heap.size ≤ b → h0 b = 0) (hg:GlobOK KK.gl w h0) :
  Calls Tryz.prog 55 #[.pointer (some ⟨w.heap.size,0,none⟩)] (w.alloc (.cells #[.string ⟨s.toArray⟩] 74)) fun e w' => Below w.heap.size w w' ∧
   ((∃ v c rr u h',e = .returned v ∧ r0 = .tup [c,rr] ∧ CRep w' h' c v ∧ w'.cell? ⟨w.heap.size,0,none⟩ = some u ∧ CRep w' h' rr u ∧ (∀ b,b < w.heap.size → h' b = h0 b) ∧ (∀ b,w'.heap.size ≤ b → h' b = 0)) ∨
    (r0 = .err ∧ e = .panicked panE)) := by
 have P := Qxb (n := n) (fun lb => QBu hT lb n) n
 have M0:Mem Tryz.prog w.heap.size ⟨w,K3.KK⟩ w { blk := fun _ _ => none,hw := h0,own := fun _ => none } [[none]] :=
  ⟨Below.refl _ _,Nat.le_refl _,fun b p h => (by cases h),hz,fun _ _ _ => rfl,fun d s cs h => (by
   rcases d with _ | d <;> rcases s with _ | s <;> simp [box?,nthD] at h),fun _ _ _ _ _ h => (by cases h),hg⟩
 have M1 := M0.newBox (d := 0) (s := 0) (cs := [.val (.str s)]) (us := [.string ⟨s.toArray⟩]) (T := 74) rfl (by decide) (by decide) (⟨Fits.of rfl rfl,fun o ho => by
  obtain rfl:o = 0 := by simp [xp] at ho; omega
  exact ⟨_,rfl,rfl,by simp [xp,nthD,ARep,CRep]⟩⟩)
 refine (P s r0 h _ _ M1 [.pointer (some (Qap w.heap.size 0))] (by
  simp only [ARepL,ARep]
  exact ⟨_,_,rfl,⟨w.heap.size,by simp [Gh.put],rfl⟩,rfl⟩)).2.mono fun e w' he => ?_
 rcases he with ⟨v,x,mem',G',rfl,hk,M',hlen,hr,_,K'⟩ | ⟨ch,G',rfl,hz,K'⟩
 ·unfold K4.partK at hk
  split at hk
  ·rename_i c' r' ho
   obtain rfl := Option.some.inj hk
   obtain ⟨b,vs,T,fz,R⟩ := M'.box 0 0 _ rfl
   have hb := K'.blk 0 0 w.heap.size (by decide) (by simp [Gh.put])
   have hbb := R.blk.symm.trans hb
   simp only [Option.some.injEq] at hbb
   subst hbb
   obtain ⟨u,h1,_,h3⟩ := R.rep.rep 0 (by simp [xp])
   simp only [xp,nthD,ARep] at h3
   refine ⟨M'.below, .inl ⟨x,c',r',u,G'.hw,rfl,rfl,Qk0 ho hr, ?_,h3,fun b hb => ?_,M'.hw⟩⟩
   ·have hh := R.heap
    simp only [World.cell?,hh]
    simpa using h1
   ·exact (K'.low b hb).trans (by simp [Gh.put])
  ·cases hk
 ·refine ⟨?_, .inr ⟨hz.1,by rw [hz.2]⟩⟩
  exact ((Below.refl _ _).alloc (Nat.le_refl _) _).trans K'.below
theorem Qnx {w:World} {h:Hw} {a:Addr} {v:Value} (h0:h a.block = 0):Keep w (w.setCell a v) h h := by
 refine ⟨fun _ => Nat.le_refl _,fun b o ho => ?_,fun b e he => by rw [QlV]; exact he⟩
 refine World.cell?_setCell_other _ _ _ _ fun q => ?_
 rw [q] at h0
 have:h b = 0 := h0
 omega
theorem QzE (w:World) (h:Hw):Keep w w.drew h h := ⟨fun _ => Nat.le_refl _,fun _ _ _ => rfl,fun _ _ h => h⟩
end Go.Proofs
namespace Go.Proofs
open Go.Am Go.RowKit
set_option maxRecDepth 100000
theorem QkD {v:Value} (h:v.oneCell' = true) (a:Addr) (m:Mode) (W:World):(store a v m).run Tryz.prog W = stored Tryz.prog W a v m := run_store Tryz.prog W a v m h
theorem Qy1 (v:Value) (x:TypeId) (w:World):(Instr.typeAssert (.iface 70 v) x 70 true).run Tryz.prog w = .ok (.tuple #[v, .bool true]) w := by
 have hu:Tryz.prog.underlying 70 = some (.struct #[]) := by kernel_rfl
 simp [Instr.typeAssert,run_underlying hu]
def QlC:List Value := [.int .i64 0, .slice none 0 0, .int .i64 0, .int .i64 0, .int .i64 0, .int .i64 0, .int .i64 0, .slice none 0 0]
set_option maxHeartbeats 2000000 in
theorem QwI (n:Nat) (w w0:World) (hb:Below n w0 w) (hl:n + 2 ≤ w.heap.size) (k:Cells8 n QlC w) (d0:w.cell? ⟨n + 1,0,none⟩ = some (.bool false)) (z:∀ o,w.frozen? ⟨n,o,none⟩ = false) (z1:∀ o,w.frozen? ⟨n + 1,o,none⟩ = false) :
  CallsD Tryz.prog 54 #[.pointer (some ⟨n,0,none⟩), .pointer (some ⟨n + 1,0,none⟩)] (.panicking panE) w fun e u' w' => e = .returned (.tuple #[]) ∧ u' = .panicking [{ v := .iface 70 (.agg #[]),recovered := true }] ∧ Cells8 n QlC w' ∧ w'.cell? ⟨n + 1,0,none⟩ = some (.bool false) ∧ Below n w0 w' := by
 have c0 := k.2 0 (by decide)
 have c1 := k.2 1 (by decide)
 have c2 := k.2 2 (by decide)
 have c3 := k.2 3 (by decide)
 have c4 := k.2 4 (by decide)
 have c5 := k.2 5 (by decide)
 have c6 := k.2 6 (by decide)
 have c7 := k.2 7 (by decide)
 simp only [QlC,List.getElem?_cons_zero,List.getElem?_cons_succ] at c0 c1 c2 c3 c4 c5 c6 c7
 refine callsD_of_wpS Tryz.func54 rfl fun c₀ cs hu => ?_
 apply wpS_seq
 apply wpS_region
 simp [wpOpsS,go_sem,recoverD,hu,Tryz.ntmps54,Exit.thenS,panE]
 apply wpS_seq
 apply wpS_region
 simp [wpOpsS,go_sem,recoverD,Exit.thenS]
 refine wpS_cond (t := true) (by simp [Act.eval,Array.replicate]) ?_
 simp only [if_true]
 have hta := Qy1
 have hal:∀ b,b < w.heap.size → (w.alloc (.cells #[] 70)).heap[b]? = w.heap[b]? := fun b hb => Below.heap_alloc w _ b hb
 have al:∀ b o v,b < w.heap.size → w.cell? ⟨b,o,none⟩ = some v → (w.alloc (.cells #[] 70)).cell? ⟨b,o,none⟩ = some v := fun b o v hb hv => (cell?_of_heap (hal b hb) o).trans hv
 have fl:∀ b o,b < w.heap.size → w.frozen? ⟨b,o,none⟩ = false → (w.alloc (.cells #[] 70)).frozen? ⟨b,o,none⟩ = false := fun b o hb hv => (frozen?_of_heap (hal b hb) o).trans hv
 have b0 := al n 0 _ (by omega) c0
 have b1 := al n 1 _ (by omega) c1
 have b2 := al n 2 _ (by omega) c2
 have b3 := al n 3 _ (by omega) c3
 have b4 := al n 4 _ (by omega) c4
 have b5 := al n 5 _ (by omega) c5
 have b6 := al n 6 _ (by omega) c6
 have b7 := al n 7 _ (by omega) c7
 have bd := al (n + 1) 0 _ (by omega) d0
 have y:∀ o,(w.alloc (.cells #[] 70)).frozen? ⟨n,o,none⟩ = false := fun o => fl n o (by omega) (z o)
 have y1:∀ o,(w.alloc (.cells #[] 70)).frozen? ⟨n + 1,o,none⟩ = false := fun o => fl (n + 1) o (by omega) (z1 o)
 refine wpS_of_wp ?_
 go_wp2
 refine (show ∀ W:World,Cells8 n QlC W → W.cell? ⟨n + 1,0,none⟩ = some (.bool false) → Below n w0 W → bodyPostS _ _ _ _ _ _ _ _ W from fun W p0 p1 p2 => ?_) _ ?_ ?_ ?_
 ·simp [bodyPostS,results,Tryz.results54]
  exact ⟨p0,p1,p2⟩
 ·refine Cells8.other ?_ (by simp)
  have hk:Cells8 n QlC (w.alloc (.cells #[] 70)) := ⟨rfl,fun i hi => (cell?_of_heap (hal n (by omega)) i).trans (k.2 i hi)⟩
  exact (hk.set 0 _ (by decide) |>.set 1 _ (by decide) |>.set 2 _ (by decide) |>.set 3 _ (by decide) |>.set 4 _ (by decide) |>.set 5 _ (by decide) |>.set 6 _ (by decide) |>.set 7 _ (by decide))
 ·refine World.cell?_setCell_same (u := .bool false) _ _ _ ?_
  iterate 8 refine (World.cell?_setCell_other _ _ _ _ (by simp)).trans ?_
  exact bd
 ·iterate 9 refine Below.setCell ?_ (by simp) _
  exact hb.alloc (by omega) _
set_option maxHeartbeats 4000000 in
theorem QzS {Q:Ending → World → Prop} {s:List UInt8} {r0 r:CV} (w:World) (hT:Tw 1 w) (h0:Hw) (hz:∀ b,w.heap.size ≤ b → h0 b = 0) (hg:GlobOK KK.gl w h0) {n:Nat} (h:K4.PE n n s = some r0) (hr:QvL r0 = some r)
  (hQ:∀ v w' h',Below w.heap.size w w' → (∀ b,b < w.heap.size → h' b = h0 b) → (∀ b,w'.heap.size ≤ b → h' b = 0) → CRep w' h' r v → Q (.returned v) w') :
  Calls Tryz.prog 22 #[.string ⟨s.toArray⟩] w Q := by
 have hmf:∀ (fn:Fn) (first cap:Array Value) (w:World),(Instr.makeFunc fn first cap).run Tryz.prog w = .ok (.func fn first cap) w := fun _ _ _ _ => rfl
 go_enter_defers Tryz.func22,Tryz.ntmps22
 have hb2:∀ A B:Obj,Below w.heap.size w ((w.alloc A).alloc B) := fun A B => ((Below.refl _ _).alloc (Nat.le_refl _) A).alloc (by simp) B
 have hsz:∀ A B:Obj,((w.alloc A).alloc B).heap.size = w.heap.size + 2 := fun A B => by simp
 have hp:∀ (b:Nat) (W:World),Tw 1 W → Below w.heap.size w W → W.heap.size = b → Calls Tryz.prog 55 #[.pointer (some ⟨b,0,none⟩)] (W.alloc (.cells #[.string ⟨s.toArray⟩] 74)) fun e w' => Below b W w' ∧
   ((∃ v c rr u h',e = .returned v ∧ r0 = .tup [c,rr] ∧ CRep w' h' c v ∧ w'.cell? ⟨b,0,none⟩ = some u ∧ CRep w' h' rr u ∧ (∀ b',b' < b → h' b' = h0 b') ∧ (∀ b,w'.heap.size ≤ b → h' b = 0)) ∨
    (r0 = .err ∧ e = .panicked panE)) := by
  intro b W hW hbl hb
  subst hb
  exact QB6 h W hW h0 (fun b hb => hz b (Nat.le_trans hbl.size hb)) (Qqw hz hg hbl)
 have hB:∀ (A B:Obj) (w' : World),Below (w.heap.size + 2) ((w.alloc A).alloc B) w' → w'.heap[w.heap.size]? = some A ∧ w'.heap[w.heap.size + 1]? = some B := by
  intro A B w' hb
  refine ⟨?_, ?_⟩
  ·rw [hb.block w.heap.size (by omega),Below.heap_alloc _ _ _ (by simp)]; exact heap_alloc_new w A
  ·rw [hb.block (w.heap.size + 1) (by omega)]; have := heap_alloc_new (w.alloc A) B; simpa using this
 go_wp2_with (go_at_call 55; fail)
 refine (hp _ _ (Tw.below hT (hb2 _ _)) (hb2 _ _) (hsz _ _)).mono ?_
 rintro e w' ⟨hbel,hcase⟩
 obtain ⟨g1,g2⟩ := hB _ _ _ hbel
 have c0:w'.cell? ⟨w.heap.size,0,none⟩ = some (.int .i64 0) := by simp only [World.cell?,g1]; rfl
 have c1:w'.cell? ⟨w.heap.size,1,none⟩ = some (.slice none 0 0) := by simp only [World.cell?,g1]; rfl
 have c2:w'.cell? ⟨w.heap.size,2,none⟩ = some (.int .i64 0) := by simp only [World.cell?,g1]; rfl
 have c3:w'.cell? ⟨w.heap.size,3,none⟩ = some (.int .i64 0) := by simp only [World.cell?,g1]; rfl
 have c4:w'.cell? ⟨w.heap.size,4,none⟩ = some (.int .i64 0) := by simp only [World.cell?,g1]; rfl
 have c5:w'.cell? ⟨w.heap.size,5,none⟩ = some (.int .i64 0) := by simp only [World.cell?,g1]; rfl
 have c6:w'.cell? ⟨w.heap.size,6,none⟩ = some (.int .i64 0) := by simp only [World.cell?,g1]; rfl
 have c7:w'.cell? ⟨w.heap.size,7,none⟩ = some (.slice none 0 0) := by simp only [World.cell?,g1]; rfl
 have d0:w'.cell? ⟨w.heap.size + 1,0,none⟩ = some (.bool false) := by simp only [World.cell?,g2]; rfl
 have z:∀ o,w'.frozen? ⟨w.heap.size,o,none⟩ = false := by intro o; simp only [World.frozen?,g1]; simp
 have z1:∀ o,w'.frozen? ⟨w.heap.size + 1,o,none⟩ = false := by intro o; simp only [World.frozen?,g2]; simp
 have hb0:Below w.heap.size w w' := (hb2 _ _).trans (hbel.mono (by omega))
 have h00:Cells8 w.heap.size [.int .i64 0, .slice none 0 0, .int .i64 0, .int .i64 0, .int .i64 0, .int .i64 0, .int .i64 0, .slice none 0 0] w' := by
  refine ⟨rfl,fun i hi => ?_⟩
  rcases i with _ | _ | _ | _ | _ | _ | _ | _ | i
  ·exact c0
  ·exact c1
  ·exact c2
  ·exact c3
  ·exact c4
  ·exact c5
  ·exact c6
  ·exact c7
  ·omega
 rcases hcase with ⟨v,c,rr,u,h',rfl,rfl,hc,hu,hrr,l1,l2⟩ | ⟨rfl,rfl⟩
 ·have hsh:∃ x1 x2 x3 x4 x5 x6 x7 x8 rest,c = .agg [x1,x2,x3,x4,x5,x6,x7,x8] ∧ rr = .str rest ∧ r = .tup [c, .bool rest.isEmpty] := by
   unfold QvL at hr
   split at hr
   ·rename_i q; cases q
   ·rename_i q
    simp only [CV.tup.injEq,List.cons.injEq,and_true] at q
    obtain ⟨rfl,rfl⟩ := q
    exact ⟨_,_,_,_,_,_,_,_,_,rfl,rfl,(Option.some.inj hr).symm⟩
   ·cases hr
  obtain ⟨x1,x2,x3,x4,x5,x6,x7,x8,rest,rfl,rfl,rfl⟩ := hsh
  simp only [CRep] at hrr
  subst hrr
  simp only [CRep,CRepV] at hc
  obtain ⟨vs,rfl,v1,r1,rfl,o1,k1,v2,r2,rfl,o2,k2,v3,r3,rfl,o3,k3,v4,r4,rfl,o4,k4,v5,r5,rfl,o5,k5,v6,r6,rfl,o6,k6,v7,r7,rfl,o7,k7,v8,r8,rfl,o8,k8,rfl⟩ := hc
  have s1 := QkD o1
  have s2 := QkD o2
  have s3 := QkD o3
  have s4 := QkD o4
  have s5 := QkD o5
  have s6 := QkD o6
  have s7 := QkD o7
  have s8 := QkD o8
  go_wp2
  go_region
  go_wp2
  refine (show ∀ W:World,Cells8 w.heap.size [v1,v2,v3,v4,v5,v6,v7,v8] W → W.cell? ⟨w.heap.size + 1,0,none⟩ = some (.bool rest.isEmpty) → Below w.heap.size w W → Keep w' W h' h' → w'.heap.size ≤ W.heap.size → bodyPostD _ _ _ _ _ W from fun W p0 p1 p2 p3 p4 => ?_) _ ?_ ?_ ?_ ?_ ?_
  ·have e0 := p0.2 0 (by decide)
   have e1 := p0.2 1 (by decide)
   have e2 := p0.2 2 (by decide)
   have e3 := p0.2 3 (by decide)
   have e4 := p0.2 4 (by decide)
   have e5 := p0.2 5 (by decide)
   have e6 := p0.2 6 (by decide)
   have e7 := p0.2 7 (by decide)
   simp only [List.getElem?_cons_zero,List.getElem?_cons_succ] at e0 e1 e2 e3 e4 e5 e6 e7
   refine leaves_cons (f := 54) (args := #[.pointer (some ⟨w.heap.size,0,none⟩), .pointer (some ⟨w.heap.size + 1,0,none⟩)]) (by simp) (by simp [go_sem]) ?_
   refine (Qtl _ _ _).mono ?_
   rintro e u' w'' ⟨rfl,rfl,rfl⟩
   simp [Leaves,settle,results,Tryz.results22,go_sem,e0,e1,e2,e3,e4,e5,e6,e7,p1]
   refine hQ _ _ h' p2 (fun b hb => l1 b (by omega)) (fun b hb => l2 b (by omega)) ?_
   simp only [CRep,CRepT,CRepV]
   exact ⟨_,rfl,_,_,rfl,⟨_,rfl,_,_,rfl,o1,CRep.keep p3 _ k1,_,_,rfl,o2,CRep.keep p3 _ k2,_,_,rfl,o3,CRep.keep p3 _ k3,_,_,rfl,o4,CRep.keep p3 _ k4,_,_,rfl,o5,CRep.keep p3 _ k5,_,_,rfl,o6,CRep.keep p3 _ k6,_,_,rfl,o7,CRep.keep p3 _ k7,_,_,rfl,o8,CRep.keep p3 _ k8,rfl⟩,_,_,rfl,rfl,rfl⟩
  ·refine Cells8.drew (Cells8.other ?_ (by simp))
   exact (h00.set 0 _ (by decide) |>.set 1 _ (by decide) |>.set 2 _ (by decide) |>.set 3 _ (by decide) |>.set 4 _ (by decide) |>.set 5 _ (by decide) |>.set 6 _ (by decide) |>.set 7 _ (by decide)
    |>.set 0 _ (by decide) |>.set 1 _ (by decide) |>.set 2 _ (by decide) |>.set 3 _ (by decide) |>.set 4 _ (by decide) |>.set 5 _ (by decide) |>.set 6 _ (by decide) |>.set 7 _ (by decide))
  ·have hd:∀ (W:World) (a:Addr),W.drew.cell? a = W.cell? a := fun _ _ => rfl
   rw [hd]
   refine World.cell?_setCell_same (u := .bool false) _ _ _ ?_
   iterate 16 refine (World.cell?_setCell_other _ _ _ _ (by simp)).trans ?_
   exact d0
  ·have hd:∀ {W:World},Below w.heap.size w W → Below w.heap.size w W.drew := fun h => ⟨h.os,h.tape,h.output,h.size,h.block⟩
   refine hd ?_
   iterate 17 refine Below.setCell ?_ (by simp) _
   exact hb0
  ·have z0:h' w.heap.size = 0 := (l1 _ (by omega)).trans (hz _ (Nat.le_refl _))
   have z2:h' (w.heap.size + 1) = 0 := (l1 _ (by omega)).trans (hz _ (by omega))
   refine Keep.trans ?_ (QzE _ _)
   refine Keep.trans ?_ (Qnx z2)
   iterate 16 refine Keep.trans ?_ (Qnx z0)
   exact Keep.refl _ _
  ·simp [World.drew]
 ·have hr2:r = .tup [Quv, .bool false] := (Option.some.inj hr).symm
  subst hr2
  show bodyPostD _ _ _ (Exit.panic panE) _ _
  refine leaves_cons (f := 54) (args := #[.pointer (some ⟨w.heap.size,0,none⟩), .pointer (some ⟨w.heap.size + 1,0,none⟩)]) (by simp) (by simp [go_sem]) ?_
  refine (QwI w.heap.size w' w hb0 (by have := hbel.size; rw [hsz] at this; exact this) h00 d0 z z1).mono ?_
  rintro e u' w'' ⟨rfl,rfl,p0,p1,p2⟩
  have e0 := p0.2 0 (by decide)
  have e1 := p0.2 1 (by decide)
  have e2 := p0.2 2 (by decide)
  have e3 := p0.2 3 (by decide)
  have e4 := p0.2 4 (by decide)
  have e5 := p0.2 5 (by decide)
  have e6 := p0.2 6 (by decide)
  have e7 := p0.2 7 (by decide)
  simp only [QlC,List.getElem?_cons_zero,List.getElem?_cons_succ] at e0 e1 e2 e3 e4 e5 e6 e7
  simp [Leaves,settle,results,Tryz.results22,go_sem,e0,e1,e2,e3,e4,e5,e6,e7,p1]
  refine hQ _ _ h0 p2 (fun b hb => rfl) (fun b hb => hz b (Nat.le_trans p2.size hb)) ?_
  simp only [Quv,CRep,CRepT,CRepV]
  exact ⟨_,rfl,_,_,rfl,⟨_,rfl,_,_,rfl,rfl,rfl,_,_,rfl,rfl, .inl ⟨trivial,trivial,rfl⟩,_,_,rfl,rfl,rfl,_,_,rfl,rfl,rfl,_,_,rfl,rfl,rfl,_,_,rfl,rfl,rfl,_,_,rfl,rfl,rfl,_,_,rfl,rfl, .inl ⟨trivial,trivial,rfl⟩,rfl⟩,_,_,rfl,rfl,rfl⟩
theorem QtZ {lb:Nat} {args:List CV} {r:CV} (e:QdO args = some r):Ends (lb + 2) Qf4 args r := by
 unfold QdO at e
 split at e
 ·rename_i s
  intro w h vs hT hz hg hv
  simp only [CRepT,CRep] at hv
  obtain ⟨v1,r1,rfl,rfl,rfl⟩ := hv
  split at e
  ·rename_i x hx
   obtain rfl := Option.some.inj e
   refine (Qz7 (QzA 1 (by decide)) (QAZ hx) w (hT.weak (by omega)) h hz hg).mono fun e w' ⟨h1,h2⟩ => ?_
   subst h1
   refine Ends.small hz h2 ?_
   unfold Qmz
   simp only [CRep,CRepT,CRepV]
   exact ⟨_,rfl,_,_,rfl,⟨_,rfl,_,_,rfl,rfl,rfl,_,_,rfl,rfl, .inl ⟨trivial,trivial,rfl⟩,_,_,rfl,rfl,rfl,_,_,rfl,rfl,rfl,_,_,rfl,rfl,rfl,_,_,rfl,rfl,rfl,_,_,rfl,rfl,rfl,_,_,rfl,rfl, .inl ⟨trivial,trivial,rfl⟩,rfl⟩,_,_,rfl,rfl,rfl⟩
  ·obtain ⟨r0,hr0,hr⟩ := Option.bind_eq_some_iff.1 e
   obtain ⟨M,hM⟩ := QyO hr0
   exact QzS w (hT.weak (by omega)) h hz hg (hM M (Nat.le_refl _)) hr fun v w' h' q1 q2 q3 q4 => ⟨v,h',rfl,q1,q2,q3,q4⟩
 ·cases e
end Go.Proofs
