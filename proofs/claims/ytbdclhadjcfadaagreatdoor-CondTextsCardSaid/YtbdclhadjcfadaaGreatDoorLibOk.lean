/- The library's functions give what the plain functions say. Conditions: none. -/
import Derived.Test.YtbdclhadjcfadaaGreatDoorAmC
import Derived.Test.YtbdclhadjcfadaaGreatDoorEv
import Derived.Test.YtbdclhadjcfadaaGreatDoorShelf
import Derived.Lib.AppendIntMem
import Derived.Lib.SplitLaws
import Derived.Test.YtbdclhadjcfadaaGreatDoorWz
namespace Go.Proofs
open Go.Am Go.RowKit
noncomputable def QA8 (i : Nat) : String := ((Tryz.prog.globals[i]?).map (·.name)).getD ""
structure Tw (lb:Nat) (w:World):Prop where
 maxlen:∃ m,w.cell? ⟨0,0,none⟩ = some (.int .i64 m)
 esyn:1 ≤ lb → ∃ ev,w.cell? ⟨7,0,none⟩ = some ev ∧ (ev = .nilIface ∨ ∃ te pe,ev = .iface te pe)
 eran:1 ≤ lb → ∃ ev,w.cell? ⟨8,0,none⟩ = some ev ∧ (ev = .nilIface ∨ ∃ te pe,ev = .iface te pe)
 lens:∀ (i:Nat) v,QrJ[i]? = some v → w.cell? ⟨1,i,none⟩ = some (.int .i64 v)
 pow:Lib.TabIs Tryz.prog w (QA8 2) .u64 Lib.pow10Tab
def Ends (lb:Nat) (f:FuncId) (args:List CV) (r:CV):Prop :=
 ∀ (w:World) (h:Hw) (vs:List Value),Tw lb w → (∀ b,w.heap.size ≤ b → h b = 0) → GlobOK KK.gl w h → CRepT w h args vs →
  Calls Tryz.prog f vs.toArray w fun e w' => ∃ v h',e = .returned v ∧ Below w.heap.size w w' ∧ (∀ b,b < w.heap.size → h' b = h b) ∧ (∀ b,w'.heap.size ≤ b → h' b = 0) ∧ CRep w' h' r v
variable {lb:Nat}
theorem Ends.small {w:World} {h:Hw} (hz:∀ b,w.heap.size ≤ b → h b = 0) {w' : World} (hb:Below w.heap.size w w') {r:CV} {v:Value} (hr:CRep w' h r v) :
  ∃ v' h',Ending.returned v = .returned v' ∧ Below w.heap.size w w' ∧ (∀ b,b < w.heap.size → h' b = h b) ∧ (∀ b,w'.heap.size ≤ b → h' b = 0) ∧ CRep w' h' r v' :=
 ⟨v,h,rfl,hb,fun _ _ => rfl,fun b hb' => hz b (Nat.le_trans hb.size hb'),hr⟩
theorem QlX {args:List CV} {r:CV} (e:QiP args = some r):Ends lb QcS args r := by
 unfold QiP at e
 split at e
 ·rename_i s c
  simp only [Option.some.injEq] at e
  subst e
  intro w h vs hT hz _ hv
  simp only [CRepT,CRep] at hv
  obtain ⟨v1,r1,rfl,rfl,v2,r2,rfl,rfl,rfl⟩ := hv
  refine (Tryz.strings_IndexByte ⟨s.toArray⟩ c w).mono fun e w' ⟨h1,h2⟩ => ?_
  subst h1; subst h2
  exact Ends.small hz (Below.refl _ _) (by simp [CRep])
 ·cases e
theorem Qkw {args:List CV} {r:CV} (e:QfJ args = some r):Ends lb Qdv args r := by
 unfold QfJ at e
 split at e
 ·rename_i s c
  simp only [Option.some.injEq] at e
  subst e
  intro w h vs hT hz _ hv
  simp only [CRepT,CRep] at hv
  obtain ⟨v1,r1,rfl,rfl,v2,r2,rfl,rfl,rfl⟩ := hv
  refine (Tryz.strings_TrimPrefix ⟨s.toArray⟩ ⟨c.toArray⟩ w).mono fun e w' ⟨h1,h2⟩ => ?_
  subst h1; subst h2
  exact Ends.small hz (Below.refl _ _) (by simp [CRep])
 ·cases e
theorem Qtd {args:List CV} {r:CV} (e:QmA args = some r):Ends lb QhB args r := by
 unfold QmA at e
 split at e
 ·rename_i n
  split at e
  ·rename_i hn
   simp only [Option.some.injEq] at e
   subst e
   intro w h vs hT hz _ hv
   simp only [CRepT,CRep] at hv
   obtain ⟨v1,r1,rfl,rfl,rfl⟩ := hv
   refine (Tryz.strconv_Itoa n hn.1 hn.2 w ((congrArg (fun s => Lib.TabIs Tryz.prog w s .u64 Lib.pow10Tab) (by kernel_rfl)).mp hT.pow)).mono fun e w' ⟨h1,k,os,h2⟩ => ?_
   subst h1; subst h2
   exact Ends.small hz (Lib.below_grow _ w (Nat.le_refl _) k os) (by simp [CRep,Qwb hn.1 hn.2])
  ·cases e
 ·cases e
theorem QsX {args:List CV} {r:CV} (e:Qmu args = some r):Ends (lb + 1) QdB args r := by
 unfold Qmu at e
 split at e
 ·rename_i s
  split at e
  ·rename_i hs
   intro w h vs hT hz _ hv
   simp only [CRepT,CRep] at hv
   obtain ⟨v1,r1,rfl,rfl,rfl⟩ := hv
   have hsz:(⟨s.toArray⟩ : ByteArray).size = s.length := by simp [ByteArray.size]
   have hl:(⟨s.toArray⟩ : ByteArray).data.toList = s := by simp
   cases hx:Lib.atoiAll s with
   | ok v =>
    rw [hx] at e
    simp only [Option.some.injEq] at e
    subst e
    refine (Tryz.strconv_Atoi_ok ⟨s.toArray⟩ (by rw [hsz]; omega) v (by rw [hl]; exact hx) w).mono fun e w' ⟨h1,h2⟩ => ?_
    subst h1
    have hb:Below w.heap.size w w' := by
     rcases h2 with rfl | ⟨t,rfl⟩
     ·exact Below.refl _ _
     ·exact Lib.bytesWorld_below w 5 t
    exact Ends.small hz hb (by simp [CRep,CRepT])
   | range =>
    rw [hx] at e
    simp only [Option.some.injEq] at e
    subst e
    obtain ⟨ev,h3,h4⟩ := hT.eran (by omega)
    refine (Tryz.strconv_Atoi_range ⟨s.toArray⟩ (by rw [hsz]; omega) (by rw [hl]; exact hx) ev w h3 h4).mono fun e w' ⟨N,h1,_,_,hb⟩ => ?_
    subst h1
    exact Ends.small hz hb (by unfold CRep; refine ⟨[_,_],rfl, ?_⟩; unfold CRepT; refine ⟨_,_,rfl,by simp [CRep], ?_⟩; unfold CRepT; exact ⟨_,_,rfl,by simp [CRep],by simp [CRepT]⟩)
   | _ =>
    rw [hx] at e
    simp only [Option.some.injEq] at e
    subst e
    obtain ⟨ev,h3,h4⟩ := hT.esyn (by omega)
    refine (Any.strconv_Atoi_syntax Tryz.laysC172 ⟨s.toArray⟩ (by rw [hsz]; omega) (by rw [hl]; exact hx) ev w h3 h4).mono fun e w' ⟨N,h1,_,_,hb⟩ => ?_
    subst h1
    exact Ends.small hz hb (by unfold CRep; refine ⟨[_,_],rfl, ?_⟩; unfold CRepT; refine ⟨_,_,rfl,by simp [CRep], ?_⟩; unfold CRepT; exact ⟨_,_,rfl,by simp [CRep],by simp [CRepT]⟩)
  ·cases e
 ·cases e
theorem Qo6 {args:List CV} {r:CV} (e:Qmo args = some r):Ends lb QkH args r := by
 unfold Qmo at e
 split at e
 ·rename_i s c
  simp only [Option.some.injEq] at e
  subst e
  intro w h vs hT hz _ hv
  simp only [CRepT,CRep] at hv
  obtain ⟨v1,r1,rfl,rfl,v2,r2,rfl,rfl,rfl⟩ := hv
  refine (Tryz.strings_Count_one ⟨s.toArray⟩ c w).mono fun e w' ⟨h1,h2⟩ => ?_
  subst h1; subst h2
  exact Ends.small hz (Below.refl _ _) (by simp [CRep,Lib.countByte])
 ·cases e
theorem Qm9 {args:List CV} {r:CV} (e:QdC args = some r):Ends lb Qat args r := by
 unfold QdC at e
 split at e
 ·rename_i s c
  split at e
  ·rename_i hs
   obtain ⟨⟨h1,h2⟩,h3,h4⟩ := hs
   simp only [Option.some.injEq] at e
   subst e
   intro w h vs hT hz _ hv
   simp only [CRepT,CRep] at hv
   obtain ⟨v1,r1,rfl,rfl,v2,r2,rfl,rfl,rfl⟩ := hv
   have all:∀ {l:List UInt8},l.all (fun b => decide (b.toNat < 128)) = true → ∀ (j:Nat) b,l[j]? = some b → b.toNat < 128 := fun hl j b hb => of_decide_eq_true (List.all_eq_true.1 hl b (List.mem_of_getElem? hb))
   rcases h3 with h3 | ⟨h3,h5⟩
   ·refine (Any.strings_IndexAny_laid Tryz.lays153 (by kernel_rfl) ⟨s.toArray⟩ ⟨c.toArray⟩ w (by simp [ByteArray.size]; omega) (by simp [ByteArray.size]; omega) (by simpa using all h3) (by simpa using all h4)).mono fun e w' ⟨h1,h2⟩ => ?_
    subst h1
    exact Ends.small hz h2 (by simp [CRep])
   ·have h116:(Tryz.prog.info? (Tryz.lays153_ren.t 116)).map (fun i => (i.zero,i.size)) = some (some (.agg (Array.replicate 256 (.bool false))),256) := by kernel_rfl
    refine (Any.strings_IndexAny_long Tryz.lays153 (zero_of_info h116).1 (zero_of_info h116).2 ⟨s.toArray⟩ ⟨c.toArray⟩ w (by simpa [ByteArray.size] using h5) (by simpa [ByteArray.size] using h3) (by simp [ByteArray.size]; omega) (by simp [ByteArray.size]; omega) (by simpa using all h4)).mono fun e w' ⟨h1,h2⟩ => ?_
    subst h1
    refine Ends.small hz ?_ (by simp [CRep])
    rw [h2]
    exact ((Below.refl _ _).alloc (Nat.le_refl _) _).alloc (by simp) _
  ·cases e
 ·cases e
theorem Qol {w:World} {h:Hw} {b:Nat} : ∀ {l:List (List CV)} {xs:List (List UInt8)} {off:Nat},QiF l = some xs → CRepLL w h b off l →
  l.length = xs.length ∧ ∀ (j:Nat) x,(xs.map fun x => (⟨x.toArray⟩ : ByteArray))[j]? = some x → w.cell? ⟨b,off + j,none⟩ = some (.string x)
 | [],xs,off,e,_ => by simp only [QiF,Option.some.injEq] at e; subst e; exact ⟨rfl,fun j x hj => by simp at hj⟩
 | c :: l,xs,off,e,hr => by
  unfold QiF at e
  split at e
  ·rename_i hh; cases hh
  ·rename_i s r' hh
   simp only [List.cons.injEq] at hh
   obtain ⟨rfl,rfl⟩ := hh
   obtain ⟨ys,hy,rfl⟩ := Option.map_eq_some_iff.1 e
   simp only [CRepLL,CRepC,CRep] at hr
   obtain ⟨⟨⟨v,h1,_,rfl⟩,_⟩,h2⟩ := hr
   obtain ⟨q1,q2⟩ := Qol hy h2
   refine ⟨by simp [q1],fun j x hj => ?_⟩
   cases j with
   | zero => simp at hj; subst hj; simpa using h1
   | succ j =>
    have := q2 j x (by simpa using hj)
    have e2:off + (j + 1) = off + [CV.str s].length + j := by simp; omega
    rw [e2]; exact this
  ·cases e
theorem QsO {args:List CV} {r:CV} (e:Qma args = some r):Ends lb Qbm args r := by
 unfold Qma at e
 split at e
 ·rename_i nn l sep
  split at e
  ·rename_i xs hx
   split at e
   ·rename_i hl
    simp only [Option.some.injEq] at e
    subst e
    intro w h vs hT hz _ hv
    simp only [CRepT] at hv
    obtain ⟨v1,r1,rfl,h1,v2,r2,rfl,h2,rfl⟩ := hv
    simp only [CRep] at h1 h2
    subst h2
    rcases h1 with ⟨_,rfl,rfl⟩ | ⟨_,b,off,cap,es,⟨ad,rfl,had⟩,hcap,hes,hw',hll⟩
    ·simp only [QiF,Option.some.injEq] at hx
     subst hx
     refine (Tryz.strings_Join_none none 0 ⟨sep.toArray⟩ w).mono fun e w' ⟨h1,h2⟩ => ?_
     subst h1; subst h2
     exact Ends.small hz (Below.refl _ _) (by simp [CRep,Lib.join])
    ·obtain ⟨q1,q2⟩ := Qol hx hll
     have hmap:(xs.map fun x => (⟨x.toArray⟩ : ByteArray)).map (·.data.toList) = xs := by simp [Function.comp_def]
     by_cases hempty:xs = []
     ·subst hempty
      have hl0:l.length = 0 := by simpa using q1
      rw [hl0]
      refine (Tryz.strings_Join_none (some ad) cap ⟨sep.toArray⟩ w).mono fun e w' ⟨h1,h2⟩ => ?_
      subst h1; subst h2
      exact Ends.small hz (Below.refl _ _) (by simp [CRep,Lib.join])
     ·have hl1:l.length ≠ 0 := by
       have := List.length_pos_iff.2 hempty
       omega
      obtain rfl := had (.inr hl1)
      have hbk:b < w.heap.size := by
       obtain ⟨x,ys,rfl⟩ := List.exists_cons_of_ne_nil hempty
       have := q2 0 ⟨x.toArray⟩ (by simp)
       unfold World.cell? at this
       cases hh:w.heap[b]? with
       | none => simp [hh] at this
       | some o => exact (Array.getElem?_eq_some_iff.1 hh).1
      have := Tryz.strings_Join b off cap (xs.map fun x => (⟨x.toArray⟩ : ByteArray)) ⟨sep.toArray⟩ w q2 hbk (by simpa using hl.1) (by simp; omega) (by rw [hmap]; exact hl.2)
      rw [hmap] at this
      rw [q1]
      simp only [List.length_map] at this
      refine this.mono fun e w' ⟨h1,h2⟩ => ?_
      subst h1
      exact Ends.small hz h2 (by simp [CRep])
   ·cases e
  ·cases e
 ·cases e
theorem Qry {args:List CV} {r:CV} (e:Qk6 args = some r):Ends lb QcE args r := by
 unfold Qk6 at e
 split at e
 ·rename_i s sep
  split at e
  ·rename_i hs
   simp only [Option.some.injEq] at e
   subst e
   intro w h vs hT hz _ hv
   simp only [CRepT,CRep] at hv
   obtain ⟨v1,r1,rfl,rfl,v2,r2,rfl,rfl,rfl⟩ := hv
   obtain ⟨m,hm⟩ := hT.maxlen
   refine (Tryz.strings_Split ⟨s.toArray⟩ ⟨sep.toArray⟩ m w (by simpa [ByteArray.size] using hs.1) hm (by simpa [ByteArray.size] using hs.2)).mono fun e w' ⟨h1,h2⟩ => ?_
   subst h1; subst h2
   have hlen := Lib.splitB_all ⟨sep.toArray⟩ (by simpa [ByteArray.size] using hs.2) 0 _ ⟨s.toArray⟩ rfl
   have hdata := Lib.splitB_data ⟨sep.toArray⟩ 0 (Lib.countB ⟨s.toArray⟩ ⟨sep.toArray⟩) ⟨s.toArray⟩
   simp only [Lib.countB] at hlen hdata ⊢
   rw [show Lib.splitK sep 0 (Lib.count s sep) s = Lib.split s sep from rfl] at hdata
   generalize Lib.splitB ⟨sep.toArray⟩ 0 (Lib.count s sep) ⟨s.toArray⟩ = bs at hlen hdata ⊢
   rw [← hlen, ← hdata]
   refine ⟨_,fun b => if b = w.heap.size then bs.length else h b,rfl,(Below.refl _ _).alloc (Nat.le_refl _) _,fun b hb => if_neg (by omega),fun b hb => ?_, ?_⟩
   ·have:b ≠ w.heap.size := by simp at hb; omega
    simp only [if_neg this]
    exact hz b (by simp at hb; omega)
   ·simp only [CRep]
    refine .inr ⟨trivial,w.heap.size,0,bs.length,1, .mk (by simp),by simp,by simp,by simp, ?_⟩
    refine CRepLL.of_cells (us := bs.map Value.string) (fun i u hi => ?_) ?_
    ·rw [QjN,Nat.zero_add]
     simpa using hi
    ·generalize w.alloc _ = w2
     generalize (fun b => if b = w.heap.size then bs.length else h b) = h2
     clear hlen hdata
     induction bs with
     | nil => simp [CRepV]
     | cons x bs ih =>
      simp only [List.map_cons,List.flatten_cons,List.cons_append,List.nil_append,CRepV,CRep]
      exact ⟨_,_,rfl,rfl,by simp,ih⟩
  ·cases e
 ·cases e
theorem Qpm {args:List CV} {r:CV} (e:Qjc args = some r):Ends lb QbK args r := by
 unfold Qjc at e
 split at e
 ·rename_i y m
  obtain ⟨n,hn,rfl⟩ := Option.map_eq_some_iff.1 e
  intro w h vs hT hz _ hv
  simp only [CRepT,CRep] at hv
  obtain ⟨v1,r1,rfl,rfl,v2,r2,rfl,rfl,rfl⟩ := hv
  refine (Tryz.length_walk y m n w hT.lens hn).mono fun e w' ⟨h1,h4⟩ => ?_
  subst h1
  subst h4
  exact Ends.small hz (Below.refl _ _) (by simp [CRep])
 ·cases e
theorem QcB {f : FuncId} (h : (match Tryz.prog.funcs[f]? with | some fn => fn.body.isSome && !(fn.name == "runtime.NumGoroutine") | none => false) = true) : ∀ vs w, (callFunc f vs).run Tryz.prog w = .ok (.enter f vs) w := by
 intro vs w
 split at h
 ·rename_i fn hf
  simp only [Bool.and_eq_true,Bool.not_eq_true',beq_eq_false_iff_ne,ne_eq] at h
  obtain ⟨c,hc⟩ := Option.isSome_iff_exists.1 h.1
  simp [callFunc,hf,h.2,hc]
 ·cases h
theorem Tw.weak {a b:Nat} {w:World} (h:a ≤ b) (x:Tw b w):Tw a w := by
 cases x
 constructor <;> first | assumption | (intro q; rename_i h1; exact h1 (by omega)) | (intro q; rename_i h1 _; exact h1 (by omega)) | (intro q; rename_i h1 _ _; exact h1 (by omega)) | (intro q; rename_i h1 _ _ _; exact h1 (by omega)) | (intro q; rename_i h1 _ _ _ _; exact h1 (by omega))
theorem Ends.weak {a b:Nat} (h:a ≤ b) {f:FuncId} {args:List CV} {r:CV} (x:Ends a f args r):Ends b f args r := fun w hw vs hT => x w hw vs (hT.weak h)
set_option maxHeartbeats 2000000 in
theorem QzA (lb:Nat) (hlb:lb ≤ 1):QmH Tryz.prog KK.gl (Tw lb) (L lb) := by
 intro f s hs args r hr
 unfold L L1 at hs
 split at hs
 ·rename_i hf; subst hf
  rcases lb with _ | _ | lb
  ·cases hs
  ·cases hs
  ·omega
 split at hs
 ·rename_i hf; subst hf; cases hs; exact ⟨QcB (by kernel_rfl),QlX hr⟩
 split at hs
 ·rename_i hf; subst hf; cases hs; exact ⟨QcB (by kernel_rfl),Qkw hr⟩
 split at hs
 ·rename_i hf; subst hf; cases hs; exact ⟨QcB (by kernel_rfl),Qtd hr⟩
 split at hs
 ·rename_i hf; subst hf
  rcases lb with _ | lb
  ·cases hs
  ·cases hs; exact ⟨QcB (by kernel_rfl),QsX hr⟩
 split at hs
 ·rename_i hf; subst hf; cases hs; exact ⟨QcB (by kernel_rfl),QsO hr⟩
 split at hs
 ·rename_i hf; subst hf; cases hs; exact ⟨QcB (by kernel_rfl),Qry hr⟩
 split at hs
 ·rename_i hf; subst hf; cases hs; exact ⟨QcB (by kernel_rfl),Qm9 hr⟩
 split at hs
 ·rename_i hf; subst hf; cases hs; exact ⟨QcB (by kernel_rfl),Qo6 hr⟩
 split at hs
 ·rename_i hf; subst hf; cases hs; exact ⟨QcB (by kernel_rfl),Qpm hr⟩
 ·cases hs
end Go.Proofs
