/- The library's functions give what the plain functions say. Conditions: none. -/
import Derived.Test.YtmpbijffaepkdaaGreatDoorAmC
import Derived.Test.YtmpbijffaepkdaaGreatDoorEv
import Derived.Test.YtmpbijffaepkdaaGreatDoorShelf
import Derived.Lib.AppendIntMem
import Derived.Lib.SplitLaws
namespace Go.Proofs
open Go.Am Go.RowKit
noncomputable def Qm9 (i : Nat) : String := ((Tryz.prog.globals[i]?).map (·.name)).getD ""
structure Tw (lb : Nat) (w : World) : Prop where
 maxlen : ∃ m, w.cell? ⟨1, 0, none⟩ = some (.int .i64 m)
 esyn : 1 ≤ lb → ∃ ev, w.cell? ⟨3, 0, none⟩ = some ev ∧ (ev = .nilIface ∨ ∃ te pe, ev = .iface te pe)
 eran : 1 ≤ lb → ∃ ev, w.cell? ⟨4, 0, none⟩ = some ev ∧ (ev = .nilIface ∨ ∃ te pe, ev = .iface te pe)
 words : ∀ (i : Nat) v, wordTab[i]? = some v → w.cell? ⟨0, i, none⟩ = some (.string ⟨v.toArray⟩)
 pow : Lib.TabIs Tryz.prog w (Qm9 2) .u64 Lib.pow10Tab
def Ends (lb : Nat) (f : FuncId) (args : List CV) (r : CV) : Prop :=
 ∀ (w : World) (h : Hw) (vs : List Value), Tw lb w → (∀ b, w.heap.size ≤ b → h b = 0) → GlobOK KK.gl w h → CRepT w h args vs →
  Calls Tryz.prog f vs.toArray w fun e w' => ∃ v h', e = .returned v ∧ Below w.heap.size w w' ∧ (∀ b, b < w.heap.size → h' b = h b) ∧ (∀ b, w'.heap.size ≤ b → h' b = 0) ∧ CRep w' h' r v
variable {lb : Nat}
theorem Ends.small {w : World} {h : Hw} (hz : ∀ b, w.heap.size ≤ b → h b = 0) {w' : World} (hb : Below w.heap.size w w') {r : CV} {v : Value} (hr : CRep w' h r v) :
  ∃ v' h', Ending.returned v = .returned v' ∧ Below w.heap.size w w' ∧ (∀ b, b < w.heap.size → h' b = h b) ∧ (∀ b, w'.heap.size ≤ b → h' b = 0) ∧ CRep w' h' r v' :=
 ⟨v, h, rfl, hb, fun _ _ => rfl, fun b hb' => hz b (Nat.le_trans hb.size hb'), hr⟩
theorem Qiu {args : List CV} {r : CV} (e : QdV args = some r) : Ends lb Qdg args r := by
 unfold QdV at e
 split at e
 ·rename_i s c
  simp only [Option.some.injEq] at e
  subst e
  intro w h vs hT hz _ hv
  simp only [CRepT, CRep] at hv
  obtain ⟨v1, r1, rfl, rfl, v2, r2, rfl, rfl, rfl⟩ := hv
  refine (Tryz.strings_IndexByte ⟨s.toArray⟩ c w).mono fun e w' ⟨h1, h2⟩ => ?_
  subst h1; subst h2
  exact Ends.small hz (Below.refl _ _) (by simp [CRep])
 ·cases e
theorem QhS {args : List CV} {r : CV} (e : Qdw args = some r) : Ends lb Qc8 args r := by
 unfold Qdw at e
 split at e
 ·rename_i s c
  simp only [Option.some.injEq] at e
  subst e
  intro w h vs hT hz _ hv
  simp only [CRepT, CRep] at hv
  obtain ⟨v1, r1, rfl, rfl, v2, r2, rfl, rfl, rfl⟩ := hv
  refine (Tryz.strings_TrimPrefix ⟨s.toArray⟩ ⟨c.toArray⟩ w).mono fun e w' ⟨h1, h2⟩ => ?_
  subst h1; subst h2
  exact Ends.small hz (Below.refl _ _) (by simp [CRep])
 ·cases e
theorem QlI {args : List CV} {r : CV} (e : QhE args = some r) : Ends lb Qfc args r := by
 unfold QhE at e
 split at e
 ·rename_i n
  split at e
  ·rename_i hn
   simp only [Option.some.injEq] at e
   subst e
   intro w h vs hT hz _ hv
   simp only [CRepT, CRep] at hv
   obtain ⟨v1, r1, rfl, rfl, rfl⟩ := hv
   refine (Tryz.strconv_Itoa n hn.1 hn.2 w ((congrArg (fun s => Lib.TabIs Tryz.prog w s .u64 Lib.pow10Tab) (by kernel_rfl)).mp hT.pow)).mono fun e w' ⟨h1, k, os, h2⟩ => ?_
   subst h1; subst h2
   exact Ends.small hz (Lib.below_grow _ w (Nat.le_refl _) k os) (by simp [CRep, Qmm hn.1 hn.2])
  ·cases e
 ·cases e
theorem Qme {args : List CV} {r : CV} (e : Qhr args = some r) : Ends (lb + 1) Qe1 args r := by
 unfold Qhr at e
 split at e
 ·rename_i s
  split at e
  ·rename_i hs
   intro w h vs hT hz _ hv
   simp only [CRepT, CRep] at hv
   obtain ⟨v1, r1, rfl, rfl, rfl⟩ := hv
   have hsz : (⟨s.toArray⟩ : ByteArray).size = s.length := by simp [ByteArray.size]
   have hl : (⟨s.toArray⟩ : ByteArray).data.toList = s := by simp
   cases hx : Lib.atoiAll s with
   | ok v =>
    rw [hx] at e
    simp only [Option.some.injEq] at e
    subst e
    refine (Tryz.strconv_Atoi_ok ⟨s.toArray⟩ (by rw [hsz]; omega) v (by rw [hl]; exact hx) w).mono fun e w' ⟨h1, h2⟩ => ?_
    subst h1
    have hb : Below w.heap.size w w' := by
     rcases h2 with rfl | ⟨t, rfl⟩
     ·exact Below.refl _ _
     ·exact Lib.bytesWorld_below w 5 t
    exact Ends.small hz hb (by simp [CRep, CRepT])
   | range =>
    rw [hx] at e
    simp only [Option.some.injEq] at e
    subst e
    obtain ⟨ev, h3, h4⟩ := hT.eran (by omega)
    refine (Tryz.strconv_Atoi_range ⟨s.toArray⟩ (by rw [hsz]; omega) (by rw [hl]; exact hx) ev w h3 h4).mono fun e w' ⟨N, h1, _, _, hb⟩ => ?_
    subst h1
    exact Ends.small hz hb (by unfold CRep; refine ⟨[_, _], rfl, ?_⟩; unfold CRepT; refine ⟨_, _, rfl, by simp [CRep], ?_⟩; unfold CRepT; exact ⟨_, _, rfl, by simp [CRep], by simp [CRepT]⟩)
   | _ =>
    rw [hx] at e
    simp only [Option.some.injEq] at e
    subst e
    obtain ⟨ev, h3, h4⟩ := hT.esyn (by omega)
    refine (Any.strconv_Atoi_syntax Tryz.laysC172 ⟨s.toArray⟩ (by rw [hsz]; omega) (by rw [hl]; exact hx) ev w h3 h4).mono fun e w' ⟨N, h1, _, _, hb⟩ => ?_
    subst h1
    exact Ends.small hz hb (by unfold CRep; refine ⟨[_, _], rfl, ?_⟩; unfold CRepT; refine ⟨_, _, rfl, by simp [CRep], ?_⟩; unfold CRepT; exact ⟨_, _, rfl, by simp [CRep], by simp [CRepT]⟩)
  ·cases e
 ·cases e
theorem QmK {args : List CV} {r : CV} (e : Qiy args = some r) : Ends lb Qf1 args r := by
 unfold Qiy at e
 split at e
 ·rename_i s sep
  split at e
  ·rename_i hs
   simp only [Option.some.injEq] at e
   subst e
   intro w h vs hT hz _ hv
   simp only [CRepT, CRep] at hv
   obtain ⟨v1, r1, rfl, rfl, v2, r2, rfl, rfl, rfl⟩ := hv
   obtain ⟨m, hm⟩ := hT.maxlen
   refine (Tryz.strings_Cut ⟨s.toArray⟩ ⟨sep.toArray⟩ m w (by simpa [ByteArray.size] using hs) hm).mono fun e w' ⟨h1, n, h2⟩ => ?_
   subst h1; subst h2
   have hb : Below w.heap.size w (w.drewN n) := ⟨rfl, rfl, rfl, Nat.le_refl _, fun _ _ => rfl⟩
   refine Ends.small hz hb ?_
   simp only [CRep, CRepT]
   exact ⟨[_, _, _], rfl, _, _, rfl, by simp, _, _, rfl, by simp, _, _, rfl, by simp, rfl⟩
  ·cases e
 ·cases e
theorem Qf8 {w : World} {h : Hw} {b : Nat} : ∀ {l : List (List CV)} {xs : List (List UInt8)} {off : Nat}, Qfo l = some xs → CRepLL w h b off l →
  l.length = xs.length ∧ ∀ (j : Nat) x, (xs.map fun x => (⟨x.toArray⟩ : ByteArray))[j]? = some x → w.cell? ⟨b, off + j, none⟩ = some (.string x)
 | [], xs, off, e, _ => by simp only [Qfo, Option.some.injEq] at e; subst e; exact ⟨rfl, fun j x hj => by simp at hj⟩
 | c :: l, xs, off, e, hr => by
  unfold Qfo at e
  split at e
  ·rename_i hh; cases hh
  ·rename_i s r' hh
   simp only [List.cons.injEq] at hh
   obtain ⟨rfl, rfl⟩ := hh
   obtain ⟨ys, hy, rfl⟩ := Option.map_eq_some_iff.1 e
   simp only [CRepLL, CRepC, CRep] at hr
   obtain ⟨⟨⟨v, h1, _, rfl⟩, _⟩, h2⟩ := hr
   obtain ⟨q1, q2⟩ := Qf8 hy h2
   refine ⟨by simp [q1], fun j x hj => ?_⟩
   cases j with
   | zero => simp at hj; subst hj; simpa using h1
   | succ j =>
    have := q2 j x (by simpa using hj)
    have e2 : off + (j + 1) = off + [CV.str s].length + j := by simp; omega
    rw [e2]; exact this
  ·cases e
theorem QlS {args : List CV} {r : CV} (e : QhF args = some r) : Ends lb Qe2 args r := by
 unfold QhF at e
 split at e
 ·rename_i nn l sep
  split at e
  ·rename_i xs hx
   split at e
   ·rename_i hl
    simp only [Option.some.injEq] at e
    subst e
    intro w h vs hT hz _ hv
    simp only [CRepT] at hv
    obtain ⟨v1, r1, rfl, h1, v2, r2, rfl, h2, rfl⟩ := hv
    simp only [CRep] at h1 h2
    subst h2
    rcases h1 with ⟨_, rfl, rfl⟩ | ⟨_, b, off, cap, es, ⟨ad, rfl, had⟩, hcap, hes, hw', hll⟩
    ·simp only [Qfo, Option.some.injEq] at hx
     subst hx
     refine (Tryz.strings_Join_none none 0 ⟨sep.toArray⟩ w).mono fun e w' ⟨h1, h2⟩ => ?_
     subst h1; subst h2
     exact Ends.small hz (Below.refl _ _) (by simp [CRep, Lib.join])
    ·obtain ⟨q1, q2⟩ := Qf8 hx hll
     have hmap : (xs.map fun x => (⟨x.toArray⟩ : ByteArray)).map (·.data.toList) = xs := by simp [Function.comp_def]
     by_cases hempty : xs = []
     ·subst hempty
      have hl0 : l.length = 0 := by simpa using q1
      rw [hl0]
      refine (Tryz.strings_Join_none (some ad) cap ⟨sep.toArray⟩ w).mono fun e w' ⟨h1, h2⟩ => ?_
      subst h1; subst h2
      exact Ends.small hz (Below.refl _ _) (by simp [CRep, Lib.join])
     ·have hl1 : l.length ≠ 0 := by
       have := List.length_pos_iff.2 hempty
       omega
      obtain rfl := had (.inr hl1)
      have hbk : b < w.heap.size := by
       obtain ⟨x, ys, rfl⟩ := List.exists_cons_of_ne_nil hempty
       have := q2 0 ⟨x.toArray⟩ (by simp)
       unfold World.cell? at this
       cases hh : w.heap[b]? with
       | none => simp [hh] at this
       | some o => exact (Array.getElem?_eq_some_iff.1 hh).1
      have := Tryz.strings_Join b off cap (xs.map fun x => (⟨x.toArray⟩ : ByteArray)) ⟨sep.toArray⟩ w q2 hbk (by simpa using hl.1) (by simp; omega) (by rw [hmap]; exact hl.2)
      rw [hmap] at this
      rw [q1]
      simp only [List.length_map] at this
      refine this.mono fun e w' ⟨h1, h2⟩ => ?_
      subst h1
      exact Ends.small hz h2 (by simp [CRep])
   ·cases e
  ·cases e
 ·cases e
theorem Qft {f : FuncId} (h : (match Tryz.prog.funcs[f]? with | some fn => fn.body.isSome && !(fn.name == "runtime.NumGoroutine") | none => false) = true) : ∀ vs w, (callFunc f vs).run Tryz.prog w = .ok (.enter f vs) w := by
 intro vs w
 split at h
 ·rename_i fn hf
  simp only [Bool.and_eq_true, Bool.not_eq_true', beq_eq_false_iff_ne, ne_eq] at h
  obtain ⟨c, hc⟩ := Option.isSome_iff_exists.1 h.1
  simp [callFunc, hf, h.2, hc]
 ·cases h
theorem Tw.weak {a b : Nat} {w : World} (h : a ≤ b) (x : Tw b w) : Tw a w := by
 cases x
 constructor <;> first | assumption | (intro q; rename_i h1; exact h1 (by omega)) | (intro q; rename_i h1 _; exact h1 (by omega)) | (intro q; rename_i h1 _ _; exact h1 (by omega)) | (intro q; rename_i h1 _ _ _; exact h1 (by omega)) | (intro q; rename_i h1 _ _ _ _; exact h1 (by omega))
theorem Ends.weak {a b : Nat} (h : a ≤ b) {f : FuncId} {args : List CV} {r : CV} (x : Ends a f args r) : Ends b f args r := fun w hw vs hT => x w hw vs (hT.weak h)
set_option maxHeartbeats 2000000 in
theorem QnP (lb : Nat) (hlb : lb ≤ 1) : Qjq Tryz.prog KK.gl (Tw lb) (L lb) := by
 intro f s hs args r hr
 unfold L L1 at hs
 split at hs
 ·rename_i hf; subst hf; cases hs; exact ⟨Qft (by kernel_rfl), Qiu hr⟩
 split at hs
 ·rename_i hf; subst hf; cases hs; exact ⟨Qft (by kernel_rfl), QhS hr⟩
 split at hs
 ·rename_i hf; subst hf; cases hs; exact ⟨Qft (by kernel_rfl), QlI hr⟩
 split at hs
 ·rename_i hf; subst hf
  rcases lb with _ | lb
  ·cases hs
  ·cases hs; exact ⟨Qft (by kernel_rfl), Qme hr⟩
 split at hs
 ·rename_i hf; subst hf; cases hs; exact ⟨Qft (by kernel_rfl), QmK hr⟩
 split at hs
 ·rename_i hf; subst hf; cases hs; exact ⟨Qft (by kernel_rfl), QlS hr⟩
 ·cases hs
end Go.Proofs
