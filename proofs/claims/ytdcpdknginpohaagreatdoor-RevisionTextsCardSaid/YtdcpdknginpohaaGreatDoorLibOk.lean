/- The library's functions give what the plain functions say. Conditions: none. -/
import Derived.Test.YtdcpdknginpohaaGreatDoorAmC
import Derived.Test.YtdcpdknginpohaaGreatDoorEv
import Derived.Test.YtdcpdknginpohaaGreatDoorShelf
import Derived.Lib.AppendIntMem
import Derived.Lib.SplitLaws
import Derived.Test.YtdcpdknginpohaaGreatDoorWz
import Derived.Test.YtdcpdknginpohaaGreatDoorWp
namespace Go.Proofs
open Go.Am Go.RowKit
noncomputable def QxH (i : Nat) : String := ((Tryz.prog.globals[i]?).map (·.name)).getD ""
structure Tw (lb : Nat) (w : World) : Prop where
 maxlen : ∃ m, w.cell? ⟨4, 0, none⟩ = some (.int .i64 m)
 esyn : 1 ≤ lb → ∃ ev, w.cell? ⟨2, 0, none⟩ = some ev ∧ (ev = .nilIface ∨ ∃ te pe, ev = .iface te pe)
 eran : 1 ≤ lb → ∃ ev, w.cell? ⟨3, 0, none⟩ = some ev ∧ (ev = .nilIface ∨ ∃ te pe, ev = .iface te pe)
 lens : ∀ (i : Nat) v, QpU[i]? = some v → w.cell? ⟨0, i, none⟩ = some (.int .i64 v)
 pow : Lib.TabIs Tryz.prog w (QxH 1) .u64 Lib.pow10Tab
def Ends (lb : Nat) (f : FuncId) (args : List CV) (r : CV) : Prop :=
 ∀ (w : World) (h : Hw) (vs : List Value), Tw lb w → (∀ b, w.heap.size ≤ b → h b = 0) → GlobOK KK.gl w h → CRepT w h args vs →
  Calls Tryz.prog f vs.toArray w fun e w' => ∃ v h', e = .returned v ∧ Below w.heap.size w w' ∧ (∀ b, b < w.heap.size → h' b = h b) ∧ (∀ b, w'.heap.size ≤ b → h' b = 0) ∧ CRep w' h' r v
variable {lb : Nat}
theorem Ends.small {w : World} {h : Hw} (hz : ∀ b, w.heap.size ≤ b → h b = 0) {w' : World} (hb : Below w.heap.size w w') {r : CV} {v : Value} (hr : CRep w' h r v) :
  ∃ v' h', Ending.returned v = .returned v' ∧ Below w.heap.size w w' ∧ (∀ b, b < w.heap.size → h' b = h b) ∧ (∀ b, w'.heap.size ≤ b → h' b = 0) ∧ CRep w' h' r v' :=
 ⟨v, h, rfl, hb, fun _ _ => rfl, fun b hb' => hz b (Nat.le_trans hb.size hb'), hr⟩
theorem QqG {args : List CV} {r : CV} (e : QfN args = some r) : Ends lb QcQ args r := by
 unfold QfN at e
 split at e
 ·rename_i s c
  simp only [Option.some.injEq] at e
  subst e
  intro w h vs hT hz _ hv
  simp only [CRepT, CRep] at hv
  obtain ⟨v1, r1, rfl, rfl, v2, r2, rfl, rfl, rfl⟩ := hv
  refine (Tryz.strings_IndexByte ⟨s.toArray⟩ c w).mono fun e w' ⟨h1, h2⟩ => ?_
  subst h1; subst h2
  exact Ends.small hz (Below.refl _ _) (by simp [CRep])
 ·cases e
theorem Qpm {args : List CV} {r : CV} (e : Qfq args = some r) : Ends lb Qdf args r := by
 unfold Qfq at e
 split at e
 ·rename_i s c
  simp only [Option.some.injEq] at e
  subst e
  intro w h vs hT hz _ hv
  simp only [CRepT, CRep] at hv
  obtain ⟨v1, r1, rfl, rfl, v2, r2, rfl, rfl, rfl⟩ := hv
  refine (Tryz.strings_TrimPrefix ⟨s.toArray⟩ ⟨c.toArray⟩ w).mono fun e w' ⟨h1, h2⟩ => ?_
  subst h1; subst h2
  exact Ends.small hz (Below.refl _ _) (by simp [CRep])
 ·cases e
theorem QvN {args : List CV} {r : CV} (e : QkS args = some r) : Ends lb QgS args r := by
 unfold QkS at e
 split at e
 ·rename_i n
  split at e
  ·rename_i hn
   simp only [Option.some.injEq] at e
   subst e
   intro w h vs hT hz _ hv
   simp only [CRepT, CRep] at hv
   obtain ⟨v1, r1, rfl, rfl, rfl⟩ := hv
   refine (Tryz.strconv_Itoa n hn.1 hn.2 w ((congrArg (fun s => Lib.TabIs Tryz.prog w s .u64 Lib.pow10Tab) (by kernel_rfl)).mp hT.pow)).mono fun e w' ⟨h1, k, os, h2⟩ => ?_
   subst h1; subst h2
   exact Ends.small hz (Lib.below_grow _ w (Nat.le_refl _) k os) (by simp [CRep, Qs5 hn.1 hn.2])
  ·cases e
 ·cases e
theorem QvF {args : List CV} {r : CV} (e : Qlo args = some r) : Ends (lb + 1) Qdm args r := by
 unfold Qlo at e
 split at e
 ·rename_i s
  split at e
  ·rename_i hs
   intro w h vs hT hz _ hv
   simp only [CRepT, CRep] at hv
   obtain ⟨v1, r1, rfl, rfl, rfl⟩ := hv
   have hsz : (⟨s.toArray⟩ : ByteArray).size = s.length := by simp [ByteArray.size]
   have hl : (⟨s.toArray⟩ : ByteArray).data.toList = s := by simp
   cases hx : Lib.atoiAll s with
   | ok v =>
    rw [hx] at e
    simp only [Option.some.injEq] at e
    subst e
    refine (Tryz.strconv_Atoi_ok ⟨s.toArray⟩ (by rw [hsz]; omega) v (by rw [hl]; exact hx) w).mono fun e w' ⟨h1, h2⟩ => ?_
    subst h1
    have hb : Below w.heap.size w w' := by
     rcases h2 with rfl | ⟨t, rfl⟩
     ·exact Below.refl _ _
     ·exact Lib.bytesWorld_below w 5 t
    exact Ends.small hz hb (by simp [CRep, CRepT])
   | range =>
    rw [hx] at e
    simp only [Option.some.injEq] at e
    subst e
    obtain ⟨ev, h3, h4⟩ := hT.eran (by omega)
    refine (Tryz.strconv_Atoi_range ⟨s.toArray⟩ (by rw [hsz]; omega) (by rw [hl]; exact hx) ev w h3 h4).mono fun e w' ⟨N, h1, _, _, hb⟩ => ?_
    subst h1
    exact Ends.small hz hb (by unfold CRep; refine ⟨[_, _], rfl, ?_⟩; unfold CRepT; refine ⟨_, _, rfl, by simp [CRep], ?_⟩; unfold CRepT; exact ⟨_, _, rfl, by simp [CRep], by simp [CRepT]⟩)
   | _ =>
    rw [hx] at e
    simp only [Option.some.injEq] at e
    subst e
    obtain ⟨ev, h3, h4⟩ := hT.esyn (by omega)
    refine (Any.strconv_Atoi_syntax Tryz.laysC172 ⟨s.toArray⟩ (by rw [hsz]; omega) (by rw [hl]; exact hx) ev w h3 h4).mono fun e w' ⟨N, h1, _, _, hb⟩ => ?_
    subst h1
    exact Ends.small hz hb (by unfold CRep; refine ⟨[_, _], rfl, ?_⟩; unfold CRepT; refine ⟨_, _, rfl, by simp [CRep], ?_⟩; unfold CRepT; exact ⟨_, _, rfl, by simp [CRep], by simp [CRepT]⟩)
  ·cases e
 ·cases e
theorem Qm5 {w : World} {h : Hw} {b : Nat} : ∀ {l : List (List CV)} {xs : List (List UInt8)} {off : Nat}, QhU l = some xs → CRepLL w h b off l →
  l.length = xs.length ∧ ∀ (j : Nat) x, (xs.map fun x => (⟨x.toArray⟩ : ByteArray))[j]? = some x → w.cell? ⟨b, off + j, none⟩ = some (.string x)
 | [], xs, off, e, _ => by simp only [QhU, Option.some.injEq] at e; subst e; exact ⟨rfl, fun j x hj => by simp at hj⟩
 | c :: l, xs, off, e, hr => by
  unfold QhU at e
  split at e
  ·rename_i hh; cases hh
  ·rename_i s r' hh
   simp only [List.cons.injEq] at hh
   obtain ⟨rfl, rfl⟩ := hh
   obtain ⟨ys, hy, rfl⟩ := Option.map_eq_some_iff.1 e
   simp only [CRepLL, CRepC, CRep] at hr
   obtain ⟨⟨⟨v, h1, _, rfl⟩, _⟩, h2⟩ := hr
   obtain ⟨q1, q2⟩ := Qm5 hy h2
   refine ⟨by simp [q1], fun j x hj => ?_⟩
   cases j with
   | zero => simp at hj; subst hj; simpa using h1
   | succ j =>
    have := q2 j x (by simpa using hj)
    have e2 : off + (j + 1) = off + [CV.str s].length + j := by simp; omega
    rw [e2]; exact this
  ·cases e
theorem Qv8 {args : List CV} {r : CV} (e : Qlk args = some r) : Ends lb Qfg args r := by
 unfold Qlk at e
 split at e
 ·rename_i nn l sep
  split at e
  ·rename_i xs hx
   split at e
   ·rename_i hl
    simp only [Option.some.injEq] at e
    subst e
    intro w h vs hT hz _ hv
    simp only [CRepT] at hv
    obtain ⟨v1, r1, rfl, h1, v2, r2, rfl, h2, rfl⟩ := hv
    simp only [CRep] at h1 h2
    subst h2
    rcases h1 with ⟨_, rfl, rfl⟩ | ⟨_, b, off, cap, es, ⟨ad, rfl, had⟩, hcap, hes, hw', hll⟩
    ·simp only [QhU, Option.some.injEq] at hx
     subst hx
     refine (Tryz.strings_Join_none none 0 ⟨sep.toArray⟩ w).mono fun e w' ⟨h1, h2⟩ => ?_
     subst h1; subst h2
     exact Ends.small hz (Below.refl _ _) (by simp [CRep, Lib.join])
    ·obtain ⟨q1, q2⟩ := Qm5 hx hll
     have hmap : (xs.map fun x => (⟨x.toArray⟩ : ByteArray)).map (·.data.toList) = xs := by simp [Function.comp_def]
     by_cases hempty : xs = []
     ·subst hempty
      have hl0 : l.length = 0 := by simpa using q1
      rw [hl0]
      refine (Tryz.strings_Join_none (some ad) cap ⟨sep.toArray⟩ w).mono fun e w' ⟨h1, h2⟩ => ?_
      subst h1; subst h2
      exact Ends.small hz (Below.refl _ _) (by simp [CRep, Lib.join])
     ·have hl1 : l.length ≠ 0 := by
       have := List.length_pos_iff.2 hempty
       omega
      obtain rfl := had (.inr hl1)
      have hbk : b < w.heap.size := by
       obtain ⟨x, ys, rfl⟩ := List.exists_cons_of_ne_nil hempty
       have := q2 0 ⟨x.toArray⟩ (by simp)
       unfold World.cell? at this
       cases hh : w.heap[b]? with
       | none => simp [hh] at this
       | some o => exact (Array.getElem?_eq_some_iff.1 hh).1
      have := Tryz.strings_Join b off cap (xs.map fun x => (⟨x.toArray⟩ : ByteArray)) ⟨sep.toArray⟩ w q2 hbk (by simpa using hl.1) (by simp; omega) (by rw [hmap]; exact hl.2)
      rw [hmap] at this
      rw [q1]
      simp only [List.length_map] at this
      refine this.mono fun e w' ⟨h1, h2⟩ => ?_
      subst h1
      exact Ends.small hz h2 (by simp [CRep])
   ·cases e
  ·cases e
 ·cases e
theorem Qu1 {args : List CV} {r : CV} (e : QjH args = some r) : Ends lb QeK args r := by
 unfold QjH at e
 split at e
 ·rename_i s sep
  split at e
  ·rename_i hs
   simp only [Option.some.injEq] at e
   subst e
   intro w h vs hT hz _ hv
   simp only [CRepT, CRep] at hv
   obtain ⟨v1, r1, rfl, rfl, v2, r2, rfl, rfl, rfl⟩ := hv
   obtain ⟨m, hm⟩ := hT.maxlen
   refine (Tryz.strings_Split ⟨s.toArray⟩ ⟨sep.toArray⟩ m w (by simpa [ByteArray.size] using hs.1) hm (by simpa [ByteArray.size] using hs.2)).mono fun e w' ⟨h1, h2⟩ => ?_
   subst h1; subst h2
   have hlen := Lib.splitB_all ⟨sep.toArray⟩ (by simpa [ByteArray.size] using hs.2) 0 _ ⟨s.toArray⟩ rfl
   have hdata := Lib.splitB_data ⟨sep.toArray⟩ 0 (Lib.countB ⟨s.toArray⟩ ⟨sep.toArray⟩) ⟨s.toArray⟩
   simp only [Lib.countB] at hlen hdata ⊢
   rw [show Lib.splitK sep 0 (Lib.count s sep) s = Lib.split s sep from rfl] at hdata
   generalize Lib.splitB ⟨sep.toArray⟩ 0 (Lib.count s sep) ⟨s.toArray⟩ = bs at hlen hdata ⊢
   rw [← hlen, ← hdata]
   refine ⟨_, fun b => if b = w.heap.size then bs.length else h b, rfl, (Below.refl _ _).alloc (Nat.le_refl _) _, fun b hb => if_neg (by omega), fun b hb => ?_, ?_⟩
   ·have : b ≠ w.heap.size := by simp at hb; omega
    simp only [if_neg this]
    exact hz b (by simp at hb; omega)
   ·simp only [CRep]
    refine .inr ⟨trivial, w.heap.size, 0, bs.length, 1, .mk (by simp), by simp, by simp, by simp, ?_⟩
    refine CRepLL.of_cells (us := bs.map Value.string) (fun i u hi => ?_) ?_
    ·rw [QiX, Nat.zero_add]
     simpa using hi
    ·generalize w.alloc _ = w2
     generalize (fun b => if b = w.heap.size then bs.length else h b) = h2
     clear hlen hdata
     induction bs with
     | nil => simp [CRepV]
     | cons x bs ih =>
      simp only [List.map_cons, List.flatten_cons, List.cons_append, List.nil_append, CRepV, CRep]
      exact ⟨_, _, rfl, rfl, by simp, ih⟩
  ·cases e
 ·cases e
theorem Qs2 {w : World} {h : Hw} {g off cap es : Nat} {l : List (List CV)} {us : List Value} (hlen : ∀ c ∈ l, c.length = es) (hc : l.length ≤ cap) (hh : off + l.length * es ≤ h g)
  (hcells : ∀ (i : Nat) u, us[i]? = some u → w.cell? ⟨g, off + i, none⟩ = some u) (hv : CRepV w h l.flatten us) : CRep w h (.list false l) (.slice (some ⟨g, off, none⟩) l.length cap) := by
 simp only [CRep]
 exact .inr ⟨trivial, g, off, cap, es, .mk rfl, hc, hlen, hh, CRepLL.of_cells hcells hv⟩
theorem QxK {w : World} {h : Hw} : ∀ l : List Int, CRepV w h (l.map fun x => [CV.int .i64 x]).flatten (l.map (Value.int .i64))
 | [] => by simp [CRepV]
 | x :: l => by
  simp only [List.map_cons, List.flatten_cons, List.cons_append, List.nil_append, CRepV, CRep]
  exact ⟨_, _, rfl, rfl, rfl, QxK l⟩
theorem QvX {args : List CV} {r : CV} (e : QoC args = some r) : Ends lb QlW args r := by
 unfold QoC at e
 split at e
 ·rename_i f t d
  simp only [Option.some.injEq] at e
  subst e
  intro w h vs hT hz _ hv
  simp only [CRepT, CRep, CRepV] at hv
  obtain ⟨v1, r1, rfl, ⟨vs1, rfl, x1, y1, rfl, -, rfl, x2, y2, rfl, -, rfl, x3, y3, rfl, -, rfl, rfl⟩, rfl⟩ := hv
  refine (Tryz.Days_walk f t d w).mono fun e w' ⟨v, h1, h2, h3, h4⟩ => ?_
  subst h1
  by_cases hn : Qbv f t d = []
  ·have hv := h3.2 hn
   subst hv
   exact Ends.small hz h4 (by rw [hn]; simp [CRep])
  ·obtain ⟨g, cap, cur, rfl, hbase, hg, hcap, hmax, hsize, htake⟩ : ∃ g cap cur, v = .slice (some ⟨g, 0, none⟩) (Qbv f t d).length cap ∧ w.heap.size ≤ g ∧ w'.heap[g]? = some (.cells cur 3 (0, 0)) ∧ (Qbv f t d).length ≤ cap ∧ cap ≤ maxLen ∧ cur.size = cap * 1 ∧ cur.toList.take ((Qbv f t d).length * 1) = (Qbv f t d).map (Value.int .i64) := by
    rcases h2.2 with ⟨_, h0⟩ | h0
    ·exact absurd (List.length_eq_zero_iff.1 h0) hn
    ·exact h0
   refine ⟨_, fun b => if b = g then (Qbv f t d).length else h b, rfl, h4, fun b hb => if_neg (by omega), fun b hb => ?_, ?_⟩
   ·have hgl := (Array.getElem?_eq_some_iff.1 hg).1
    have : b ≠ g := by omega
    simp only [if_neg this]
    exact hz b (Nat.le_trans h4.size hb)
   ·have he : (Qbv f t d).isEmpty = false := by simp [hn]
    rw [he]
    have := Qs2 (w := w') (h := fun b => if b = g then (Qbv f t d).length else h b) (g := g) (off := 0) (cap := cap) (es := 1) (l := (Qbv f t d).map fun x => [CV.int .i64 x]) (us := (Qbv f t d).map (Value.int .i64)) (by simp) (by simpa using hcap) (by simp) (fun i u hi => ?_) (QxK _)
    ·simpa using this
    ·rw [Nat.zero_add]
     have hi2 : i < (Qbv f t d).length := by simpa using (List.getElem?_eq_some_iff.1 hi).1
     rw [← hi, ← h2.cellAt i (by omega)]
 ·cases e
theorem Qva {args : List CV} {r : CV} (e : QmS args = some r) : Ends lb QkO args r := by
 unfold QmS at e
 split at e
 ·rename_i f t d
  simp only [Option.some.injEq] at e
  subst e
  intro w h vs hT hz _ hv
  simp only [CRepT, CRep, CRepV] at hv
  obtain ⟨v1, r1, rfl, ⟨vs1, rfl, x1, y1, rfl, -, rfl, x2, y2, rfl, -, rfl, x3, y3, rfl, -, rfl, rfl⟩, rfl⟩ := hv
  refine (Tryz.Count_walk f t d w).mono fun e w' ⟨h1, h4⟩ => ?_
  subst h1
  exact Ends.small hz h4 (by simp [CRep])
 ·cases e
theorem QtV {args : List CV} {r : CV} (e : Qip args = some r) : Ends lb QbM args r := by
 unfold Qip at e
 split at e
 ·rename_i y m
  obtain ⟨n, hn, rfl⟩ := Option.map_eq_some_iff.1 e
  intro w h vs hT hz _ hv
  simp only [CRepT, CRep] at hv
  obtain ⟨v1, r1, rfl, rfl, v2, r2, rfl, rfl, rfl⟩ := hv
  refine (Tryz.length_walk y m n w hT.lens hn).mono fun e w' ⟨h1, h4⟩ => ?_
  subst h1
  subst h4
  exact Ends.small hz (Below.refl _ _) (by simp [CRep])
 ·cases e
theorem Qml {w : World} {h : Hw} {b : Nat} : ∀ {l : List (List CV)} {s : List (Int × Int)} {off : Nat}, Qg6 l = some s → CRepLL w h b off l →
  l.length = s.length ∧ ∀ (k : Nat) x, s[k]? = some x → w.cell? ⟨b, off + k * 2, none⟩ = some (.int .i64 x.1) ∧ w.cell? ⟨b, off + k * 2 + 1, none⟩ = some (.int .i64 x.2)
 | [], s, off, e, _ => by simp only [Qg6, Option.some.injEq] at e; subst e; exact ⟨rfl, fun k x hk => by simp at hk⟩
 | c :: l, s, off, e, hr => by
  unfold Qg6 at e
  split at e
  ·rename_i hh; cases hh
  ·rename_i a o r' hh
   simp only [List.cons.injEq] at hh
   obtain ⟨rfl, rfl⟩ := hh
   obtain ⟨ys, hy, rfl⟩ := Option.map_eq_some_iff.1 e
   simp only [CRepLL, CRepC, CRep] at hr
   obtain ⟨⟨⟨v, h1, _, rfl⟩, ⟨v2, h3, _, rfl⟩, _⟩, h2⟩ := hr
   obtain ⟨q1, q2⟩ := Qml hy h2
   refine ⟨by simp [q1], fun k x hk => ?_⟩
   cases k with
   | zero => simp at hk; subst hk; exact ⟨by simpa using h1, by simpa using h3⟩
   | succ k =>
    have := q2 k x (by simpa using hk)
    have e2 : off + (k + 1) * 2 = off + [CV.int .i64 a, CV.int .i64 o].length + k * 2 := by simp; omega
    rw [e2]; exact this
  ·cases e
theorem Qwd {w : World} {h : Hw} : ∀ l : List (Int × Int × Int), CRepV w h (l.map Qpe).flatten (l.flatMap span3)
 | [] => by simp [CRepV]
 | x :: l => by
  simp only [List.map_cons, List.flatten_cons, List.flatMap_cons, Qpe, span3, List.cons_append, List.nil_append, CRepV, CRep]
  exact ⟨_, _, rfl, rfl, rfl, _, _, rfl, rfl, rfl, _, _, rfl, rfl, rfl, Qwd l⟩
theorem QuQ {args : List CV} {r : CV} (e : Qmn args = some r) : Ends lb QmL args r := by
 unfold Qmn at e
 split at e
 ·rename_i o nn l
  split at e
  ·rename_i s hs
   split at e
   ·rename_i hl
    simp only [Option.some.injEq] at e
    subst e
    intro w h vs hT hz _ hv
    simp only [CRepT] at hv
    obtain ⟨v1, r1, rfl, h1, rfl⟩ := hv
    simp only [CRep, CRepV] at h1
    obtain ⟨vs1, rfl, x1, y1, rfl, -, rfl, x2, y2, rfl, -, h2, rfl⟩ := h1
    have key : ∃ (p : Option Addr) (b off cap : Nat), x2 = .slice p s.length cap ∧ (s.length ≠ 0 → p = some ⟨b, off, none⟩) ∧ (s.length ≠ 0 → b < w.heap.size) ∧ ∀ (k : Nat) x, s[k]? = some x → w.cell? ⟨b, off + k * 2, none⟩ = some (.int .i64 x.1) ∧ w.cell? ⟨b, off + k * 2 + 1, none⟩ = some (.int .i64 x.2) := by
     rcases h2 with ⟨_, rfl, rfl⟩ | ⟨_, b, off, cap, es, ⟨ad, rfl, had⟩, hcap, hes, hw', hll⟩
     ·simp only [Qg6, Option.some.injEq] at hs
      subst hs
      exact ⟨none, 0, 0, 0, rfl, fun q => absurd rfl q, fun q => absurd rfl q, fun k x hk => by simp at hk⟩
     ·obtain ⟨q1, q2⟩ := Qml hs hll
      refine ⟨some ad, b, off, cap, by rw [q1], fun q => by rw [had (.inr (by omega))], fun q => ?_, q2⟩
      obtain ⟨x, ys, rfl⟩ := List.exists_cons_of_ne_nil (List.ne_nil_of_length_pos (Nat.pos_of_ne_zero q))
      have := (q2 0 x (by simp)).1
      refine Decidable.byContradiction fun hn => ?_
      simp [World.cell?, Array.getElem?_eq_none (Nat.le_of_not_lt hn)] at this
    obtain ⟨p, b, off, cap, rfl, k1, k2, k3⟩ := key
    refine (Tryz.spans_walk o s p b off cap w hl k1 k2 k3).mono fun e w' ⟨v, h1, h2, h4⟩ => ?_
    subst h1
    obtain ⟨g, cap, cur, rfl, hbase, hg, hcap, hmax, hsize, htake⟩ : ∃ g cap cur, v = .slice (some ⟨g, 0, none⟩) (s.length + 1) cap ∧ w.heap.size ≤ g ∧ w'.heap[g]? = some (.cells cur 232 (0, 0)) ∧ s.length + 1 ≤ cap ∧ cap ≤ maxLen ∧ cur.size = cap * 3 ∧ cur.toList.take ((s.length + 1) * 3) = (Qdt (-9223372036854775808) o s).flatMap span3 := by
     rcases h2.2 with ⟨_, h0⟩ | h0
     ·omega
     ·exact h0
    refine ⟨_, fun b => if b = g then (s.length + 1) * 3 else h b, rfl, h4, fun b hb => if_neg (by omega), fun b hb => ?_, ?_⟩
    ·have hgl := (Array.getElem?_eq_some_iff.1 hg).1
     have : b ≠ g := by omega
     simp only [if_neg this]
     exact hz b (Nat.le_trans h4.size hb)
    ·have hsl := Qo9 s (-9223372036854775808) o
     have := Qs2 (w := w') (h := fun b => if b = g then (s.length + 1) * 3 else h b) (g := g) (off := 0) (cap := cap) (es := 3) (l := (Qdt (-9223372036854775808) o s).map Qpe) (us := (Qdt (-9223372036854775808) o s).flatMap span3) (by intro c hc; obtain ⟨x, _, rfl⟩ := List.mem_map.1 hc; rfl) (by simpa [hsl] using hcap) (by simp [hsl]) (fun i u hi => ?_) (Qwd _)
     ·simpa [hsl] using this
     ·rw [Nat.zero_add]
      have hi2 : i < ((Qdt (-9223372036854775808) o s).flatMap span3).length := (List.getElem?_eq_some_iff.1 hi).1
      rw [QqQ, hsl] at hi2
      rw [← hi, ← h2.cellAt i hi2]
   ·cases e
  ·cases e
 ·cases e
theorem QfD {f : FuncId} (h : (match Tryz.prog.funcs[f]? with | some fn => fn.body.isSome && !(fn.name == "runtime.NumGoroutine") | none => false) = true) : ∀ vs w, (callFunc f vs).run Tryz.prog w = .ok (.enter f vs) w := by
 intro vs w
 split at h
 ·rename_i fn hf
  simp only [Bool.and_eq_true, Bool.not_eq_true', beq_eq_false_iff_ne, ne_eq] at h
  obtain ⟨c, hc⟩ := Option.isSome_iff_exists.1 h.1
  simp [callFunc, hf, h.2, hc]
 ·cases h
theorem Tw.weak {a b : Nat} {w : World} (h : a ≤ b) (x : Tw b w) : Tw a w := by
 cases x
 constructor <;> first | assumption | (intro q; rename_i h1; exact h1 (by omega)) | (intro q; rename_i h1 _; exact h1 (by omega)) | (intro q; rename_i h1 _ _; exact h1 (by omega)) | (intro q; rename_i h1 _ _ _; exact h1 (by omega)) | (intro q; rename_i h1 _ _ _ _; exact h1 (by omega))
theorem Ends.weak {a b : Nat} (h : a ≤ b) {f : FuncId} {args : List CV} {r : CV} (x : Ends a f args r) : Ends b f args r := fun w hw vs hT => x w hw vs (hT.weak h)
theorem QyA (lb : Nat) (hlb : lb ≤ 1) : Qr0 Tryz.prog KK.gl (Tw lb) (L lb) := by
 intro f s hs args r hr
 unfold L L1 at hs
 split at hs
 ·rename_i hf; subst hf; cases hs; exact ⟨QfD (by kernel_rfl), QqG hr⟩
 split at hs
 ·rename_i hf; subst hf; cases hs; exact ⟨QfD (by kernel_rfl), Qpm hr⟩
 split at hs
 ·rename_i hf; subst hf; cases hs; exact ⟨QfD (by kernel_rfl), QvN hr⟩
 split at hs
 ·rename_i hf; subst hf
  rcases lb with _ | lb
  ·cases hs
  ·cases hs; exact ⟨QfD (by kernel_rfl), QvF hr⟩
 split at hs
 ·rename_i hf; subst hf; cases hs; exact ⟨QfD (by kernel_rfl), Qv8 hr⟩
 split at hs
 ·rename_i hf; subst hf; cases hs; exact ⟨QfD (by kernel_rfl), Qu1 hr⟩
 split at hs
 ·rename_i hf; subst hf; cases hs; exact ⟨QfD (by kernel_rfl), QtV hr⟩
 split at hs
 ·rename_i hf; subst hf; cases hs; exact ⟨QfD (by kernel_rfl), QuQ hr⟩
 split at hs
 ·rename_i hf; subst hf; cases hs; exact ⟨QfD (by kernel_rfl), QvX hr⟩
 split at hs
 ·rename_i hf; subst hf; cases hs; exact ⟨QfD (by kernel_rfl), Qva hr⟩
 ·cases hs
end Go.Proofs
