/- append. Conditions: none. -/
import Derived.Test.YtiffhngfneikoaaDoorAmU
namespace Go.Am
open Go.RowKit
variable {P : Program} {B : Nat} {W0 : Base} {d : Nat} {σ : St} {a : Act} {w : World} {G : Gh} {β : Type} {call : FuncId → List CV → Option CV}
  {acc : List Loc} {r : β} {o : Oper} {ops : List Oper}

/-- what the built-in reads of what is appended -/
structure Src (P : Program) (w : World) (size : Nat) (x : Value) (n : Nat) (news : List Value) : Prop where
  len : ∀ w', (Builtin.lenOf x).run P w' = .ok n w'
  first : ∀ w', w'.heap = w.heap → (Builtin.firstCells size n x).run P w' = .ok news.toArray w'
  size : news.length = n * size

section
variable {t u ty e : TypeId} {i : TypeInfo} {z : Value} (ht : P.underlying t = some (.slice e)) (hu : P.underlying u = some .string ∨ ∃ e', P.underlying u = some (.slice e'))
  (hi : P.info? e = some i) (hz : i.zero = some z)
include ht hu hi

/-- nothing is appended -/
theorem run_append_zero {x : Value} {base : Option Addr} {sLen sCap : Nat} (hx : Src P w i.size x 0 []) (hle : sLen ≤ sCap) :
    (Builtin.append_ #[t, u] ty #[.slice base sLen sCap, x]).run P w = .ok (.slice base sLen sCap) w := by
  have h1 := hx.len w
  have h2 := hx.first w rfl
  rcases hu with hud | ⟨e', hud⟩ <;> cases base <;> simp [Builtin.append_, run_underlying ht, run_underlying hud, sizeOf, typeInfo, hi, h1, h2, hle, storeCells]
include hz
/-- there is no room -/
theorem run_append_new {x : Value} {n : Nat} {news : List Value} {base : Option Addr} {sLen sCap : Nat} {olds : List Value} (hx : Src P w i.size x n news)
    (ho : (Builtin.firstCells i.size sLen (.slice base sLen sCap)).run P w.drew = .ok olds.toArray w.drew)
    (hg : sCap < sLen + n) (h63 : ((sLen + n : Nat) : Int) ≤ 9223372036854775807) (hfit : Builtin.nextslicecap (sLen + n) sCap * i.bytes ≤ 281474976710656) :
    (Builtin.append_ #[t, u] ty #[.slice base sLen sCap, x]).run P w =
      .ok (.slice (some ⟨w.heap.size, 0, none⟩) (sLen + n) (grownCap w (sLen + n) sCap e))
        (w.drew.alloc (.cells ((olds ++ news).toArray ++ Builtin.zeroCells z.cells (grownCap w (sLen + n) sCap e - (sLen + n))) e)) := by
  have hn : ¬ (sLen + n ≤ sCap) := by omega
  have h63' : ¬ (9223372036854775807 < ((sLen : Int) + (n : Int))) := by omega
  have h48' : ¬ (281474976710656 < Builtin.nextslicecap (sLen + n) sCap * i.bytes) := by omega
  have h1 := hx.len w
  have h2 := hx.first w.drew rfl
  rcases hu with hud | ⟨e', hud⟩ <;> simp [Builtin.append_, run_underlying ht, run_underlying hud, sizeOf, typeInfo, zeroValue, hi, hz, h1, hn, h63', h48', Question.forced, h2, ho, newRow, grownCap]
  all_goals
    congr 2
    apply Array.ext'
    simp
end

/-- there is room in a row of the call's own -/
theorem run_append_in {t u ty e : TypeId} {i : TypeInfo} (ht : P.underlying t = some (.slice e)) (hu : P.underlying u = some .string ∨ ∃ e', P.underlying u = some (.slice e'))
    (hi : P.info? e = some i) {x : Value} {n : Nat} {news : List Value} (hx : Src P w i.size x n news)
    {g sLen sCap : Nat} {cur : Array Value} (hg : w.heap[g]? = some (.cells cur e (0, 0))) (h1 : ∀ v ∈ news, v.oneCell' = true) (hroom : sLen + n ≤ sCap) (hfit : sLen * i.size + news.length ≤ cur.size) :
    (Builtin.append_ #[t, u] ty #[.slice (some (cellA g 0)) sLen sCap, x]).run P w =
      .ok (.slice (some (cellA g 0)) (sLen + n) sCap) (w.setRow g (cur.toList.take (sLen * i.size) ++ news ++ cur.toList.drop (sLen * i.size + news.length)).toArray) := by
  have e1 := hx.len w
  have e2 := hx.first w rfl
  have hst := run_storeCells_at P g (sLen * i.size) e news 0 cur w hg (by simpa using hfit) h1
  simp only [Nat.add_zero] at hst
  rcases hu with hud | ⟨e', hud⟩ <;> simp [Builtin.append_, run_underlying ht, run_underlying hud, sizeOf, typeInfo, hi, e1, hroom, e2, add_cellA, hst]

theorem CRepC.cells {w : World} {h : Hw} {b : Nat} : ∀ {c : List CV} {off : Nat}, CRepC w h b off c → ∃ us : List Value, us.length = c.length ∧ (∀ j u, us[j]? = some u → w.cell? (cellA b (off + j)) = some u) ∧ CRepV w h c us
  | [], off, _ => ⟨[], rfl, fun j u hj => by simp at hj, by simp [CRepV]⟩
  | x :: c, off, hc => by
    simp only [CRepC] at hc
    obtain ⟨⟨v, h1, h2, h3⟩, h4⟩ := hc
    obtain ⟨us, q1, q2, q3⟩ := h4.cells
    refine ⟨v :: us, by simp [q1], fun j u hj => ?_, by simp only [CRepV]; exact ⟨_, _, rfl, h2, h3, q3⟩⟩
    cases j with
    | zero => simp at hj; subst hj; simpa using h1
    | succ j =>
      have := q2 j u (by simpa using hj)
      rw [Nat.add_assoc, Nat.add_comm 1 j] at this
      exact this
theorem CRepLL.cells {w : World} {h : Hw} {b : Nat} : ∀ {l : List (List CV)} {off : Nat}, CRepLL w h b off l → ∃ us : List Value, us.length = (l.map List.length).sum ∧ (∀ j u, us[j]? = some u → w.cell? (cellA b (off + j)) = some u) ∧ CRepV w h l.flatten us
  | [], off, _ => ⟨[], rfl, fun j u hj => by simp at hj, by simp [CRepV]⟩
  | c :: l, off, hc => by
    simp only [CRepLL] at hc
    obtain ⟨us, q1, q2, q3⟩ := hc.1.cells
    obtain ⟨vs, r1, r2, r3⟩ := hc.2.cells
    refine ⟨us ++ vs, by simp [q1, r1], fun j u hj => ?_, by simp only [List.flatten_cons]; exact q3.append r3⟩
    rw [List.getElem?_append] at hj
    split at hj
    · exact q2 j u hj
    · rename_i hlt
      have := r2 _ u hj
      rw [← this]
      congr 2
      omega
theorem CRepV.one {w : World} {h : Hw} : ∀ {c : List CV} {us : List Value}, CRepV w h c us → ∀ v ∈ us, v.oneCell' = true
  | [], us, hr, v, hv => by simp only [CRepV] at hr; subst hr; simp at hv
  | x :: c, us, hr, v, hv => by
    simp only [CRepV] at hr
    obtain ⟨u, s, rfl, h2, _, h4⟩ := hr
    simp only [List.mem_cons] at hv
    rcases hv with rfl | hv
    · exact h2
    · exact h4.one v hv

theorem srcM_sound {u : TypeId} {size : Nat} {p : Place} {x : AV} {vx : Value} (hx : ARep P w G p x vx) {f : List (List CV) → List Loc → Option β} (h : (srcM P u x).exec call σ acc f = some r) :
    ∃ new, f new acc = some r ∧ (P.underlying u = some .string ∨ ∃ e', P.underlying u = some (.slice e')) ∧
      ((∀ c ∈ new, c.length = size) → ∃ news, Src P w size vx new.length news ∧ CRepV w G.hw new.flatten news) := by
  unfold srcM at h
  split at h
  · rename_i hu
    rw [M.exec_bind] at h
    obtain ⟨c, h, hc⟩ := cv_sound hx h
    simp only [M.exec] at h
    obtain ⟨b, hb, h⟩ := optO_some h
    rw [asS_some hb] at hc
    simp only [CRep] at hc
    refine ⟨_, h, Or.inl hu, fun hs => ?_⟩
    have hz : (⟨b.toArray⟩ : ByteArray).size = b.length := by simp [ByteArray.size]
    refine ⟨b.map fun x => Value.int .u8 x.toNat, ⟨fun w' => by simp [hc, Builtin.lenOf, hz], fun w' _ => ?_, ?_⟩, ?_⟩
    · rw [hc]
      have : (⟨b.toArray⟩ : ByteArray).extract 0 b.length = ⟨b.toArray⟩ := by rw [ba_extract]; simp
      simp [Builtin.firstCells, this]
    · cases b with
      | nil => simp
      | cons y ys =>
        have := hs [CV.int .u8 (y.toNat : Int)] (by simp)
        simp only [List.length_cons, List.length_nil] at this
        subst this
        simp
    · have : ∀ (l : List UInt8) {w' : World} {hh : Hw}, CRepV w' hh (l.map fun c => [CV.int .u8 (c.toNat : Int)]).flatten (l.map fun x => Value.int .u8 x.toNat) := by
        intro l
        induction l with
        | nil => intro w' hh; simp [CRepV]
        | cons x l ih =>
          intro w' hh
          simp only [List.map_cons, List.flatten_cons, List.cons_append, List.nil_append, CRepV]
          exact ⟨_, _, rfl, rfl, by simp only [CRep], ih⟩
      exact this b
  · rename_i e' hu
    rw [M.exec_bind] at h
    obtain ⟨c, h, hc⟩ := cv_sound hx h
    simp only [M.exec] at h
    obtain ⟨q, hq, h⟩ := optO_some h
    rw [asL_some hq] at hc
    simp only [CRep] at hc
    refine ⟨_, h, Or.inr ⟨_, hu⟩, fun hs => ?_⟩
    rcases hc with ⟨_, q2, q3⟩ | ⟨_, b, off, cap, es, q2, q3, q4, q5, q6⟩
    · refine ⟨[], ⟨fun w' => by simp [q3, Builtin.lenOf, q2], fun w' _ => by simp [q3, Builtin.firstCells], by simp [q2]⟩, by simp [q2, CRepV]⟩
    · obtain ⟨us, r1, r2, r3⟩ := q6.cells
      rw [sum_len hs] at r1
      refine ⟨us, ⟨fun w' => by simp [q2, Builtin.lenOf], fun w' hw' => ?_, r1⟩, r3⟩
      rw [q2]
      refine run_firstCells_some w' size _ _ _ _ us r1 fun j v hj => ?_
      rw [add_cellA, cell?_of_heap (w := w) (by rw [hw'])]
      exact r2 j v hj
  · simp [M.exec] at h

theorem Sim.step (S : Sim P B W0 d σ a w G) {w' : World} {G' : Gh} (p0 : Place) (hM : Mem P B W0 w' G' σ.mem) (hN : Same .none w w' G G') (hS : ∀ j, Place.tmp d j ≠ p0 → Same (.tmp d j) w w' G G')
    (hc : ∀ j, Place.tmp d j = p0 → (nthD .any σ.tmps j).owns = false) : Sim P B W0 d σ a w' G' := by
  refine ⟨hM, S.depth, ⟨S.fr.len, fun j => ?_⟩, S.cfg, S.defers⟩
  by_cases e : Place.tmp d j = p0
  · exact ARep.place (hc j e) (ARep.same hN hN _ (ARep.place (q := .none) (hc j e) (S.fr.rep j)))
  · exact ARep.same (hS j e) hN _ (S.fr.rep j)

theorem setRow_other (w : World) (g : Nat) (cs : Array Value) (k : Nat) (h : k ≠ g) : (w.setRow g cs).heap[k]? = w.heap[k]? := by
  simp only [World.setRow, Array.getElem?_modify]
  rw [if_neg (Ne.symm h)]
theorem Below.setRow {B : Nat} (w : World) (g : Nat) (cs : Array Value) (h : B ≤ g) : Below B w (w.setRow g cs) :=
  ⟨rfl, rfl, rfl, by simp [World.setRow], fun k hk => setRow_other w g cs k (by omega)⟩

/-- more cells of a row of the call's own are given their values for good -/
theorem same_grow {mem : MemT} (_M : Mem P B W0 w G mem) {g m : Nat} {p : Place} {p' : Option Place} {cur row : Array Value} {e : TypeId} (hg : w.heap[g]? = some (.cells cur e (0, 0))) (hp : G.own g = some p) (hm : G.hw g ≤ m)
    (hrow : ∀ i, i < G.hw g → row[i]? = cur[i]?) {q : Place} (hq : q ≠ p) : Same q w (w.setRow g row) G (G.pub g m p') := by
  refine ⟨⟨fun b => ?_, fun b i hi => ?_, fun b e' he => ?_⟩, fun _ _ _ h => h, fun b hb => ?_⟩
  · show G.hw b ≤ if b = g then m else G.hw b
    split
    · rename_i h; rw [h]; exact hm
    · exact Nat.le_refl _
  · by_cases eb : b = g
    · subst eb
      unfold World.cell?
      simp only [setRow_heap w b cur row e (0, 0) hg, hg]
      simpa using hrow i hi
    · exact cell?_of_heap (setRow_other w g row b eb) i
  · by_cases eb : b = g
    · subst eb
      have h1 : elemAt w b = some e := by simp [elemAt, World.shape?, hg]
      have h2 : elemAt (w.setRow b row) b = some e := by simp [elemAt, World.shape?, setRow_heap w b cur row e (0, 0) hg]
      rw [h2, ← h1]; exact he
    · rw [elemAt_heap (setRow_other w g row b eb)]; exact he
  · have eb : b ≠ g := fun h => by subst h; rw [hp] at hb; exact hq (Option.some.inj hb).symm
    exact ⟨by simp [Gh.pub, eb, hb], by simp [Gh.pub, eb], setRow_other w g row b eb⟩
theorem Mem.grow {mem : MemT} (M : Mem P B W0 w G mem) {g m : Nat} {p p' : Place} {cur row : Array Value} {e : TypeId} (hg : w.heap[g]? = some (.cells cur e (0, 0))) (hp : G.own g = some p) (hpc : ∀ d s o, p ≠ .cell d s o) (hm : G.hw g ≤ m)
    (hrow : ∀ i, i < G.hw g → row[i]? = cur[i]?) (hp' : p' ≠ .none) : Mem P B W0 (w.setRow g row) (G.pub g m (some p')) mem := by
  have hlo := M.own g p hp
  have hsz : (w.setRow g row).heap.size = w.heap.size := by simp [World.setRow]
  refine ⟨M.below.trans (Below.setRow w g row hlo.1), by rw [hsz]; exact M.base, fun b q hq => ?_, fun b hb => ?_, M.blk, fun d s cs hbx => ?_, M.inj, M.glob.keep (same_grow M hg hp hm hrow (fun h => hlo.2.2 h.symm)).keep⟩
  · by_cases eb : b = g
    · subst eb
      simp [Gh.pub] at hq
      exact ⟨hlo.1, by rw [hsz]; exact hlo.2.1, by rw [← hq]; exact hp'⟩
    · simp [Gh.pub, eb] at hq
      have := M.own b q hq
      exact ⟨this.1, by rw [hsz]; exact this.2.1, this.2.2⟩
  · rw [hsz] at hb
    have eb : b ≠ g := by omega
    simp [Gh.pub, eb, M.hw b hb]
  · obtain ⟨b, vs, T, fz, R⟩ := M.box d s cs hbx
    have eb : b ≠ g := fun h => by subst h; have := R.own; rw [hp] at this; simp at this
    refine ⟨b, vs, T, fz, R.blk, R.lo, by rw [setRow_other w g row b eb]; exact R.heap, R.free, by simp [Gh.pub, eb, R.hw], by simp [Gh.pub, eb, R.own], ⟨R.rep.len, fun i hi => ?_⟩⟩
    obtain ⟨u, q1, q2, q3⟩ := R.rep.rep i hi
    exact ⟨u, q1, q2, ARep.same (same_grow M hg hp hm hrow (by intro h; exact hpc d s i h.symm)) (same_grow M hg hp hm hrow (by intro h; exact hlo.2.2 h.symm)) _ q3⟩

theorem zeroCells_size (z : Array Value) (n : Nat) : (Builtin.zeroCells z n).size = n * z.size := by simp [Builtin.zeroCells]

theorem appRes_of {p : Place} {own n : Bool} {e : TypeId} {l new : List (List CV)} {v : Value} (h : ARep P w G p (.lst true (n && new.isEmpty) e (l ++ new)) v) : ARep P w G p (appRes own n e l new) v := by
  cases own with
  | true => exact h
  | false => simpa only [appRes, ARep] using h.list
/-- what comes of an append, whatever happens -/
theorem append_sound (S : Sim P B W0 d σ a w G) {p0 : Place} {t u ty e : TypeId} {own n : Bool} {l new : List (List CV)} {vs vx : Value} {news : List Value} (dst : Nat)
    (hs : ARep P w G p0 (.lst own n e l) vs) (hp0 : ∀ d' s o, p0 ≠ .cell d' s o) (hp0' : ∀ d' i, d' < d → p0 ≠ .tmp d' i) (hcp : ∀ j, Place.tmp d j = p0 → (nthD .any σ.tmps j).owns = false)
    (ht : P.underlying t = some (.slice e)) (hu : P.underlying u = some .string ∨ ∃ e', P.underlying u = some (.slice e')) (hz : (zeroOf P e).isSome = true) (hby : 0 < P.bytesOf e)
    (hnew : ∀ c ∈ new, c.length = P.cellsOf e) (hsrc : Src P w (P.cellsOf e) vx new.length news) (hrep : CRepV w G.hw new.flatten news) (hroom : (l.length + new.length) * P.bytesOf e ≤ 140737488355328) :
    ∃ v' w' G', (Builtin.append_ #[t, u] ty #[vs, vx]).run P w = .ok v' w' ∧ Sim P B W0 d σ a w' G' ∧ Keeps B d w w' G G' ∧ ARep P w' G' (.tmp d dst) (appRes own n e l new) v' := by
  obtain ⟨zc, hzc⟩ := Option.isSome_iff_exists.1 hz
  -- the element's row of the table
  obtain ⟨i, z, hi, hiz, hisz, hiby, hzs⟩ : ∃ (i : TypeInfo) (z : Value), P.info? e = some i ∧ i.zero = some z ∧ i.size = P.cellsOf e ∧ i.bytes = P.bytesOf e ∧ z.cells.size = P.cellsOf e := by
    unfold zeroOf at hzc
    split at hzc
    · rename_i ds i h1 h2
      split at hzc
      · rename_i z hz'
        split at hzc
        · rename_i hh
          simp only [Bool.and_eq_true, beq_iff_eq] at hh
          exact ⟨i, z, h2, hz', by simp [Program.cellsOf, h2], by simp [Program.bytesOf, h2], by simp [Program.cellsOf, h2, hh.2]⟩
        · simp at hzc
      · simp at hzc
    · simp at hzc
  have hsrc' : Src P w i.size vx new.length news := by rw [hisz]; exact hsrc
  have hall : ∀ c ∈ l ++ new, (∀ c ∈ l, c.length = P.cellsOf e) → c.length = P.cellsOf e := by
    intro c hc hl
    rcases List.mem_append.1 hc with h | h
    · exact hl c h
    · exact hnew c h
  have hlen63 : l.length + new.length ≤ 140737488355328 := by
    have : (l.length + new.length) * 1 ≤ (l.length + new.length) * P.bytesOf e := Nat.mul_le_mul_left _ hby
    omega
  -- a new block
  have grown : ∀ (base : Option Addr) (cap : Nat) (olds : List Value), vs = .slice base l.length cap → cap < l.length + new.length → (∀ c ∈ l, c.length = P.cellsOf e) →
      (Builtin.firstCells i.size l.length (.slice base l.length cap)).run P w.drew = .ok olds.toArray w.drew → olds.length = l.length * P.cellsOf e → CRepV w G.hw l.flatten olds →
      ∃ v' w' G', (Builtin.append_ #[t, u] ty #[vs, vx]).run P w = .ok v' w' ∧ Sim P B W0 d σ a w' G' ∧ Keeps B d w w' G G' ∧ ARep P w' G' (.tmp d dst) (.lst true (n && new.isEmpty) e (l ++ new)) v' := by
    intro base cap olds hvs hcap hl hfirst holen horep
    have hrun := run_append_new (ty := ty) ht hu hi hiz hsrc' hfirst hcap (by omega) (growslice_fits hcap (by rw [hiby]; exact hroom))
    have hC := grownCap_ge w (l.length + new.length) cap e
    have hCm := grownCap_le_maxLen w (l.length + new.length) cap e (by unfold maxLen; omega)
    generalize grownCap w (l.length + new.length) cap e = C at *
    have S1 := S.sameHeap (w' := w.drew) rfl (Below.refl B w).drew
    have S2 := S1.pub (.cells ((olds ++ news).toArray ++ Builtin.zeroCells z.cells (C - (l.length + new.length))) e) ((l.length + new.length) * P.cellsOf e) (some (.tmp d dst)) (by simp)
    have K2 := (Keeps.sameHeap (d := d) (G := G) (w := w) (w' := w.drew) rfl (Below.refl B w).drew).trans (Keeps.pub S1.mem (.cells ((olds ++ news).toArray ++ Builtin.zeroCells z.cells (C - (l.length + new.length))) e) ((l.length + new.length) * P.cellsOf e) (some (.tmp d dst)))
    refine ⟨_, _, _, by rw [hvs]; exact hrun, S2, K2, ?_⟩
    have hne : (n && new.isEmpty) = false := by
      cases hnn : new with
      | nil =>
        -- something is appended, or the slice was longer than its array
        simp only [hnn, List.length_nil, Nat.add_zero] at hcap
        simp only [ARep] at hs
        rcases hs with ⟨h1, h2, h3⟩ | ⟨h1, _⟩
        · rw [h2] at hcap; simp at hcap
        · simp [h1]
      | cons _ _ => simp
    rw [hne]
    simp only [ARep]
    refine .inr ⟨trivial, w.heap.size, 0, C, by simp, by simpa using hC, fun c hc => hall c hc hl, ?_, ?_, .inr ⟨trivial, ?_⟩⟩
    · simp [Gh.pub]
    · have hrepv : CRepV w G.hw (l ++ new).flatten (olds ++ news) := by rw [List.flatten_append]; exact horep.append hrep
      have hK := K2.keep
      have hrep2 := CRepV.keep hK _ hrepv
      refine CRepLL.of_cells (us := olds ++ news) (fun j u' hj => ?_) hrep2
      have e1 := cell_new w.drew ((olds ++ news).toArray ++ Builtin.zeroCells z.cells (C - (l.length + new.length))) e (0, 0) (0 + j)
      have e2 : w.drew.heap.size = w.heap.size := rfl
      rw [e2] at e1
      rw [e1, Nat.zero_add]
      have hlt : j < (olds ++ news).length := (List.getElem?_eq_some_iff.1 hj).1
      rw [Array.getElem?_append_left (by simpa using hlt)]
      simpa using hj
    · refine ⟨by simp [Gh.pub], rfl, by simp [Gh.pub], hCm, _, heap_alloc_new w.drew _, ?_⟩
      have h1 := hsrc.size
      simp only [Array.size_append, List.size_toArray, List.length_append, zeroCells_size, hzs, holen, h1]
      have e3 : C * P.cellsOf e = (l.length + new.length + (C - (l.length + new.length))) * P.cellsOf e := by congr 1; omega
      rw [e3, Nat.add_mul, Nat.add_mul]
  have up : (∃ v' w' G', (Builtin.append_ #[t, u] ty #[vs, vx]).run P w = .ok v' w' ∧ Sim P B W0 d σ a w' G' ∧ Keeps B d w w' G G' ∧ ARep P w' G' (.tmp d dst) (.lst true (n && new.isEmpty) e (l ++ new)) v') →
      ∃ v' w' G', (Builtin.append_ #[t, u] ty #[vs, vx]).run P w = .ok v' w' ∧ Sim P B W0 d σ a w' G' ∧ Keeps B d w w' G G' ∧ ARep P w' G' (.tmp d dst) (appRes own n e l new) v' :=
    fun ⟨v', w', G', q1, q2, q3, q4⟩ => ⟨v', w', G', q1, q2, q3, appRes_of q4⟩
  have hs0 := hs
  simp only [ARep] at hs
  by_cases hnil : new = []
  · -- nothing is appended
    subst hnil
    have h0 : news = [] := List.eq_nil_of_length_eq_zero (by have := hsrc'.size; simpa using this)
    subst h0
    rcases hs with ⟨h1, h2, h3⟩ | ⟨h1, b, off, cap, h2, h3, h4, h5, h6, h7⟩
    · have hrun := run_append_zero (ty := ty) (base := none) (sLen := 0) (sCap := 0) ht hu hi hsrc' (Nat.le_refl _)
      exact ⟨_, w, G, by rw [h3]; exact hrun, S, Keeps.refl _ _ _ _, appRes_of (by simp only [ARep]; exact .inl ⟨by simp [h1], by simp [h2], trivial⟩)⟩
    · have hrun := run_append_zero (ty := ty) (base := some (cellA b off)) (sLen := l.length) (sCap := cap) ht hu hi hsrc' h3
      rcases h7 with h7 | ⟨_, h7⟩
      · refine ⟨_, w, G, by rw [h2]; exact hrun, S, Keeps.refl _ _ _ _, ?_⟩
        rw [h7.1]
        have q := hs0.list
        rw [h2] at q
        simp only [appRes, ARep, List.append_nil, List.isEmpty_nil, Bool.and_true]
        exact q
      · have ho := h7.1
        have hn0 : p0 ≠ .none := (S.mem.own b _ ho).2.2
        refine ⟨_, w, G.move b (.tmp d dst), by rw [h2]; exact hrun, S.step p0 (S.mem.move ho (by simp) hp0) (same_move ho (Ne.symm hn0)) (fun j hj => same_move ho hj) hcp, Keeps.move ho hp0', appRes_of ?_⟩
        rw [List.append_nil, List.isEmpty_nil, Bool.and_true]
        simp only [ARep]
        refine .inr ⟨h1, b, off, cap, rfl, h3, h4, h5, ?_, .inr ⟨trivial, ?_⟩⟩
        · exact CRepLL.keep (Keep.refl _ _) l (by rw [sum_len h4]; exact h5) h6
        · obtain ⟨q1, q2, q3, q4, cur, q5, q6⟩ := h7
          exact ⟨by simp [Gh.move], q2, q3, q4, cur, q5, q6⟩
  · have hpn : 0 < new.length := List.length_pos_iff.2 hnil
    have hemp : (n && new.isEmpty) = false := by cases new with | nil => exact (hnil rfl).elim | cons _ _ => simp
    rcases hs with ⟨h1, h2, h3⟩ | ⟨h1, b, off, cap, h2, h3, h4, h5, h6, h7⟩
    · subst h2
      exact up (grown none 0 [] (by rw [h3]; rfl) (by simp; exact hpn) (by simp) (by simp [Builtin.firstCells]) (by simp) (by simp [CRepV]))
    · obtain ⟨olds, o1, o2, o3⟩ := h6.cells
      rw [sum_len h4] at o1
      by_cases hfit : cap < l.length + new.length
      · refine up (grown _ cap olds h2 hfit h4 ?_ o1 o3)
        refine run_firstCells_some w.drew i.size l.length _ _ _ olds (by rw [hisz]; exact o1) fun j v hj => ?_
        rw [add_cellA, World.cell?_drew]
        exact o2 j v hj
      · -- in place
        rcases h7 with h7 | ⟨_, h7⟩
        · omega
        · obtain ⟨ho, q2, q3, q4, cur, q5, q6⟩ := h7
          subst q2
          have hn0 : p0 ≠ .none := (S.mem.own b _ ho).2.2
          have hns := hsrc.size
          have hle : l.length * P.cellsOf e + new.length * P.cellsOf e ≤ cap * P.cellsOf e := by rw [← Nat.add_mul]; exact Nat.mul_le_mul_right _ (by omega)
          have hrun := run_append_in (ty := ty) (sLen := l.length) (sCap := cap) ht hu hi hsrc' q5 hrep.one (by omega) (by rw [hisz, q6, hns]; exact hle)
          rw [hisz] at hrun
          generalize hrw : (cur.toList.take (l.length * P.cellsOf e) ++ news ++ cur.toList.drop (l.length * P.cellsOf e + news.length)).toArray = row at hrun
          have hrow : ∀ j, j < G.hw b → row[j]? = cur[j]? := by
            intro j hj
            rw [← q3] at hj
            rw [← hrw]
            simp only [List.getElem?_toArray, List.append_assoc]
            rw [List.getElem?_append_left (by simp; omega), List.getElem?_take, if_pos hj]
            simp
          have hm : G.hw b ≤ (l.length + new.length) * P.cellsOf e := by rw [← q3, Nat.add_mul]; omega
          have hSame : ∀ q, q ≠ p0 → Same q w (w.setRow b row) G (G.pub b ((l.length + new.length) * P.cellsOf e) (some (.tmp d dst))) := fun q hq => same_grow S.mem q5 ho hm hrow hq
          have hK : Keeps B d w (w.setRow b row) G (G.pub b ((l.length + new.length) * P.cellsOf e) (some (.tmp d dst))) :=
            ⟨(hSame .none (Ne.symm hn0)).keep, fun k d' j hd hk => (hSame _ (fun q => hp0' d' j hd q.symm)).own k hk, fun _ _ _ _ h => h, Below.setRow w b row (S.mem.own b _ ho).1, fun k hk => by have := (S.mem.own b _ ho).1; simp [Gh.pub, show k ≠ b by omega]⟩
          refine ⟨_, _, _, by rw [h2]; exact hrun, S.step p0 (S.mem.grow q5 ho hp0 hm hrow (by simp)) (hSame _ (Ne.symm hn0)) (fun j hj => hSame _ hj) hcp, hK, appRes_of ?_⟩
          rw [hemp]
          simp only [ARep]
          have hheap := setRow_heap w b cur row e (0, 0) q5
          refine .inr ⟨trivial, b, 0, cap, by simp, by simp; omega, fun c hc => hall c hc h4, by simp [Gh.pub], ?_, .inr ⟨trivial, ?_⟩⟩
          · have hrepv : CRepV w G.hw (l ++ new).flatten (olds ++ news) := by rw [List.flatten_append]; exact o3.append hrep
            have hrep2 := CRepV.keep hK.keep _ hrepv
            refine CRepLL.of_cells (us := olds ++ news) (fun j u' hj => ?_) hrep2
            unfold World.cell?
            simp only [hheap, Nat.zero_add]
            rw [← hrw]
            simp only [Option.isSome_none, Bool.false_eq_true, if_false, List.getElem?_toArray, List.append_assoc]
            rw [List.getElem?_append] at hj
            split at hj
            · rename_i hlt
              rw [o1] at hlt
              rw [List.getElem?_append_left (by simp; omega), List.getElem?_take, if_pos hlt]
              have := o2 j u' hj
              unfold World.cell? at this
              simp only [q5, Nat.zero_add] at this
              simpa using this
            · rename_i hlt
              rw [o1] at hlt hj
              have hjn : j - l.length * P.cellsOf e < news.length := (List.getElem?_eq_some_iff.1 hj).1
              rw [List.getElem?_append_right (by simp; omega), List.getElem?_append_left (by simp; omega)]
              rw [← hj]
              congr 1
              simp; omega
          · refine ⟨by simp [Gh.pub], rfl, by simp [Gh.pub], q4, row, hheap, ?_⟩
            rw [← hrw]
            simp
            omega

theorem growM_sound {γ : Type} {e : TypeId} {sv : AV} {v : Value} {p : Place} {acc : List Loc} {f : AV → List Loc → Option γ} {r : γ} (hs : ARep P w G p sv v)
    (h : (growM e sv).exec call σ acc f = some r) : ∃ sv', f sv' acc = some r ∧ ARep P w G p sv' v := by
  cases sv with
  | val c =>
    simp only [growM, M.exec] at h
    obtain ⟨q, hq, h⟩ := optO_some h
    cases c with
    | list n l =>
      simp only [CV.asL, Option.some.injEq] at hq
      subst hq
      cases n with
      | true =>
        simp only [cond_true] at h
        obtain ⟨h1, h⟩ := chkO_some h
        refine ⟨_, h, ?_⟩
        simp only [ARep, CRep] at hs ⊢
        rcases hs with ⟨_, h2, h3⟩ | ⟨h2, _⟩
        · exact .inl ⟨trivial, trivial, h3⟩
        · cases h2
      | false => simp at h
    | _ => simp [CV.asL] at hq
  | _ => exact ⟨_, by simpa only [growM, M.exec] using h, hs⟩

theorem op_append (S : Sim P B W0 d σ a w G) {c : Call} (ho : o.op = .call c) (hb : c.callee = .builtin .append) {k : List W → List Loc → Option β}
    (h : (opM P d ops o).exec call σ acc k = some r) : OpDone P B W0 d o σ a w G k r := by
  unfold opM at h
  rw [ho] at h
  simp only [hb] at h
  unfold builtinM at h
  have resolve_eq : execOp a.eval o = invoke (.builtin .append c.argTypes o.type (c.args.map fun | .const _ => true | _ => false)) (c.args.map a.eval) := by
    unfold execOp
    rw [ho]
    simp only [resolve, hb]
    rfl
  split at h
  · rename_i hh _ _; cases hh
  · rename_i x y t u _ hargs htypes
    simp only [M.exec] at h
    obtain ⟨hd, h⟩ := chkO_some h
    obtain ⟨dst, hd⟩ := Option.isSome_iff_exists.1 hd
    rw [M.exec_bind] at h
    obtain ⟨sv, acc1, h, hs⟩ := opdT_sound S _ _ h
    rw [M.exec_bind] at h
    obtain ⟨zv, acc2, h, hz⟩ := opd_sound S _ h
    rw [M.exec_bind] at h
    unfold appendM at h
    split at h
    · rename_i e ht
      rw [M.exec_bind] at h
      obtain ⟨new, h, hu, hsrc⟩ := srcM_sound (size := P.cellsOf e) hz h
      rw [M.exec_bind] at h
      have hs0 := hs
      obtain ⟨sv', h, hs⟩ := growM_sound hs h
      cases sv' with
      | lst own n e' l =>
        simp only [M.exec] at h
        obtain ⟨h1, h⟩ := chkO_some h
        obtain ⟨h2, h⟩ := chkO_some h
        obtain ⟨h3, h⟩ := chkO_some h
        simp only [Bool.and_eq_true, beq_iff_eq, decide_eq_true_eq] at h1
        obtain ⟨⟨⟨rfl, _⟩, hby⟩, hz0⟩ := h1
        have hnew : ∀ c ∈ new, c.length = P.cellsOf e' := by simpa using h2
        have hroom : (l.length + new.length) * P.bytesOf e' ≤ 140737488355328 := by simpa [room] using h3
        obtain ⟨news, hsrc, hrep⟩ := hsrc hnew
        have ha : c.args = #[x, y] := by apply Array.ext'; simpa using hargs
        have htt : c.argTypes = #[t, u] := by apply Array.ext'; simpa using htypes
        -- the slot that gives up its right
        have fin : ∀ {σ1 : St}, Sim P B W0 d σ1 a w G → (∀ j, Place.tmp d j = opdPlace d x → (nthD .any σ1.tmps j).owns = false) →
            ∃ v' w' G', (execOp a.eval o).run P w = .ok (.value v') w' ∧ Sim P B W0 d (applyW σ1 (Am.put o (appRes own n e' l new))) (a.put o.dst v') w' G' ∧ Keeps B d w w' G G' := by
          intro σ1 S1 hcp
          obtain ⟨v', w', G', hr, S', K, hv'⟩ := append_sound (ty := o.type) S1 dst hs (by intro d' s o'; cases x <;> simp [opdPlace]) (by intro d' i hlt; cases x <;> simp [opdPlace]; intro; omega) hcp ht hu hz0 hby hnew hsrc hrep hroom
          refine ⟨v', w', G', ?_, S'.put o fun t' ht' => ?_, K⟩
          · rw [resolve_eq, ha, htt]
            simp [invoke, builtin, hr]
          · rw [hd] at ht'; cases ht'; exact hv'
        by_cases hxt : ∃ i, x = .tmp i
        · obtain ⟨i, rfl⟩ := hxt
          simp only [M.exec] at h
          have hcopy := hs0.copy (q := .tmp d i)
          have S1 := S.weaken (i := i) (by simpa [Act.eval] using hcopy)
          obtain ⟨v', w', G', hr, S', K⟩ := fin S1 (fun j hj => by
            simp only [opdPlace, Place.tmp.injEq, true_and] at hj
            subst hj
            simp only [nthD_setN]
            split
            · exact owns_copy _
            · rename_i hlt
              have : nthD AV.any σ.tmps j = .any := by rw [nthD_get, List.getElem?_eq_none (by simp at hlt; exact hlt)]; rfl
              rw [this]; rfl)
          exact OpDone.value h hr (by simpa [applyW, W.apply] using S') K
        · have h : k (Am.put o (appRes own n e' l new)) acc2 = some r := by
            cases x with
            | tmp i => exact absurd ⟨i, rfl⟩ hxt
            | _ => exact h
          obtain ⟨v', w', G', hr, S', K⟩ := fin S (fun j hj => by
            cases x with
            | tmp i => exact absurd ⟨i, rfl⟩ hxt
            | _ => simp [opdPlace] at hj)
          exact OpDone.value h hr S' K
      | _ => simp [M.exec] at h
    · simp [M.exec] at h
  · rename_i hh _ _; cases hh
  · rename_i hh _ _; cases hh
  · simp [M.exec] at h
end Go.Am
