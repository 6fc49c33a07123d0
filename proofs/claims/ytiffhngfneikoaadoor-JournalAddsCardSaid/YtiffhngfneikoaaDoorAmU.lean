/- The operations of the abstract machine that make or write memory. Conditions: none. -/
import Derived.Test.YtiffhngfneikoaaDoorAmT
import Derived.Laws.AppendOwn
import Derived.Lib.ConvBytes
namespace Go.Am
open Go.RowKit
variable {P : Program} {B : Nat} {W0 : Base} {d : Nat} {σ : St} {a : Act} {w : World} {G : Gh} {β : Type} {call : FuncId → List CV → Option CV}
  {acc : List Loc} {r : β} {o : Oper} {ops : List Oper}

/-- the same heap -/
theorem same_heap {w' : World} (h : w'.heap = w.heap) (q : Place) : Same q w w' G G :=
  ⟨⟨fun _ => Nat.le_refl _, fun b o _ => cell?_of_heap (by rw [h]) o, fun b e he => (elemAt_heap (w := w) (w' := w') (by rw [h])).trans he⟩, fun _ _ _ h => h, fun b hb => ⟨hb, rfl, by rw [h]⟩⟩
theorem Mem.sameHeap {mem : MemT} (M : Mem P B W0 w G mem) {w' : World} (h : w'.heap = w.heap) (hb : Below B w w') : Mem P B W0 w' G mem := by
  refine ⟨M.below.trans hb, by rw [h]; exact M.base, fun b p hp => by rw [h]; exact M.own b p hp, fun b hh => M.hw b (by rw [h] at hh; exact hh), M.blk, fun d s cs hbx => ?_, M.inj, M.glob.keep (same_heap (G := G) h .none).keep⟩
  obtain ⟨b, vs, T, fz, R⟩ := M.box d s cs hbx
  refine ⟨b, vs, T, fz, R.blk, R.lo, by rw [h]; exact R.heap, R.free, R.hw, R.own, ⟨R.rep.len, fun i hi => ?_⟩⟩
  obtain ⟨u, q1, q2, q3⟩ := R.rep.rep i hi
  exact ⟨u, q1, q2, ARep.same (same_heap h _) (same_heap h _) _ q3⟩
theorem Sim.sameHeap (S : Sim P B W0 d σ a w G) {w' : World} (h : w'.heap = w.heap) (hb : Below B w w') : Sim P B W0 d σ a w' G :=
  ⟨S.mem.sameHeap h hb, S.depth, ⟨S.fr.len, fun i => ARep.same (same_heap h _) (same_heap h _) _ (S.fr.rep i)⟩, S.cfg, S.defers⟩
theorem Keeps.sameHeap {w' : World} (h : w'.heap = w.heap) (hb : Below B w w') : Keeps B d w w' G G :=
  ⟨(same_heap (G := G) h .none).keep, fun b d' i _ hp => ⟨hp, rfl, by rw [h]⟩, fun _ _ _ _ h => h, hb, fun _ _ => rfl⟩

/-! a new block of data -/
def Gh.pub (G : Gh) (b n : Nat) (p : Option Place) : Gh :=
  { G with hw := fun k => if k = b then n else G.hw k, own := fun k => if k = b then p else G.own k }
theorem same_pub {mem : MemT} (M : Mem P B W0 w G mem) (ob : Obj) (n : Nat) (p : Option Place) (q : Place) : Same q w (w.alloc ob) G (G.pub w.heap.size n p) := by
  refine ⟨⟨fun b => ?_, fun b i hi => ?_, fun b e he => by rw [elemAt_heap (Below.heap_alloc w ob b (elemAt_lt he))]; exact he⟩, fun _ _ _ h => h, fun b hb => ?_⟩
  · show G.hw b ≤ if b = w.heap.size then n else G.hw b
    split
    · rename_i h; rw [M.hw b (by omega)]; omega
    · exact Nat.le_refl _
  · have : b < w.heap.size := Decidable.byContradiction fun h => by rw [M.hw b (by omega)] at hi; omega
    exact cell?_of_heap (Below.heap_alloc w ob b this) i
  · have hlt := (M.own b _ hb).2.1
    have hne : b ≠ w.heap.size := by omega
    exact ⟨by simp [Gh.pub, hne, hb], by simp [Gh.pub, hne], Below.heap_alloc w ob b hlt⟩
theorem Mem.pub {mem : MemT} (M : Mem P B W0 w G mem) (ob : Obj) (n : Nat) (p : Option Place) (hp : ∀ q, p = some q → q ≠ .none) : Mem P B W0 (w.alloc ob) (G.pub w.heap.size n p) mem := by
  have hsz : (w.alloc ob).heap.size = w.heap.size + 1 := by simp
  refine ⟨M.below.alloc M.base ob, by rw [hsz]; have := M.base; omega, fun b q hq => ?_, fun b hb => ?_, M.blk, fun d s cs hbx => ?_, M.inj, M.glob.keep (same_pub M ob n p .none).keep⟩
  · by_cases e : b = w.heap.size
    · subst e
      simp [Gh.pub] at hq
      exact ⟨M.base, by rw [hsz]; omega, hp q hq⟩
    · simp [Gh.pub, e] at hq
      have := M.own b q hq
      exact ⟨this.1, by rw [hsz]; omega, this.2.2⟩
  · rw [hsz] at hb
    have : b ≠ w.heap.size := by omega
    simp [Gh.pub, this, M.hw b (by omega)]
  · obtain ⟨b, vs, T, fz, R⟩ := M.box d s cs hbx
    have hlt : b < w.heap.size := (Array.getElem?_eq_some_iff.1 R.heap).1
    have hne : b ≠ w.heap.size := by omega
    refine ⟨b, vs, T, fz, R.blk, R.lo, by rw [Below.heap_alloc w ob b hlt]; exact R.heap, R.free, by simp [Gh.pub, hne, R.hw], by simp [Gh.pub, hne, R.own], ⟨R.rep.len, fun i hi => ?_⟩⟩
    obtain ⟨u, q1, q2, q3⟩ := R.rep.rep i hi
    exact ⟨u, q1, q2, ARep.same (same_pub M ob n p _) (same_pub M ob n p _) _ q3⟩
theorem Sim.pub (S : Sim P B W0 d σ a w G) (ob : Obj) (n : Nat) (p : Option Place) (hp : ∀ q, p = some q → q ≠ .none) : Sim P B W0 d σ a (w.alloc ob) (G.pub w.heap.size n p) :=
  ⟨S.mem.pub ob n p hp, S.depth, ⟨S.fr.len, fun i => ARep.same (same_pub S.mem ob n p _) (same_pub S.mem ob n p _) _ (S.fr.rep i)⟩, S.cfg, S.defers⟩
theorem Keeps.pub {mem : MemT} (M : Mem P B W0 w G mem) (ob : Obj) (n : Nat) (p : Option Place) : Keeps B d w (w.alloc ob) G (G.pub w.heap.size n p) :=
  ⟨(same_pub M ob n p .none).keep, fun b _ _ _ hb => (same_pub M ob n p _).own b hb, fun _ _ _ _ h => h, (Below.refl B w).alloc M.base ob, fun b hb => by have := M.base; simp [Gh.pub, show b ≠ w.heap.size by omega]⟩

/-! cells of a new block stand for data -/
theorem CRepC.of_cells {w : World} {h : Hw} {b : Nat} : ∀ {c : List CV} {us : List Value} {off : Nat}, (∀ i u, us[i]? = some u → w.cell? (cellA b (off + i)) = some u) → CRepV w h c us → CRepC w h b off c
  | [], us, off, _, _ => by simp [CRepC]
  | x :: c, us, off, hc, hr => by
    simp only [CRepV] at hr
    obtain ⟨v, s, rfl, h2, h3, h4⟩ := hr
    simp only [CRepC]
    refine ⟨⟨v, by simpa using hc 0 v (by simp), h2, h3⟩, CRepC.of_cells (us := s) (fun i u hi => ?_) h4⟩
    have := hc (i + 1) u (by simpa using hi)
    rw [← Nat.add_assoc, Nat.add_right_comm] at this
    exact this
theorem CRepV.append {w : World} {h : Hw} : ∀ {c e : List CV} {us vs : List Value}, CRepV w h c us → CRepV w h e vs → CRepV w h (c ++ e) (us ++ vs)
  | [], e, us, vs, h1, h2 => by simp only [CRepV] at h1; subst h1; simpa using h2
  | x :: c, e, us, vs, h1, h2 => by
    simp only [CRepV] at h1
    obtain ⟨v, s, rfl, q1, q2, q3⟩ := h1
    simp only [List.cons_append, CRepV]
    exact ⟨v, _, rfl, q1, q2, q3.append h2⟩
theorem CRepLL.of_cells {w : World} {h : Hw} {b : Nat} : ∀ {l : List (List CV)} {us : List Value} {off : Nat}, (∀ i u, us[i]? = some u → w.cell? (cellA b (off + i)) = some u) → CRepV w h l.flatten us → CRepLL w h b off l
  | [], us, off, _, _ => by simp [CRepLL]
  | c :: l, us, off, hc, hr => by
    simp only [List.flatten_cons] at hr
    have split : ∀ {c e : List CV} {us : List Value}, CRepV w h (c ++ e) us → CRepV w h c (us.take c.length) ∧ CRepV w h e (us.drop c.length) := by
      intro c
      induction c with
      | nil => intro e us h; exact ⟨by simp [CRepV], by simpa using h⟩
      | cons x c ih =>
        intro e us h
        simp only [List.cons_append, CRepV] at h
        obtain ⟨v, s, rfl, q1, q2, q3⟩ := h
        obtain ⟨r1, r2⟩ := ih q3
        refine ⟨?_, by simpa using r2⟩
        simp only [List.length_cons, List.take_succ_cons, CRepV]
        exact ⟨v, _, rfl, q1, q2, r1⟩
    obtain ⟨h1, h2⟩ := split hr
    simp only [CRepLL]
    refine ⟨CRepC.of_cells (us := us.take c.length) (fun i u hi => ?_) h1, CRepLL.of_cells (us := us.drop c.length) (fun i u hi => ?_) h2⟩
    · rw [List.getElem?_take] at hi
      split at hi
      · exact hc i u hi
      · simp at hi
    · rw [List.getElem?_drop] at hi
      rw [Nat.add_assoc]
      exact hc _ u hi

theorem cell_new (w : World) (c : Array Value) (t : TypeId) (fz : Nat × Nat) (i : Nat) : (w.alloc (.cells c t fz)).cell? (cellA w.heap.size i) = c[i]? := by
  unfold World.cell?
  simp only [heap_alloc_new]
  simp

/-! conversions -/
theorem freeze_new (w : World) (c : Array Value) (t : TypeId) (n k : Nat) (hk : k ≠ 0) : (w.alloc (.cells c t)).freeze ⟨w.heap.size, n, none⟩ k = w.alloc (.cells c t (n, n + k)) := by
  simp only [World.freeze, hk, if_false, World.alloc]
  congr 1
  apply Array.ext
  · simp
  · intro i h1 h2
    simp only [Array.getElem_modify, Array.size_modify, Array.size_push] at h1 ⊢
    by_cases e : w.heap.size = i
    · subst e
      simp
    · simp [e, Array.getElem_push, (by omega : i < w.heap.size)]

theorem bytesOf_mapM : ∀ {l : List (List CV)} {b : List UInt8}, bytesOf l = some b → l = b.map fun c => [CV.int .u8 c.toNat]
  | [], b, h => by simp [bytesOf] at h; subst h; rfl
  | c :: l, b, h => by
    simp only [bytesOf] at h
    split at h
    · rename_i n
      split at h
      · rename_i q
        cases hh : bytesOf l with
        | none => simp [hh] at h
        | some s =>
          simp [hh] at h
          subst h
          rw [bytesOf_mapM hh]
          simp only [List.map_cons, List.cons.injEq, and_true]
          have : n.toNat < 256 := by omega
          simp [Nat.mod_eq_of_lt this]
          omega
      · simp at h
    · simp at h

theorem run_bytesToString_of {P : Program} (w : World) {b off : Nat} {len cap : Nat} {s : List UInt8} (hl : len = s.length)
    (hc : ∀ i x, s[i]? = some x → w.cell? (cellA b (off + i)) = some (.int .u8 x.toNat)) :
    (Conv.bytesToString (.slice (some (cellA b off)) len cap)).run P w = .ok (.string ⟨s.toArray⟩) w := by
  have h1 := run_loadCells_list (P := P) w (cellA b off) ((s.map fun x => (x.toNat : Int)).map (Value.int .u8)) (fun j v hj => by
    simp only [List.map_map, List.getElem?_map] at hj
    cases hx : s[j]? with
    | none => simp [hx] at hj
    | some x => simp [hx] at hj; rw [add_cellA, hc j x hx, ← hj])
  rw [List.length_map, List.length_map, ← hl] at h1
  rw [run_bytesToString w _ len cap (s.map fun x => (x.toNat : Int)) (by rw [h1])]
  congr 2
  have key : ∀ (l : List UInt8) (acc : ByteArray), ((l.map fun x => (x.toNat : Int)).foldl (fun r n => r.push (UInt8.ofNat n.toNat)) acc) = ⟨(acc.data.toList ++ l).toArray⟩ := by
    intro l
    induction l with
    | nil => intro acc; simp
    | cons x l ih =>
      intro acc
      simp only [List.map_cons, List.foldl_cons]
      rw [ih]
      simp [ByteArray.push]
  rw [key]
  simp

theorem op_convert (S : Sim P B W0 d σ a w G) {s t : TypeId} {x : Operand} (ho : o.op = .convert s t x) {k : List W → List Loc → Option β}
    (h : (opM P d ops o).exec call σ acc k = some r) : OpDone P B W0 d o σ a w G k r := by
  unfold opM at h
  rw [ho] at h
  simp only [M.exec_bind'] at h
  obtain ⟨v, acc', h, hv⟩ := opd_sound S _ h
  unfold convM at h
  split at h
  · rename_i k1 k2 h1 h2
    simp only [M.exec_bind'] at h
    obtain ⟨c, h, hc⟩ := cv_sound hv h
    simp only [M.exec] at h
    obtain ⟨n, hn, h⟩ := optO_some h
    rw [asI_some hn] at hc
    simp only [CRep] at hc
    refine OpDone.pure (x := .int k2 (k2.wrap n)) S h ?_ fun t _ => by simp only [AV.copy, ARep, CRep]
    simp [execOp, ho, hc, convert, run_underlying h1, run_underlying h2, Conv.intToInt]
  · rename_i h1 h2
    simp only [M.exec_bind'] at h
    obtain ⟨c, h, hc⟩ := cv_sound hv h
    simp only [M.exec] at h
    obtain ⟨n, hn, h⟩ := optO_some h
    rw [asS_some hn] at hc
    simp only [CRep] at hc
    refine OpDone.pure (x := .string ⟨n.toArray⟩) S h ?_ fun t _ => by simp only [AV.copy, ARep, CRep]
    simp [execOp, ho, hc, convert, run_underlying h1, run_underlying h2]
  · rename_i e h1 h2
    split at h
    · rename_i h3
      simp only [M.exec_bind'] at h
      obtain ⟨c, h, hc⟩ := cv_sound hv h
      simp only [M.exec] at h
      obtain ⟨p, hp, h⟩ := optO_some h
      obtain ⟨b, hb, h⟩ := optO_some h
      rw [asL_some hp] at hc
      simp only [CRep] at hc
      have hl := bytesOf_mapM hb
      refine OpDone.pure (x := .string ⟨b.toArray⟩) S h ?_ fun t _ => by simp only [AV.copy, ARep, CRep]
      rcases hc with ⟨_, q2, q3⟩ | ⟨_, bb, off, cap, es, q2, q3, q4, q5, q6⟩
      · have : b = [] := by rw [q2] at hl; simpa using hl.symm
        subst this
        simp [execOp, ho, q3, convert, run_underlying h1, run_underlying h2, run_underlying h3, Conv.bytesToString]
        rfl
      · have e1 : ∀ i x, b[i]? = some x → w.cell? (cellA bb (off + i)) = some (.int .u8 x.toNat) := by
          intro i x hx
          have hi : p.2[i]? = some [CV.int .u8 x.toNat] := by rw [hl]; simp [hx]
          have hes : es = 1 := by rw [← q4 _ (List.mem_of_getElem? hi)]; rfl
          have := q6.get q4 hi
          rw [hes] at this
          simp only [CRepC, CRep, Nat.mul_one] at this
          obtain ⟨⟨v, r1, _, r2⟩, _⟩ := this
          rw [r1, r2]
        have hlen : p.2.length = b.length := by rw [hl]; simp
        have := run_bytesToString_of (P := P) w (cap := cap) hlen e1
        simp [execOp, ho, q2, convert, run_underlying h1, run_underlying h2, run_underlying h3, this]
    · simp [M.exec] at h
  · rename_i e h1 h2
    split at h
    · rename_i h3
      simp only [M.exec_bind'] at h
      obtain ⟨c, h, hc⟩ := cv_sound hv h
      simp only [M.exec] at h
      obtain ⟨b, hb, h⟩ := optO_some h
      obtain ⟨hle, h⟩ := chkO_some h
      rw [asS_some hb] at hc
      simp only [CRep] at hc
      have hrun := Lib.run_convert_string_bytes (P := P) w s t e ⟨b.toArray⟩ h1 h2 h3
      have hw : Lib.bytesWorld w e ⟨b.toArray⟩ = w.drew.alloc (.cells (Lib.bytesCells w e ⟨b.toArray⟩) e ((Lib.bytesCells w e ⟨b.toArray⟩).size, (Lib.bytesCells w e ⟨b.toArray⟩).size + 1)) := by
        unfold Lib.bytesWorld
        exact freeze_new w.drew _ _ _ _ (by omega)
      rw [hw] at hrun
      have hsz : (⟨b.toArray⟩ : ByteArray).size = b.length := by simp [ByteArray.size]
      rw [hsz] at hrun
      have S1 := S.sameHeap (w' := w.drew) rfl (Below.refl B w).drew
      have S2 := S1.pub (.cells (Lib.bytesCells w e ⟨b.toArray⟩) e ((Lib.bytesCells w e ⟨b.toArray⟩).size, (Lib.bytesCells w e ⟨b.toArray⟩).size + 1)) b.length none (by simp)
      have K2 := (Keeps.sameHeap (d := d) (G := G) (w := w) (w' := w.drew) rfl (Below.refl B w).drew).trans (Keeps.pub S1.mem (.cells (Lib.bytesCells w e ⟨b.toArray⟩) e ((Lib.bytesCells w e ⟨b.toArray⟩).size, (Lib.bytesCells w e ⟨b.toArray⟩).size + 1)) b.length none)
      refine OpDone.value h (x := .slice (some (cellA w.heap.size 0)) b.length (grownCap w b.length 0 e)) ?_ (S2.put o fun t' _ => ?_) K2
      · simp only [execOp, ho, hc, Sem.run_bind, hrun]
        rfl
      · simp only [AV.copy, ARep, CRep]
        refine .inr ⟨trivial, w.heap.size, 0, grownCap w b.length 0 e, 1, by simp, ?_, ?_, ?_, ?_⟩
        · simp only [List.length_map]; exact grownCap_ge w b.length 0 e
        · intro c hcm
          simp only [List.mem_map] at hcm
          obtain ⟨x, _, rfl⟩ := hcm
          rfl
        · simp [Gh.pub]
        · refine CRepLL.of_cells (us := b.map fun x => Value.int .u8 x.toNat) (fun i u hi => ?_) ?_
          · have e1 := cell_new w.drew (Lib.bytesCells w e ⟨b.toArray⟩) e ((Lib.bytesCells w e ⟨b.toArray⟩).size, (Lib.bytesCells w e ⟨b.toArray⟩).size + 1) (0 + i)
            have e2 : w.drew.heap.size = w.heap.size := rfl
            rw [e2] at e1
            rw [e1, Nat.zero_add]
            have hlt : i < b.length := by have := (List.getElem?_eq_some_iff.1 hi).1; simpa using this
            unfold Lib.bytesCells
            rw [Array.getElem?_append_left (by simpa using hlt)]
            simpa using hi
          · have : ∀ (l : List UInt8) {w' : World} {hh : Hw}, CRepV w' hh (l.map fun c => [CV.int .u8 (c.toNat : Int)]).flatten (l.map fun x => Value.int .u8 x.toNat) := by
              intro l
              induction l with
              | nil => intro w' hh; simp [CRepV]
              | cons x l ih =>
                intro w' hh
                simp only [List.map_cons, List.flatten_cons, List.cons_append, List.nil_append, CRepV]
                exact ⟨_, _, rfl, rfl, by simp only [CRep], ih⟩
            exact this b
    · simp [M.exec] at h
  · simp [M.exec] at h

/-! variables in memory -/
def Gh.put (G : Gh) (d s b : Nat) : Gh := { G with blk := fun d' s' => if d' = d ∧ s' = s then some b else G.blk d' s' }
theorem same_box {mem : MemT} (M : Mem P B W0 w G mem) (ob : Obj) {d s : Nat} (hb : box? mem d s = none) (q : Place) : Same q w (w.alloc ob) G (G.put d s w.heap.size) := by
  refine ⟨⟨fun _ => Nat.le_refl _, fun b i hi => ?_, fun b e he => by rw [elemAt_heap (Below.heap_alloc w ob b (elemAt_lt he))]; exact he⟩, fun d' s' b h => ?_, fun b h => ⟨h, rfl, Below.heap_alloc w ob b (M.own b _ h).2.1⟩⟩
  · have : b < w.heap.size := Decidable.byContradiction fun h => by rw [M.hw b (by omega)] at hi; omega
    exact cell?_of_heap (Below.heap_alloc w ob b this) i
  · have : ¬ (d' = d ∧ s' = s) := fun e => by rw [e.1, e.2, M.blk d s hb] at h; simp at h
    simp [Gh.put, this, h]
theorem Mem.newBox {mem : MemT} (M : Mem P B W0 w G mem) {d s : Nat} {cs : List AV} {us : List Value} {T : TypeId} (hb : box? mem d s = none) (hd : d < mem.length) (hs : s < (nthD [] mem d).length)
    (hc : ∀ pl, Cells P w G pl cs us) : Mem P B W0 (w.alloc (.cells us.toArray T)) (G.put d s w.heap.size) (setBox mem d s cs) := by
  have hsz : (w.alloc (.cells us.toArray T)).heap.size = w.heap.size + 1 := by simp
  have N := same_box M (.cells us.toArray T) hb
  refine ⟨M.below.alloc M.base _, by rw [hsz]; have := M.base; omega, fun b q hq => ?_, fun b hb' => M.hw b (by rw [hsz] at hb'; omega), fun d' s' h => ?_, fun d' s' c h => ?_, fun d1 s1 d2 s2 b h1 h2 => ?_, M.glob.keep (N .none).keep⟩
  · have := M.own b q hq
    exact ⟨this.1, by rw [hsz]; omega, this.2.2⟩
  · rw [box_setBox] at h
    split at h
    · simp at h
    · rename_i e
      have e' : ¬ (d' = d ∧ s' = s) := fun q => e ⟨q.1, q.2, hd, hs⟩
      simp only [Gh.put, e', if_false]
      exact M.blk d' s' h
  · rw [box_setBox] at h
    split at h
    · rename_i e
      simp only [Option.some.injEq] at h
      subst h
      obtain ⟨rfl, rfl, _, _⟩ := e
      refine ⟨w.heap.size, us.toArray, T, (0, 0), by simp [Gh.put], M.base, heap_alloc_new w _, fun i _ => by omega, M.hw _ (Nat.le_refl _), ?_, ⟨by simp [(hc fun _ => .none).len], fun i hi => ?_⟩⟩
      · cases ho : G.own w.heap.size with
        | none => exact ho
        | some q => have := (M.own _ _ ho).2.1; omega
      · obtain ⟨u, q1, q2, q3⟩ := (hc fun i => .cell d' s' i).rep i hi
        exact ⟨u, by simpa using q1, q2, ARep.same (N _) (N _) _ q3⟩
    · rename_i e
      obtain ⟨b, vs, T', fz, R⟩ := M.box d' s' c h
      have hlt : b < w.heap.size := (Array.getElem?_eq_some_iff.1 R.heap).1
      refine ⟨b, vs, T', fz, (N .none).blk d' s' b R.blk, R.lo, by rw [Below.heap_alloc w _ b hlt]; exact R.heap, R.free, R.hw, R.own, ⟨R.rep.len, fun i hi => ?_⟩⟩
      obtain ⟨u, q1, q2, q3⟩ := R.rep.rep i hi
      exact ⟨u, q1, q2, ARep.same (N _) (N _) _ q3⟩
  · -- no two variables share a block
    have old : ∀ {d' s' b'}, G.blk d' s' = some b' → b' < w.heap.size := fun h => by
      obtain ⟨_, _, _, _, _, R⟩ := M.blk_box h
      exact (Array.getElem?_eq_some_iff.1 R.heap).1
    simp only [Gh.put] at h1 h2
    split at h1 <;> split at h2
    · rename_i p q; exact ⟨p.1.trans q.1.symm, p.2.trans q.2.symm⟩
    · simp only [Option.some.injEq] at h1; have := old h2; omega
    · simp only [Option.some.injEq] at h2; have := old h1; omega
    · exact M.inj _ _ _ _ _ h1 h2
theorem Sim.newBox (S : Sim P B W0 d σ a w G) {s : Nat} {cs : List AV} {us : List Value} {T : TypeId} (hb : box? σ.mem d s = none) (hs : s < (nthD [] σ.mem d).length)
    (hc : ∀ pl, Cells P w G pl cs us) :
    Sim P B W0 d (applyW σ [.box d s cs, .tmp s (.ptr d s 0)]) (a.put (some s) (.pointer (some (cellA w.heap.size 0)))) (w.alloc (.cells us.toArray T)) (G.put d s w.heap.size) ∧
      Keeps B d w (w.alloc (.cells us.toArray T)) G (G.put d s w.heap.size) := by
  have hd : d < σ.mem.length := by rw [S.depth]; omega
  have N := same_box S.mem (.cells us.toArray T) hb
  have S1 : Sim P B W0 d { σ with mem := setBox σ.mem d s cs } a (w.alloc (.cells us.toArray T)) (G.put d s w.heap.size) :=
    ⟨S.mem.newBox hb hd hs hc, by rw [length_setBox]; exact S.depth, ⟨S.fr.len, fun i => ARep.same (N _) (N _) _ (S.fr.rep i)⟩, S.cfg, S.defers⟩
  refine ⟨S1.setTmp (by simp only [ARep]; exact ⟨w.heap.size, by simp [Gh.put], rfl⟩), (N .none).keep, fun b d' i _ h => (N _).own b h, fun d' s' b hd' hb' => ?_, (Below.refl B w).alloc S.mem.base _, fun _ _ => rfl⟩
  have : ¬ (d' = d ∧ s' = s) := by omega
  simp [Gh.put, this, hb']

theorem op_box (S : Sim P B W0 d σ a w G) {t : TypeId} {x : Operand} (ho : o.op = .box t x) {k : List W → List Loc → Option β}
    (h : (opM P d ops o).exec call σ acc k = some r) : OpDone P B W0 d o σ a w G k r := by
  unfold opM at h
  rw [ho] at h
  simp only [M.exec_bind'] at h
  obtain ⟨v, acc', h, hv⟩ := opdT_sound S _ _ h
  obtain ⟨cs, h, hl, hc, _, _⟩ := cellsM_sound hv h
  split at h
  · rename_i s hs
    simp only [M.exec] at h
    obtain ⟨hf, h⟩ := chkO_some h
    simp only [Bool.and_eq_true, Option.isNone_iff_eq_none, decide_eq_true_eq] at hf
    obtain ⟨S', K⟩ := S.newBox (T := t) hf.1 hf.2 (fun pl => hc.copy (pl' := pl))
    refine OpDone.value h (x := .pointer (some (cellA w.heap.size 0))) ?_ (by rw [hs]; exact S') K
    simp [execOp, ho, Instr.box, newVar, newRow]
  · simp [M.exec] at h

/-- a zero value's cells -/
theorem isZero_sound {c : AV} {v : Value} (h : isZero c v = true) (p : Place) : v.oneCell' = true ∧ ARep P w G p c v := by
  unfold isZero at h
  split at h
  · simp at h; subst h; simp [ARep, CRep, Value.oneCell']
  · simp at h; obtain ⟨rfl, rfl⟩ := h; simp [ARep, CRep, Value.oneCell']
  · rename_i s b
    simp at h
    obtain ⟨rfl, h⟩ := h
    refine ⟨rfl, ?_⟩
    simp [ARep, CRep, h]
    rfl
  · simp [ARep, Value.oneCell']
  · simp [ARep, CRep, Value.oneCell']
  · simp [ARep, CRep, Value.oneCell']
  · simp [ARep, CRep, Value.oneCell']
  · simp at h
theorem zerosAgree_sound : ∀ {cs : List AV} {vs : List Value}, zerosAgree cs vs = true → ∀ pl, Cells P w G pl cs vs
  | [], [], _, pl => Cells.nil
  | [], _ :: _, h, _ => by simp [zerosAgree] at h
  | _ :: _, [], h, _ => by simp [zerosAgree] at h
  | c :: cs, v :: vs, h, pl => by
    simp only [zerosAgree, Bool.and_eq_true] at h
    have h1 := isZero_sound (P := P) (w := w) (G := G) h.1 (pl 0)
    exact Cells.cons h1.1 h1.2 (zerosAgree_sound h.2 _)
theorem zeroOf_sound {t : TypeId} {cs : List AV} (h : zeroOf P t = some cs) : ∃ z, (∀ w, (zeroValue t).run P w = .ok z w) ∧ (∀ pl, Cells P w G pl cs z.cells.toList) ∧ z.cells.size = P.cellsOf t := by
  unfold zeroOf at h
  split at h
  · rename_i ds i h1 h2
    split at h
    · rename_i z hz
      split at h
      · rename_i hh
        simp only [Option.some.injEq] at h
        subst h
        simp only [Bool.and_eq_true, beq_iff_eq] at hh
        exact ⟨z, fun w => by simp [zeroValue, typeInfo, h2, hz], zerosAgree_sound hh.1, by simp [Program.cellsOf, h2, hh.2]⟩
      · simp at h
    · simp at h
  · simp at h

theorem op_alloc (S : Sim P B W0 d σ a w G) {t : TypeId} (ho : o.op = .alloc t) {k : List W → List Loc → Option β}
    (h : (opM P d ops o).exec call σ acc k = some r) : OpDone P B W0 d o σ a w G k r := by
  unfold opM at h
  rw [ho] at h
  simp only [M.exec] at h
  obtain ⟨cs, hz, h⟩ := optO_some h
  obtain ⟨z, hrun, hc, _⟩ := zeroOf_sound (w := w) (G := G) hz
  split at h
  · rename_i s hs
    simp only [M.exec] at h
    obtain ⟨hf, h⟩ := chkO_some h
    simp only [Bool.and_eq_true, Option.isNone_iff_eq_none, decide_eq_true_eq] at hf
    obtain ⟨S', K⟩ := S.newBox (T := t) hf.1 hf.2 hc
    refine OpDone.value h (x := .pointer (some (cellA w.heap.size 0))) (w' := w.alloc (.cells z.cells.toList.toArray t)) ?_ ?_ K
    · simp [execOp, ho, Instr.alloc, newVar, newRow, hrun]
    · rw [hs]
      clear h hz hrun
      cases isBld P t with
      | false => exact S'
      | true =>
        cases cs with
        | nil => exact S'
        | cons c tail =>
          cases c with
          | val x =>
            cases x with
            | nilptr =>
              have hbx : box? (setBox σ.mem d s (.val .nilptr :: tail)) d s = some (.val .nilptr :: tail) := by
                rw [box_setBox, if_pos ⟨rfl, rfl, by rw [S.depth]; omega, hf.2⟩]
              have M1 := S'.mem.weakCell (d := d) (s := s) (o := 0) (v := .bld t) hbx (fun u hu => by
                unfold nthD at hu
                simp only [ARep, CRep] at hu
                subst hu
                simp only [ARep]
                have e1 : elemAt (w.alloc (.cells z.cells.toList.toArray t)) w.heap.size = some t := by
                  unfold elemAt World.shape?
                  rw [heap_alloc_new]
                  rfl
                exact ⟨d, s, w.heap.size, rfl, by simp [Gh.put], e1, .inl trivial⟩)
              exact ⟨M1, by show (setCell (setBox σ.mem d s (.val .nilptr :: tail)) d s 0 (.bld t)).length = _; rw [length_setCell]; exact S'.depth, S'.fr, S'.cfg, S'.defers⟩
            | _ => exact S'
          | _ => exact S'
  · simp [M.exec] at h

/-! stores -/
theorem elemAt_setCell (w : World) (a : Addr) (u : Value) (b : Nat) : elemAt (w.setCell a u) b = elemAt w b := by
  unfold elemAt World.shape? World.setCell
  simp only [Array.getElem?_modify]
  by_cases e : a.block = b
  · subst e
    rw [if_pos rfl]
    cases w.heap[a.block]? with
    | none => rfl
    | some o => cases o <;> simp
  · rw [if_neg e]
theorem same_setCell {mem : MemT} (M : Mem P B W0 w G mem) {d' s b : Nat} (hb : G.blk d' s = some b) (o : Nat) (u : Value) (q : Place) : Same q w (w.setCell (cellA b o) u) G G := by
  obtain ⟨cs, vs, T, fz, hbx, R⟩ := M.blk_box hb
  refine ⟨⟨fun _ => Nat.le_refl _, fun b' i hi => ?_, fun b' e he => by rw [elemAt_setCell]; exact he⟩, fun _ _ _ h => h, fun b' h => ⟨h, rfl, ?_⟩⟩
  · have : b' ≠ b := fun e => by subst e; rw [R.hw] at hi; omega
    exact cell?_of_heap (Below.heap_setCell w _ _ b' this) i
  · have : b' ≠ b := fun e => by subst e; rw [R.own] at h; simp at h
    exact Below.heap_setCell w _ _ b' this
theorem Mem.setCell {mem : MemT} (M : Mem P B W0 w G mem) {d' s b o : Nat} {c : List AV} {v : AV} {u : Value} (hb : G.blk d' s = some b) (hc : box? mem d' s = some c) (ho : o < c.length)
    (h1 : u.oneCell' = true) (hv : ARep P w G (.cell d' s o) v u) : Mem P B W0 (w.setCell (cellA b o) u) G (setCell mem d' s o v) := by
  have N := same_setCell M hb o u
  have hsz : (w.setCell (cellA b o) u).heap.size = w.heap.size := by simp
  obtain ⟨b0, vs, T, fz, R⟩ := M.box d' s c hc
  have hbb : b0 = b := by have := R.blk.symm.trans hb; simpa using this
  subst hbb
  refine ⟨M.below.setCell R.lo u, by rw [hsz]; exact M.base, fun k q hk => by rw [hsz]; exact M.own k q hk, fun k hk => M.hw k (by rw [hsz] at hk; exact hk), fun d1 s1 h => ?_, fun d1 s1 c1 h => ?_, M.inj, M.glob.keep (N .none).keep⟩
  · rw [box_setCell hc] at h
    split at h
    · simp at h
    · exact M.blk d1 s1 h
  · rw [box_setCell hc] at h
    split at h
    · rename_i e
      obtain ⟨rfl, rfl⟩ := e
      simp only [Option.some.injEq] at h
      subst h
      have hheap : (w.setCell (cellA b0 o) u).heap[b0]? = some (.cells (vs.setIfInBounds o u) T fz) := by
        simp [World.setCell, Array.getElem?_modify, R.heap]
      refine ⟨b0, _, T, fz, R.blk, R.lo, hheap, fun i hi => R.free i (by simpa using hi), R.hw, R.own, ⟨by have := R.rep.len; simpa [length_setN] using this, fun i hi => ?_⟩⟩
      rw [length_setN] at hi
      obtain ⟨z, q1, q2, q3⟩ := R.rep.rep i hi
      by_cases e : i = o
      · subst e
        refine ⟨u, ?_, h1, ?_⟩
        · have : i < vs.size := by have := R.rep.len; simp at this; omega
          simp [this]
        · rw [nthD_setN, if_pos ⟨rfl, ho⟩]; exact ARep.same (N _) (N _) _ hv
      · refine ⟨z, ?_, q2, ?_⟩
        · simp only [Array.toList_setIfInBounds]
          rw [List.getElem?_set_ne (Ne.symm e)]; exact q1
        · rw [nthD_setN, if_neg (fun q => e q.1)]; exact ARep.same (N _) (N _) _ q3
    · rename_i e
      obtain ⟨b1, vs1, T1, fz1, R1⟩ := M.box d1 s1 c1 h
      have hne : b1 ≠ b0 := fun q => by subst q; exact e (M.inj _ _ _ _ _ R1.blk R.blk)
      refine ⟨b1, vs1, T1, fz1, R1.blk, R1.lo, by rw [Below.heap_setCell w _ _ b1 hne]; exact R1.heap, R1.free, R1.hw, R1.own, ⟨R1.rep.len, fun i hi => ?_⟩⟩
      obtain ⟨z, q1, q2, q3⟩ := R1.rep.rep i hi
      exact ⟨z, q1, q2, ARep.same (N _) (N _) _ q3⟩

theorem frozen_box {mem : MemT} (M : Mem P B W0 w G mem) {d' s b o : Nat} {c : List AV} (hb : G.blk d' s = some b) (hc : box? mem d' s = some c) (ho : o < c.length) :
    (∃ u, w.cell? (cellA b o) = some u) ∧ w.frozen? (cellA b o) = false := by
  obtain ⟨b0, vs, T, fz, R⟩ := M.box d' s c hc
  have hbb : b0 = b := by have := R.blk.symm.trans hb; simpa using this
  subst hbb
  have hlt : o < vs.size := by have := R.rep.len; simp at this; omega
  constructor
  · exact ⟨vs[o], by simp [World.cell?, R.heap, hlt]⟩
  · have := R.free o hlt
    simp only [World.frozen?, R.heap]
    simp; omega

theorem applyW_append (σ : St) : ∀ (l r : List W), applyW σ (l ++ r) = applyW (applyW σ l) r
  | [], _ => rfl
  | x :: l, r => by simp only [List.cons_append, applyW]; exact applyW_append _ l r

theorem storeCells_sound {d' s b off : Nat} (hb : G.blk d' s = some b) : ∀ {us : List Value} {cs : List AV} {i : Nat} {σ : St} {w : World} {c : List AV}, Sim P B W0 d σ a w G → box? σ.mem d' s = some c → off + i + cs.length ≤ c.length →
    Cells P w G (fun j => .cell d' s (off + i + j)) cs us →
    ∃ w', (storeCells (cellA b off) us i).run P w = .ok () w' ∧ Sim P B W0 d (applyW σ (putCells d' s (off + i) cs)) a w' G ∧ Keeps B d w w' G G
  | [], cs, i, σ, w, c, S, hc, hl, hcs => by
    have : cs = [] := List.eq_nil_of_length_eq_zero (by have := hcs.len; simpa using this.symm)
    subst this
    exact ⟨w, rfl, S, Keeps.refl _ _ _ _⟩
  | u :: us, cs, i, σ, w, c, S, hc, hl, hcs => by
    cases cs with
    | nil => have := hcs.len; simp at this
    | cons v cs =>
      obtain ⟨u', r', e, h1, h2, h3⟩ := hcs.uncons
      simp only [List.cons.injEq] at e
      obtain ⟨rfl, rfl⟩ := e
      simp only [Nat.add_zero] at h2
      have ho : off + i < c.length := by simp at hl; omega
      obtain ⟨⟨z, hz⟩, hf⟩ := frozen_box S.mem hb hc ho
      have N := same_setCell S.mem hb (off + i) u
      have M' := S.mem.setCell hb hc ho h1 h2
      have S' : Sim P B W0 d { σ with mem := Am.setCell σ.mem d' s (off + i) v } a (w.setCell (cellA b (off + i)) u) G :=
        ⟨M', by rw [length_setCell]; exact S.depth, ⟨S.fr.len, fun j => ARep.same (N _) (N _) _ (S.fr.rep j)⟩, S.cfg, S.defers⟩
      have hc' : box? (Am.setCell σ.mem d' s (off + i) v) d' s = some (setN c (off + i) v) := by rw [box_setCell hc, if_pos ⟨rfl, rfl⟩]
      have h3' : Cells P (w.setCell (cellA b (off + i)) u) G (fun j => .cell d' s (off + (i + 1) + j)) cs us := by
        refine ⟨h3.len, fun j hj => ?_⟩
        obtain ⟨y, q1, q2, q3⟩ := h3.rep j hj
        refine ⟨y, q1, q2, ARep.same (N _) (N _) _ ?_⟩
        have e : off + (i + 1) + j = off + i + (j + 1) := by omega
        rw [e]; exact q3
      obtain ⟨w', hr, S2, K2⟩ := storeCells_sound hb S' hc' (i := i + 1) (by rw [length_setN]; simp at hl ⊢; omega) h3'
      have K1 : Keeps B d w (w.setCell (cellA b (off + i)) u) G G := by
        obtain ⟨b0, vs, T, fz, R⟩ := S.mem.box d' s c hc
        have hbb : b0 = b := by have := R.blk.symm.trans hb; simpa using this
        exact ⟨(N .none).keep, fun k _ _ _ hk => (N _).own k hk, fun _ _ _ _ h => h, (Below.refl B w).setCell (by rw [← hbb]; exact R.lo) u, fun _ _ => rfl⟩
      refine ⟨w', ?_, ?_, K1.trans K2⟩
      · have hst : (store (cellA b (off + i)) u).run P w = .ok () (w.setCell (cellA b (off + i)) u) := by
          rw [run_store P w _ u .plain h1, hz]; simp [hf]
        simp only [storeCells, Sem.run_bind, add_cellA, hst, Result.andThen_ok]
        exact hr
      · simpa [putCells, applyW, W.apply, Nat.add_assoc] using S2

theorem OpDone.skip {k : List W → List Loc → Option β} {ws : List W} {rs : List Loc} {w' : World} {G' : Gh} (hk : k ws rs = some r) (hd : o.dst = none)
    (hrun : (execOp a.eval o).run P w = .ok .skip w') (S' : Sim P B W0 d (applyW σ ws) a w' G') (K : Keeps B d w w' G G') : OpDone P B W0 d o σ a w G k r :=
  ⟨ws, rs, hk, fun next Q hn => by unfold Oper.wp Oper.upon; rw [hrun]; exact hn _ _ _ (by rw [hd]; exact S') K⟩

/-- a slice with the right to grow goes from a slot into a variable -/
theorem Sim.toCell (S : Sim P B W0 d σ a w G) {t d' s off b : Nat} {v : AV} (hv : ARep P w G (.tmp d t) v (a.tmps.getD t undef)) (hb : G.blk d' s = some b) (hown : v.isOwn = true) :
    ∃ G', Sim P B W0 d { σ with tmps := setN σ.tmps t v.copy } a w G' ∧ Keeps B d w w G G' ∧ ARep P w G' (.cell d' s off) v (a.tmps.getD t undef) ∧ G'.blk d' s = some b := by
  have S1 := S.weaken (hv.copy (q := .tmp d t))
  cases v with
  | lst own n e l =>
    cases own with
    | false => simp [AV.isOwn] at hown
    | true =>
      have hcopy := hv.copy (q := .tmp d t)
      have hv0 := hv
      simp only [ARep] at hv
      rcases hv with hv | ⟨g1, b0, bo, cap, g2, g3, g4, g5, g6, g7⟩
      · exact ⟨G, S1, Keeps.refl _ _ _ _, by simp only [ARep]; exact .inl hv, hb⟩
      · rcases g7 with g7 | ⟨_, g7⟩
        · exact ⟨G, S1, Keeps.refl _ _ _ _, by simp only [ARep]; exact .inr ⟨g1, b0, bo, cap, g2, g3, g4, g5, g6, .inl g7⟩, hb⟩
        · have ho := g7.1
          have N := same_move (w := w) (q := .cell d' s off) (r := .none) ho (by simp)
          have F2 : Fr P w (G.move b0 (.cell d' s off)) d (setN σ.tmps t (AV.copy (.lst true n e l))) a.tmps := by
            refine ⟨S1.fr.len, fun j => ?_⟩
            by_cases hj : j = t
            · subst hj
              simp only [nthD_setN]
              by_cases hlt : j < σ.tmps.length
              · rw [if_pos (by simp [hlt])]
                simp only [AV.copy, ARep] at hcopy ⊢
                exact hcopy
              · rw [if_neg (by simp [hlt])]
                have hany : nthD AV.any σ.tmps j = .any := by rw [nthD_get, List.getElem?_eq_none (by omega)]; rfl
                rw [hany]; simp [ARep]
            · exact ARep.same (same_move ho (by simp [hj])) N _ (S1.fr.rep j)
          refine ⟨G.move b0 (.cell d' s off), ⟨S1.mem.move ho (by simp) (by simp), S.depth, F2, S.cfg, S.defers⟩, Keeps.move ho (fun d'' i hd e => by simp at e; omega), ?_, hb⟩
          simp only [ARep]
          refine .inr ⟨g1, b0, bo, cap, g2, g3, g4, g5, ?_, .inr ⟨trivial, ?_⟩⟩
          · exact CRepLL.keep (Keep.refl _ _) l (by rw [sum_len g4]; exact g5) g6
          · obtain ⟨q1, q2, q3, q4, cur, q5, q6⟩ := g7
            exact ⟨by simp [Gh.move], q2, q3, q4, cur, q5, q6⟩
  | _ => simp [AV.isOwn] at hown

theorem op_store (S : Sim P B W0 d σ a w G) {t : TypeId} {x y : Operand} (ho : o.op = .store t x y) {k : List W → List Loc → Option β}
    (h : (opM P d ops o).exec call σ acc k = some r) : OpDone P B W0 d o σ a w G k r := by
  unfold opM at h
  rw [ho] at h
  simp only at h
  rw [M.exec] at h
  obtain ⟨hd, h⟩ := chkO_some h
  have hd : o.dst = none := by simpa using hd
  simp only [M.exec_bind'] at h
  obtain ⟨av, acc', h, hav⟩ := opd_sound S _ h
  obtain ⟨v, acc', h, hv⟩ := opdT_sound S _ _ h
  unfold storeM at h
  simp only [M.exec] at h
  obtain ⟨hu, h⟩ := chkO_some h
  split at h
  · rename_i d' s off _ _
    simp only [ARep] at hav
    obtain ⟨b, hb, hx⟩ := hav
    rw [M.exec_bind] at h
    have hc0 := h
    obtain ⟨cs, h, hl, hc, hagg0, hagg1⟩ := cellsM_sound hv h
    rw [M.exec_bind] at h
    obtain ⟨old, acc2, h, hl2, hhas⟩ := getCells_sound h
    -- the variable's memory
    obtain ⟨c, vs0, T0, fz0, hbx, R⟩ := S.mem.blk_box hb
    have hroom : off + 0 + cs.length ≤ max c.length off := by
      cases hn : P.cellsOf t with
      | zero => rw [hl, hn]; omega
      | succ n =>
        have := (hhas n (by omega)).1
        simp only [St.has, hbx, decide_eq_true_eq] at this
        rw [hl, hn]; omega
    have run : ∀ {G1 : Gh} {σ1 : St}, Sim P B W0 d σ1 a w G1 → G1.blk d' s = some b → σ1.mem = σ.mem → Keeps B d w w G G1 → Cells P w G1 (fun j => .cell d' s (off + 0 + j)) cs (a.eval y).cells.toList →
        ∃ w', (execOp a.eval o).run P w = .ok .skip w' ∧ Sim P B W0 d (applyW σ1 (putCells d' s off cs)) a w' G1 ∧ Keeps B d w w' G G1 := by
      intro G1 σ1 S1 hb1 hm K1 hc1
      have hsz : (a.eval y).cells.size = P.cellsOf t := by have := hc1.len; simpa [hl] using this
      have hex : ∀ w', (storeCells (cellA b off) (a.eval y).cells.toList).run P w = .ok () w' → (execOp a.eval o).run P w = .ok .skip w' := by
        intro w' hr
        simp only [execOp, ho, hx, Instr.storeAt, Instr.sureAddr, storeVar, Sem.run_bind, Sem.run_pure, Result.andThen_ok, run_sizeOf_of hu, hsz]
        simp [hr]
      by_cases hz : cs = []
      · subst hz
        have hn : (a.eval y).cells.toList = [] := List.eq_nil_of_length_eq_zero (by have := hc1.len; simpa using this)
        exact ⟨w, hex w (by rw [hn]; rfl), S1, K1⟩
      · have hpos : 0 < cs.length := List.length_pos_iff.2 hz
        have hle : off + 0 + cs.length ≤ c.length := by
          rcases Nat.le_total c.length off with q | q
          · -- a cell beyond the end is not there
            have h0 : 0 < P.cellsOf t := by omega
            have := (hhas 0 h0).1
            simp only [St.has, hbx, decide_eq_true_eq] at this
            omega
          · omega
        obtain ⟨w', hr, S2, K2⟩ := storeCells_sound (off := off) (i := 0) hb1 S1 (by rw [hm]; exact hbx) hle hc1
        exact ⟨w', hex w' hr, by simpa using S2, K1.trans K2⟩
    have howns : v.owns = v.isOwn := by
      cases v with
      | bld T => exact absurd hc0 (by cases isAggT P t <;> simp [cellsM, M.exec, AV.isCell, chkO])
      | siter s pos => exact absurd hc0 (by cases isAggT P t <;> simp [cellsM, M.exec, AV.isCell, chkO])
      | lst own n e l => cases own <;> rfl
      | _ => rfl
    have plain : v.isOwn = false → Cells P w G (fun j => .cell d' s (off + 0 + j)) cs (a.eval y).cells.toList := by
      intro hno
      refine hc.weaken fun i u hi hr => ?_
      cases hA : isAggT P t with
      | true => simp only [hA, if_true] at hr; exact ARep.ofNone S.mem.noNone hr
      | false =>
        simp only [hA, Bool.false_eq_true, if_false] at hr
        have hcs := hagg0 hA
        subst hcs
        have : i = 0 := by simp at hi; omega
        subst this
        simp only [nthD] at hr ⊢
        exact ARep.place (howns.trans hno) hr
    by_cases hy : ∃ s', y = .tmp s'
    · obtain ⟨s', rfl⟩ := hy
      simp only at h
      split at h
      · rename_i hown
        simp only [M.exec] at h
        have hA : isAggT P t = false := by
          cases hA : isAggT P t with
          | false => rfl
          | true =>
            obtain ⟨us, hus⟩ := hagg1 hA
            cases v with
            | lst own n e l =>
              simp only [ARep] at hv
              rw [hus] at hv
              rcases hv with ⟨_, _, q⟩ | ⟨_, _, _, _, q, _⟩ <;> simp at q
            | _ => simp [AV.isOwn] at hown
        have hcs := hagg0 hA
        obtain ⟨G1, S1, K1, hv1, hb1⟩ := S.toCell (off := off) (by simpa [opdPlace, Act.eval] using hv) hb hown
        have h1 : (a.eval (.tmp s')).oneCell' = true := by
          subst hcs
          obtain ⟨u, q1, q2, _⟩ := hc.rep 0 (by simp)
          have hone : v.isCell = true := by cases v <;> simp [AV.isOwn, AV.isCell] at hown ⊢
          exact hv.oneCell hone
        have hc1 : Cells P w G1 (fun j => .cell d' s (off + 0 + j)) cs (a.eval (.tmp s')).cells.toList := by
          subst hcs
          rw [cells_oneCell h1]
          exact Cells.cons h1 (by simpa [Act.eval] using hv1) Cells.nil
        obtain ⟨w', hr, S2, K2⟩ := run S1 hb1 rfl K1 hc1
        exact OpDone.skip h hd hr (by simpa [applyW, W.apply] using S2) K2
      · rename_i hown
        simp only [M.exec] at h
        obtain ⟨w', hr, S2, K2⟩ := run S hb rfl (Keeps.refl _ _ _ _) (plain (by simpa using hown))
        exact OpDone.skip h hd hr S2 K2
    · have h : k (putCells d' s off cs) acc2 = some r := by
        cases y with
        | tmp t => exact absurd ⟨t, rfl⟩ hy
        | _ => exact h
      have hcc : Cells P w G (fun j => .cell d' s (off + 0 + j)) cs (a.eval y).cells.toList := by
        refine hc.weaken fun i u hi hr => ?_
        have hp : opdPlace d y = .none := by
          cases y with
          | tmp t => exact absurd ⟨t, rfl⟩ hy
          | _ => rfl
        rw [hp] at hr
        simp only [ite_self] at hr
        exact ARep.ofNone S.mem.noNone hr
      obtain ⟨w', hr, S2, K2⟩ := run S hb rfl (Keeps.refl _ _ _ _) hcc
      exact OpDone.skip h hd hr S2 K2
  · simp [M.exec] at h
end Go.Am
