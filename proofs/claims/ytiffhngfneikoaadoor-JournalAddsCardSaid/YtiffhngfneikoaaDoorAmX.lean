/- Struct values, slices made, calls. Conditions: none. -/
import Derived.Test.YtiffhngfneikoaaDoorAmV
import Derived.IntWalk
namespace Go.Am
open Go.RowKit
variable {P : Program} {B : Nat} {W0 : Base} {d : Nat} {σ : St} {a : Act} {w : World} {G : Gh} {β : Type} {call : FuncId → List CV → Option CV}
  {acc : List Loc} {r : β} {o : Oper} {ops : List Oper}

/-! parts laid over cells -/
def overV : (us : List Value) → (off : Nat) → List Value → List Value
  | us, _, [] => us
  | us, off, v :: r => overV (us.set off v) (off + 1) r
theorem length_overV : ∀ (xs us : List Value) (off : Nat), (overV us off xs).length = us.length
  | [], _, _ => rfl
  | x :: xs, us, off => by simp [overV, length_overV xs]
theorem fold_overV (off : Nat) : ∀ (xs : List Value) (k : Nat) (cells : Array Value),
    (xs.zipIdx k).foldl (fun cs (p : Value × Nat) => cs.setIfInBounds (off + p.2) p.1) cells = (overV cells.toList (off + k) xs).toArray
  | [], k, cells => by simp [overV]
  | x :: xs, k, cells => by
    simp only [List.zipIdx_cons, List.foldl_cons, overV]
    rw [fold_overV off xs (k + 1)]
    simp [Nat.add_assoc]
/-- cells, of whatever places -/
def CellsE (P : Program) (w : World) (G : Gh) (cs : List AV) (us : List Value) : Prop := ∃ pl, Cells P w G pl cs us
theorem CellsE.set {cs : List AV} {us : List Value} (h : CellsE P w G cs us) {i : Nat} {v : AV} {u : Value} {p : Place} (h1 : u.oneCell' = true) (hv : ARep P w G p v u) : CellsE P w G (setN cs i v) (us.set i u) := by
  obtain ⟨pl, h⟩ := h
  refine ⟨fun j => if j = i then p else pl j, by simp [length_setN, h.len], fun j hj => ?_⟩
  rw [length_setN] at hj
  obtain ⟨z, q1, q2, q3⟩ := h.rep j hj
  by_cases e : j = i
  · subst e
    refine ⟨u, ?_, h1, ?_⟩
    · rw [List.getElem?_set]
      simp [h.len, hj]
    · have e2 : nthD .any (setN cs j v) j = v := by rw [nthD_setN, if_pos ⟨rfl, hj⟩]
      rw [e2]; simpa using hv
  · refine ⟨z, ?_, q2, ?_⟩
    · rw [List.getElem?_set_ne (Ne.symm e)]; exact q1
    · have e2 : nthD .any (setN cs i v) j = nthD .any cs j := by rw [nthD_setN, if_neg (fun q => e q.1)]
      rw [e2]; simpa [e] using q3
theorem CellsE.over : ∀ {vs : List AV} {xs : List Value} {cs : List AV} {us : List Value} {off : Nat}, CellsE P w G cs us → CellsE P w G vs xs → CellsE P w G (overlay cs off vs) (overV us off xs)
  | [], xs, cs, us, off, h, hv => by
    obtain ⟨pl, hv⟩ := hv
    have : xs = [] := List.eq_nil_of_length_eq_zero (by have := hv.len; simpa using this)
    subst this
    simpa [overlay, overV] using h
  | v :: vs, xs, cs, us, off, h, hv => by
    obtain ⟨pl, hv⟩ := hv
    obtain ⟨u, r', rfl, h1, h2, h3⟩ := hv.uncons
    simp only [overlay, overV]
    exact (h.set h1 h2).over ⟨_, h3⟩
theorem length_overlay : ∀ (vs cs : List AV) (off : Nat), (overlay cs off vs).length = cs.length
  | [], _, _ => rfl
  | v :: vs, cs, off => by simp [overlay, length_overlay vs, length_setN]

theorem partsM_sound (S : Sim P B W0 d σ a w G) {t : TypeId} {place : Nat → Option (Nat × Nat)} (hplace : ∀ i q, partAt P t i = some q → place i = some (q.1, P.cellsOf q.2)) :
    ∀ {parts : List (Nat × Operand)} {cs : List AV} {cells : Array Value} {acc : List Loc} {f : List AV → List Loc → Option β}, CellsE P w G cs cells.toList → (partsM P t cs parts).exec call σ acc f = some r →
      ∃ cs' us' acc', f cs' acc' = some r ∧ CellsE P w G cs' us' ∧ Instr.fill place cells (parts.map fun p => (p.1, a.eval p.2)) = some us'.toArray
  | [], cs, cells, acc, f, hc, h => ⟨cs, cells.toList, acc, by simpa [partsM, M.exec] using h, hc, by simp [Instr.fill]⟩
  | (i, x) :: parts, cs, cells, acc, f, hc, h => by
    simp only [partsM, M.exec] at h
    obtain ⟨q, hq, h⟩ := optO_some h
    rw [M.exec_bind] at h
    obtain ⟨v, acc1, h, hv⟩ := opdT_sound S _ _ h
    rw [M.exec_bind] at h
    obtain ⟨vs, h, hl, hvs, _, _⟩ := cellsM_sound hv h
    simp only [M.exec] at h
    obtain ⟨hroom, h⟩ := chkO_some h
    have hroom : q.1 + P.cellsOf q.2 ≤ cs.length := by simpa using hroom
    have hclen : cells.size = cs.length := by obtain ⟨pl, hc'⟩ := hc; have := hc'.len; simpa using this
    have hvlen : (a.eval x).cells.size = P.cellsOf q.2 := by have := hvs.len; simpa [hl] using this
    have hover : CellsE P w G (overlay cs q.1 vs) (overV cells.toList q.1 (a.eval x).cells.toList) := hc.over ⟨_, hvs⟩
    have hfold := fold_overV q.1 (a.eval x).cells.toList 0 cells
    obtain ⟨cs', us', acc', h1, h2, h3⟩ := partsM_sound S hplace (cells := (overV cells.toList q.1 (a.eval x).cells.toList).toArray) (by simpa using hover) h
    refine ⟨cs', us', acc', h1, h2, ?_⟩
    simp only [List.map_cons, Instr.fill, hplace i q hq]
    rw [if_neg (by simp [hvlen]; omega)]
    rw [← h3]
    congr 1
    rw [← Array.foldl_toList, Array.toList_zipIdx]
    rw [Nat.add_zero] at hfold
    exact hfold

theorem run_mapM_places {fs : Array Field} {w : World} (h : fs.toList.all (fun f => (P.underlying f.type).isSome) = true) :
    (fs.mapM (m := Sem) fun f => do pure (f.offset, ← sizeOf f.type)).run P w = .ok (fs.map fun f => (f.offset, P.cellsOf f.type)) w := by
  have key : ∀ (l : List Field) (w : World), l.all (fun f => (P.underlying f.type).isSome) = true → (l.mapM (m := Sem) fun f => do pure (f.offset, ← sizeOf f.type)).run P w = .ok (l.map fun f => (f.offset, P.cellsOf f.type)) w := by
    intro l
    induction l with
    | nil => intro w _; simp
    | cons f l ih =>
      intro w hl
      simp only [List.all_cons, Bool.and_eq_true] at hl
      simp only [List.mapM_cons, Sem.run_bind, run_sizeOf_of hl.1, Sem.run_pure, Result.andThen_ok, ih w hl.2, List.map_cons]
  have h2 := key fs.toList w h
  rw [← Array.toList_mapM] at h2
  simp only [Sem.run_map] at h2
  generalize (fs.mapM (m := Sem) fun f => do pure (f.offset, ← sizeOf f.type)).run P w = R at h2 ⊢
  cases R with
  | ok x w' =>
    simp only [Result.andThen_ok, Result.ok.injEq] at h2
    obtain ⟨h3, rfl⟩ := h2
    congr 1
    apply Array.ext'
    simpa using h3
  | halt x w' => simp [Result.andThen] at h2

theorem op_build (S : Sim P B W0 d σ a w G) {t : TypeId} {parts : Array (Nat × Operand)} (ho : o.op = .build t parts) {k : List W → List Loc → Option β}
    (h : (opM P d ops o).exec call σ acc k = some r) : OpDone P B W0 d o σ a w G k r := by
  unfold opM at h
  rw [ho] at h
  simp only [M.exec] at h
  obtain ⟨hk, h⟩ := chkO_some h
  obtain ⟨z, hz, h⟩ := optO_some h
  rw [M.exec_bind] at h
  obtain ⟨zv, hzr, hzc, _⟩ := zeroOf_sound (w := w) (G := G) hz
  unfold partsKnown at hk
  split at hk
  · rename_i fs ht
    obtain ⟨cs', us', acc', h, hc, hfill⟩ := partsM_sound S (place := fun i => (fs.map fun f => (f.offset, P.cellsOf f.type))[i]?) (fun i q hq => by
      simp only [partAt, ht, Option.map_eq_some_iff] at hq
      obtain ⟨fd, hfd, rfl⟩ := hq
      simp [hfd]) ⟨fun _ => .none, hzc _⟩ h
    simp only [M.exec] at h
    obtain ⟨pl, hc⟩ := hc
    refine OpDone.pure (x := .agg us'.toArray) S h ?_ fun t' _ => mkAgg_sound hc _
    have hm := run_mapM_places (P := P) (w := w) hk
    have e1 : (parts.map fun p => (p.1, a.eval p.2)).toList = parts.toList.map fun p => (p.1, a.eval p.2) := by simp
    simp only [execOp, ho, Instr.build, Sem.run_bind, hzr, Result.andThen_ok, run_underlying ht, hm, e1, hfill]
    simp
  · rename_i n e ht
    obtain ⟨cs', us', acc', h, hc, hfill⟩ := partsM_sound S (place := fun i => some (i * P.cellsOf e, P.cellsOf e)) (fun i q hq => by
      simp only [partAt, ht, Option.some.injEq] at hq
      subst hq; rfl) ⟨fun _ => .none, hzc _⟩ h
    simp only [M.exec] at h
    obtain ⟨pl, hc⟩ := hc
    refine OpDone.pure (x := .agg us'.toArray) S h ?_ fun t' _ => mkAgg_sound hc _
    have e1 : (parts.map fun p => (p.1, a.eval p.2)).toList = parts.toList.map fun p => (p.1, a.eval p.2) := by simp
    simp only [execOp, ho, Instr.build, Sem.run_bind, hzr, Result.andThen_ok, run_underlying ht, run_sizeOf_of hk, e1, hfill]
    simp
  · simp at hk

/-! calls -/
/-- a slice with no room behind it -/
def Tight (P : Program) (w : World) (h : Hw) (e : TypeId) (r : CV) (v : Value) : Prop :=
  ∃ n l, r = .list n l ∧ ARep P w { blk := fun _ _ => none, hw := h, own := fun _ => none } .none (.lst false n e l) v
theorem Tight.rep {h : Hw} {e : TypeId} {r : CV} {v : Value} (T : Tight P w h e r v) {G : Gh} (hG : G.hw = h) (p : Place) : ∃ n l, r = .list n l ∧ ARep P w G p (.lst false n e l) v := by
  obtain ⟨n, l, rfl, hr⟩ := T
  subst hG
  refine ⟨n, l, rfl, ?_⟩
  simp only [ARep] at hr ⊢
  rcases hr with hr | ⟨h1, b, off, cap, h2, h3, h4, h5, h6, h7⟩
  · exact .inl hr
  · refine .inr ⟨h1, b, off, cap, h2, h3, h4, h5, h6, ?_⟩
    rcases h7 with h7 | ⟨h7, _⟩
    · exact .inl h7
    · cases h7
structure CallOK (P : Program) (B : Nat) (W0 : Base) (call : FuncId → List CV → Option CV) : Prop where
  enter : ∀ {f args r}, call f args = some r → ∀ vs w, (callFunc f vs).run P w = .ok (.enter f vs) w
  calls : ∀ {f args r}, call f args = some r → ∀ (w : World) (h : Hw) (vs : List Value), Below B W0.W w → GlobOK W0.K.gl w h → B ≤ w.heap.size → (∀ b, w.heap.size ≤ b → h b = 0) → CRepT w h args vs →
    Calls P f vs.toArray w fun e w' => ∃ v h', e = .returned v ∧ Below w.heap.size w w' ∧ (∀ b, b < w.heap.size → h' b = h b) ∧ (∀ b, w'.heap.size ≤ b → h' b = 0) ∧ CRep w' h' r v ∧ ∀ e, tightF P f = some e → Tight P w' h' e r v

theorem cvs_sound : ∀ {vs : List AV} {xs : List Value} {acc : List Loc} {f : List CV → List Loc → Option β}, vs.length = xs.length → (∀ i, i < vs.length → ∃ p, ARep P w G p (nthD .any vs i) (xs.getD i undef)) →
    (AV.cvs vs).exec call σ acc f = some r → ∃ cs, f cs acc = some r ∧ CRepT w G.hw cs xs
  | [], xs, acc, f, hl, _, h => by
    have : xs = [] := List.eq_nil_of_length_eq_zero (by simpa using hl.symm)
    subst this
    exact ⟨[], by simpa [AV.cvs, M.exec] using h, by simp [CRepT]⟩
  | v :: vs, xs, acc, f, hl, hr, h => by
    cases xs with
    | nil => simp at hl
    | cons x xs =>
      simp only [AV.cvs] at h
      rw [M.exec_bind'] at h
      obtain ⟨p, hp⟩ := hr 0 (by simp)
      simp only [nthD] at hp
      obtain ⟨c, h, hc⟩ := cv_sound (x := x) (by simpa using hp) h
      rw [M.exec_bind'] at h
      obtain ⟨cs, h, hcs⟩ := cvs_sound (f := fun cs acc' => f (c :: cs) acc') (by simpa using hl) (fun i hi => by
        obtain ⟨p, hp⟩ := hr (i + 1) (by simpa using hi)
        exact ⟨p, by simpa [nthD] using hp⟩) h
      exact ⟨_, h, by simp only [CRepT]; exact ⟨_, _, rfl, hc, hcs⟩⟩

/-- the world behind a call of a function that is handed data alone -/
theorem Sim.called (S : Sim P B W0 d σ a w G) {w' : World} {h' : Hw} (hb : Below w.heap.size w w') (h1 : ∀ b, b < w.heap.size → h' b = G.hw b) (h2 : ∀ b, w'.heap.size ≤ b → h' b = 0) :
    Sim P B W0 d σ a w' { G with hw := h' } ∧ Keeps B d w w' G { G with hw := h' } := by
  have N : ∀ q, Same q w w' G { G with hw := h' } := fun q => by
    refine ⟨⟨fun b => ?_, fun b i hi => ?_, fun b e he => by rw [elemAt_heap (hb.block b (elemAt_lt he))]; exact he⟩, fun _ _ _ h => h, fun b hq => ?_⟩
    · by_cases hlt : b < w.heap.size
      · exact Nat.le_of_eq (h1 b hlt).symm
      · rw [S.mem.hw b (by omega)]; omega
    · have hlt : b < w.heap.size := Decidable.byContradiction fun hn => by rw [S.mem.hw b (by omega)] at hi; omega
      exact cell?_of_heap (hb.block b hlt) i
    · have hlt := (S.mem.own b _ hq).2.1
      exact ⟨hq, h1 b hlt, hb.block b hlt⟩
  have hbB : Below B w w' := hb.mono S.mem.base
  refine ⟨⟨⟨S.mem.below.trans hbB, Nat.le_trans S.mem.base hb.size, fun b p hp => ?_, h2, S.mem.blk, fun d' s cs hbx => ?_, S.mem.inj, S.mem.glob.keep (N .none).keep⟩, S.depth, ⟨S.fr.len, fun i => ARep.same (N _) (N _) _ (S.fr.rep i)⟩, S.cfg, S.defers⟩,
    (N .none).keep, fun b _ _ _ hp => (N _).own b hp, fun _ _ _ _ h => h, hbB, fun b hb => h1 b (Nat.lt_of_lt_of_le hb S.mem.base)⟩
  · have := S.mem.own b p hp
    exact ⟨this.1, Nat.lt_of_lt_of_le this.2.1 hb.size, this.2.2⟩
  · obtain ⟨b, vs, T, fz, R⟩ := S.mem.box d' s cs hbx
    have hlt : b < w.heap.size := (Array.getElem?_eq_some_iff.1 R.heap).1
    refine ⟨b, vs, T, fz, R.blk, R.lo, by rw [hb.block b hlt]; exact R.heap, R.free, (h1 b hlt).trans R.hw, R.own, ⟨R.rep.len, fun i hi => ?_⟩⟩
    obtain ⟨u, q1, q2, q3⟩ := R.rep.rep i hi
    exact ⟨u, q1, q2, ARep.same (N _) (N _) _ q3⟩

theorem op_call (CO : CallOK P B W0 call) (S : Sim P B W0 d σ a w G) {c : Call} {fo : Operand} (ho : o.op = .call c) (hb : c.callee = .value fo) {k : List W → List Loc → Option β}
    (h : (opM P d ops o).exec call σ acc k = some r) : OpDone P B W0 d o σ a w G k r := by
  unfold opM at h
  rw [ho] at h
  simp only [hb] at h
  rw [M.exec_bind'] at h
  obtain ⟨fv, acc1, h, hf⟩ := opd_sound S _ h
  rw [M.exec_bind'] at h
  obtain ⟨vs, acc2, h, hl, hr⟩ := opds_sound S h
  rw [M.exec_bind'] at h
  obtain ⟨cs, h, hcs⟩ := cvs_sound (P := P) (w := w) (G := G) (xs := c.args.toList.map a.eval) (by simp [hl]) (fun i hi => by
    obtain ⟨x, hx⟩ : ∃ x, c.args.toList[i]? = some x := ⟨_, List.getElem?_eq_getElem (by rw [← hl]; exact hi)⟩
    refine ⟨opdPlace d x, ?_⟩
    have := hr i x hx
    simpa [hx] using this) h
  cases fv with
  | val v =>
    simp only [M.exec] at h
    obtain ⟨f, hff, h⟩ := optO_some h
    obtain ⟨rv, hcall, h⟩ := optO_some h
    simp only [ARep] at hf
    rw [asF_some hff] at hf
    simp only [CRep] at hf
    obtain ⟨v1, hv1, h⟩ : ∃ v1, (match tightF P f with | none => v1 = .val rv | some e => ∃ n l, rv = .list n l ∧ v1 = .lst false n e l) ∧ k (put o v1) acc2 = some r := by
      unfold giveM at h
      cases ht : tightF P f with
      | none => rw [ht] at h; exact ⟨_, rfl, h⟩
      | some e =>
        rw [ht] at h
        simp only [M.exec] at h
        obtain ⟨q, hq, h⟩ := optO_some h
        cases rv with
        | list n l => simp only [CV.asL, Option.some.injEq] at hq; subst hq; exact ⟨_, ⟨n, l, rfl, rfl⟩, h⟩
        | _ => simp [CV.asL] at hq
    refine ⟨_, _, h, fun next Q hn => ?_⟩
    have hrun : (execOp a.eval o).run P w = .ok (.enter f (c.args.map a.eval)) w := by
      simp only [execOp, ho, resolve, hb, hf, Deferred.ofValue]
      simp [invoke, CO.enter hcall]
    unfold Oper.wp Oper.upon
    rw [hrun]
    have := CO.calls hcall w G.hw (c.args.toList.map a.eval) S.mem.below S.mem.glob S.mem.base S.mem.hw hcs
    rw [show (c.args.toList.map a.eval).toArray = c.args.map a.eval from by apply Array.ext'; simp] at this
    refine this.mono fun e w' he => ?_
    obtain ⟨v', h', rfl, hbel, h1, h2, hrep, htight⟩ := he
    obtain ⟨S', K⟩ := S.called hbel h1 h2
    refine hn _ _ _ (S'.put o fun t _ => ?_) K
    cases ht : tightF P f with
    | none => rw [ht] at hv1; subst hv1; simpa only [ARep] using hrep
    | some e =>
      rw [ht] at hv1
      obtain ⟨n, l, rfl, rfl⟩ := hv1
      obtain ⟨n', l', hq, hr⟩ := (htight e ht).rep (G := { G with hw := h' }) rfl (.tmp d t)
      cases hq
      exact hr
  | _ => simp [M.exec] at h

/-! slices made -/
theorem range_zero (z : Array Value) (_hz : 0 < z.size) : ∀ n : Nat, ((Array.range (n * z.size)).map (fun i => z[i % z.size]!)).toList = (List.replicate n z.toList).flatten := by
  intro n
  simp only [Array.toList_map, Array.toList_range]
  induction n with
  | zero => simp
  | succ n ih =>
    rw [Nat.add_mul, Nat.one_mul, List.range_add, List.map_append, ih, List.replicate_succ', List.flatten_append]
    congr 1
    simp only [List.map_map, List.flatten_cons, List.flatten_nil, List.append_nil]
    apply List.ext_getElem
    · simp
    · intro i h1 h2
      simp at h1
      have e : (n * z.size + i) % z.size = i := by rw [Nat.mul_add_mod_self_right]; exact Nat.mod_eq_of_lt h1
      simp [e, h1]

theorem CRepV.replicate {w : World} {h : Hw} {c : List CV} {us : List Value} (hc : CRepV w h c us) : ∀ n : Nat, CRepV w h (List.replicate n c).flatten (List.replicate n us).flatten
  | 0 => by simp [CRepV]
  | n + 1 => by simp only [List.replicate_succ, List.flatten_cons]; exact hc.append (hc.replicate n)

/-- one element is given its value -/
theorem CRepV.setElem {w : World} {h : Hw} {es : Nat} {c : List CV} {xs : List Value} (hc : CRepV w h c xs) (hcl : c.length = es) : ∀ {l : List (List CV)} {us : List Value} {i : Nat}, (∀ c ∈ l, c.length = es) → i < l.length → CRepV w h l.flatten us →
    CRepV w h (setN l i c).flatten (overV us (i * es) xs)
  | [], us, i, _, hi, _ => by simp at hi
  | y :: l, us, i, hl, hi, hr => by
    have split : ∀ {c e : List CV} {us : List Value}, CRepV w h (c ++ e) us → ∃ u1 u2, us = u1 ++ u2 ∧ u1.length = c.length ∧ CRepV w h c u1 ∧ CRepV w h e u2 := by
      intro c
      induction c with
      | nil => intro e us h; exact ⟨[], us, rfl, rfl, by simp [CRepV], by simpa using h⟩
      | cons x c ih =>
        intro e us h
        simp only [List.cons_append, CRepV] at h
        obtain ⟨v, s, rfl, q1, q2, q3⟩ := h
        obtain ⟨u1, u2, rfl, r0, r1, r2⟩ := ih q3
        refine ⟨v :: u1, u2, rfl, by simp [r0], ?_, r2⟩
        simp only [CRepV]
        exact ⟨v, _, rfl, q1, q2, r1⟩
    simp only [List.flatten_cons] at hr
    obtain ⟨u1, u2, rfl, hu, hr1, hr2⟩ := split hr
    have hyl := hl y (by simp)
    have over_app : ∀ (xs u1 u2 : List Value) (k : Nat), k + xs.length ≤ u1.length → overV (u1 ++ u2) k xs = overV u1 k xs ++ u2 := by
      intro xs
      induction xs with
      | nil => intro u1 u2 k _; rfl
      | cons x xs ih =>
        intro u1 u2 k hk
        simp only [List.length_cons] at hk
        simp only [overV]
        rw [List.set_append_left _ _ (by omega)]
        exact ih _ _ _ (by simp; omega)
    have over_skip : ∀ (xs u1 u2 : List Value) (k : Nat), overV (u1 ++ u2) (u1.length + k) xs = u1 ++ overV u2 k xs := by
      intro xs
      induction xs with
      | nil => intro u1 u2 k; rfl
      | cons x xs ih =>
        intro u1 u2 k
        simp only [overV]
        rw [List.set_append_right _ _ (by omega), Nat.add_sub_cancel_left, Nat.add_assoc]
        exact ih _ _ _
    have over_all : ∀ (xs us pre : List Value), xs.length = us.length → overV (pre ++ us) pre.length xs = pre ++ xs := by
      intro xs
      induction xs with
      | nil => intro us pre h; have : us = [] := List.eq_nil_of_length_eq_zero (by simpa using h.symm); subst this; simp [overV]
      | cons x xs ih =>
        intro us pre h
        cases us with
        | nil => simp at h
        | cons u us =>
          simp only [overV]
          rw [List.set_append_right _ _ (Nat.le_refl _)]
          simp only [Nat.sub_self, List.set_cons_zero]
          have := ih us (pre ++ [x]) (by simpa using h)
          simpa using this
    have hxl := hc.length
    cases i with
    | zero =>
      simp only [setN, List.flatten_cons, Nat.zero_mul]
      rw [over_app _ _ _ _ (by rw [hu, hyl, hxl, hcl]; omega)]
      have e := over_all xs u1 [] (by rw [hxl, hcl, hu, hyl])
      simp only [List.nil_append, List.length_nil] at e
      rw [e]
      exact hc.append hr2
    | succ i =>
      simp only [setN, List.flatten_cons]
      have e : (i + 1) * es = u1.length + i * es := by rw [hu, hyl, Nat.add_mul, Nat.one_mul, Nat.add_comm]
      rw [e, over_skip]
      exact hr1.append (CRepV.setElem hc hcl (fun c hc => hl c (by simp [hc])) (by simpa using hi) hr2)

theorem elemsM_sound (S : Sim P B W0 d σ a w G) {e : TypeId} : ∀ {parts : List (Nat × Operand)} {l : List (List CV)} {cells : Array Value} {acc : List Loc} {f : List (List CV) → List Loc → Option β},
    (∀ c ∈ l, c.length = P.cellsOf e) → CRepV w G.hw l.flatten cells.toList → (elemsM P e l parts).exec call σ acc f = some r →
      ∃ l' us' acc', f l' acc' = some r ∧ l'.length = l.length ∧ (∀ c ∈ l', c.length = P.cellsOf e) ∧ CRepV w G.hw l'.flatten us' ∧
        Instr.fill (fun i => some (i * P.cellsOf e, P.cellsOf e)) cells (parts.map fun p => (p.1, a.eval p.2)) = some us'.toArray
  | [], l, cells, acc, f, hl, hc, h => ⟨l, cells.toList, acc, by simpa [elemsM, M.exec] using h, rfl, hl, hc, by simp [Instr.fill]⟩
  | (i, x) :: parts, l, cells, acc, f, hl, hc, h => by
    simp only [elemsM] at h
    rw [M.exec_bind] at h
    obtain ⟨v, acc1, h, hv⟩ := opd_sound S _ h
    rw [M.exec_bind] at h
    unfold elemCV at h
    rw [M.exec_bind] at h
    obtain ⟨vs, h, hvl, hvs, _, _⟩ := cellsM_sound hv h
    simp only [M.exec] at h
    obtain ⟨c, hcv, h⟩ := optO_some h
    obtain ⟨hi, h⟩ := chkO_some h
    have hi : i < l.length := by simpa using hi
    obtain ⟨hcr, _, hcl⟩ := allCV_sound hvs hcv
    have hcl : c.length = P.cellsOf e := by rw [hcl, hvl]
    have hset := CRepV.setElem hcr hcl hl hi hc
    have hlen : ∀ {l : List (List CV)} {us : List Value}, (∀ c ∈ l, c.length = P.cellsOf e) → CRepV w G.hw l.flatten us → us.length = l.length * P.cellsOf e := by
      intro l us hl hr
      rw [hr.length, List.length_flatten]
      exact sum_len hl
    have hcz : cells.size = l.length * P.cellsOf e := by have := hlen hl hc; simpa using this
    have hvz : (a.eval x).cells.size = P.cellsOf e := by have := hvs.len; simpa [hvl] using this
    have hl' : ∀ y ∈ setN l i c, y.length = P.cellsOf e := by
      intro y hy
      obtain ⟨j, hj⟩ := List.mem_iff_getElem?.1 hy
      have hjl : j < (setN l i c).length := (List.getElem?_eq_some_iff.1 hj).1
      have e1 : nthD [] (setN l i c) j = y := by rw [nthD_get, hj]; rfl
      rw [nthD_setN] at e1
      split at e1
      · rw [← e1]; exact hcl
      · rw [length_setN] at hjl
        rw [nthD_get, List.getElem?_eq_getElem hjl] at e1
        simp only [Option.getD_some] at e1
        rw [← e1]; exact hl _ (List.getElem_mem hjl)
    obtain ⟨l2, us', acc', h1, h2, h3, h4, h5⟩ := elemsM_sound S (cells := (overV cells.toList (i * P.cellsOf e) (a.eval x).cells.toList).toArray) hl' (by simpa using hset) h
    refine ⟨l2, us', acc', h1, by rw [h2, length_setN], h3, h4, ?_⟩
    have hle : i * P.cellsOf e + P.cellsOf e ≤ l.length * P.cellsOf e := by
      have : (i + 1) * P.cellsOf e ≤ l.length * P.cellsOf e := Nat.mul_le_mul_right _ hi
      rw [Nat.add_mul, Nat.one_mul] at this
      exact this
    simp only [List.map_cons, Instr.fill]
    rw [if_neg (by simp [hvz]; omega)]
    rw [← h5]
    congr 1
    have hfold := fold_overV (i * P.cellsOf e) (a.eval x).cells.toList 0 cells
    rw [← Array.foldl_toList, Array.toList_zipIdx]
    rw [Nat.add_zero] at hfold
    exact hfold

theorem op_buildSlice (S : Sim P B W0 d σ a w G) {t : TypeId} {len : Nat} {parts : Array (Nat × Operand)} (ho : o.op = .buildSlice t len parts) {k : List W → List Loc → Option β}
    (h : (opM P d ops o).exec call σ acc k = some r) : OpDone P B W0 d o σ a w G k r := by
  unfold opM at h
  rw [ho] at h
  simp only at h
  split at h
  · rename_i e ht
    simp only [M.exec] at h
    obtain ⟨h1, h⟩ := chkO_some h
    obtain ⟨hpos, h⟩ := chkO_some h
    obtain ⟨z, hz, h⟩ := optO_some h
    rw [M.exec_bind] at h
    have hpos : P.cellsOf e ≠ 0 := by simpa using hpos
    have h1 : len * P.cellsOf e ≤ 1024 := by simpa using h1
    simp only [Option.bind_eq_some_iff] at hz
    obtain ⟨zc, hz0, hzcv⟩ := hz
    obtain ⟨zv, hzr, hzc, hzs⟩ := zeroOf_sound (w := w) (G := G) hz0
    obtain ⟨hzrep, _, hzl⟩ := allCV_sound (hzc fun _ => .none) hzcv
    have hzlen : z.length = P.cellsOf e := by rw [← hzrep.length]; simpa using hzs
    have hpz : 0 < zv.cells.size := by rw [hzs]; omega
    have hinit : CRepV w G.hw (List.replicate len z).flatten ((Array.range (len * zv.cells.size)).map (fun i => zv.cells[i % zv.cells.size]!)).toList := by
      rw [range_zero zv.cells hpz]; exact hzrep.replicate len
    obtain ⟨l', us', acc', h, hl, hlen, hrep, hfill⟩ := elemsM_sound S (cells := (Array.range (len * zv.cells.size)).map (fun i => zv.cells[i % zv.cells.size]!)) (l := List.replicate len z) (fun c hc => by rw [List.eq_of_mem_replicate hc, hzlen]) hinit h
    simp only [M.exec] at h
    simp only [List.length_replicate] at hl
    rw [hzs] at hfill
    have S2 := S.pub (.cells us'.toArray e) (len * P.cellsOf e) (o.dst.map (.tmp d)) (by simp)
    have K2 := Keeps.pub (d := d) S.mem (.cells us'.toArray e) (len * P.cellsOf e) (o.dst.map (.tmp d))
    refine OpDone.value h (x := .slice (some (cellA w.heap.size 0)) len len) ?_ (S2.put o fun t' ht' => ?_) K2
    · have e1 : (parts.map fun p => (p.1, a.eval p.2)).toList = parts.toList.map fun p => (p.1, a.eval p.2) := by simp
      have h2 : ¬ (len * P.cellsOf e > 2 ^ 24) := by have : (2:Nat) ^ 24 = 16777216 := by decide
                                                     omega
      by_cases hz : len * P.cellsOf e = 0
      · rw [hz] at hfill
        simp only [execOp, ho, Instr.buildSlice, Sem.run_bind, run_underlying ht, Result.andThen_ok, run_sizeOf' hpos, hz, if_true, Sem.run_pure, e1]
        have e3 : ∀ f : Nat → Value, (Array.range 0).map f = (#[] : Array Value) := by simp
        have e0 : ¬ (0 : Nat) > 2 ^ 24 := by decide
        rw [e3] at hfill
        simp only [e0, if_false, Sem.run_bind, Sem.run_pure, Result.andThen_ok, e3, hfill]
        simp [newRow]
      · simp only [execOp, ho, Instr.buildSlice, Sem.run_bind, run_underlying ht, Result.andThen_ok, run_sizeOf' hpos, h2, if_false, hz, Sem.run_pure, hzr, e1, hzs, hfill]
        simp [newRow]
    · simp only [ARep]
      refine .inr ⟨trivial, w.heap.size, 0, len, by rw [hl], by rw [hl]; exact Nat.le_refl _, hlen, by rw [hl]; simp [Gh.pub], ?_, .inr ⟨trivial, ?_⟩⟩
      · refine CRepLL.of_cells (us := us') (fun i u hi => ?_) (CRepV.keep K2.keep _ hrep)
        have e1 := cell_new w us'.toArray e (0, 0) (0 + i)
        rw [e1, Nat.zero_add]
        simpa using hi
      · have hul : us'.length = len * P.cellsOf e := by rw [← CRepV.length hrep |>.symm, List.length_flatten, sum_len hlen, hl]
        have hm : len ≤ len * P.cellsOf e := Nat.le_mul_of_pos_right _ (by omega)
        exact ⟨by simp [Gh.pub, ht'], rfl, by rw [hl]; simp [Gh.pub], by unfold maxLen; omega, us'.toArray, heap_alloc_new w _, by simpa using hul⟩
  · simp [M.exec] at h

theorem op_makeSlice (S : Sim P B W0 d σ a w G) {t : TypeId} {x y : Operand} (ho : o.op = .makeSlice t x y) {k : List W → List Loc → Option β}
    (h : (opM P d ops o).exec call σ acc k = some r) : OpDone P B W0 d o σ a w G k r := by
  unfold opM at h
  rw [ho] at h
  simp only [M.exec_bind'] at h
  obtain ⟨v, acc', h, hv⟩ := opd_sound S _ h
  obtain ⟨u, acc', h, hu⟩ := opd_sound S _ h
  obtain ⟨cv, h, hc⟩ := cv_sound hv h
  obtain ⟨cu, h, hcu⟩ := cv_sound hu h
  split at h
  · rename_i e ht
    simp only [M.exec] at h
    obtain ⟨l, hl, h⟩ := optO_some h
    obtain ⟨c, hcc, h⟩ := optO_some h
    obtain ⟨hb, h⟩ := chkO_some h
    obtain ⟨hpos, h⟩ := chkO_some h
    obtain ⟨z, hz, hk⟩ := optO_some h
    rw [asI_some hl] at hc
    rw [asI_some hcc] at hcu
    simp only [CRep] at hc hcu
    have hpos : P.cellsOf e ≠ 0 := by simpa using hpos
    simp only [Bool.and_eq_true, decide_eq_true_eq] at hb
    obtain ⟨⟨⟨hl0, hlc⟩, hbytes⟩, hcm⟩ := hb
    simp only [Option.bind_eq_some_iff] at hz
    obtain ⟨zc, hz0, hzcv⟩ := hz
    obtain ⟨zv, hzr, hzc, hzs⟩ := zeroOf_sound (w := w) (G := G) hz0
    obtain ⟨hzrep, _, hzl⟩ := allCV_sound (hzc fun _ => .none) hzcv
    have hzlen : z.length = P.cellsOf e := by rw [← hzrep.length]; simpa using hzs
    have hpz : 0 < zv.cells.size := by rw [hzs]; omega
    obtain ⟨i, hi, hisz, hiby⟩ : ∃ i, P.info? e = some i ∧ i.size = P.cellsOf e ∧ i.bytes = P.bytesOf e := by
      unfold Program.cellsOf Program.bytesOf at *
      cases hh : P.info? e with
      | none => simp [hh] at hpos
      | some i => exact ⟨i, rfl, by simp, by simp⟩
    obtain ⟨ln, rfl⟩ := Int.eq_ofNat_of_zero_le hl0
    obtain ⟨cn, rfl⟩ := Int.eq_ofNat_of_zero_le (Int.le_trans hl0 hlc)
    rw [Int.toNat_natCast] at hk
    have w1 : IntKind.i64.wrap (ln : Int) = ln := IntWalk.i64_in _ (by omega)
    have w2 : IntKind.i64.wrap (cn : Int) = cn := IntWalk.i64_in _ (by omega)
    generalize hcells : (Array.range (cn * zv.cells.size)).map (fun i => zv.cells[i % zv.cells.size]!) = cells
    have hcl : cells.toList = (List.replicate cn zv.cells.toList).flatten := by rw [← hcells]; exact range_zero zv.cells hpz cn
    have S2 := S.pub (.cells cells e) (ln * P.cellsOf e) (o.dst.map (.tmp d)) (by simp)
    have K2 := Keeps.pub (d := d) S.mem (.cells cells e) (ln * P.cellsOf e) (o.dst.map (.tmp d))
    refine OpDone.value hk (x := .slice (some (cellA w.heap.size 0)) ln cn) ?_ (S2.put o fun t' ht' => ?_) K2
    · have e1 : ¬ ((cn : Int) < 0) := by omega
      have hb2 : (i.bytes : Int) * cn ≤ 140737488355328 := by rw [hiby, Int.mul_comm]; exact hbytes
      have e2 : ¬ ((i.bytes : Int) * cn > 2 ^ 48) := by have : (2:Int) ^ 48 = 281474976710656 := by decide
                                                        omega
      have e3 : ¬ ((ln : Int) < 0) := by omega
      have e4 : ¬ ((ln : Int) > cn) := by omega
      simp only [execOp, ho, hc, hcu, Instr.makeSlice, Sem.run_bind, run_underlying ht, Result.andThen_ok, asInt, asIntOf, Sem.run_pure, typeInfo, run_program, hi, w1, w2]
      simp only [e1, e2, e3, e4, decide_false, Bool.or_self, Bool.false_eq_true, if_false, Sem.run_bind, Result.andThen_ok, run_askRoom, Int.toNat_natCast, run_sizeOf' hpos]
      by_cases hz : cn * P.cellsOf e = 0
      · have hcn : cn = 0 := by
          rcases Nat.mul_eq_zero.1 hz with q | q
          · exact q
          · exact absurd q hpos
        have : cells = #[] := by rw [← hcells, hcn]; simp
        have e5 : ∀ f : Nat → Value, (Array.range 0).map f = (#[] : Array Value) := by simp
        simp [hz, this, newRow, e5]
      · rw [hzs] at hcells
        simp [hz, hzr, hzs, hcells, newRow]
    · simp only [ARep]
      have hrep : CRepV w G.hw (List.replicate ln z).flatten (List.replicate ln zv.cells.toList).flatten := hzrep.replicate ln
      refine .inr ⟨trivial, w.heap.size, 0, cn, by simp, by simp; omega, fun c hc => by rw [List.eq_of_mem_replicate hc, hzlen], by simp [Gh.pub], ?_, .inr ⟨trivial, ?_⟩⟩
      · refine CRepLL.of_cells (us := (List.replicate ln zv.cells.toList).flatten) (fun i u hi => ?_) (by simpa using CRepV.keep K2.keep _ hrep)
        have e1 := cell_new w cells e (0, 0) (0 + i)
        rw [e1, Nat.zero_add, ← Array.getElem?_toList, hcl]
        have : List.replicate cn zv.cells.toList = List.replicate ln zv.cells.toList ++ List.replicate (cn - ln) zv.cells.toList := by
          rw [List.replicate_append_replicate]; congr 1; omega
        rw [this, List.flatten_append, List.getElem?_append_left (List.getElem?_eq_some_iff.1 hi).1]
        exact hi
      · refine ⟨by simp [Gh.pub, ht'], rfl, by simp [Gh.pub], by unfold maxLen; omega, cells, heap_alloc_new w _, ?_⟩
        rw [← hcells, ← hzs]; simp
  · simp [M.exec] at h
end Go.Am
