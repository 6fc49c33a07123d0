/- The abstract machine's operations on the iterators of strings are sound. Conditions: none. -/
import Derived.Test.YtiffhngfneikoaaDoorAmV
namespace Go.Am
open Go.RowKit
variable {P : Program} {B : Nat} {W0 : Base} {d : Nat} {σ : St} {a : Act} {w : World} {G : Gh} {β : Type} {call : FuncId → List CV → Option CV}
  {acc : List Loc} {r : β} {o : Oper} {ops : List Oper}

theorem op_range (S : Sim P B W0 d σ a w G) {t : TypeId} {x : Operand} (ho : o.op = .range t x) {k : List W → List Loc → Option β}
    (h : (opM P d ops o).exec call σ acc k = some r) : OpDone P B W0 d o σ a w G k r := by
  unfold opM at h
  rw [ho] at h
  simp only [M.exec_bind'] at h
  obtain ⟨v, acc', h, hv⟩ := opd_sound S _ h
  obtain ⟨c, h, hc⟩ := cv_sound hv h
  split at h
  · rename_i ht
    simp only [M.exec] at h
    obtain ⟨s, hs, h⟩ := optO_some h
    rw [asS_some hs] at hc
    simp only [CRep] at hc
    have S2 := S.pub (.stringIter ⟨s.toArray⟩ 0) 0 (o.dst.map (.tmp d)) (by simp)
    have K2 := Keeps.pub (d := d) S.mem (.stringIter ⟨s.toArray⟩ 0) 0 (o.dst.map (.tmp d))
    refine OpDone.value h (x := .pointer (some (cellA w.heap.size 0))) ?_ (S2.put o fun t' ht' => ?_) K2
    · simp [execOp, ho, hc, Instr.range, run_underlying ht]
    · simp only [ARep]
      exact ⟨w.heap.size, rfl, by simp [Gh.pub, ht'], heap_alloc_new w _⟩
  · simp [M.exec] at h

/-- an object of one place alone is turned -/
def World.turn (w : World) (b : Nat) (ob : Obj) : World := { w with heap := w.heap.setIfInBounds b ob }
theorem turn_other (w : World) (b : Nat) (ob : Obj) (k : Nat) (h : k ≠ b) : (World.turn w b ob).heap[k]? = w.heap[k]? := by
  simp only [World.turn, Array.getElem?_setIfInBounds]
  rw [if_neg (Ne.symm h)]
theorem same_turn {b : Nat} {p q : Place} {s : ByteArray} {i j : Nat} (hb : w.heap[b]? = some (.stringIter s i)) (hp : G.own b = some p) (hq : q ≠ p) : Same q w (World.turn w b (.stringIter s j)) G G := by
  refine ⟨⟨fun _ => Nat.le_refl _, fun c o _ => ?_, fun c e he => ?_⟩, fun _ _ _ h => h, fun c hc => ?_⟩
  · by_cases e : c = b
    · subst e
      have hlt : c < w.heap.size := (Array.getElem?_eq_some_iff.1 hb).1
      have : (World.turn w c (.stringIter s j)).heap[c]? = some (.stringIter s j) := by simp [World.turn, hlt]
      simp [World.cell?, this, hb]
    · exact cell?_of_heap (turn_other w b _ c e) o
  · by_cases h : c = b
    · subst h
      simp [elemAt, World.shape?, hb] at he
    · rw [elemAt_heap (turn_other w b _ c h)]; exact he
  · have e : c ≠ b := fun h => by subst h; rw [hp] at hc; exact hq (Option.some.inj hc).symm
    exact ⟨hc, rfl, turn_other w b _ c e⟩
theorem Mem.turn {mem : MemT} (M : Mem P B W0 w G mem) {b : Nat} {p : Place} {s : ByteArray} {i j : Nat} (hb : w.heap[b]? = some (.stringIter s i)) (hp : G.own b = some p) (hpc : ∀ d s o, p ≠ .cell d s o) :
    Mem P B W0 (World.turn w b (.stringIter s j)) G mem := by
  have hlo := M.own b p hp
  have hsz : (World.turn w b (.stringIter s j)).heap.size = w.heap.size := by simp [World.turn]
  have N : ∀ q, q ≠ p → Same q w (World.turn w b (.stringIter s j)) G G := fun q hq => same_turn hb hp hq
  refine ⟨M.below.trans ⟨rfl, rfl, rfl, by rw [hsz]; exact Nat.le_refl _, fun k hk => turn_other w b _ k (by omega)⟩, by rw [hsz]; exact M.base, fun c q hq => by rw [hsz]; exact M.own c q hq,
    fun c hc => M.hw c (by rw [hsz] at hc; exact hc), M.blk, fun d s cs hbx => ?_, M.inj, M.glob.keep (N .none (fun h => hlo.2.2 h.symm)).keep⟩
  obtain ⟨c, vs, T, fz, R⟩ := M.box d s cs hbx
  have e : c ≠ b := fun h => by subst h; have := R.own; rw [hp] at this; simp at this
  refine ⟨c, vs, T, fz, R.blk, R.lo, by rw [turn_other w b _ c e]; exact R.heap, R.free, R.hw, R.own, ⟨R.rep.len, fun i hi => ?_⟩⟩
  obtain ⟨u, q1, q2, q3⟩ := R.rep.rep i hi
  exact ⟨u, q1, q2, ARep.same (N _ (by intro h; exact hpc d s i h.symm)) (N _ (fun h => hlo.2.2 h.symm)) _ q3⟩

theorem op_next (S : Sim P B W0 d σ a w G) {x : Operand} {str : Bool} (ho : o.op = .next x str) {k : List W → List Loc → Option β}
    (h : (opM P d ops o).exec call σ acc k = some r) : OpDone P B W0 d o σ a w G k r := by
  unfold opM at h
  rw [ho] at h
  simp only at h
  split at h
  · rename_i t
    simp only [M.exec] at h
    obtain ⟨hd, h⟩ := chkO_some h
    obtain ⟨_, h⟩ := chkO_some h
    have hne : ∀ u, o.dst = some u → u ≠ t := fun u hu e => by simp [hu, e] at hd
    have hrep := S.fr.rep t
    simp only [St.get] at h
    generalize nthD AV.any σ.tmps t = v at h hrep
    cases v with
    | siter s pos =>
      simp only [M.exec] at h
      simp only [ARep] at hrep
      obtain ⟨b, hv, hown, hb⟩ := hrep
      have hev : a.eval (.tmp t) = .pointer (some (cellA b 0)) := hv
      have hget : ∀ (u : TypeId), (execOp a.eval o).run P w = ((Instr.next (.pointer (some ⟨b, 0, none⟩)) true o.type).run P w).andThen fun v w' => .ok (.value v) w' := fun _ => by
        simp only [execOp, ho, hev, Sem.run_bind, Sem.run_pure]
      by_cases hlt : pos < s.length
      · simp only [hlt, decide_true, cond_true] at h
        have S1 := S.weaken (i := t) (v := .any) (by simp [ARep])
        have M2 := S.mem.turn (j := pos + (Utf8.decode ⟨s.toArray⟩ pos).2) hb hown (by simp)
        have hN : ∀ q, q ≠ Place.tmp d t → Same q w (World.turn w b (.stringIter ⟨s.toArray⟩ (pos + (Utf8.decode ⟨s.toArray⟩ pos).2))) G G := fun q hq => same_turn hb hown hq
        have S2 := S1.step (.tmp d t) M2 (hN _ (by simp)) (fun j hj => hN _ hj) (fun j hj => by
          simp only [Place.tmp.injEq, true_and] at hj
          subst hj
          simp only [nthD_setN]
          split
          · rfl
          · rename_i q
            have : nthD AV.any σ.tmps j = .any := by
              rw [nthD_get, List.getElem?_eq_none (by simp at q; exact q)]; rfl
            rw [this]; rfl)
        have hlt' : b < w.heap.size := (Array.getElem?_eq_some_iff.1 hb).1
        have hb2 : (World.turn w b (.stringIter ⟨s.toArray⟩ (pos + (Utf8.decode ⟨s.toArray⟩ pos).2))).heap[b]? = some (.stringIter ⟨s.toArray⟩ (pos + (Utf8.decode ⟨s.toArray⟩ pos).2)) := by
          simp [World.turn, hlt']
        have S3 := S2.weaken (i := t) (v := .siter s (pos + (Utf8.decode ⟨s.toArray⟩ pos).2)) (by simp only [ARep]; exact ⟨b, hv, hown, hb2⟩)
        have hset : setN (setN σ.tmps t .any) t (AV.siter s (pos + (Utf8.decode ⟨s.toArray⟩ pos).2)) = setN σ.tmps t (.siter s (pos + (Utf8.decode ⟨s.toArray⟩ pos).2)) := by
          have : ∀ (l : List AV) (i : Nat) (x y : AV), setN (setN l i x) i y = setN l i y := by
            intro l
            induction l with
            | nil => intros; rfl
            | cons z l ih => intro i x y; cases i <;> simp [setN, ih]
          exact this _ _ _ _
        rw [hset] at S3
        refine OpDone.value h (x := .tuple #[.bool true, .int .i64 pos, .int .i32 (Utf8.decode ⟨s.toArray⟩ pos).1]) (w' := World.turn w b (.stringIter ⟨s.toArray⟩ (pos + (Utf8.decode ⟨s.toArray⟩ pos).2))) (G' := G) ?_ ?_ ?_
        · rw [hget 0]
          have hsz : pos < (⟨s.toArray⟩ : ByteArray).size := by simpa [ByteArray.size] using hlt
          simp [Instr.next, getObj, setObj, Sem.run, hb, hsz, goInt, World.turn, Result.andThen]
        · simpa [applyW, W.apply] using S3.put o (v := .val (.tup [.bool true, .int .i64 pos, .int .i32 (Utf8.decode ⟨s.toArray⟩ pos).1])) (x := .tuple #[.bool true, .int .i64 pos, .int .i32 (Utf8.decode ⟨s.toArray⟩ pos).1])
            fun t' _ => by simp [ARep, CRep, CRepT]
        · have hlo := S.mem.own b _ hown
          exact ⟨(hN .none (by simp)).keep, fun c d' i hd hc => (hN (.tmp d' i) (by simp; omega)).own c hc, fun _ _ _ _ h => h,
            ⟨rfl, rfl, rfl, by simp [World.turn], fun k hk => turn_other w b _ k (by omega)⟩, fun _ _ => rfl⟩
      · simp only [hlt, decide_false, cond_false] at h
        refine OpDone.pure (x := .tuple #[.bool false]) S h ?_ fun t' _ => by simp [ARep, CRep, CRepT]
        rw [hget 0]
        have hsz : ¬ pos < (⟨s.toArray⟩ : ByteArray).size := by simpa [ByteArray.size] using hlt
        simp [Instr.next, getObj, Sem.run, hb, hsz, Result.andThen]
    | _ => simp [M.exec] at h
  · simp [M.exec] at h
end Go.Am
