/- The library's functions give what the plain functions say. Conditions: none. -/
import Derived.Test.YtifjdkimbamdkaaDoorTAmC
import Derived.Test.YtifjdkimbamdkaaDoorTLib
import Derived.Test.YtifjdkimbamdkaaDoorTShelf
import Derived.Lib.AppendIntMem
import Derived.Lib.SplitLaws
import Derived.Test.YtifjdkimbamdkaaDoorTWz
import Derived.Test.YtifjdkimbamdkaaDoorTWp
namespace Go.Proofs
open Go.Am Go.RowKit

/-- the name of a package-level variable -/
noncomputable def gname (i : Nat) : String := ((Tryd.prog.globals[i]?).map (·.name)).getD ""
/-- what package-level variables of the library hold -/
structure Tw (lb : Bool) (w : World) : Prop where
  maxlen : ∃ m, w.cell? ⟨2, 0, none⟩ = some (.int .i64 m)
  lens : ∀ (i : Nat) v, lenTab[i]? = some v → w.cell? ⟨0, i, none⟩ = some (.int .i64 v)

/-- how a function of the library ends -/
def Ends (lb : Bool) (f : FuncId) (args : List CV) (r : CV) : Prop :=
  ∀ (w : World) (h : Hw) (vs : List Value), Tw lb w → (∀ b, w.heap.size ≤ b → h b = 0) → CRepT w h args vs →
    Calls Tryd.prog f vs.toArray w fun e w' => ∃ v h', e = .returned v ∧ Below w.heap.size w w' ∧ (∀ b, b < w.heap.size → h' b = h b) ∧ (∀ b, w'.heap.size ≤ b → h' b = 0) ∧ CRep w' h' r v
variable {lb : Bool}
/-- .. leaving what is told by its number of blocks alone -/
theorem Ends.small {w : World} {h : Hw} (hz : ∀ b, w.heap.size ≤ b → h b = 0) {w' : World} (hb : Below w.heap.size w w') {r : CV} {v : Value} (hr : CRep w' h r v) :
    ∃ v' h', Ending.returned v = .returned v' ∧ Below w.heap.size w w' ∧ (∀ b, b < w.heap.size → h' b = h b) ∧ (∀ b, w'.heap.size ≤ b → h' b = 0) ∧ CRep w' h' r v' :=
  ⟨v, h, rfl, hb, fun _ _ => rfl, fun b hb' => hz b (Nat.le_trans hb.size hb'), hr⟩

/-- a row that a call owns, as a list -/
theorem crep_row {w : World} {h : Hw} {g off cap es : Nat} {l : List (List CV)} {us : List Value} (hlen : ∀ c ∈ l, c.length = es) (hc : l.length ≤ cap) (hh : off + l.length * es ≤ h g)
    (hcells : ∀ (i : Nat) u, us[i]? = some u → w.cell? ⟨g, off + i, none⟩ = some u) (hv : CRepV w h l.flatten us) : CRep w h (.list false l) (.slice (some ⟨g, off, none⟩) l.length cap) := by
  simp only [CRep]
  exact .inr ⟨trivial, g, off, cap, es, .mk rfl, hc, hlen, hh, CRepLL.of_cells hcells hv⟩
theorem ends_Count {args : List CV} {r : CV} (e : lib_Count args = some r) : Ends lb F_period_Count args r := by
  unfold lib_Count at e
  split at e
  · rename_i f t d
    simp only [Option.some.injEq] at e
    subst e
    intro w h vs hT hz hv
    simp only [CRepT, CRep, CRepV] at hv
    obtain ⟨v1, r1, rfl, ⟨vs1, rfl, x1, y1, rfl, -, rfl, x2, y2, rfl, -, rfl, x3, y3, rfl, -, rfl, rfl⟩, rfl⟩ := hv
    refine (Tryd.Count_walk f t d w).mono fun e w' ⟨h1, h4⟩ => ?_
    subst h1
    exact Ends.small hz h4 (by simp [CRep])
  · cases e
theorem ends_length {args : List CV} {r : CV} (e : lib_length args = some r) : Ends lb F_calendar_length args r := by
  unfold lib_length at e
  split at e
  · rename_i y m
    obtain ⟨n, hn, rfl⟩ := Option.map_eq_some_iff.1 e
    intro w h vs hT hz hv
    simp only [CRepT, CRep] at hv
    obtain ⟨v1, r1, rfl, rfl, v2, r2, rfl, rfl, rfl⟩ := hv
    refine (Tryd.length_walk y m n w hT.lens hn).mono fun e w' ⟨h1, h4⟩ => ?_
    subst h1
    subst h4
    exact Ends.small hz (Below.refl _ _) (by simp [CRep])
  · cases e
theorem shifts_cells {w : World} {h : Hw} {b : Nat} : ∀ {l : List (List CV)} {s : List (Int × Int)} {off : Nat}, shiftsOf l = some s → CRepLL w h b off l →
    l.length = s.length ∧ ∀ (k : Nat) x, s[k]? = some x → w.cell? ⟨b, off + k * 2, none⟩ = some (.int .i64 x.1) ∧ w.cell? ⟨b, off + k * 2 + 1, none⟩ = some (.int .i64 x.2)
  | [], s, off, e, _ => by simp only [shiftsOf, Option.some.injEq] at e; subst e; exact ⟨rfl, fun k x hk => by simp at hk⟩
  | c :: l, s, off, e, hr => by
    unfold shiftsOf at e
    split at e
    · rename_i hh; cases hh
    · rename_i a o r' hh
      simp only [List.cons.injEq] at hh
      obtain ⟨rfl, rfl⟩ := hh
      obtain ⟨ys, hy, rfl⟩ := Option.map_eq_some_iff.1 e
      simp only [CRepLL, CRepC, CRep] at hr
      obtain ⟨⟨⟨v, h1, _, rfl⟩, ⟨v2, h3, _, rfl⟩, _⟩, h2⟩ := hr
      obtain ⟨q1, q2⟩ := shifts_cells hy h2
      refine ⟨by simp [q1], fun k x hk => ?_⟩
      cases k with
      | zero => simp at hk; subst hk; exact ⟨by simpa using h1, by simpa using h3⟩
      | succ k =>
        have := q2 k x (by simpa using hk)
        have e2 : off + (k + 1) * 2 = off + [CV.int .i64 a, CV.int .i64 o].length + k * 2 := by simp; omega
        rw [e2]; exact this
    · cases e
theorem spansV {w : World} {h : Hw} : ∀ l : List (Int × Int × Int), CRepV w h (l.map span3c).flatten (l.flatMap span3)
  | [] => by simp [CRepV]
  | x :: l => by
    simp only [List.map_cons, List.flatten_cons, List.flatMap_cons, span3c, span3, List.cons_append, List.nil_append, CRepV, CRep]
    exact ⟨_, _, rfl, rfl, rfl, _, _, rfl, rfl, rfl, _, _, rfl, rfl, rfl, spansV l⟩
theorem ends_spans {args : List CV} {r : CV} (e : lib_spans args = some r) : Ends lb F_zone_spans args r := by
  unfold lib_spans at e
  split at e
  · rename_i o nn l
    split at e
    · rename_i s hs
      split at e
      · rename_i hl
        simp only [Option.some.injEq] at e
        subst e
        intro w h vs hT hz hv
        simp only [CRepT] at hv
        obtain ⟨v1, r1, rfl, h1, rfl⟩ := hv
        simp only [CRep, CRepV] at h1
        obtain ⟨vs1, rfl, x1, y1, rfl, -, rfl, x2, y2, rfl, -, h2, rfl⟩ := h1
        have key : ∃ (p : Option Addr) (b off cap : Nat), x2 = .slice p s.length cap ∧ (s.length ≠ 0 → p = some ⟨b, off, none⟩) ∧ (s.length ≠ 0 → b < w.heap.size) ∧ ∀ (k : Nat) x, s[k]? = some x → w.cell? ⟨b, off + k * 2, none⟩ = some (.int .i64 x.1) ∧ w.cell? ⟨b, off + k * 2 + 1, none⟩ = some (.int .i64 x.2) := by
          rcases h2 with ⟨_, rfl, rfl⟩ | ⟨_, b, off, cap, es, ⟨ad, rfl, had⟩, hcap, hes, hw', hll⟩
          · simp only [shiftsOf, Option.some.injEq] at hs
            subst hs
            exact ⟨none, 0, 0, 0, rfl, fun q => absurd rfl q, fun q => absurd rfl q, fun k x hk => by simp at hk⟩
          · obtain ⟨q1, q2⟩ := shifts_cells hs hll
            refine ⟨some ad, b, off, cap, by rw [q1], fun q => by rw [had (.inr (by omega))], fun q => ?_, q2⟩
            obtain ⟨x, ys, rfl⟩ := List.exists_cons_of_ne_nil (List.ne_nil_of_length_pos (Nat.pos_of_ne_zero q))
            have := (q2 0 x (by simp)).1
            refine Decidable.byContradiction fun hn => ?_
            simp [World.cell?, Array.getElem?_eq_none (Nat.le_of_not_lt hn)] at this
        obtain ⟨p, b, off, cap, rfl, k1, k2, k3⟩ := key
        refine (Tryd.spans_walk o s p b off cap w hl k1 k2 k3).mono fun e w' ⟨v, h1, h2, h4⟩ => ?_
        subst h1
        obtain ⟨g, cap, cur, rfl, hbase, hg, hcap, hmax, hsize, htake⟩ : ∃ g cap cur, v = .slice (some ⟨g, 0, none⟩) (s.length + 1) cap ∧ w.heap.size ≤ g ∧ w'.heap[g]? = some (.cells cur 114 (0, 0)) ∧ s.length + 1 ≤ cap ∧ cap ≤ maxLen ∧ cur.size = cap * 3 ∧ cur.toList.take ((s.length + 1) * 3) = (spansF (-9223372036854775808) o s).flatMap span3 := by
          rcases h2.2 with ⟨_, h0⟩ | h0
          · omega
          · exact h0
        refine ⟨_, fun b => if b = g then (s.length + 1) * 3 else h b, rfl, h4, fun b hb => if_neg (by omega), fun b hb => ?_, ?_⟩
        · have hgl := (Array.getElem?_eq_some_iff.1 hg).1
          have : b ≠ g := by omega
          simp only [if_neg this]
          exact hz b (Nat.le_trans h4.size hb)
        · have hsl := spansF_len s (-9223372036854775808) o
          have := crep_row (w := w') (h := fun b => if b = g then (s.length + 1) * 3 else h b) (g := g) (off := 0) (cap := cap) (es := 3) (l := (spansF (-9223372036854775808) o s).map span3c) (us := (spansF (-9223372036854775808) o s).flatMap span3) (by intro c hc; obtain ⟨x, _, rfl⟩ := List.mem_map.1 hc; rfl) (by simpa [hsl] using hcap) (by simp [hsl]) (fun i u hi => ?_) (spansV _)
          · simpa [hsl] using this
          · rw [Nat.zero_add]
            have hi2 : i < ((spansF (-9223372036854775808) o s).flatMap span3).length := (List.getElem?_eq_some_iff.1 hi).1
            rw [span3_len, hsl] at hi2
            rw [← hi, ← h2.cellAt i hi2]
      · cases e
    · cases e
  · cases e
/-- a function with a text is entered -/
theorem enters {f : FuncId} (h : (match Tryd.prog.funcs[f]? with | some fn => fn.body.isSome && !(fn.name == "runtime.NumGoroutine") | none => false) = true) : ∀ vs w, (callFunc f vs).run Tryd.prog w = .ok (.enter f vs) w := by
  intro vs w
  split at h
  · rename_i fn hf
    simp only [Bool.and_eq_true, Bool.not_eq_true', beq_eq_false_iff_ne, ne_eq] at h
    obtain ⟨c, hc⟩ := Option.isSome_iff_exists.1 h.1
    simp [callFunc, hf, h.2, hc]
  · cases h
theorem libOK (lb : Bool) : LibOK Tryd.prog (Tw lb) (L lb) := by
  intro f s hs args r hr
  unfold L at hs
  split at hs
  · rename_i hf; subst hf; cases hs; exact ⟨enters (by kernel_rfl), ends_length hr⟩
  split at hs
  · rename_i hf; subst hf; cases hs; exact ⟨enters (by kernel_rfl), ends_spans hr⟩
  split at hs
  · rename_i hf; subst hf; cases hs; exact ⟨enters (by kernel_rfl), ends_Count hr⟩
  · cases hs
end Go.Proofs
