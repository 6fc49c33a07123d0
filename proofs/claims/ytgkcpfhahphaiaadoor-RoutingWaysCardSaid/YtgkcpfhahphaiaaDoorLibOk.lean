/- The library's functions give what the plain functions say. Conditions: none. -/
import Derived.Test.YtgkcpfhahphaiaaDoorAmC
import Derived.Test.YtgkcpfhahphaiaaDoorLib
import Derived.Test.YtgkcpfhahphaiaaDoorShelf
import Derived.Lib.AppendIntMem
import Derived.Lib.SplitLaws
namespace Go.Proofs
open Go.Am Go.RowKit

/-- the name of a package-level variable -/
noncomputable def gname (i : Nat) : String := ((Tryd.prog.globals[i]?).map (·.name)).getD ""
/-- what package-level variables of the library hold -/
structure Tw (lb : Bool) (w : World) : Prop where
  maxlen : ∃ m, w.cell? ⟨1, 0, none⟩ = some (.int .i64 m)
  pow : Lib.TabIs Tryd.prog w (gname 0) .u64 Lib.pow10Tab

/-- how a function of the library ends -/
def Ends (lb : Bool) (f : FuncId) (args : List CV) (r : CV) : Prop :=
  ∀ (w : World) (h : Hw) (vs : List Value), Tw lb w → (∀ b, w.heap.size ≤ b → h b = 0) → CRepT w h args vs →
    Calls Tryd.prog f vs.toArray w fun e w' => ∃ v h', e = .returned v ∧ Below w.heap.size w w' ∧ (∀ b, b < w.heap.size → h' b = h b) ∧ (∀ b, w'.heap.size ≤ b → h' b = 0) ∧ CRep w' h' r v
variable {lb : Bool}
/-- .. leaving what is told by its number of blocks alone -/
theorem Ends.small {w : World} {h : Hw} (hz : ∀ b, w.heap.size ≤ b → h b = 0) {w' : World} (hb : Below w.heap.size w w') {r : CV} {v : Value} (hr : CRep w' h r v) :
    ∃ v' h', Ending.returned v = .returned v' ∧ Below w.heap.size w w' ∧ (∀ b, b < w.heap.size → h' b = h b) ∧ (∀ b, w'.heap.size ≤ b → h' b = 0) ∧ CRep w' h' r v' :=
  ⟨v, h, rfl, hb, fun _ _ => rfl, fun b hb' => hz b (Nat.le_trans hb.size hb'), hr⟩

theorem ends_Itoa {args : List CV} {r : CV} (e : lib_Itoa args = some r) : Ends lb F_strconv_Itoa args r := by
  unfold lib_Itoa at e
  split at e
  · rename_i n
    split at e
    · rename_i hn
      simp only [Option.some.injEq] at e
      subst e
      intro w h vs hT hz hv
      simp only [CRepT, CRep] at hv
      obtain ⟨v1, r1, rfl, rfl, rfl⟩ := hv
      refine (Tryd.strconv_Itoa n hn.1 hn.2 w ((congrArg (fun s => Lib.TabIs Tryd.prog w s .u64 Lib.pow10Tab) (by kernel_rfl)).mp hT.pow)).mono fun e w' ⟨h1, k, os, h2⟩ => ?_
      subst h1; subst h2
      exact Ends.small hz (Lib.below_grow _ w (Nat.le_refl _) k os) (by simp [CRep, itoaF_eq hn.1 hn.2])
    · cases e
  · cases e
theorem strsOf_cells {w : World} {h : Hw} {b : Nat} : ∀ {l : List (List CV)} {xs : List (List UInt8)} {off : Nat}, strsOf l = some xs → CRepLL w h b off l →
    l.length = xs.length ∧ ∀ (j : Nat) x, (xs.map fun x => (⟨x.toArray⟩ : ByteArray))[j]? = some x → w.cell? ⟨b, off + j, none⟩ = some (.string x)
  | [], xs, off, e, _ => by simp only [strsOf, Option.some.injEq] at e; subst e; exact ⟨rfl, fun j x hj => by simp at hj⟩
  | c :: l, xs, off, e, hr => by
    unfold strsOf at e
    split at e
    · rename_i hh; cases hh
    · rename_i s r' hh
      simp only [List.cons.injEq] at hh
      obtain ⟨rfl, rfl⟩ := hh
      obtain ⟨ys, hy, rfl⟩ := Option.map_eq_some_iff.1 e
      simp only [CRepLL, CRepC, CRep] at hr
      obtain ⟨⟨⟨v, h1, _, rfl⟩, _⟩, h2⟩ := hr
      obtain ⟨q1, q2⟩ := strsOf_cells hy h2
      refine ⟨by simp [q1], fun j x hj => ?_⟩
      cases j with
      | zero => simp at hj; subst hj; simpa using h1
      | succ j =>
        have := q2 j x (by simpa using hj)
        have e2 : off + (j + 1) = off + [CV.str s].length + j := by simp; omega
        rw [e2]; exact this
    · cases e
theorem ends_Join {args : List CV} {r : CV} (e : lib_Join args = some r) : Ends lb F_strings_Join args r := by
  unfold lib_Join at e
  split at e
  · rename_i nn l sep
    split at e
    · rename_i xs hx
      split at e
      · rename_i hl
        simp only [Option.some.injEq] at e
        subst e
        intro w h vs hT hz hv
        simp only [CRepT] at hv
        obtain ⟨v1, r1, rfl, h1, v2, r2, rfl, h2, rfl⟩ := hv
        simp only [CRep] at h1 h2
        subst h2
        rcases h1 with ⟨_, rfl, rfl⟩ | ⟨_, b, off, cap, es, ⟨ad, rfl, had⟩, hcap, hes, hw', hll⟩
        · simp only [strsOf, Option.some.injEq] at hx
          subst hx
          refine (Tryd.strings_Join_none none 0 ⟨sep.toArray⟩ w).mono fun e w' ⟨h1, h2⟩ => ?_
          subst h1; subst h2
          exact Ends.small hz (Below.refl _ _) (by simp [CRep, Lib.join])
        · obtain ⟨q1, q2⟩ := strsOf_cells hx hll
          have hmap : (xs.map fun x => (⟨x.toArray⟩ : ByteArray)).map (·.data.toList) = xs := by simp [Function.comp_def]
          by_cases hempty : xs = []
          · subst hempty
            have hl0 : l.length = 0 := by simpa using q1
            rw [hl0]
            refine (Tryd.strings_Join_none (some ad) cap ⟨sep.toArray⟩ w).mono fun e w' ⟨h1, h2⟩ => ?_
            subst h1; subst h2
            exact Ends.small hz (Below.refl _ _) (by simp [CRep, Lib.join])
          · have hl1 : l.length ≠ 0 := by
              have := List.length_pos_iff.2 hempty
              omega
            obtain rfl := had (.inr hl1)
            have hbk : b < w.heap.size := by
              obtain ⟨x, ys, rfl⟩ := List.exists_cons_of_ne_nil hempty
              have := q2 0 ⟨x.toArray⟩ (by simp)
              unfold World.cell? at this
              cases hh : w.heap[b]? with
              | none => simp [hh] at this
              | some o => exact (Array.getElem?_eq_some_iff.1 hh).1
            have := Tryd.strings_Join b off cap (xs.map fun x => (⟨x.toArray⟩ : ByteArray)) ⟨sep.toArray⟩ w q2 hbk (by simpa using hl.1) (by simp; omega) (by rw [hmap]; exact hl.2)
            rw [hmap] at this
            rw [q1]
            simp only [List.length_map] at this
            refine this.mono fun e w' ⟨h1, h2⟩ => ?_
            subst h1
            exact Ends.small hz h2 (by simp [CRep])
      · cases e
    · cases e
  · cases e
/-- a row that a call owns, as a list -/
theorem crep_row {w : World} {h : Hw} {g off cap es : Nat} {l : List (List CV)} {us : List Value} (hlen : ∀ c ∈ l, c.length = es) (hc : l.length ≤ cap) (hh : off + l.length * es ≤ h g)
    (hcells : ∀ (i : Nat) u, us[i]? = some u → w.cell? ⟨g, off + i, none⟩ = some u) (hv : CRepV w h l.flatten us) : CRep w h (.list false l) (.slice (some ⟨g, off, none⟩) l.length cap) := by
  simp only [CRep]
  exact .inr ⟨trivial, g, off, cap, es, .mk rfl, hc, hlen, hh, CRepLL.of_cells hcells hv⟩
/-- a function with a text is entered -/
theorem enters {f : FuncId} (h : (match Tryd.prog.funcs[f]? with | some fn => fn.body.isSome && !(fn.name == "runtime.NumGoroutine") | none => false) = true) : ∀ vs w, (callFunc f vs).run Tryd.prog w = .ok (.enter f vs) w := by
  intro vs w
  split at h
  · rename_i fn hf
    simp only [Bool.and_eq_true, Bool.not_eq_true', beq_eq_false_iff_ne, ne_eq] at h
    obtain ⟨c, hc⟩ := Option.isSome_iff_exists.1 h.1
    simp [callFunc, hf, h.2, hc]
  · cases h
theorem libOK (lb : Bool) : LibOK Tryd.prog (Tw lb) (L lb) := by
  intro f s hs args r hr
  unfold L at hs
  split at hs
  · rename_i hf; subst hf; cases hs; exact ⟨enters (by kernel_rfl), ends_Itoa hr⟩
  split at hs
  · rename_i hf; subst hf; cases hs; exact ⟨enters (by kernel_rfl), ends_Join hr⟩
  · cases hs
end Go.Proofs
