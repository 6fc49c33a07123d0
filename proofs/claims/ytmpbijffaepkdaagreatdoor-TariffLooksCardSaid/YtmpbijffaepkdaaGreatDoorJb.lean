/- What the machine finds of a law holds of the program: the bridge of this seat. Conditions: as each says. -/
import Derived.Test.YtmpbijffaepkdaaGreatDoorRows
import Derived.Test.YtmpbijffaepkdaaGreatDoorAmC
import Derived.Test.YtmpbijffaepkdaaGreatDoorAmB
import Derived.Test.YtmpbijffaepkdaaGreatDoorLibT
import Derived.Test.YtmpbijffaepkdaaGreatDoorRk
import Derived.ProofKit
import Derived.OpenShut
import Derived.LaidMore
import Derived.Lay
import Derived.Lib.LaidU8
import Derived.Lib.LaidTab
import Derived.Shelf.Vars
import Derived.Stop.Joined
set_option linter.unusedVariables false
namespace Go.Proofs.YtmpbijffaepkdaaGreatDoor
open Go.ChangeShapes Go.WideShapes Go.ChangeAt Go.RowKit Go.Am
theorem Tryz.own : ownKnob Tryz.prog.godebug = none := by kernel_rfl
theorem QkQ : laidOutB Tryz.prog = true := by kernel_rfl
theorem Qog {lb : Nat} {W : World} (hT : Tw lb W) (M : Nat) : GlobOK KK.gl W (hw0 W M) := by
 intro g cs hg
 change gls g = some cs at hg
 unfold gls at hg
 split at hg
 ·rename_i e
  subst e
  cases hg
  have c : ∀ (i : Nat) v, wordTab[i]? = some v → W.cell? (Qae 0 i) = some (.string ⟨v.toArray⟩) := fun i v hv => hT.words i v hv
  refine ⟨?_, ?_⟩
  ·have h5 := c 5 _ rfl
   have := Qj0 (M := M) _ _ _ h5
   exact this
  ·simp only [wordTab, List.map_cons, List.map_nil, CRepC, CRep]
   exact ⟨⟨_, c 0 _ rfl, rfl, rfl⟩, ⟨_, c 1 _ rfl, rfl, rfl⟩, ⟨_, c 2 _ rfl, rfl, rfl⟩, ⟨_, c 3 _ rfl, rfl, rfl⟩, ⟨_, c 4 _ rfl, rfl, rfl⟩, ⟨_, c 5 _ rfl, rfl, rfl⟩, trivial⟩
 ·cases hg
theorem Tryz.walk {lb : Nat} {k : Nat} {f : FuncId} {args : List CV} (h : C lb k f args = some (.bool true)) (W : World) (hT : Tw lb W) (M : Nat) (vs : List Value) (hv : CRepT W (hw0 W M) args vs) (hlb : lb ≤ topLb := by decide) :
  Calls Tryz.prog f vs.toArray W fun e W' => e = .returned (.bool true) ∧ Below W.heap.size W W' :=
 (QnK (Qn6 lb hlb) h W (hw0 W M) vs hT (fun b hb => Qnz b hb) (Qog hT M) hv).mono
  fun _ _ ⟨v, h', h1, h2, _, _, h3⟩ => by
   simp only [CRep] at h3
   subst h3
   exact ⟨h1, h2⟩
theorem Qie {name : String} {g : Nat} {n : String} {d : DataW Unit} {W : World} (hg : Tryz.prog.globalNamed name = some g) (ht : (Tryz.prog.globals[g]?).map (·.type) = some 126)
  (h : Lib.VarReads Tryz.prog W name (.iface n d)) : ∃ ev, W.cell? ⟨g, 0, none⟩ = some ev ∧ (ev = .nilIface ∨ ∃ te pe, ev = .iface te pe) := by
 obtain ⟨g', t, cs, fuel, p, h1, h2, h3, h4⟩ := h
 obtain rfl := Option.some.inj (hg.symm.trans h1)
 obtain rfl := Option.some.inj (ht.symm.trans h2)
 obtain ⟨_, u, v, hcs, _⟩ := iface_of_trod Tryz.underlying126 h4
 refine ⟨.iface u v, ?_, .inr ⟨u, v, rfl⟩⟩
 have := World.var?_cell hg h3 0
 rw [Array.eq_one_of_toList hcs] at this
 simpa using this
theorem QnH {W : World} {l : List (String × DataW Unit)} (hL : laidMet Tryz.prog l W) {name : String} {g t e n : Nat} {k : IntKind} {zs : List Int} {d : DataW Unit} (hd : (name, d) ∈ l) (e1 : d = Lib.tabData k zs) (hg : Tryz.prog.globalNamed name = some g)
  (ht : (Tryz.prog.globals[g]?).map (·.type) = some t) (hu : Tryz.prog.underlying t = some (.array n e)) (he : Tryz.prog.underlying e = some (.int k)) (c1 : Tryz.prog.cellsOf e = 1) (c2 : Tryz.prog.cellsOf t = n) : Lib.TabIs Tryz.prog W name k zs := by
 obtain ⟨g', t', cs, fuel, p, a1, a2, a3, a4⟩ := Lib.laidMet.reads hL hd
 obtain rfl := Option.some.inj (hg.symm.trans a1)
 obtain rfl := Option.some.inj (ht.symm.trans a2)
 rw [e1] at a4
 have hc := Lib.cells_of_tab (n := n) hu he c1 c2 a4
 unfold Lib.TabIs
 rw [a3, ← hc]
theorem Qjj {H : Type} {enc : TypeId × Value → H} {P : Program} {w : World} {base : Nat} {sp : Nat → Bool} {held : Bool} {fuel : Nat} {t e : TypeId} {n : Nat} {cs : List Value} {zs : List (List UInt8)} {p : List MemPlace}
  (ht : P.underlying t = some (.array n e)) (he : P.underlying e = some .string) (hce : P.cellsOf e = 1) (hct : P.cellsOf t = n)
  (h : DataW.trod enc P w base sp held fuel t cs = some (.agg (zs.map fun z => .lit (.string z)), p)) : cs = zs.map fun z => Value.string ⟨z.toArray⟩ := by
 cases fuel with
 | zero => simp [DataW.trod] at h
 | succ fuel =>
  simp only [DataW.trod, ht, hce, hct, Nat.mul_one] at h
  split at h
  ·rename_i hl
   obtain ⟨xs, hm, hx⟩ := Option.map_eq_some_iff.1 h
   have hxs : xs.map (·.1) = zs.map fun z => (DataW.lit (.string z) : DataW H) := by
    have := congrArg Prod.fst hx
    simpa using this
   have hxl : xs.length = n := by simpa using Lib.mapM_length hm
   have hzl : zs.length = n := by
    have := congrArg List.length hxs
    simp at this
    omega
   apply List.ext_getElem?
   intro i
   by_cases hi : i < n
   ·obtain ⟨b, hb, hf⟩ := Lib.mapM_at hm i i (by simp [hi])
    obtain ⟨z, hc, rfl, _⟩ := DataW.trod_string he hf
    have h1 : cs[i]? = some (.string z) := by
     have := congrArg (·[0]?) hc
     simpa [List.getElem?_take, List.getElem?_drop] using this
    have h2 : (xs.map (·.1))[i]? = some (DataW.lit (.string z.data.toList) : DataW H) := by simp [hb]
    rw [hxs] at h2
    simp only [List.getElem?_map, Option.map_eq_some_iff, DataW.lit.injEq, Lit.string.injEq] at h2
    obtain ⟨z', hz', rfl⟩ := h2
    simp [h1, hz']
   ·rw [List.getElem?_eq_none (by omega), List.getElem?_eq_none (by simp; omega)]
  ·cases h
theorem Qn1 {lb : Nat} {W : World} {l : List (String × DataW Unit)} (hsh : W.ShapedOpen Tryz.prog) (hp : l.all (fun x => x.2.handleName?.isNone) = true) (hL : laidMetH Tryz.prog l W)
  (h1 : ("internal/strconv.uint64pow10", Rows.laid_internal_strconv_uint64pow10) ∈ l)
  (h4 : ("airline/rule.words", Rows.laid_airline_rule_words) ∈ l)
  (h2 : 1 ≤ lb → ("strconv.ErrSyntax", Rows.laid_strconv_ErrSyntax) ∈ l ∧ ("strconv.ErrRange", Rows.laid_strconv_ErrRange) ∈ l)
  : Tw lb W := by
 rw [MakeChecks.laidMetH_plain _ _ _ hp] at hL
 exact {
  maxlen := cell_of_shapedOpen_int (t := 3) (zero := #[.int .i64 0]) hsh (by rw [show Tryz.prog.globals.size = 10 by kernel_rfl]; decide) (by kernel_rfl) rfl (by kernel_rfl) (by kernel_rfl) Tryz.underlying3
  esyn := fun q => Qie (by kernel_rfl) (by kernel_rfl) (Lib.laidMet.reads hL (h2 q).1)
  eran := fun q => Qie (by kernel_rfl) (by kernel_rfl) (Lib.laidMet.reads hL (h2 q).2)
  words := fun i v hv => by
   obtain ⟨g', t', cs, fuel, p, a1, a2, a3, a4⟩ := Lib.laidMet.reads hL h4
   obtain rfl := Option.some.inj ((show Tryz.prog.globalNamed "airline/rule.words" = some 0 by kernel_rfl).symm.trans a1)
   obtain rfl := Option.some.inj ((show (Tryz.prog.globals[0]?).map (·.type) = some 153 by kernel_rfl).symm.trans a2)
   rw [show Rows.laid_airline_rule_words = .agg (wordTab.map fun z => .lit (.string z)) by kernel_rfl] at a4
   have hc := Qjj (n := 6) Tryz.underlying153 Tryz.underlying9 (by kernel_rfl) (by kernel_rfl) a4
   rw [World.var?_cell (show Tryz.prog.globalNamed "airline/rule.words" = some 0 by kernel_rfl) a3 i]
   have : cs[i]? = cs.toList[i]? := by simp
   rw [this, hc]
   simp [hv]
  pow := by
   have h := QnH hL h1 (k := .u64) (zs := Lib.pow10Tab) (by kernel_rfl) (g := 2) (by kernel_rfl) (t := 261) (by kernel_rfl) (n := 20) (e := 163) Tryz.underlying261 Tryz.underlying163 (by kernel_rfl) (by kernel_rfl)
   have hn : Qm9 2 = "internal/strconv.uint64pow10" := by kernel_rfl
   rw [hn]
   exact h
 }
end Go.Proofs.YtmpbijffaepkdaaGreatDoor
