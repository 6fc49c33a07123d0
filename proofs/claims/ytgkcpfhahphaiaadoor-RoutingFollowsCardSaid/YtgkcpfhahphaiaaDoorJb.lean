/- What the machine finds of a law holds of the program: the bridge of this seat. Conditions: as each says. -/
import Derived.Test.YtgkcpfhahphaiaaDoorRows
import Derived.Test.YtgkcpfhahphaiaaDoorAmC
import Derived.Test.YtgkcpfhahphaiaaDoorAmB
import Derived.Test.YtgkcpfhahphaiaaDoorLibOk
import Derived.Test.YtgkcpfhahphaiaaDoorRk
import Derived.ProofKit
import Derived.OpenShut
import Derived.LaidMore
import Derived.Lay
import Derived.Lib.LaidU8
import Derived.Lib.LaidTab
import Derived.Shelf.Vars
import Derived.Stop.Joined
namespace Go.Proofs.YtgkcpfhahphaiaaDoor
open Go.ChangeShapes Go.WideShapes Go.ChangeAt Go.RowKit Go.Am

theorem Tryd.own : ownKnob Tryd.prog.godebug = none := by kernel_rfl
theorem Tryd.names : NamesOk Tryd.prog := by
  have h : Tryd.prog.funcs.toList.all (fun fn => !(fn.name == "runtime.NumGoroutine")) = true := by kernel_rfl
  intro f fn hf
  rw [List.all_eq_true] at h
  have := h fn (by
    have : Tryd.prog.funcs.toList[f]? = some fn := by simpa using hf
    exact List.mem_of_getElem? this)
  simpa using this
theorem hookOK {B : Nat} {W0 : Base} (hK : W0.K = KK) : HookOK Tryd.prog B W0 := by
  intro f g hg
  rw [hK] at hg
  cases hg
theorem laidOut : laidOutB Tryd.prog = true := by kernel_rfl
theorem Tw.below {lb : Bool} {W w : World} (h : Tw lb W) (hb : Below W.heap.size W w) : Tw lb w := by
  have cell : ∀ {g o : Nat} {v : Value}, W.cell? ⟨g, o, none⟩ = some v → w.cell? ⟨g, o, none⟩ = some v := by
    intro g o v hv
    have hlt : g < W.heap.size := by
      refine Decidable.byContradiction fun hn => ?_
      simp [World.cell?, Array.getElem?_eq_none (Nat.le_of_not_lt hn)] at hv
    rw [← hv]
    exact World.cell?_of_block (hb.block g hlt)
  exact {
    maxlen := h.maxlen.elim fun m hm => ⟨m, cell hm⟩
    pow := Lib.tabBelow_of_tabIs h.pow w hb
  }
theorem L_tight (lb : Bool) (f : FuncId) (s : List CV → Option CV) (h : L lb f = some s) : tightF Tryd.prog f = none ∧ KK.own f = none := by
  by_cases hf : f < Tryd.prog.funcs.size
  · have ht : (List.range Tryd.prog.funcs.size).all (fun f => (L true f).isNone || ((tightF Tryd.prog f).isNone && (owns f).isNone)) = true := by kernel_rfl
    have hn : (List.range Tryd.prog.funcs.size).all (fun f => (L false f).isNone || ((tightF Tryd.prog f).isNone && (owns f).isNone)) = true := by kernel_rfl
    have key : ((L lb f).isNone || ((tightF Tryd.prog f).isNone && (owns f).isNone)) = true := by
      cases lb
      · exact List.all_eq_true.1 hn f (List.mem_range.2 hf)
      · exact List.all_eq_true.1 ht f (List.mem_range.2 hf)
    rw [h] at key
    simp only [Option.isNone_some, Bool.false_or, Bool.and_eq_true, Option.isNone_iff_eq_none] at key
    exact key
  · refine ⟨?_, ?_⟩
    · unfold tightF
      rw [Array.getElem?_eq_none (Nat.le_of_not_lt hf)]
    · have hsz : Tryd.prog.funcs.size = 86 := by kernel_rfl
      rw [hsz] at hf
      rfl
/-- a function that the machine finds to answer true -/
theorem Tryd.walk {lb : Bool} {k : Nat} {f : FuncId} {args : List CV} (h : C lb k f args = some (.bool true)) (W : World) (hT : Tw lb W) (M : Nat) (vs : List Value) (hv : CRepT W (hw0 W M) args vs) :
    Calls Tryd.prog f vs.toArray W fun e W' => e = .returned (.bool true) ∧ Below W.heap.size W W' :=
  ((callF_sound (structEqOk _) Tryd.names (Checked.mixed Tryd.checked) (K := KK) (T := fun w => Below W.heap.size W w) (N0 := W.heap.size) (fun _ _ h1 h2 => h2.trans h1) (lib := L lb)
      (fun f s hs args r hr => ⟨(libOK lb f s hs args r hr).1, fun w h vs hw hz hv => (libOK lb f s hs args r hr).2 w h vs (Tw.below hT hw) hz hv⟩) (L_tight lb) (fun _ _ hK _ _ => hookOK hK)
      k W.heap.size ⟨W, KK⟩ rfl (Nat.le_refl _) (Below.refl _ _)).calls h W (hw0 W M) vs (Below.refl _ _) (fun _ _ hg => by cases hg) (Nat.le_refl _) (fun b hb => hw0_out b hb) hv).mono
    fun _ _ ⟨v, h', h1, h2, _, _, h3, _⟩ => by
      simp only [CRep] at h3
      subst h3
      exact ⟨h1, h2⟩
theorem tab_of {W : World} {l : List (String × DataW Unit)} (hL : laidMet Tryd.prog l W) {name : String} {g t e n : Nat} {k : IntKind} {zs : List Int} {d : DataW Unit} (hd : (name, d) ∈ l) (e1 : d = Lib.tabData k zs) (hg : Tryd.prog.globalNamed name = some g)
    (ht : (Tryd.prog.globals[g]?).map (·.type) = some t) (hu : Tryd.prog.underlying t = some (.array n e)) (he : Tryd.prog.underlying e = some (.int k)) (c1 : Tryd.prog.cellsOf e = 1) (c2 : Tryd.prog.cellsOf t = n) : Lib.TabIs Tryd.prog W name k zs := by
  obtain ⟨g', t', cs, fuel, p, a1, a2, a3, a4⟩ := Lib.laidMet.reads hL hd
  obtain rfl := Option.some.inj (hg.symm.trans a1)
  obtain rfl := Option.some.inj (ht.symm.trans a2)
  rw [e1] at a4
  have hc := Lib.cells_of_tab (n := n) hu he c1 c2 a4
  unfold Lib.TabIs
  rw [a3, ← hc]
theorem tw_of {lb : Bool} {W : World} {l : List (String × DataW Unit)} (hsh : W.ShapedOpen Tryd.prog) (hp : l.all (fun x => x.2.handleName?.isNone) = true) (hL : laidMetH Tryd.prog l W)
    (h1 : ("internal/strconv.uint64pow10", Rows.laid_internal_strconv_uint64pow10) ∈ l)
    : Tw lb W := by
  rw [MakeChecks.laidMetH_plain _ _ _ hp] at hL
  exact {
    maxlen := cell_of_shapedOpen_int (t := 3) (zero := #[.int .i64 0]) hsh (by rw [show Tryd.prog.globals.size = 4 by kernel_rfl]; decide) (by kernel_rfl) rfl (by kernel_rfl) (by kernel_rfl) Tryd.underlying3
    pow := by
      have h := tab_of hL h1 (k := .u64) (zs := Lib.pow10Tab) (by kernel_rfl) (g := 0) (by kernel_rfl) (t := 91) (by kernel_rfl) (n := 20) (e := 53) Tryd.underlying91 Tryd.underlying53 (by kernel_rfl) (by kernel_rfl)
      have hn : gname 0 = "internal/strconv.uint64pow10" := by kernel_rfl
      rw [hn]
      exact h
  }
end Go.Proofs.YtgkcpfhahphaiaaDoor
