/- What the machine finds of a law holds of the program: the bridge of this seat. Conditions: as each says. -/
import Derived.Test.YtiffhngfneikoaaDoorRows
import Derived.Test.YtiffhngfneikoaaDoorAmC
import Derived.Test.YtiffhngfneikoaaDoorAmB
import Derived.Test.YtiffhngfneikoaaDoorLibOk
import Derived.Test.YtiffhngfneikoaaDoorRk
import Derived.Test.YtiffhngfneikoaaDoorHk
import Derived.ProofKit
import Derived.OpenShut
import Derived.LaidMore
import Derived.Lay
import Derived.Lib.LaidU8
import Derived.Lib.LaidTab
import Derived.Shelf.Vars
import Derived.Stop.Joined
namespace Go.Proofs.YtiffhngfneikoaaDoor
open Go.ChangeShapes Go.WideShapes Go.ChangeAt Go.RowKit Go.Am

theorem Tryd.own : ownKnob Tryd.prog.godebug = none := by kernel_rfl
theorem Tryd.names : NamesOk Tryd.prog := by
  have h : Tryd.prog.funcs.toList.all (fun fn => !(fn.name == "runtime.NumGoroutine")) = true := by kernel_rfl
  intro f fn hf
  rw [List.all_eq_true] at h
  have := h fn (by
    have : Tryd.prog.funcs.toList[f]? = some fn := by simpa using hf
    exact List.mem_of_getElem? this)
  simpa using this
theorem laidOut : laidOutB Tryd.prog = true := by kernel_rfl
theorem Tw.below {lb : Bool} {W w : World} (h : Tw lb W) (hb : Below W.heap.size W w) : Tw lb w := by
  have cell : ∀ {g : Nat} {v : Value}, W.cell? ⟨g, 0, none⟩ = some v → w.cell? ⟨g, 0, none⟩ = some v := by
    intro g v hv
    have hlt : g < W.heap.size := by
      refine Decidable.byContradiction fun hn => ?_
      simp [World.cell?, Array.getElem?_eq_none (Nat.le_of_not_lt hn)] at hv
    rw [← hv]
    exact World.cell?_of_block (hb.block g hlt)
  obtain ⟨m, hm⟩ := h.maxlen
  refine ⟨⟨m, cell hm⟩, fun q => ?_, fun q => ?_, Lib.tabBelow_of_tabIs h.pow w hb⟩
  · obtain ⟨ev, h1, h2⟩ := h.esyn q
    exact ⟨ev, cell h1, h2⟩
  · obtain ⟨ev, h1, h2⟩ := h.eran q
    exact ⟨ev, cell h1, h2⟩
theorem L_tight (lb : Bool) (f : FuncId) (s : List CV → Option CV) (h : L lb f = some s) : tightF Tryd.prog f = none := by
  by_cases hf : f < Tryd.prog.funcs.size
  · have ht : (List.range Tryd.prog.funcs.size).all (fun f => (L true f).isNone || (tightF Tryd.prog f).isNone) = true := by kernel_rfl
    have hn : (List.range Tryd.prog.funcs.size).all (fun f => (L false f).isNone || (tightF Tryd.prog f).isNone) = true := by kernel_rfl
    have key : ((L lb f).isNone || (tightF Tryd.prog f).isNone) = true := by
      cases lb
      · exact List.all_eq_true.1 hn f (List.mem_range.2 hf)
      · exact List.all_eq_true.1 ht f (List.mem_range.2 hf)
    rw [h] at key
    simpa using key
  · unfold tightF
    rw [Array.getElem?_eq_none (Nat.le_of_not_lt hf)]
/-- a function that the machine finds to answer true -/
theorem Tryd.walk {lb : Bool} {k : Nat} {f : FuncId} {args : List CV} (h : C lb k f args = some (.bool true)) (W : World) (hT : Tw lb W) (M : Nat) (vs : List Value) (hv : CRepT W (hw0 W M) args vs) :
    Calls Tryd.prog f vs.toArray W fun e W' => e = .returned (.bool true) ∧ Below W.heap.size W W' :=
  ((callF_sound (structEqOk _) Tryd.names (Checked.mixed Tryd.checked) (K := KK) (T := fun w => Below W.heap.size W w) (N0 := W.heap.size) (fun _ _ h1 h2 => h2.trans h1) (lib := L lb)
      (fun f s hs args r hr => ⟨(libOK lb f s hs args r hr).1, fun w h vs hw hz hv => (libOK lb f s hs args r hr).2 w h vs (Tw.below hT hw) hz hv⟩) (L_tight lb) (fun _ _ hK _ _ => hookOK hK Tryd.names)
      k W.heap.size ⟨W, KK⟩ rfl (Nat.le_refl _) (Below.refl _ _)).calls h W (hw0 W M) vs (Below.refl _ _) (fun _ _ hg => by cases hg) (Nat.le_refl _) (fun b hb => hw0_out b hb) hv).mono
    fun _ _ ⟨v, h', h1, h2, _, _, h3, _⟩ => by
      simp only [CRep] at h3
      subst h3
      exact ⟨h1, h2⟩
theorem iface_cell {name : String} {g : Nat} {n : String} {d : DataW Unit} {W : World} (hg : Tryd.prog.globalNamed name = some g) (ht : (Tryd.prog.globals[g]?).map (·.type) = some 120)
    (h : Lib.VarReads Tryd.prog W name (.iface n d)) : ∃ ev, W.cell? ⟨g, 0, none⟩ = some ev ∧ (ev = .nilIface ∨ ∃ te pe, ev = .iface te pe) := by
  obtain ⟨g', t, cs, fuel, p, h1, h2, h3, h4⟩ := h
  obtain rfl := Option.some.inj (hg.symm.trans h1)
  obtain rfl := Option.some.inj (ht.symm.trans h2)
  obtain ⟨_, u, v, hcs, _⟩ := iface_of_trod Tryd.underlying120 h4
  refine ⟨.iface u v, ?_, .inr ⟨u, v, rfl⟩⟩
  have := World.var?_cell hg h3 0
  rw [Array.eq_one_of_toList hcs] at this
  simpa using this
theorem tw_of {lb : Bool} {W : World} {l : List (String × DataW Unit)} (hsh : W.ShapedOpen Tryd.prog) (hp : l.all (fun x => x.2.handleName?.isNone) = true) (hL : laidMetH Tryd.prog l W)
    (h1 : ("internal/strconv.uint64pow10", Rows.laid_internal_strconv_uint64pow10) ∈ l)
    (h2 : lb = true → ("strconv.ErrSyntax", Rows.laid_strconv_ErrSyntax) ∈ l ∧ ("strconv.ErrRange", Rows.laid_strconv_ErrRange) ∈ l) : Tw lb W := by
  rw [MakeChecks.laidMetH_plain _ _ _ hp] at hL
  refine ⟨cell_of_shapedOpen_int (t := 3) (zero := #[.int .i64 0]) hsh (by rw [show Tryd.prog.globals.size = 8 by kernel_rfl]; decide) (by kernel_rfl) rfl (by kernel_rfl) (by kernel_rfl) Tryd.underlying3, fun q => ?_, fun q => ?_, ?_⟩
  · exact iface_cell (by kernel_rfl) (by kernel_rfl) (Lib.laidMet.reads hL (h2 q).1)
  · exact iface_cell (by kernel_rfl) (by kernel_rfl) (Lib.laidMet.reads hL (h2 q).2)
  · obtain ⟨g, t, cs, fuel, p, a1, a2, a3, a4⟩ := Lib.laidMet.reads hL h1
    obtain rfl := Option.some.inj ((show Tryd.prog.globalNamed "internal/strconv.uint64pow10" = some 3 by kernel_rfl).symm.trans a1)
    obtain rfl := Option.some.inj ((show (Tryd.prog.globals[3]?).map (·.type) = some 180 by kernel_rfl).symm.trans a2)
    have e : (Rows.laid_internal_strconv_uint64pow10 : DataW Unit) = Lib.tabData .u64 Lib.pow10Tab := by kernel_rfl
    rw [e] at a4
    have hc := Lib.cells_of_tab (n := 20) Tryd.underlying180 (e := 123) Tryd.underlying123 (by kernel_rfl) (by kernel_rfl) a4
    have hn : gname 3 = "internal/strconv.uint64pow10" := by kernel_rfl
    rw [hn]
    unfold Lib.TabIs
    rw [a3, ← hc]
end Go.Proofs.YtiffhngfneikoaaDoor
