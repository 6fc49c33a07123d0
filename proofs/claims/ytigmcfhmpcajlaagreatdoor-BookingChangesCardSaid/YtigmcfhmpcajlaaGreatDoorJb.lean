/- What the machine finds of a law holds of the program: the bridge of this seat. Conditions: as each says. -/
import Derived.Test.YtigmcfhmpcajlaaGreatDoorRows
import Derived.Test.YtigmcfhmpcajlaaGreatDoorAmC
import Derived.Test.YtigmcfhmpcajlaaGreatDoorAmB
import Derived.Test.YtigmcfhmpcajlaaGreatDoorLibT
import Derived.Test.YtigmcfhmpcajlaaGreatDoorRk
import Derived.ProofKit
import Derived.OpenShut
import Derived.LaidMore
import Derived.Lay
import Derived.Lib.LaidU8
import Derived.Lib.LaidTab
import Derived.Shelf.Vars
import Derived.Stop.Joined
set_option linter.unusedVariables false
namespace Go.Proofs.YtigmcfhmpcajlaaGreatDoor
open Go.ChangeShapes Go.WideShapes Go.ChangeAt Go.RowKit Go.Am
theorem Tryz.own:ownKnob Tryz.prog.godebug=none:=by kernel_rfl
theorem Qvn:laidOutB Tryz.prog=true:=by kernel_rfl
theorem Qya {lb:Nat} {W:World} (hT:Tw lb W) (M:Nat):GlobOK KK.gl W (hw0 W M):=by
 intro g cs hg
 cases hg
theorem Tryz.walk {lb:Nat} {k:Nat} {f:FuncId} {args:List CV} (h:C lb k f args=some (.bool true)) (W:World) (hT:Tw lb W) (M:Nat) (vs:List Value) (hv:CRepT W (hw0 W M) args vs) (hlb:lb≤topLb:=by decide):
  Calls Tryz.prog f vs.toArray W fun e W'=>e= .returned (.bool true)∧Below W.heap.size W W':=
 (QwS (libOK lb hlb) h W (hw0 W M) vs hT (fun b hb=>Qvd b hb) (Qya hT M) hv).mono
  fun _ _ ⟨v,h',h1,h2,_,_,h3⟩=>by
   simp only [CRep] at h3
   subst h3
   exact ⟨h1,h2⟩
theorem QqA {name:String} {g:Nat} {n:String} {d:DataW Unit} {W:World} (hg:Tryz.prog.globalNamed name=some g) (ht:(Tryz.prog.globals[g]?).map (·.type)=some 106)
  (h:Lib.VarReads Tryz.prog W name (.iface n d)):∃ev,W.cell? ⟨g,0,none⟩=some ev∧(ev= .nilIface∨∃te pe,ev= .iface te pe):=by
 obtain ⟨g',t,cs,fuel,p,h1,h2,h3,h4⟩:=h
 obtain rfl:=Option.some.inj (hg.symm.trans h1)
 obtain rfl:=Option.some.inj (ht.symm.trans h2)
 obtain ⟨_,u,v,hcs,_⟩:=iface_of_trod Tryz.underlying106 h4
 refine ⟨.iface u v, ?_, .inr ⟨u,v,rfl⟩⟩
 have:=World.var?_cell hg h3 0
 rw [Array.eq_one_of_toList hcs] at this
 simpa using this
theorem QzV {W:World} {l:List (String×DataW Unit)} (hL:laidMet Tryz.prog l W) {name:String} {g t e n:Nat} {k:IntKind} {zs:List Int} {d:DataW Unit} (hd:(name,d)∈l) (e1:d=Lib.tabData k zs) (hg:Tryz.prog.globalNamed name=some g)
  (ht:(Tryz.prog.globals[g]?).map (·.type)=some t) (hu:Tryz.prog.underlying t=some (.array n e)) (he:Tryz.prog.underlying e=some (.int k)) (c1:Tryz.prog.cellsOf e=1) (c2:Tryz.prog.cellsOf t=n):Lib.TabIs Tryz.prog W name k zs:=by
 obtain ⟨g',t',cs,fuel,p,a1,a2,a3,a4⟩:=Lib.laidMet.reads hL hd
 obtain rfl:=Option.some.inj (hg.symm.trans a1)
 obtain rfl:=Option.some.inj (ht.symm.trans a2)
 rw [e1] at a4
 have hc:=Lib.cells_of_tab (n:=n) hu he c1 c2 a4
 unfold Lib.TabIs
 rw [a3,←hc]
theorem QAu {lb:Nat} {W:World} {l:List (String×DataW Unit)} (hsh:W.ShapedOpen Tryz.prog) (hp:l.all (fun x=>x.2.handleName?.isNone)=true) (hL:laidMetH Tryz.prog l W)
  (h1:("internal/strconv.uint64pow10",Rows.laid_internal_strconv_uint64pow10)∈l)
  (h2:1≤lb→("strconv.ErrSyntax",Rows.laid_strconv_ErrSyntax)∈l∧("strconv.ErrRange",Rows.laid_strconv_ErrRange)∈l)
  :Tw lb W:=by
 rw [MakeChecks.laidMetH_plain _ _ _ hp] at hL
 exact {
  maxlen:=cell_of_shapedOpen_int (t:=3) (zero:= #[.int .i64 0]) hsh (by rw [show Tryz.prog.globals.size=9 by kernel_rfl];decide) (by kernel_rfl) rfl (by kernel_rfl) (by kernel_rfl) Tryz.underlying3
  esyn:=fun q=>QqA (by kernel_rfl) (by kernel_rfl) (Lib.laidMet.reads hL (h2 q).1)
  eran:=fun q=>QqA (by kernel_rfl) (by kernel_rfl) (Lib.laidMet.reads hL (h2 q).2)
  pow:=by
   have h:=QzV hL h1 (k:= .u64) (zs:=Lib.pow10Tab) (by kernel_rfl) (g:=2) (by kernel_rfl) (t:=213) (by kernel_rfl) (n:=20) (e:=144) Tryz.underlying213 Tryz.underlying144 (by kernel_rfl) (by kernel_rfl)
   have hn:Qyi 2= "internal/strconv.uint64pow10" :=by kernel_rfl
   rw [hn]
   exact h
 }
end Go.Proofs.YtigmcfhmpcajlaaGreatDoor
