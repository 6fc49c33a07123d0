/- What the second machine finds, in the words of the statements. Conditions: none. -/
import Derived.Test.YtigmcfhmpcajlaaGreatDoorJd35
import Derived.Test.YtigmcfhmpcajlaaGreatDoorEn
namespace Go.Proofs.YtigmcfhmpcajlaaGreatDoor
open Go.Am Go.ChangeShapes Go.RowKit
theorem QAk {k:Nat} {f:FuncId} {args:List CV} (h:K2.C 1 k f args=some (.bool true)) (W:World) (hT:Tw 1 W) (M:Nat) (vs:List Value) (hv:CRepT W (hw0 W M) args vs):
  Calls Tryz.prog f vs.toArray W fun e W'=>e= .returned (.bool true)∧Below W.heap.size W W':=
 (K2.ends (by decide) h W (hw0 W M) vs hT (fun b hb=>Qvd b hb) (Qya hT M) hv).mono
  fun _ _ ⟨v,h',h1,h2,_,_,h3⟩=>by
   simp only [CRep] at h3
   subst h3
   exact ⟨h1,h2⟩
theorem QuH (b:Bk) (hbn:b.bn=true→b.segs= []) (x e:Int):∃n,K2.C 1 n Qaa [.agg (bkE b), .int .i64 x, .int .i64 e]=some (.bool true):=
 (K2.bookingChanges_ok b hbn x e).elim fun N h=>⟨N,h N (Nat.le_refl _)⟩
end Go.Proofs.YtigmcfhmpcajlaaGreatDoor
