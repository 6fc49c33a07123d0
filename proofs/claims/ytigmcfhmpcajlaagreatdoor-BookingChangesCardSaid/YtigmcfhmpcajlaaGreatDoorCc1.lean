/- Chapter 35: the law BookingChecks on plain data. Conditions: as each says. -/
import Derived.Test.YtigmcfhmpcajlaaGreatDoorCn
import Derived.Test.YtigmcfhmpcajlaaGreatDoorW35
set_option linter.unusedSimpArgs false
set_option linter.unusedVariables false
namespace Go.Proofs
open Go.Am
theorem Qnh (lb:Nat) {b:Bk} (ok:SmallOk b):Ret lb Qac [.agg (bkE b)] (QaV (Qho b))∧Ret lb Qai [.agg (bkE b)] (QaV (Qho b)):=by
 have hl:=ok.loc
 have h1:=ok.ps
 have h2:=ok.segs
 have h3:=ok.svs
 refine ⟨Qn3 lb b.loc b.pn b.ps b.grp b.bn b.segs b.rn b.svs b.lim (by omega) (by omega) (fun p hp=> ?_) (by omega) (fun s hs=> ?_) (by omega) (fun x hx=> ?_),
  QsM lb b (by omega) (by omega) (fun p hp=> ?_) (by omega) (fun s hs=> ?_) (by omega) (fun x hx=> ?_)⟩
 ·have:=ok.pe p hp;exact ⟨by omega,by omega,by omega⟩
 ·have:=ok.sg s hs;exact ⟨by omega,by omega,by omega⟩
 ·have:=ok.sv x hx;omega
 ·have:=ok.pe p hp;exact ⟨by omega,by omega,by omega⟩
 ·have:=ok.sg s hs;exact ⟨⟨by omega,by omega,by omega⟩,by omega⟩
 ·have:=ok.sv x hx;omega
end Go.Proofs
