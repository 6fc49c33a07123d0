/- Arguments of BookingMarried, opened: events of segments. Conditions: none. -/
import Derived.Test.YtigmcfhmpcajlaaGreatDoorJd35
import Derived.Test.YtigmcfhmpcajlaaGreatDoorCm1
namespace Go.Proofs.YtigmcfhmpcajlaaGreatDoor
open Go.ChangeShapes Go.WideShapes Go.ChangeAt Go.RowKit Go.Am
set_option maxRecDepth 100000 in
theorem Qxi {n : Nat} (x : List CV) (h : Ty Tryz.prog (n + 2) 49 x) : ∃ a : Int × Int, x = actE a ∧ (0 ≤ a.1 ∧ a.1 ≤ 255 ∧ 0 ≤ a.2 ∧ a.2 ≤ 255) := by
 obtain ⟨p1, r1, rfl, h1, hr⟩ := Qa1 (Ty.struct (ts := [5, 5]) Tryz.underlying49 rfl h)
 obtain ⟨p2, r2, rfl, h2, hr⟩ := Qa1 hr
 obtain rfl := Qg6 hr
 obtain ⟨a, rfl, ha⟩ := Ty.int Tryz.underlying5 h1
 obtain ⟨b, rfl, hb⟩ := Ty.int Tryz.underlying5 h2
 exact ⟨(a, b), rfl, ha.1, ha.2, hb.1, hb.2⟩
set_option maxRecDepth 100000 in
theorem Qvd {c : CV} (h : ArgTy Tryz.prog 47 c) : ∃ (bn : Bool) (l : List (Int × Int)), c = .list bn (l.map actE) ∧ ∀ a ∈ l, 0 ≤ a.1 ∧ a.1 ≤ 255 ∧ 0 ≤ a.2 ∧ a.2 ≤ 255 := by
 obtain ⟨bn, xs, rfl, _, _, hxs⟩ := ArgTy.slice Tryz.underlying47 h
 obtain ⟨l, rfl, hl⟩ := QiS (enc := actE) (fun x hx => Qxi (n := 5) x hx) hxs
 exact ⟨bn, l, rfl, hl⟩
end Go.Proofs.YtigmcfhmpcajlaaGreatDoor
