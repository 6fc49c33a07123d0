/- Arguments of chapter 10, opened: timetables and changes. Conditions: none. -/
import Derived.Test.YtdcpdknginpohaaGreatDoorJd07
import Derived.Test.YtdcpdknginpohaaGreatDoorNB
namespace Go.Proofs.YtdcpdknginpohaaGreatDoor
open Go.ChangeShapes Go.WideShapes Go.ChangeAt Go.RowKit Go.Am
def Qzm (f : Fl) : Prop := ArgF f ∧ (f.ln = true → f.legs = [])
theorem Qul {α : Type} {enc : α → List CV} {l : List α} (h : l.map enc = []) : l = [] := List.map_eq_nil_iff.1 h
set_option maxRecDepth 100000 in
theorem Qy6 {n : Nat} (x : List CV) (h : Ty Tryz.prog (n + 5) 42 x) : ∃ f : Fl, x = flE f ∧ (Qzm f ∧ ∀ x ∈ f.legs, Qpn x) := by
 obtain ⟨p1, r1, rfl, h1, hr⟩ := QaA (Ty.struct (ts := [9, 3, 28, 29]) Tryz.underlying42 rfl h)
 obtain ⟨p2, r2, rfl, h2, hr⟩ := QaA hr
 obtain ⟨p3, r3, rfl, h3, hr⟩ := QaA hr
 obtain ⟨p4, r4, rfl, h4, hr⟩ := QaA hr
 obtain rfl := QdC hr
 obtain ⟨car, rfl, hcar⟩ := Ty.str Tryz.underlying9 h1
 obtain ⟨num, rfl, _⟩ := Ty.int Tryz.underlying3 h2
 obtain ⟨q1, s1, rfl, g1, gr⟩ := QaA (Ty.struct (ts := [3, 3, 3]) Tryz.underlying28 rfl h3)
 obtain ⟨q2, s2, rfl, g2, gr⟩ := QaA gr
 obtain ⟨q3, s3, rfl, g3, gr⟩ := QaA gr
 obtain rfl := QdC gr
 obtain ⟨fr, rfl, _⟩ := Ty.int Tryz.underlying3 g1
 obtain ⟨tq, rfl, _⟩ := Ty.int Tryz.underlying3 g2
 obtain ⟨days, rfl, _⟩ := Ty.int Tryz.underlying3 g3
 obtain ⟨ln, xs, rfl, hn, l1, hxs⟩ := Ty.slice Tryz.underlying29 h4
 obtain ⟨legs, rfl, hl⟩ := Qe7 (enc := lgcv) (fun x hx => Qvu (n := n + 1) x hx) hxs
 have b1 : Tryz.prog.bytesOf 94 = 64 := by kernel_rfl
 rw [b1, List.length_map] at l1
 exact ⟨⟨car, num, fr, tq, days, ln, legs⟩, rfl, ⟨⟨Nat.le_trans hcar QfZ, Qf0 l1 (by decide), fun x h => (hl x h).1⟩, fun h => Qul (hn h)⟩, fun x h => (hl x h).2⟩
set_option maxRecDepth 100000 in
theorem Qs1 {c : CV} (h : ArgTy Tryz.prog 26 c) : ∃ (bn : Bool) (l : List Fl), c = .list bn (l.map flE) ∧ ArgL l ∧ ∀ f ∈ l, ∀ x ∈ f.legs, Qpn x := by
 obtain ⟨bn, xs, rfl, _, l1, hxs⟩ := ArgTy.slice Tryz.underlying26 h
 obtain ⟨l, rfl, hl⟩ := Qe7 (enc := flE) (fun x hx => Qy6 (n := 2) x hx) hxs
 have b1 : Tryz.prog.bytesOf 42 = 72 := by kernel_rfl
 rw [b1, List.length_map] at l1
 exact ⟨bn, l, rfl, ⟨Qf0 l1 (by decide), fun f h => (hl f h).1⟩, fun f h => (hl f h).2⟩
set_option maxRecDepth 100000 in
theorem QyY {c : CV} (h : ArgTy Tryz.prog 26 c) : ∃ (bn : Bool) (l : List Fl), c = .list bn (l.map flE) ∧ ArgL l :=
 (Qs1 h).elim fun bn h => h.elim fun l h => ⟨bn, l, h.1, h.2.1⟩
def MinR (r : Rv) : Prop := -9223372036854775808 ≤ r.min ∧ r.min ≤ 9223372036854775807
def NumR (r : Rv) : Prop := r.eq.length ≤ 281474976710656 ∧ ∀ x ∈ r.legs, Qpn x
set_option maxRecDepth 100000 in
theorem Qwe {n : Nat} {l : List CV} (hs : TyF (Ty Tryz.prog (n + 4)) [3, 9, 3, 28, 3, 9, 29] l) : ∃ r : Rv, l = rvE r ∧ ((ArgR r ∧ NumR r) ∧ MinR r) := by
 obtain ⟨p1, r1, rfl, h1, hr⟩ := QaA hs
 obtain ⟨p2, r2, rfl, h2, hr⟩ := QaA hr
 obtain ⟨p3, r3, rfl, h3, hr⟩ := QaA hr
 obtain ⟨p4, r4, rfl, h4, hr⟩ := QaA hr
 obtain ⟨p5, r5, rfl, h5, hr⟩ := QaA hr
 obtain ⟨p6, r6, rfl, h6, hr⟩ := QaA hr
 obtain ⟨p7, r7, rfl, h7, hr⟩ := QaA hr
 obtain rfl := QdC hr
 obtain ⟨kind, rfl, _⟩ := Ty.int Tryz.underlying3 h1
 obtain ⟨car, rfl, hcar⟩ := Ty.str Tryz.underlying9 h2
 obtain ⟨num, rfl, _⟩ := Ty.int Tryz.underlying3 h3
 obtain ⟨q1, s1, rfl, g1, gr⟩ := QaA (Ty.struct (ts := [3, 3, 3]) Tryz.underlying28 rfl h4)
 obtain ⟨q2, s2, rfl, g2, gr⟩ := QaA gr
 obtain ⟨q3, s3, rfl, g3, gr⟩ := QaA gr
 obtain rfl := QdC gr
 obtain ⟨fr, rfl, _⟩ := Ty.int Tryz.underlying3 g1
 obtain ⟨tq, rfl, _⟩ := Ty.int Tryz.underlying3 g2
 obtain ⟨days, rfl, _⟩ := Ty.int Tryz.underlying3 g3
 obtain ⟨mn, rfl, hmn⟩ := Ty.int Tryz.underlying3 h5
 obtain ⟨eq, rfl, heq⟩ := Ty.str Tryz.underlying9 h6
 obtain ⟨ln, xs, rfl, hn, l1, hxs⟩ := Ty.slice Tryz.underlying29 h7
 obtain ⟨legs, rfl, hl⟩ := Qe7 (enc := lgcv) (fun x hx => Qvu (n := n + 1) x hx) hxs
 have b1 : Tryz.prog.bytesOf 94 = 64 := by kernel_rfl
 rw [b1, List.length_map] at l1
 exact ⟨⟨kind, car, num, fr, tq, days, mn, eq, ln, legs⟩, rfl, ⟨⟨Nat.le_trans hcar QfZ, Qf0 l1 (by decide), fun x h => (hl x h).1, fun h => Qul (hn h)⟩, Nat.le_trans heq QfZ, fun x h => (hl x h).2⟩, hmn⟩
set_option maxRecDepth 100000 in
theorem QlZ {c : CV} (h : ArgTy Tryz.prog 31 c) : ∃ r : Rv, c = rvcv r ∧ ((ArgR r ∧ NumR r) ∧ MinR r) := by
 obtain ⟨l, rfl, hs⟩ := ArgTy.struct (ts := [3, 9, 3, 28, 3, 9, 29]) Tryz.underlying31 rfl h
 obtain ⟨r, rfl, hr⟩ := Qwe (n := 3) hs
 exact ⟨r, rfl, hr⟩
set_option maxRecDepth 100000 in
theorem QyH {c : CV} (h : ArgTy Tryz.prog 31 c) : ∃ r : Rv, c = rvcv r ∧ (ArgR r ∧ NumR r) :=
 (QlZ h).elim fun r h => ⟨r, h.1, h.2.1⟩
set_option maxRecDepth 100000 in
theorem Qza {n : Nat} (x : List CV) (h : Ty Tryz.prog (n + 5) 31 x) : ∃ r : Rv, x = rvE r ∧ (ArgR r ∧ NumR r) :=
 (Qwe (n := n) (Ty.struct (ts := [3, 9, 3, 28, 3, 9, 29]) Tryz.underlying31 rfl h)).elim fun r h => ⟨r, h.1, h.2.1⟩
set_option maxRecDepth 100000 in
theorem Qyz {c : CV} (h : ArgTy Tryz.prog 54 c) : ∃ (bn : Bool) (l : List Rv), c = .list bn (l.map rvE) ∧ (l.length ≤ 281474976710656 ∧ ∀ r ∈ l, ArgR r ∧ NumR r) := by
 obtain ⟨bn, xs, rfl, _, l1, hxs⟩ := ArgTy.slice Tryz.underlying54 h
 obtain ⟨l, rfl, hl⟩ := Qe7 (enc := rvE) (fun x hx => Qza (n := 2) x hx) hxs
 have b1 : Tryz.prog.bytesOf 31 = 104 := by kernel_rfl
 rw [b1, List.length_map] at l1
 exact ⟨bn, l, rfl, Qf0 l1 (by decide), hl⟩
end Go.Proofs.YtdcpdknginpohaaGreatDoor
