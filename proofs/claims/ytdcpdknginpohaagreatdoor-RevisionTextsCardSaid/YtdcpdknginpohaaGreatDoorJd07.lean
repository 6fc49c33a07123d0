/- Arguments of chapter 7, opened: places and flights. Conditions: none. -/
import Derived.Test.YtdcpdknginpohaaGreatDoorJc
import Derived.Test.YtdcpdknginpohaaGreatDoorKC
namespace Go.Proofs.YtdcpdknginpohaaGreatDoor
open Go.ChangeShapes Go.WideShapes Go.ChangeAt Go.RowKit Go.Am
theorem Qe7 {α : Type} {P : Program} {n : Nat} {e : TypeId} {enc : α → List CV} {good : α → Prop} (h : ∀ x, Ty P n e x → ∃ a, x = enc a ∧ good a) {xs : List (List CV)} (hx : ∀ x ∈ xs, Ty P n e x) : ∃ l : List α, xs = l.map enc ∧ ∀ a ∈ l, good a := by
 induction xs with
 | nil => exact ⟨[], rfl, fun _ h => by cases h⟩
 | cons x xs ih =>
  obtain ⟨l, rfl, hl⟩ := ih fun y hy => hx y (List.mem_cons_of_mem _ hy)
  obtain ⟨a, rfl, ha⟩ := h x (hx x (List.mem_cons_self ..))
  refine ⟨a :: l, rfl, fun w hw => ?_⟩
  rcases List.mem_cons.1 hw with rfl | hw
  ·exact ha
  ·exact hl w hw
theorem Qf0 {n b : Nat} (h : n * b ≤ reachBytes) (hb : 1 ≤ b) : n ≤ 281474976710656 := by
 have := QfZ
 have : n * 1 ≤ n * b := Nat.mul_le_mul (Nat.le_refl _) hb
 omega
set_option maxRecDepth 100000 in
theorem Qzc {n : Nat} (x : List CV) (h : Ty Tryz.prog (n + 2) 195 x) : ∃ s : Sh, x = shcv s ∧ (-9223372036854775808 ≤ s.1 ∧ s.1 ≤ 9223372036854775807 ∧ -9223372036854775808 ≤ s.2 ∧ s.2 ≤ 9223372036854775807) := by
 obtain ⟨p1, r1, rfl, h1, hr⟩ := QaA (Ty.struct (ts := [3, 3]) Tryz.underlying195 rfl h)
 obtain ⟨p2, r2, rfl, h2, hr⟩ := QaA hr
 obtain rfl := QdC hr
 obtain ⟨a, rfl, ha⟩ := Ty.int Tryz.underlying3 h1
 obtain ⟨b, rfl, hb⟩ := Ty.int Tryz.underlying3 h2
 exact ⟨(a, b), rfl, ha.1, ha.2, hb.1, hb.2⟩
def QxO (a : Ap) : Prop := (-9223372036854775808 ≤ a.off ∧ a.off ≤ 9223372036854775807) ∧ ∀ s ∈ a.sh, (-9223372036854775808 ≤ s.1 ∧ s.1 ≤ 9223372036854775807 ∧ -9223372036854775808 ≤ s.2 ∧ s.2 ≤ 9223372036854775807)
set_option maxRecDepth 100000 in
theorem Qy5 {n : Nat} (x : List CV) (h : Ty Tryz.prog (n + 5) 98 x) : ∃ a : Ap, x = apcv a ∧ ((a.code.length ≤ 281474976710656 ∧ a.city.length ≤ 281474976710656 ∧ a.ctry.length ≤ 281474976710656) ∧ QxO a) := by
 obtain ⟨p1, r1, rfl, h1, hr⟩ := QaA (Ty.struct (ts := [9, 9, 9, 80]) Tryz.underlying98 rfl h)
 obtain ⟨p2, r2, rfl, h2, hr⟩ := QaA hr
 obtain ⟨p3, r3, rfl, h3, hr⟩ := QaA hr
 obtain ⟨p4, r4, rfl, h4, hr⟩ := QaA hr
 obtain rfl := QdC hr
 obtain ⟨a, rfl, ha⟩ := Ty.str Tryz.underlying9 h1
 obtain ⟨b, rfl, hb⟩ := Ty.str Tryz.underlying9 h2
 obtain ⟨c, rfl, hc⟩ := Ty.str Tryz.underlying9 h3
 obtain ⟨q1, s1, rfl, g1, gr⟩ := QaA (Ty.struct (ts := [3, 78]) Tryz.underlying80 rfl h4)
 obtain ⟨q2, s2, rfl, g2, gr⟩ := QaA gr
 obtain rfl := QdC gr
 obtain ⟨o, rfl, ho⟩ := Ty.int Tryz.underlying3 g1
 obtain ⟨sn, xs, rfl, _, _, hxs⟩ := Ty.slice Tryz.underlying78 g2
 obtain ⟨sh, rfl, hsh⟩ := Qe7 (enc := shcv) (fun x hx => Qzc x hx) hxs
 have r := QfZ
 exact ⟨⟨a, b, c, o, sn, sh⟩, rfl, ⟨Nat.le_trans ha r, Nat.le_trans hb r, Nat.le_trans hc r⟩, ho, hsh⟩
set_option maxRecDepth 100000 in
theorem Qzb {n : Nat} (x : List CV) (h : Ty Tryz.prog (n + 2) 192 x) : ∃ d : Di, x = dicv d ∧ True := by
 obtain ⟨p1, r1, rfl, h1, hr⟩ := QaA (Ty.struct (ts := [9, 9, 3]) Tryz.underlying192 rfl h)
 obtain ⟨p2, r2, rfl, h2, hr⟩ := QaA hr
 obtain ⟨p3, r3, rfl, h3, hr⟩ := QaA hr
 obtain rfl := QdC hr
 obtain ⟨a, rfl, ha⟩ := Ty.str Tryz.underlying9 h1
 obtain ⟨b, rfl, hb⟩ := Ty.str Tryz.underlying9 h2
 obtain ⟨c, rfl, hc⟩ := Ty.int Tryz.underlying3 h3
 exact ⟨⟨a, b, c⟩, rfl, trivial⟩
def Qy8 (p : Pc) : Prop := p.aps.length ≤ 281474976710656 ∧ p.dis.length ≤ 281474976710656 ∧ ∀ a ∈ p.aps, a.code.length ≤ 281474976710656 ∧ a.city.length ≤ 281474976710656 ∧ a.ctry.length ≤ 281474976710656
set_option maxRecDepth 100000 in
theorem Qzh {c : CV} (h : ArgTy Tryz.prog 25 c) : ∃ p : Pc, c = pcv p ∧ Qy8 p ∧ ∀ a ∈ p.aps, QxO a := by
 obtain ⟨l, rfl, hs⟩ := ArgTy.struct (ts := [22, 23]) Tryz.underlying25 rfl h
 obtain ⟨p1, r1, rfl, h1, hr⟩ := QaA hs
 obtain ⟨p2, r2, rfl, h2, hr⟩ := QaA hr
 obtain rfl := QdC hr
 obtain ⟨an, xs, rfl, _, l1, hxs⟩ := Ty.slice Tryz.underlying22 h1
 obtain ⟨dn, ys, rfl, _, l2, hys⟩ := Ty.slice Tryz.underlying23 h2
 obtain ⟨aps, rfl, ha⟩ := Qe7 (enc := apcv) (fun x hx => Qy5 (n := 1) x hx) hxs
 obtain ⟨dis, rfl, _⟩ := Qe7 (enc := dicv) (fun x hx => Qzb (n := 4) x hx) hys
 have b1 : Tryz.prog.bytesOf 98 = 80 := by kernel_rfl
 have b2 : Tryz.prog.bytesOf 192 = 40 := by kernel_rfl
 rw [b1, List.length_map] at l1
 rw [b2, List.length_map] at l2
 exact ⟨⟨an, aps, dn, dis⟩, rfl, ⟨Qf0 l1 (by decide), Qf0 l2 (by decide), fun a h => (ha a h).1⟩, fun a h => (ha a h).2⟩
def Qpn (x : Lg) : Prop := (-9223372036854775808 ≤ x.dep ∧ x.dep ≤ 9223372036854775807 ∧ -9223372036854775808 ≤ x.arr ∧ x.arr ≤ 9223372036854775807) ∧ x.eq.length ≤ 281474976710656
set_option maxRecDepth 100000 in
theorem Qvu {n : Nat} (x : List CV) (h : Ty Tryz.prog (n + 2) 94 x) : ∃ a : Lg, x = lgcv a ∧ (QcZ a ≤ 1000000000000000 ∧ Qpn a) := by
 obtain ⟨p1, r1, rfl, h1, hr⟩ := QaA (Ty.struct (ts := [9, 9, 3, 3, 9]) Tryz.underlying94 rfl h)
 obtain ⟨p2, r2, rfl, h2, hr⟩ := QaA hr
 obtain ⟨p3, r3, rfl, h3, hr⟩ := QaA hr
 obtain ⟨p4, r4, rfl, h4, hr⟩ := QaA hr
 obtain ⟨p5, r5, rfl, h5, hr⟩ := QaA hr
 obtain rfl := QdC hr
 obtain ⟨a, rfl, ha⟩ := Ty.str Tryz.underlying9 h1
 obtain ⟨b, rfl, hb⟩ := Ty.str Tryz.underlying9 h2
 obtain ⟨c, rfl, hc⟩ := Ty.int Tryz.underlying3 h3
 obtain ⟨d, rfl, hd⟩ := Ty.int Tryz.underlying3 h4
 obtain ⟨e, rfl, he⟩ := Ty.str Tryz.underlying9 h5
 have r := QfZ
 refine ⟨⟨a, b, c, d, e⟩, rfl, ?_, ⟨hc.1, hc.2, hd.1, hd.2⟩, Nat.le_trans he r⟩
 unfold QcZ
 simp only
 omega
def Qy1 (f : Fl) : Prop := f.car.length ≤ 281474976710656 ∧ f.legs.length ≤ 281474976710656 ∧ ∀ x ∈ f.legs, QcZ x ≤ 1000000000000000
set_option maxRecDepth 100000 in
theorem Qy3 {c : CV} (h : ArgTy Tryz.prog 42 c) : ∃ f : Fl, c = flcv f ∧ Qy1 f ∧ ∀ x ∈ f.legs, Qpn x := by
 obtain ⟨l, rfl, hs⟩ := ArgTy.struct (ts := [9, 3, 28, 29]) Tryz.underlying42 rfl h
 obtain ⟨p1, r1, rfl, h1, hr⟩ := QaA hs
 obtain ⟨p2, r2, rfl, h2, hr⟩ := QaA hr
 obtain ⟨p3, r3, rfl, h3, hr⟩ := QaA hr
 obtain ⟨p4, r4, rfl, h4, hr⟩ := QaA hr
 obtain rfl := QdC hr
 obtain ⟨car, rfl, hcar⟩ := Ty.str Tryz.underlying9 h1
 obtain ⟨num, rfl, _⟩ := Ty.int Tryz.underlying3 h2
 obtain ⟨q1, s1, rfl, g1, gr⟩ := QaA (Ty.struct (ts := [3, 3, 3]) Tryz.underlying28 rfl h3)
 obtain ⟨q2, s2, rfl, g2, gr⟩ := QaA gr
 obtain ⟨q3, s3, rfl, g3, gr⟩ := QaA gr
 obtain rfl := QdC gr
 obtain ⟨fr, rfl, _⟩ := Ty.int Tryz.underlying3 g1
 obtain ⟨tq, rfl, _⟩ := Ty.int Tryz.underlying3 g2
 obtain ⟨days, rfl, _⟩ := Ty.int Tryz.underlying3 g3
 obtain ⟨ln, xs, rfl, _, l1, hxs⟩ := Ty.slice Tryz.underlying29 h4
 obtain ⟨legs, rfl, hl⟩ := Qe7 (enc := lgcv) (fun x hx => Qvu (n := 4) x hx) hxs
 have b1 : Tryz.prog.bytesOf 94 = 64 := by kernel_rfl
 rw [b1, List.length_map] at l1
 exact ⟨⟨car, num, fr, tq, days, ln, legs⟩, rfl, ⟨Nat.le_trans hcar QfZ, Qf0 l1 (by decide), fun x h => (hl x h).1⟩, fun x h => (hl x h).2⟩
end Go.Proofs.YtdcpdknginpohaaGreatDoor
