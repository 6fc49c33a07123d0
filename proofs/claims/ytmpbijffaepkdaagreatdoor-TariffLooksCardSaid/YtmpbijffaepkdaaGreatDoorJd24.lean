/- Arguments of chapter 24, opened: tariffs. Conditions: none. -/
import Derived.Test.YtmpbijffaepkdaaGreatDoorJc
import Derived.Test.YtmpbijffaepkdaaGreatDoorAmC
import Derived.Test.YtmpbijffaepkdaaGreatDoorYA
namespace Go.Proofs.YtmpbijffaepkdaaGreatDoor
open Go.ChangeShapes Go.WideShapes Go.ChangeAt Go.RowKit Go.Am
theorem QbL {α : Type} {P : Program} {n : Nat} {e : TypeId} {enc : α → List CV} {good : α → Prop} (h : ∀ x, Ty P n e x → ∃ a, x = enc a ∧ good a) {xs : List (List CV)} (hx : ∀ x ∈ xs, Ty P n e x) : ∃ l : List α, xs = l.map enc ∧ ∀ a ∈ l, good a := by
 induction xs with
 | nil => exact ⟨[], rfl, fun _ h => by cases h⟩
 | cons x xs ih =>
  obtain ⟨l, rfl, hl⟩ := ih fun y hy => hx y (List.mem_cons_of_mem _ hy)
  obtain ⟨a, rfl, ha⟩ := h x (hx x (List.mem_cons_self ..))
  refine ⟨a :: l, rfl, fun w hw => ?_⟩
  rcases List.mem_cons.1 hw with rfl | hw
  ·exact ha
  ·exact hl w hw
theorem QlO {n b : Nat} (h : n * b ≤ reachBytes) (hb : 1 ≤ b) : n ≤ 281474976710656 := by
 have := Qkq
 have : n * 1 ≤ n * b := Nat.mul_le_mul (Nat.le_refl _) hb
 omega
section
variable {P : Program} {n : Nat} {t e : TypeId} {l : List CV} {c : CV}
theorem QaM {k : IntKind} (hu : P.underlying t = some (.int k)) (h : Ty P n t l) : ∃ z, l = [.int k z] := by
 cases n with
 | zero => exact h.elim
 | succ n => exact (Ty.int hu h).imp fun _ h => h.1
theorem QbY (hu : P.underlying t = some .string) (h : Ty P n t l) : ∃ s : List UInt8, l = [.str s] ∧ s.length ≤ 281474976710656 := by
 cases n with
 | zero => exact h.elim
 | succ n => exact (Ty.str hu h).imp fun _ h => ⟨h.1, Nat.le_trans h.2 Qkq⟩
theorem Qbz {fs : Array Field} {ts : List TypeId} (hu : P.underlying t = some (.struct fs)) (hts : fs.toList.map (·.type) = ts) (h : Ty P n t l) : ∃ m, m < n ∧ TyF (Ty P m) ts l := by
 cases n with
 | zero => exact h.elim
 | succ n => exact ⟨n, Nat.lt_succ_self n, Ty.struct hu hts h⟩
theorem QbO (hu : P.underlying t = some (.slice e)) (hb : 1 ≤ P.bytesOf e) (h : Ty P n t l) : ∃ m, m < n ∧ ∃ nl xs, l = [.list nl xs] ∧ xs.length ≤ 281474976710656 ∧ ∀ x ∈ xs, Ty P m e x := by
 cases n with
 | zero => exact h.elim
 | succ n =>
  obtain ⟨nl, xs, h1, _, h2, h3⟩ := Ty.slice hu h
  exact ⟨n, Nat.lt_succ_self n, nl, xs, h1, QlO h2 hb, h3⟩
theorem QjK (hu : P.underlying t = some (.slice e)) (he : P.underlying e = some .string) (hb : 1 ≤ P.bytesOf e) (h : Ty P n t l) : ∃ nl xs, l = [.list nl (scv xs)] ∧ xs.length ≤ 281474976710656 ∧ ∀ s ∈ xs, s.length ≤ 281474976710656 := by
 obtain ⟨m, _, nl, xs, rfl, h1, h2⟩ := QbO hu hb h
 obtain ⟨l, rfl, hl⟩ := QbL (enc := fun s : List UInt8 => [CV.str s]) (fun x hx => QbY he hx) h2
 rw [List.length_map] at h1
 exact ⟨nl, l, rfl, h1, hl⟩
theorem Qmk {k : IntKind} (hu : P.underlying t = some (.slice e)) (he : P.underlying e = some (.int k)) (hb : 1 ≤ P.bytesOf e) (h : Ty P n t l) : ∃ nl, ∃ xs : List Int, l = [.list nl (xs.map fun z => [CV.int k z])] ∧ xs.length ≤ 281474976710656 := by
 obtain ⟨m, _, nl, xs, rfl, h1, h2⟩ := QbO hu hb h
 obtain ⟨l, rfl, hl⟩ := QbL (enc := fun s : Int => [CV.int k s]) (good := fun _ => True) (fun x hx => (QaM he hx).imp fun _ h => ⟨h, trivial⟩) h2
 rw [List.length_map] at h1
 exact ⟨nl, l, rfl, h1⟩
theorem ArgTyR.agg (ha : Qaq P t = true) (h : ArgTyR P t c) : ∃ n l, c = .agg l ∧ Ty P n t l := by
 unfold ArgTyR at h
 rw [ha] at h
 exact h
end
set_option maxRecDepth 100000 in
theorem Qn7 : ∀ (n : Nat) (x : List CV), Ty Tryz.prog n 38 x → ∃ c : Cd, x = ccv c ∧ Fits c := by
 intro n
 induction n using Nat.strongRecOn with
 | _ n ih =>
  intro x h
  obtain ⟨m, hm, h⟩ := Qbz (ts := [3, 33, 3, 3, 35, 36]) Tryz.underlying38 rfl h
  obtain ⟨p1, r1, rfl, h1, hr⟩ := Qaj h
  obtain ⟨p2, r2, rfl, h2, hr⟩ := Qaj hr
  obtain ⟨p3, r3, rfl, h3, hr⟩ := Qaj hr
  obtain ⟨p4, r4, rfl, h4, hr⟩ := Qaj hr
  obtain ⟨p5, r5, rfl, h5, hr⟩ := Qaj hr
  obtain ⟨p6, r6, rfl, h6, hr⟩ := Qaj hr
  obtain rfl := Qcx hr
  obtain ⟨k, rfl⟩ := QaM Tryz.underlying3 h1
  obtain ⟨q, hq, ln, xs, rfl, hlen, hxs⟩ := QbO Tryz.underlying33 (of_decide_eq_true (by kernel_rfl)) h2
  obtain ⟨l, rfl, hl⟩ := QbL (enc := ccv) (good := Fits) (fun x hx => ih q (by omega) x hx) hxs
  obtain ⟨a, rfl⟩ := QaM Tryz.underlying3 h3
  obtain ⟨b, rfl⟩ := QaM Tryz.underlying3 h4
  obtain ⟨m2, _, h5⟩ := Qbz (ts := [3, 3, 3]) Tryz.underlying35 rfl h5
  obtain ⟨q1, s1, rfl, g1, gr⟩ := Qaj h5
  obtain ⟨q2, s2, rfl, g2, gr⟩ := Qaj gr
  obtain ⟨q3, s3, rfl, g3, gr⟩ := Qaj gr
  obtain rfl := Qcx gr
  obtain ⟨fr, rfl⟩ := QaM Tryz.underlying3 g1
  obtain ⟨tt, rfl⟩ := QaM Tryz.underlying3 g2
  obtain ⟨days, rfl⟩ := QaM Tryz.underlying3 g3
  obtain ⟨tn, tx, rfl, ht, hs⟩ := QjK Tryz.underlying36 Tryz.underlying9 (of_decide_eq_true (by kernel_rfl)) h6
  rw [List.length_map] at hlen
  refine ⟨.mk k ln l a b fr tt days tn tx, ?_, (QgJ _).2 ⟨hlen, hl, ht, hs⟩⟩
  rw [QjE]
  rfl
theorem QmH {P : Program} {n : Nat} {t : TypeId} {l : List CV} (hu : P.underlying t = some .bool) (h : Ty P n t l) : ∃ z, l = [.bool z] := by
 cases n with
 | zero => exact h.elim
 | succ n => exact Ty.bool hu h
set_option maxRecDepth 100000 in
theorem Qn5 {n : Nat} (x : List CV) (h : Ty Tryz.prog n 72 x) : ∃ f : Fr, x = frc f ∧ True := by
 obtain ⟨m, _, h⟩ := Qbz (ts := [9, 9, 9, 9, 9, 4, 3, 3, 3]) Tryz.underlying72 rfl h
 obtain ⟨p1, r1, rfl, h1, hr⟩ := Qaj h
 obtain ⟨p2, r2, rfl, h2, hr⟩ := Qaj hr
 obtain ⟨p3, r3, rfl, h3, hr⟩ := Qaj hr
 obtain ⟨p4, r4, rfl, h4, hr⟩ := Qaj hr
 obtain ⟨p5, r5, rfl, h5, hr⟩ := Qaj hr
 obtain ⟨p6, r6, rfl, h6, hr⟩ := Qaj hr
 obtain ⟨p7, r7, rfl, h7, hr⟩ := Qaj hr
 obtain ⟨p8, r8, rfl, h8, hr⟩ := Qaj hr
 obtain ⟨p9, r9, rfl, h9, hr⟩ := Qaj hr
 obtain rfl := Qcx hr
 obtain ⟨a, rfl, _⟩ := QbY Tryz.underlying9 h1
 obtain ⟨b, rfl, _⟩ := QbY Tryz.underlying9 h2
 obtain ⟨c, rfl, _⟩ := QbY Tryz.underlying9 h3
 obtain ⟨d, rfl, _⟩ := QbY Tryz.underlying9 h4
 obtain ⟨e, rfl, _⟩ := QbY Tryz.underlying9 h5
 obtain ⟨f, rfl⟩ := QmH Tryz.underlying4 h6
 obtain ⟨g, rfl⟩ := QaM Tryz.underlying3 h7
 obtain ⟨i, rfl⟩ := QaM Tryz.underlying3 h8
 obtain ⟨j, rfl⟩ := QaM Tryz.underlying3 h9
 exact ⟨⟨a, b, c, d, e, f, g, i, j⟩, rfl, trivial⟩
set_option maxRecDepth 100000 in
theorem QnT {n : Nat} (x : List CV) (h : Ty Tryz.prog n 84 x) : ∃ p : List UInt8 × Int, x = [CV.str p.1, CV.int .i64 p.2] ∧ True := by
 obtain ⟨m, _, h⟩ := Qbz (ts := [9, 3]) Tryz.underlying84 rfl h
 obtain ⟨p1, r1, rfl, h1, hr⟩ := Qaj h
 obtain ⟨p2, r2, rfl, h2, hr⟩ := Qaj hr
 obtain rfl := Qcx hr
 obtain ⟨a, rfl, _⟩ := QbY Tryz.underlying9 h1
 obtain ⟨b, rfl⟩ := QaM Tryz.underlying3 h2
 exact ⟨(a, b), rfl, trivial⟩
set_option maxRecDepth 100000 in
theorem Qof {n : Nat} (x : List CV) (h : Ty Tryz.prog n 86 x) : ∃ p : List UInt8 × List UInt8, x = [CV.str p.1, CV.str p.2] ∧ True := by
 obtain ⟨m, _, h⟩ := Qbz (ts := [9, 9]) Tryz.underlying86 rfl h
 obtain ⟨p1, r1, rfl, h1, hr⟩ := Qaj h
 obtain ⟨p2, r2, rfl, h2, hr⟩ := Qaj hr
 obtain rfl := Qcx hr
 obtain ⟨a, rfl, _⟩ := QbY Tryz.underlying9 h1
 obtain ⟨b, rfl, _⟩ := QbY Tryz.underlying9 h2
 exact ⟨(a, b), rfl, trivial⟩
set_option maxRecDepth 100000 in
theorem Qob {n : Nat} (x : List CV) (h : Ty Tryz.prog n 41 x) : ∃ r : Ru, x = ruc r ∧ Qia r := by
 obtain ⟨m, _, h⟩ := Qbz (ts := [3, 38, 29, 3, 3, 3, 3, 39]) Tryz.underlying41 rfl h
 obtain ⟨p1, r1, rfl, h1, hr⟩ := Qaj h
 obtain ⟨p2, r2, rfl, h2, hr⟩ := Qaj hr
 obtain ⟨p3, r3, rfl, h3, hr⟩ := Qaj hr
 obtain ⟨p4, r4, rfl, h4, hr⟩ := Qaj hr
 obtain ⟨p5, r5, rfl, h5, hr⟩ := Qaj hr
 obtain ⟨p6, r6, rfl, h6, hr⟩ := Qaj hr
 obtain ⟨p7, r7, rfl, h7, hr⟩ := Qaj hr
 obtain ⟨p8, r8, rfl, h8, hr⟩ := Qaj hr
 obtain rfl := Qcx hr
 obtain ⟨num, rfl⟩ := QaM Tryz.underlying3 h1
 obtain ⟨w, rfl, hw⟩ := Qn7 _ _ h2
 obtain ⟨cn, com, rfl, hc⟩ := Qmk Tryz.underlying29 Tryz.underlying3 (of_decide_eq_true (by kernel_rfl)) h3
 obtain ⟨mn, rfl⟩ := QaM Tryz.underlying3 h4
 obtain ⟨mx, rfl⟩ := QaM Tryz.underlying3 h5
 obtain ⟨cf, rfl⟩ := QaM Tryz.underlying3 h6
 obtain ⟨rf, rfl⟩ := QaM Tryz.underlying3 h7
 obtain ⟨q, _, pn, xs, rfl, hlen, hxs⟩ := QbO Tryz.underlying39 (of_decide_eq_true (by kernel_rfl)) h8
 obtain ⟨pc, rfl, hp⟩ := QbL (enc := fun p : List UInt8 × Int => [CV.str p.1, CV.int .i64 p.2]) (good := fun _ => True) (fun x hx => QnT x hx) hxs
 rw [List.length_map] at hlen
 refine ⟨⟨num, w, cn, com, mn, mx, cf, rf, pn, pc⟩, ?_, hw, hc, hlen⟩
 rw [QjE]
 rfl
set_option maxRecDepth 100000 in
theorem QnX {n : Nat} (x : List CV) (h : Ty Tryz.prog n 46 x) : ∃ g : Rg, x = rgc g ∧ g.links.length ≤ 281474976710656 := by
 obtain ⟨m, _, h⟩ := Qbz (ts := [3, 44, 3]) Tryz.underlying46 rfl h
 obtain ⟨p1, r1, rfl, h1, hr⟩ := Qaj h
 obtain ⟨p2, r2, rfl, h2, hr⟩ := Qaj hr
 obtain ⟨p3, r3, rfl, h3, hr⟩ := Qaj hr
 obtain rfl := Qcx hr
 obtain ⟨num, rfl⟩ := QaM Tryz.underlying3 h1
 obtain ⟨q, _, ln, xs, rfl, hlen, hxs⟩ := QbO Tryz.underlying44 (of_decide_eq_true (by kernel_rfl)) h2
 obtain ⟨mi, rfl⟩ := QaM Tryz.underlying3 h3
 obtain ⟨lk, rfl, hp⟩ := QbL (enc := fun p : List UInt8 × List UInt8 => [CV.str p.1, CV.str p.2]) (good := fun _ => True) (fun x hx => Qof x hx) hxs
 rw [List.length_map] at hlen
 exact ⟨⟨num, ln, lk, mi⟩, rfl, hlen⟩
set_option maxRecDepth 100000 in
theorem Qn0 {n : Nat} (x : List CV) (h : Ty Tryz.prog n 81 x) : ∃ t : Tx, x = txc t ∧ t.free.length ≤ 281474976710656 := by
 obtain ⟨m, _, h⟩ := Qbz (ts := [9, 3, 9, 3, 3, 3, 36]) Tryz.underlying81 rfl h
 obtain ⟨p1, r1, rfl, h1, hr⟩ := Qaj h
 obtain ⟨p2, r2, rfl, h2, hr⟩ := Qaj hr
 obtain ⟨p3, r3, rfl, h3, hr⟩ := Qaj hr
 obtain ⟨p4, r4, rfl, h4, hr⟩ := Qaj hr
 obtain ⟨p5, r5, rfl, h5, hr⟩ := Qaj hr
 obtain ⟨p6, r6, rfl, h6, hr⟩ := Qaj hr
 obtain ⟨p7, r7, rfl, h7, hr⟩ := Qaj hr
 obtain rfl := Qcx hr
 obtain ⟨a, rfl, _⟩ := QbY Tryz.underlying9 h1
 obtain ⟨b, rfl⟩ := QaM Tryz.underlying3 h2
 obtain ⟨c, rfl, _⟩ := QbY Tryz.underlying9 h3
 obtain ⟨d, rfl⟩ := QaM Tryz.underlying3 h4
 obtain ⟨e, rfl⟩ := QaM Tryz.underlying3 h5
 obtain ⟨f, rfl⟩ := QaM Tryz.underlying3 h6
 obtain ⟨fn, tt, rfl, ht, _⟩ := QjK Tryz.underlying36 Tryz.underlying9 (of_decide_eq_true (by kernel_rfl)) h7
 exact ⟨⟨a, b, c, d, e, f, fn, tt⟩, rfl, ht⟩
set_option maxRecDepth 100000 in
theorem QnI {c : CV} (h : ArgTyR Tryz.prog 27 c) : ∃ t : Tf, c = tfv t ∧ TFits t := by
 obtain ⟨n, l, rfl, h'⟩ := ArgTyR.agg (by unfold Qaq; rw [Tryz.underlying27]) h
 obtain ⟨m, _, h⟩ := Qbz (ts := [22, 23, 24, 25]) Tryz.underlying27 rfl h'
 obtain ⟨p1, r1, rfl, h1, hr⟩ := Qaj h
 obtain ⟨p2, r2, rfl, h2, hr⟩ := Qaj hr
 obtain ⟨p3, r3, rfl, h3, hr⟩ := Qaj hr
 obtain ⟨p4, r4, rfl, h4, hr⟩ := Qaj hr
 obtain rfl := Qcx hr
 obtain ⟨q1, _, fn, z1, rfl, l1, hx1⟩ := QbO Tryz.underlying22 (of_decide_eq_true (by kernel_rfl)) h1
 obtain ⟨fs, rfl, g1⟩ := QbL (enc := frc) (good := fun _ => True) (fun x hx => Qn5 x hx) hx1
 rw [List.length_map] at l1
 obtain ⟨q2, _, rn, z2, rfl, l2, hx2⟩ := QbO Tryz.underlying23 (of_decide_eq_true (by kernel_rfl)) h2
 obtain ⟨rs, rfl, g2⟩ := QbL (enc := ruc) (good := Qia) (fun x hx => Qob x hx) hx2
 rw [List.length_map] at l2
 obtain ⟨q3, _, gn, z3, rfl, l3, hx3⟩ := QbO Tryz.underlying24 (of_decide_eq_true (by kernel_rfl)) h3
 obtain ⟨gs, rfl, g3⟩ := QbL (enc := rgc) (good := fun g => g.links.length ≤ 281474976710656) (fun x hx => QnX x hx) hx3
 rw [List.length_map] at l3
 obtain ⟨q4, _, xn, z4, rfl, l4, hx4⟩ := QbO Tryz.underlying25 (of_decide_eq_true (by kernel_rfl)) h4
 obtain ⟨xs, rfl, g4⟩ := QbL (enc := txc) (good := fun t => t.free.length ≤ 281474976710656) (fun x hx => Qn0 x hx) hx4
 rw [List.length_map] at l4
 exact ⟨⟨fn, fs, rn, rs, gn, gs, xn, xs⟩, rfl, ⟨l1, l2, l3, l4, g2, g3, g4⟩⟩
set_option maxRecDepth 100000 in
theorem QnC {c : CV} (h : ArgTyR Tryz.prog 3 c) : ∃ z, c = .int .i64 z := by
 unfold ArgTyR at h
 rw [show Qaq Tryz.prog 3 = false by unfold Qaq; rw [Tryz.underlying3]] at h
 obtain ⟨n, h⟩ := h
 obtain ⟨z, e⟩ := QaM Tryz.underlying3 h
 exact ⟨z, by simpa using e⟩
end Go.Proofs.YtmpbijffaepkdaaGreatDoor
