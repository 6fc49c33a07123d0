/- Arguments of chapter 21, opened: rules. Conditions: none. -/
import Derived.Test.YtmefepdgnkhagaaGreatDoorJd20
import Derived.Test.YtmefepdgnkhagaaGreatDoorMA
namespace Go.Proofs.YtmefepdgnkhagaaGreatDoor
open Go.ChangeShapes Go.WideShapes Go.ChangeAt Go.RowKit Go.Am
set_option maxRecDepth 100000 in
theorem pc_ty {n : Nat} (x : List CV) (h : Ty Tryz.prog n 63 x) : ∃ p : List UInt8 × Int, x = [CV.str p.1, CV.int .i64 p.2] ∧ p.1.length ≤ 281474976710656 := by
  obtain ⟨m, _, h⟩ := any_struct (ts := [9, 3]) Tryz.underlying63 rfl h
  obtain ⟨p1, r1, rfl, h1, hr⟩ := tyF_cons h
  obtain ⟨p2, r2, rfl, h2, hr⟩ := tyF_cons hr
  obtain rfl := tyF_nil hr
  obtain ⟨s, rfl, hs⟩ := any_str Tryz.underlying9 h1
  obtain ⟨z, rfl⟩ := any_int Tryz.underlying3 h2
  exact ⟨(s, z), rfl, hs⟩
set_option maxRecDepth 100000 in
theorem ru_arg {c : CV} (h : ArgTyR Tryz.prog 31 c) : ∃ r : Ru, c = ruv r ∧ RFits r := by
  obtain ⟨n, l, rfl, h'⟩ := ArgTyR.agg (by unfold isAggT; rw [Tryz.underlying31]) h
  obtain ⟨m, _, h⟩ := any_struct (ts := [3, 27, 28, 3, 3, 3, 3, 29]) Tryz.underlying31 rfl h'
  obtain ⟨p1, r1, rfl, h1, hr⟩ := tyF_cons h
  obtain ⟨p2, r2, rfl, h2, hr⟩ := tyF_cons hr
  obtain ⟨p3, r3, rfl, h3, hr⟩ := tyF_cons hr
  obtain ⟨p4, r4, rfl, h4, hr⟩ := tyF_cons hr
  obtain ⟨p5, r5, rfl, h5, hr⟩ := tyF_cons hr
  obtain ⟨p6, r6, rfl, h6, hr⟩ := tyF_cons hr
  obtain ⟨p7, r7, rfl, h7, hr⟩ := tyF_cons hr
  obtain ⟨p8, r8, rfl, h8, hr⟩ := tyF_cons hr
  obtain rfl := tyF_nil hr
  obtain ⟨num, rfl⟩ := any_int Tryz.underlying3 h1
  obtain ⟨w, rfl, hw⟩ := cd_ty _ _ h2
  obtain ⟨cn, com, rfl, hc⟩ := any_ints Tryz.underlying28 Tryz.underlying3 (of_decide_eq_true (by kernel_rfl)) h3
  obtain ⟨mn, rfl⟩ := any_int Tryz.underlying3 h4
  obtain ⟨mx, rfl⟩ := any_int Tryz.underlying3 h5
  obtain ⟨cf, rfl⟩ := any_int Tryz.underlying3 h6
  obtain ⟨rf, rfl⟩ := any_int Tryz.underlying3 h7
  obtain ⟨q, _, pn, xs, rfl, hlen, hxs⟩ := any_slice Tryz.underlying29 (of_decide_eq_true (by kernel_rfl)) h8
  obtain ⟨pc, rfl, hp⟩ := listR_gen (enc := fun p : List UInt8 × Int => [CV.str p.1, CV.int .i64 p.2]) (fun x hx => pc_ty x hx) hxs
  rw [List.length_map] at hlen
  refine ⟨⟨num, w, cn, com, mn, mx, cf, rf, pn, pc⟩, ?_, hw, hc, hlen, hp⟩
  rw [ccv_eq]
  rfl
set_option maxRecDepth 100000 in
theorem int_arg {c : CV} (h : ArgTyR Tryz.prog 3 c) : ∃ z, c = .int .i64 z := by
  unfold ArgTyR at h
  rw [show isAggT Tryz.prog 3 = false by unfold isAggT; rw [Tryz.underlying3]] at h
  obtain ⟨n, h⟩ := h
  obtain ⟨z, e⟩ := any_int Tryz.underlying3 h
  exact ⟨z, by simpa using e⟩
set_option maxRecDepth 100000 in
theorem str_arg {c : CV} (h : ArgTyR Tryz.prog 9 c) : ∃ s, c = .str s ∧ s.length ≤ 281474976710656 := by
  unfold ArgTyR at h
  rw [show isAggT Tryz.prog 9 = false by unfold isAggT; rw [Tryz.underlying9]] at h
  obtain ⟨n, h⟩ := h
  obtain ⟨s, e, hs⟩ := any_str Tryz.underlying9 h
  exact ⟨s, by simpa using e, hs⟩
end Go.Proofs.YtmefepdgnkhagaaGreatDoor
