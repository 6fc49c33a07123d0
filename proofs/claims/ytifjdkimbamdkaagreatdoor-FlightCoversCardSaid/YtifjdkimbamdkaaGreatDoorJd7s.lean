/- Arguments of chapter 7, opened: segments. Conditions: none. -/
import Derived.Test.YtifjdkimbamdkaaGreatDoorJd07
import Derived.Test.YtifjdkimbamdkaaGreatDoorKj
namespace Go.Proofs.YtifjdkimbamdkaaGreatDoor
open Go.ChangeShapes Go.WideShapes Go.ChangeAt Go.RowKit Go.Am
set_option maxRecDepth 100000 in
theorem seg_arg {c : CV} (h : ArgTy Tryz.prog 47 c) : ∃ s : Sg, c = .agg (sgcv s) := by
  obtain ⟨l, rfl, hs⟩ := ArgTy.struct (ts := [9, 3, 3, 9, 9, 3, 3]) Tryz.underlying47 rfl h
  obtain ⟨p1, r1, rfl, h1, hr⟩ := tyF_cons hs
  obtain ⟨p2, r2, rfl, h2, hr⟩ := tyF_cons hr
  obtain ⟨p3, r3, rfl, h3, hr⟩ := tyF_cons hr
  obtain ⟨p4, r4, rfl, h4, hr⟩ := tyF_cons hr
  obtain ⟨p5, r5, rfl, h5, hr⟩ := tyF_cons hr
  obtain ⟨p6, r6, rfl, h6, hr⟩ := tyF_cons hr
  obtain ⟨p7, r7, rfl, h7, hr⟩ := tyF_cons hr
  obtain rfl := tyF_nil hr
  obtain ⟨a, rfl, _⟩ := Ty.str Tryz.underlying9 h1
  obtain ⟨b, rfl, _⟩ := Ty.int Tryz.underlying3 h2
  obtain ⟨c, rfl, _⟩ := Ty.int Tryz.underlying3 h3
  obtain ⟨d, rfl, _⟩ := Ty.str Tryz.underlying9 h4
  obtain ⟨e, rfl, _⟩ := Ty.str Tryz.underlying9 h5
  obtain ⟨g, rfl, _⟩ := Ty.int Tryz.underlying3 h6
  obtain ⟨i, rfl, _⟩ := Ty.int Tryz.underlying3 h7
  exact ⟨⟨a, b, c, d, e, g, i⟩, rfl⟩
end Go.Proofs.YtifjdkimbamdkaaGreatDoor
