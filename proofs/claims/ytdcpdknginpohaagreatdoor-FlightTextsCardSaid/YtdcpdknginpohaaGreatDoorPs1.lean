/- Chapter 7: the law FlightTexts on plain data. Conditions: as each says. -/
import Derived.Test.YtdcpdknginpohaaGreatDoorPB
import Derived.Test.YtdcpdknginpohaaGreatDoorPp1
import Derived.Test.YtdcpdknginpohaaGreatDoorKl
import Derived.Test.YtdcpdknginpohaaGreatDoorGr
import Derived.Test.YtdcpdknginpohaaGreatDoorCs
set_option linter.unusedVariables false
namespace Go.Proofs
open Go.Am
variable (lb : Nat)
/-- what comes behind the comparison of what is read -/
noncomputable def ftEnd (n : Nat) (car : Bs) (num fr tq days : Int) (ln : Bool) (lg : List (List CV)) (x17 x19 : CV) : Option CV :=
  optO (CV.asI .i64 x19) fun i69 =>
  bif (i69 != 0) then
  (optO (CV.asS x17) fun s70 =>
  bif (s70 == []) then
  (optO (C lb n F_l07_awake []) fun r71 =>
  some (r71))
  else
  (some (.bool false)))
  else
  (optO (C lb n F_flight_Parse [x17]) fun r72 =>
  optO (CV.asT r72) fun t73 =>
  optO (t73[0]?) fun x74 =>
  optO (CV.asT r72) fun t75 =>
  optO (t75[1]?) fun x76 =>
  optO (CV.asA x74) fun c77 =>
  chkO (c77.length == 6) (
  optO (c77[0]?) fun x78 =>
  optO (c77[1]?) fun x79 =>
  optO (c77[2]?) fun x80 =>
  optO (c77[3]?) fun x81 =>
  optO (c77[4]?) fun x82 =>
  optO (c77[5]?) fun x83 =>
  optO (C lb n F_r07_Same [.agg [x78, x79, x80, x81, x82, x83], .agg [.str car, .int .i64 num, .int .i64 fr, .int .i64 tq, .int .i64 days, .list ln lg]]) fun r84 =>
  optO (CV.asB r84) fun b85 =>
  bif b85 then
  (optO (CV.asI .i64 x76) fun i86 =>
  bif (i86 == 0) then
  (optO (C lb n F_l07_awake []) fun r87 =>
  some (r87))
  else
  (some (.bool false)))
  else
  (some (.bool false))))
theorem sameF_refl (f : Fl) : sameF f f = true := by
  unfold sameF
  simp [lgsB_refl]
theorem print_len {f : Fl} (h : wrE f = 0) : (joinB (wl f)).length ≤ 10000000 := by
  obtain ⟨w1, w2⟩ := wl_bounds h
  have := joinB_len (wl f)
  omega
def prA (f : Fl) : CV := if wrE f ≠ 0 then .str [] else .str (joinB (wl f))
theorem printF_prA (f : Fl) : printF f = .tup [prA f, .int .i64 (wrE f)] := by
  unfold printF prA
  by_cases h : wrE f ≠ 0
  · rw [if_pos h, if_pos h]
  · rw [if_neg h, if_neg h, Classical.byContradiction h]
theorem ftEnd_ok (f : Fl) (hf : f.legs.length ≤ 1000) : Evt fun n => ftEnd (lb + 1) n f.car f.num f.fr f.to f.days f.ln (f.legs.map lgcv) (prA f) (.int .i64 (wrE f)) = some (.bool true) := by
  have aw := awake07_ok (lb + 1)
  unfold prA
  by_cases h : wrE f ≠ 0
  · rw [if_pos h]
    exact aw.mono fun n a => stO _ (asI_i ..) (stT (bneT h) (stO _ rfl (stT rfl (stO _ a rfl))))
  rw [if_neg h]
  have h' := Classical.byContradiction h
  have e1 := flight_Parse_ret lb (joinB (wl f)) (print_len h')
  rw [flight_there h'] at e1
  have e2 := r07_Same_ret (lb + 1) (mkF f.car f.num f.fr f.to f.days f.legs) f hf hf
  rw [show sameF (mkF f.car f.num f.fr f.to f.days f.legs) f = sameF f f from rfl, sameF_refl] at e2
  exact Evt.imp2 aw (Evt.and e1 e2) fun n a ⟨b, c⟩ => stO _ (asI_i ..) (stF (bneF h') (stO _ b (stO _ rfl (stO _ rfl (stO _ rfl (stO _ rfl (stO _ rfl (stC rfl (stO _ rfl (stO _ rfl (stO _ rfl (stO _ rfl (stO _ rfl (stO _ rfl (stO _ c (stO _ rfl (stT rfl (stO _ rfl (stT rfl (stO _ a rfl))))))))))))))))))))
def fl0 : Fl := ⟨[], 0, 0, 0, 0, true, []⟩
theorem short_of {f : Fl} (h : bigB ⟨true, [], true, []⟩ f = false) : Short f ∧ f.legs.length ≤ 1000 := by
  obtain ⟨h1, h2, h3, _⟩ := bigB_false h
  exact ⟨⟨by omega, fun x hx => by have := h2 x hx; omega⟩, by omega⟩
theorem short_read {f : Fl} {s : Bs} (hs : s.length ≤ 400) (h : s = joinB (wl f)) (hw : wrE f = 0) : Short f ∧ f.legs.length ≤ 1000 := by
  obtain ⟨m1, m2⟩ := joinB_mem (l := wl f)
  rw [← h] at m1
  obtain ⟨_, _, _, _, _, h6, _⟩ := wrE_0 hw
  refine ⟨⟨by have := m1 f.car (by simp [wl]); omega, fun x hx => ?_⟩, by omega⟩
  have key : ∀ w ∈ legWords x, w.length ≤ s.length := fun w hw2 => m1 w (by
    unfold wl
    exact List.mem_append_right _ (List.mem_flatMap.2 ⟨x, hx, hw2⟩))
  have k1 := key x.fro (by simp [legWords])
  have k2 := key x.to (by simp [legWords])
  have k3 := key x.eq (by simp [legWords])
  omega
theorem flightTexts_ok (f : Fl) (s : Bs) (hf : ArgF f) (hs : s.length ≤ 281474976710656) : Ret (lb + 1) F_l07_FlightTexts [flcv f, .str s] (.bool true) := by
  refine .top rfl (.eq (fun n => by rw [l07_FlightTexts_eq]) ?_)
  have aw := awake07_ok (lb + 1)
  have e0 := big_ret (lb + 1) ⟨true, [], true, []⟩ f ⟨by simp, by simp, fun a h => by cases h⟩ hf
  cases hb : bigB ⟨true, [], true, []⟩ f with
  | true =>
    rw [hb] at e0
    exact Evt.imp2 aw e0 fun n a b => stO _ b (stO _ rfl (stT rfl (stO _ a rfl)))
  | false =>
    rw [hb] at e0
    by_cases hl : s.length > 400
    · exact Evt.imp2 aw e0 fun n a b => stO _ b (stO _ rfl (stF rfl (stT (decT (by omega)) (stO _ a rfl))))
    obtain ⟨sf, lf⟩ := short_of hb
    have p1 := flight_Print_ret (lb + 1) f sf
    have p2 := r07_Print_ret (lb + 1) f sf
    rw [printF_prA] at p1 p2
    have q1 := flight_Parse_ret lb s (by omega)
    have q2 := r07_Parse_ret (lb + 1) s (by omega)
    have en := ftEnd_ok lb f lf
    have hA : ∃ w, prA f = .str w := by unfold prA; split <;> exact ⟨_, rfl⟩
    obtain ⟨w, hw⟩ := hA
    rw [hw] at p1 p2 en
    rcases flight_back s with ⟨e, h1, h2⟩ | ⟨g, h1, h2, h3⟩
    · rw [h1] at q1 q2
      have sm := r07_Same_ret (lb + 1) fl0 fl0 (by decide) (by decide)
      rw [sameF_refl] at sm
      refine Evt.imp2 (Evt.and (Evt.and e0 en) (Evt.and p1 p2)) (Evt.and (Evt.and q1 q2) sm) fun n ⟨⟨a0, a1⟩, a2, a3⟩ ⟨⟨a4, a5⟩, a6⟩ => ?_
      refine stO _ a0 (stO _ rfl (stF rfl (stF (decF (by omega)) (stO _ a2 (stO _ rfl (stO _ rfl (stO _ rfl (stO _ rfl (stO _ a3 (stO _ rfl (stO _ rfl (stO _ rfl (stO _ rfl (stO _ a4 (stO _ rfl (stO _ rfl (stO _ rfl (stO _ rfl (stO _ rfl (stC rfl (stO _ rfl (stO _ rfl (stO _ rfl (stO _ rfl (stO _ rfl (stO _ rfl (stO _ a5 (stO _ rfl (stO _ rfl (stO _ rfl (stO _ rfl (stO _ rfl (stC rfl (stO _ rfl (stO _ rfl (stO _ rfl (stO _ rfl (stO _ rfl (stO _ rfl (stO _ rfl (stO _ rfl (stF (by simp) (stO _ (asI_i ..) (stO _ (asI_i ..) (stF (by simp) ?_)))))))))))))))))))))))))))))))))))))))))))))
      refine stO _ a6 (stO _ rfl (stF rfl (stO _ (asI_i ..) (stO _ (asI_i ..) (stF (by simp) (stO _ (asI_i ..) (stF (beqF h2) ?_)))))))
      rw [l07_FlightTexts_J2_eq]
      exact a1
    · rw [h1] at q1 q2
      obtain ⟨sg, lg⟩ := short_read (f := g) (s := s) (by omega) h3 h2
      have sm := r07_Same_ret (lb + 1) g g lg lg
      rw [sameF_refl] at sm
      have p3 := flight_Print_ret (lb + 1) g sg
      rw [printF_prA] at p3
      have hg : prA g = .str s := by unfold prA; rw [if_neg (fun q => q h2), ← h3]
      rw [hg, h2] at p3
      refine Evt.imp2 (Evt.and (Evt.and e0 en) (Evt.and p1 p2)) (Evt.and (Evt.and q1 q2) (Evt.and sm p3)) fun n ⟨⟨a0, a1⟩, a2, a3⟩ ⟨⟨a4, a5⟩, a6, a7⟩ => ?_
      refine stO _ a0 (stO _ rfl (stF rfl (stF (decF (by omega)) (stO _ a2 (stO _ rfl (stO _ rfl (stO _ rfl (stO _ rfl (stO _ a3 (stO _ rfl (stO _ rfl (stO _ rfl (stO _ rfl (stO _ a4 (stO _ rfl (stO _ rfl (stO _ rfl (stO _ rfl (stO _ rfl (stC rfl (stO _ rfl (stO _ rfl (stO _ rfl (stO _ rfl (stO _ rfl (stO _ rfl (stO _ a5 (stO _ rfl (stO _ rfl (stO _ rfl (stO _ rfl (stO _ rfl (stC rfl (stO _ rfl (stO _ rfl (stO _ rfl (stO _ rfl (stO _ rfl (stO _ rfl (stO _ rfl (stO _ rfl (stF (by simp) (stO _ (asI_i ..) (stO _ (asI_i ..) (stF (by simp) ?_)))))))))))))))))))))))))))))))))))))))))))))
      refine stO _ a6 (stO _ rfl (stF rfl (stO _ (asI_i ..) (stO _ (asI_i ..) (stF (by simp) (stO _ (asI_i ..) (stT rfl (stO _ a7 (stO _ rfl (stO _ rfl (stO _ rfl (stO _ rfl (stO _ rfl (stF (by simp) (stO _ rfl (stF rfl ?_))))))))))))))))
      rw [l07_FlightTexts_J1_eq]
      exact a1
end Go.Proofs
