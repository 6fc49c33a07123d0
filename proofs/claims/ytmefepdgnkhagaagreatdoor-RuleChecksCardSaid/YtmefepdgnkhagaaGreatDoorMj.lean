/- Chapter 21 on plain data: the faults of a rule, by the program: percentages. Conditions: as each says. -/
import Derived.Test.YtmefepdgnkhagaaGreatDoorMA
import Derived.Test.YtmefepdgnkhagaaGreatDoorHo
set_option linter.unusedVariables false
set_option linter.unusedSimpArgs false
namespace Go.Proofs
open Go.Am
variable (lb : Nat)
theorem all_pcs (l : List (Bs × Int)) : (pcs l).all (·.length == 2) = true := by simp
theorem all_nums (l : List Int) : (nums1 l).all (·.length == 1) = true := by simp
theorem take_pcs {p t l : List (Bs × Int)} (h : p ++ t = l) : ((pcs l).take ((p.length : Int)).toNat).drop 0 = pcs p := by
  have := take_pre (p := pcs p) (t := pcs t) (l := pcs l) (by rw [← h]; simp)
  simpa using this
theorem take_nums {p t l : List Int} (h : p ++ t = l) : ((nums1 l).take ((p.length : Int)).toNat).drop 0 = nums1 p := by
  have := take_pre (p := nums1 p) (t := nums1 t) (l := nums1 l) (by rw [← h]; simp)
  simpa using this
/-- what is behind the code of a percentage -/
def pct2 (p : List (Bs × Int)) (x : Bs × Int) : List Ft := (if had p x.1 then [(6, pAt p)] else []) ++ (if x.2 < 0 ∨ x.2 > 1000 then [(2, pAt p)] else [])
theorem check_pct (r : Ru) (hp : r.pc.length ≤ 100) (hs : ∀ x ∈ r.pc, x.1.length ≤ 281474976710656) (r24 : CV) : ∀ t p, p ++ t = r.pc → Evt fun n => ∀ k, t.length < k → ∀ F : List Ft, F.length ≤ 700 + 3 * p.length →
    rule_Check_L8 lb n k r.num r.w.k r.w.ln (r.w.l.map ccv) r.w.a r.w.b r.w.fr r.w.to r.w.days r.w.tn (scv r.w.t) r.cn (nums1 r.com) r.mn r.mx r.cf r.rf r.pn (pcs r.pc) r24 (p.length : Int) F.isEmpty (F.map ftenc) = some (lstFt (F ++ pctFt p t)) := by
  intro t
  induction t with
  | nil =>
    intro p hpp
    refine .all fun n k hk F hF => ?_
    obtain ⟨k, rfl⟩ : ∃ j, k = j + 1 := ⟨k - 1, by simp at hk; omega⟩
    have hpl : p = r.pc := by simpa using hpp
    rw [rule_Check_L8_succ]
    refine stF (decF (by rw [hpl, List.length_map]; omega)) ?_
    rw [rule_Check_J12_eq, pctFt, List.append_nil]
    rfl
  | cons x t ih =>
    intro p hpp
    have hcl : r.pc.length = p.length + (t.length + 1) := by rw [← hpp]; simp
    have hx := pc_at (l := r.pc) (i := p.length) (x := x) (by rw [← hpp]; simp)
    have hxs := hs x (by rw [← hpp]; simp)
    have hil := itoa_len (z := (p.length : Int)) (by omega) (by omega)
    have htk := take_pcs (p := p) (t := x :: t) (l := r.pc) hpp
    refine Evt.imp2 (text_Decimal_ret lb (p.length : Int) (by omega) (by omega)) (Evt.and (ih (p ++ [x]) (by rw [← hpp]; simp)) (Evt.and (Evt.ge 200) (text_Code_ret lb x.1 3 3 hxs))) fun n d ⟨g, hn, cd⟩ k hk F hF => ?_
    obtain ⟨k, rfl⟩ : ∃ j, k = j + 1 := ⟨k - 1, by simp at hk; omega⟩
    have g : ∀ F : List Ft, F.length ≤ 700 + 3 * p.length + 3 → rule_Check_L8 lb n k r.num r.w.k r.w.ln (r.w.l.map ccv) r.w.a r.w.b r.w.fr r.w.to r.w.days r.w.tn (scv r.w.t) r.cn (nums1 r.com) r.mn r.mx r.cf r.rf r.pn (pcs r.pc) r24 (IntKind.wrap .i64 ((p.length : Int) + 1)) F.isEmpty (F.map ftenc) = some (lstFt (F ++ pctFt (p ++ [x]) t)) := fun F hF => by
      rw [wrap64 (by omega) (by omega), show (p.length : Int) + 1 = ((p ++ [x]).length : Int) by simp]
      exact g k (by simp at hk; omega) F (by simp; omega)
    -- the last test, from a list of faults on
    have last : ∀ F : List Ft, F.length ≤ 700 + 3 * p.length + 2 → (optO (CV.asI .i64 (.int .i64 x.2)) fun i280 =>
        bif (decide (i280 < 0)) then
        (chkO (room ((F.map ftenc).length + 1) 24) (
        rule_Check_L8 lb n k r.num r.w.k r.w.ln (r.w.l.map ccv) r.w.a r.w.b r.w.fr r.w.to r.w.days r.w.tn (scv r.w.t) r.cn (nums1 r.com) r.mn r.mx r.cf r.rf r.pn (pcs r.pc) r24 (IntKind.wrap .i64 ((p.length : Int) + 1)) (F.isEmpty && false) (F.map ftenc ++ [[CV.int .i64 2, CV.str (pAt p)]])))
        else
        (optO (CV.asI .i64 (.int .i64 x.2)) fun i281 =>
        bif (decide (i281 > 1000)) then
        (chkO (room ((F.map ftenc).length + 1) 24) (
        rule_Check_L8 lb n k r.num r.w.k r.w.ln (r.w.l.map ccv) r.w.a r.w.b r.w.fr r.w.to r.w.days r.w.tn (scv r.w.t) r.cn (nums1 r.com) r.mn r.mx r.cf r.rf r.pn (pcs r.pc) r24 (IntKind.wrap .i64 ((p.length : Int) + 1)) (F.isEmpty && false) (F.map ftenc ++ [[CV.int .i64 2, CV.str (pAt p)]])))
        else
        (rule_Check_L8 lb n k r.num r.w.k r.w.ln (r.w.l.map ccv) r.w.a r.w.b r.w.fr r.w.to r.w.days r.w.tn (scv r.w.t) r.cn (nums1 r.com) r.mn r.mx r.cf r.rf r.pn (pcs r.pc) r24 (IntKind.wrap .i64 ((p.length : Int) + 1)) F.isEmpty (F.map ftenc)))) = some (lstFt (F ++ ((if x.2 < 0 ∨ x.2 > 1000 then [(2, pAt p)] else []) ++ pctFt (p ++ [x]) t))) := fun F hF => by
      refine stO _ (asI_i ..) ?_
      by_cases k1 : x.2 < 0
      · refine stT (decT k1) (stC (rm1 (by omega)) ?_)
        rw [sn1 F (2, pAt p), sn2 F, g _ (by rw [List.length_append]; simp; omega), if_pos (.inl k1), List.append_assoc]
      refine stF (decF k1) (stO _ (asI_i ..) ?_)
      by_cases k2 : x.2 > 1000
      · refine stT (decT k2) (stC (rm1 (by omega)) ?_)
        rw [sn1 F (2, pAt p), sn2 F, g _ (by rw [List.length_append]; simp; omega), if_pos (.inr k2), List.append_assoc]
      refine stF (decF k2) ?_
      rw [g _ (by omega), if_neg (by omega), List.nil_append]
    have inner : ∀ F : List Ft, F.length ≤ 700 + 3 * p.length + 1 → ∀ c250 r253 u q, q ++ u = p → had q x.1 = false → ∀ k', u.length < k' →
        rule_Check_L10 lb n k' r.pn (pcs r.pc) (p.length : Int) r.num r.w.k r.w.ln (r.w.l.map ccv) r.w.a r.w.b r.w.fr r.w.to r.w.days r.w.tn (scv r.w.t) r.cn (nums1 r.com) r.mn r.mx r.cf r.rf F.isEmpty (F.map ftenc) (.str x.1) (.int .i64 x.2) r24 (Lib.itoa (p.length : Int)) c250 r253 k (q.length : Int) = some (lstFt (F ++ (pct2 p x ++ pctFt (p ++ [x]) t))) := by
      intro F hF c250 r253 u
      induction u with
      | nil =>
        intro q hq hh k' hk'
        obtain ⟨k', rfl⟩ : ∃ j, k' = j + 1 := ⟨k' - 1, by simp at hk'; omega⟩
        obtain rfl : q = p := by simpa using hq
        rw [rule_Check_L10_succ, htk]
        refine stF (decF (by rw [List.length_map]; omega)) ?_
        rw [rule_Check_J11_eq, show ([112, 101, 114, 99, 101, 110, 116, 32] : List UInt8) ++ Lib.itoa (q.length : Int) = pAt q from rfl, pct2, hh, if_neg Bool.false_ne_true, List.nil_append]
        exact last F (by omega)
      | cons y u ihu =>
        intro q hq hh k' hk'
        obtain ⟨k', rfl⟩ : ∃ j, k' = j + 1 := ⟨k' - 1, by simp at hk'; omega⟩
        have hpl : p.length = q.length + (u.length + 1) := by rw [← hq]; simp
        have hy := pc_at (l := p) (i := q.length) (x := y) (by rw [← hq]; simp)
        rw [rule_Check_L10_succ, htk, show ([112, 101, 114, 99, 101, 110, 116, 32] : List UInt8) ++ Lib.itoa (p.length : Int) = pAt p from rfl]
        refine stT (decT (by rw [List.length_map]; omega)) (stO _ hy (stC rfl (stO _ rfl (stO _ rfl (stO _ rfl (stO _ rfl ?_))))))
        by_cases e : y.1 = x.1
        · have hh2 : had p x.1 = true := by
            unfold had
            exact decT (by rw [← hq, ← e]; simp)
          refine stT (by simp [e]) (stT (decT (by omega)) (stC (rm1 (by omega)) ?_))
          rw [sn1 F (6, pAt p), sn2 F, pct2, hh2, if_pos rfl, List.append_assoc, ← List.append_assoc F]
          exact last (F ++ [(6, pAt p)]) (by rw [List.length_append]; simp; omega)
        · refine stF (by simp [e]) ?_
          rw [wrap64 (x := (q.length : Int) + 1) (by omega) (by omega), show (q.length : Int) + 1 = ((q ++ [y]).length : Int) by simp]
          exact ihu (q ++ [y]) (by rw [← hq]; simp) (by
            unfold had at hh ⊢
            have hh := of_decide_eq_false hh
            rw [List.map_append]
            exact decF (by
              intro h3
              rcases List.mem_append.1 h3 with h3 | h3
              · exact hh h3
              · simp at h3; exact e h3.symm)) k' (by simp at hk'; omega)
    have j9 : ∀ F : List Ft, F.length ≤ 700 + 3 * p.length + 1 → ∀ c250 r253, rule_Check_J9 lb n k r.num r.w.k r.w.ln (r.w.l.map ccv) r.w.a r.w.b r.w.fr r.w.to r.w.days r.w.tn (scv r.w.t) r.cn (nums1 r.com) r.mn r.mx r.cf r.rf r.pn (pcs r.pc) r24 (p.length : Int) (Lib.itoa (p.length : Int)) c250 (.str x.1) (.int .i64 x.2) r253 F.isEmpty (F.map ftenc) = some (lstFt (F ++ (pct2 p x ++ pctFt (p ++ [x]) t))) := fun F hF c250 r253 => by
      rw [rule_Check_J9_eq]
      exact stC (all_pcs _) (stC (decT (by rw [List.length_map]; omega)) (inner F hF c250 r253 p [] rfl rfl n (by omega)))
    rw [rule_Check_L8_succ]
    refine stT (decT (by rw [List.length_map]; omega)) (stO _ hx (stC rfl (stO _ rfl (stO _ rfl (stO _ d (stO _ rfl (stC (decT (by simp; omega)) (stO _ cd (stO _ rfl ?_)))))))))
    rw [show ([112, 101, 114, 99, 101, 110, 116, 32] : List UInt8) ++ Lib.itoa (p.length : Int) = pAt p from rfl, pctFt, show pctT p x = (if codeB x.1 3 3 then [] else [(5, pAt p)]) ++ pct2 p x from rfl, List.append_assoc]
    cases hc : codeB x.1 3 3 with
    | true =>
      refine stF rfl ?_
      rw [j9 _ (by omega), if_pos rfl, List.nil_append]
    | false =>
      refine stT rfl (stC (rm1 (by omega)) ?_)
      rw [sn1 F (5, pAt p), sn2 F, j9 _ (by rw [List.length_append]; simp; omega), if_neg Bool.false_ne_true, List.append_assoc]
end Go.Proofs
