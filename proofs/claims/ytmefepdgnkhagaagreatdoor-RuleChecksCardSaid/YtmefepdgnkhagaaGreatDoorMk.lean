/- Chapter 21 on plain data: the faults of a rule, by the program; RuleChecks, if awake answers true. Conditions: as each says. -/
import Derived.Test.YtmefepdgnkhagaaGreatDoorMj
set_option linter.unusedVariables false
set_option linter.unusedSimpArgs false
namespace Go.Proofs
open Go.Am
variable (lb : Nat)
/-- what is behind the combinations -/
def restT (r : Ru) : List Ft := st1T r ++ (st2T r ++ (feT r ++ pctFt [] r.pc))
theorem check_rest (r : Ru) (r24 : CV) (n : Nat) (h : ∀ F : List Ft, F.length ≤ 700 → rule_Check_L8 lb n n r.num r.w.k r.w.ln (r.w.l.map ccv) r.w.a r.w.b r.w.fr r.w.to r.w.days r.w.tn (scv r.w.t) r.cn (nums1 r.com) r.mn r.mx r.cf r.rf r.pn (pcs r.pc) r24 0 F.isEmpty (F.map ftenc) = some (lstFt (F ++ pctFt [] r.pc))) : ∀ F : List Ft, F.length ≤ 600 →
    rule_Check_J4 lb n r.num r.w.k r.w.ln (r.w.l.map ccv) r.w.a r.w.b r.w.fr r.w.to r.w.days r.w.tn (scv r.w.t) r.cn (nums1 r.com) r.mn r.mx r.cf r.rf r.pn (pcs r.pc) r24 F.isEmpty (F.map ftenc) = some (lstFt (F ++ restT r)) := by
  have j6 : ∀ F : List Ft, F.length ≤ 690 → rule_Check_J6 lb n r.num r.w.k r.w.ln (r.w.l.map ccv) r.w.a r.w.b r.w.fr r.w.to r.w.days r.w.tn (scv r.w.t) r.cn (nums1 r.com) r.mn r.mx r.cf r.rf r.pn (pcs r.pc) r24 F.isEmpty (F.map ftenc) = some (lstFt (F ++ (feT r ++ pctFt [] r.pc))) := fun F hF => by
    rw [rule_Check_J6_eq, show ([102, 101, 101, 115] : List UInt8) = wFees from rfl, sn1 F (2, wFees), sn2 F]
    have hit : (r.cf < -1 ∨ r.cf > 1099511627776 ∨ r.rf < -1 ∨ r.rf > 1099511627776) → rule_Check_J7 lb n r.num r.w.k r.w.ln (r.w.l.map ccv) r.w.a r.w.b r.w.fr r.w.to r.w.days r.w.tn (scv r.w.t) r.cn (nums1 r.com) r.mn r.mx r.cf r.rf r.pn (pcs r.pc) r24 (F ++ [(2, wFees)]).isEmpty ((F ++ [(2, wFees)]).map ftenc) = some (lstFt (F ++ (feT r ++ pctFt [] r.pc))) := fun q => by
      rw [rule_Check_J7_eq, h _ (by rw [List.length_append]; simp; omega), feT, if_pos q, List.append_assoc]
    by_cases k1 : r.cf < -1
    · exact stT (decT k1) (stC (rm1 (by omega)) (hit (.inl k1)))
    refine stF (decF k1) ?_
    by_cases k2 : r.cf > 1099511627776
    · exact stT (decT k2) (stC (rm1 (by omega)) (hit (.inr (.inl k2))))
    refine stF (decF k2) ?_
    by_cases k3 : r.rf < -1
    · exact stT (decT k3) (stC (rm1 (by omega)) (hit (.inr (.inr (.inl k3)))))
    refine stF (decF k3) ?_
    by_cases k4 : r.rf > 1099511627776
    · exact stT (decT k4) (stC (rm1 (by omega)) (hit (.inr (.inr (.inr k4)))))
    refine stF (decF k4) ?_
    rw [rule_Check_J7_eq, h _ (by omega), feT, if_neg (by omega), List.nil_append]
  have j5 : ∀ F : List Ft, F.length ≤ 680 → rule_Check_J5 lb n r.num r.w.k r.w.ln (r.w.l.map ccv) r.w.a r.w.b r.w.fr r.w.to r.w.days r.w.tn (scv r.w.t) r.cn (nums1 r.com) r.mn r.mx r.cf r.rf r.pn (pcs r.pc) r24 F.isEmpty (F.map ftenc) = some (lstFt (F ++ (st2T r ++ (feT r ++ pctFt [] r.pc)))) := fun F hF => by
    rw [rule_Check_J5_eq]
    by_cases k1 : r.mx > 0
    · refine stT (decT k1) ?_
      by_cases k2 : r.mx < r.mn
      · refine stT (decT k2) (stC (rm1 (by omega)) ?_)
        rw [show ([115, 116, 97, 121] : List UInt8) = wStay from rfl, sn1 F (24, wStay), sn2 F, j6 _ (by rw [List.length_append]; simp; omega), st2T, if_pos ⟨k1, k2⟩, List.append_assoc]
      · refine stF (decF k2) ?_
        rw [j6 _ (by omega), st2T, if_neg (fun q => k2 q.2), List.nil_append]
    · refine stF (decF k1) ?_
      rw [j6 _ (by omega), st2T, if_neg (fun q => k1 q.1), List.nil_append]
  intro G hG
  rw [rule_Check_J4_eq, show ([115, 116, 97, 121] : List UInt8) = wStay from rfl, sn1 G (2, wStay), sn2 G]
  have hit : (r.mn < 0 ∨ r.mn > 400 ∨ r.mx < 0 ∨ r.mx > 400) → rule_Check_J5 lb n r.num r.w.k r.w.ln (r.w.l.map ccv) r.w.a r.w.b r.w.fr r.w.to r.w.days r.w.tn (scv r.w.t) r.cn (nums1 r.com) r.mn r.mx r.cf r.rf r.pn (pcs r.pc) r24 (G ++ [(2, wStay)]).isEmpty ((G ++ [(2, wStay)]).map ftenc) = some (lstFt (G ++ restT r)) := fun q => by
    rw [j5 _ (by rw [List.length_append]; simp; omega), restT, st1T, if_pos q, List.append_assoc]
  by_cases k1 : r.mn < 0
  · exact stT (decT k1) (stC (rm1 (by omega)) (hit (.inl k1)))
  refine stF (decF k1) ?_
  by_cases k2 : r.mn > 400
  · exact stT (decT k2) (stC (rm1 (by omega)) (hit (.inr (.inl k2))))
  refine stF (decF k2) ?_
  by_cases k3 : r.mx < 0
  · exact stT (decT k3) (stC (rm1 (by omega)) (hit (.inr (.inr (.inl k3)))))
  refine stF (decF k3) ?_
  by_cases k4 : r.mx > 400
  · exact stT (decT k4) (stC (rm1 (by omega)) (hit (.inr (.inr (.inr k4)))))
  refine stF (decF k4) ?_
  rw [j5 _ (by omega), restT, st1T, if_neg (by omega), List.nil_append]
theorem check_com (r : Ru) (hc : r.com.length ≤ 100) (r24 : CV) (hJ : Evt fun n => ∀ F : List Ft, F.length ≤ 600 → rule_Check_J4 lb n r.num r.w.k r.w.ln (r.w.l.map ccv) r.w.a r.w.b r.w.fr r.w.to r.w.days r.w.tn (scv r.w.t) r.cn (nums1 r.com) r.mn r.mx r.cf r.rf r.pn (pcs r.pc) r24 F.isEmpty (F.map ftenc) = some (lstFt (F ++ restT r))) : ∀ t p, p ++ t = r.com → Evt fun n => ∀ k, t.length < k → ∀ F : List Ft, F.length ≤ 10 + 2 * p.length →
    rule_Check_L3 lb n k r.num r.w.k r.w.ln (r.w.l.map ccv) r.w.a r.w.b r.w.fr r.w.to r.w.days r.w.tn (scv r.w.t) r.cn (nums1 r.com) r.mn r.mx r.cf r.rf r.pn (pcs r.pc) r24 (p.length : Int) F.isEmpty (F.map ftenc) = some (lstFt (F ++ (comFt p t ++ restT r))) := by
  intro t
  induction t with
  | nil =>
    intro p hpp
    have hpl : p = r.com := by simpa using hpp
    refine hJ.mono fun n hj k hk F hF => ?_
    obtain ⟨k, rfl⟩ : ∃ j, k = j + 1 := ⟨k - 1, by simp at hk; omega⟩
    rw [rule_Check_L3_succ]
    refine stF (decF (by rw [hpl, List.length_map]; omega)) ?_
    rw [hj F (by rw [hpl] at hF; omega), comFt, List.nil_append]
  | cons z t ih =>
    intro p hpp
    have hcl : r.com.length = p.length + (t.length + 1) := by rw [← hpp]; simp
    have hz := num_at (l := r.com) (i := p.length) (z := z) (by rw [← hpp]; simp)
    have hil := itoa_len (z := (p.length : Int)) (by omega) (by omega)
    have htk := take_nums (p := p) (t := z :: t) (l := r.com) hpp
    refine Evt.imp2 (text_Decimal_ret lb (p.length : Int) (by omega) (by omega)) (Evt.and (ih (p ++ [z]) (by rw [← hpp]; simp)) (contains_int_ret lb r.cn p z (by omega))) fun n d ⟨g, cd⟩ k hk F hF => ?_
    obtain ⟨k, rfl⟩ : ∃ j, k = j + 1 := ⟨k - 1, by simp at hk; omega⟩
    have g : ∀ F : List Ft, F.length ≤ 10 + 2 * p.length + 2 → rule_Check_L3 lb n k r.num r.w.k r.w.ln (r.w.l.map ccv) r.w.a r.w.b r.w.fr r.w.to r.w.days r.w.tn (scv r.w.t) r.cn (nums1 r.com) r.mn r.mx r.cf r.rf r.pn (pcs r.pc) r24 (IntKind.wrap .i64 ((p.length : Int) + 1)) F.isEmpty (F.map ftenc) = some (lstFt (F ++ (comFt (p ++ [z]) t ++ restT r))) := fun F hF => by
      rw [wrap64 (by omega) (by omega), show (p.length : Int) + 1 = ((p ++ [z]).length : Int) by simp]
      exact g k (by simp at hk; omega) F (by simp; omega)
    rw [rule_Check_L3_succ, htk, show ([99, 111, 109, 98, 105, 110, 101, 32] : List UInt8) = wCombine from rfl]
    refine stT (decT (by rw [List.length_map]; omega)) (stO _ hz (stC rfl (stO _ rfl (stO _ d (stO _ rfl (stC (decT (by simp [wCombine]; omega)) (stO _ (asI_i ..) ?_)))))))
    rw [comFt, sn1 F (2, wCombine ++ Lib.itoa (p.length : Int)), sn2 F, List.append_assoc]
    have two : (z < 1 ∨ z > 9999) → ∀ b, b = decide (z ∈ p) → (bif b then
        (chkO (room (((F ++ [(2, wCombine ++ Lib.itoa (p.length : Int))]).map ftenc).length + 1) 24) (
        rule_Check_L3 lb n k r.num r.w.k r.w.ln (r.w.l.map ccv) r.w.a r.w.b r.w.fr r.w.to r.w.days r.w.tn (scv r.w.t) r.cn (nums1 r.com) r.mn r.mx r.cf r.rf r.pn (pcs r.pc) r24 (IntKind.wrap .i64 ((p.length : Int) + 1)) ((F ++ [(2, wCombine ++ Lib.itoa (p.length : Int))]).isEmpty && false) ((F ++ [(2, wCombine ++ Lib.itoa (p.length : Int))]).map ftenc ++ [[CV.int .i64 6, CV.str (wCombine ++ Lib.itoa (p.length : Int))]])))
        else
        (rule_Check_L3 lb n k r.num r.w.k r.w.ln (r.w.l.map ccv) r.w.a r.w.b r.w.fr r.w.to r.w.days r.w.tn (scv r.w.t) r.cn (nums1 r.com) r.mn r.mx r.cf r.rf r.pn (pcs r.pc) r24 (IntKind.wrap .i64 ((p.length : Int) + 1)) (F ++ [(2, wCombine ++ Lib.itoa (p.length : Int))]).isEmpty ((F ++ [(2, wCombine ++ Lib.itoa (p.length : Int))]).map ftenc))) = some (lstFt (F ++ (comT p z ++ (comFt (p ++ [z]) t ++ restT r)))) := fun h b hb => by
      by_cases hm : z ∈ p
      · refine stT (by rw [hb]; exact decT hm) (stC (rm1 (by rw [List.length_append]; simp; omega)) ?_)
        rw [sn1 (F ++ [(2, wCombine ++ Lib.itoa (p.length : Int))]) (6, wCombine ++ Lib.itoa (p.length : Int)), sn2 (F ++ [(2, wCombine ++ Lib.itoa (p.length : Int))]), g _ (by rw [List.length_append, List.length_append]; simp; omega), comT, if_pos h, if_pos hm]
        simp
      · refine stF (by rw [hb]; exact decF hm) ?_
        rw [g _ (by rw [List.length_append]; simp; omega), comT, if_pos h, if_neg hm]
        simp
    by_cases k1 : z < 1
    · exact stT (decT k1) (stC (rm1 (by omega)) (stC (all_nums _) (stC (decT (by rw [List.length_map]; omega)) (stO _ cd (stO _ rfl (two (.inl k1) _ rfl))))))
    refine stF (decF k1) (stO _ (asI_i ..) ?_)
    by_cases k2 : z > 9999
    · exact stT (decT k2) (stC (rm1 (by omega)) (stC (all_nums _) (stC (decT (by rw [List.length_map]; omega)) (stO _ cd (stO _ rfl (two (.inr k2) _ rfl))))))
    refine stF (decF k2) (stC (all_nums _) (stC (decT (by rw [List.length_map]; omega)) (stO _ cd (stO _ rfl ?_))))
    by_cases hm : z ∈ p
    · refine stT (decT hm) (stC (rm1 (by omega)) ?_)
      rw [show (F ++ [((2 : Int), wCombine ++ Lib.itoa (p.length : Int))]).isEmpty = (F ++ [((6 : Int), wCombine ++ Lib.itoa (p.length : Int))]).isEmpty from (sn1 F _).symm.trans (sn1 F _), sn2 F, g _ (by rw [List.length_append]; simp; omega), comT, if_neg (by omega), if_pos hm]
      simp
    · refine stF (decF hm) ?_
      rw [g _ (by omega), comT, if_neg (by omega), if_neg hm]
      simp
theorem rule_Check_ret (r : Ru) (hf : RFits r) (hw : tsz r.w ≤ 300) (hc : r.com.length ≤ 100) (hp : r.pc.length ≤ 100) : Ret lb F_rule_Check [ruv r] (lstFt (chkR r)) := by
  refine .top rfl (.eq (fun n => by rw [rule_Check_eq]) ?_)
  have e1 := cond_Check_ret lb r.w hf.1 hw
  have cl := comFt_len r.com []
  have pl := pctFt_len r.pc []
  have l3 : Evt fun n => ∀ F : List Ft, F.length ≤ 10 → rule_Check_L3 lb n n r.num r.w.k r.w.ln (r.w.l.map ccv) r.w.a r.w.b r.w.fr r.w.to r.w.days r.w.tn (scv r.w.t) r.cn (nums1 r.com) r.mn r.mx r.cf r.rf r.pn (pcs r.pc) (.int .i64 (checkE r.w)) 0 F.isEmpty (F.map ftenc) = some (lstFt (F ++ (comFt [] r.com ++ restT r))) := by
    have h8 := Evt.diag (P := fun n k => ∀ F : List Ft, F.length ≤ 700 → rule_Check_L8 lb n k r.num r.w.k r.w.ln (r.w.l.map ccv) r.w.a r.w.b r.w.fr r.w.to r.w.days r.w.tn (scv r.w.t) r.cn (nums1 r.com) r.mn r.mx r.cf r.rf r.pn (pcs r.pc) (.int .i64 (checkE r.w)) 0 F.isEmpty (F.map ftenc) = some (lstFt (F ++ pctFt [] r.pc))) (check_pct lb r hp hf.2.2.2 (.int .i64 (checkE r.w)) r.pc [] rfl)
    exact Evt.diag (P := fun n k => ∀ F : List Ft, F.length ≤ 10 → rule_Check_L3 lb n k r.num r.w.k r.w.ln (r.w.l.map ccv) r.w.a r.w.b r.w.fr r.w.to r.w.days r.w.tn (scv r.w.t) r.cn (nums1 r.com) r.mn r.mx r.cf r.rf r.pn (pcs r.pc) (.int .i64 (checkE r.w)) 0 F.isEmpty (F.map ftenc) = some (lstFt (F ++ (comFt [] r.com ++ restT r)))) (check_com lb r hc (.int .i64 (checkE r.w)) (h8.mono fun n h => check_rest lb r (.int .i64 (checkE r.w)) n h) r.com [] rfl)
  refine Evt.imp2 e1 l3 fun n a1 h3 => ?_
  have j1 : ∀ F : List Ft, F.length ≤ 5 → rule_Check_J1 lb n r.num r.w.k r.w.ln (r.w.l.map ccv) r.w.a r.w.b r.w.fr r.w.to r.w.days r.w.tn (scv r.w.t) r.cn (nums1 r.com) r.mn r.mx r.cf r.rf r.pn (pcs r.pc) F.isEmpty (F.map ftenc) = some (lstFt (F ++ (whenT r ++ (comFt [] r.com ++ restT r)))) := fun F hF => by
    rw [rule_Check_J1_eq]
    refine stO _ a1 (stO _ (asI_i ..) ?_)
    by_cases k1 : checkE r.w ≠ 0
    · refine stT (bneT k1) (stC rfl (stC (rm1 (by omega)) ?_))
      rw [show ([119, 104, 101, 110] : List UInt8) = wWhen from rfl, sn1 F (checkE r.w, wWhen), sn2 F, rule_Check_J2_eq, h3 _ (by rw [List.length_append]; simp; omega), whenT, if_pos k1, List.append_assoc]
    · have k1 := Classical.byContradiction k1
      refine stF (bneF k1) ?_
      rw [rule_Check_J2_eq, h3 _ (by omega), whenT, if_neg (fun h => h k1), List.nil_append]
  rw [show chkR r = numT r ++ (whenT r ++ (comFt [] r.com ++ restT r)) from rfl]
  unfold numT
  by_cases k1 : r.num < 1
  · rw [if_pos (.inl k1)]
    exact stT (decT k1) (j1 [(2, wNumber)] (by simp))
  refine stF (decF k1) ?_
  by_cases k2 : r.num > 9999
  · rw [if_pos (.inr k2)]
    exact stT (decT k2) (j1 [(2, wNumber)] (by simp))
  refine stF (decF k2) ?_
  rw [if_neg (by omega)]
  exact j1 [] (by simp)
theorem sameFaults21_ret (F : List Ft) (hF : F.length ≤ 100000) : Ret lb F_l06_SameFaults [lstFt F, lstFt F] (.bool true) := by
  refine .top rfl (.eq (fun n => by rw [lstFt, l06_SameFaults_eq, bneF rfl, cond_false]) ?_)
  refine Evt.diag (m := F.length) (loopL (enc := ftenc) (l := F) (by omega) (P := fun q t n k => l06_SameFaults_L1 lb n k F.isEmpty (F.map ftenc) F.isEmpty (F.map ftenc) (q.length : Int) = some (.bool true)) ?_ ?_ F [] rfl)
  · refine .all fun n k => ?_
    rw [l06_SameFaults_L1_succ]
    refine stF (decF (by simp)) ?_
    rw [l06_SameFaults_J2_eq]
  · intro q x t hq hlt hat hw hev
    refine hev.mono fun n hn k hk => ?_
    have hn := hn k hk
    rw [l06_SameFaults_L1_succ]
    refine stT (decT hlt) (stO _ hat (stC rfl (stO _ rfl (stO _ rfl (stO _ hat (stC rfl (stO _ rfl (stO _ rfl (stO _ (asI_i ..) (stO _ (asI_i ..) (stO _ rfl (stO _ rfl (stF (by simp) ?_)))))))))))))
    rw [hw]
    exact hn
theorem ruleChecks_ret (k : Ret lb F_l21_awake [] (.bool true)) (r : Ru) (hf : RFits r) : Ret lb F_l21_RuleChecks [ruv r] (.bool true) := by
  refine .top rfl (.eq (fun n => by rw [l21_RuleChecks_eq]) ?_)
  have e0 := small21_ret lb r hf.1
  cases hs : smB r with
  | false =>
    rw [hs] at e0
    exact e0.mono fun n x => stO _ x (stO _ rfl (stT rfl rfl))
  | true =>
    rw [hs] at e0
    obtain ⟨h1, h2, h3⟩ := small21_is hs
    have e1 := rule_Check_ret lb r hf (by omega) h2 h3
    have e2 := r21_Check_ret lb r hf (by omega) h2 h3
    have len : (chkR r).length ≤ 100000 := by
      have cl := comFt_len r.com []
      have pl := pctFt_len r.pc []
      have q1 : (numT r).length ≤ 1 := by unfold numT; split <;> simp
      have q2 : (whenT r).length ≤ 1 := by unfold whenT; split <;> simp
      have q3 : (st1T r).length ≤ 1 := by unfold st1T; split <;> simp
      have q4 : (st2T r).length ≤ 1 := by unfold st2T; split <;> simp
      have q5 : (feT r).length ≤ 1 := by unfold feT; split <;> simp
      unfold chkR
      simp only [List.length_append]
      omega
    have e3 := sameFaults21_ret lb (chkR r) len
    exact Evt.imp2 (Evt.and e0 (Evt.and e1 e2)) (Evt.and e3 k) fun n ⟨x, y, z⟩ ⟨u, v⟩ => stO _ x (stO _ rfl (stF rfl (stO _ y (stO _ z (stO _ u (stO _ rfl (stT rfl (stO _ v rfl))))))))
end Go.Proofs
