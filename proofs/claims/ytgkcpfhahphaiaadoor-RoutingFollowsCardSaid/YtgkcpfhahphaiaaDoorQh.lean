/- The law RoutingFollows on plain data. Conditions: none. -/
import Derived.Test.YtgkcpfhahphaiaaDoorQg
set_option linter.unusedVariables false
namespace Go.Proofs
open Go.Am
variable (lb : Bool)
theorem allows_ne {L : List Lk} (h : L ≠ []) (a : Bs) (t : List Bs) : allowsB L (a :: t) = stepsB L a t := by
  cases L with
  | nil => exact absurd rfl h
  | cons _ _ => rfl
theorem follows_J2 (num miles : Int) (an bn : Bool) (L : List Lk) (hL : L.length ≤ 14) (cs : List Bs) (hc : cs.length ≤ 7) (x23 x25 x28 x30 : CV) (c22 c24 : List CV) (r26 : CV) (f : Bool) (i : Int) (hf : f = (allowsB L cs && !twB [] cs)) :
    Evt fun n => l22_RoutingFollows_J2 lb n num an (lcv L) miles bn (scv cs) x23 x25 x28 x30 c22 c24 r26 (.bool f) i = some (.bool true) := by
  have e1 := routing_Allows_ret lb num miles an bn L (by omega) cs (by omega)
  have e2 := twice_ret lb bn cs (by omega)
  refine Evt.imp2 (Evt.and e1 e2) (wake22 lb) fun n ⟨a1, a2⟩ hn => ?_
  rw [l22_RoutingFollows_J2_eq]
  refine stO _ a1 (stO _ rfl ?_)
  rw [hf]
  cases hA : allowsB L cs
  · exact stF rfl (stO _ rfl (stT rfl hn))
  · refine stT rfl (stO _ a2 (stO _ rfl (stO _ rfl (stT ?_ hn))))
    cases twB [] cs <;> rfl
theorem follows_loop (num miles : Int) (an bn : Bool) (L : List Lk) (hL : L.length ≤ 14) (cs : List Bs) (hc : cs.length ≤ 7) (a b : Bs) (fl : Bool) (W : Ws) (hW : W.length ≤ 1024) (x30 : CV) (c22 c24 : List CV) (r26 : CV)
    (hw : ∀ w ∈ W, 2 ≤ w.length ∧ w.length ≤ cs.length ∧ w.head? = some a ∧ lastB w = b ∧ allowsB L w = true ∧ twB [] w = false) (hf : decide (cs ∈ W) = (allowsB L cs && !twB [] cs)) :
    Evt fun n => l22_RoutingFollows_L1 lb n n num an (lcv L) miles bn (scv cs) (.str a) (.str b) (.list fl (wcv W)) x30 c22 c24 r26 (.bool false) 0 = some (.bool true) := by
  refine Evt.diag (m := W.length) (loopL (enc := wenc) (l := W) (by omega) (P := fun p t n k => l22_RoutingFollows_L1 lb n k num an (lcv L) miles bn (scv cs) (.str a) (.str b) (.list fl (wcv W)) x30 c22 c24 r26 (.bool (decide (cs ∈ p))) (p.length : Int) = some (.bool true)) ?_ ?_ W [] rfl)
  · refine (follows_J2 lb num miles an bn L hL cs hc (.str a) (.str b) (.list fl (wcv W)) x30 c22 c24 r26 (decide (cs ∈ W)) (W.length : Int) hf).mono fun n hn k => ?_
    rw [l22_RoutingFollows_L1_succ]
    refine stO _ rfl (stF (decF (by show ¬ (W.length : Int) < ((wcv W).length : Int); rw [wcv_len]; omega)) ?_)
    exact hn
  · intro p w t hp hlt hat hwr hev
    obtain ⟨k1, k2, k3, k4, k5, k6⟩ := hw w (by rw [← hp]; simp)
    have e1 := routing_Allows_ret lb num miles an false L (by omega) w (by omega)
    have e2 := twice_ret lb false w (by omega)
    have e3 := r01_Same_ret lb false bn w cs (by omega)
    rw [k5] at e1
    rw [k6] at e2
    have h0 : atL (scv w) 0 = some [.str a] := by
      have : atL (scv w) ((0 : Nat) : Int) = some [.str a] := atL_ok (scv_get (by rw [← List.head?_eq_getElem?]; exact k3))
      exact this
    have hne : w ≠ [] := fun e => by rw [e] at k1; simp at k1
    have hla := last_at hne (by omega : w.length ≤ 1000)
    rw [k4] at hla
    refine Evt.imp2 hev (Evt.and (Evt.and e1 e2) e3) fun n hn ⟨⟨a1, a2⟩, a3⟩ k hk => ?_
    have hn := hn k hk
    rw [l22_RoutingFollows_L1_succ]
    refine stO _ rfl (stT (decT hlt) (stO _ rfl (stO _ hat (stC rfl (stO _ rfl (stO _ rfl (stF (decF (by show ¬ ((scv w).length : Int) < 2; rw [scv_len]; omega)) (stO _ rfl (stF (decF (by show ¬ ((scv w).length : Int) > ((scv cs).length : Int); rw [scv_len, scv_len]; omega)) (stO _ rfl (stO _ h0 (stC rfl (stO _ rfl (stO _ rfl (stO _ rfl (stF (by simp) ?_))))))))))))))))
    refine stO _ rfl (stO _ rfl (stO _ hla (stC rfl (stO _ rfl (stO _ rfl (stO _ rfl (stF (by simp) (stO _ a1 (stO _ rfl (stF rfl (stO _ a2 (stO _ rfl (stF rfl (stO _ rfl ?_))))))))))))))
    by_cases e : cs ∈ p
    · refine stT (decT e) ?_
      rw [hwr]
      rw [decT (show cs ∈ p ++ [w] from List.mem_append_left _ e)] at hn
      exact hn
    · refine stF (decF e) (stO _ a3 ?_)
      rw [hwr]
      rw [show decide (cs ∈ p ++ [w]) = decide (w = cs) from decide_eq_decide.2 (by simp [e, eq_comm])] at hn
      exact hn
theorem routingFollows_ok (num miles : Int) (an bn : Bool) (L : List Lk) (hl : ∀ x ∈ L, x.1.length ≤ 281474976710656 ∧ x.2.length ≤ 281474976710656) (cs : List Bs) (hcs : ∀ w ∈ cs, w.length ≤ 281474976710656) : Ret lb F_l22_RoutingFollows [rcv num an L miles, .list bn (scv cs)] (.bool true) := by
  refine .top rfl (.eq (fun n => by rw [l22_RoutingFollows_eq]) ?_)
  by_cases h14 : ((lcv L).length : Int) > 14
  · exact (wake22 lb).mono fun n hn => stT (decT h14) hn
  have hL : L.length ≤ 14 := by rw [lcv_len] at h14; omega
  by_cases hL0 : L = []
  · subst hL0
    exact (wake22 lb).mono fun n hn => stF (decF h14) (stT rfl hn)
  have hlp := List.length_pos_iff.2 hL0
  have h00 : (((lcv L).length : Int) == 0) = false := beqF (by rw [lcv_len]; omega)
  have e0 := big_ret lb num miles an L hl
  cases hb : bigB L with
  | true =>
    rw [hb] at e0
    exact Evt.imp2 e0 (wake22 lb) fun n a1 hn => stF (decF h14) (stF h00 (stO _ a1 (stO _ rfl (stT rfl hn))))
  | false =>
    rw [hb] at e0
    obtain ⟨h1, h2⟩ := small_links hb
    have h3 : ∀ x ∈ L, x.1.length ≤ 1000000000 ∧ x.2.length ≤ 1000000000 := fun x hx => ⟨by have := (h2 x hx).1; omega, by have := (h2 x hx).2; omega⟩
    have e1 := r22_Check_ret lb num miles an L h3
    by_cases hf : ((fcv (checkF num L miles)).length : Int) > 0
    · exact Evt.imp2 (Evt.and e0 e1) (wake22 lb) fun n ⟨a0, a1⟩ hn => stF (decF h14) (stF h00 (stO _ a0 (stO _ rfl (stF rfl (stO _ a1 (stO _ rfl (stT (decT hf) hn)))))))
    have e2 := r01_Long_ret lb bn cs 60 (by omega) hcs
    cases hlong : longB cs 60 with
    | true =>
      rw [hlong] at e2
      exact Evt.imp2 (Evt.and e0 e1) (Evt.and e2 (wake22 lb)) fun n ⟨a0, a1⟩ ⟨a2, hn⟩ => stF (decF h14) (stF h00 (stO _ a0 (stO _ rfl (stF rfl (stO _ a1 (stO _ rfl (stF (decF hf) (stO _ a2 (stO _ rfl (stT rfl hn))))))))))
    | false =>
      rw [hlong] at e2
      by_cases hc2 : ((scv cs).length : Int) < 2
      · exact Evt.imp2 (Evt.and e0 e1) (Evt.and e2 (wake22 lb)) fun n ⟨a0, a1⟩ ⟨a2, hn⟩ => stF (decF h14) (stF h00 (stO _ a0 (stO _ rfl (stF rfl (stO _ a1 (stO _ rfl (stF (decF hf) (stO _ a2 (stO _ rfl (stF rfl (stT (decT hc2) hn)))))))))))
      by_cases hc7 : ((scv cs).length : Int) > 7
      · exact Evt.imp2 (Evt.and e0 e1) (Evt.and e2 (wake22 lb)) fun n ⟨a0, a1⟩ ⟨a2, hn⟩ => stF (decF h14) (stF h00 (stO _ a0 (stO _ rfl (stF rfl (stO _ a1 (stO _ rfl (stF (decF hf) (stO _ a2 (stO _ rfl (stF rfl (stF (decF hc2) (stT (decT hc7) hn))))))))))))
      have hcl : 2 ≤ cs.length ∧ cs.length ≤ 7 := by rw [scv_len] at hc2 hc7; omega
      obtain ⟨a, ct, rfl⟩ : ∃ a ct, cs = a :: ct := by
        cases cs with
        | nil => simp at hcl
        | cons a ct => exact ⟨a, ct, rfl⟩
      generalize hbE : lastB (a :: ct) = b
      have hla := last_at (w := a :: ct) (by simp) (by omega)
      rw [hbE] at hla
      have hm : IntKind.wrap .i64 (((scv (a :: ct)).length : Int) - 1) = (ct.length : Int) := by
        rw [scv_len, wrap64 (by omega) (by omega)]
        simp
      have e3 := routing_Ways_ret lb num miles an L (by omega) a b (ct.length : Int)
      have hctl : 1 ≤ ct.length ∧ ct.length ≤ 6 := by simp at hcl; omega
      by_cases hab : a = b
      · rw [show waysR L a b (ct.length : Int) = .tup [.list true [], .int .i64 2] from if_pos (Or.inl hab)] at e3
        refine Evt.imp2 (Evt.and (Evt.and e0 e1) e3) (Evt.and e2 (wake22 lb)) fun n ⟨⟨a0, a1⟩, a3⟩ ⟨a2, hn⟩ => stF (decF h14) (stF h00 (stO _ a0 (stO _ rfl (stF rfl (stO _ a1 (stO _ rfl (stF (decF hf) (stO _ a2 (stO _ rfl (stF rfl (stF (decF hc2) (stF (decF hc7) ?_))))))))))))
        refine stO [.str a] rfl (stC rfl (stO _ rfl (stO _ hla (stC rfl (stO _ rfl (stO _ (by rw [hm]; exact a3) (stO _ rfl (stO _ rfl (stO _ rfl (stO _ rfl (stO _ rfl (stO _ rfl (stT (by simp [hab]) (stO _ (asI_i ..) (stT rfl hn)))))))))))))))
      · have hwr : waysR L a b (ct.length : Int) = waysV L a b ct.length := by
          unfold waysR
          rw [if_neg (fun e => e.elim hab (fun e => e.elim (by omega) (by omega))), if_neg hL0]
          rfl
        rw [hwr] at e3
        by_cases hs : (upTo L b ct.length [[a]]).length ≤ 1024
        · rw [show waysV L a b ct.length = .tup [.list (upTo L b ct.length [[a]]).isEmpty (wcv (upTo L b ct.length [[a]])), .int .i64 0] from if_pos hs] at e3
          have e4 := follows_loop lb num miles an bn L hL (a :: ct) hcl.2 a b (upTo L b ct.length [[a]]).isEmpty (upTo L b ct.length [[a]]) hs (.int .i64 0) [.str a] [.str b] (.tup [.list (upTo L b ct.length [[a]]).isEmpty (wcv (upTo L b ct.length [[a]])), .int .i64 0])
            (fun w h => by
              obtain ⟨t, rfl, j1, j2, j3, j4, j5⟩ := upTo_iff.1 h
              refine ⟨by simp; omega, by simp; omega, rfl, j5, by rw [allows_ne hL0]; exact j3, (twB_iff (a :: t) [] (by simp)).2 (by simpa using j4)⟩)
            (by
              rw [allows_ne hL0]
              refine Bool.eq_iff_iff.2 ?_
              rw [decide_eq_true_iff, Bool.and_eq_true, upTo_iff]
              constructor
              · rintro ⟨t, ht, j1, j2, j3, j4, j5⟩
                obtain rfl : ct = t := by simpa using ht
                refine ⟨j3, ?_⟩
                rw [(twB_iff (a :: ct) [] (by simp)).2 (by simpa using j4)]
                rfl
              · rintro ⟨j3, j4⟩
                have j5 : twB [] (a :: ct) = false := by simpa using j4
                exact ⟨ct, rfl, hctl.1, Nat.le_refl _, j3, by simpa using (twB_iff (a :: ct) [] (by simp)).1 j5, hbE⟩)
          refine Evt.imp2 (Evt.and (Evt.and e0 e1) e3) (Evt.and e2 e4) fun n ⟨⟨a0, a1⟩, a3⟩ ⟨a2, hn⟩ => stF (decF h14) (stF h00 (stO _ a0 (stO _ rfl (stF rfl (stO _ a1 (stO _ rfl (stF (decF hf) (stO _ a2 (stO _ rfl (stF rfl (stF (decF hc2) (stF (decF hc7) ?_))))))))))))
          refine stO [.str a] rfl (stC rfl (stO _ rfl (stO _ hla (stC rfl (stO _ rfl (stO _ (by rw [hm]; exact a3) (stO _ rfl (stO _ rfl (stO _ rfl (stO _ rfl (stO _ rfl (stO _ rfl (stF (by simp [hab]) (stO _ (asI_i ..) (stF rfl hn)))))))))))))))
        · rw [show waysV L a b ct.length = .tup [.list true [], .int .i64 4] from if_neg hs] at e3
          refine Evt.imp2 (Evt.and (Evt.and e0 e1) e3) (Evt.and e2 (wake22 lb)) fun n ⟨⟨a0, a1⟩, a3⟩ ⟨a2, hn⟩ => stF (decF h14) (stF h00 (stO _ a0 (stO _ rfl (stF rfl (stO _ a1 (stO _ rfl (stF (decF hf) (stO _ a2 (stO _ rfl (stF rfl (stF (decF hc2) (stF (decF hc7) ?_))))))))))))
          refine stO [.str a] rfl (stC rfl (stO _ rfl (stO _ hla (stC rfl (stO _ rfl (stO _ (by rw [hm]; exact a3) (stO _ rfl (stO _ rfl (stO _ rfl (stO _ rfl (stO _ rfl (stO _ rfl (stF (by simp [hab]) (stO _ (asI_i ..) (stT rfl (stO _ (asI_i ..) (stT rfl hn)))))))))))))))))
end Go.Proofs
