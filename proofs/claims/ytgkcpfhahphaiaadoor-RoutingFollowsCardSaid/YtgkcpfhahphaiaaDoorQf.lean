/- The law RoutingWays on plain data. Conditions: none. -/
import Derived.Test.YtgkcpfhahphaiaaDoorQc
set_option linter.unusedVariables false
namespace Go.Proofs
open Go.Am
variable (lb : Bool)
theorem ext_len {L : List Lk} {to : Bs} : ∀ (s : Nat) (w x : List Bs), x ∈ extB L to s w → x.length = w.length + s
  | 0, w, x, h => by
    unfold extB at h
    split at h
    · simp at h; rw [h]; rfl
    · cases h
  | s + 1, w, x, h => by
    unfold extB at h
    split at h
    · cases h
    · obtain ⟨v, h1, h2⟩ := List.mem_flatMap.1 h
      rw [ext_len s v x h2, kidsB_mem h1]
      omega
theorem upTo_len {L : List Lk} {to a : Bs} {m : Nat} {x : List Bs} (h : x ∈ upTo L to m [[a]]) : 2 ≤ x.length ∧ x.length ≤ m + 1 := by
  obtain ⟨k, h1, h2⟩ := List.mem_flatMap.1 h
  have h3 : x ∈ extB L to (k + 1) [a] := by simpa using h2
  have := ext_len _ _ _ h3
  have := List.mem_range.1 h1
  simp at *
  omega
theorem waysR_shape (L : List Lk) (a b : Bs) (m : Int) : ∃ fl W e, waysR L a b m = .tup [.list fl (wcv W), .int .i64 e] ∧ W.length ≤ 1024 ∧ ∀ w ∈ W, w.length ≤ 100 := by
  unfold waysR
  split
  · exact ⟨true, [], 2, rfl, by simp, fun w h => by cases h⟩
  · rename_i hm
    split
    · exact ⟨false, [[a, b]], 0, rfl, by simp, by simp⟩
    · unfold waysV
      split
      · rename_i hl
        refine ⟨_, _, 0, rfl, hl, fun w h => ?_⟩
        have := (upTo_len h).2
        omega
      · exact ⟨true, [], 4, rfl, by simp, fun w h => by cases h⟩
theorem rways_same (num miles : Int) (an : Bool) (L : List Lk) (a b : Bs) (m : Int) (fl : Bool) (W : Ws) (e : Int) (r : CV) (hW : W.length ≤ 1024) (hw : ∀ w ∈ W, w.length ≤ 100) :
    Evt fun n => l22_RoutingWays_L1 lb n n num an (lcv L) miles a b m (.list fl (wcv W)) (.int .i64 e) (.list fl (wcv W)) (.int .i64 e) r r 0 = some (.bool true) := by
  refine Evt.diag (m := W.length) (loopL (enc := wenc) (l := W) (by omega) (P := fun p t n k => l22_RoutingWays_L1 lb n k num an (lcv L) miles a b m (.list fl (wcv W)) (.int .i64 e) (.list fl (wcv W)) (.int .i64 e) r r (p.length : Int) = some (.bool true)) ?_ ?_ W [] rfl)
  · refine (wake22 lb).mono fun n hn k => ?_
    rw [l22_RoutingWays_L1_succ]
    refine stO _ rfl (stF (decF (by show ¬ (W.length : Int) < ((wcv W).length : Int); rw [wcv_len]; omega)) ?_)
    rw [l22_RoutingWays_J2_eq]
    exact hn
  · intro p w t hp hlt hat hwr hev
    refine Evt.imp2 hev (r01_Same_ret lb false false w w (by have := hw w (by rw [← hp]; simp); omega)) fun n hn hs k hk => ?_
    rw [l22_RoutingWays_L1_succ]
    refine stO _ rfl (stT (decT hlt) (stO _ rfl (stO _ hat (stC rfl (stO _ rfl (stO _ rfl (stO _ hat (stC rfl (stO _ rfl (stO _ hs (stO _ rfl (stF (by simp) ?_))))))))))))
    rw [hwr]
    exact hn k hk
theorem routingWays_ok (num miles : Int) (an : Bool) (L : List Lk) (hl : ∀ x ∈ L, x.1.length ≤ 281474976710656 ∧ x.2.length ≤ 281474976710656) (a b : Bs) (m : Int) : Ret lb F_l22_RoutingWays [rcv num an L miles, .str a, .str b, .int .i64 m] (.bool true) := by
  refine .top rfl (.eq (fun n => by rw [l22_RoutingWays_eq]) ?_)
  by_cases h14 : ((lcv L).length : Int) > 14
  · exact (wake22 lb).mono fun n hn => stT (decT h14) hn
  have hL : L.length ≤ 14 := by rw [lcv_len] at h14; omega
  have e0 := big_ret lb num miles an L hl
  cases hb : bigB L with
  | true =>
    rw [hb] at e0
    exact Evt.imp2 e0 (wake22 lb) fun n a1 hn => stF (decF h14) (stO _ a1 (stO _ rfl (stT rfl hn)))
  | false =>
    rw [hb] at e0
    obtain ⟨h1, h2⟩ := small_links hb
    have h3 : ∀ x ∈ L, x.1.length ≤ 1000000000 ∧ x.2.length ≤ 1000000000 := fun x hx => ⟨by have := (h2 x hx).1; omega, by have := (h2 x hx).2; omega⟩
    have e1 := r22_Check_ret lb num miles an L h3
    by_cases hf : ((fcv (checkF num L miles)).length : Int) > 0
    · exact Evt.imp2 (Evt.and e0 e1) (wake22 lb) fun n ⟨a0, a1⟩ hn => stF (decF h14) (stO _ a0 (stO _ rfl (stF rfl (stO _ a1 (stO _ rfl (stT (decT hf) hn))))))
    by_cases h100 : IntKind.wrap .i64 ((a.length : Int) + (b.length : Int)) > 100
    · exact Evt.imp2 (Evt.and e0 e1) (wake22 lb) fun n ⟨a0, a1⟩ hn => stF (decF h14) (stO _ a0 (stO _ rfl (stF rfl (stO _ a1 (stO _ rfl (stF (decF hf) (stT (decT h100) hn)))))))
    obtain ⟨fl, W, e, hs, hW, hw⟩ := waysR_shape L a b m
    have e2 := routing_Ways_ret lb num miles an L (by omega) a b m
    have e3 := r22_Ways_ret lb num miles an L hL a b m
    have e4 := rways_same lb num miles an L a b m fl W e (waysR L a b m) hW hw
    rw [hs] at e2 e3 e4
    exact Evt.imp2 (Evt.and e0 e1) (Evt.and (Evt.and e2 e3) e4) fun n ⟨a0, a1⟩ ⟨⟨a2, a3⟩, a4⟩ => stF (decF h14) (stO _ a0 (stO _ rfl (stF rfl (stO _ a1 (stO _ rfl (stF (decF hf) (stF (decF h100) (stO _ a2 (stO _ rfl (stO _ rfl (stO _ rfl (stO _ rfl (stO _ a3 (stO _ rfl (stO _ rfl (stO _ rfl (stO _ rfl (stO _ (asI_i ..) (stO _ (asI_i ..) (stF (bneF rfl) (stO _ rfl (stO _ rfl (stF (bneF rfl) a4)))))))))))))))))))))))
end Go.Proofs
