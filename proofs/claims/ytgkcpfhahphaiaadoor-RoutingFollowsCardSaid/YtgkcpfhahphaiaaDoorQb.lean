/- The search of ways answers as on plain data, one copy a depth; printed by mkwalk.py. Conditions: none. -/
import Derived.Test.YtgkcpfhahphaiaaDoorQa
set_option linter.unusedVariables false
namespace Go.Proofs
open Go.Am
variable (lb : Bool)
/-- the search at depth 7 answers as the plain one -/
def WK7 (an : Bool) (L : List Lk) (to : Bs) (s : Nat) (w : List Bs) (n : Nat) : Prop :=
  ∀ (K : AV → List (List (Option (List AV))) → Option CV) (g : Int) (gb : Bool) (gl : List (List CV)) (gm : Int) (v0 v1 v2 v3 v4 v5 v6 v7 v8 v9 v10 v11 : CV) (W : Ws), W.length ≤ 1024 →
    routing_search_walk_d7 lb (I3 lb n) n K false (scv w) (s : Int) an (lcv L) to W.isEmpty (wcv W) g gb gl gm v0 v1 v2 v3 v4 v5 v6 v7 v8 v9 v10 v11 =
      K (.val (.bool ((walkB L to s w W).1))) [bx 50 [(4, some [.val (.int .i64 g), .val (.list gb gl), .val (.int .i64 gm)]), (10, some [.val (.list an (lcv L)), .val (.str to), .lst true (((walkB L to s w W).2).isEmpty) 34 (wcv ((walkB L to s w W).2))])], bx 77 [(9, some [.val v0, .val v1])], bx 77 [(9, some [.val v2, .val v3])], bx 77 [(9, some [.val v4, .val v5])], bx 77 [(9, some [.val v6, .val v7])], bx 77 [(9, some [.val v8, .val v9])], bx 77 [(9, some [.val v10, .val v11])]]
theorem walk_d7 (an : Bool) (L : List Lk) (hL : L.length ≤ 1000) (to : Bs) (s : Nat) (hs : s + 7 ≤ 7) (w : List Bs) (hw0 : w ≠ []) (hw : w.length ≤ 7) : Evt fun n => WK7 lb an L to s w n := by
  cases s with
  | zero =>
    refine .all fun n K g gb gl gm v0 v1 v2 v3 v4 v5 v6 v7 v8 v9 v10 v11 W hW => ?_
    rw [routing_search_walk_d7_eq]
    refine stO _ (last_at hw0 (by omega)) (stC rfl (stO _ rfl (stT rfl (stO _ rfl ?_))))
    by_cases e : lastB w = to
    · refine stT (by simp [e]) (stC (room_ok (by rw [wcv_len]; omega)) ?_)
      rw [walkB_0t e, wcv_snoc, nil_snoc W.isEmpty W w, wcv_dec]
    · refine stF (by simp [e]) ?_
      rw [walkB_0f e, wcv_dec]
  | succ s =>
    exact absurd hs (by omega)
/-- the search at depth 6 answers as the plain one -/
def WK6 (an : Bool) (L : List Lk) (to : Bs) (s : Nat) (w : List Bs) (n : Nat) : Prop :=
  ∀ (K : AV → List (List (Option (List AV))) → Option CV) (g : Int) (gb : Bool) (gl : List (List CV)) (gm : Int) (v0 v1 v2 v3 v4 v5 v6 v7 v8 v9 : CV) (W : Ws), W.length ≤ 1024 →
    routing_search_walk_d6 lb (I4 lb n) n K false (scv w) (s : Int) an (lcv L) to W.isEmpty (wcv W) g gb gl gm v0 v1 v2 v3 v4 v5 v6 v7 v8 v9 =
      K (.val (.bool ((walkB L to s w W).1))) [bx 50 [(4, some [.val (.int .i64 g), .val (.list gb gl), .val (.int .i64 gm)]), (10, some [.val (.list an (lcv L)), .val (.str to), .lst true (((walkB L to s w W).2).isEmpty) 34 (wcv ((walkB L to s w W).2))])], bx 77 [(9, some [.val v0, .val v1])], bx 77 [(9, some [.val v2, .val v3])], bx 77 [(9, some [.val v4, .val v5])], bx 77 [(9, some [.val v6, .val v7])], bx 77 [(9, some [.val v8, .val v9])]]
theorem loop6 (an : Bool) (L : List Lk) (hL : L.length ≤ 1000) (to : Bs) (s : Nat) (hs : s ≤ 1000) (w : List Bs) (hw : w.length ≤ 100) (n : Nat) (h1 : ∀ x ∈ L, C lb n F_slices_Contains_string [.list false (scv w), .str x.2] = some (.bool (decide (x.2 ∈ w))))
    (h2 : C lb n F_slices_Clip_string [.list false (scv w)] = some (.list false (scv w))) (h3 : ∀ x ∈ L, WK7 lb an L to s (w ++ [x.2]) n)
    (K : AV → List (List (Option (List AV))) → Option CV) (g : Int) (gb : Bool) (gl : List (List CV)) (gm : Int) (v0 v1 v2 v3 v4 v5 v6 v7 v8 v9 : CV) : ∀ t p, p ++ t = L → ∀ k, t.length < k → ∀ W : Ws, W.length ≤ 1024 →
    routing_search_walk_6_L1 lb (I3 lb n) n k K false (scv w) ((s + 1 : Nat) : Int) (.str (lastB w)) [.str (lastB w)] an (lcv L) g gb gl gm to v0 v1 v2 v3 v4 v5 v6 v7 v8 v9 (p.length : Int) W.isEmpty (wcv W) =
      K (.val (.bool ((goB (walkB L to s) w t W).1))) [bx 50 [(4, some [.val (.int .i64 g), .val (.list gb gl), .val (.int .i64 gm)]), (10, some [.val (.list an (lcv L)), .val (.str to), .lst true (((goB (walkB L to s) w t W).2).isEmpty) 34 (wcv ((goB (walkB L to s) w t W).2))])], bx 77 [(9, some [.val v0, .val v1])], bx 77 [(9, some [.val v2, .val v3])], bx 77 [(9, some [.val v4, .val v5])], bx 77 [(9, some [.val v6, .val v7])], bx 77 [(9, some [.val v8, .val v9])]] := by
  intro t
  induction t with
  | nil =>
    intro p hp k hk W hW
    obtain ⟨k, rfl⟩ : ∃ m, k = m + 1 := ⟨k - 1, by simp at hk; omega⟩
    have hpa : p = L := by simpa using hp
    rw [routing_search_walk_6_L1_succ]
    refine stF (decF (by rw [hpa, lcv_len]; omega)) ?_
    rw [routing_search_walk_6_J3_eq]
    rfl
  | cons x t ih =>
    intro p hp k hk W hW
    obtain ⟨k, rfl⟩ : ∃ m, k = m + 1 := ⟨k - 1, by simp at hk; omega⟩
    have hal : L.length = p.length + (t.length + 1) := by rw [← hp]; simp
    have hat := lcv_at (l := L) (i := p.length) (x := x) (by rw [← hp]; simp)
    have hx : x ∈ L := by rw [← hp]; simp
    have hkt : t.length < k := by simp at hk; omega
    have hi : IntKind.wrap .i64 ((p.length : Int) + 1) = ((p ++ [x]).length : Int) := by rw [wrap64 (by omega) (by omega)]; simp
    have ihn := ih (p ++ [x]) (by rw [← hp]; simp) k hkt
    rw [routing_search_walk_6_L1_succ]
    refine stT (decT (by rw [lcv_len]; omega)) (stO _ hat (stC rfl (stO _ rfl (stO _ rfl (stO _ rfl (stO _ rfl ?_))))))
    by_cases e1 : x.1 = lastB w
    · refine stF (by simp [e1]) (stO _ (h1 x hx) (stO _ rfl ?_))
      by_cases e2 : x.2 ∈ w
      · refine stT (decT e2) ?_
        rw [hi, goB_skip _ _ _ (Or.inr e2)]
        exact ihn W hW
      · refine stF (decF e2) (stO _ h2 (stO _ rfl (stC rfl (stC (room_ok (by rw [scv_len]; omega)) ?_))))
        rw [show IntKind.wrap .i64 (((s + 1 : Nat) : Int) - 1) = (s : Int) by rw [wrap64 (by omega) (by omega)]; omega]
        have h4 := h3 x hx (routing_search_walk_6_c2 lb (I3 lb n) n false (scv w) ((s + 1 : Nat) : Int) (.str (lastB w)) [.str (lastB w)] an (lcv L) (p.length : Int) [.str x.1, .str x.2] (.str x.1) (.str x.2) (false, scv w) g gb gl gm to W.isEmpty (wcv W) v0 v1 v2 v3 v4 v5 v6 v7 v8 v9 K k) g gb gl gm v0 v1 v2 v3 v4 v5 v6 v7 v8 v9 (.str x.1) (.str x.2) W hW
        rw [scv_app] at h4
        refine Eq.trans h4 ?_
        rw [routing_search_walk_6_c2_eq, hi]
        cases hb : (walkB L to s (w ++ [x.2]) W).1
        · rw [goB_stop _ _ _ e1 e2 hb]
          rfl
        · rw [goB_step _ _ _ e1 e2 hb]
          exact ihn _ (walk_small hW hb)
    · refine stT (by simp [e1]) ?_
      rw [hi, goB_skip _ _ _ (Or.inl e1)]
      exact ihn W hW
theorem walk_d6 (an : Bool) (L : List Lk) (hL : L.length ≤ 1000) (to : Bs) (s : Nat) (hs : s + 6 ≤ 7) (w : List Bs) (hw0 : w ≠ []) (hw : w.length ≤ 6) : Evt fun n => WK6 lb an L to s w n := by
  cases s with
  | zero =>
    refine .all fun n K g gb gl gm v0 v1 v2 v3 v4 v5 v6 v7 v8 v9 W hW => ?_
    rw [routing_search_walk_d6_eq]
    refine stO _ (last_at hw0 (by omega)) (stC rfl (stO _ rfl (stT rfl (stO _ rfl ?_))))
    by_cases e : lastB w = to
    · refine stT (by simp [e]) (stC (room_ok (by rw [wcv_len]; omega)) ?_)
      rw [walkB_0t e, wcv_snoc, nil_snoc W.isEmpty W w, wcv_dec]
    · refine stF (by simp [e]) ?_
      rw [walkB_0f e, wcv_dec]
  | succ s =>
    refine Evt.imp2 (Evt.and (Evt.fin L fun x _ => contains_str_ret lb false w x.2 (by omega)) (clip_ret lb false w)) (Evt.and (Evt.fin L fun x _ => walk_d7 lb an L hL to s (by omega) (w ++ [x.2]) (by simp) (by simp; omega)) (Evt.ge (L.length + 1))) fun n h g K g1 gb gl gm v0 v1 v2 v3 v4 v5 v6 v7 v8 v9 W hW => ?_
    rw [routing_search_walk_d6_eq]
    refine stO _ (last_at hw0 (by omega)) (stC rfl (stO _ rfl (stF (beqF (by omega)) (stO _ rfl ?_))))
    by_cases e : lastB w = to
    · refine stT (by simp [e]) ?_
      rw [walkB_at e]
    · refine stF (by simp [e]) ?_
      rw [walkB_go e]
      exact loop6 lb an L hL to s (by omega) w (by omega) n h.1 h.2 g.1 K g1 gb gl gm v0 v1 v2 v3 v4 v5 v6 v7 v8 v9 L [] rfl n (by have := g.2; omega) W hW
/-- the search at depth 5 answers as the plain one -/
def WK5 (an : Bool) (L : List Lk) (to : Bs) (s : Nat) (w : List Bs) (n : Nat) : Prop :=
  ∀ (K : AV → List (List (Option (List AV))) → Option CV) (g : Int) (gb : Bool) (gl : List (List CV)) (gm : Int) (v0 v1 v2 v3 v4 v5 v6 v7 : CV) (W : Ws), W.length ≤ 1024 →
    routing_search_walk_d5 lb (I5 lb n) n K false (scv w) (s : Int) an (lcv L) to W.isEmpty (wcv W) g gb gl gm v0 v1 v2 v3 v4 v5 v6 v7 =
      K (.val (.bool ((walkB L to s w W).1))) [bx 50 [(4, some [.val (.int .i64 g), .val (.list gb gl), .val (.int .i64 gm)]), (10, some [.val (.list an (lcv L)), .val (.str to), .lst true (((walkB L to s w W).2).isEmpty) 34 (wcv ((walkB L to s w W).2))])], bx 77 [(9, some [.val v0, .val v1])], bx 77 [(9, some [.val v2, .val v3])], bx 77 [(9, some [.val v4, .val v5])], bx 77 [(9, some [.val v6, .val v7])]]
theorem loop5 (an : Bool) (L : List Lk) (hL : L.length ≤ 1000) (to : Bs) (s : Nat) (hs : s ≤ 1000) (w : List Bs) (hw : w.length ≤ 100) (n : Nat) (h1 : ∀ x ∈ L, C lb n F_slices_Contains_string [.list false (scv w), .str x.2] = some (.bool (decide (x.2 ∈ w))))
    (h2 : C lb n F_slices_Clip_string [.list false (scv w)] = some (.list false (scv w))) (h3 : ∀ x ∈ L, WK6 lb an L to s (w ++ [x.2]) n)
    (K : AV → List (List (Option (List AV))) → Option CV) (g : Int) (gb : Bool) (gl : List (List CV)) (gm : Int) (v0 v1 v2 v3 v4 v5 v6 v7 : CV) : ∀ t p, p ++ t = L → ∀ k, t.length < k → ∀ W : Ws, W.length ≤ 1024 →
    routing_search_walk_5_L1 lb (I4 lb n) n k K false (scv w) ((s + 1 : Nat) : Int) (.str (lastB w)) [.str (lastB w)] an (lcv L) g gb gl gm to v0 v1 v2 v3 v4 v5 v6 v7 (p.length : Int) W.isEmpty (wcv W) =
      K (.val (.bool ((goB (walkB L to s) w t W).1))) [bx 50 [(4, some [.val (.int .i64 g), .val (.list gb gl), .val (.int .i64 gm)]), (10, some [.val (.list an (lcv L)), .val (.str to), .lst true (((goB (walkB L to s) w t W).2).isEmpty) 34 (wcv ((goB (walkB L to s) w t W).2))])], bx 77 [(9, some [.val v0, .val v1])], bx 77 [(9, some [.val v2, .val v3])], bx 77 [(9, some [.val v4, .val v5])], bx 77 [(9, some [.val v6, .val v7])]] := by
  intro t
  induction t with
  | nil =>
    intro p hp k hk W hW
    obtain ⟨k, rfl⟩ : ∃ m, k = m + 1 := ⟨k - 1, by simp at hk; omega⟩
    have hpa : p = L := by simpa using hp
    rw [routing_search_walk_5_L1_succ]
    refine stF (decF (by rw [hpa, lcv_len]; omega)) ?_
    rw [routing_search_walk_5_J3_eq]
    rfl
  | cons x t ih =>
    intro p hp k hk W hW
    obtain ⟨k, rfl⟩ : ∃ m, k = m + 1 := ⟨k - 1, by simp at hk; omega⟩
    have hal : L.length = p.length + (t.length + 1) := by rw [← hp]; simp
    have hat := lcv_at (l := L) (i := p.length) (x := x) (by rw [← hp]; simp)
    have hx : x ∈ L := by rw [← hp]; simp
    have hkt : t.length < k := by simp at hk; omega
    have hi : IntKind.wrap .i64 ((p.length : Int) + 1) = ((p ++ [x]).length : Int) := by rw [wrap64 (by omega) (by omega)]; simp
    have ihn := ih (p ++ [x]) (by rw [← hp]; simp) k hkt
    rw [routing_search_walk_5_L1_succ]
    refine stT (decT (by rw [lcv_len]; omega)) (stO _ hat (stC rfl (stO _ rfl (stO _ rfl (stO _ rfl (stO _ rfl ?_))))))
    by_cases e1 : x.1 = lastB w
    · refine stF (by simp [e1]) (stO _ (h1 x hx) (stO _ rfl ?_))
      by_cases e2 : x.2 ∈ w
      · refine stT (decT e2) ?_
        rw [hi, goB_skip _ _ _ (Or.inr e2)]
        exact ihn W hW
      · refine stF (decF e2) (stO _ h2 (stO _ rfl (stC rfl (stC (room_ok (by rw [scv_len]; omega)) ?_))))
        rw [show IntKind.wrap .i64 (((s + 1 : Nat) : Int) - 1) = (s : Int) by rw [wrap64 (by omega) (by omega)]; omega]
        have h4 := h3 x hx (routing_search_walk_5_c2 lb (I4 lb n) n false (scv w) ((s + 1 : Nat) : Int) (.str (lastB w)) [.str (lastB w)] an (lcv L) (p.length : Int) [.str x.1, .str x.2] (.str x.1) (.str x.2) (false, scv w) g gb gl gm to W.isEmpty (wcv W) v0 v1 v2 v3 v4 v5 v6 v7 K k) g gb gl gm v0 v1 v2 v3 v4 v5 v6 v7 (.str x.1) (.str x.2) W hW
        rw [scv_app] at h4
        refine Eq.trans h4 ?_
        rw [routing_search_walk_5_c2_eq, hi]
        cases hb : (walkB L to s (w ++ [x.2]) W).1
        · rw [goB_stop _ _ _ e1 e2 hb]
          rfl
        · rw [goB_step _ _ _ e1 e2 hb]
          exact ihn _ (walk_small hW hb)
    · refine stT (by simp [e1]) ?_
      rw [hi, goB_skip _ _ _ (Or.inl e1)]
      exact ihn W hW
theorem walk_d5 (an : Bool) (L : List Lk) (hL : L.length ≤ 1000) (to : Bs) (s : Nat) (hs : s + 5 ≤ 7) (w : List Bs) (hw0 : w ≠ []) (hw : w.length ≤ 5) : Evt fun n => WK5 lb an L to s w n := by
  cases s with
  | zero =>
    refine .all fun n K g gb gl gm v0 v1 v2 v3 v4 v5 v6 v7 W hW => ?_
    rw [routing_search_walk_d5_eq]
    refine stO _ (last_at hw0 (by omega)) (stC rfl (stO _ rfl (stT rfl (stO _ rfl ?_))))
    by_cases e : lastB w = to
    · refine stT (by simp [e]) (stC (room_ok (by rw [wcv_len]; omega)) ?_)
      rw [walkB_0t e, wcv_snoc, nil_snoc W.isEmpty W w, wcv_dec]
    · refine stF (by simp [e]) ?_
      rw [walkB_0f e, wcv_dec]
  | succ s =>
    refine Evt.imp2 (Evt.and (Evt.fin L fun x _ => contains_str_ret lb false w x.2 (by omega)) (clip_ret lb false w)) (Evt.and (Evt.fin L fun x _ => walk_d6 lb an L hL to s (by omega) (w ++ [x.2]) (by simp) (by simp; omega)) (Evt.ge (L.length + 1))) fun n h g K g1 gb gl gm v0 v1 v2 v3 v4 v5 v6 v7 W hW => ?_
    rw [routing_search_walk_d5_eq]
    refine stO _ (last_at hw0 (by omega)) (stC rfl (stO _ rfl (stF (beqF (by omega)) (stO _ rfl ?_))))
    by_cases e : lastB w = to
    · refine stT (by simp [e]) ?_
      rw [walkB_at e]
    · refine stF (by simp [e]) ?_
      rw [walkB_go e]
      exact loop5 lb an L hL to s (by omega) w (by omega) n h.1 h.2 g.1 K g1 gb gl gm v0 v1 v2 v3 v4 v5 v6 v7 L [] rfl n (by have := g.2; omega) W hW
/-- the search at depth 4 answers as the plain one -/
def WK4 (an : Bool) (L : List Lk) (to : Bs) (s : Nat) (w : List Bs) (n : Nat) : Prop :=
  ∀ (K : AV → List (List (Option (List AV))) → Option CV) (g : Int) (gb : Bool) (gl : List (List CV)) (gm : Int) (v0 v1 v2 v3 v4 v5 : CV) (W : Ws), W.length ≤ 1024 →
    routing_search_walk_d4 lb (I6 lb n) n K false (scv w) (s : Int) an (lcv L) to W.isEmpty (wcv W) g gb gl gm v0 v1 v2 v3 v4 v5 =
      K (.val (.bool ((walkB L to s w W).1))) [bx 50 [(4, some [.val (.int .i64 g), .val (.list gb gl), .val (.int .i64 gm)]), (10, some [.val (.list an (lcv L)), .val (.str to), .lst true (((walkB L to s w W).2).isEmpty) 34 (wcv ((walkB L to s w W).2))])], bx 77 [(9, some [.val v0, .val v1])], bx 77 [(9, some [.val v2, .val v3])], bx 77 [(9, some [.val v4, .val v5])]]
theorem loop4 (an : Bool) (L : List Lk) (hL : L.length ≤ 1000) (to : Bs) (s : Nat) (hs : s ≤ 1000) (w : List Bs) (hw : w.length ≤ 100) (n : Nat) (h1 : ∀ x ∈ L, C lb n F_slices_Contains_string [.list false (scv w), .str x.2] = some (.bool (decide (x.2 ∈ w))))
    (h2 : C lb n F_slices_Clip_string [.list false (scv w)] = some (.list false (scv w))) (h3 : ∀ x ∈ L, WK5 lb an L to s (w ++ [x.2]) n)
    (K : AV → List (List (Option (List AV))) → Option CV) (g : Int) (gb : Bool) (gl : List (List CV)) (gm : Int) (v0 v1 v2 v3 v4 v5 : CV) : ∀ t p, p ++ t = L → ∀ k, t.length < k → ∀ W : Ws, W.length ≤ 1024 →
    routing_search_walk_4_L1 lb (I5 lb n) n k K false (scv w) ((s + 1 : Nat) : Int) (.str (lastB w)) [.str (lastB w)] an (lcv L) g gb gl gm to v0 v1 v2 v3 v4 v5 (p.length : Int) W.isEmpty (wcv W) =
      K (.val (.bool ((goB (walkB L to s) w t W).1))) [bx 50 [(4, some [.val (.int .i64 g), .val (.list gb gl), .val (.int .i64 gm)]), (10, some [.val (.list an (lcv L)), .val (.str to), .lst true (((goB (walkB L to s) w t W).2).isEmpty) 34 (wcv ((goB (walkB L to s) w t W).2))])], bx 77 [(9, some [.val v0, .val v1])], bx 77 [(9, some [.val v2, .val v3])], bx 77 [(9, some [.val v4, .val v5])]] := by
  intro t
  induction t with
  | nil =>
    intro p hp k hk W hW
    obtain ⟨k, rfl⟩ : ∃ m, k = m + 1 := ⟨k - 1, by simp at hk; omega⟩
    have hpa : p = L := by simpa using hp
    rw [routing_search_walk_4_L1_succ]
    refine stF (decF (by rw [hpa, lcv_len]; omega)) ?_
    rw [routing_search_walk_4_J3_eq]
    rfl
  | cons x t ih =>
    intro p hp k hk W hW
    obtain ⟨k, rfl⟩ : ∃ m, k = m + 1 := ⟨k - 1, by simp at hk; omega⟩
    have hal : L.length = p.length + (t.length + 1) := by rw [← hp]; simp
    have hat := lcv_at (l := L) (i := p.length) (x := x) (by rw [← hp]; simp)
    have hx : x ∈ L := by rw [← hp]; simp
    have hkt : t.length < k := by simp at hk; omega
    have hi : IntKind.wrap .i64 ((p.length : Int) + 1) = ((p ++ [x]).length : Int) := by rw [wrap64 (by omega) (by omega)]; simp
    have ihn := ih (p ++ [x]) (by rw [← hp]; simp) k hkt
    rw [routing_search_walk_4_L1_succ]
    refine stT (decT (by rw [lcv_len]; omega)) (stO _ hat (stC rfl (stO _ rfl (stO _ rfl (stO _ rfl (stO _ rfl ?_))))))
    by_cases e1 : x.1 = lastB w
    · refine stF (by simp [e1]) (stO _ (h1 x hx) (stO _ rfl ?_))
      by_cases e2 : x.2 ∈ w
      · refine stT (decT e2) ?_
        rw [hi, goB_skip _ _ _ (Or.inr e2)]
        exact ihn W hW
      · refine stF (decF e2) (stO _ h2 (stO _ rfl (stC rfl (stC (room_ok (by rw [scv_len]; omega)) ?_))))
        rw [show IntKind.wrap .i64 (((s + 1 : Nat) : Int) - 1) = (s : Int) by rw [wrap64 (by omega) (by omega)]; omega]
        have h4 := h3 x hx (routing_search_walk_4_c2 lb (I5 lb n) n false (scv w) ((s + 1 : Nat) : Int) (.str (lastB w)) [.str (lastB w)] an (lcv L) (p.length : Int) [.str x.1, .str x.2] (.str x.1) (.str x.2) (false, scv w) g gb gl gm to W.isEmpty (wcv W) v0 v1 v2 v3 v4 v5 K k) g gb gl gm v0 v1 v2 v3 v4 v5 (.str x.1) (.str x.2) W hW
        rw [scv_app] at h4
        refine Eq.trans h4 ?_
        rw [routing_search_walk_4_c2_eq, hi]
        cases hb : (walkB L to s (w ++ [x.2]) W).1
        · rw [goB_stop _ _ _ e1 e2 hb]
          rfl
        · rw [goB_step _ _ _ e1 e2 hb]
          exact ihn _ (walk_small hW hb)
    · refine stT (by simp [e1]) ?_
      rw [hi, goB_skip _ _ _ (Or.inl e1)]
      exact ihn W hW
theorem walk_d4 (an : Bool) (L : List Lk) (hL : L.length ≤ 1000) (to : Bs) (s : Nat) (hs : s + 4 ≤ 7) (w : List Bs) (hw0 : w ≠ []) (hw : w.length ≤ 4) : Evt fun n => WK4 lb an L to s w n := by
  cases s with
  | zero =>
    refine .all fun n K g gb gl gm v0 v1 v2 v3 v4 v5 W hW => ?_
    rw [routing_search_walk_d4_eq]
    refine stO _ (last_at hw0 (by omega)) (stC rfl (stO _ rfl (stT rfl (stO _ rfl ?_))))
    by_cases e : lastB w = to
    · refine stT (by simp [e]) (stC (room_ok (by rw [wcv_len]; omega)) ?_)
      rw [walkB_0t e, wcv_snoc, nil_snoc W.isEmpty W w, wcv_dec]
    · refine stF (by simp [e]) ?_
      rw [walkB_0f e, wcv_dec]
  | succ s =>
    refine Evt.imp2 (Evt.and (Evt.fin L fun x _ => contains_str_ret lb false w x.2 (by omega)) (clip_ret lb false w)) (Evt.and (Evt.fin L fun x _ => walk_d5 lb an L hL to s (by omega) (w ++ [x.2]) (by simp) (by simp; omega)) (Evt.ge (L.length + 1))) fun n h g K g1 gb gl gm v0 v1 v2 v3 v4 v5 W hW => ?_
    rw [routing_search_walk_d4_eq]
    refine stO _ (last_at hw0 (by omega)) (stC rfl (stO _ rfl (stF (beqF (by omega)) (stO _ rfl ?_))))
    by_cases e : lastB w = to
    · refine stT (by simp [e]) ?_
      rw [walkB_at e]
    · refine stF (by simp [e]) ?_
      rw [walkB_go e]
      exact loop4 lb an L hL to s (by omega) w (by omega) n h.1 h.2 g.1 K g1 gb gl gm v0 v1 v2 v3 v4 v5 L [] rfl n (by have := g.2; omega) W hW
/-- the search at depth 3 answers as the plain one -/
def WK3 (an : Bool) (L : List Lk) (to : Bs) (s : Nat) (w : List Bs) (n : Nat) : Prop :=
  ∀ (K : AV → List (List (Option (List AV))) → Option CV) (g : Int) (gb : Bool) (gl : List (List CV)) (gm : Int) (v0 v1 v2 v3 : CV) (W : Ws), W.length ≤ 1024 →
    routing_search_walk_d3 lb (I7 lb n) n K false (scv w) (s : Int) an (lcv L) to W.isEmpty (wcv W) g gb gl gm v0 v1 v2 v3 =
      K (.val (.bool ((walkB L to s w W).1))) [bx 50 [(4, some [.val (.int .i64 g), .val (.list gb gl), .val (.int .i64 gm)]), (10, some [.val (.list an (lcv L)), .val (.str to), .lst true (((walkB L to s w W).2).isEmpty) 34 (wcv ((walkB L to s w W).2))])], bx 77 [(9, some [.val v0, .val v1])], bx 77 [(9, some [.val v2, .val v3])]]
theorem loop3 (an : Bool) (L : List Lk) (hL : L.length ≤ 1000) (to : Bs) (s : Nat) (hs : s ≤ 1000) (w : List Bs) (hw : w.length ≤ 100) (n : Nat) (h1 : ∀ x ∈ L, C lb n F_slices_Contains_string [.list false (scv w), .str x.2] = some (.bool (decide (x.2 ∈ w))))
    (h2 : C lb n F_slices_Clip_string [.list false (scv w)] = some (.list false (scv w))) (h3 : ∀ x ∈ L, WK4 lb an L to s (w ++ [x.2]) n)
    (K : AV → List (List (Option (List AV))) → Option CV) (g : Int) (gb : Bool) (gl : List (List CV)) (gm : Int) (v0 v1 v2 v3 : CV) : ∀ t p, p ++ t = L → ∀ k, t.length < k → ∀ W : Ws, W.length ≤ 1024 →
    routing_search_walk_3_L1 lb (I6 lb n) n k K false (scv w) ((s + 1 : Nat) : Int) (.str (lastB w)) [.str (lastB w)] an (lcv L) g gb gl gm to v0 v1 v2 v3 (p.length : Int) W.isEmpty (wcv W) =
      K (.val (.bool ((goB (walkB L to s) w t W).1))) [bx 50 [(4, some [.val (.int .i64 g), .val (.list gb gl), .val (.int .i64 gm)]), (10, some [.val (.list an (lcv L)), .val (.str to), .lst true (((goB (walkB L to s) w t W).2).isEmpty) 34 (wcv ((goB (walkB L to s) w t W).2))])], bx 77 [(9, some [.val v0, .val v1])], bx 77 [(9, some [.val v2, .val v3])]] := by
  intro t
  induction t with
  | nil =>
    intro p hp k hk W hW
    obtain ⟨k, rfl⟩ : ∃ m, k = m + 1 := ⟨k - 1, by simp at hk; omega⟩
    have hpa : p = L := by simpa using hp
    rw [routing_search_walk_3_L1_succ]
    refine stF (decF (by rw [hpa, lcv_len]; omega)) ?_
    rw [routing_search_walk_3_J3_eq]
    rfl
  | cons x t ih =>
    intro p hp k hk W hW
    obtain ⟨k, rfl⟩ : ∃ m, k = m + 1 := ⟨k - 1, by simp at hk; omega⟩
    have hal : L.length = p.length + (t.length + 1) := by rw [← hp]; simp
    have hat := lcv_at (l := L) (i := p.length) (x := x) (by rw [← hp]; simp)
    have hx : x ∈ L := by rw [← hp]; simp
    have hkt : t.length < k := by simp at hk; omega
    have hi : IntKind.wrap .i64 ((p.length : Int) + 1) = ((p ++ [x]).length : Int) := by rw [wrap64 (by omega) (by omega)]; simp
    have ihn := ih (p ++ [x]) (by rw [← hp]; simp) k hkt
    rw [routing_search_walk_3_L1_succ]
    refine stT (decT (by rw [lcv_len]; omega)) (stO _ hat (stC rfl (stO _ rfl (stO _ rfl (stO _ rfl (stO _ rfl ?_))))))
    by_cases e1 : x.1 = lastB w
    · refine stF (by simp [e1]) (stO _ (h1 x hx) (stO _ rfl ?_))
      by_cases e2 : x.2 ∈ w
      · refine stT (decT e2) ?_
        rw [hi, goB_skip _ _ _ (Or.inr e2)]
        exact ihn W hW
      · refine stF (decF e2) (stO _ h2 (stO _ rfl (stC rfl (stC (room_ok (by rw [scv_len]; omega)) ?_))))
        rw [show IntKind.wrap .i64 (((s + 1 : Nat) : Int) - 1) = (s : Int) by rw [wrap64 (by omega) (by omega)]; omega]
        have h4 := h3 x hx (routing_search_walk_3_c2 lb (I6 lb n) n false (scv w) ((s + 1 : Nat) : Int) (.str (lastB w)) [.str (lastB w)] an (lcv L) (p.length : Int) [.str x.1, .str x.2] (.str x.1) (.str x.2) (false, scv w) g gb gl gm to W.isEmpty (wcv W) v0 v1 v2 v3 K k) g gb gl gm v0 v1 v2 v3 (.str x.1) (.str x.2) W hW
        rw [scv_app] at h4
        refine Eq.trans h4 ?_
        rw [routing_search_walk_3_c2_eq, hi]
        cases hb : (walkB L to s (w ++ [x.2]) W).1
        · rw [goB_stop _ _ _ e1 e2 hb]
          rfl
        · rw [goB_step _ _ _ e1 e2 hb]
          exact ihn _ (walk_small hW hb)
    · refine stT (by simp [e1]) ?_
      rw [hi, goB_skip _ _ _ (Or.inl e1)]
      exact ihn W hW
theorem walk_d3 (an : Bool) (L : List Lk) (hL : L.length ≤ 1000) (to : Bs) (s : Nat) (hs : s + 3 ≤ 7) (w : List Bs) (hw0 : w ≠ []) (hw : w.length ≤ 3) : Evt fun n => WK3 lb an L to s w n := by
  cases s with
  | zero =>
    refine .all fun n K g gb gl gm v0 v1 v2 v3 W hW => ?_
    rw [routing_search_walk_d3_eq]
    refine stO _ (last_at hw0 (by omega)) (stC rfl (stO _ rfl (stT rfl (stO _ rfl ?_))))
    by_cases e : lastB w = to
    · refine stT (by simp [e]) (stC (room_ok (by rw [wcv_len]; omega)) ?_)
      rw [walkB_0t e, wcv_snoc, nil_snoc W.isEmpty W w, wcv_dec]
    · refine stF (by simp [e]) ?_
      rw [walkB_0f e, wcv_dec]
  | succ s =>
    refine Evt.imp2 (Evt.and (Evt.fin L fun x _ => contains_str_ret lb false w x.2 (by omega)) (clip_ret lb false w)) (Evt.and (Evt.fin L fun x _ => walk_d4 lb an L hL to s (by omega) (w ++ [x.2]) (by simp) (by simp; omega)) (Evt.ge (L.length + 1))) fun n h g K g1 gb gl gm v0 v1 v2 v3 W hW => ?_
    rw [routing_search_walk_d3_eq]
    refine stO _ (last_at hw0 (by omega)) (stC rfl (stO _ rfl (stF (beqF (by omega)) (stO _ rfl ?_))))
    by_cases e : lastB w = to
    · refine stT (by simp [e]) ?_
      rw [walkB_at e]
    · refine stF (by simp [e]) ?_
      rw [walkB_go e]
      exact loop3 lb an L hL to s (by omega) w (by omega) n h.1 h.2 g.1 K g1 gb gl gm v0 v1 v2 v3 L [] rfl n (by have := g.2; omega) W hW
/-- the search at depth 2 answers as the plain one -/
def WK2 (an : Bool) (L : List Lk) (to : Bs) (s : Nat) (w : List Bs) (n : Nat) : Prop :=
  ∀ (K : AV → List (List (Option (List AV))) → Option CV) (g : Int) (gb : Bool) (gl : List (List CV)) (gm : Int) (v0 v1 : CV) (W : Ws), W.length ≤ 1024 →
    routing_search_walk_d2 lb (I8 lb n) n K false (scv w) (s : Int) an (lcv L) to W.isEmpty (wcv W) g gb gl gm v0 v1 =
      K (.val (.bool ((walkB L to s w W).1))) [bx 50 [(4, some [.val (.int .i64 g), .val (.list gb gl), .val (.int .i64 gm)]), (10, some [.val (.list an (lcv L)), .val (.str to), .lst true (((walkB L to s w W).2).isEmpty) 34 (wcv ((walkB L to s w W).2))])], bx 77 [(9, some [.val v0, .val v1])]]
theorem loop2 (an : Bool) (L : List Lk) (hL : L.length ≤ 1000) (to : Bs) (s : Nat) (hs : s ≤ 1000) (w : List Bs) (hw : w.length ≤ 100) (n : Nat) (h1 : ∀ x ∈ L, C lb n F_slices_Contains_string [.list false (scv w), .str x.2] = some (.bool (decide (x.2 ∈ w))))
    (h2 : C lb n F_slices_Clip_string [.list false (scv w)] = some (.list false (scv w))) (h3 : ∀ x ∈ L, WK3 lb an L to s (w ++ [x.2]) n)
    (K : AV → List (List (Option (List AV))) → Option CV) (g : Int) (gb : Bool) (gl : List (List CV)) (gm : Int) (v0 v1 : CV) : ∀ t p, p ++ t = L → ∀ k, t.length < k → ∀ W : Ws, W.length ≤ 1024 →
    routing_search_walk_2_L1 lb (I7 lb n) n k K false (scv w) ((s + 1 : Nat) : Int) (.str (lastB w)) [.str (lastB w)] an (lcv L) g gb gl gm to v0 v1 (p.length : Int) W.isEmpty (wcv W) =
      K (.val (.bool ((goB (walkB L to s) w t W).1))) [bx 50 [(4, some [.val (.int .i64 g), .val (.list gb gl), .val (.int .i64 gm)]), (10, some [.val (.list an (lcv L)), .val (.str to), .lst true (((goB (walkB L to s) w t W).2).isEmpty) 34 (wcv ((goB (walkB L to s) w t W).2))])], bx 77 [(9, some [.val v0, .val v1])]] := by
  intro t
  induction t with
  | nil =>
    intro p hp k hk W hW
    obtain ⟨k, rfl⟩ : ∃ m, k = m + 1 := ⟨k - 1, by simp at hk; omega⟩
    have hpa : p = L := by simpa using hp
    rw [routing_search_walk_2_L1_succ]
    refine stF (decF (by rw [hpa, lcv_len]; omega)) ?_
    rw [routing_search_walk_2_J3_eq]
    rfl
  | cons x t ih =>
    intro p hp k hk W hW
    obtain ⟨k, rfl⟩ : ∃ m, k = m + 1 := ⟨k - 1, by simp at hk; omega⟩
    have hal : L.length = p.length + (t.length + 1) := by rw [← hp]; simp
    have hat := lcv_at (l := L) (i := p.length) (x := x) (by rw [← hp]; simp)
    have hx : x ∈ L := by rw [← hp]; simp
    have hkt : t.length < k := by simp at hk; omega
    have hi : IntKind.wrap .i64 ((p.length : Int) + 1) = ((p ++ [x]).length : Int) := by rw [wrap64 (by omega) (by omega)]; simp
    have ihn := ih (p ++ [x]) (by rw [← hp]; simp) k hkt
    rw [routing_search_walk_2_L1_succ]
    refine stT (decT (by rw [lcv_len]; omega)) (stO _ hat (stC rfl (stO _ rfl (stO _ rfl (stO _ rfl (stO _ rfl ?_))))))
    by_cases e1 : x.1 = lastB w
    · refine stF (by simp [e1]) (stO _ (h1 x hx) (stO _ rfl ?_))
      by_cases e2 : x.2 ∈ w
      · refine stT (decT e2) ?_
        rw [hi, goB_skip _ _ _ (Or.inr e2)]
        exact ihn W hW
      · refine stF (decF e2) (stO _ h2 (stO _ rfl (stC rfl (stC (room_ok (by rw [scv_len]; omega)) ?_))))
        rw [show IntKind.wrap .i64 (((s + 1 : Nat) : Int) - 1) = (s : Int) by rw [wrap64 (by omega) (by omega)]; omega]
        have h4 := h3 x hx (routing_search_walk_2_c2 lb (I7 lb n) n false (scv w) ((s + 1 : Nat) : Int) (.str (lastB w)) [.str (lastB w)] an (lcv L) (p.length : Int) [.str x.1, .str x.2] (.str x.1) (.str x.2) (false, scv w) g gb gl gm to W.isEmpty (wcv W) v0 v1 K k) g gb gl gm v0 v1 (.str x.1) (.str x.2) W hW
        rw [scv_app] at h4
        refine Eq.trans h4 ?_
        rw [routing_search_walk_2_c2_eq, hi]
        cases hb : (walkB L to s (w ++ [x.2]) W).1
        · rw [goB_stop _ _ _ e1 e2 hb]
          rfl
        · rw [goB_step _ _ _ e1 e2 hb]
          exact ihn _ (walk_small hW hb)
    · refine stT (by simp [e1]) ?_
      rw [hi, goB_skip _ _ _ (Or.inl e1)]
      exact ihn W hW
theorem walk_d2 (an : Bool) (L : List Lk) (hL : L.length ≤ 1000) (to : Bs) (s : Nat) (hs : s + 2 ≤ 7) (w : List Bs) (hw0 : w ≠ []) (hw : w.length ≤ 2) : Evt fun n => WK2 lb an L to s w n := by
  cases s with
  | zero =>
    refine .all fun n K g gb gl gm v0 v1 W hW => ?_
    rw [routing_search_walk_d2_eq]
    refine stO _ (last_at hw0 (by omega)) (stC rfl (stO _ rfl (stT rfl (stO _ rfl ?_))))
    by_cases e : lastB w = to
    · refine stT (by simp [e]) (stC (room_ok (by rw [wcv_len]; omega)) ?_)
      rw [walkB_0t e, wcv_snoc, nil_snoc W.isEmpty W w, wcv_dec]
    · refine stF (by simp [e]) ?_
      rw [walkB_0f e, wcv_dec]
  | succ s =>
    refine Evt.imp2 (Evt.and (Evt.fin L fun x _ => contains_str_ret lb false w x.2 (by omega)) (clip_ret lb false w)) (Evt.and (Evt.fin L fun x _ => walk_d3 lb an L hL to s (by omega) (w ++ [x.2]) (by simp) (by simp; omega)) (Evt.ge (L.length + 1))) fun n h g K g1 gb gl gm v0 v1 W hW => ?_
    rw [routing_search_walk_d2_eq]
    refine stO _ (last_at hw0 (by omega)) (stC rfl (stO _ rfl (stF (beqF (by omega)) (stO _ rfl ?_))))
    by_cases e : lastB w = to
    · refine stT (by simp [e]) ?_
      rw [walkB_at e]
    · refine stF (by simp [e]) ?_
      rw [walkB_go e]
      exact loop2 lb an L hL to s (by omega) w (by omega) n h.1 h.2 g.1 K g1 gb gl gm v0 v1 L [] rfl n (by have := g.2; omega) W hW
/-- the search at depth 1 answers as the plain one -/
def WK1 (an : Bool) (L : List Lk) (to : Bs) (s : Nat) (w : List Bs) (n : Nat) : Prop :=
  ∀ (K : AV → List (List (Option (List AV))) → Option CV) (g : Int) (gb : Bool) (gl : List (List CV)) (gm : Int) (W : Ws), W.length ≤ 1024 →
    routing_search_walk_d1 lb n K false (scv w) (s : Int) an (lcv L) to W.isEmpty (wcv W) g gb gl gm  =
      K (.val (.bool ((walkB L to s w W).1))) [bx 50 [(4, some [.val (.int .i64 g), .val (.list gb gl), .val (.int .i64 gm)]), (10, some [.val (.list an (lcv L)), .val (.str to), .lst true (((walkB L to s w W).2).isEmpty) 34 (wcv ((walkB L to s w W).2))])]]
theorem loop1 (an : Bool) (L : List Lk) (hL : L.length ≤ 1000) (to : Bs) (s : Nat) (hs : s ≤ 1000) (w : List Bs) (hw : w.length ≤ 100) (n : Nat) (h1 : ∀ x ∈ L, C lb n F_slices_Contains_string [.list false (scv w), .str x.2] = some (.bool (decide (x.2 ∈ w))))
    (h2 : C lb n F_slices_Clip_string [.list false (scv w)] = some (.list false (scv w))) (h3 : ∀ x ∈ L, WK2 lb an L to s (w ++ [x.2]) n)
    (K : AV → List (List (Option (List AV))) → Option CV) (g : Int) (gb : Bool) (gl : List (List CV)) (gm : Int) : ∀ t p, p ++ t = L → ∀ k, t.length < k → ∀ W : Ws, W.length ≤ 1024 →
    routing_search_walk_1_L1 lb (I8 lb n) n k K false (scv w) ((s + 1 : Nat) : Int) (.str (lastB w)) [.str (lastB w)] an (lcv L) g gb gl gm to  (p.length : Int) W.isEmpty (wcv W) =
      K (.val (.bool ((goB (walkB L to s) w t W).1))) [bx 50 [(4, some [.val (.int .i64 g), .val (.list gb gl), .val (.int .i64 gm)]), (10, some [.val (.list an (lcv L)), .val (.str to), .lst true (((goB (walkB L to s) w t W).2).isEmpty) 34 (wcv ((goB (walkB L to s) w t W).2))])]] := by
  intro t
  induction t with
  | nil =>
    intro p hp k hk W hW
    obtain ⟨k, rfl⟩ : ∃ m, k = m + 1 := ⟨k - 1, by simp at hk; omega⟩
    have hpa : p = L := by simpa using hp
    rw [routing_search_walk_1_L1_succ]
    refine stF (decF (by rw [hpa, lcv_len]; omega)) ?_
    rw [routing_search_walk_1_J3_eq]
    rfl
  | cons x t ih =>
    intro p hp k hk W hW
    obtain ⟨k, rfl⟩ : ∃ m, k = m + 1 := ⟨k - 1, by simp at hk; omega⟩
    have hal : L.length = p.length + (t.length + 1) := by rw [← hp]; simp
    have hat := lcv_at (l := L) (i := p.length) (x := x) (by rw [← hp]; simp)
    have hx : x ∈ L := by rw [← hp]; simp
    have hkt : t.length < k := by simp at hk; omega
    have hi : IntKind.wrap .i64 ((p.length : Int) + 1) = ((p ++ [x]).length : Int) := by rw [wrap64 (by omega) (by omega)]; simp
    have ihn := ih (p ++ [x]) (by rw [← hp]; simp) k hkt
    rw [routing_search_walk_1_L1_succ]
    refine stT (decT (by rw [lcv_len]; omega)) (stO _ hat (stC rfl (stO _ rfl (stO _ rfl (stO _ rfl (stO _ rfl ?_))))))
    by_cases e1 : x.1 = lastB w
    · refine stF (by simp [e1]) (stO _ (h1 x hx) (stO _ rfl ?_))
      by_cases e2 : x.2 ∈ w
      · refine stT (decT e2) ?_
        rw [hi, goB_skip _ _ _ (Or.inr e2)]
        exact ihn W hW
      · refine stF (decF e2) (stO _ h2 (stO _ rfl (stC rfl (stC (room_ok (by rw [scv_len]; omega)) ?_))))
        rw [show IntKind.wrap .i64 (((s + 1 : Nat) : Int) - 1) = (s : Int) by rw [wrap64 (by omega) (by omega)]; omega]
        have h4 := h3 x hx (routing_search_walk_1_c2 lb (I8 lb n) n false (scv w) ((s + 1 : Nat) : Int) (.str (lastB w)) [.str (lastB w)] an (lcv L) (p.length : Int) [.str x.1, .str x.2] (.str x.1) (.str x.2) (false, scv w) g gb gl gm to W.isEmpty (wcv W)  K k) g gb gl gm  (.str x.1) (.str x.2) W hW
        rw [scv_app] at h4
        refine Eq.trans h4 ?_
        rw [routing_search_walk_1_c2_eq, hi]
        cases hb : (walkB L to s (w ++ [x.2]) W).1
        · rw [goB_stop _ _ _ e1 e2 hb]
          rfl
        · rw [goB_step _ _ _ e1 e2 hb]
          exact ihn _ (walk_small hW hb)
    · refine stT (by simp [e1]) ?_
      rw [hi, goB_skip _ _ _ (Or.inl e1)]
      exact ihn W hW
theorem walk_d1 (an : Bool) (L : List Lk) (hL : L.length ≤ 1000) (to : Bs) (s : Nat) (hs : s + 1 ≤ 7) (w : List Bs) (hw0 : w ≠ []) (hw : w.length ≤ 1) : Evt fun n => WK1 lb an L to s w n := by
  cases s with
  | zero =>
    refine .all fun n K g gb gl gm  W hW => ?_
    rw [routing_search_walk_d1_eq]
    refine stO _ (last_at hw0 (by omega)) (stC rfl (stO _ rfl (stT rfl (stO _ rfl ?_))))
    by_cases e : lastB w = to
    · refine stT (by simp [e]) (stC (room_ok (by rw [wcv_len]; omega)) ?_)
      rw [walkB_0t e, wcv_snoc, nil_snoc W.isEmpty W w, wcv_dec]
    · refine stF (by simp [e]) ?_
      rw [walkB_0f e, wcv_dec]
  | succ s =>
    refine Evt.imp2 (Evt.and (Evt.fin L fun x _ => contains_str_ret lb false w x.2 (by omega)) (clip_ret lb false w)) (Evt.and (Evt.fin L fun x _ => walk_d2 lb an L hL to s (by omega) (w ++ [x.2]) (by simp) (by simp; omega)) (Evt.ge (L.length + 1))) fun n h g K g1 gb gl gm  W hW => ?_
    rw [routing_search_walk_d1_eq]
    refine stO _ (last_at hw0 (by omega)) (stC rfl (stO _ rfl (stF (beqF (by omega)) (stO _ rfl ?_))))
    by_cases e : lastB w = to
    · refine stT (by simp [e]) ?_
      rw [walkB_at e]
    · refine stF (by simp [e]) ?_
      rw [walkB_go e]
      exact loop1 lb an L hL to s (by omega) w (by omega) n h.1 h.2 g.1 K g1 gb gl gm  L [] rfl n (by have := g.2; omega) W hW
end Go.Proofs
