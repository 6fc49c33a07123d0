/- The law JournalAdds on plain data. Conditions: as it says. -/
import Derived.Test.YtiffhngfneikoaaDoorSb
import Derived.Test.YtiffhngfneikoaaDoorG36a
import Derived.Test.YtiffhngfneikoaaDoorRy
set_option linter.unusedSimpArgs false
namespace Go.Proofs
open Go.Am
variable (lb : Bool)
/-- the records of texts -/
def ofL (sum : Int) (i : Nat) : List Bs → List Rc
  | [] => []
  | s :: t => (((i + 1 : Nat) : Int), s, sumB sum s) :: ofL (sumB sum s) (i + 1) t
theorem ofL_len : ∀ (t : List Bs) (sum : Int) (i : Nat), (ofL sum i t).length = t.length
  | [], _, _ => rfl
  | s :: t, sum, i => by simp [ofL, ofL_len t]
def runB (p : List Bs) : Int := p.foldl sumB 0
theorem ofL_app : ∀ (p : List Bs) (x : Bs) (sum : Int) (i : Nat), ofL sum i (p ++ [x]) = ofL sum i p ++ [(((i + p.length + 1 : Nat) : Int), x, sumB (p.foldl sumB sum) x)]
  | [], x, sum, i => by simp [ofL]
  | s :: p, x, sum, i => by
    simp only [List.cons_append, ofL, List.foldl_cons]
    rw [ofL_app p x]
    simp only [List.length_cons]
    rw [show i + 1 + p.length + 1 = i + (p.length + 1) + 1 by omega]
theorem ofL_last (p : List Bs) : (lastR (ofL 0 0 p)).1 = (p.length : Int) ∧ (lastR (ofL 0 0 p)).2.2 = runB p := by
  rcases List.eq_nil_or_concat p with rfl | ⟨q, x, rfl⟩
  · exact ⟨rfl, rfl⟩
  · rw [List.concat_eq_append, ofL_app q x]
    unfold lastR runB
    rw [List.getLast?_append, List.foldl_append]
    simp
theorem runB_app (p : List Bs) (x : Bs) : runB (p ++ [x]) = sumB (runB p) x := by simp [runB]
theorem ofL_texts : ∀ (t : List Bs) (sum : Int) (i : Nat), ∀ x ∈ ofL sum i t, x.2.1 ∈ t
  | [], _, _, x, h => by cases h
  | s :: t, sum, i, x, h => by
    simp only [ofL] at h
    rcases List.mem_cons.1 h with rfl | h
    · exact List.mem_cons_self ..
    · exact List.mem_cons_of_mem _ (ofL_texts t _ _ x h)
theorem ofL_get : ∀ (t : List Bs) (sum : Int) (i j : Nat) (x : Rc), (ofL sum i t)[j]? = some x → x.1 = ((i + j + 1 : Nat) : Int)
  | [], _, _, j, x, h => by simp [ofL] at h
  | s :: t, sum, i, j, x, h => by
    simp only [ofL] at h
    cases j with
    | zero => simp at h; rw [← h]; rfl
    | succ j =>
      have := ofL_get t (sumB sum s) (i + 1) j x (by simpa using h)
      rw [this]; congr 1; omega
theorem ver_ofL : ∀ (t : List Bs) (sum : Int) (i : Nat), (∀ s ∈ t, s.length ≤ 65536) → verB sum i (ofL sum i t) = (((i + t.length : Nat) : Int), 0)
  | [], _, _, _ => rfl
  | s :: t, sum, i, h => by
    have hs := h s (List.mem_cons_self ..)
    have := ver_ofL t (sumB sum s) (i + 1) fun x hx => h x (List.mem_cons_of_mem _ hx)
    simp only [ofL]
    unfold verB
    rw [if_neg (by simp), if_neg (by simp only; omega), if_neg (by simp)]
    simp only
    rw [this]
    simp only [List.length_cons, Prod.mk.injEq, and_true]
    congr 1; omega
/-! Of, from, Clone -/
theorem of_loop (an : Bool) (l : List Bs) (hl : l.length ≤ 100000) (hb : ∀ s ∈ l, s.length ≤ 1000000000) : ∀ t p, p ++ t = l → Evt fun n => ∀ k, t.length < k →
    r36_Of_L1 lb n k an (scv l) (ofL 0 0 p).isEmpty (recv (ofL 0 0 p)) (.int .i64 (runB p)) (p.length : Int) = some (.list (ofL 0 0 l).isEmpty (recv (ofL 0 0 l))) := by
  intro t
  induction t with
  | nil =>
    intro p hp
    refine .all fun n k hk => ?_
    obtain ⟨k, rfl⟩ : ∃ m, k = m + 1 := ⟨k - 1, by simp at hk; omega⟩
    have hp : p = l := by simpa using hp
    subst hp
    rw [r36_Of_L1_succ]
    refine stF (decF (by rw [scv_len]; omega)) ?_
    rw [r36_Of_J2_eq]
  | cons x t ih =>
    intro p hp
    have hpl : l.length = p.length + (t.length + 1) := by rw [← hp]; simp
    have hat : atL (scv l) (p.length : Int) = some [.str x] := atL_ok (scv_get (by rw [← hp]; simp))
    have hx := hb x (by rw [← hp]; simp)
    refine Evt.imp2 (ih (p ++ [x]) (by rw [← hp]; simp)) (r36_Sum_ret lb (runB p) x hx) fun n h2 h3 k hk => ?_
    obtain ⟨k, rfl⟩ : ∃ m, k = m + 1 := ⟨k - 1, by simp at hk; omega⟩
    have h2 := h2 k (by simp at hk; omega)
    rw [r36_Of_L1_succ, wrap64 (by omega) (by omega)]
    refine stT (decT (by rw [scv_len]; omega)) (stO _ hat (stC rfl (stO _ rfl (stO _ h3 (stO _ hat (stC rfl (stO _ rfl (stC rfl (stC rfl (stC (room_s (by rw [recv_len, ofL_len]; omega) (by omega)) ?_))))))))))
    have e : recv (ofL 0 0 p) ++ [[CV.int .i64 ((p.length : Int) + 1), CV.str x, CV.int .i64 (sumB (runB p) x)]] = recv (ofL 0 0 (p ++ [x])) := by
      rw [ofL_app p x]
      simp [recv, renc, runB]
    rw [e, show ((ofL 0 0 p).isEmpty && false) = (ofL 0 0 (p ++ [x])).isEmpty by rw [ofL_app p x]; simp]
    rw [runB_app] at h2
    simpa using h2
theorem r36_Of_ret (an : Bool) (l : List Bs) (hl : l.length ≤ 100000) (hb : ∀ s ∈ l, s.length ≤ 1000000000) : Ret lb F_r36_Of [.list an (scv l)] (.list (ofL 0 0 l).isEmpty (recv (ofL 0 0 l))) := by
  refine .top rfl ((Evt.diag (of_loop lb an l hl hb l [] rfl)).mono fun n hn => ?_)
  rw [r36_Of_eq]
  exact hn
theorem from_loop (an : Bool) (l : List Rc) (hl : l.length ≤ 100000) : ∀ t p, p ++ t = l → Evt fun n => ∀ k, t.length < k → l36_from_L1 lb n k an (recv l) p.isEmpty (recv p) (p.length : Int) = some (.list l.isEmpty (recv l)) := by
  intro t
  induction t with
  | nil =>
    intro p hp
    refine .all fun n k hk => ?_
    obtain ⟨k, rfl⟩ : ∃ m, k = m + 1 := ⟨k - 1, by simp at hk; omega⟩
    have hp : p = l := by simpa using hp
    subst hp
    rw [l36_from_L1_succ]
    refine stF (decF (by rw [recv_len]; omega)) ?_
    rw [l36_from_J2_eq]
  | cons x t ih =>
    intro p hp
    have hpl : l.length = p.length + (t.length + 1) := by rw [← hp]; simp
    have hat := recv_at (l := l) (i := p.length) (x := x) (by rw [← hp]; simp)
    refine (ih (p ++ [x]) (by rw [← hp]; simp)).mono fun n h2 k hk => ?_
    obtain ⟨k, rfl⟩ : ∃ m, k = m + 1 := ⟨k - 1, by simp at hk; omega⟩
    have h2 := h2 k (by simp at hk; omega)
    rw [l36_from_L1_succ, wrap64 (by omega) (by omega), show (p.length : Int) + 1 = ((p ++ [x]).length : Int) by simp]
    refine stT (decT (by rw [recv_len]; omega)) (stO _ hat (stC rfl (stO _ rfl (stO _ rfl (stO _ rfl (stC (room_s (by rw [recv_len]; omega) (by omega)) ?_))))))
    rw [recv_snoc, rnil_snoc p.isEmpty p x]
    exact h2
theorem l36_from_ret (an : Bool) (l : List Rc) (hl : l.length ≤ 100000) : Ret lb F_l36_from [.list an (recv l)] (.list l.isEmpty (recv l)) := by
  refine .top rfl ((Evt.diag (from_loop lb an l hl l [] rfl)).mono fun n hn => ?_)
  rw [l36_from_eq]
  exact hn
theorem recv_all (l : List Rc) : (recv l).all (·.length == 3) = true := by simp [recv, renc]
theorem clone_rec_ret (l : List Rc) (hl : l.length ≤ 100000) : Ret lb F_slices_Clone_journal_Record [.list false (recv l)] (.list false (recv l)) := by
  refine .top rfl (.all fun n => ?_)
  rw [slices_Clone_journal_Record_eq]
  exact stF rfl (stC (recv_all l) (stC (room_s (by rw [recv_len]; omega) (by omega)) rfl))

/-! the law -/
section
variable (an : Bool) (l : List Bs) (m : Int) (i0 : Int) (s103 : Bs)
/-- the records from a number on -/
def fromN (m : Int) (l : List Rc) : List Rc := l.filter fun x => decide (x.1 ≥ m)
theorem fromN_drop {m : Int} {p t : List Rc} (hp : ∀ x ∈ p, x.1 < m) (ht : ∀ x ∈ t, x.1 ≥ m) : fromN m (p ++ t) = t := by
  unfold fromN
  rw [List.filter_append, List.filter_eq_nil_iff.2 (fun x hx => by have := hp x hx; simp; omega), List.filter_eq_self.2 (fun x hx => by simpa using ht x hx), List.nil_append]
/-- the end: what all comparisons come to -/
theorem adds_L9 (W : List Rc) (hW : W = ofL 0 0 l) (hl : l.length ≤ 1000) (_hne : l ≠ []) (hw : Ret lb F_l36_awake [] (.bool true)) (rb : Bool) (i1 : Int) (r226 r225 : CV) : ∀ t p, p ++ t = W → (∀ x ∈ p, x.1 < m) → Evt fun n => ∀ k, t.length < k →
    l36_JournalAdds_L9 lb n k m false (recv W) an (scv l) (.list W.isEmpty (recv W)) i0 rb (recv (fromN m W)) i1 (.int .i64 (l.length : Int)) (.int .i64 0) s103 r226 r225 (p.length : Int) = some (.bool true) := by
  have hWl : W.length = l.length := by rw [hW, ofL_len]
  intro t
  induction t with
  | nil =>
    intro p hp hlow
    have hp : p = W := by simpa using hp
    subst hp
    have hf : fromN m p = [] := by
      have := fromN_drop (m := m) (p := p) (t := []) hlow (fun x hx => by cases hx)
      simpa using this
    refine Evt.imp2 (Evt.and (l36_from_ret lb true [] (by simp)) (r36_Same_ret lb true rb [] [] (by simp))) hw fun n ⟨h1, h2⟩ h3 k hk => ?_
    obtain ⟨k, rfl⟩ : ∃ m, k = m + 1 := ⟨k - 1, by simp at hk; omega⟩
    rw [l36_JournalAdds_L9_succ]
    refine stF (decF (by rw [recv_len]; omega)) ?_
    rw [l36_JournalAdds_J10_eq, hf]
    refine stO _ h1 (stO _ h2 (stO _ rfl (stT rfl (stO _ rfl (stO _ (asI_i ..) (stT (beqT ?_) (stO _ (asI_i ..) (stT rfl (stO _ h3 rfl)))))))))
    rw [recv_len, hWl]
  | cons x t ih =>
    intro p hp hlow
    have hpl : W.length = p.length + (t.length + 1) := by rw [← hp]; simp
    have hat := recv_at (l := W) (i := p.length) (x := x) (by rw [← hp]; simp)
    have hx1 : x.1 = ((0 + p.length + 1 : Nat) : Int) := ofL_get l 0 0 p.length x (by rw [← hW, ← hp]; simp)
    by_cases hge : x.1 ≥ m
    · have hf : fromN m W = x :: t := by
        rw [← hp]
        refine fromN_drop hlow fun y hy => ?_
        obtain ⟨j, hj⟩ := List.getElem?_of_mem hy
        have := ofL_get l 0 0 (p.length + j) y (by rw [← hW, ← hp, List.getElem?_append_right (by omega)]; simpa using hj)
        omega
      have htk : ((recv W).take (((recv W).length : Int)).toNat).drop ((p.length : Int)).toNat = recv (x :: t) := by
        rw [Int.toNat_natCast, Int.toNat_natCast, List.take_length, ← hp]
        simp [recv]
      have hxt : (x :: t).length ≤ 100000 := by simp only [List.length_cons]; omega
      refine Evt.imp2 (Evt.and (Evt.and (clone_rec_ret lb (x :: t) hxt) (l36_from_ret lb false (x :: t) hxt)) (r36_Same_ret lb false rb (x :: t) (x :: t) (by simp only [List.length_cons]; omega))) hw fun n ⟨⟨h1, h2⟩, h4⟩ h3 k hk => ?_
      obtain ⟨k, rfl⟩ : ∃ m, k = m + 1 := ⟨k - 1, by simp at hk; omega⟩
      rw [l36_JournalAdds_L9_succ, htk, hf]
      refine stT (decT (by rw [recv_len]; omega)) (stO _ hat (stC rfl (stO _ rfl (stO _ rfl (stO _ rfl (stO _ (asI_i ..) (stT (decT hge) (stF (decF (by omega)) (stC (recv_all W) (stC (decT (by rw [recv_len]; omega)) (stO _ h1 (stO _ h2 (stO _ h4 (stO _ rfl (stT (by simp) (stO _ rfl (stO _ (asI_i ..) (stT (beqT ?_) (stO _ (asI_i ..) (stT rfl (stO _ h3 rfl)))))))))))))))))))))
      rw [recv_len, hWl]
    · refine (ih (p ++ [x]) (by rw [← hp]; simp) (fun y hy => ?_)).mono fun n h2 k hk => ?_
      · rcases List.mem_append.1 hy with hy | hy
        · exact hlow y hy
        · simp at hy; subst hy; omega
      obtain ⟨k, rfl⟩ : ∃ m, k = m + 1 := ⟨k - 1, by simp at hk; omega⟩
      have h2 := h2 k (by simp at hk; omega)
      rw [l36_JournalAdds_L9_succ, wrap64 (by omega) (by omega)]
      refine stT (decT (by rw [recv_len]; omega)) (stO _ hat (stC rfl (stO _ rfl (stO _ rfl (stO _ rfl (stO _ (asI_i ..) (stF (decF hge) ?_)))))))
      simpa using h2
theorem adds_L4 (W : List Rc) (hW : W = ofL 0 0 l) (hl : l.length ≤ 1000) (R : CV) (b101 : Bool) (hR : ∀ rb i1, Evt fun n => l36_JournalAdds_J5 lb n an (scv l) m (.list W.isEmpty (recv W)) i0 s103 b101 (recv W) rb (recv (fromN m W)) i1 = some R) : ∀ t p (rb : Bool), p ++ t = W → Evt fun n => ∀ k, t.length < k →
    l36_JournalAdds_L4 lb n k an (scv l) m (.list W.isEmpty (recv W)) i0 s103 b101 (recv W) rb (recv (fromN m p)) (p.length : Int) = some R := by
  have hWl : W.length = l.length := by rw [hW, ofL_len]
  intro t
  induction t with
  | nil =>
    intro p rb hp
    have hp : p = W := by simpa using hp
    subst hp
    refine (hR rb (p.length : Int)).mono fun n hn k hk => ?_
    obtain ⟨k, rfl⟩ : ∃ m, k = m + 1 := ⟨k - 1, by simp at hk; omega⟩
    rw [l36_JournalAdds_L4_succ]
    exact stO _ rfl (stF (decF (by simp only [recv_len]; omega)) hn)
  | cons x t ih =>
    intro p rb hp
    have hpl : W.length = p.length + (t.length + 1) := by rw [← hp]; simp
    have hat := recv_at (l := W) (i := p.length) (x := x) (by rw [← hp]; simp)
    have hfl : (fromN m p).length ≤ p.length := List.length_filter_le ..
    by_cases hge : x.1 ≥ m
    · refine (ih (p ++ [x]) (rb && false) (by rw [← hp]; simp)).mono fun n h2 k hk => ?_
      obtain ⟨k, rfl⟩ : ∃ m, k = m + 1 := ⟨k - 1, by simp at hk; omega⟩
      have h2 := h2 k (by simp at hk; omega)
      rw [l36_JournalAdds_L4_succ, wrap64 (by omega) (by omega)]
      refine stO _ rfl (stT (decT (by simp only [recv_len]; omega)) (stO _ rfl (stO _ hat (stC rfl (stO _ rfl (stO _ (asI_i ..) (stT (decT hge) (stO _ rfl (stO _ hat (stC rfl (stO _ rfl (stO _ rfl (stO _ rfl (stC (room_s (by rw [recv_len]; omega) (by omega)) ?_))))))))))))))
      rw [recv_snoc, show fromN m p ++ [x] = fromN m (p ++ [x]) by unfold fromN; rw [List.filter_append]; simp [hge]]
      simpa using h2
    · refine (ih (p ++ [x]) rb (by rw [← hp]; simp)).mono fun n h2 k hk => ?_
      obtain ⟨k, rfl⟩ : ∃ m, k = m + 1 := ⟨k - 1, by simp at hk; omega⟩
      have h2 := h2 k (by simp at hk; omega)
      rw [l36_JournalAdds_L4_succ, wrap64 (by omega) (by omega)]
      refine stO _ rfl (stT (decT (by simp only [recv_len]; omega)) (stO _ rfl (stO _ hat (stC rfl (stO _ rfl (stO _ (asI_i ..) (stF (decF hge) ?_)))))))
      rw [show fromN m p = fromN m (p ++ [x]) by unfold fromN; rw [List.filter_append]; simp [hge]]
      simpa using h2
theorem bytesOf_zeros : ∀ n : Nat, bytesOf (List.replicate n [.int .u8 0]) = some (List.replicate n 0)
  | 0 => rfl
  | n + 1 => by
    rw [List.replicate_succ]
    show (if (0 : Int) ≤ 0 ∧ (0 : Int) < 256 then (bytesOf (List.replicate n [CV.int .u8 0])).map (UInt8.ofNat (0 : Int).toNat :: ·) else none) = _
    rw [if_pos (by omega), bytesOf_zeros n]
    rfl
theorem adds_J2 (hl : l.length ≤ 1000) (hb : ∀ s ∈ l, s.length ≤ 65536) (hw : Ret lb F_l36_awake [] (.bool true)) : Evt fun n => l36_JournalAdds_J2 lb n an (scv l) m (.list (ofL 0 0 l).isEmpty (recv (ofL 0 0 l))) i0 (ofL 0 0 l).isEmpty (recv (ofL 0 0 l)) = some (.bool true) := by
  have hz := bytesOf_zeros 65537
  have hv := ver_ofL l 0 0 hb
  have hb3 : ∀ x ∈ ofL 0 0 l, x.2.1.length ≤ 1000000000 := fun x hx => by have := hb _ (ofL_texts l 0 0 x hx); omega
  generalize hW : ofL 0 0 l = W at *
  have hWl : W.length = l.length := by rw [← hW, ofL_len]
  by_cases hne : l = []
  · have hWn : W = [] := List.eq_nil_of_length_eq_zero (by rw [hWl, hne]; rfl)
    -- nothing was added
    have fin : ∀ rb i1, Evt fun n => l36_JournalAdds_J5 lb n an (scv l) m (.list W.isEmpty (recv W)) i0 (List.replicate 65537 0) true (recv W) rb (recv (fromN m W)) i1 = some (.bool true) := by
      intro rb i1
      refine Evt.imp2 (Evt.and (Evt.and (l36_from_ret lb true [] (by simp)) (r36_Same_ret lb true rb [] [] (by simp))) (journal_Verify_ret lb true [] (by simp) (by simp))) (Evt.and hw (Evt.ge 1)) fun n ⟨⟨h1, h2⟩, h4⟩ ⟨h3, hn⟩ => ?_
      obtain ⟨n', rfl⟩ : ∃ m, n = m + 1 := ⟨n - 1, by omega⟩
      subst hWn
      rw [l36_JournalAdds_J5_eq, l36_JournalAdds_L6_succ]
      refine stF rfl ?_
      rw [l36_JournalAdds_J11_eq]
      refine stO _ h4 (stO _ rfl (stO _ rfl (stO _ rfl (stO _ rfl ?_))))
      rw [l36_JournalAdds_L7_succ]
      refine stF rfl ?_
      rw [l36_JournalAdds_J8_eq]
      exact stO _ h1 (stO _ h2 (stO _ rfl (stT rfl (stO _ rfl (stO _ (asI_i ..) (stT rfl (stO _ (asI_i ..) (stT rfl (stO _ h3 rfl)))))))))
    have l4 := Evt.diag (adds_L4 lb an l m i0 (List.replicate 65537 0) W hW.symm hl (.bool true) true fin W [] true rfl)
    refine Evt.imp2 (Evt.and (l36_from_ret lb true [] (by simp)) (r36_Same_ret lb true true [] [] (by simp))) (Evt.and l4 (Evt.ge 1)) fun n ⟨h1, h2⟩ ⟨h5, hn⟩ => ?_
    obtain ⟨n', rfl⟩ : ∃ m, n = m + 1 := ⟨n - 1, by omega⟩
    subst hWn
    rw [l36_JournalAdds_J2_eq]
    refine stO _ hz (stT (decT (by rw [List.length_replicate]; omega)) ?_)
    rw [l36_JournalAdds_L3_succ]
    refine stF rfl ?_
    rw [l36_JournalAdds_J12_eq]
    exact stO _ h1 (stO _ h2 (stO _ rfl (stF rfl h5)))
  · have hWn : W ≠ [] := fun e => hne (List.eq_nil_of_length_eq_zero (by rw [← hWl, e]; rfl))
    have hWe : W.isEmpty = false := by cases W with | nil => exact absurd rfl hWn | cons _ _ => rfl
    have hlp := List.length_pos_iff.2 hWn
    obtain ⟨x, t, hxt⟩ : ∃ x t, W = x :: t := List.exists_cons_of_ne_nil hWn
    have hx1 : x.1 = 1 := by
      have := ofL_get l 0 0 0 x (by rw [hW, hxt]; rfl)
      simpa using this
    have hat : atL (recv W) 0 = some [.int .i64 x.1, .str x.2.1, .int .i64 x.2.2] := recv_at (l := W) (i := 0) (by rw [hxt]; rfl)
    have htk : ((recv W).take (((recv W).length : Int)).toNat).drop ((0 : Int)).toNat = recv W := by
      rw [Int.toNat_natCast, List.take_length]; rfl
    have fin : ∀ rb i1, Evt fun n => l36_JournalAdds_J5 lb n an (scv l) m (.list W.isEmpty (recv W)) i0 (List.replicate 65537 0) false (recv W) rb (recv (fromN m W)) i1 = some (.bool true) := by
      intro rb i1
      have v := journal_Verify_ret lb false W (by omega) hb3
      rw [hv] at v
      have l9 := fun r226 r225 => Evt.diag (adds_L9 lb an l m i0 (List.replicate 65537 0) W hW.symm hl hne hw rb i1 r226 r225 W [] rfl (fun _ h => by cases h))
      refine Evt.imp2 (Evt.and (clone_rec_ret lb W (by omega)) v) (Evt.and (l9 (verV (((0 + l.length : Nat) : Int), 0)) (.list false (recv W))) (Evt.ge 1)) fun n ⟨h1, h2⟩ ⟨h3, hn⟩ => ?_
      rw [l36_JournalAdds_J5_eq]
      obtain ⟨n', rfl⟩ : ∃ m, n = m + 1 := ⟨n - 1, by omega⟩
      rw [l36_JournalAdds_L6_succ, htk]
      refine stT (decT (by rw [recv_len]; omega)) (stO _ hat (stC rfl (stO _ rfl (stO _ rfl (stO _ rfl (stO _ (asI_i ..) (stT (decT (by omega)) (stF rfl (stC (recv_all W) (stC (decT (by rw [recv_len]; omega)) (stO _ h1 (stO _ h2 (stO _ rfl (stO _ rfl (stO _ rfl (stO _ rfl ?_))))))))))))))))
      simp only [Nat.zero_add] at h3 ⊢
      exact h3
    have l4 := Evt.diag (adds_L4 lb an l m i0 (List.replicate 65537 0) W hW.symm hl (.bool true) false fin W [] true rfl)
    have sm := r36_Same_ret lb W.isEmpty W.isEmpty W W (by omega)
    refine Evt.imp2 (Evt.and (Evt.and (clone_rec_ret lb W (by omega)) (l36_from_ret lb false W (by omega))) sm) (Evt.and l4 (Evt.ge 1)) fun n ⟨⟨h1, h2⟩, h4⟩ ⟨h5, hn⟩ => ?_
    rw [l36_JournalAdds_J2_eq, hWe]
    rw [hWe] at h2 h4 h5
    refine stO _ hz (stT (decT (by rw [List.length_replicate]; omega)) ?_)
    obtain ⟨n', rfl⟩ : ∃ m, n = m + 1 := ⟨n - 1, by omega⟩
    rw [l36_JournalAdds_L3_succ, htk]
    exact stT (decT (by rw [recv_len]; omega)) (stO _ hat (stC rfl (stO _ rfl (stO _ rfl (stO _ rfl (stO _ (asI_i ..) (stT (decT (by omega)) (stF rfl (stC (recv_all W) (stC (decT (by rw [recv_len]; omega)) (stO _ h1 (stO _ h2 (stO _ h4 (stO _ rfl (stF (by simp) h5)))))))))))))))
end
theorem adds_L1 (an : Bool) (l : List Bs) (m : Int) (hl : l.length ≤ 1000) (hb : ∀ s ∈ l, s.length ≤ 65536) (hw : Ret lb F_l36_awake [] (.bool true)) : ∀ t p, p ++ t = l → Evt fun n => ∀ k, t.length < k →
    l36_JournalAdds_L1 lb n k an (scv l) m (.list (ofL 0 0 l).isEmpty (recv (ofL 0 0 l))) (p.length : Int) (ofL 0 0 p).isEmpty (recv (ofL 0 0 p)) = some (.bool true) := by
  intro t
  induction t with
  | nil =>
    intro p hp
    have hp : p = l := by simpa using hp
    subst hp
    refine (adds_J2 lb an p m (p.length : Int) hl hb hw).mono fun n hn k hk => ?_
    obtain ⟨k, rfl⟩ : ∃ m, k = m + 1 := ⟨k - 1, by simp at hk; omega⟩
    rw [l36_JournalAdds_L1_succ]
    exact stF (decF (by rw [scv_len]; omega)) hn
  | cons x t ih =>
    intro p hp
    have hpl : l.length = p.length + (t.length + 1) := by rw [← hp]; simp
    have hx := hb x (by rw [← hp]; simp)
    have hat : atL (scv l) (p.length : Int) = some [.str x] := atL_ok (scv_get (by rw [← hp]; simp))
    have hpre : (ofL 0 0 l)[p.length]? = some (((p.length + 1 : Nat) : Int), x, sumB (runB p) x) := by
      have gen : ∀ (p t : List Bs) (sum : Int) (i : Nat), (ofL sum i (p ++ x :: t))[p.length]? = some (((i + p.length + 1 : Nat) : Int), x, sumB (p.foldl sumB sum) x) := by
        intro p
        induction p with
        | nil => intro t sum i; simp [ofL]
        | cons s p ihp =>
          intro t sum i
          simp only [List.cons_append, ofL, List.length_cons, List.getElem?_cons_succ, List.foldl_cons]
          rw [ihp, show i + 1 + p.length + 1 = i + (p.length + 1) + 1 by omega]
      rw [← hp]
      have := gen p t 0 0
      simpa [runB] using this
    have hat2 := recv_at hpre
    simp only at hat2
    have hlast := journal_last_ret lb (ofL 0 0 p).isEmpty (ofL 0 0 p) (by rw [ofL_len]; omega)
    rw [(ofL_last p).1, (ofL_last p).2] at hlast
    refine Evt.imp2 (Evt.and hlast (journal_Sum_ret lb (runB p) x (by omega))) (ih (p ++ [x]) (by rw [← hp]; simp)) fun n ⟨h1, h2⟩ h3 k hk => ?_
    obtain ⟨k, rfl⟩ : ∃ m, k = m + 1 := ⟨k - 1, by simp at hk; omega⟩
    have h3 := h3 k (by simp at hk; omega)
    rw [l36_JournalAdds_L1_succ, wrap64 (x := (p.length : Int) + 1) (by omega) (by omega)]
    refine stT (decT (by rw [scv_len]; omega)) (stO _ hat (stC rfl (stO _ rfl (stO _ rfl (stF (decF (by omega)) (stO _ h1 (stO _ rfl (stO _ rfl (stO _ rfl (stO _ rfl (stO _ (asI_i ..) (stO _ h2 (stC rfl (stC rfl (stC (room_s (by rw [recv_len, ofL_len]; omega) (by omega)) (stO _ rfl (stO _ hat2 (stC rfl (stO _ rfl (stO _ rfl (stO _ rfl (stO _ (asI_i ..) (stO _ rfl (stO _ rfl (stO _ (asI_i ..) (stO _ (asI_i ..) (stF ?_ ?_)))))))))))))))))))))))))))
    · rw [wrap64 (x := (p.length : Int) + 1) (by omega) (by omega)]
      simp
    · rw [wrap64 (x := (p.length : Int) + 1) (by omega) (by omega)]
      have e : recv (ofL 0 0 p) ++ [[CV.int .i64 ((p.length : Int) + 1), CV.str x, CV.int .i64 (sumB (runB p) x)]] = recv (ofL 0 0 (p ++ [x])) := by
        rw [ofL_app p x]
        simp [recv, renc, runB]
      rw [e, show ((ofL 0 0 p).isEmpty && false) = (ofL 0 0 (p ++ [x])).isEmpty by rw [ofL_app p x]; simp]
      simpa using h3
theorem journalAdds_ok (an : Bool) (l : List Bs) (m : Int) (hl : ∀ w ∈ l, w.length ≤ 281474976710656) : Ret lb F_l36_JournalAdds [.list an (scv l), .int .i64 m] (.bool true) := by
  refine .top rfl ?_
  have e1 := r01_Long_ret lb an l 1000 (by omega) hl
  cases h1 : longB l 1000 with
  | true =>
    rw [h1] at e1
    refine Evt.imp2 e1 (wake36 lb) fun n k1 hn => ?_
    rw [l36_JournalAdds_eq]
    exact stO _ k1 (stO _ rfl (stT rfl hn))
  | false =>
    rw [h1] at e1
    unfold longB at h1
    simp only [Bool.or_eq_false_iff, decide_eq_false_iff_not] at h1
    have hsum : ∀ w ∈ l, w.length ≤ 65536 := by
      intro w hw
      have mem : ∀ {l : List Bs}, w ∈ l → w.length ≤ sumLen l := by
        intro l
        induction l with
        | nil => intro h; cases h
        | cons x l ih =>
          intro h
          rw [sumLen_cons]
          rcases List.mem_cons.1 h with rfl | h
          · omega
          · have := ih h; omega
      have := mem hw
      omega
    have l1 := Evt.diag (adds_L1 lb an l m (by omega) hsum (awake36_ok lb) l [] rfl)
    refine Evt.imp2 (Evt.and e1 (r36_Of_ret lb an l (by omega) (fun s hs => by have := hsum s hs; omega))) l1 fun n ⟨k1, k2⟩ k3 => ?_
    rw [l36_JournalAdds_eq]
    exact stO _ k1 (stO _ rfl (stF rfl (stO _ k2 k3)))
end Go.Proofs
