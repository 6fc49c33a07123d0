/- Records of texts, copies of records, on plain data. Conditions: as each says. -/
import Derived.Test.YtiffhngfneikoaaDoorSb
import Derived.Test.YtiffhngfneikoaaDoorRy
set_option linter.unusedSimpArgs false
namespace Go.Proofs
open Go.Am
variable (lb : Bool)
/-- the records of texts -/
def ofL (sum : Int) (i : Nat) : List Bs → List Rc
  | [] => []
  | s :: t => (((i + 1 : Nat) : Int), s, sumB sum s) :: ofL (sumB sum s) (i + 1) t
theorem ofL_len : ∀ (t : List Bs) (sum : Int) (i : Nat), (ofL sum i t).length = t.length
  | [], _, _ => rfl
  | s :: t, sum, i => by simp [ofL, ofL_len t]
def runB (p : List Bs) : Int := p.foldl sumB 0
theorem ofL_app : ∀ (p : List Bs) (x : Bs) (sum : Int) (i : Nat), ofL sum i (p ++ [x]) = ofL sum i p ++ [(((i + p.length + 1 : Nat) : Int), x, sumB (p.foldl sumB sum) x)]
  | [], x, sum, i => by simp [ofL]
  | s :: p, x, sum, i => by
    simp only [List.cons_append, ofL, List.foldl_cons]
    rw [ofL_app p x]
    simp only [List.length_cons]
    rw [show i + 1 + p.length + 1 = i + (p.length + 1) + 1 by omega]
theorem ofL_last (p : List Bs) : (lastR (ofL 0 0 p)).1 = (p.length : Int) ∧ (lastR (ofL 0 0 p)).2.2 = runB p := by
  rcases List.eq_nil_or_concat p with rfl | ⟨q, x, rfl⟩
  · exact ⟨rfl, rfl⟩
  · rw [List.concat_eq_append, ofL_app q x]
    unfold lastR runB
    rw [List.getLast?_append, List.foldl_append]
    simp
theorem runB_app (p : List Bs) (x : Bs) : runB (p ++ [x]) = sumB (runB p) x := by simp [runB]
theorem ofL_texts : ∀ (t : List Bs) (sum : Int) (i : Nat), ∀ x ∈ ofL sum i t, x.2.1 ∈ t
  | [], _, _, x, h => by cases h
  | s :: t, sum, i, x, h => by
    simp only [ofL] at h
    rcases List.mem_cons.1 h with rfl | h
    · exact List.mem_cons_self ..
    · exact List.mem_cons_of_mem _ (ofL_texts t _ _ x h)
theorem ofL_get : ∀ (t : List Bs) (sum : Int) (i j : Nat) (x : Rc), (ofL sum i t)[j]? = some x → x.1 = ((i + j + 1 : Nat) : Int)
  | [], _, _, j, x, h => by simp [ofL] at h
  | s :: t, sum, i, j, x, h => by
    simp only [ofL] at h
    cases j with
    | zero => simp at h; rw [← h]; rfl
    | succ j =>
      have := ofL_get t (sumB sum s) (i + 1) j x (by simpa using h)
      rw [this]; congr 1; omega
theorem ver_ofL : ∀ (t : List Bs) (sum : Int) (i : Nat), (∀ s ∈ t, s.length ≤ 65536) → verB sum i (ofL sum i t) = (((i + t.length : Nat) : Int), 0)
  | [], _, _, _ => rfl
  | s :: t, sum, i, h => by
    have hs := h s (List.mem_cons_self ..)
    have := ver_ofL t (sumB sum s) (i + 1) fun x hx => h x (List.mem_cons_of_mem _ hx)
    simp only [ofL]
    unfold verB
    rw [if_neg (by simp), if_neg (by simp only; omega), if_neg (by simp)]
    simp only
    rw [this]
    simp only [List.length_cons, Prod.mk.injEq, and_true]
    congr 1; omega
/-! Of, from, Clone -/
theorem of_loop (an : Bool) (l : List Bs) (hl : l.length ≤ 100000) (hb : ∀ s ∈ l, s.length ≤ 1000000000) : ∀ t p, p ++ t = l → Evt fun n => ∀ k, t.length < k →
    r36_Of_L1 lb n k an (scv l) (ofL 0 0 p).isEmpty (recv (ofL 0 0 p)) (.int .i64 (runB p)) (p.length : Int) = some (.list (ofL 0 0 l).isEmpty (recv (ofL 0 0 l))) := by
  intro t
  induction t with
  | nil =>
    intro p hp
    refine .all fun n k hk => ?_
    obtain ⟨k, rfl⟩ : ∃ m, k = m + 1 := ⟨k - 1, by simp at hk; omega⟩
    have hp : p = l := by simpa using hp
    subst hp
    rw [r36_Of_L1_succ]
    refine stF (decF (by rw [scv_len]; omega)) ?_
    rw [r36_Of_J2_eq]
  | cons x t ih =>
    intro p hp
    have hpl : l.length = p.length + (t.length + 1) := by rw [← hp]; simp
    have hat : atL (scv l) (p.length : Int) = some [.str x] := atL_ok (scv_get (by rw [← hp]; simp))
    have hx := hb x (by rw [← hp]; simp)
    refine Evt.imp2 (ih (p ++ [x]) (by rw [← hp]; simp)) (r36_Sum_ret lb (runB p) x hx) fun n h2 h3 k hk => ?_
    obtain ⟨k, rfl⟩ : ∃ m, k = m + 1 := ⟨k - 1, by simp at hk; omega⟩
    have h2 := h2 k (by simp at hk; omega)
    rw [r36_Of_L1_succ, wrap64 (by omega) (by omega)]
    refine stT (decT (by rw [scv_len]; omega)) (stO _ hat (stC rfl (stO _ rfl (stO _ h3 (stO _ hat (stC rfl (stO _ rfl (stC rfl (stC rfl (stC (room_s (by rw [recv_len, ofL_len]; omega) (by omega)) ?_))))))))))
    have e : recv (ofL 0 0 p) ++ [[CV.int .i64 ((p.length : Int) + 1), CV.str x, CV.int .i64 (sumB (runB p) x)]] = recv (ofL 0 0 (p ++ [x])) := by
      rw [ofL_app p x]
      simp [recv, renc, runB]
    rw [e, show ((ofL 0 0 p).isEmpty && false) = (ofL 0 0 (p ++ [x])).isEmpty by rw [ofL_app p x]; simp]
    rw [runB_app] at h2
    simpa using h2
theorem r36_Of_ret (an : Bool) (l : List Bs) (hl : l.length ≤ 100000) (hb : ∀ s ∈ l, s.length ≤ 1000000000) : Ret lb F_r36_Of [.list an (scv l)] (.list (ofL 0 0 l).isEmpty (recv (ofL 0 0 l))) := by
  refine .top rfl ((Evt.diag (of_loop lb an l hl hb l [] rfl)).mono fun n hn => ?_)
  rw [r36_Of_eq]
  exact hn
theorem from_loop (an : Bool) (l : List Rc) (hl : l.length ≤ 100000) : ∀ t p, p ++ t = l → Evt fun n => ∀ k, t.length < k → l36_from_L1 lb n k an (recv l) p.isEmpty (recv p) (p.length : Int) = some (.list l.isEmpty (recv l)) := by
  intro t
  induction t with
  | nil =>
    intro p hp
    refine .all fun n k hk => ?_
    obtain ⟨k, rfl⟩ : ∃ m, k = m + 1 := ⟨k - 1, by simp at hk; omega⟩
    have hp : p = l := by simpa using hp
    subst hp
    rw [l36_from_L1_succ]
    refine stF (decF (by rw [recv_len]; omega)) ?_
    rw [l36_from_J2_eq]
  | cons x t ih =>
    intro p hp
    have hpl : l.length = p.length + (t.length + 1) := by rw [← hp]; simp
    have hat := recv_at (l := l) (i := p.length) (x := x) (by rw [← hp]; simp)
    refine (ih (p ++ [x]) (by rw [← hp]; simp)).mono fun n h2 k hk => ?_
    obtain ⟨k, rfl⟩ : ∃ m, k = m + 1 := ⟨k - 1, by simp at hk; omega⟩
    have h2 := h2 k (by simp at hk; omega)
    rw [l36_from_L1_succ, wrap64 (by omega) (by omega), show (p.length : Int) + 1 = ((p ++ [x]).length : Int) by simp]
    refine stT (decT (by rw [recv_len]; omega)) (stO _ hat (stC rfl (stO _ rfl (stO _ rfl (stO _ rfl (stC (room_s (by rw [recv_len]; omega) (by omega)) ?_))))))
    rw [recv_snoc, rnil_snoc p.isEmpty p x]
    exact h2
theorem l36_from_ret (an : Bool) (l : List Rc) (hl : l.length ≤ 100000) : Ret lb F_l36_from [.list an (recv l)] (.list l.isEmpty (recv l)) := by
  refine .top rfl ((Evt.diag (from_loop lb an l hl l [] rfl)).mono fun n hn => ?_)
  rw [l36_from_eq]
  exact hn
theorem recv_all (l : List Rc) : (recv l).all (·.length == 3) = true := by simp [recv, renc]
theorem clone_rec_ret (l : List Rc) (hl : l.length ≤ 100000) : Ret lb F_slices_Clone_journal_Record [.list false (recv l)] (.list false (recv l)) := by
  refine .top rfl (.all fun n => ?_)
  rw [slices_Clone_journal_Record_eq]
  exact stF rfl (stC (recv_all l) (stC (room_s (by rw [recv_len]; omega) (by omega)) rfl))

end Go.Proofs
