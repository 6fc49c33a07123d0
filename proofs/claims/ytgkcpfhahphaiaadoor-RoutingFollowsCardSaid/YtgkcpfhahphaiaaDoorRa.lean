/- Functions of chapter 22 on plain data: links and their faults. Conditions: as each says. -/
import Derived.Test.YtgkcpfhahphaiaaDoorG22
import Derived.Test.YtgkcpfhahphaiaaDoorRy
set_option linter.unusedSimpArgs false
namespace Go.Proofs
open Go.Am
variable (lb : Bool)
abbrev Lk := Bs × Bs
def lenc (p : Lk) : List CV := [.str p.1, .str p.2]
def lcv (l : List Lk) : List (List CV) := l.map lenc
theorem lcv_len (l : List Lk) : (lcv l).length = l.length := by simp [lcv]
theorem lcv_all (l : List Lk) : (lcv l).all (·.length == 2) = true := by simp [lcv, lenc]
theorem get2a (a b : CV) : ([a, b] : List CV)[0]? = some a := rfl
theorem get2b (a b : CV) : ([a, b] : List CV)[1]? = some b := rfl
/-- the place of the first such link -/
def linkAt (i : Nat) (x : Lk) : List Lk → Int
  | [] => -1
  | y :: t => if y = x then (i : Int) else linkAt (i + 1) x t
theorem linkAt_ge (x : Lk) : ∀ (l : List Lk) (i : Nat), (0 ≤ linkAt i x l) ↔ x ∈ l
  | [], i => by simp [linkAt]
  | y :: t, i => by
    unfold linkAt
    by_cases h : y = x
    · simp [h]
    · rw [if_neg h, linkAt_ge x t (i + 1)]
      have h' : x ≠ y := fun e => h e.symm
      simp [h']
theorem index_link_ret (an : Bool) (l : List Lk) (x : Lk) (hl : l.length ≤ 1000000000) : Ret lb F_slices_Index_api_Link [.list an (lcv l), .agg [.str x.1, .str x.2]] (.int .i64 (linkAt 0 x l)) := by
  refine .top rfl (.eq (fun n => by rw [slices_Index_api_Link_eq]) ?_)
  refine Evt.diag (m := l.length) (loopL (enc := lenc) (l := l) (by omega) (P := fun p t n k => slices_Index_api_Link_L1 lb n k an (lcv l) x.1 x.2 (p.length : Int) = some (.int .i64 (linkAt p.length x t))) ?_ ?_ l [] rfl)
  · refine .all fun n k => ?_
    rw [slices_Index_api_Link_L1_succ, decF (by rw [lcv_len]; omega), cond_false, slices_Index_api_Link_J2_eq]
    rfl
  · intro p y t hp hlt hat hw hev
    refine hev.mono fun n hn k hk => ?_
    have hat : atL (lcv l) (p.length : Int) = some [.str y.1, .str y.2] := hat
    have hlt : (p.length : Int) < ((lcv l).length : Int) := hlt
    have hn := hn k hk
    rw [slices_Index_api_Link_L1_succ, decT hlt, cond_true]
    simp only [hat, optO_s, List.length_cons, List.length_nil, Nat.zero_add, beq_self_eq_true, chkO_t, get2a, get2b, asS_s, hw]
    unfold linkAt
    by_cases h : y = x
    · subst h
      simp
    · rw [if_neg h]
      have : ((x.1 == y.1) && ((x.2 == y.2) && true)) = false := by
        cases hc : ((x.1 == y.1) && ((x.2 == y.2) && true)) with
        | false => rfl
        | true =>
          simp at hc
          exact absurd (Prod.ext hc.1.symm hc.2.symm) h
      rw [this, cond_false]
      simpa using hn
theorem contains_link_ret (an : Bool) (l : List Lk) (x : Lk) (hl : l.length ≤ 1000000000) : Ret lb F_slices_Contains_api_Link [.list an (lcv l), .agg [.str x.1, .str x.2]] (.bool (decide (x ∈ l))) := by
  refine .top rfl (.eq (fun n => by rw [slices_Contains_api_Link_eq]) ?_)
  refine .call (index_link_ret lb an l x hl) ?_
  simp only [asI_i, optO_s]
  rw [show decide (linkAt 0 x l ≥ 0) = decide (x ∈ l) from decide_eq_decide.2 (linkAt_ge x l 0)]
  exact .done
theorem r22_Link_ret (an : Bool) (l : List Lk) (a b : Bs) (hl : l.length ≤ 1000000000) : Ret lb F_r22_Link [.list an (lcv l), .str a, .str b] (.int .i64 (linkAt 0 (a, b) l)) := by
  refine .top rfl (.eq (fun n => by rw [r22_Link_eq]) ?_)
  refine Evt.diag (m := l.length) (loopL (enc := lenc) (l := l) (by omega) (P := fun p t n k => r22_Link_L1 lb n k an (lcv l) a b (p.length : Int) = some (.int .i64 (linkAt p.length (a, b) t))) ?_ ?_ l [] rfl)
  · refine .all fun n k => ?_
    rw [r22_Link_L1_succ, decF (by rw [lcv_len]; omega), cond_false, r22_Link_J2_eq]
    rfl
  · intro p y t hp hlt hat hw hev
    refine hev.mono fun n hn k hk => ?_
    have hat : atL (lcv l) (p.length : Int) = some [.str y.1, .str y.2] := hat
    have hlt : (p.length : Int) < ((lcv l).length : Int) := hlt
    have hn := hn k hk
    rw [r22_Link_L1_succ, decT hlt, cond_true]
    simp only [hat, optO_s, List.length_cons, List.length_nil, Nat.zero_add, beq_self_eq_true, chkO_t, get2a, get2b, asS_s, hw]
    unfold linkAt
    by_cases h : y = (a, b)
    · subst h
      simp
    · rw [if_neg h]
      by_cases h1 : y.1 = a
      · have h2 : y.2 ≠ b := fun e => h (Prod.ext h1 e)
        rw [show (y.1 == a) = true by simpa using h1, cond_true, show (y.2 == b) = false by simpa using h2, cond_false]
        simpa using hn
      · rw [show (y.1 == a) = false by simpa using h1, cond_false]
        simpa using hn
/-- how long the texts of links are -/
def lkLen (l : List Lk) : Nat := (l.map fun p => p.1.length + p.2.length).sum
theorem lkLen_app (a b : List Lk) : lkLen (a ++ b) = lkLen a + lkLen b := by simp [lkLen]
theorem lkLen_cons (x : Lk) (l : List Lk) : lkLen (x :: l) = x.1.length + x.2.length + lkLen l := by simp [lkLen]
theorem lkLen_mem {x : Lk} : ∀ {l : List Lk}, x ∈ l → x.1.length + x.2.length ≤ lkLen l
  | y :: l, h => by
    rw [lkLen_cons]
    rcases List.mem_cons.1 h with rfl | h
    · omega
    · have := lkLen_mem h; omega
theorem lkLen_le {l : List Lk} (hl : ∀ x ∈ l, x.1.length ≤ 281474976710656 ∧ x.2.length ≤ 281474976710656) : lkLen l ≤ 562949953421312 * l.length := by
  induction l with
  | nil => simp [lkLen]
  | cons y l ih =>
    have h1 := hl y (List.mem_cons_self ..)
    have h2 := ih fun x hx => hl x (List.mem_cons_of_mem _ hx)
    rw [lkLen_cons, List.length_cons]; omega
def bigB (l : List Lk) : Bool := decide (lkLen (l.take 200) > 2000) || decide (l.length > 140)
theorem big_ret (num miles : Int) (an : Bool) (l : List Lk) (hl : ∀ x ∈ l, x.1.length ≤ 281474976710656 ∧ x.2.length ≤ 281474976710656) :
    Ret lb F_l22_big [.agg [.int .i64 num, .list an (lcv l), .int .i64 miles]] (.bool (bigB l)) := by
  refine .top rfl (.eq (fun n => by rw [l22_big_eq]) ?_)
  have fin : ∀ n (s j : Int), s = (lkLen (l.take 200) : Int) → l22_big_J2 lb n num an (lcv l) miles s j = some (.bool (bigB l)) := by
    intro n s j hs
    rw [l22_big_J2_eq, hs]
    unfold bigB
    by_cases h : lkLen (l.take 200) > 2000
    · rw [decT (by omega), cond_true, decT h, Bool.true_or]
    · rw [decF (by omega), cond_false, decF h, Bool.false_or, lcv_len]
      congr 2
      exact decide_eq_decide.2 (by omega)
  have go : ∀ t p, p ++ t = l → p.length ≤ 200 → Evt fun n => ∀ k, t.length < k → l22_big_L1 lb n k num an (lcv l) miles (lkLen p : Int) (p.length : Int) = some (.bool (bigB l)) := by
    intro t
    induction t with
    | nil =>
      intro p hp hp2
      refine .all fun n k hk => ?_
      obtain ⟨k, rfl⟩ : ∃ m, k = m + 1 := ⟨k - 1, by simp at hk; omega⟩
      have hp : p = l := by simpa using hp
      subst hp
      rw [l22_big_L1_succ, decF (by rw [lcv_len]; omega), cond_false]
      exact fin n _ _ (by rw [List.take_of_length_le hp2])
    | cons x t ih =>
      intro p hp hp2
      have hpl : l.length = p.length + (t.length + 1) := by rw [← hp]; simp
      by_cases h2 : p.length = 200
      · refine .all fun n k hk => ?_
        obtain ⟨k, rfl⟩ : ∃ m, k = m + 1 := ⟨k - 1, by simp at hk; omega⟩
        rw [l22_big_L1_succ, decT (by rw [lcv_len]; omega), cond_true, decF (by omega), cond_false]
        exact fin n _ _ (by rw [← hp, ← h2, List.take_left])
      · refine (ih (p ++ [x]) (by rw [← hp]; simp) (by simp; omega)).mono fun n hn k hk => ?_
        obtain ⟨k, rfl⟩ : ∃ m, k = m + 1 := ⟨k - 1, by simp at hk; omega⟩
        have hn := hn k (by simp at hk; omega)
        have hat : atL (lcv l) (p.length : Int) = some [.str x.1, .str x.2] := atL_ok (by rw [← hp]; simp [lcv, lenc])
        have hmem : ∀ y ∈ p ++ [x], y ∈ l := by
          intro y hy
          rw [← hp]
          rcases List.mem_append.1 hy with hy | hy
          · exact List.mem_append_left _ hy
          · simp at hy; subst hy; simp
        have hle := lkLen_le (l := p ++ [x]) (fun y hy => hl y (hmem y hy))
        rw [lkLen_app, lkLen_cons] at hle
        simp only [List.length_append, List.length_cons, List.length_nil] at hle
        rw [lkLen_app, lkLen_cons] at hn
        have h0 : lkLen [] = 0 := rfl
        rw [l22_big_L1_succ, decT (by rw [lcv_len]; omega), cond_true, decT (by omega), cond_true]
        simp only [hat, optO_s, List.length_cons, List.length_nil, Nat.zero_add, beq_self_eq_true, chkO_t, get2a, get2b, asS_s]
        rw [wrap64 (x := (p.length : Int) + 1) (by omega) (by omega), wrap64 (x := (lkLen p : Int) + (x.1.length : Int)) (by omega) (by omega), wrap64 (by omega) (by omega)]
        rw [← hn]
        congr 1
        · push_cast; omega
        · simp
  refine (Evt.diag (go l [] rfl (by simp))).mono fun n hn => ?_
  exact hn
end Go.Proofs
