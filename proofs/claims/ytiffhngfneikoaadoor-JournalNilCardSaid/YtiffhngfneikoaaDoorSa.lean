/- Journals on plain data: sums, Verify, last, Clash, Same. Conditions: as each says. -/
import Derived.Test.YtiffhngfneikoaaDoorG36
import Derived.Test.YtiffhngfneikoaaDoorW36
import Derived.Test.YtiffhngfneikoaaDoorRk
set_option linter.unusedSimpArgs false
namespace Go.Proofs
open Go.Am
variable (lb : Bool)
abbrev Rc := Int × Bs × Int
def renc (x : Rc) : List CV := [.int .i64 x.1, .str x.2.1, .int .i64 x.2.2]
def recv (l : List Rc) : List (List CV) := l.map renc
theorem recv_len (l : List Rc) : (recv l).length = l.length := by simp [recv]
theorem recv_at {l : List Rc} {i : Nat} {x : Rc} (h : l[i]? = some x) : atL (recv l) (i : Int) = some [.int .i64 x.1, .str x.2.1, .int .i64 x.2.2] := atL_ok (by simp [recv, h, renc])

/-! sums -/
def sumStep (h : Int) (c : UInt8) : Int := Int.tmod (IntKind.wrap .i64 ((IntKind.wrap .i64 ((IntKind.wrap .i64 (257 * h)) + (IntKind.wrap .i64 ((c.toNat : Int))))) + 1)) 2147483647
def sum0 (b : Int) : Int := if Int.tmod b 2147483647 < 0 then IntKind.wrap .i64 ((Int.tmod b 2147483647) + 2147483647) else Int.tmod b 2147483647
def sumB (b : Int) (s : Bs) : Int := Int.tmod (IntKind.wrap .i64 (257 * s.foldl sumStep (sum0 b))) 2147483647
theorem jsum_loop (a1 : Int) (s : Bs) (hs : s.length ≤ 1000000000) (h : Int) : Evt fun n => journal_Sum_L2 lb n n a1 s h 0 = some (.int .i64 (Int.tmod (IntKind.wrap .i64 (257 * s.foldl sumStep h)) 2147483647)) := by
  refine Evt.diag (m := s.length) (loopS hs (P := fun p t n k => journal_Sum_L2 lb n k a1 s (p.foldl sumStep h) (p.length : Int) = some (.int .i64 (Int.tmod (IntKind.wrap .i64 (257 * s.foldl sumStep h)) 2147483647))) ?_ ?_ s [] rfl)
  · refine .all fun n k => ?_
    rw [journal_Sum_L2_succ]
    refine stF (decF (by omega)) ?_
    rw [journal_Sum_J3_eq]
  · intro p c t hp hlt hat hw hev
    refine hev.mono fun n hn k hk => ?_
    rw [journal_Sum_L2_succ]
    refine stT (decT hlt) (stO _ hat ?_)
    have hn := hn k hk
    rw [hw]
    rw [List.foldl_append] at hn
    exact hn
theorem rsum_loop (a1 : Int) (s : Bs) (hs : s.length ≤ 1000000000) (h : Int) : Evt fun n => r36_Sum_L2 lb n n a1 s h 0 = some (.int .i64 (Int.tmod (IntKind.wrap .i64 (257 * s.foldl sumStep h)) 2147483647)) := by
  refine Evt.diag (m := s.length) (loopS hs (P := fun p t n k => r36_Sum_L2 lb n k a1 s (p.foldl sumStep h) (p.length : Int) = some (.int .i64 (Int.tmod (IntKind.wrap .i64 (257 * s.foldl sumStep h)) 2147483647))) ?_ ?_ s [] rfl)
  · refine .all fun n k => ?_
    rw [r36_Sum_L2_succ]
    refine stF (decF (by omega)) ?_
    rw [r36_Sum_J3_eq]
  · intro p c t hp hlt hat hw hev
    refine hev.mono fun n hn k hk => ?_
    rw [r36_Sum_L2_succ]
    refine stT (decT hlt) (stO _ hat ?_)
    have hn := hn k hk
    rw [hw]
    rw [List.foldl_append] at hn
    exact hn
theorem journal_Sum_ret (b : Int) (s : Bs) (hs : s.length ≤ 1000000000) : Ret lb F_journal_Sum [.int .i64 b, .str s] (.int .i64 (sumB b s)) := by
  refine .top rfl ((jsum_loop lb b s hs (sum0 b)).mono fun n hn => ?_)
  rw [journal_Sum_eq]
  unfold sumB
  by_cases h : Int.tmod b 2147483647 < 0
  · refine stT (decT h) ?_
    rw [journal_Sum_J1_eq]
    rw [sum0, if_pos h] at hn ⊢
    exact hn
  · refine stF (decF h) ?_
    rw [journal_Sum_J1_eq]
    rw [sum0, if_neg h] at hn ⊢
    exact hn
theorem r36_Sum_ret (b : Int) (s : Bs) (hs : s.length ≤ 1000000000) : Ret lb F_r36_Sum [.int .i64 b, .str s] (.int .i64 (sumB b s)) := by
  refine .top rfl ((rsum_loop lb b s hs (sum0 b)).mono fun n hn => ?_)
  rw [r36_Sum_eq]
  unfold sumB
  by_cases h : Int.tmod b 2147483647 < 0
  · refine stT (decT h) ?_
    rw [r36_Sum_J1_eq]
    rw [sum0, if_pos h] at hn ⊢
    exact hn
  · refine stF (decF h) ?_
    rw [r36_Sum_J1_eq]
    rw [sum0, if_neg h] at hn ⊢
    exact hn
/-- what sums are -/
theorem sumStep_eq {h : Int} (h0 : 0 ≤ h) (h1 : h < 2147483647) (c : UInt8) : sumStep h c = (257 * h + (c.toNat : Int) + 1) % 2147483647 := by
  have hc : c.toNat < 256 := c.toNat_lt
  unfold sumStep
  rw [wrap64 (x := 257 * h) (by omega) (by omega), wrap64 (x := (c.toNat : Int)) (by omega) (by omega), wrap64 (x := 257 * h + (c.toNat : Int)) (by omega) (by omega), wrap64 (by omega) (by omega), Int.tmod_eq_emod_of_nonneg (by omega)]
theorem fold_range : ∀ (s : Bs) {h : Int}, 0 ≤ h → h < 2147483647 → 0 ≤ s.foldl sumStep h ∧ s.foldl sumStep h < 2147483647
  | [], h, h0, h1 => ⟨h0, h1⟩
  | c :: s, h, h0, h1 => by
    rw [List.foldl_cons]
    refine fold_range s ?_ ?_
    · rw [sumStep_eq h0 h1]; omega
    · rw [sumStep_eq h0 h1]; omega
theorem fold_inj : ∀ (s : Bs) {g h : Int}, 0 ≤ g → g < 2147483647 → 0 ≤ h → h < 2147483647 → s.foldl sumStep g = s.foldl sumStep h → g = h
  | [], g, h, _, _, _, _, e => e
  | c :: s, g, h, g0, g1, h0, h1, e => by
    rw [List.foldl_cons, List.foldl_cons] at e
    have := fold_inj s (by rw [sumStep_eq g0 g1]; omega) (by rw [sumStep_eq g0 g1]; omega) (by rw [sumStep_eq h0 h1]; omega) (by rw [sumStep_eq h0 h1]; omega) e
    rw [sumStep_eq g0 g1, sumStep_eq h0 h1] at this
    omega
theorem sum0_eq {b : Int} (h0 : 0 ≤ b) (h1 : b < 2147483647) : sum0 b = b := by
  unfold sum0
  rw [Int.tmod_eq_emod_of_nonneg h0, Int.emod_eq_of_lt h0 h1, if_neg (by omega)]
theorem sumB_eq {b : Int} (h0 : 0 ≤ b) (h1 : b < 2147483647) (s : Bs) : sumB b s = (257 * s.foldl sumStep b) % 2147483647 := by
  unfold sumB
  rw [sum0_eq h0 h1]
  have := fold_range s h0 h1
  rw [wrap64 (by omega) (by omega), Int.tmod_eq_emod_of_nonneg (by omega)]
theorem sumB_range {b : Int} (h0 : 0 ≤ b) (h1 : b < 2147483647) (s : Bs) : 0 ≤ sumB b s ∧ sumB b s < 2147483647 := by
  rw [sumB_eq h0 h1]; omega
theorem sumB_inj {a b : Int} (a0 : 0 ≤ a) (a1 : a < 2147483647) (b0 : 0 ≤ b) (b1 : b < 2147483647) {s : Bs} (h : sumB a s = sumB b s) : a = b := by
  rw [sumB_eq a0 a1, sumB_eq b0 b1] at h
  have x := fold_range s a0 a1
  have y := fold_range s b0 b1
  exact fold_inj s a0 a1 b0 b1 (by omega)

/-! Verify -/
def verB (before : Int) (i : Nat) : List Rc → Int × Int
  | [] => ((i : Int), 0)
  | x :: t => if x.1 ≠ ((i + 1 : Nat) : Int) then (((i + 1 : Nat) : Int), 29) else if (x.2.1.length : Int) > 65536 then (((i + 1 : Nat) : Int), 4) else if x.2.2 ≠ sumB before x.2.1 then (((i + 1 : Nat) : Int), 37) else verB x.2.2 (i + 1) t
def verV (r : Int × Int) : CV := .tup [.int .i64 r.1, .int .i64 r.2]
theorem jver_loop (an : Bool) (l : List Rc) (hl : l.length ≤ 1000000000) (hb : ∀ x ∈ l, x.2.1.length ≤ 1000000000) : ∀ t p before, p ++ t = l → Evt fun n => ∀ k, t.length < k → journal_Verify_L1 lb n k an (recv l) (.int .i64 before) (p.length : Int) = some (verV (verB before p.length t)) := by
  intro t
  induction t with
  | nil =>
    intro p before hp
    refine .all fun n k hk => ?_
    obtain ⟨k, rfl⟩ : ∃ m, k = m + 1 := ⟨k - 1, by simp at hk; omega⟩
    have hp : p = l := by simpa using hp
    subst hp
    rw [journal_Verify_L1_succ]
    refine stF (decF (by rw [recv_len]; omega)) ?_
    rw [journal_Verify_J2_eq, recv_len]
    rfl
  | cons x t ih =>
    intro p before hp
    have hpl : l.length = p.length + (t.length + 1) := by rw [← hp]; simp
    have hat := recv_at (l := l) (i := p.length) (x := x) (by rw [← hp]; simp)
    have hx := hb x (by rw [← hp]; simp)
    refine Evt.imp2 (journal_Sum_ret lb before x.2.1 hx) (ih (p ++ [x]) x.2.2 (by rw [← hp]; simp)) fun n h1 h2 k hk => ?_
    obtain ⟨k, rfl⟩ : ∃ m, k = m + 1 := ⟨k - 1, by simp at hk; omega⟩
    have h2 := h2 k (by simp at hk; omega)
    rw [journal_Verify_L1_succ, wrap64 (by omega) (by omega), show (p.length : Int) + 1 = ((p.length + 1 : Nat) : Int) by omega]
    unfold verB
    refine stT (decT (by rw [recv_len]; omega)) (stO _ hat (stC rfl (stO _ rfl (stO _ rfl (stO _ rfl (stO _ (asI_i ..) ?_))))))
    by_cases q1 : x.1 = ((p.length + 1 : Nat) : Int)
    · rw [if_neg (by simpa using q1)]
      refine stF (bneF q1) (stO _ rfl ?_)
      by_cases q2 : (x.2.1.length : Int) > 65536
      · rw [if_pos q2]
        exact stT (decT q2) rfl
      · rw [if_neg q2]
        refine stF (decF q2) (stO _ h1 (stO _ (asI_i ..) (stO _ (asI_i ..) ?_)))
        by_cases q3 : x.2.2 = sumB before x.2.1
        · rw [if_neg (by simpa using q3)]
          refine stF (bneF q3) ?_
          have e : (p ++ [x]).length = p.length + 1 := by simp
          rw [e] at h2
          exact h2
        · rw [if_pos q3]
          exact stT (bneT q3) rfl
    · rw [if_pos q1]
      exact stT (bneT q1) rfl
theorem rver_loop (an : Bool) (l : List Rc) (hl : l.length ≤ 1000000000) (hb : ∀ x ∈ l, x.2.1.length ≤ 1000000000) : ∀ t p before, p ++ t = l → Evt fun n => ∀ k, t.length < k → r36_Verify_L1 lb n k an (recv l) (.int .i64 before) (p.length : Int) = some (verV (verB before p.length t)) := by
  intro t
  induction t with
  | nil =>
    intro p before hp
    refine .all fun n k hk => ?_
    obtain ⟨k, rfl⟩ : ∃ m, k = m + 1 := ⟨k - 1, by simp at hk; omega⟩
    have hp : p = l := by simpa using hp
    subst hp
    rw [r36_Verify_L1_succ]
    refine stF (decF (by rw [recv_len]; omega)) ?_
    rw [r36_Verify_J2_eq, recv_len]
    rfl
  | cons x t ih =>
    intro p before hp
    have hpl : l.length = p.length + (t.length + 1) := by rw [← hp]; simp
    have hat := recv_at (l := l) (i := p.length) (x := x) (by rw [← hp]; simp)
    have hx := hb x (by rw [← hp]; simp)
    refine Evt.imp2 (r36_Sum_ret lb before x.2.1 hx) (ih (p ++ [x]) (sumB before x.2.1) (by rw [← hp]; simp)) fun n h1 h2 k hk => ?_
    obtain ⟨k, rfl⟩ : ∃ m, k = m + 1 := ⟨k - 1, by simp at hk; omega⟩
    have h2 := h2 k (by simp at hk; omega)
    rw [r36_Verify_L1_succ, wrap64 (by omega) (by omega), show (p.length : Int) + 1 = ((p.length + 1 : Nat) : Int) by omega]
    unfold verB
    refine stT (decT (by rw [recv_len]; omega)) (stO _ hat (stC rfl (stO _ rfl (stO _ h1 (stO _ hat (stC rfl (stO _ rfl (stO _ (asI_i ..) ?_))))))))
    by_cases q1 : x.1 = ((p.length + 1 : Nat) : Int)
    · rw [if_neg (by simpa using q1)]
      refine stF (bneF q1) (stO _ hat (stC rfl (stO _ rfl (stO _ rfl ?_))))
      by_cases q2 : (x.2.1.length : Int) > 65536
      · rw [if_pos q2]
        exact stT (decT q2) rfl
      · rw [if_neg q2]
        refine stF (decF q2) (stO _ hat (stC rfl (stO _ rfl (stO _ (asI_i ..) (stO _ (asI_i ..) ?_)))))
        by_cases q3 : x.2.2 = sumB before x.2.1
        · rw [if_neg (by simpa using q3)]
          refine stF (bneF q3) ?_
          have e : (p ++ [x]).length = p.length + 1 := by simp
          rw [e, ← q3] at h2
          rw [← q3]
          exact h2
        · rw [if_pos q3]
          exact stT (bneT q3) rfl
    · rw [if_pos q1]
      exact stT (bneT q1) rfl
theorem journal_Verify_ret (an : Bool) (l : List Rc) (hl : l.length ≤ 1000000000) (hb : ∀ x ∈ l, x.2.1.length ≤ 1000000000) : Ret lb F_journal_Verify [.list an (recv l)] (verV (verB 0 0 l)) := by
  refine .top rfl ((Evt.diag (jver_loop lb an l hl hb l [] 0 rfl)).mono fun n hn => ?_)
  rw [journal_Verify_eq]
  exact hn
theorem r36_Verify_ret (an : Bool) (l : List Rc) (hl : l.length ≤ 1000000000) (hb : ∀ x ∈ l, x.2.1.length ≤ 1000000000) : Ret lb F_r36_Verify [.list an (recv l)] (verV (verB 0 0 l)) := by
  refine .top rfl ((Evt.diag (rver_loop lb an l hl hb l [] 0 rfl)).mono fun n hn => ?_)
  rw [r36_Verify_eq]
  exact hn

/-! to and from -/
theorem recv_snoc (l : List Rc) (x : Rc) : recv l ++ [[.int .i64 x.1, .str x.2.1, .int .i64 x.2.2]] = recv (l ++ [x]) := by simp [recv, renc]
theorem rnil_snoc {α : Type} (b : Bool) (E : List α) (e : α) : (b && false) = (E ++ [e]).isEmpty := by cases b <;> simp
theorem room_s {n b : Nat} (hn : n ≤ 1000000) (hb : b ≤ 1000) : room n b = true := by
  unfold room
  have : n * b ≤ 1000000 * 1000 := Nat.mul_le_mul hn hb
  exact decT (by omega)
theorem to_loop (an : Bool) (l : List Rc) (hl : l.length ≤ 100000) : ∀ t p, p ++ t = l → Evt fun n => ∀ k, t.length < k → l36_to_L1 lb n k an (recv l) p.isEmpty (recv p) (p.length : Int) = some (.list l.isEmpty (recv l)) := by
  intro t
  induction t with
  | nil =>
    intro p hp
    refine .all fun n k hk => ?_
    obtain ⟨k, rfl⟩ : ∃ m, k = m + 1 := ⟨k - 1, by simp at hk; omega⟩
    have hp : p = l := by simpa using hp
    subst hp
    rw [l36_to_L1_succ]
    refine stF (decF (by rw [recv_len]; omega)) ?_
    rw [l36_to_J2_eq]
  | cons x t ih =>
    intro p hp
    have hpl : l.length = p.length + (t.length + 1) := by rw [← hp]; simp
    have hat := recv_at (l := l) (i := p.length) (x := x) (by rw [← hp]; simp)
    refine (ih (p ++ [x]) (by rw [← hp]; simp)).mono fun n h2 k hk => ?_
    obtain ⟨k, rfl⟩ : ∃ m, k = m + 1 := ⟨k - 1, by simp at hk; omega⟩
    have h2 := h2 k (by simp at hk; omega)
    rw [l36_to_L1_succ, wrap64 (by omega) (by omega), show (p.length : Int) + 1 = ((p ++ [x]).length : Int) by simp]
    refine stT (decT (by rw [recv_len]; omega)) (stO _ hat (stC rfl (stO _ rfl (stO _ rfl (stO _ rfl (stC (room_s (by rw [recv_len]; omega) (by omega)) ?_))))))
    rw [recv_snoc, rnil_snoc p.isEmpty p x]
    exact h2
theorem l36_to_ret (an : Bool) (l : List Rc) (hl : l.length ≤ 100000) : Ret lb F_l36_to [.list an (recv l)] (.list l.isEmpty (recv l)) := by
  refine .top rfl ((Evt.diag (to_loop lb an l hl l [] rfl)).mono fun n hn => ?_)
  rw [l36_to_eq]
  exact hn
/-! Big -/
def rcLen (l : List Rc) : Nat := (l.map fun x => x.2.1.length).sum
theorem rcLen_app (a b : List Rc) : rcLen (a ++ b) = rcLen a + rcLen b := by simp [rcLen]
theorem rcLen_mem {x : Rc} : ∀ {l : List Rc}, x ∈ l → x.2.1.length ≤ rcLen l
  | y :: l, h => by
    have e : rcLen (y :: l) = y.2.1.length + rcLen l := by simp [rcLen]
    rw [e]
    rcases List.mem_cons.1 h with rfl | h
    · omega
    · have := rcLen_mem h; omega
theorem rcLen_le {l : List Rc} (hl : ∀ x ∈ l, x.2.1.length ≤ 281474976710656) : rcLen l ≤ 281474976710656 * l.length := by
  induction l with
  | nil => simp [rcLen]
  | cons y l ih =>
    have h1 := hl y (List.mem_cons_self ..)
    have h2 := ih fun x hx => hl x (List.mem_cons_of_mem _ hx)
    have e : rcLen (y :: l) = y.2.1.length + rcLen l := by simp [rcLen]
    rw [e, List.length_cons]; omega
def rbigB (l : List Rc) : Bool := decide (rcLen (l.take 40) > 2000) || decide (l.length > 30)
theorem rbig_ret (an : Bool) (l : List Rc) (hl : ∀ x ∈ l, x.2.1.length ≤ 281474976710656) : Ret lb F_r36_Big [.list an (recv l)] (.bool (rbigB l)) := by
  have fin : ∀ n (s j : Int), s = (rcLen (l.take 40) : Int) → r36_Big_J2 lb n an (recv l) s j = some (.bool (rbigB l)) := by
    intro n s j hs
    rw [r36_Big_J2_eq, hs]
    unfold rbigB
    by_cases h : rcLen (l.take 40) > 2000
    · refine stT (decT (by omega)) ?_
      rw [decT h, Bool.true_or]
    · refine stF (decF (by omega)) ?_
      rw [decF h, Bool.false_or, recv_len]
      congr 2
      exact decide_eq_decide.2 (by omega)
  have go : ∀ t p, p ++ t = l → p.length ≤ 40 → Evt fun n => ∀ k, t.length < k → r36_Big_L1 lb n k an (recv l) (rcLen p : Int) (p.length : Int) = some (.bool (rbigB l)) := by
    intro t
    induction t with
    | nil =>
      intro p hp hp2
      refine .all fun n k hk => ?_
      obtain ⟨k, rfl⟩ : ∃ m, k = m + 1 := ⟨k - 1, by simp at hk; omega⟩
      have hp : p = l := by simpa using hp
      subst hp
      rw [r36_Big_L1_succ]
      exact stF (decF (by rw [recv_len]; omega)) (fin n _ _ (by rw [List.take_of_length_le hp2]))
    | cons x t ih =>
      intro p hp hp2
      have hpl : l.length = p.length + (t.length + 1) := by rw [← hp]; simp
      by_cases h2 : p.length = 40
      · refine .all fun n k hk => ?_
        obtain ⟨k, rfl⟩ : ∃ m, k = m + 1 := ⟨k - 1, by simp at hk; omega⟩
        rw [r36_Big_L1_succ]
        exact stT (decT (by rw [recv_len]; omega)) (stF (decF (by omega)) (fin n _ _ (by rw [← hp, ← h2, List.take_left])))
      · refine (ih (p ++ [x]) (by rw [← hp]; simp) (by simp; omega)).mono fun n hn k hk => ?_
        obtain ⟨k, rfl⟩ : ∃ m, k = m + 1 := ⟨k - 1, by simp at hk; omega⟩
        have hn := hn k (by simp at hk; omega)
        have hat := recv_at (l := l) (i := p.length) (x := x) (by rw [← hp]; simp)
        have hle := rcLen_le (l := p ++ [x]) (fun y hy => hl y (by
          rw [← hp]
          rcases List.mem_append.1 hy with hy | hy
          · exact List.mem_append_left _ hy
          · simp at hy; subst hy; simp))
        have e1 : rcLen (p ++ [x]) = rcLen p + x.2.1.length := by rw [rcLen_app]; simp [rcLen]
        rw [e1] at hle hn
        simp only [List.length_append, List.length_cons, List.length_nil] at hle
        rw [r36_Big_L1_succ, wrap64 (x := (p.length : Int) + 1) (by omega) (by omega)]
        refine stT (decT (by rw [recv_len]; omega)) (stT (decT (by omega)) (stO _ hat (stC rfl (stO _ rfl (stO _ rfl ?_)))))
        rw [wrap64 (by omega) (by omega), ← hn]
        congr 1
        simp
  refine .top rfl ((Evt.diag (go l [] rfl (by simp))).mono fun n hn => ?_)
  rw [r36_Big_eq]
  exact hn
theorem small_recs {l : List Rc} (h : rbigB l = false) : l.length ≤ 30 ∧ rcLen l ≤ 2000 ∧ ∀ x ∈ l, x.2.1.length ≤ 2000 := by
  unfold rbigB at h
  simp only [Bool.or_eq_false_iff, decide_eq_false_iff_not] at h
  have hl : l.length ≤ 30 := by omega
  rw [List.take_of_length_le (by omega)] at h
  exact ⟨hl, by omega, fun x hx => by have := rcLen_mem hx; omega⟩
theorem wake36 : Evt fun n => (optO (C lb n F_l36_awake []) fun r => some r) = some (.bool true) := .call (awake36_ok lb) .done
theorem journalSums_ok (b : Int) (s : Bs) : Ret lb F_l36_JournalSums [.int .i64 b, .str s] (.bool true) := by
  refine .top rfl ?_
  by_cases h : (s.length : Int) > 2000
  · refine (wake36 lb).mono fun n hn => ?_
    rw [l36_JournalSums_eq]
    exact stT (decT h) hn
  · refine Evt.imp2 ((journal_Sum_ret lb b s (by omega)).and (r36_Sum_ret lb b s (by omega))) (wake36 lb) fun n ⟨h1, h2⟩ hn => ?_
    rw [l36_JournalSums_eq]
    exact stF (decF h) (stO _ h1 (stO _ h2 (stO _ (asI_i ..) (stO _ (asI_i ..) (stT (beqT rfl) hn)))))
theorem journalVerifies_ok (an : Bool) (l : List Rc) (hl : ∀ x ∈ l, x.2.1.length ≤ 281474976710656) : Ret lb F_l36_JournalVerifies [.list an (recv l)] (.bool true) := by
  refine .top rfl ?_
  have e1 := rbig_ret lb an l hl
  cases hb : rbigB l with
  | true =>
    rw [hb] at e1
    refine Evt.imp2 e1 (wake36 lb) fun n h1 hn => ?_
    rw [l36_JournalVerifies_eq]
    exact stO _ h1 (stO _ rfl (stT rfl hn))
  | false =>
    rw [hb] at e1
    obtain ⟨s1, s2, s3⟩ := small_recs hb
    have s4 : ∀ x ∈ l, x.2.1.length ≤ 1000000000 := fun x hx => by have := s3 x hx; omega
    refine Evt.imp2 ((Evt.and e1 (l36_to_ret lb an l (by omega))).and ((journal_Verify_ret lb l.isEmpty l (by omega) s4).and (r36_Verify_ret lb an l (by omega) s4))) (wake36 lb) fun n ⟨⟨h1, h2⟩, h3, h4⟩ hn => ?_
    rw [l36_JournalVerifies_eq]
    exact stO _ h1 (stO _ rfl (stF rfl (stO _ h2 (stO _ h3 (stO _ rfl (stO _ rfl (stO _ rfl (stO _ rfl (stO _ h4 (stO _ rfl (stO _ rfl (stO _ rfl (stO _ rfl (stO _ (asI_i ..) (stO _ (asI_i ..) (stT (beqT rfl) (stO _ (asI_i ..) (stO _ (asI_i ..) (stT (beqT rfl) hn)))))))))))))))))))
end Go.Proofs
