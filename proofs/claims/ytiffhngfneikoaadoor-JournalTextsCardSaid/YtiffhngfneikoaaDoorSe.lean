/- Journals written and read, on plain data. Conditions: as each says. -/
import Derived.Test.YtiffhngfneikoaaDoorSd0
import Derived.Test.YtiffhngfneikoaaDoorG36b
import Derived.Test.YtiffhngfneikoaaDoorRx
import Derived.Test.YtiffhngfneikoaaDoorRn
set_option linter.unusedSimpArgs false
namespace Go.Proofs
open Go.Am
/-! pieces between bytes -/
theorem index_none {c : UInt8} : ∀ {s : Bs}, c ∉ s → Lib.index s [c] = -1
  | [], _ => by simp [Lib.index]
  | x :: s, h => by
    have h1 : x ≠ c := fun e => h (by rw [e]; exact List.mem_cons_self ..)
    rw [index_cons_ne s h1, index_none (fun q => h (List.mem_cons_of_mem _ q))]
    rfl
theorem index_first {c : UInt8} (r : Bs) : ∀ {p : Bs}, c ∉ p → Lib.index (p ++ c :: r) [c] = (p.length : Int)
  | [], _ => index_cons_eq c r
  | x :: p, h => by
    have h1 : x ≠ c := fun e => h (by rw [e]; exact List.mem_cons_self ..)
    have ih := index_first r (p := p) (fun q => h (List.mem_cons_of_mem _ q))
    rw [List.cons_append, index_cons_ne _ h1, ih, if_neg (by omega), List.length_cons]
    omega
theorem cut_none {c : UInt8} {s : Bs} (h : c ∉ s) : Lib.cut s [c] = (s, [], false) := by
  unfold Lib.cut
  rw [index_none h]
  rfl
theorem cut_first {c : UInt8} {p : Bs} (r : Bs) (h : c ∉ p) : Lib.cut (p ++ c :: r) [c] = (p, r, true) := by
  unfold Lib.cut
  rw [index_first r h, if_pos (by omega)]
  simp
theorem splitC_cons (c x : UInt8) (r : Bs) : splitC c (x :: r) = if x = c then [] :: splitC c r else match splitC c r with
    | w :: ws => (x :: w) :: ws
    | [] => [[x]] := rfl
theorem splitC_none {c : UInt8} : ∀ {s : Bs}, c ∉ s → splitC c s = [s]
  | [], _ => rfl
  | x :: s, h => by
    have h1 : x ≠ c := fun e => h (by rw [e]; exact List.mem_cons_self ..)
    rw [splitC_cons, if_neg h1, splitC_none (fun q => h (List.mem_cons_of_mem _ q))]
theorem splitC_first {c : UInt8} (r : Bs) : ∀ {p : Bs}, c ∉ p → splitC c (p ++ c :: r) = p :: splitC c r
  | [], _ => by
    show splitC c (c :: r) = _
    rw [splitC_cons, if_pos rfl]
  | x :: p, h => by
    have h1 : x ≠ c := fun e => h (by rw [e]; exact List.mem_cons_self ..)
    rw [List.cons_append, splitC_cons, if_neg h1, splitC_first r (fun q => h (List.mem_cons_of_mem _ q))]
theorem first_or (c : UInt8) (s : Bs) : c ∉ s ∨ ∃ p r, s = p ++ c :: r ∧ c ∉ p := by
  by_cases h : c ∈ s
  · obtain ⟨p, r, h1, h2⟩ := List.eq_append_cons_of_mem h
    exact .inr ⟨p, r, h1, h2⟩
  · exact .inl h
/-! the plain law -/
def recJ (s : Bs) : Rc × Int := match wordsB s with
  | some [a, b, c] => if (numB a).2 ≠ 0 then ((0, [], 0), (numB a).2) else (((numB a).1, c, (numB b).1), (numB b).2)
  | _ => ((0, [], 0), 3)
def lineW (r : Rc) : Bs := joinB [Lib.itoa r.1, Lib.itoa r.2.2, r.2.1]
def printJ : List Rc → Bs
  | [] => []
  | r :: t => lineW r ++ 10 :: printJ t
def parseP (acc : List Rc) (i : Nat) : List Bs → List Rc × Int × Int
  | [] => (acc, 0, 0)
  | [x] => if x = [] then (acc, 0, 0) else ([], ((i + 1 : Nat) : Int), 3)
  | x :: y :: t => if (recJ x).2 ≠ 0 then ([], ((i + 1 : Nat) : Int), (recJ x).2) else parseP (acc ++ [(recJ x).1]) (i + 1) (y :: t)
def inI (z : Int) : Prop := -9223372036854775808 ≤ z ∧ z ≤ 9223372036854775807
theorem recJ_line {r : Rc} (h1 : inI r.1) (h2 : inI r.2.2) : recJ (lineW r) = (r, 0) := by
  unfold recJ lineW
  rw [wordsB_join]
  simp only
  rw [numB_itoa r.1 h1.1 h1.2, numB_itoa r.2.2 h2.1 h2.2, if_neg (by simp)]
theorem recJ_ok {s : Bs} {r : Rc} (h : recJ s = (r, 0)) : s = lineW r ∧ inI r.1 ∧ inI r.2.2 := by
  unfold recJ at h
  split at h
  · rename_i a b c hw
    split at h
    · rename_i q
      simp only [Prod.mk.injEq] at h
      exact absurd h.2 q
    · rename_i q
      simp only [Prod.mk.injEq] at h
      obtain ⟨h1, h2⟩ := h
      subst h1
      have n1 := numB_back (s := a) (z := (numB a).1) (by rw [← show (numB a).2 = 0 by simpa using q])
      have n2 := numB_back (s := b) (z := (numB b).1) (by rw [← h2])
      refine ⟨?_, n1.2, n2.2⟩
      unfold lineW
      simp only
      rw [← n1.1, ← n2.1]
      exact wordsB_some hw
  · simp at h
theorem parseP_ok : ∀ {W : List Bs} {acc : List Rc} {i : Nat} {l : List Rc} {m : Int}, W ≠ [] → parseP acc i W = (l, m, 0) → ∃ L, l = acc ++ L ∧ m = 0 ∧ W = L.map lineW ++ [[]] ∧ ∀ r ∈ L, inI r.1 ∧ inI r.2.2
  | [], _, _, _, _, hn, _ => absurd rfl hn
  | [x], acc, i, l, m, _, h => by
    unfold parseP at h
    split at h
    · rename_i e
      simp only [Prod.mk.injEq, and_true] at h
      exact ⟨[], by rw [List.append_nil]; exact h.1.symm, h.2.symm, by rw [e]; rfl, fun _ h => by cases h⟩
    · simp at h
  | x :: y :: t, acc, i, l, m, _, h => by
    unfold parseP at h
    split at h
    · rename_i q
      simp only [Prod.mk.injEq] at h
      exact absurd h.2.2 q
    · rename_i q
      have q : (recJ x).2 = 0 := by simpa using q
      obtain ⟨L, h1, h2, h3, h4⟩ := parseP_ok (by simp) h
      have hx := recJ_ok (s := x) (r := (recJ x).1) (by rw [← q])
      refine ⟨(recJ x).1 :: L, by rw [h1]; simp, h2, by rw [List.map_cons, List.cons_append, ← h3, ← hx.1], fun r hr => ?_⟩
      rcases List.mem_cons.1 hr with rfl | hr
      · exact hx.2
      · exact h4 r hr
theorem parseP_back : ∀ {L : List Rc} {acc : List Rc} {i : Nat}, (∀ r ∈ L, inI r.1 ∧ inI r.2.2) → parseP acc i (L.map lineW ++ [[]]) = (acc ++ L, 0, 0)
  | [], acc, i, _ => by
    show (if ([] : Bs) = [] then (acc, (0 : Int), (0 : Int)) else _) = _
    rw [if_pos rfl, List.append_nil]
  | r :: L, acc, i, h => by
    have hr := h r (List.mem_cons_self ..)
    have ih := parseP_back (L := L) (acc := acc ++ [r]) (i := i + 1) (fun x hx => h x (List.mem_cons_of_mem _ hx))
    obtain ⟨y, t, hyt⟩ : ∃ y t, L.map lineW ++ [[]] = y :: t := List.exists_cons_of_ne_nil (by simp)
    rw [List.map_cons, List.cons_append]
    rw [hyt] at ih ⊢
    show (if (recJ (lineW r)).2 ≠ 0 then ([], ((i + 1 : Nat) : Int), (recJ (lineW r)).2) else parseP (acc ++ [(recJ (lineW r)).1]) (i + 1) (y :: t)) = _
    rw [recJ_line hr.1 hr.2, if_neg (by simp)]
    simp only
    rw [ih]
    simp
/-- no line end within a word -/
theorem esc_no10 : ∀ c : UInt8, (10 : UInt8) ∉ esc c := by
  refine u8_all ?_
  decide +kernel
theorem wordB_no10 (w : Bs) : (10 : UInt8) ∉ wordB w := by
  unfold wordB
  split
  · rename_i h
    intro q
    unfold plainB at h
    simp only [Bool.and_eq_true, List.all_eq_true] at h
    have := h.2 _ q
    exact absurd this (by decide)
  · unfold quo
    intro q
    rcases List.mem_cons.1 q with q | q
    · exact absurd q (by decide)
    · rcases List.mem_append.1 q with q | q
      · obtain ⟨c, _, hc⟩ := List.mem_flatMap.1 q
        exact esc_no10 c hc
      · exact absurd q (by decide)
theorem joinB_no10 : ∀ l : List Bs, (10 : UInt8) ∉ joinB l
  | [] => by simp [joinB]
  | [w] => by simpa [joinB] using wordB_no10 w
  | w :: x :: r => by
    rw [joinB_cons w (by simp)]
    intro q
    rcases List.mem_append.1 q with q | q
    · exact wordB_no10 w q
    · rcases List.mem_cons.1 q with q | q
      · exact absurd q (by decide)
      · exact joinB_no10 (x :: r) q
theorem split_print : ∀ L : List Rc, splitC 10 (printJ L) = L.map lineW ++ [[]]
  | [] => rfl
  | r :: L => by
    show splitC 10 (lineW r ++ 10 :: printJ L) = _
    have hn : (10 : UInt8) ∉ lineW r := joinB_no10 _
    rw [splitC_first _ hn, split_print L]
    rfl
theorem print_split : ∀ (L : List Rc) (s : Bs), splitC 10 s = L.map lineW ++ [[]] → s = printJ L
  | [], s, h => by
    rcases first_or 10 s with q | ⟨p, r, rfl, q⟩
    · rw [splitC_none q] at h
      simpa [printJ] using h
    · rw [splitC_first _ q] at h
      have := splitC_ne 10 r
      simp at h
      exact absurd h.2 this
  | x :: L, s, h => by
    rcases first_or 10 s with q | ⟨p, r, rfl, q⟩
    · rw [splitC_none q] at h
      simp at h
    · rw [splitC_first _ q] at h
      simp only [List.map_cons, List.cons_append, List.cons.injEq] at h
      rw [h.1, print_split L r h.2]
      rfl
theorem texts_ok {s : Bs} {l : List Rc} {m : Int} (h : parseP [] 0 (splitC 10 s) = (l, m, 0)) : printJ l = s ∧ m = 0 ∧ ∀ r ∈ l, inI r.1 ∧ inI r.2.2 := by
  obtain ⟨L, h1, h2, h3, h4⟩ := parseP_ok (splitC_ne 10 s) h
  rw [List.nil_append] at h1
  subst h1
  exact ⟨(print_split l s h3).symm, h2, h4⟩

/-! the functions -/
variable (lb : Bool)
def recV (p : Rc × Int) : CV := .tup [.agg [.int .i64 p.1.1, .str p.1.2.1, .int .i64 p.1.2.2], .int .i64 p.2]
theorem words_short {s : Bs} {w : List Bs} (h : wordsB s = some w) : ∀ x ∈ w, x.length ≤ s.length := by
  have hj := wordsB_some h
  have hb : ∀ l : List Bs, sumLen l ≤ (joinB l).length := by
    intro l
    induction l with
    | nil => simp [sumLen, joinB]
    | cons w r ih =>
      have hw := wordB_len w
      cases r with
      | nil => simp only [joinB, sumLen_cons]; simp [sumLen]; omega
      | cons x r =>
        rw [joinB_cons w (by simp), sumLen_cons]
        simp only [List.length_append, List.length_cons] at ih ⊢
        omega
  have := hb w
  rw [← hj] at this
  intro x hx
  have mem : ∀ {l : List Bs}, x ∈ l → x.length ≤ sumLen l := by
    intro l
    induction l with
    | nil => intro h; cases h
    | cons y l ih =>
      intro h
      rw [sumLen_cons]
      rcases List.mem_cons.1 h with rfl | h
      · omega
      · have := ih h; omega
  have := mem hx
  omega
theorem journal_record_ret (s : Bs) (hs : s.length ≤ 10000000) : Ret true F_journal_record [.str s] (recV (recJ s)) := by
  have wd := text_Words_ret true s (by omega)
  unfold recJ
  split
  · rename_i a b c hw
    rw [hw] at wd
    have hb := words_short hw
    have n1 := text_Number_ret a (by have := hb a (by simp); omega)
    have n2 := text_Number_ret b (by have := hb b (by simp); omega)
    refine .top rfl (Evt.and wd (Evt.and n1 n2) |>.mono fun n ⟨h0, h1, h2⟩ => ?_)
    rw [journal_record_eq]
    refine stO _ h0 (stO _ rfl (stO _ rfl (stO _ rfl (stO _ rfl (stO _ rfl (stF rfl (stO _ rfl (stF rfl (stO _ rfl (stO _ rfl (stC rfl (stO _ rfl (stC rfl (stO _ rfl (stO _ rfl (stC rfl (stO _ rfl (stO _ h1 (stO _ rfl (stO _ rfl (stO _ rfl (stO _ rfl (stC rfl (stO _ (asI_i ..) ?_))))))))))))))))))))))))
    by_cases q : (numB a).2 = 0
    · rw [if_neg (by simpa using q)]
      exact stF (bneF q) (stO _ rfl (stO _ rfl (stC rfl (stO _ rfl (stO _ h2 (stO _ rfl (stO _ rfl (stO _ rfl (stO _ rfl (stC rfl rfl))))))))))
    · rw [if_pos q]
      exact stT (bneT q) rfl
  · rename_i hno
    cases hw : wordsB s with
    | none =>
      rw [hw] at wd
      refine .top rfl (wd.mono fun n h0 => ?_)
      rw [journal_record_eq]
      exact stO _ h0 (stO _ rfl (stO _ rfl (stO _ rfl (stO _ rfl (stO _ rfl (stT rfl rfl))))))
    | some w =>
      rw [hw] at wd
      have h3 : w.length ≠ 3 := by
        intro e
        match w, e with
        | [a, b, c], _ => exact hno a b c hw
      refine .top rfl (wd.mono fun n h0 => ?_)
      rw [journal_record_eq]
      exact stO _ h0 (stO _ rfl (stO _ rfl (stO _ rfl (stO _ rfl (stO _ rfl (stF rfl (stO _ rfl (stT (bneT (by simp only [scv_len]; omega)) rfl))))))))
/-- what the reference reads: nothing beside an error -/
def recQ (s : Bs) : Rc × Int := if (recJ s).2 ≠ 0 then ((0, [], 0), (recJ s).2) else recJ s
theorem r36_read_ret (s : Bs) (hs : s.length ≤ 10000000) : Ret lb F_r36_read [.str s] (recV (recQ s)) := by
  have wd := r01_Words_ret lb s (by omega)
  unfold recQ recJ
  split
  · rename_i a b c hw
    rw [hw] at wd
    have hb := words_short hw
    have n1 := r01_Number_ret lb a (by have := hb a (by simp); omega)
    have n2 := r01_Number_ret lb b (by have := hb b (by simp); omega)
    refine .top rfl (Evt.and wd (Evt.and n1 n2) |>.mono fun n ⟨h0, h1, h2⟩ => ?_)
    rw [r36_read_eq]
    refine stO _ h0 (stO _ rfl (stO _ rfl (stO _ rfl (stO _ rfl (stO _ rfl (stF rfl (stO _ rfl (stF rfl (stO _ rfl (stO _ rfl (stC rfl (stO _ rfl (stO _ h1 (stO _ rfl (stO _ rfl (stO _ rfl (stO _ rfl (stO _ (asI_i ..) ?_))))))))))))))))))
    by_cases q : (numB a).2 = 0
    · rw [if_neg (show ¬ (numB a).2 ≠ 0 by simpa using q)]
      refine stF (bneF q) (stO _ rfl (stO _ rfl (stC rfl (stO _ rfl (stO _ h2 (stO _ rfl (stO _ rfl (stO _ rfl (stO _ rfl (stO _ (asI_i ..) ?_))))))))))
      by_cases q2 : (numB b).2 = 0
      · rw [if_neg (show ¬ (numB b).2 ≠ 0 by simpa using q2), q2]
        exact stF (bneF rfl) (stO _ rfl (stO _ rfl (stC rfl (stO _ rfl (stC rfl (stC rfl (stC rfl rfl)))))))
      · rw [if_pos (show (numB b).2 ≠ 0 from q2)]
        exact stT (bneT q2) rfl
    · rw [if_pos (show (numB a).2 ≠ 0 from q), if_pos (show (numB a).2 ≠ 0 from q)]
      exact stT (bneT q) rfl
  · rename_i hno
    rw [if_pos (by simp)]
    cases hw : wordsB s with
    | none =>
      rw [hw] at wd
      refine .top rfl (wd.mono fun n h0 => ?_)
      rw [r36_read_eq]
      exact stO _ h0 (stO _ rfl (stO _ rfl (stO _ rfl (stO _ rfl (stO _ rfl (stT rfl rfl))))))
    | some w =>
      rw [hw] at wd
      have h3 : w.length ≠ 3 := by
        intro e
        match w, e with
        | [a, b, c], _ => exact hno a b c hw
      refine .top rfl (wd.mono fun n h0 => ?_)
      rw [r36_read_eq]
      exact stO _ h0 (stO _ rfl (stO _ rfl (stO _ rfl (stO _ rfl (stO _ rfl (stF rfl (stO _ rfl (stT (bneT (by simp only [scv_len]; omega)) rfl))))))))
def jpV (p : List Rc × Int × Int) : CV := .tup [.list p.1.isEmpty (recv p.1), .int .i64 p.2.1, .int .i64 p.2.2]
theorem cut_ret (s : Bs) (hs : s.length ≤ 10000000) : Ret lb F_strings_Cut [.str s, .str [10]] (.tup [.str (Lib.cut s [10]).1, .str (Lib.cut s [10]).2.1, .bool (Lib.cut s [10]).2.2]) := by
  refine .lib rfl ?_
  show (if s.length < 4294967281 then _ else none) = _
  rw [if_pos (by omega)]
theorem jparse_loop : ∀ (N : Nat) (s : Bs) (acc : List Rc) (i : Nat), s.length ≤ N → N ≤ 900000 → acc.length + s.length ≤ 900000 → i + s.length ≤ 900000 → Evt fun n => ∀ k, s.length < k →
    journal_Parse_L1 true n k (.str s) acc.isEmpty (recv acc) (((i + 1 : Nat) : Int)) = some (jpV (parseP acc i (splitC 10 s))) := by
  intro N
  induction N with
  | zero =>
    intro s acc i hs _ _ _
    have h0 : s = [] := List.eq_nil_of_length_eq_zero (by omega)
    subst h0
    refine .all fun n k hk => ?_
    obtain ⟨k, rfl⟩ : ∃ m, k = m + 1 := ⟨k - 1, by simp at hk; omega⟩
    rw [journal_Parse_L1_succ]
    refine stO _ rfl (stF rfl ?_)
    rw [journal_Parse_J2_eq]
    show _ = some (jpV (if ([] : Bs) = [] then (acc, 0, 0) else _))
    rw [if_pos rfl]
    rfl
  | succ N ih =>
    intro s acc i hs hN ha hi
    by_cases h0 : s = []
    · subst h0
      refine .all fun n k hk => ?_
      obtain ⟨k, rfl⟩ : ∃ m, k = m + 1 := ⟨k - 1, by simp at hk; omega⟩
      rw [journal_Parse_L1_succ]
      refine stO _ rfl (stF rfl ?_)
      rw [journal_Parse_J2_eq]
      show _ = some (jpV (if ([] : Bs) = [] then (acc, 0, 0) else _))
      rw [if_pos rfl]
      rfl
    have hne : (!(s == [])) = true := by simpa using h0
    have ct := cut_ret true s (by omega)
    rcases first_or 10 s with q | ⟨p, r, rfl, q⟩
    · rw [cut_none q] at ct
      refine ct.mono fun n h1 k hk => ?_
      obtain ⟨k, rfl⟩ : ∃ m, k = m + 1 := ⟨k - 1, by omega⟩
      rw [journal_Parse_L1_succ, splitC_none q]
      show _ = some (jpV (if s = [] then (acc, 0, 0) else ([], ((i + 1 : Nat) : Int), 3)))
      rw [if_neg h0]
      exact stO _ rfl (stT hne (stO _ h1 (stO _ rfl (stO _ rfl (stO _ rfl (stO _ rfl (stO _ rfl (stO _ rfl (stO _ rfl (stT rfl rfl))))))))))
    · rw [cut_first r q] at ct
      have hl : (p ++ 10 :: r).length = p.length + r.length + 1 := by simp; omega
      rw [hl] at hs ha hi
      have rc := journal_record_ret p (by omega)
      obtain ⟨y, t, hyt⟩ : ∃ y t, splitC 10 r = y :: t := List.exists_cons_of_ne_nil (splitC_ne 10 r)
      have unf : parseP acc i (splitC 10 (p ++ 10 :: r)) = if (recJ p).2 ≠ 0 then ([], ((i + 1 : Nat) : Int), (recJ p).2) else parseP (acc ++ [(recJ p).1]) (i + 1) (splitC 10 r) := by
        rw [splitC_first r q, hyt]
        rfl
      rw [unf]
      by_cases e : (recJ p).2 = 0
      · rw [if_neg (show ¬ (recJ p).2 ≠ 0 by simpa using e)]
        refine Evt.imp2 (Evt.and ct rc) (ih r (acc ++ [(recJ p).1]) (i + 1) (by omega) (by omega) (by simp; omega) (by omega)) fun n ⟨h1, h2⟩ h3 k hk => ?_
        rw [hl] at hk
        obtain ⟨k, rfl⟩ : ∃ m, k = m + 1 := ⟨k - 1, by omega⟩
        have h3 := h3 k (by omega)
        rw [journal_Parse_L1_succ, wrap64 (by omega) (by omega), show ((i + 1 : Nat) : Int) + 1 = ((i + 1 + 1 : Nat) : Int) by omega]
        refine stO _ rfl (stT hne (stO _ h1 (stO _ rfl (stO _ rfl (stO _ rfl (stO _ rfl (stO _ rfl (stO _ rfl (stO _ rfl (stF rfl (stO _ h2 (stO _ rfl (stO _ rfl (stO _ rfl (stO _ rfl (stO _ rfl (stC rfl (stO _ rfl (stO _ rfl (stO _ rfl (stO _ (asI_i ..) (stF (bneF e) (stC (room_s (by rw [recv_len]; omega) (by omega)) ?_)))))))))))))))))))))))
        rw [recv_snoc, rnil_snoc acc.isEmpty acc (recJ p).1]
        exact h3
      · rw [if_pos (show (recJ p).2 ≠ 0 from e)]
        refine (Evt.and ct rc).mono fun n ⟨h1, h2⟩ k hk => ?_
        obtain ⟨k, rfl⟩ : ∃ m, k = m + 1 := ⟨k - 1, by omega⟩
        rw [journal_Parse_L1_succ]
        exact stO _ rfl (stT hne (stO _ h1 (stO _ rfl (stO _ rfl (stO _ rfl (stO _ rfl (stO _ rfl (stO _ rfl (stO _ rfl (stF rfl (stO _ h2 (stO _ rfl (stO _ rfl (stO _ rfl (stO _ rfl (stO _ rfl (stC rfl (stO _ rfl (stO _ rfl (stO _ rfl (stO _ (asI_i ..) (stT (bneT e) rfl))))))))))))))))))))))
theorem journal_Parse_ret (s : Bs) (hs : s.length ≤ 900000) : Ret true F_journal_Parse [.str s] (jpV (parseP [] 0 (splitC 10 s))) := by
  refine .top rfl ((Evt.diag (jparse_loop s.length s [] 0 (Nat.le_refl _) hs (by simpa using hs) (by simpa using hs))).mono fun n hn => ?_)
  rw [journal_Parse_eq]
  exact hn
theorem rcut_loop (s : Bs) (hs : s.length ≤ 900000) : ∀ (t P cur : Bs) (D : List Bs) (b : Bool), P ++ cur ++ t = s → (10 : UInt8) ∉ cur → D.length ≤ P.length → Evt fun n => ∀ k, t.length + 1 < k →
    r04_Cut_L1 lb n k s 10 b (scv D) (P.length : Int) ((P.length + cur.length : Nat) : Int) = some (.list false (scv (D ++ splitC 10 (cur ++ t)))) := by
  intro t
  induction t with
  | nil =>
    intro P cur D b hp hc hD
    rw [List.append_nil] at hp
    have hl : s.length = P.length + cur.length := by rw [← hp]; simp
    refine .all fun n k hk => ?_
    obtain ⟨k, rfl⟩ : ∃ m, k = m + 1 := ⟨k - 1, by omega⟩
    rw [r04_Cut_L1_succ, wrap64 (by omega) (by omega), List.append_nil, splitC_none hc]
    refine stT (decT (by omega)) (stT (beqT (by omega)) (stC (decT ⟨by omega, by omega⟩) (stC (decT ⟨by omega, by omega⟩) (stC (room_s (by rw [scv_len]; omega) (by omega)) ?_))))
    obtain ⟨k, rfl⟩ : ∃ m, k = m + 1 := ⟨k - 1, by simp at hk; omega⟩
    rw [r04_Cut_L1_succ]
    refine stF (decF (by omega)) ?_
    rw [r04_Cut_J2_eq, Int.toNat_natCast, Int.toNat_natCast, ← hl, List.take_length, ← hp, List.drop_left]
    simp [scv]
  | cons x t ih =>
    intro P cur D b hp hc hD
    have hl : s.length = P.length + cur.length + (t.length + 1) := by rw [← hp]; simp; omega
    have hat : atS s ((P.length + cur.length : Nat) : Int) = some x := atS_ok (by rw [← hp, ← List.length_append, List.getElem?_append_right (Nat.le_refl _)]; simp)
    by_cases hx : x = 10
    · subst hx
      refine (ih (P ++ cur ++ [10]) [] (D ++ [cur]) (b && false) (by rw [← hp]; simp) (by simp) (by simp; omega)).mono fun n h2 k hk => ?_
      obtain ⟨k, rfl⟩ : ∃ m, k = m + 1 := ⟨k - 1, by omega⟩
      have h2 := h2 k (by simp at hk; omega)
      rw [r04_Cut_L1_succ, wrap64 (by omega) (by omega), splitC_first _ hc]
      refine stT (decT (by omega)) (stF (beqF (by omega)) (stO _ hat (stT rfl (stC (decT ⟨by omega, by omega⟩) (stC (decT ⟨by omega, by omega⟩) (stC (room_s (by rw [scv_len]; omega) (by omega)) ?_))))))
      have e : (s.take ((P.length + cur.length : Nat) : Int).toNat).drop (P.length : Int).toNat = cur := by
        rw [Int.toNat_natCast, Int.toNat_natCast, ← hp, ← List.length_append, List.take_left, List.drop_left]
      rw [e, show scv D ++ [[CV.str cur]] = scv (D ++ [cur]) by simp [scv]]
      have e1 : ((P ++ cur ++ [10]).length : Int) = ((P.length + cur.length : Nat) : Int) + 1 := by simp; omega
      have e2 : (((P ++ cur ++ [10]).length + ([] : Bs).length : Nat) : Int) = ((P.length + cur.length : Nat) : Int) + 1 := by simp; omega
      rw [e1, e2] at h2
      rw [h2]
      simp
    · have hx2 : ¬ ((x.toNat : Int) = 10) := by
        intro e
        exact hx (u8_ext (by show x.toNat = 10; omega))
      refine (ih P (cur ++ [x]) D b (by rw [← hp]; simp) (by
        intro q
        rcases List.mem_append.1 q with q | q
        · exact hc q
        · simp only [List.mem_singleton] at q; exact hx q.symm) hD).mono fun n h2 k hk => ?_
      obtain ⟨k, rfl⟩ : ∃ m, k = m + 1 := ⟨k - 1, by omega⟩
      have h2 := h2 k (by simp at hk; omega)
      rw [r04_Cut_L1_succ, wrap64 (by omega) (by omega)]
      refine stT (decT (by omega)) (stF (beqF (by omega)) (stO _ hat (stF (beqF hx2) ?_)))
      have e2 : ((P.length + (cur ++ [x]).length : Nat) : Int) = ((P.length + cur.length : Nat) : Int) + 1 := by simp; omega
      rw [e2] at h2
      rw [h2]
      simp
theorem r04_Cut_ret (s : Bs) (hs : s.length ≤ 900000) : Ret lb F_r04_Cut [.str s, .int .u8 10] (.list false (scv (splitC 10 s))) := by
  refine .top rfl (Evt.imp2 (rcut_loop lb s hs s [] [] [] true rfl (by simp) (Nat.le_refl _)) (Evt.ge (s.length + 2)) fun n hn hge => ?_)
  rw [r04_Cut_eq]
  exact hn n (by omega)
theorem rparseJ_loop (s : Bs) (W : List Bs) (hW : W.length ≤ 900000) (hw : ∀ w ∈ W, w.length ≤ 900000) : ∀ u p (acc : List Rc), p ++ u = W → u ≠ [] → acc.length ≤ p.length → Evt fun n => ∀ k, u.length < k →
    r36_Parse_L1 lb n k s (.list false (scv W)) acc.isEmpty (recv acc) (p.length : Int) = some (jpV (parseP acc p.length u)) := by
  intro u
  induction u with
  | nil => intro _ _ _ h; exact absurd rfl h
  | cons x u ih =>
    intro p acc hp _ hap
    have hpl : W.length = p.length + (u.length + 1) := by rw [← hp]; simp
    have hat : atL (scv W) (p.length : Int) = some [.str x] := atL_ok (scv_get (by rw [← hp]; simp))
    have hlast : IntKind.wrap .i64 (((scv W).length : Int) - 1) = (W.length : Int) - 1 := by rw [scv_len, wrap64 (by omega) (by omega)]
    cases u with
    | nil =>
      refine .all fun n k hk => ?_
      obtain ⟨k, rfl⟩ : ∃ m, k = m + 1 := ⟨k - 1, by omega⟩
      simp only [List.length_nil] at hpl
      rw [r36_Parse_L1_succ]
      refine stO _ rfl (stF (decF (by simp only [hlast]; omega)) ?_)
      rw [r36_Parse_J2_eq]
      refine stO _ rfl (stO _ rfl (stO _ (by simp only [hlast]; rw [show (W.length : Int) - 1 = (p.length : Int) by omega]; exact hat) (stC rfl (stO _ rfl (stO _ rfl ?_)))))
      show _ = some (jpV (if x = [] then (acc, 0, 0) else ([], ((p.length + 1 : Nat) : Int), 3)))
      by_cases hx : x = []
      · rw [if_pos hx]
        exact stF (by rw [hx]; rfl) rfl
      · rw [if_neg hx]
        refine stT (by simpa using hx) (stO _ rfl ?_)
        simp only [scv_len, hpl]
        rfl
    | cons y t =>
      have rc := r36_read_ret lb x (by have := hw x (by rw [← hp]; simp); omega)
      have unf : parseP acc p.length (x :: y :: t) = if (recJ x).2 ≠ 0 then ([], ((p.length + 1 : Nat) : Int), (recJ x).2) else parseP (acc ++ [(recJ x).1]) (p.length + 1) (y :: t) := rfl
      rw [unf]
      simp only [List.length_cons] at hpl
      by_cases e : (recJ x).2 = 0
      · rw [if_neg (show ¬ (recJ x).2 ≠ 0 by simpa using e)]
        have hq : recQ x = recJ x := by unfold recQ; rw [if_neg (by simpa using e)]
        rw [hq] at rc
        refine Evt.imp2 rc (ih (p ++ [x]) (acc ++ [(recJ x).1]) (by rw [← hp]; simp) (by simp) (by simp; omega)) fun n h2 h3 k hk => ?_
        obtain ⟨k, rfl⟩ : ∃ m, k = m + 1 := ⟨k - 1, by omega⟩
        have h3 := h3 k (by simp at hk ⊢; omega)
        rw [r36_Parse_L1_succ, wrap64 (x := (p.length : Int) + 1) (by omega) (by omega), show (p.length : Int) + 1 = ((p ++ [x]).length : Int) by simp]
        refine stO _ rfl (stT (decT (by simp only [hlast]; omega)) (stO _ rfl (stO _ hat (stC rfl (stO _ rfl (stO _ h2 (stO _ rfl (stO _ rfl (stO _ rfl (stO _ rfl (stO _ rfl (stC rfl (stO _ rfl (stO _ rfl (stO _ rfl (stO _ (asI_i ..) (stF (bneF e) (stC (room_s (by rw [recv_len]; omega) (by omega)) ?_))))))))))))))))))
        rw [recv_snoc, rnil_snoc acc.isEmpty acc (recJ x).1, h3]
        simp
      · rw [if_pos (show (recJ x).2 ≠ 0 from e)]
        have hq : recQ x = ((0, [], 0), (recJ x).2) := by unfold recQ; rw [if_pos e]
        rw [hq] at rc
        refine rc.mono fun n h2 k hk => ?_
        obtain ⟨k, rfl⟩ : ∃ m, k = m + 1 := ⟨k - 1, by omega⟩
        rw [r36_Parse_L1_succ, wrap64 (x := (p.length : Int) + 1) (by omega) (by omega)]
        exact stO _ rfl (stT (decT (by simp only [hlast]; omega)) (stO _ rfl (stO _ hat (stC rfl (stO _ rfl (stO _ h2 (stO _ rfl (stO _ rfl (stO _ rfl (stO _ rfl (stO _ rfl (stC rfl (stO _ rfl (stO _ rfl (stO _ rfl (stO _ (asI_i ..) (stT (bneT e) rfl)))))))))))))))))
theorem r36_Parse_ret (s : Bs) (hs : s.length ≤ 800000) : Ret lb F_r36_Parse [.str s] (jpV (parseP [] 0 (splitC 10 s))) := by
  obtain ⟨h1, h2⟩ := splitC_len 10 s
  refine .top rfl (Evt.imp2 (r04_Cut_ret lb s (by omega)) (Evt.diag (rparseJ_loop lb s (splitC 10 s) (by omega) (fun w hw => by have := h2 w hw; omega) (splitC 10 s) [] [] rfl (splitC_ne 10 s) (Nat.le_refl _))) fun n k1 k2 => ?_)
  rw [r36_Parse_eq]
  exact stO _ k1 k2
end Go.Proofs
