/- The law JournalTexts on plain data. Conditions: as it says. -/
import Derived.Test.YtiffhngfneikoaaDoorSe
set_option linter.unusedSimpArgs false
namespace Go.Proofs
open Go.Am
variable (lb : Bool)
/-! Print -/
theorem lineW_len {r : Rc} (h1 : inI r.1) (h2 : inI r.2.2) : (lineW r).length ≤ 4 * (42 + r.2.1.length) + 9 := by
  have a := itoa_len h1.1 h1.2
  have b := itoa_len h2.1 h2.2
  have c := joinB_len [Lib.itoa r.1, Lib.itoa r.2.2, r.2.1]
  simp only [sumLen_cons, List.length_cons, List.length_nil] at c
  have d : sumLen [] = 0 := rfl
  rw [d] at c
  unfold lineW
  omega
theorem printJ_app (p : List Rc) (x : Rc) : printJ (p ++ [x]) = printJ p ++ (lineW x ++ [10]) := by
  induction p with
  | nil => simp [printJ]
  | cons y p ih => simp [printJ, ih]
theorem printJ_len {p : List Rc} (h : ∀ r ∈ p, inI r.1 ∧ inI r.2.2 ∧ r.2.1.length ≤ 2000) : (printJ p).length ≤ 10000 * p.length := by
  induction p with
  | nil => simp [printJ]
  | cons x p ih =>
    have hx := h x (List.mem_cons_self ..)
    have h1 := lineW_len hx.1 hx.2.1
    have h2 := ih fun r hr => h r (List.mem_cons_of_mem _ hr)
    simp only [printJ, List.length_append, List.length_cons]
    omega
theorem room_b {n : Nat} (h : n ≤ 100000000) : room n 1 = true := by
  unfold room
  exact decT (by omega)
theorem jprint_loop (an : Bool) (l : List Rc) (hl : l.length ≤ 1100) (h : ∀ r ∈ l, inI r.1 ∧ inI r.2.2 ∧ r.2.1.length ≤ 2000) : ∀ t p (b : Bool), p ++ t = l → Evt fun n => ∀ k, t.length < k →
    journal_Print_L1 lb n k an (recv l) (p.length : Int) b (bcv (printJ p)) = some (.str (printJ l)) := by
  intro t
  induction t with
  | nil =>
    intro p b hp
    have hp : p = l := by simpa using hp
    subst hp
    refine .all fun n k hk => ?_
    obtain ⟨k, rfl⟩ : ∃ m, k = m + 1 := ⟨k - 1, by simp at hk; omega⟩
    rw [journal_Print_L1_succ]
    refine stF (decF (by rw [recv_len]; omega)) ?_
    rw [journal_Print_J2_eq]
    exact stO _ (bytesOf_bcv _) rfl
  | cons x t ih =>
    intro p b hp
    have hpl : l.length = p.length + (t.length + 1) := by rw [← hp]; simp
    have hat := recv_at (l := l) (i := p.length) (x := x) (by rw [← hp]; simp)
    have hx := h x (by rw [← hp]; simp)
    have hpp := printJ_len (p := p) (fun r hr => h r (by rw [← hp]; exact List.mem_append_left _ hr))
    have hlx := lineW_len hx.1 hx.2.1
    have d1 := text_Decimal_ret lb x.1 hx.1.1 hx.1.2
    have d2 := text_Decimal_ret lb x.2.2 hx.2.1.1 hx.2.1.2
    have il1 := itoa_len hx.1.1 hx.1.2
    have il2 := itoa_len hx.2.1.1 hx.2.1.2
    have jn : Ret lb F_text_Join [.list false (scv [Lib.itoa x.1, Lib.itoa x.2.2, x.2.1])] (.str (lineW x)) := text_Join_ret lb false _ (by simp) (by
      simp only [sumLen_cons]
      have d : sumLen [] = 0 := rfl
      rw [d]; omega)
    refine Evt.imp2 (ih (p ++ [x]) ((b && ((bcv (lineW x)).isEmpty)) && false) (by rw [← hp]; simp)) (Evt.and (Evt.and d1 d2) jn) fun n h2 ⟨⟨h3, h4⟩, h5⟩ k hk => ?_
    obtain ⟨k, rfl⟩ : ∃ m, k = m + 1 := ⟨k - 1, by simp at hk; omega⟩
    have h2 := h2 k (by simp at hk; omega)
    rw [journal_Print_L1_succ, wrap64 (by omega) (by omega), show (p.length : Int) + 1 = ((p ++ [x]).length : Int) by simp]
    refine stT (decT (by rw [recv_len]; omega)) (stO _ hat (stC rfl (stO _ rfl (stO _ rfl (stO _ rfl (stO _ h3 (stO _ h4 (stC rfl (stC rfl (stC rfl (stO _ h5 (stO _ rfl (stC (all_one_bcv _) (stC (room_b (by rw [bcv_len]; simp; omega)) (stO _ rfl (stC (room_b (by rw [List.length_append, bcv_len]; simp; omega)) ?_))))))))))))))))
    have e : bcv (printJ p) ++ ((lineW x).map fun c => [CV.int .u8 c.toNat]) ++ [[CV.int .u8 10]] = bcv (printJ (p ++ [x])) := by
      rw [printJ_app, bcv_app, bcv_app, ← List.append_assoc]
      rfl
    rw [e]
    exact h2
theorem journal_Print_ret (an : Bool) (l : List Rc) (hl : l.length ≤ 1100) (h : ∀ r ∈ l, inI r.1 ∧ inI r.2.2 ∧ r.2.1.length ≤ 2000) : Ret lb F_journal_Print [.list an (recv l)] (.str (printJ l)) := by
  refine .top rfl ((Evt.diag (jprint_loop lb an l hl h l [] true rfl)).mono fun n hn => ?_)
  rw [journal_Print_eq]
  exact hn
theorem rprint36_loop (an : Bool) (l : List Rc) (hl : l.length ≤ 1100) (h : ∀ r ∈ l, inI r.1 ∧ inI r.2.2 ∧ r.2.1.length ≤ 2000) : ∀ t p, p ++ t = l → Evt fun n => ∀ k, t.length < k →
    r36_Print_L1 lb n k an (recv l) (printJ p) (p.length : Int) = some (.str (printJ l)) := by
  intro t
  induction t with
  | nil =>
    intro p hp
    have hp : p = l := by simpa using hp
    subst hp
    refine .all fun n k hk => ?_
    obtain ⟨k, rfl⟩ : ∃ m, k = m + 1 := ⟨k - 1, by simp at hk; omega⟩
    rw [r36_Print_L1_succ]
    refine stF (decF (by rw [recv_len]; omega)) ?_
    rw [r36_Print_J2_eq]
  | cons x t ih =>
    intro p hp
    have hpl : l.length = p.length + (t.length + 1) := by rw [← hp]; simp
    have hat := recv_at (l := l) (i := p.length) (x := x) (by rw [← hp]; simp)
    have hx := h x (by rw [← hp]; simp)
    have hpp := printJ_len (p := p) (fun r hr => h r (by rw [← hp]; exact List.mem_append_left _ hr))
    have hlx := lineW_len hx.1 hx.2.1
    have d1 := r01_Decimal_ret lb x.1 hx.1.1 hx.1.2
    have d2 := r01_Decimal_ret lb x.2.2 hx.2.1.1 hx.2.1.2
    have il1 := itoa_len hx.1.1 hx.1.2
    have il2 := itoa_len hx.2.1.1 hx.2.1.2
    have jn : Ret lb F_r01_Join [.list false (scv [Lib.itoa x.1, Lib.itoa x.2.2, x.2.1])] (.str (lineW x)) := r01_Join_ret lb false _ (by simp) (by
      simp only [sumLen_cons]
      have d : sumLen [] = 0 := rfl
      rw [d]; omega)
    refine Evt.imp2 (ih (p ++ [x]) (by rw [← hp]; simp)) (Evt.and (Evt.and d1 d2) jn) fun n h2 ⟨⟨h3, h4⟩, h5⟩ k hk => ?_
    obtain ⟨k, rfl⟩ : ∃ m, k = m + 1 := ⟨k - 1, by simp at hk; omega⟩
    have h2 := h2 k (by simp at hk; omega)
    rw [r36_Print_L1_succ, wrap64 (by omega) (by omega), show (p.length : Int) + 1 = ((p ++ [x]).length : Int) by simp]
    refine stT (decT (by rw [recv_len]; omega)) (stO _ hat (stC rfl (stO _ rfl (stO _ h3 (stO _ hat (stC rfl (stO _ rfl (stO _ h4 (stO _ hat (stC rfl (stO _ rfl (stC rfl (stC rfl (stC rfl (stO _ h5 (stO _ rfl (stC (decT (by omega)) (stC (decT (by simp only [List.length_append, List.length_cons, List.length_nil]; omega)) ?_))))))))))))))))))
    rw [show printJ p ++ lineW x ++ [10] = printJ (p ++ [x]) by rw [printJ_app]; simp]
    exact h2
theorem r36_Print_ret (an : Bool) (l : List Rc) (hl : l.length ≤ 1100) (h : ∀ r ∈ l, inI r.1 ∧ inI r.2.2 ∧ r.2.1.length ≤ 2000) : Ret lb F_r36_Print [.list an (recv l)] (.str (printJ l)) := by
  refine .top rfl ((Evt.diag (rprint36_loop lb an l hl h l [] rfl)).mono fun n hn => ?_)
  rw [r36_Print_eq]
  exact hn
/-- what is read is small where the text is -/
theorem print_bound : ∀ {l : List Rc}, l.length ≤ (printJ l).length ∧ ∀ r ∈ l, r.2.1.length ≤ (printJ l).length
  | [] => ⟨Nat.le_refl _, fun _ h => by cases h⟩
  | x :: l => by
    obtain ⟨h1, h2⟩ := print_bound (l := l)
    have hx : x.2.1.length ≤ (lineW x).length := by
      have hw := words_short (s := lineW x) (w := [Lib.itoa x.1, Lib.itoa x.2.2, x.2.1]) (wordsB_join _)
      exact hw x.2.1 (by simp)
    refine ⟨by simp only [printJ, List.length_append, List.length_cons]; omega, fun r hr => ?_⟩
    simp only [printJ, List.length_append, List.length_cons]
    rcases List.mem_cons.1 hr with rfl | hr
    · omega
    · have := h2 r hr; omega
/-- the last part: what is written is read -/
theorem jback (an : Bool) (l : List Rc) (hl : l.length ≤ 30) (h : ∀ r ∈ l, inI r.1 ∧ inI r.2.2 ∧ r.2.1.length ≤ 2000) : Evt fun k => (optO (C true k F_journal_Parse [.str (printJ l)]) fun r40 => optO (CV.asT r40) fun t41 => optO (t41[0]?) fun x42 => optO (CV.asT r40) fun t43 => optO (t43[1]?) fun x44 => optO (CV.asT r40) fun t45 => optO (t45[2]?) fun x46 =>
    optO (C true k F_l36_from [x42]) fun r47 => optO (C true k F_r36_Same [r47, .list an (recv l)]) fun r48 => optO (CV.asB r48) fun b49 => bif b49 then (optO (CV.asI .i64 x44) fun i50 => bif (i50 == 0) then (optO (CV.asI .i64 x46) fun i51 => bif (i51 == 0) then (optO (C true k F_l36_awake []) fun r52 => some (r52)) else (some (.bool false))) else (some (.bool false))) else (some (.bool false))) = some (.bool true) := by
  have hlen := printJ_len h
  have pr := journal_Parse_ret (printJ l) (by omega)
  rw [split_print, parseP_back (fun r hr => ⟨(h r hr).1, (h r hr).2.1⟩), List.nil_append] at pr
  have fr := l36_from_ret true l.isEmpty l (by omega)
  have sm := r36_Same_ret true l.isEmpty an l l (by omega)
  refine Evt.imp2 (Evt.and pr (Evt.and fr sm)) (wake36 true) fun k ⟨h1, h2, h3⟩ hn => ?_
  exact stO _ h1 (stO _ rfl (stO _ rfl (stO _ rfl (stO _ rfl (stO _ rfl (stO _ rfl (stO _ h2 (stO _ h3 (stO _ rfl (stT (by simp) (stO _ (asI_i ..) (stT rfl (stO _ (asI_i ..) (stT rfl hn))))))))))))))
theorem journalTexts_ok (an : Bool) (l : List Rc) (s : Bs) (hl : ∀ x ∈ l, x.2.1.length ≤ 281474976710656) (hi : ∀ r ∈ l, inI r.1 ∧ inI r.2.2) : Ret true F_l36_JournalTexts [.list an (recv l), .str s] (.bool true) := by
  refine .top rfl ?_
  have e1 := rbig_ret true an l hl
  cases hb : rbigB l with
  | true =>
    rw [hb] at e1
    refine Evt.imp2 e1 (wake36 true) fun n k1 hn => ?_
    rw [l36_JournalTexts_eq]
    exact stO _ k1 (stO _ rfl (stT rfl hn))
  | false =>
  rw [hb] at e1
  obtain ⟨s1, s2, s3⟩ := small_recs hb
  by_cases h4 : (s.length : Int) > 1000
  · refine Evt.imp2 e1 (wake36 true) fun n k1 hn => ?_
    rw [l36_JournalTexts_eq]
    exact stO _ k1 (stO _ rfl (stF rfl (stT (decT h4) hn)))
  have hall : ∀ r ∈ l, inI r.1 ∧ inI r.2.2 ∧ r.2.1.length ≤ 2000 := fun r hr => ⟨(hi r hr).1, (hi r hr).2, s3 r hr⟩
  have t1 := l36_to_ret true an l (by omega)
  have p1 := journal_Print_ret true l.isEmpty l (by omega) hall
  have p2 := r36_Print_ret true an l (by omega) hall
  have q1 := journal_Parse_ret s (by omega)
  have q2 := r36_Parse_ret true s (by omega)
  have back := jback an l (by omega) hall
  generalize hP : parseP [] 0 (splitC 10 s) = P at *
  have hPl : P.1.length ≤ 1100 ∧ (P.2.2 = 0 → printJ P.1 = s ∧ ∀ r ∈ P.1, inI r.1 ∧ inI r.2.2) := by
    have nil_of : ∀ (W : List Bs) (acc : List Rc) (i : Nat), (parseP acc i W).2.2 ≠ 0 → (parseP acc i W).1 = [] := by
      intro W
      induction W with
      | nil => intro acc i h; exact absurd rfl h
      | cons x W ih =>
        intro acc i h
        cases W with
        | nil =>
          unfold parseP at h ⊢
          split
          · rename_i q; rw [if_pos q] at h; exact absurd rfl h
          · rfl
        | cons y t =>
          unfold parseP at h ⊢
          split
          · rfl
          · rename_i q; rw [if_neg q] at h; exact ih _ _ h
    by_cases e0 : P.2.2 = 0
    · have hk := texts_ok (s := s) (l := P.1) (m := P.2.1) (by rw [hP, ← e0])
      have hb2 := print_bound (l := P.1)
      rw [hk.1] at hb2
      exact ⟨by omega, fun _ => ⟨hk.1, hk.2.2⟩⟩
    · have := nil_of (splitC 10 s) [] 0 (by rw [hP]; exact e0)
      rw [hP] at this
      exact ⟨by rw [this]; simp, fun q => absurd q e0⟩
  have fr := l36_from_ret true P.1.isEmpty P.1 (by omega)
  have sm := r36_Same_ret true P.1.isEmpty P.1.isEmpty P.1 P.1 (by omega)
  have head := Evt.and (Evt.and e1 t1) (Evt.and (Evt.and p1 p2) (Evt.and (Evt.and q1 q2) (Evt.and fr sm)))
  by_cases e0 : P.2.2 = 0
  · obtain ⟨c1, c2⟩ := hPl.2 e0
    have hb2 := print_bound (l := P.1)
    rw [c1] at hb2
    have pr := journal_Print_ret true P.1.isEmpty P.1 hPl.1 (fun r hr => ⟨(c2 r hr).1, (c2 r hr).2, by have := hb2.2 r hr; omega⟩)
    rw [c1] at pr
    refine Evt.imp2 head (Evt.and pr back) fun n ⟨⟨k1, k2⟩, ⟨k3, k4⟩, ⟨k5, k6⟩, k7, k8⟩ ⟨k9, hn⟩ => ?_
    rw [l36_JournalTexts_eq]
    refine stO _ k1 (stO _ rfl (stF rfl (stF (decF h4) (stO _ k2 (stO _ k3 (stO _ k5 (stO _ rfl (stO _ rfl (stO _ rfl (stO _ rfl (stO _ rfl (stO _ rfl (stO _ k6 (stO _ rfl (stO _ rfl (stO _ rfl (stO _ rfl (stO _ rfl (stO _ rfl (stO _ k4 (stO _ rfl (stO _ rfl (stF (by simp) (stO _ k7 (stO _ k8 (stO _ rfl (stF (by simp) (stO _ (asI_i ..) (stO _ (asI_i ..) (stF (bneF rfl) (stO _ (asI_i ..) (stO _ (asI_i ..) (stF (bneF rfl) (stO _ (asI_i ..) (stT (beqT e0) (stO _ k9 (stO _ rfl (stF (by simp) ?_))))))))))))))))))))))))))))))))))))))
    exact hn
  · refine Evt.imp2 head back fun n ⟨⟨k1, k2⟩, ⟨k3, k4⟩, ⟨k5, k6⟩, k7, k8⟩ hn => ?_
    rw [l36_JournalTexts_eq]
    refine stO _ k1 (stO _ rfl (stF rfl (stF (decF h4) (stO _ k2 (stO _ k3 (stO _ k5 (stO _ rfl (stO _ rfl (stO _ rfl (stO _ rfl (stO _ rfl (stO _ rfl (stO _ k6 (stO _ rfl (stO _ rfl (stO _ rfl (stO _ rfl (stO _ rfl (stO _ rfl (stO _ k4 (stO _ rfl (stO _ rfl (stF (by simp) (stO _ k7 (stO _ k8 (stO _ rfl (stF (by simp) (stO _ (asI_i ..) (stO _ (asI_i ..) (stF (bneF rfl) (stO _ (asI_i ..) (stO _ (asI_i ..) (stF (bneF rfl) (stO _ (asI_i ..) (stF (beqF e0) ?_)))))))))))))))))))))))))))))))))))
    exact hn
end Go.Proofs
