/- The document's ways answer as on plain data. Conditions: none. -/
import Derived.Test.YtgkcpfhahphaiaaDoorQa
set_option linter.unusedVariables false
namespace Go.Proofs
open Go.Am
variable (lb : Bool)
/-- the answer of Ways -/
def waysV (L : List Lk) (a b : Bs) (m : Nat) : CV := if (upTo L b m [[a]]).length ≤ 1024 then .tup [.list (upTo L b m [[a]]).isEmpty (wcv (upTo L b m [[a]])), .int .i64 0] else .tup [.list true [], .int .i64 4]
def waysR (L : List Lk) (a b : Bs) (m : Int) : CV := if a = b ∨ m < 1 ∨ m > 6 then .tup [.list true [], .int .i64 2] else if L = [] then .tup [.list false (wcv [[a, b]]), .int .i64 0] else waysV L a b m.toNat
theorem in_ret (an : Bool) (l : List Bs) (x : Bs) (hl : l.length ≤ 1000000000) : Ret lb F_r22_in [.list an (scv l), .str x] (.bool (decide (x ∈ l))) := by
  refine .top rfl (.eq (fun n => by rw [r22_in_eq]) ?_)
  refine Evt.diag (m := l.length) (loopL (enc := fun s => [CV.str s]) (l := l) (by omega) (P := fun p t n k => r22_in_L1 lb n k an (scv l) x (p.length : Int) = some (.bool (decide (x ∈ t)))) ?_ ?_ l [] rfl)
  · refine .all fun n k => ?_
    rw [r22_in_L1_succ]
    refine stF (decF (by rw [scv_len]; omega)) ?_
    rw [r22_in_J2_eq]
    rfl
  · intro p y t hp hlt hat hw hev
    refine hev.mono fun n hn k hk => ?_
    rw [r22_in_L1_succ]
    refine stT (decT hlt) (stO _ hat (stC rfl (stO _ rfl (stO _ rfl ?_))))
    by_cases h : y = x
    · refine stT (by simp [h]) ?_
      rw [decT (by simp [h])]
    · refine stF (by simp [h]) ?_
      rw [hw, hn k hk, show decide (x ∈ y :: t) = decide (x ∈ t) from decide_eq_decide.2 ⟨fun h2 => (List.mem_cons.1 h2).resolve_left (fun e => h e.symm), List.mem_cons_of_mem _⟩]
theorem kidsB_len (w : List Bs) : ∀ t : List Lk, (kidsB w t).length ≤ t.length
  | [] => Nat.le_refl _
  | x :: t => by
    have := kidsB_len w t
    unfold kidsB
    split <;> simp <;> omega
theorem kidsB_mem {w : List Bs} : ∀ {t : List Lk} {v : List Bs}, v ∈ kidsB w t → v.length = w.length + 1
  | [], _, h => by cases h
  | x :: t, v, h => by
    unfold kidsB at h
    split at h
    · exact kidsB_mem h
    · rcases List.mem_cons.1 h with rfl | h
      · simp
      · exact kidsB_mem h
theorem kidsB_skip {w : List Bs} {x : Lk} {t : List Lk} (h : x.1 ≠ lastB w ∨ x.2 ∈ w) : kidsB w (x :: t) = kidsB w t := if_pos h
theorem longer_loop2 (num miles : Int) (an : Bool) (L : List Lk) (hL : L.length ≤ 1000) (bn : Bool) (P : Ws) (i : Int) (w : List Bs) (hw : w ≠ []) (hwl : w.length ≤ 100) (c : List CV) (k0 n : Nat)
    (h1 : ∀ x ∈ L, C lb n F_r22_in [.list false (scv w), .str x.2] = some (.bool (decide (x.2 ∈ w)))) :
    ∀ t p, p ++ t = L → ∀ k, t.length < k → ∀ O : Ws, O.length + t.length ≤ 1000000000 →
      r22_longer_L2 lb n k k0 num an (lcv L) miles bn (wcv P) i (.list false (scv w)) c O.isEmpty (wcv O) (p.length : Int) = r22_longer_L1 lb n k0 num an (lcv L) miles bn (wcv P) (O ++ kidsB w t).isEmpty (wcv (O ++ kidsB w t)) (IntKind.wrap .i64 (i + 1)) := by
  intro t
  induction t with
  | nil =>
    intro p hp k hk O hO
    obtain ⟨k, rfl⟩ : ∃ m, k = m + 1 := ⟨k - 1, by simp at hk; omega⟩
    have hpa : p = L := by simpa using hp
    rw [r22_longer_L2_succ]
    refine stF (decF (by rw [hpa, lcv_len]; omega)) ?_
    rw [r22_longer_J3_eq]
    simp [kidsB]
  | cons x t ih =>
    intro p hp k hk O hO
    obtain ⟨k, rfl⟩ : ∃ m, k = m + 1 := ⟨k - 1, by simp at hk; omega⟩
    have hal : L.length = p.length + (t.length + 1) := by rw [← hp]; simp
    have hat := lcv_at (l := L) (i := p.length) (x := x) (by rw [← hp]; simp)
    have hx : x ∈ L := by rw [← hp]; simp
    have hkt : t.length < k := by simp at hk; omega
    have hO' : O.length + (t.length + 1) ≤ 1000000000 := by simpa using hO
    have hi : IntKind.wrap .i64 ((p.length : Int) + 1) = ((p ++ [x]).length : Int) := by rw [wrap64 (by omega) (by omega)]; simp
    have ihn := ih (p ++ [x]) (by rw [← hp]; simp) k hkt
    rw [r22_longer_L2_succ]
    refine stT (decT (by rw [lcv_len]; omega)) (stO _ hat (stC rfl (stO _ rfl (stO _ rfl (stO _ rfl (stO _ (last_at hw (by omega)) (stC rfl (stO _ rfl (stO _ rfl (stO _ rfl ?_))))))))))
    by_cases e1 : x.1 = lastB w
    · refine stT (by simp [e1]) (stO _ hat (stC rfl (stO _ rfl (stO _ (h1 x hx) (stO _ rfl ?_)))))
      by_cases e2 : x.2 ∈ w
      · refine stF (by simp [e2]) ?_
        rw [hi, ihn O (by omega), kidsB_skip (Or.inr e2)]
      · refine stT (by simp [e2]) (stO _ rfl (stC (all_one_scv w) (stC (room_ok (by rw [scv_len]; omega)) (stO _ hat (stC rfl (stO _ rfl (stC rfl (stC (room_ok (by rw [scv_len]; omega)) (stC (room_ok (by rw [wcv_len]; omega)) ?_)))))))))
        have e3 : kidsB w (x :: t) = (w ++ [x.2]) :: kidsB w t := by
          show (if _ then _ else _) = _
          rw [if_neg (fun e => e.elim (fun e => e e1) e2)]
        have e4 := ihn (O ++ [w ++ [x.2]]) (by simp; omega)
        rw [e3, show O ++ (w ++ [x.2]) :: kidsB w t = O ++ [w ++ [x.2]] ++ kidsB w t by simp, ← e4, hi, ← wcv_snoc, scv_app, ← nil_snoc O.isEmpty O (w ++ [x.2])]
        rw [show ((false, scv w).2.isEmpty && false) = false from Bool.and_false _]
        rfl
    · refine stF (by simp [e1]) ?_
      rw [hi, ihn O (by omega), kidsB_skip (Or.inl e1)]
theorem longer_ret (num miles : Int) (an : Bool) (L : List Lk) (hL : L.length ≤ 14) (bn : Bool) (P : Ws) (hP : P.length ≤ 10000000) (hw : ∀ w ∈ P, w ≠ [] ∧ w.length ≤ 100) : Ret lb F_r22_longer [rcv num an L miles, .list bn (wcv P)] (.list (longerB L P).isEmpty (wcv (longerB L P))) := by
  refine .top rfl (.eq (fun n => by rw [r22_longer_eq]) ?_)
  have h0 : Evt fun n => ∀ w ∈ P, ∀ x ∈ L, C lb n F_r22_in [.list false (scv w), .str x.2] = some (.bool (decide (x.2 ∈ w))) := Evt.fin P fun w hwP => Evt.fin L fun x _ => in_ret lb false w x.2 (by have := (hw w hwP).2; omega)
  have hl : ∀ t p, p ++ t = P → ∀ n, (∀ w ∈ P, ∀ x ∈ L, C lb n F_r22_in [.list false (scv w), .str x.2] = some (.bool (decide (x.2 ∈ w)))) → 14 < n → ∀ k, t.length < k → ∀ O : Ws, O.length + 14 * t.length ≤ 1000000000 →
      r22_longer_L1 lb n k num an (lcv L) miles bn (wcv P) O.isEmpty (wcv O) (p.length : Int) = some (.list (O ++ longerB L t).isEmpty (wcv (O ++ longerB L t))) := by
    intro t
    induction t with
    | nil =>
      intro p hp n hn hn2 k hk O hO
      obtain ⟨k, rfl⟩ : ∃ m, k = m + 1 := ⟨k - 1, by simp at hk; omega⟩
      have hpa : p = P := by simpa using hp
      rw [r22_longer_L1_succ]
      refine stF (decF (by rw [hpa, wcv_len]; omega)) ?_
      rw [r22_longer_J4_eq]
      simp [longerB]
    | cons w t ih =>
      intro p hp n hn hn2 k hk O hO
      obtain ⟨k, rfl⟩ : ∃ m, k = m + 1 := ⟨k - 1, by simp at hk; omega⟩
      have hal : P.length = p.length + (t.length + 1) := by rw [← hp]; simp
      have hat := wcv_at (W := P) (i := p.length) (w := w) (by rw [← hp]; simp)
      have hwP : w ∈ P := by rw [← hp]; simp
      have hO' : O.length + 14 * (t.length + 1) ≤ 1000000000 := by simpa using hO
      have hk2 := kidsB_len w L
      rw [r22_longer_L1_succ]
      refine stT (decT (by rw [wcv_len]; omega)) (stO _ hat (stC rfl (stO _ rfl ?_)))
      rw [show (0 : Int) = (([] : List Lk).length : Int) from rfl, longer_loop2 lb num miles an L (by omega) bn P _ w (hw w hwP).1 (hw w hwP).2 _ k n (hn w hwP) L [] rfl n (by omega) O (by omega)]
      rw [show IntKind.wrap .i64 ((p.length : Int) + 1) = ((p ++ [w]).length : Int) by rw [wrap64 (by omega) (by omega)]; simp]
      rw [ih (p ++ [w]) (by rw [← hp]; simp) n hn hn2 k (by simp at hk; omega) (O ++ kidsB w L) (by simp; omega)]
      rw [show longerB L (w :: t) = kidsB w L ++ longerB L t from rfl, List.append_assoc]
  exact Evt.imp2 h0 (Evt.ge (P.length + 15)) fun n hn hn2 => by
    have := hl P [] rfl n hn (by omega) n (by omega) [] (by simp; omega)
    exact this
theorem split_loop (num miles : Int) (an : Bool) (L : List Lk) (a b : Bs) (m : Int) (i : Int) (b77 : Bool) (l78 : List (List CV)) (fl : Bool) (Q : Ws) (hQ : Q.length ≤ 100000000) (hw : ∀ w ∈ Q, w ≠ [] ∧ w.length ≤ 100) (k0 n : Nat) :
    ∀ t p, p ++ t = Q → ∀ k, t.length < k → ∀ O R : Ws, O.length + t.length ≤ 1000000000 → R.length + t.length ≤ 1000000000 →
      r22_Ways_L2 lb n k k0 num an (lcv L) miles a b m (.list fl (wcv Q)) i b77 l78 O.isEmpty (wcv O) R.isEmpty (wcv R) (p.length : Int) =
        r22_Ways_L1 lb n k0 num an (lcv L) miles a b m (O ++ t.filter fun w => decide (lastB w = b)).isEmpty (wcv (O ++ t.filter fun w => decide (lastB w = b))) (R ++ t.filter fun w => decide (lastB w ≠ b)).isEmpty (wcv (R ++ t.filter fun w => decide (lastB w ≠ b))) (IntKind.wrap .i64 (i + 1)) := by
  intro t
  induction t with
  | nil =>
    intro p hp k hk O R hO hR
    obtain ⟨k, rfl⟩ : ∃ m, k = m + 1 := ⟨k - 1, by simp at hk; omega⟩
    have hpa : p = Q := by simpa using hp
    rw [r22_Ways_L2_succ]
    refine stO _ rfl (stF (decF (by show ¬ (p.length : Int) < ((wcv Q).length : Int); rw [hpa, wcv_len]; omega)) ?_)
    rw [r22_Ways_J3_eq, r22_Ways_J4_eq]
    simp
  | cons w t ih =>
    intro p hp k hk O R hO hR
    obtain ⟨k, rfl⟩ : ∃ m, k = m + 1 := ⟨k - 1, by simp at hk; omega⟩
    have hal : Q.length = p.length + (t.length + 1) := by rw [← hp]; simp
    have hat := wcv_at (W := Q) (i := p.length) (w := w) (by rw [← hp]; simp)
    have hwQ := hw w (by rw [← hp]; simp)
    have hO' : O.length + (t.length + 1) ≤ 1000000000 := by simpa using hO
    have hR' : R.length + (t.length + 1) ≤ 1000000000 := by simpa using hR
    have hkt : t.length < k := by simp at hk; omega
    have hi : IntKind.wrap .i64 ((p.length : Int) + 1) = ((p ++ [w]).length : Int) := by rw [wrap64 (by omega) (by omega)]; simp
    rw [r22_Ways_L2_succ]
    refine stO _ rfl (stT (decT (by show (p.length : Int) < ((wcv Q).length : Int); rw [wcv_len]; omega)) (stO _ rfl (stO _ hat (stC rfl (stO _ rfl (stO _ rfl (stO _ hat (stC rfl (stO _ rfl (stO _ rfl (stO _ rfl (stO _ (last_at hwQ.1 (by omega)) (stC rfl (stO _ rfl (stO _ rfl ?_)))))))))))))))
    by_cases e : lastB w = b
    · refine stT (by simp [e]) (stO _ rfl (stO _ hat (stC rfl (stO _ rfl (stC rfl (stC (room_ok (by rw [wcv_len]; omega)) ?_))))))
      have h2 := ih (p ++ [w]) (by rw [← hp]; simp) k hkt (O ++ [w]) R (by simp; omega) (by omega)
      rw [hi, wcv_snoc, nil_snoc O.isEmpty O w, h2, List.filter_cons, if_pos (by simpa using e), List.filter_cons, if_neg (by simpa using e), List.append_assoc]
      rfl
    · refine stF (by simp [e]) (stO _ rfl (stO _ hat (stC rfl (stO _ rfl (stC rfl (stC (room_ok (by rw [wcv_len]; omega)) ?_))))))
      have h2 := ih (p ++ [w]) (by rw [← hp]; simp) k hkt O (R ++ [w]) (by omega) (by simp; omega)
      rw [hi, wcv_snoc, nil_snoc R.isEmpty R w, h2, List.filter_cons, if_neg (by simpa using e), List.filter_cons, if_pos (by simpa using e), List.append_assoc]
      rfl
end Go.Proofs
