/- The law RoutingTexts on plain data. Conditions: as it says. -/
import Derived.Test.YtiffhngfneikoaaDoorRf
import Derived.Test.YtiffhngfneikoaaDoorG22b
set_option linter.unusedSimpArgs false
namespace Go.Proofs
open Go.Am
/-! the plain law -/
abbrev Rt3 := Int × List Lk × Int
def linkW (x : Lk) : Bs := x.1 ++ [45] ++ x.2
def linkR (w : Bs) : Option Lk := if w.length = 7 ∧ w[3]? = some 45 then some (w.take 3, w.drop 4) else none
inductive PR where
  | ok (r : Rt3)
  | err (e : Int)
def endR (n m : Int) (l : List Lk) : PR := match checkF n l m with
  | [] => .ok (n, l, m)
  | f :: _ => .err f.1
def parseL (n m : Int) (acc : List Lk) : List Bs → PR
  | [] => endR n m acc
  | w :: t => match linkR w with
    | none => .err 3
    | some x => parseL n m (acc ++ [x]) t
def parseW : List Bs → PR
  | a :: b :: t => if (numB a).2 ≠ 0 then .err (numB a).2 else if (numB b).2 ≠ 0 then .err (numB b).2 else parseL (numB a).1 (numB b).1 [] t
  | _ => .err 3
def parseR (s : Bs) : PR := match wordsB s with
  | none => .err 3
  | some w => parseW w
def prV : PR → CV
  | .ok (n, l, m) => .tup [rcv n l.isEmpty l m, .int .i64 0]
  | .err e => .tup [.agg [.int .i64 0, .list true [], .int .i64 0], .int .i64 e]
def wordsR (r : Rt3) : List Bs := Lib.itoa r.1 :: Lib.itoa r.2.2 :: r.2.1.map linkW
def printR (r : Rt3) : Bs × Int := match checkF r.1 r.2.1 r.2.2 with
  | [] => (joinB (wordsR r), 0)
  | f :: _ => ([], f.1)
def printV (p : Bs × Int) : CV := .tup [.str p.1, .int .i64 p.2]
theorem linkE_ne (p : List Lk) (x : Lk) : ∀ e ∈ linkE p x, e ≠ 0 := by
  intro e he
  unfold linkE at he
  simp only [List.mem_append] at he
  rcases he with he | he | he
  · split at he <;> simp at he; omega
  · split at he <;> simp at he; omega
  · split at he <;> simp at he; omega
theorem checkF_ne (n m : Int) (l : List Lk) : ∀ f ∈ checkF n l m, f.1 ≠ 0 := by
  have hloop : ∀ t p, ∀ f ∈ loopF p t, f.1 ≠ 0 := by
    intro t
    induction t with
    | nil => intro p f hf; cases hf
    | cons x t ih =>
      intro p f hf
      simp only [loopF, List.mem_append] at hf
      rcases hf with hf | hf
      · unfold linkF at hf
        obtain ⟨e, he, rfl⟩ := List.mem_map.1 hf
        exact linkE_ne p x e he
      · exact ih _ f hf
  intro f hf
  unfold checkF at hf
  simp only [List.mem_append] at hf
  rcases hf with hf | hf | hf
  · unfold numF at hf; split at hf <;> simp at hf; rw [hf]; decide
  · unfold linksF at hf
    split at hf
    · simp at hf; rw [hf]; decide
    · exact hloop l [] f hf
  · unfold milesF at hf; split at hf <;> simp at hf; rw [hf]; decide
theorem linkR_word {x : Lk} (h : airportB x.1 = true) (h2 : airportB x.2 = true) : linkR (linkW x) = some x := by
  unfold airportB at h h2
  simp only [Bool.and_eq_true, decide_eq_true_eq] at h h2
  obtain ⟨a, b⟩ := x
  match a, h.1 with
  | [a1, a2, a3], _ =>
    match b, h2.1 with
    | [b1, b2, b3], _ => rfl
theorem linkR_some {w : Bs} {x : Lk} (h : linkR w = some x) : w = linkW x := by
  unfold linkR at h
  split at h
  · rename_i q
    obtain rfl := Option.some.inj h
    match w, q with
    | [a, b, c, d, e, f, g], ⟨_, q2⟩ =>
      have q2 : d = 45 := by simpa using q2
      subst q2
      rfl
  · cases h
theorem checkF_links {n m : Int} {l : List Lk} (h : checkF n l m = []) : ∀ x ∈ l, airportB x.1 = true ∧ airportB x.2 = true := by
  have hloop : ∀ t p, loopF p t = [] → ∀ x ∈ t, airportB x.1 = true ∧ airportB x.2 = true := by
    intro t
    induction t with
    | nil => intro p _ x hx; cases hx
    | cons y t ih =>
      intro p hp x hx
      simp only [loopF, List.append_eq_nil_iff] at hp
      rcases List.mem_cons.1 hx with rfl | hx
      · have h1 := hp.1
        unfold linkF linkE at h1
        simp only [List.map_eq_nil_iff, List.append_eq_nil_iff] at h1
        have h2 := h1.1
        split at h2
        · rename_i q; simpa using q
        · cases h2
      · exact ih _ hp.2 x hx
  unfold checkF at h
  simp only [List.append_eq_nil_iff] at h
  have h2 := h.2.1
  unfold linksF at h2
  split at h2
  · cases h2
  · exact hloop l [] h2
theorem checkF_nums {n m : Int} {l : List Lk} (h : checkF n l m = []) : 1 ≤ n ∧ n ≤ 9999 ∧ 0 ≤ m ∧ m ≤ 99999 ∧ l.length ≤ 128 := by
  unfold checkF at h
  simp only [List.append_eq_nil_iff] at h
  obtain ⟨h1, h2, h3⟩ := h
  unfold numF at h1
  unfold milesF at h3
  unfold linksF at h2
  split at h1
  · cases h1
  split at h3
  · cases h3
  split at h2
  · cases h2
  omega
theorem parseL_ok {n m : Int} : ∀ {t : List Bs} {acc : List Lk} {r : Rt3}, parseL n m acc t = .ok r → ∃ L, t = L.map linkW ∧ r = (n, acc ++ L, m) ∧ checkF n (acc ++ L) m = []
  | [], acc, r, h => by
    unfold parseL endR at h
    split at h
    · rename_i e
      injection h with h
      exact ⟨[], rfl, by rw [List.append_nil]; exact h.symm, by rw [List.append_nil]; exact e⟩
    · cases h
  | w :: t, acc, r, h => by
    unfold parseL at h
    split at h
    · cases h
    · rename_i x hx
      obtain ⟨L, h1, h2, h3⟩ := parseL_ok h
      refine ⟨x :: L, by rw [List.map_cons, ← h1, linkR_some hx], by rw [h2]; simp, by simpa using h3⟩
theorem parseL_back {n m : Int} : ∀ {l acc : List Lk}, (∀ x ∈ l, airportB x.1 = true ∧ airportB x.2 = true) → checkF n (acc ++ l) m = [] → parseL n m acc (l.map linkW) = .ok (n, acc ++ l, m)
  | [], acc, _, h => by
    rw [List.append_nil] at h ⊢
    show endR n m acc = _
    unfold endR
    rw [h]
  | x :: l, acc, ha, h => by
    have hx := ha x (List.mem_cons_self ..)
    show (match linkR (linkW x) with
      | none => PR.err 3
      | some x => parseL n m (acc ++ [x]) (l.map linkW)) = _
    rw [linkR_word hx.1 hx.2]
    simp only
    rw [parseL_back (fun y hy => ha y (List.mem_cons_of_mem _ hy)) (by simpa using h)]
    simp
theorem parse_ok {s : Bs} {r : Rt3} (h : parseR s = .ok r) : printR r = (s, 0) ∧ checkF r.1 r.2.1 r.2.2 = [] := by
  unfold parseR at h
  split at h
  · cases h
  · rename_i w hw
    have hs := wordsB_some hw
    unfold parseW at h
    split at h
    · rename_i a b t
      split at h
      · cases h
      · rename_i q1
        split at h
        · cases h
        · rename_i q2
          obtain ⟨L, h1, h2, h3⟩ := parseL_ok h
          have n1 := numB_back (s := a) (z := (numB a).1) (by rw [← show (numB a).2 = 0 by simpa using q1])
          have n2 := numB_back (s := b) (z := (numB b).1) (by rw [← show (numB b).2 = 0 by simpa using q2])
          subst h2
          rw [List.nil_append] at h3
          refine ⟨?_, by simpa using h3⟩
          unfold printR
          simp only [List.nil_append, h3]
          unfold wordsR
          simp only
          rw [← n1.1, ← n2.1, ← h1, ← hs]
    · cases h
theorem print_back {r : Rt3} (h : checkF r.1 r.2.1 r.2.2 = []) : printR r = (joinB (wordsR r), 0) ∧ parseR (joinB (wordsR r)) = .ok r := by
  obtain ⟨n, l, m⟩ := r
  have hn : 1 ≤ n ∧ n ≤ 9999 ∧ 0 ≤ m ∧ m ≤ 99999 ∧ l.length ≤ 128 := checkF_nums h
  refine ⟨by unfold printR; rw [h], ?_⟩
  unfold parseR
  rw [wordsB_join]
  show parseW (Lib.itoa n :: Lib.itoa m :: l.map linkW) = _
  unfold parseW
  simp only
  rw [numB_itoa n (by omega) (by omega), numB_itoa m (by omega) (by omega), if_neg (by simp), if_neg (by simp), parseL_back (checkF_links h) (by simpa using h)]
  simp
theorem print_err {r : Rt3} (h : checkF r.1 r.2.1 r.2.2 ≠ []) : (printR r).1 = [] ∧ (printR r).2 ≠ 0 := by
  unfold printR
  split
  · rename_i e; exact absurd e h
  · rename_i f t e
    exact ⟨rfl, checkF_ne _ _ _ f (by rw [e]; exact List.mem_cons_self ..)⟩
theorem parse_err {s : Bs} {e : Int} (h : parseR s = .err e) : e ≠ 0 := by
  have hend : ∀ {n m : Int} {l : List Lk} {e : Int}, endR n m l = .err e → e ≠ 0 := by
    intro n m l e h
    unfold endR at h
    split at h
    · cases h
    · rename_i f t q
      injection h with h
      rw [← h]
      exact checkF_ne n m l f (by rw [q]; exact List.mem_cons_self ..)
  have hL : ∀ {n m : Int} {t : List Bs} {acc : List Lk} {e : Int}, parseL n m acc t = .err e → e ≠ 0 := by
    intro n m t
    induction t with
    | nil => intro acc e h; exact hend h
    | cons w t ih =>
      intro acc e h
      unfold parseL at h
      split at h
      · injection h with h; omega
      · exact ih h
  unfold parseR at h
  split at h
  · injection h with h; omega
  · unfold parseW at h
    split at h
    · split at h
      · injection h with h; omega
      · split at h
        · injection h with h; omega
        · exact hL h
    · injection h with h; omega

/-! the functions -/
variable (lb : Bool)
theorem head_at {l : List Ft} {f : Ft} {t : List Ft} (h : l = f :: t) : atL (lstF l).asL.get!.2 0 = some [.int .i64 f.1, .str f.2] := by
  subst h; rfl
/-- what both do when the faults are known -/
theorem faults_pos {F : List Ft} {f : Ft} {t : List Ft} (h : F = f :: t) : ((fcv F).length : Int) > 0 ∧ atL (fcv F) 0 = some [.int .i64 f.1, .str f.2] := by
  subst h
  exact ⟨by simp [fcv], rfl⟩
def wsum (l : List Lk) : Nat := sumLen (l.map linkW)
theorem lk_word (x : Lk) : (linkW x).length = x.1.length + 1 + x.2.length := by simp [linkW]; omega
theorem wsum_le (l : List Lk) : sumLen (l.map linkW) = lkLen l + l.length := by
  induction l with
  | nil => rfl
  | cons x l ih =>
    rw [List.map_cons, sumLen_cons, ih, lkLen_cons, lk_word, List.length_cons]; omega
theorem scv_snoc (l : List Bs) (w : Bs) : scv l ++ [[CV.str w]] = scv (l ++ [w]) := by simp [scv]
theorem print_loop (num miles : Int) (an : Bool) (l : List Lk) (hl : l.length ≤ 1000) (hx : ∀ x ∈ l, x.1.length ≤ 1000000 ∧ x.2.length ≤ 1000000) (r5 r11 r12 : CV) (w0 : List Bs) (hw : w0.length ≤ 10) (R : CV)
    (hR : Evt fun n => C lb n F_text_Join [.list false (scv (w0 ++ l.map linkW))] = some R) : ∀ t p, p ++ t = l → Evt fun n => ∀ k, t.length < k →
    routing_Print_L1 lb n k num an (lcv l) miles r5 r11 r12 (scv (w0 ++ p.map linkW)) (p.length : Int) = some (.tup [R, .int .i64 0]) := by
  intro t
  induction t with
  | nil =>
    intro p hp
    have hp : p = l := by simpa using hp
    subst hp
    refine hR.mono fun n hn k hk => ?_
    obtain ⟨k, rfl⟩ : ∃ m, k = m + 1 := ⟨k - 1, by simp at hk; omega⟩
    rw [routing_Print_L1_succ]
    refine stF (decF (by rw [lcv_len]; omega)) ?_
    rw [routing_Print_J2_eq]
    exact stO _ hn rfl
  | cons x t ih =>
    intro p hp
    have hpl : l.length = p.length + (t.length + 1) := by rw [← hp]; simp
    have hat : atL (lcv l) (p.length : Int) = some [.str x.1, .str x.2] := atL_ok (by rw [← hp]; simp [lcv, lenc])
    have hxx := hx x (by rw [← hp]; simp)
    refine (ih (p ++ [x]) (by rw [← hp]; simp)).mono fun n h2 k hk => ?_
    obtain ⟨k, rfl⟩ : ∃ m, k = m + 1 := ⟨k - 1, by simp at hk; omega⟩
    have h2 := h2 k (by simp at hk; omega)
    rw [routing_Print_L1_succ, wrap64 (by omega) (by omega), show (p.length : Int) + 1 = ((p ++ [x]).length : Int) by simp]
    refine stT (decT (by rw [lcv_len]; omega)) (stO _ hat (stC rfl (stO _ rfl (stO _ rfl (stO _ rfl (stC (decT (by simp only [List.length_cons, List.length_nil]; omega)) (stO _ rfl (stC (decT (by simp only [List.length_append, List.length_cons, List.length_nil]; omega)) (stC (room_small (by rw [scv_len]; simp; omega) (by omega)) ?_)))))))))
    rw [scv_snoc, show w0 ++ p.map linkW ++ [x.1 ++ [45] ++ x.2] = w0 ++ (p ++ [x]).map linkW by simp [linkW]]
    exact h2
theorem rprint_loop (num miles : Int) (an : Bool) (l : List Lk) (hl : l.length ≤ 1000) (hx : ∀ x ∈ l, x.1.length ≤ 1000000 ∧ x.2.length ≤ 1000000) (r5 r11 r12 : CV) (w0 : List Bs) (hw : w0.length ≤ 10) (R : CV)
    (hR : Evt fun n => C lb n F_r01_Join [.list false (scv (w0 ++ l.map linkW))] = some R) : ∀ t p, p ++ t = l → Evt fun n => ∀ k, t.length < k →
    r22_Print_L1 lb n k num an (lcv l) miles r5 r11 r12 (scv (w0 ++ p.map linkW)) (p.length : Int) = some (.tup [R, .int .i64 0]) := by
  intro t
  induction t with
  | nil =>
    intro p hp
    have hp : p = l := by simpa using hp
    subst hp
    refine hR.mono fun n hn k hk => ?_
    obtain ⟨k, rfl⟩ : ∃ m, k = m + 1 := ⟨k - 1, by simp at hk; omega⟩
    rw [r22_Print_L1_succ]
    refine stF (decF (by rw [lcv_len]; omega)) ?_
    rw [r22_Print_J2_eq]
    exact stO _ hn rfl
  | cons x t ih =>
    intro p hp
    have hpl : l.length = p.length + (t.length + 1) := by rw [← hp]; simp
    have hat : atL (lcv l) (p.length : Int) = some [.str x.1, .str x.2] := atL_ok (by rw [← hp]; simp [lcv, lenc])
    have hxx := hx x (by rw [← hp]; simp)
    refine (ih (p ++ [x]) (by rw [← hp]; simp)).mono fun n h2 k hk => ?_
    obtain ⟨k, rfl⟩ : ∃ m, k = m + 1 := ⟨k - 1, by simp at hk; omega⟩
    have h2 := h2 k (by simp at hk; omega)
    rw [r22_Print_L1_succ, wrap64 (by omega) (by omega), show (p.length : Int) + 1 = ((p ++ [x]).length : Int) by simp]
    refine stT (decT (by rw [lcv_len]; omega)) (stO _ hat (stC rfl (stO _ rfl (stO _ rfl (stC (decT (by simp only [List.length_cons, List.length_nil]; omega)) (stO _ hat (stC rfl (stO _ rfl (stO _ rfl (stC (decT (by simp only [List.length_append, List.length_cons, List.length_nil]; omega)) (stC (room_small (by rw [scv_len]; simp; omega) (by omega)) ?_)))))))))))
    rw [scv_snoc, show w0 ++ p.map linkW ++ [x.1 ++ [45] ++ x.2] = w0 ++ (p ++ [x]).map linkW by simp [linkW]]
    exact h2
theorem words_sum {n m : Int} {l : List Lk} (hn : -9223372036854775808 ≤ n ∧ n ≤ 9223372036854775807) (hm : -9223372036854775808 ≤ m ∧ m ≤ 9223372036854775807) : sumLen (wordsR (n, l, m)) ≤ 42 + lkLen l + l.length := by
  have h1 := itoa_len hn.1 hn.2
  have h2 := itoa_len hm.1 hm.2
  have h3 := wsum_le l
  unfold wordsR
  simp only
  rw [sumLen_cons, sumLen_cons]
  omega
theorem routing_Print_ret (num miles : Int) (an : Bool) (l : List Lk) (hx : ∀ x ∈ l, x.1.length ≤ 1000000 ∧ x.2.length ≤ 1000000) : Ret lb F_routing_Print [rcv num an l miles] (printV (printR (num, l, miles))) := by
  have chk := routing_Check_ret lb num miles an l (fun x h => ⟨by have := (hx x h).1; omega, by have := (hx x h).2; omega⟩)
  unfold printR
  simp only
  cases hF : checkF num l miles with
  | cons f t =>
    refine .top rfl (chk.mono fun n hn => ?_)
    rw [routing_Print_eq]
    obtain ⟨p1, p2⟩ := faults_pos hF
    exact stO _ hn (stO _ rfl (stT (decT p1) (stO _ rfl (stO _ p2 (stC rfl (stO _ rfl rfl))))))
  | nil =>
    have nums := checkF_nums hF
    have d1 := text_Decimal_ret lb num (by omega) (by omega)
    have d2 := text_Decimal_ret lb miles (by omega) (by omega)
    have hs := words_sum (n := num) (m := miles) (l := l) ⟨by omega, by omega⟩ ⟨by omega, by omega⟩
    have hap := checkF_links hF
    have hlk : lkLen l ≤ 6 * l.length := by
      clear hs d1 d2 chk hF
      induction l with
      | nil => simp [lkLen]
      | cons y l ih =>
        have hy := hap y (List.mem_cons_self ..)
        unfold airportB at hy
        simp only [Bool.and_eq_true, decide_eq_true_eq] at hy
        have := ih (fun x h => hx x (List.mem_cons_of_mem _ h)) ⟨nums.1, nums.2.1, nums.2.2.1, nums.2.2.2.1, by have := nums.2.2.2.2; simp at this; omega⟩ (fun x h => hap x (List.mem_cons_of_mem _ h))
        rw [lkLen_cons, List.length_cons]; omega
    have jn := text_Join_ret lb false (wordsR (num, l, miles)) (by simp [wordsR]; omega) (by omega)
    have lp := Evt.diag (print_loop lb num miles an l (by omega) hx (lstF []) (.str (Lib.itoa num)) (.str (Lib.itoa miles)) [Lib.itoa num, Lib.itoa miles] (by simp) _ jn l [] rfl)
    refine .top rfl (Evt.imp2 chk (Evt.and (Evt.and d1 d2) lp) fun n hn ⟨⟨h1, h2⟩, h3⟩ => ?_)
    rw [routing_Print_eq]
    rw [hF] at hn
    exact stO _ hn (stO _ rfl (stF rfl (stO _ h1 (stO _ h2 (stC rfl (stC rfl h3))))))
theorem r22_Print_ret (num miles : Int) (an : Bool) (l : List Lk) (hx : ∀ x ∈ l, x.1.length ≤ 1000000 ∧ x.2.length ≤ 1000000) : Ret lb F_r22_Print [rcv num an l miles] (printV (printR (num, l, miles))) := by
  have chk := r22_Check_ret lb num miles an l (fun x h => ⟨by have := (hx x h).1; omega, by have := (hx x h).2; omega⟩)
  unfold printR
  simp only
  cases hF : checkF num l miles with
  | cons f t =>
    refine .top rfl (chk.mono fun n hn => ?_)
    rw [r22_Print_eq]
    obtain ⟨p1, p2⟩ := faults_pos hF
    exact stO _ hn (stO _ rfl (stT (decT p1) (stO _ rfl (stO _ p2 (stC rfl (stO _ rfl rfl))))))
  | nil =>
    have nums := checkF_nums hF
    have d1 := r01_Decimal_ret lb num (by omega) (by omega)
    have d2 := r01_Decimal_ret lb miles (by omega) (by omega)
    have hs := words_sum (n := num) (m := miles) (l := l) ⟨by omega, by omega⟩ ⟨by omega, by omega⟩
    have hap := checkF_links hF
    have hlk : lkLen l ≤ 6 * l.length := by
      clear hs d1 d2 chk hF
      induction l with
      | nil => simp [lkLen]
      | cons y l ih =>
        have hy := hap y (List.mem_cons_self ..)
        unfold airportB at hy
        simp only [Bool.and_eq_true, decide_eq_true_eq] at hy
        have := ih (fun x h => hx x (List.mem_cons_of_mem _ h)) ⟨nums.1, nums.2.1, nums.2.2.1, nums.2.2.2.1, by have := nums.2.2.2.2; simp at this; omega⟩ (fun x h => hap x (List.mem_cons_of_mem _ h))
        rw [lkLen_cons, List.length_cons]; omega
    have jn := r01_Join_ret lb false (wordsR (num, l, miles)) (by simp [wordsR]; omega) (by omega)
    have lp := Evt.diag (rprint_loop lb num miles an l (by omega) hx (lstF []) (.str (Lib.itoa num)) (.str (Lib.itoa miles)) [Lib.itoa num, Lib.itoa miles] (by simp) _ jn l [] rfl)
    refine .top rfl (Evt.imp2 chk (Evt.and (Evt.and d1 d2) lp) fun n hn ⟨⟨h1, h2⟩, h3⟩ => ?_)
    rw [r22_Print_eq]
    rw [hF] at hn
    exact stO _ hn (stO _ rfl (stF rfl (stO _ h1 (stO _ h2 (stC rfl (stC rfl h3))))))
end Go.Proofs
