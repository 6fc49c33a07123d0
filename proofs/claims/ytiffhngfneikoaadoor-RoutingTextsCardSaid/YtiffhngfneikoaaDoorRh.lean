/- Parse of chapter 22 and of its reference on plain data; the law RoutingTexts. Conditions: as each says. -/
import Derived.Test.YtiffhngfneikoaaDoorRg
import Derived.Test.YtiffhngfneikoaaDoorRx
set_option linter.unusedSimpArgs false
namespace Go.Proofs
open Go.Am
variable (lb : Bool)
/-- the end of both -/
theorem end_ret {P : Nat → Option CV} {n m : Int} {l : List Lk} {f : FuncId} (chk : Ret lb f [rcv n l.isEmpty l m] (lstF (checkF n l m)))
    (h : ∀ k, P k = optO (C lb k f [rcv n l.isEmpty l m]) fun r61 => optO (CV.asL r61) fun p62 => bif (decide ((p62.2.length : Int) > 0)) then (optO (CV.asL r61) fun p63 => optO (atL p63.2 0) fun c65 => chkO (c65.length == 2) (optO (c65[0]?) fun x66 =>
      some (.tup [.agg [.int .i64 0, .list true [], .int .i64 0], x66]))) else (some (.tup [rcv n l.isEmpty l m, .int .i64 0]))) : Evt fun k => P k = some (prV (endR n m l)) := by
  refine chk.mono fun k hk => ?_
  rw [h k]
  unfold endR
  cases hF : checkF n l m with
  | nil =>
    rw [hF] at hk
    exact stO _ hk (stO _ rfl (stF rfl rfl))
  | cons f t =>
    obtain ⟨p1, p2⟩ := faults_pos hF
    exact stO _ hk (stO _ rfl (stT (decT p1) (stO _ rfl (stO _ p2 (stC rfl (stO _ rfl rfl))))))
theorem drop2_len (ws : List Bs) : ((scv ws).take (((scv ws).length : Int).toNat)).drop 2 = scv (ws.drop 2) := by
  rw [Int.toNat_natCast, List.take_length]
  simp [scv]
theorem index_zero (b c : UInt8) (l : Bs) : Lib.indexByte (b :: l) c = 0 ↔ b = c := by
  unfold Lib.indexByte
  by_cases h : b = c
  · simp [h]
  · have hg := Lib.indexByte_ge l c
    have hb : (b == c) = false := by simpa using h
    rw [hb]
    simp only [Bool.false_eq_true, if_false]
    by_cases h2 : Lib.indexByte l c = -1
    · simp [h2, h]
    · have h3 : (Lib.indexByte l c == -1) = false := by simpa using h2
      rw [h3]
      simp only [Bool.false_eq_true, if_false]
      constructor
      · intro q; omega
      · intro q; exact absurd q h
theorem idx45 {s : Bs} (h : s.length = 7) : (Lib.indexByte ((s.take ((s.length : Int).toNat)).drop 3) (45 : UInt8) = 0) ↔ s[3]? = some 45 := by
  match s, h with
  | [a, b, c, d, e, f, g], _ =>
    show Lib.indexByte [d, e, f, g] 45 = 0 ↔ some d = some 45
    rw [index_zero]
    simp
theorem idx_ret (s : Bs) : Ret lb F_strings_IndexByte [.str ((s.take ((s.length : Int).toNat)).drop 3), .int .u8 45] (.int .i64 (Lib.indexByte ((s.take ((s.length : Int).toNat)).drop 3) (45 : UInt8))) := by
  refine .lib rfl ?_
  rfl
theorem parts_eq (s : Bs) : [CV.str ((s.take 3).drop 0), CV.str ((s.take ((s.length : Int).toNat)).drop 4)] = lenc (s.take 3, s.drop 4) := by
  rw [Int.toNat_natCast, List.take_length]
  rfl
theorem lcv_snoc (l : List Lk) (x : Lk) : lcv l ++ [lenc x] = lcv (l ++ [x]) := by simp [lcv]
theorem linkR_iff {w : Bs} (h7 : w.length = 7) (h45 : w[3]? = some 45) : linkR w = some (w.take 3, w.drop 4) := by
  unfold linkR
  rw [if_pos ⟨h7, h45⟩]
theorem linkR_no7 {w : Bs} (h7 : w.length ≠ 7) : linkR w = none := by
  unfold linkR
  rw [if_neg (fun q => h7 q.1)]
theorem linkR_no45 {w : Bs} (h : w[3]? ≠ some 45) : linkR w = none := by
  unfold linkR
  rw [if_neg (fun q => h q.2)]
theorem parseL_some {n m : Int} {acc : List Lk} {w : Bs} {t : List Bs} {x : Lk} (h : linkR w = some x) : parseL n m acc (w :: t) = parseL n m (acc ++ [x]) t := by
  show (match linkR w with
      | none => PR.err 3
      | some x => parseL n m (acc ++ [x]) t) = _
  rw [h]
theorem parseL_none {n m : Int} {acc : List Lk} {w : Bs} {t : List Bs} (h : linkR w = none) : parseL n m acc (w :: t) = .err 3 := by
  show (match linkR w with
      | none => PR.err 3
      | some x => parseL n m (acc ++ [x]) t) = _
  rw [h]
theorem short_snoc {acc : List Lk} {s : Bs} (h7 : s.length = 7) (h : ∀ x ∈ acc, x.1.length ≤ 7 ∧ x.2.length ≤ 7) : ∀ x ∈ acc ++ [(s.take 3, s.drop 4)], x.1.length ≤ 7 ∧ x.2.length ≤ 7 := by
  intro x hx
  rcases List.mem_append.1 hx with hx | hx
  · exact h x hx
  · simp only [List.mem_singleton] at hx
    subst hx
    simp
    omega
theorem big_of_short {acc : List Lk} (h : ∀ x ∈ acc, x.1.length ≤ 7 ∧ x.2.length ≤ 7) : ∀ x ∈ acc, x.1.length ≤ 1000000000 ∧ x.2.length ≤ 1000000000 :=
  fun x hx => ⟨by have := (h x hx).1; omega, by have := (h x hx).2; omega⟩
theorem pparse_loop (s : Bs) (x4 x27 r2 x6 : CV) (bn : Bool) (a b : Bs) (n0 m0 : Int) (t : List Bs) (ht : t.length ≤ 100000) : ∀ u p (acc : List Lk), p ++ u = t → acc.length = p.length → (∀ x ∈ acc, x.1.length ≤ 7 ∧ x.2.length ≤ 7) → Evt fun n => ∀ k, u.length < k →
    routing_Parse_L1 lb n k s x4 x27 r2 x6 (bn, scv (a :: b :: t)) (.int .i64 n0) (.int .i64 m0) (p.length : Int) acc.isEmpty (lcv acc) = some (prV (parseL n0 m0 acc u)) := by
  have hd : ((scv (a :: b :: t)).take (((scv (a :: b :: t)).length : Int).toNat)).drop 2 = scv t := by rw [drop2_len]; rfl
  intro u
  induction u with
  | nil =>
    intro p acc hp hap hs
    have hp : p = t := by simpa using hp
    subst hp
    refine (end_ret lb (P := fun k => routing_Parse_J2 lb k s x4 x27 r2 x6 (.int .i64 n0) (.int .i64 m0) acc.isEmpty (lcv acc)) (routing_Check_ret lb n0 m0 acc.isEmpty acc (big_of_short hs)) (fun k => by rw [routing_Parse_J2_eq])).mono fun n hn k hk => ?_
    obtain ⟨k, rfl⟩ : ∃ m, k = m + 1 := ⟨k - 1, by simp at hk; omega⟩
    rw [routing_Parse_L1_succ]
    simp only [hd]
    exact stF (decF (by rw [scv_len]; omega)) hn
  | cons w u ih =>
    intro p acc hp hap hs
    have hpl : t.length = p.length + (u.length + 1) := by rw [← hp]; simp
    have hat : atL (scv t) (p.length : Int) = some [.str w] := atL_ok (scv_get (by rw [← hp]; simp))
    by_cases h7 : w.length = 7
    · by_cases h45 : w[3]? = some 45
      · have hl := linkR_iff h7 h45
        refine Evt.imp2 (ih (p ++ [w]) (acc ++ [(w.take 3, w.drop 4)]) (by rw [← hp]; simp) (by simp [hap]) (short_snoc h7 hs)) (idx_ret lb w) fun n h2 h3 k hk => ?_
        obtain ⟨k, rfl⟩ : ∃ m, k = m + 1 := ⟨k - 1, by simp at hk; omega⟩
        have h2 := h2 k (by simp at hk; omega)
        rw [routing_Parse_L1_succ, parseL_some hl]
        simp only [hd]
        rw [wrap64 (by omega) (by omega), show (p.length : Int) + 1 = ((p ++ [w]).length : Int) by simp]
        refine stT (decT (by rw [scv_len]; omega)) (stO _ hat (stC rfl (stO _ rfl (stO _ rfl (stF (bneF (by omega)) (stO _ rfl (stC (decT (by omega)) (stO _ h3 (stO _ (asI_i ..) (stF (bneF ((idx45 h7).2 h45)) (stO _ rfl (stC (decT (by omega)) (stO _ rfl (stC (decT (by omega)) (stC (room_small (by rw [lcv_len]; omega) (by omega)) ?_)))))))))))))))
        rw [parts_eq, lcv_snoc, nil_snoc acc.isEmpty acc (w.take 3, w.drop 4)]
        exact h2
      · have hl := linkR_no45 h45
        refine (idx_ret lb w).mono fun n h3 k hk => ?_
        obtain ⟨k, rfl⟩ : ∃ m, k = m + 1 := ⟨k - 1, by simp at hk; omega⟩
        rw [routing_Parse_L1_succ, parseL_none hl]
        simp only [hd]
        exact stT (decT (by rw [scv_len]; omega)) (stO _ hat (stC rfl (stO _ rfl (stO _ rfl (stF (bneF (by omega)) (stO _ rfl (stC (decT (by omega)) (stO _ h3 (stO _ (asI_i ..) (stT (bneT (fun e => h45 ((idx45 h7).1 e))) rfl))))))))))
    · refine .all fun n k hk => ?_
      obtain ⟨k, rfl⟩ : ∃ m, k = m + 1 := ⟨k - 1, by simp at hk; omega⟩
      rw [routing_Parse_L1_succ, parseL_none (linkR_no7 h7)]
      simp only [hd]
      exact stT (decT (by rw [scv_len]; omega)) (stO _ hat (stC rfl (stO _ rfl (stO _ rfl (stT (bneT (by omega)) rfl)))))
theorem words_bound {s : Bs} {w : List Bs} (h : wordsB s = some w) : w.length ≤ s.length ∧ ∀ x ∈ w, x.length ≤ s.length := by
  have hj := wordsB_some h
  have hb : ∀ l : List Bs, sumLen l ≤ (joinB l).length ∧ l.length ≤ (joinB l).length := by
    intro l
    induction l with
    | nil => simp [sumLen, joinB]
    | cons w r ih =>
      have hw := wordB_len w
      have hwn := List.length_pos_iff.2 (wordB_ne w)
      cases r with
      | nil => simp only [joinB, sumLen_cons, List.length_cons, List.length_nil]; simp [sumLen]; omega
      | cons x r =>
        rw [joinB_cons w (by simp), sumLen_cons]
        simp only [List.length_append, List.length_cons] at ih ⊢
        omega
  have := hb w
  rw [← hj] at this
  refine ⟨this.2, fun x hx => ?_⟩
  have mem : ∀ {l : List Bs}, x ∈ l → x.length ≤ sumLen l := by
    intro l
    induction l with
    | nil => intro h; cases h
    | cons y l ih =>
      intro h
      rw [sumLen_cons]
      rcases List.mem_cons.1 h with rfl | h
      · omega
      · have := ih h; omega
  have := mem hx
  omega
theorem parseW_eq (a b : Bs) (t : List Bs) : parseW (a :: b :: t) = if (numB a).2 ≠ 0 then .err (numB a).2 else if (numB b).2 ≠ 0 then .err (numB b).2 else parseL (numB a).1 (numB b).1 [] t := rfl
theorem routing_Parse_ret (s : Bs) (hs : s.length ≤ 100000) : Ret true F_routing_Parse [.str s] (prV (parseR s)) := by
  have wd := text_Words_ret true s (by omega)
  unfold parseR
  cases hw : wordsB s with
  | none =>
    rw [hw] at wd
    refine .top rfl (wd.mono fun n hn => ?_)
    rw [routing_Parse_eq]
    exact stO _ hn (stO _ rfl (stO _ rfl (stO _ rfl (stO _ rfl (stO _ rfl (stT rfl rfl))))))
  | some w =>
    rw [hw] at wd
    obtain ⟨b1, b2⟩ := words_bound hw
    match w, wd, b1, b2 with
    | [], wd, _, _ =>
      refine .top rfl (wd.mono fun n hn => ?_)
      rw [routing_Parse_eq]
      exact stO _ hn (stO _ rfl (stO _ rfl (stO _ rfl (stO _ rfl (stO _ rfl (stF rfl (stO _ rfl (stT rfl rfl))))))))
    | [a], wd, _, _ =>
      refine .top rfl (wd.mono fun n hn => ?_)
      rw [routing_Parse_eq]
      exact stO _ hn (stO _ rfl (stO _ rfl (stO _ rfl (stO _ rfl (stO _ rfl (stF rfl (stO _ rfl (stT rfl rfl))))))))
    | a :: b :: t, wd, b1, b2 =>
      have ha := b2 a (by simp)
      have hb := b2 b (by simp)
      have n1 := text_Number_ret a (by omega)
      have n2 := text_Number_ret b (by omega)
      have hlen : ¬ (((scv (a :: b :: t)).length : Int) < 2) := by rw [scv_len]; simp only [List.length_cons]; omega
      show Ret true F_routing_Parse [.str s] (prV (parseW (a :: b :: t)))
      rw [parseW_eq]
      by_cases q1 : (numB a).2 = 0
      · rw [if_neg (by simpa using q1)]
        by_cases q2 : (numB b).2 = 0
        · rw [if_neg (by simpa using q2)]
          have lp := Evt.diag (pparse_loop true s (.list s.isEmpty (scv (a :: b :: t))) (.int .i64 (numB b).2) (.tup [.list s.isEmpty (scv (a :: b :: t)), .int .i64 0]) (.int .i64 0) s.isEmpty a b (numB a).1 (numB b).1 t (by simp only [List.length_cons] at b1; omega) t [] [] rfl rfl (fun _ h => by cases h))
          refine .top rfl (Evt.imp2 (Evt.and wd (Evt.and n1 n2)) lp fun n ⟨hn, h1, h2⟩ h3 => ?_)
          rw [routing_Parse_eq]
          exact stO _ hn (stO _ rfl (stO _ rfl (stO _ rfl (stO _ rfl (stO _ rfl (stF rfl (stO _ rfl (stF (decF hlen) (stO _ rfl (stO _ rfl (stC rfl (stO _ rfl (stO _ h1 (stO _ rfl (stO _ rfl (stO _ rfl (stO _ rfl (stC rfl (stO _ (asI_i ..) (stF (bneF q1) (stO _ rfl (stO _ rfl (stC rfl (stO _ rfl (stO _ h2 (stO _ rfl (stO _ rfl (stO _ rfl (stO _ rfl (stC rfl (stO _ (asI_i ..) (stF (bneF q2) (stO _ rfl (stC (all_one_scv _) (stC (decT ⟨by omega, by show (2 : Int) ≤ ((scv (a :: b :: t)).length : Int); omega⟩) h3)))))))))))))))))))))))))))))))))))
        · rw [if_pos q2]
          refine .top rfl (Evt.and wd (Evt.and n1 n2) |>.mono fun n ⟨hn, h1, h2⟩ => ?_)
          rw [routing_Parse_eq]
          exact stO _ hn (stO _ rfl (stO _ rfl (stO _ rfl (stO _ rfl (stO _ rfl (stF rfl (stO _ rfl (stF (decF hlen) (stO _ rfl (stO _ rfl (stC rfl (stO _ rfl (stO _ h1 (stO _ rfl (stO _ rfl (stO _ rfl (stO _ rfl (stC rfl (stO _ (asI_i ..) (stF (bneF q1) (stO _ rfl (stO _ rfl (stC rfl (stO _ rfl (stO _ h2 (stO _ rfl (stO _ rfl (stO _ rfl (stO _ rfl (stC rfl (stO _ (asI_i ..) (stT (bneT q2) rfl))))))))))))))))))))))))))))))))
      · rw [if_pos q1]
        refine .top rfl (Evt.and wd (Evt.and n1 n2) |>.mono fun n ⟨hn, h1, h2⟩ => ?_)
        rw [routing_Parse_eq]
        exact stO _ hn (stO _ rfl (stO _ rfl (stO _ rfl (stO _ rfl (stO _ rfl (stF rfl (stO _ rfl (stF (decF hlen) (stO _ rfl (stO _ rfl (stC rfl (stO _ rfl (stO _ h1 (stO _ rfl (stO _ rfl (stO _ rfl (stO _ rfl (stC rfl (stO _ (asI_i ..) (stT (bneT q1) rfl))))))))))))))))))))
theorem atS3 {w : Bs} (h7 : w.length = 7) : ∃ c, w[3]? = some c ∧ atS w 3 = some c := by
  have : w[3]? = some w[3] := List.getElem?_eq_getElem (by omega)
  exact ⟨_, this, atS_ok (i := 3) this⟩
theorem rparse_loop (s : Bs) (x27 r2 x6 r13 : CV) (c11 : List CV) (x12 x18 r23 : CV) (c21 : List CV) (x22 : CV) (bn : Bool) (n0 m0 : Int) (w : List Bs) (hw : w.length ≤ 100000) : ∀ u p (acc : List Lk), p ++ u = w → acc ≠ [] → acc.length ≤ p.length → (∀ x ∈ acc, x.1.length ≤ 7 ∧ x.2.length ≤ 7) → Evt fun n => ∀ k, u.length < k →
    r22_Parse_L2 lb n k s (.list bn (scv w)) x27 (.int .i64 n0) (.int .i64 m0) r2 x6 r13 c11 x12 x18 r23 c21 x22 (p.length : Int) (lcv acc) = some (prV (parseL n0 m0 acc u)) := by
  intro u
  induction u with
  | nil =>
    intro p acc hp hne hap hs
    have hp : p = w := by simpa using hp
    subst hp
    have hem : acc.isEmpty = false := by cases acc with | nil => exact absurd rfl hne | cons _ _ => rfl
    refine (end_ret lb (P := fun k => r22_Parse_J3 lb k s (.list bn (scv p)) x27 (.int .i64 n0) (.int .i64 m0) r2 x6 r13 c11 x12 x18 r23 c21 x22 (p.length : Int) acc.isEmpty (lcv acc)) (r22_Check_ret lb n0 m0 acc.isEmpty acc (big_of_short hs)) (fun k => by rw [r22_Parse_J3_eq])).mono fun n hn k hk => ?_
    obtain ⟨k, rfl⟩ : ∃ m, k = m + 1 := ⟨k - 1, by simp at hk; omega⟩
    rw [r22_Parse_L2_succ]
    rw [hem] at hn
    exact stO _ rfl (stF (decF (by simp only [scv_len]; omega)) hn)
  | cons v u ih =>
    intro p acc hp hne hap hs
    have hpl : w.length = p.length + (u.length + 1) := by rw [← hp]; simp
    have hat : atL (scv w) (p.length : Int) = some [.str v] := atL_ok (scv_get (by rw [← hp]; simp))
    by_cases h7 : v.length = 7
    · obtain ⟨c, hc, hc3⟩ := atS3 h7
      by_cases h45 : v[3]? = some 45
      · have hl := linkR_iff h7 h45
        have hcc : (c.toNat : Int) = 45 := by rw [hc] at h45; rw [Option.some.inj h45]; rfl
        refine (ih (p ++ [v]) (acc ++ [(v.take 3, v.drop 4)]) (by rw [← hp]; simp) (by simp) (by simp; omega) (short_snoc h7 hs)).mono fun n h2 k hk => ?_
        obtain ⟨k, rfl⟩ : ∃ m, k = m + 1 := ⟨k - 1, by simp at hk; omega⟩
        have h2 := h2 k (by simp at hk; omega)
        rw [r22_Parse_L2_succ, parseL_some hl]
        rw [wrap64 (by omega) (by omega), show (p.length : Int) + 1 = ((p ++ [v]).length : Int) by simp]
        refine stO _ rfl (stT (decT (by simp only [scv_len]; omega)) (stO _ rfl (stO _ hat (stC rfl (stO _ rfl (stO _ rfl (stF (bneF (by omega)) (stO _ rfl (stO _ hat (stC rfl (stO _ rfl (stO _ rfl (stO _ hc3 (stF (bneF hcc) (stO _ rfl (stO _ hat (stC rfl (stO _ rfl (stO _ rfl (stC (decT (by omega)) (stO _ rfl (stO _ hat (stC rfl (stO _ rfl (stO _ rfl (stC (decT (by omega)) (stC (room_small (by rw [lcv_len]; omega) (by omega)) ?_)))))))))))))))))))))))))))
        rw [parts_eq, lcv_snoc]
        exact h2
      · have hl := linkR_no45 h45
        have hcc : (c.toNat : Int) ≠ 45 := by
          intro e
          refine h45 ?_
          rw [hc]
          congr 1
          exact u8_ext (by show c.toNat = 45; omega)
        refine .all fun n k hk => ?_
        obtain ⟨k, rfl⟩ : ∃ m, k = m + 1 := ⟨k - 1, by simp at hk; omega⟩
        rw [r22_Parse_L2_succ, parseL_none hl]
        exact stO _ rfl (stT (decT (by simp only [scv_len]; omega)) (stO _ rfl (stO _ hat (stC rfl (stO _ rfl (stO _ rfl (stF (bneF (by omega)) (stO _ rfl (stO _ hat (stC rfl (stO _ rfl (stO _ rfl (stO _ hc3 (stT (bneT hcc) rfl))))))))))))))
    · refine .all fun n k hk => ?_
      obtain ⟨k, rfl⟩ : ∃ m, k = m + 1 := ⟨k - 1, by simp at hk; omega⟩
      rw [r22_Parse_L2_succ, parseL_none (linkR_no7 h7)]
      exact stO _ rfl (stT (decT (by simp only [scv_len]; omega)) (stO _ rfl (stO _ hat (stC rfl (stO _ rfl (stO _ rfl (stT (bneT (by omega)) rfl)))))))
theorem rparse_L1 (s : Bs) (x27 r2 x6 r13 : CV) (c11 : List CV) (x12 x18 r23 : CV) (c21 : List CV) (x22 : CV) (bn : Bool) (a b : Bs) (n0 m0 : Int) (t : List Bs) (hw : (a :: b :: t).length ≤ 100000) : Evt fun n =>
    r22_Parse_L1 lb n n s (.list bn (scv (a :: b :: t))) x27 (.int .i64 n0) (.int .i64 m0) r2 x6 r13 c11 x12 x18 r23 c21 x22 = some (prV (parseL n0 m0 [] t)) := by
  cases t with
  | nil =>
    refine Evt.imp2 (end_ret lb (n := n0) (m := m0) (l := []) (f := F_r22_Check) (P := fun k => r22_Parse_J4 lb k s (.list bn (scv [a, b])) x27 (.int .i64 n0) (.int .i64 m0) r2 x6 r13 c11 x12 x18 r23 c21 x22 2) (r22_Check_ret lb n0 m0 true [] (fun _ h => by cases h)) (fun k => by rw [r22_Parse_J4_eq]; rfl)) (Evt.ge 1) fun n hn hge => ?_
    obtain ⟨n', rfl⟩ : ∃ m, n = m + 1 := ⟨n - 1, by omega⟩
    rw [r22_Parse_L1_succ]
    exact stO _ rfl (stF rfl hn)
  | cons v u =>
    have hat : atL (scv (a :: b :: v :: u)) 2 = some [.str v] := atL_ok (i := 2) (scv_get rfl)
    have hgt : (2 : Int) < ((scv (a :: b :: v :: u)).length : Int) := by rw [scv_len]; simp only [List.length_cons]; omega
    by_cases h7 : v.length = 7
    · obtain ⟨c, hc, hc3⟩ := atS3 h7
      by_cases h45 : v[3]? = some 45
      · have hl := linkR_iff h7 h45
        have hcc : (c.toNat : Int) = 45 := by rw [hc] at h45; rw [Option.some.inj h45]; rfl
        have lp := rparse_loop lb s x27 r2 x6 r13 c11 x12 x18 r23 c21 x22 bn n0 m0 (a :: b :: v :: u) hw u [a, b, v] [(v.take 3, v.drop 4)] rfl (by simp) (by simp) (short_snoc (acc := []) h7 (fun _ h => by cases h))
        refine Evt.imp2 lp (Evt.ge (u.length + 2)) fun n hn hge => ?_
        obtain ⟨n', rfl⟩ : ∃ m, n = m + 1 := ⟨n - 1, by omega⟩
        rw [r22_Parse_L1_succ, parseL_some hl]
        refine stO _ rfl (stT (decT hgt) (stO _ rfl (stO _ hat (stC rfl (stO _ rfl (stO _ rfl (stF (bneF (by omega)) (stO _ rfl (stO _ hat (stC rfl (stO _ rfl (stO _ rfl (stO _ hc3 (stF (bneF hcc) (stO _ rfl (stO _ hat (stC rfl (stO _ rfl (stO _ rfl (stC (decT (by omega)) (stO _ rfl (stO _ hat (stC rfl (stO _ rfl (stO _ rfl (stC (decT (by omega)) ?_))))))))))))))))))))))))))
        rw [parts_eq]
        exact hn n' (by omega)
      · have hl := linkR_no45 h45
        have hcc : (c.toNat : Int) ≠ 45 := by
          intro e
          refine h45 ?_
          rw [hc]
          congr 1
          exact u8_ext (by show c.toNat = 45; omega)
        refine .from 1 fun n => ?_
        rw [r22_Parse_L1_succ, parseL_none hl]
        exact stO _ rfl (stT (decT hgt) (stO _ rfl (stO _ hat (stC rfl (stO _ rfl (stO _ rfl (stF (bneF (by omega)) (stO _ rfl (stO _ hat (stC rfl (stO _ rfl (stO _ rfl (stO _ hc3 (stT (bneT hcc) rfl))))))))))))))
    · refine .from 1 fun n => ?_
      rw [r22_Parse_L1_succ, parseL_none (linkR_no7 h7)]
      exact stO _ rfl (stT (decT hgt) (stO _ rfl (stO _ hat (stC rfl (stO _ rfl (stO _ rfl (stT (bneT (by omega)) rfl)))))))
theorem r22_Parse_ret (s : Bs) (hs : s.length ≤ 100000) : Ret lb F_r22_Parse [.str s] (prV (parseR s)) := by
  have wd := r01_Words_ret lb s (by omega)
  unfold parseR
  cases hw : wordsB s with
  | none =>
    rw [hw] at wd
    refine .top rfl (wd.mono fun n hn => ?_)
    rw [r22_Parse_eq]
    exact stO _ hn (stO _ rfl (stO _ rfl (stO _ rfl (stO _ rfl (stO _ rfl (stT rfl rfl))))))
  | some w =>
    rw [hw] at wd
    obtain ⟨b1, b2⟩ := words_bound hw
    match w, wd, b1, b2 with
    | [], wd, _, _ =>
      refine .top rfl (wd.mono fun n hn => ?_)
      rw [r22_Parse_eq]
      exact stO _ hn (stO _ rfl (stO _ rfl (stO _ rfl (stO _ rfl (stO _ rfl (stF rfl (stO _ rfl (stT rfl rfl))))))))
    | [a], wd, _, _ =>
      refine .top rfl (wd.mono fun n hn => ?_)
      rw [r22_Parse_eq]
      exact stO _ hn (stO _ rfl (stO _ rfl (stO _ rfl (stO _ rfl (stO _ rfl (stF rfl (stO _ rfl (stT rfl rfl))))))))
    | a :: b :: t, wd, b1, b2 =>
      have ha := b2 a (by simp)
      have hb := b2 b (by simp)
      have n1 := r01_Number_ret lb a (by omega)
      have n2 := r01_Number_ret lb b (by omega)
      have hlen : ¬ (((scv (a :: b :: t)).length : Int) < 2) := by rw [scv_len]; simp only [List.length_cons]; omega
      show Ret lb F_r22_Parse [.str s] (prV (parseW (a :: b :: t)))
      rw [parseW_eq]
      by_cases q1 : (numB a).2 = 0
      · rw [if_neg (by simpa using q1)]
        by_cases q2 : (numB b).2 = 0
        · rw [if_neg (by simpa using q2)]
          have lp := rparse_L1 lb s (.int .i64 (numB b).2) (.tup [.list s.isEmpty (scv (a :: b :: t)), .int .i64 0]) (.int .i64 0) (numR a) [.str a] (.str a) (.int .i64 (numB a).2) (numR b) [.str b] (.str b) s.isEmpty a b (numB a).1 (numB b).1 t (by omega)
          refine .top rfl (Evt.imp2 (Evt.and wd (Evt.and n1 n2)) lp fun n ⟨hn, h1, h2⟩ h3 => ?_)
          rw [r22_Parse_eq]
          exact stO _ hn (stO _ rfl (stO _ rfl (stO _ rfl (stO _ rfl (stO _ rfl (stF rfl (stO _ rfl (stF (decF hlen) (stO _ rfl (stO _ rfl (stC rfl (stO _ rfl (stO _ h1 (stO _ rfl (stO _ rfl (stO _ rfl (stO _ rfl (stO _ (asI_i ..) (stF (bneF q1) (stO _ rfl (stO _ rfl (stC rfl (stO _ rfl (stO _ h2 (stO _ rfl (stO _ rfl (stO _ rfl (stO _ rfl (stO _ (asI_i ..) (stF (bneF q2) (stC rfl (stC rfl h3))))))))))))))))))))))))))))))))
        · rw [if_pos q2]
          refine .top rfl (Evt.and wd (Evt.and n1 n2) |>.mono fun n ⟨hn, h1, h2⟩ => ?_)
          rw [r22_Parse_eq]
          exact stO _ hn (stO _ rfl (stO _ rfl (stO _ rfl (stO _ rfl (stO _ rfl (stF rfl (stO _ rfl (stF (decF hlen) (stO _ rfl (stO _ rfl (stC rfl (stO _ rfl (stO _ h1 (stO _ rfl (stO _ rfl (stO _ rfl (stO _ rfl (stO _ (asI_i ..) (stF (bneF q1) (stO _ rfl (stO _ rfl (stC rfl (stO _ rfl (stO _ h2 (stO _ rfl (stO _ rfl (stO _ rfl (stO _ rfl (stO _ (asI_i ..) (stT (bneT q2) rfl))))))))))))))))))))))))))))))
      · rw [if_pos q1]
        refine .top rfl (Evt.and wd (Evt.and n1 n2) |>.mono fun n ⟨hn, h1, h2⟩ => ?_)
        rw [r22_Parse_eq]
        exact stO _ hn (stO _ rfl (stO _ rfl (stO _ rfl (stO _ rfl (stO _ rfl (stF rfl (stO _ rfl (stF (decF hlen) (stO _ rfl (stO _ rfl (stC rfl (stO _ rfl (stO _ h1 (stO _ rfl (stO _ rfl (stO _ rfl (stO _ rfl (stO _ (asI_i ..) (stT (bneT q1) rfl)))))))))))))))))))
/-! the law -/
theorem lsame_loop (num miles num2 miles2 : Int) (an bn : Bool) (a : List Lk) (ha : a.length ≤ 1000000000) : ∀ t p, p ++ t = a → Evt fun n => ∀ k, t.length < k →
    r22_Same_L1 lb n k num an (lcv a) miles num2 bn (lcv a) miles2 (p.length : Int) = some (.bool true) := by
  intro t
  induction t with
  | nil =>
    intro p hp
    refine .all fun n k hk => ?_
    obtain ⟨k, rfl⟩ : ∃ m, k = m + 1 := ⟨k - 1, by simp at hk; omega⟩
    have hpa : p = a := by simpa using hp
    rw [r22_Same_L1_succ]
    refine stF (decF (by rw [hpa, lcv_len]; omega)) ?_
    rw [r22_Same_J2_eq]
  | cons x t ih =>
    intro p hp
    have hal : a.length = p.length + (t.length + 1) := by rw [← hp]; simp
    have hat : atL (lcv a) (p.length : Int) = some [.str x.1, .str x.2] := atL_ok (by rw [← hp]; simp [lcv, lenc])
    refine (ih (p ++ [x]) (by rw [← hp]; simp)).mono fun n hn k hk => ?_
    obtain ⟨k, rfl⟩ : ∃ m, k = m + 1 := ⟨k - 1, by simp at hk; omega⟩
    have hn := hn k (by simp at hk; omega)
    rw [r22_Same_L1_succ, wrap64 (by omega) (by omega), show (p.length : Int) + 1 = ((p ++ [x]).length : Int) by simp]
    exact stT (decT (by rw [lcv_len]; omega)) (stO _ hat (stC rfl (stO _ rfl (stO _ rfl (stO _ hat (stC rfl (stO _ rfl (stO _ rfl (stO _ rfl (stO _ rfl (stO _ rfl (stO _ rfl (stF (by simp) hn)))))))))))))
theorem r22_Same_self (num miles : Int) (an bn : Bool) (a : List Lk) (ha : a.length ≤ 1000000000) : Ret lb F_r22_Same [rcv num an a miles, rcv num bn a miles] (.bool true) := by
  refine .top rfl ((Evt.diag (lsame_loop lb num miles num miles an bn a ha a [] rfl)).mono fun n hn => ?_)
  rw [r22_Same_eq]
  exact stF (bneF rfl) (stF (bneF rfl) (stF (bneF rfl) hn))
theorem printR_len {r : Rt3} (hl : r.2.1.length ≤ 200) (hk : lkLen r.2.1 ≤ 5000) : (printR r).1.length ≤ 100000 := by
  obtain ⟨n, l, m⟩ := r
  unfold printR
  simp only at hl hk ⊢
  split
  · rename_i e
    have hn : 1 ≤ n ∧ n ≤ 9999 ∧ 0 ≤ m ∧ m ≤ 99999 ∧ l.length ≤ 128 := checkF_nums e
    have h1 := words_sum (n := n) (m := m) (l := l) ⟨by omega, by omega⟩ ⟨by omega, by omega⟩
    have h2 := joinB_len (wordsR (n, l, m))
    have h3 : (wordsR (n, l, m)).length = l.length + 2 := by simp [wordsR]
    simp only
    omega
  · simp
theorem parsed_small {s : Bs} (_hs : s.length ≤ 400) {n m : Int} {l : List Lk} (h : parseR s = .ok (n, l, m)) : ∀ x ∈ l, x.1.length ≤ 1000000 ∧ x.2.length ≤ 1000000 := by
  obtain ⟨_, h2⟩ := parse_ok h
  intro x hx
  have := checkF_links h2 x hx
  unfold airportB at this
  simp only [Bool.and_eq_true, decide_eq_true_eq] at this
  omega
/-- the last part of the law: what is written is read -/
theorem texts_back {n m : Int} {l : List Lk} (an : Bool) (hl : l.length ≤ 200) (hk : lkLen l ≤ 5000) : Evt fun k => (optO (CV.asI .i64 (.int .i64 (printR (n, l, m)).2)) fun i59 => bif (i59 != 0) then (optO (CV.asS (.str (printR (n, l, m)).1)) fun s60 => bif (s60 == []) then (optO (C true k F_l22_awake []) fun r61 => some (r61)) else (some (.bool false)))
    else (optO (C true k F_routing_Parse [.str (printR (n, l, m)).1]) fun r62 => optO (CV.asT r62) fun t63 => optO (t63[0]?) fun x65 => optO (CV.asT r62) fun t66 => optO (t66[1]?) fun x67 => optO (CV.asA x65) fun c68 => chkO (c68.length == 3) (optO (c68[0]?) fun x69 => optO (c68[1]?) fun x70 => optO (c68[2]?) fun x71 =>
      optO (C true k F_r22_Same [.agg [x69, x70, x71], .agg [.int .i64 n, .list an (lcv l), .int .i64 m]]) fun r72 => optO (CV.asB r72) fun b73 => bif b73 then (optO (CV.asI .i64 x67) fun i74 => bif (i74 == 0) then (optO (C true k F_l22_awake []) fun r75 => some (r75)) else (some (.bool false))) else (some (.bool false))))) = some (.bool true) := by
  have hlen := printR_len (r := (n, l, m)) hl hk
  by_cases hF : checkF n l m = []
  · obtain ⟨p1, p2⟩ := print_back (r := (n, l, m)) hF
    rw [p1] at hlen ⊢
    have pr := routing_Parse_ret (joinB (wordsR (n, l, m))) hlen
    rw [p2] at pr
    refine Evt.imp2 (Evt.and pr (r22_Same_self true n m l.isEmpty an l (by omega))) (wake22 true) fun k ⟨h1, h2⟩ h3 => ?_
    exact stO _ (asI_i ..) (stF rfl (stO _ h1 (stO _ rfl (stO _ rfl (stO _ rfl (stO _ rfl (stO _ rfl (stC rfl (stO _ rfl (stO _ rfl (stO _ rfl (stO _ h2 (stO _ rfl (stT rfl (stO _ (asI_i ..) (stT rfl h3))))))))))))))))
  · obtain ⟨p1, p2⟩ := print_err (r := (n, l, m)) hF
    refine (wake22 true).mono fun k h3 => ?_
    exact stO _ (asI_i ..) (stT (bneT p2) (stO _ rfl (stT (by rw [p1]; rfl) h3)))
theorem routingTexts_ok (num miles : Int) (an : Bool) (l : List Lk) (hl : ∀ x ∈ l, x.1.length ≤ 281474976710656 ∧ x.2.length ≤ 281474976710656) (s : Bs) : Ret true F_l22_RoutingTexts [rcv num an l miles, .str s] (.bool true) := by
  refine .top rfl ?_
  have e1 := big_ret true num miles an l hl
  cases hb : bigB l with
  | true =>
    rw [hb] at e1
    refine Evt.imp2 e1 (wake22 true) fun n k1 hn => ?_
    rw [l22_RoutingTexts_eq]
    exact stO _ k1 (stO _ rfl (stT rfl hn))
  | false =>
  rw [hb] at e1
  obtain ⟨h1, h2⟩ := small_links hb
  have hk : lkLen l ≤ 5000 := by
    unfold bigB at hb
    simp only [Bool.or_eq_false_iff, decide_eq_false_iff_not] at hb
    rw [List.take_of_length_le (by omega)] at hb
    omega
  by_cases h4 : (s.length : Int) > 400
  · refine Evt.imp2 e1 (wake22 true) fun n k1 hn => ?_
    rw [l22_RoutingTexts_eq]
    exact stO _ k1 (stO _ rfl (stF rfl (stT (decT h4) hn)))
  have h3 : ∀ x ∈ l, x.1.length ≤ 1000000 ∧ x.2.length ≤ 1000000 := fun x hx => ⟨by have := (h2 x hx).1; omega, by have := (h2 x hx).2; omega⟩
  have p1 := routing_Print_ret true num miles an l h3
  have p2 := r22_Print_ret true num miles an l h3
  have q1 := routing_Parse_ret s (by omega)
  have q2 := r22_Parse_ret true s (by omega)
  have back := texts_back (n := num) (m := miles) (l := l) an (by omega) hk
  cases hp : parseR s with
  | err e =>
    have he := parse_err hp
    rw [hp] at q1 q2
    refine Evt.imp2 (Evt.and e1 (Evt.and (Evt.and p1 p2) (Evt.and q1 q2))) (Evt.and (r22_Same_self true 0 0 true true [] (by simp)) back) fun n ⟨k1, ⟨a1, a2⟩, b1, b2⟩ ⟨k3, k4⟩ => ?_
    rw [l22_RoutingTexts_eq]
    refine stO _ k1 (stO _ rfl (stF rfl (stF (decF h4) (stO _ a1 (stO _ rfl (stO _ rfl (stO _ rfl (stO _ rfl (stO _ a2 (stO _ rfl (stO _ rfl (stO _ rfl (stO _ rfl (stO _ b1 (stO _ rfl (stO _ rfl (stO _ rfl (stO _ rfl (stO _ rfl (stC rfl (stO _ rfl (stO _ rfl (stO _ rfl (stO _ b2 (stO _ rfl (stO _ rfl (stO _ rfl (stO _ rfl (stO _ rfl (stC rfl (stO _ rfl (stO _ rfl (stO _ rfl ?_)))))))))))))))))))))))))))))))))
    refine stO _ rfl (stO _ rfl (stF (by simp) (stO _ (asI_i ..) (stO _ (asI_i ..) (stF (bneF rfl) (stO _ k3 (stO _ rfl (stF rfl (stO _ (asI_i ..) (stO _ (asI_i ..) (stF (bneF rfl) (stO _ (asI_i ..) (stF (beqF he) ?_)))))))))))))
    rw [l22_RoutingTexts_J2_eq]
    exact k4
  | ok r =>
    obtain ⟨n', l', m'⟩ := r
    rw [hp] at q1 q2
    obtain ⟨c1, c2⟩ := parse_ok hp
    have cn : 1 ≤ n' ∧ n' ≤ 9999 ∧ 0 ≤ m' ∧ m' ≤ 99999 ∧ l'.length ≤ 128 := checkF_nums c2
    have pr := routing_Print_ret true n' m' l'.isEmpty l' (parsed_small (by omega) hp)
    rw [c1] at pr
    refine Evt.imp2 (Evt.and e1 (Evt.and (Evt.and p1 p2) (Evt.and q1 q2))) (Evt.and (Evt.and (r22_Same_self true n' m' l'.isEmpty l'.isEmpty l' (by omega)) pr) back) fun n ⟨k1, ⟨a1, a2⟩, b1, b2⟩ ⟨⟨k3, k5⟩, k4⟩ => ?_
    rw [l22_RoutingTexts_eq]
    refine stO _ k1 (stO _ rfl (stF rfl (stF (decF h4) (stO _ a1 (stO _ rfl (stO _ rfl (stO _ rfl (stO _ rfl (stO _ a2 (stO _ rfl (stO _ rfl (stO _ rfl (stO _ rfl (stO _ b1 (stO _ rfl (stO _ rfl (stO _ rfl (stO _ rfl (stO _ rfl (stC rfl (stO _ rfl (stO _ rfl (stO _ rfl (stO _ b2 (stO _ rfl (stO _ rfl (stO _ rfl (stO _ rfl (stO _ rfl (stC rfl (stO _ rfl (stO _ rfl (stO _ rfl ?_)))))))))))))))))))))))))))))))))
    refine stO _ rfl (stO _ rfl (stF (by simp) (stO _ (asI_i ..) (stO _ (asI_i ..) (stF (bneF rfl) (stO _ k3 (stO _ rfl (stF rfl (stO _ (asI_i ..) (stO _ (asI_i ..) (stF (bneF rfl) (stO _ (asI_i ..) (stT rfl (stO _ k5 (stO _ rfl (stO _ rfl (stO _ rfl (stO _ rfl (stO _ rfl (stF (by simp) (stO _ (asI_i ..) (stF rfl ?_))))))))))))))))))))))
    rw [l22_RoutingTexts_J1_eq]
    exact k4
end Go.Proofs
