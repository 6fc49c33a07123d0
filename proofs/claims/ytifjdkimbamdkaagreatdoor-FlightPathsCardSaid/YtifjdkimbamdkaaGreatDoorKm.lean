/- Chapter 7 on plain data: the path of a segment, by the program and by its reference. Conditions: as each says. -/
import Derived.Test.YtifjdkimbamdkaaGreatDoorKk
set_option linter.unusedSimpArgs false
set_option linter.unusedVariables false
namespace Go.Proofs
open Go.Am
variable (lb : Bool)
/-! what a flight without faults is -/
theorem upto_has {fr days d : Int} (h : onF days d = true) : ∀ {k : Nat}, fr ≤ d → d < fr + k → d ∈ upto fr days k
  | 0, h1, h2 => by omega
  | k + 1, h1, h2 => by
    simp only [upto, List.mem_append]
    by_cases e : d = fr + k
    · subst e; rw [if_pos h]; exact .inr (by simp)
    · exact .inl (upto_has h h1 (by omega))
theorem checkF_legs {p : Pc} {f : Fl} (h : checkF p f = []) : f.legs.length ≤ 6 ∧ 1 ≤ f.legs.length ∧ legsFt p [] f.legs = [] := by
  unfold checkF at h
  split at h
  · rename_i hl
    exfalso
    unfold headF at h
    rw [if_pos (by rw [Bool.or_eq_true, decide_eq_true_eq, decide_eq_true_eq]; omega)] at h
    simp at h
  · rename_i hl
    split at h
    · rename_i h2
      exact ⟨by omega, by omega, (List.append_eq_nil_iff.1 h2).2⟩
    · rename_i h2
      exact absurd h h2
theorem legsFt_nil {p : Pc} : ∀ {t r : List Lg}, legsFt p r t = [] → ∀ q x s, q ++ x :: s = t → legE p (r ++ q) x = []
  | y :: t, r, h, q, x, s, hq => by
    simp only [legsFt] at h
    obtain ⟨h1, h2⟩ := List.append_eq_nil_iff.1 h
    cases q with
    | nil =>
      simp only [List.nil_append, List.cons.injEq] at hq
      obtain ⟨rfl, rfl⟩ := hq
      simpa using h1
    | cons z q =>
      simp only [List.cons_append, List.cons.injEq] at hq
      obtain ⟨rfl, hq⟩ := hq
      have := legsFt_nil h2 q x s hq
      simpa using this
  | [], r, h, q, x, s, hq => by simp at hq
theorem legE_brk {p : Pc} {q : List Lg} {x : Lg} (h : legE p q x = []) : brk q x = false := by
  unfold legE at h
  obtain ⟨h, h4⟩ := List.append_eq_nil_iff.1 h
  obtain ⟨h, h3⟩ := List.append_eq_nil_iff.1 h
  cases e : brk q x with
  | false => rfl
  | true => rw [e] at h3; cases h3
/-- stops: each begins where the one before ended; none returns -/
def Stops : List (Bs × Bs) → Prop
  | [] => True
  | x :: r => (∀ y ∈ x :: r, x.1 ≠ y.2) ∧ (match r with | [] => True | y :: _ => y.1 = x.2) ∧ Stops r
theorem stops_fro : ∀ {x : Bs × Bs} {r : List (Bs × Bs)}, Stops (x :: r) → ∀ y ∈ r, x.1 ≠ y.1
  | x, [], h, y, hy => by cases hy
  | x, z :: r, h, y, hy => by
    obtain ⟨h1, h2, h3⟩ := h
    simp only at h2
    have gen : ∀ (r : List (Bs × Bs)) (z : Bs × Bs), Stops (z :: r) → x.1 ≠ z.1 → (∀ y ∈ z :: r, x.1 ≠ y.2) → ∀ y ∈ z :: r, x.1 ≠ y.1 := by
      intro r
      induction r with
      | nil =>
        intro z _ hz _ y hy
        simp only [List.mem_singleton] at hy
        subst hy; exact hz
      | cons w r ih =>
        intro z hs hz ha y hy
        rcases List.mem_cons.1 hy with rfl | hy
        · exact hz
        · obtain ⟨_, e, hs'⟩ := hs
          simp only at e
          exact ih w hs' (by rw [e]; exact ha z (List.mem_cons_self ..)) (fun y hy => ha y (List.mem_cons_of_mem _ hy)) y hy
    exact gen r z h3 (by rw [h2]; exact h1 x (List.mem_cons_self ..)) (fun y hy => h1 y (List.mem_cons_of_mem _ hy)) y hy
theorem stops_to : ∀ {x : Bs × Bs} {r : List (Bs × Bs)}, Stops (x :: r) → ∀ y ∈ r, x.2 ≠ y.2
  | x, [], h, y, hy => by cases hy
  | x, z :: r, h, y, hy => by
    obtain ⟨h1, h2, h3, _⟩ := h
    simp only at h2
    rw [← h2]
    exact h3 y hy
theorem stops_tail {x : Bs × Bs} {r : List (Bs × Bs)} (h : Stops (x :: r)) : Stops r := h.2.2
theorem stops_app : ∀ {q r : List (Bs × Bs)}, Stops (q ++ r) → Stops r
  | [], r, h => h
  | x :: q, r, h => stops_app (q := q) (stops_tail h)
theorem stops_of {p : Pc} : ∀ (t q : List Lg), (∀ q' x s, q' ++ x :: s = q ++ t → brk q' x = false) → Stops (t.map fun x => (x.fro, x.to))
  | [], q, h => trivial
  | x :: t, q, h => by
    refine ⟨fun y hy => ?_, ?_, stops_of (p := p) t (q ++ [x]) (fun q' x' s' e => h q' x' s' (by rw [e]; simp))⟩
    · have hy : y ∈ (x :: t).map fun x => (x.fro, x.to) := hy
      obtain ⟨z, hz, rfl⟩ := List.mem_map.1 hy
      obtain ⟨a, b, hab⟩ := List.append_of_mem hz
      have := h (q ++ a) z b (by rw [List.append_assoc, ← hab])
      unfold brk at this
      simp only [Bool.or_eq_false_iff] at this
      have h2 := this.2
      rw [List.any_eq_false] at h2
      have hx : x ∈ q ++ a ++ [z] := by
        cases a with
        | nil =>
          simp only [List.nil_append, List.cons.injEq] at hab
          rw [hab.1]; simp
        | cons w a =>
          simp only [List.cons_append, List.cons.injEq] at hab
          rw [hab.1]; simp
      have := h2 x hx
      simpa using this
    · cases t with
      | nil => trivial
      | cons y t =>
        have := h (q ++ [x]) y t (by simp)
        unfold brk at this
        simp only [Bool.or_eq_false_iff, List.getLast?_append, List.getLast?_singleton, Option.some_or] at this
        simpa using this.1
def froTo (d : Dt) : Bs × Bs := (d.fro, d.to)
theorem stops_legs {p : Pc} {f : Fl} (h : checkF p f = []) (day : Int) : Stops ((legsF p f day).map froTo) := by
  have hl := (checkF_legs h).2.2
  have := stops_of (p := p) f.legs [] (fun q' x s e => legE_brk (by have := legsFt_nil hl q' x s (by simpa using e); simpa using this))
  unfold legsF
  rw [List.map_map]
  exact this

/-! paths -/
structure Li where
  car : Bs
  num : Int
  day : Int
  fro : Bs
def licv (x : Li) : List CV := [.str x.car, .int .i64 x.num, .int .i64 x.day, .str x.fro]
def idF (d : Dt) : Li := ⟨d.car, d.num, d.day, d.fro⟩
/-- the legs of a path, or its error -/
abbrev Pth := List Li × Int
def pthIn (s : Sg) (a : Dt) : List Dt → List Dt → Pth
  | _, [] => ([], 14)
  | pre, b :: t => if b.to = s.to then (if a.dep = s.dep then (if b.arr = s.arr then ((pre ++ [b]).map idF, 0) else ([], 13)) else ([], 13)) else pthIn s a (pre ++ [b]) t
def pthF (s : Sg) : List Dt → Pth
  | [] => ([], 14)
  | a :: r => if a.fro = s.fro then pthIn s a [] (a :: r) else pthF s r
def pthV (r : Pth) : CV := .tup [.list (r.2 != 0) (r.1.map licv), .int .i64 r.2]
def PthR (r : Pth) (v : CV) : Prop := v = pthV r
theorem pth_none (s : Sg) : ∀ (l : List Dt), (∀ b ∈ l, b.fro ≠ s.fro) → pthF s l = ([], 14)
  | [], _ => rfl
  | a :: r, h => by
    unfold pthF
    rw [if_neg (h a (List.mem_cons_self ..))]
    exact pth_none s r fun b hb => h b (List.mem_cons_of_mem _ hb)

/-! the program's -/
theorem fp_L3 (p : Pc) (f : Fl) (s : Sg) (n : Nat) (p65 : Bool × List (List CV)) (i40 : Int) (x25 r21 x23 : CV) (i76 i103 : Int) (l : List Dt) (hl : l.length ≤ 1000) (hseg : ((((p65.2.take ((p65.2.length : Int).toNat)).drop i40.toNat).take ((IntKind.wrap .i64 (i76 + 1)).toNat)).drop 0) = l.map dtcv)
    (hid : ∀ a ∈ l, idF a = ⟨f.car, f.num, s.day, a.fro⟩) :
    ∀ (t q : List Dt) (k : Nat), q ++ t = l → t.length < k → flight_Path_L3 lb n k p.an (p.aps.map apcv) p.dn (p.dis.map dicv) f.car f.num f.fr f.to f.days f.ln (f.legs.map lgcv) s.car s.num s.day s.fro s.to s.dep s.arr p65 i40 x25 i76 r21 x23 i103 ((q.map idF).map licv) (q.length : Int) = some (.tup [.list false ((l.map idF).map licv), .int .i64 0]) := by
  intro t
  induction t with
  | nil =>
    intro q k hq hk
    obtain ⟨k, rfl⟩ : ∃ m, k = m + 1 := ⟨k - 1, by simp at hk; omega⟩
    have hq : q = l := by simpa using hq
    subst hq
    rw [flight_Path_L3_succ, hseg]
    refine stF (decF (by simp)) ?_
    rw [flight_Path_J4_eq]
  | cons x t ih =>
    intro q k hq hk
    obtain ⟨k, rfl⟩ : ∃ m, k = m + 1 := ⟨k - 1, by simp at hk; omega⟩
    have hll : l.length = q.length + (t.length + 1) := by rw [← hq]; simp
    have hat : atL (l.map dtcv) (q.length : Int) = some (dtcv x) := atL_ok (by rw [← hq]; simp)
    have ih := ih (q ++ [x]) k (by rw [← hq]; simp) (by simp at hk; omega)
    rw [flight_Path_L3_succ, hseg]
    refine stT (decT (by simp only [List.length_map]; omega)) (stO _ hat (stC rfl (stO _ rfl (stO _ rfl (stO _ rfl (stO _ rfl (stO _ rfl (stO _ rfl (stO _ rfl (stO _ rfl (stC rfl (stC (room_le (by simp; omega) (by decide)) ?_))))))))))))
    rw [wrap64 (by omega) (by omega), show (q.length : Int) + 1 = ((q ++ [x]).length : Int) by simp]
    have e : licv (idF x) = [CV.str f.car, CV.int .i64 f.num, CV.int .i64 s.day, CV.str x.fro] := by rw [hid x (by rw [← hq]; simp)]; rfl
    rw [← e]
    simpa [List.map_append] using ih
theorem fp_L2 (p : Pc) (f : Fl) (s : Sg) (n : Nat) (b0 : Bool) (L Q l : List Dt) (a : Dt) (x25 r21 x23 : CV) (hL : Q ++ l = L) (hLl : L.length ≤ 100) (hn : 200 ≤ n) (ha : l[0]? = some a) (hid : ∀ a ∈ L, idF a = ⟨f.car, f.num, s.day, a.fro⟩) :
    ∀ (t q : List Dt) (k : Nat), q ++ t = l → t.length < k → ∃ v, PthR (pthIn s a q t) v ∧ flight_Path_L2 lb n k p.an (p.aps.map apcv) p.dn (p.dis.map dicv) f.car f.num f.fr f.to f.days f.ln (f.legs.map lgcv) s.car s.num s.day s.fro s.to s.dep s.arr (b0, L.map dtcv) (Q.length : Int) x25 r21 x23 (q.length : Int) = some v := by
  have hLll : L.length = Q.length + l.length := by rw [← hL]; simp
  have hdrop : ((L.map dtcv).take (((L.map dtcv).length : Int).toNat)).drop ((Q.length : Int)).toNat = l.map dtcv := by
    rw [Int.toNat_natCast, Int.toNat_natCast, List.take_of_length_le (by simp), ← List.map_drop, ← hL, List.drop_append]
    simp
  have h0 : atL (l.map dtcv) 0 = some (dtcv a) := atL_ok (i := 0) (by simp [ha])
  intro t
  induction t with
  | nil =>
    intro q k hq hk
    obtain ⟨k, rfl⟩ : ∃ m, k = m + 1 := ⟨k - 1, by simp at hk; omega⟩
    have hq : q = l := by simpa using hq
    subst hq
    refine ⟨_, rfl, ?_⟩
    rw [flight_Path_L2_succ]
    simp only [hdrop]
    refine stF (decF (by simp)) ?_
    rw [flight_Path_J5_eq]
    rfl
  | cons b t ih =>
    intro q k hq hk
    obtain ⟨k, rfl⟩ : ∃ m, k = m + 1 := ⟨k - 1, by simp at hk; omega⟩
    have hll : l.length = q.length + (t.length + 1) := by rw [← hq]; simp
    have hat : atL (l.map dtcv) (q.length : Int) = some (dtcv b) := atL_ok (by rw [← hq]; simp)
    have hw : IntKind.wrap .i64 ((q.length : Int) + 1) = (q.length : Int) + 1 := wrap64 (by omega) (by omega)
    obtain ⟨v, hv, ih⟩ := ih (q ++ [b]) k (by rw [← hq]; simp) (by simp at hk; omega)
    unfold pthIn
    rw [flight_Path_L2_succ]
    simp only [hdrop]
    by_cases h1 : b.to = s.to
    · rw [if_pos h1]
      by_cases h2 : a.dep = s.dep
      · rw [if_pos h2]
        by_cases h3 : b.arr = s.arr
        · rw [if_pos h3]
          refine ⟨_, rfl, ?_⟩
          refine stT (decT (by simp only [List.length_map]; omega)) (stO _ hat (stC rfl (stO _ rfl (stO _ rfl (stO _ rfl (stO _ rfl (stO _ rfl (stO _ rfl (stO _ rfl (stO _ rfl (stO _ rfl (stT (by simpa using h1) (stF (decF (by omega)) (stO _ h0 (stC rfl (stO _ rfl (stO _ rfl (stF (bneF h2) (stO _ hat (stC rfl (stO _ rfl (stO _ rfl (stF (bneF h3) ?_)))))))))))))))))))))))
          refine stC (by rw [hw]; simp only [Bool.and_eq_true, decide_eq_true_eq]; omega) (stC (by simp [dtcv]) (stC (decT (by rw [hw, List.length_map]; omega)) ?_))
          exact fp_L3 lb p f s n (b0, L.map dtcv) (Q.length : Int) x25 r21 x23 (q.length : Int) b.arr (q ++ [b]) (by rw [List.length_append, List.length_singleton]; omega) (by
            show ((((L.map dtcv).take (((L.map dtcv).length : Int).toNat)).drop ((Q.length : Int)).toNat).take _).drop 0 = _
            rw [hdrop, hw, List.drop_zero, show ((q.length : Int) + 1).toNat = q.length + 1 by omega, ← List.map_take, ← hq, List.take_append, List.take_of_length_le (by omega)]
            simp) (fun x hx => hid x (by rw [← hL]; refine List.mem_append_right _ ?_; rw [← hq]; rcases List.mem_append.1 hx with hx | hx; exact List.mem_append_left _ hx; exact List.mem_append_right _ (by simp at hx; rw [hx]; simp))) (q ++ [b]) [] n rfl (by rw [List.length_append, List.length_singleton]; omega)
        · rw [if_neg h3]
          refine ⟨_, rfl, ?_⟩
          exact stT (decT (by simp only [List.length_map]; omega)) (stO _ hat (stC rfl (stO _ rfl (stO _ rfl (stO _ rfl (stO _ rfl (stO _ rfl (stO _ rfl (stO _ rfl (stO _ rfl (stO _ rfl (stT (by simpa using h1) (stF (decF (by omega)) (stO _ h0 (stC rfl (stO _ rfl (stO _ rfl (stF (bneF h2) (stO _ hat (stC rfl (stO _ rfl (stO _ rfl (stT (bneT h3) rfl)))))))))))))))))))))))
      · rw [if_neg h2]
        refine ⟨_, rfl, ?_⟩
        exact stT (decT (by simp only [List.length_map]; omega)) (stO _ hat (stC rfl (stO _ rfl (stO _ rfl (stO _ rfl (stO _ rfl (stO _ rfl (stO _ rfl (stO _ rfl (stO _ rfl (stO _ rfl (stT (by simpa using h1) (stF (decF (by omega)) (stO _ h0 (stC rfl (stO _ rfl (stO _ rfl (stT (bneT h2) rfl))))))))))))))))))
    · rw [if_neg h1]
      refine ⟨v, hv, ?_⟩
      refine stT (decT (by simp only [List.length_map]; omega)) (stO _ hat (stC rfl (stO _ rfl (stO _ rfl (stO _ rfl (stO _ rfl (stO _ rfl (stO _ rfl (stO _ rfl (stO _ rfl (stO _ rfl (stF (by simpa using h1) ?_))))))))))))
      rw [hw, show (q.length : Int) + 1 = ((q ++ [b]).length : Int) by simp]
      exact ih
theorem fp_L1 (p : Pc) (f : Fl) (s : Sg) (n : Nat) (b0 : Bool) (L : List Dt) (x25 r21 : CV) (hLl : L.length ≤ 100) (hn : 200 ≤ n) (hid : ∀ a ∈ L, idF a = ⟨f.car, f.num, s.day, a.fro⟩) :
    ∀ (t q : List Dt) (k : Nat), q ++ t = L → t.length < k → ∃ v, PthR (pthF s t) v ∧ flight_Path_L1 lb n k p.an (p.aps.map apcv) p.dn (p.dis.map dicv) f.car f.num f.fr f.to f.days f.ln (f.legs.map lgcv) s.car s.num s.day s.fro s.to s.dep s.arr (.list b0 (L.map dtcv)) x25 r21 (b0, L.map dtcv) (q.length : Int) = some v := by
  intro t
  induction t with
  | nil =>
    intro q k hq hk
    obtain ⟨k, rfl⟩ : ∃ m, k = m + 1 := ⟨k - 1, by simp at hk; omega⟩
    have hq : q = L := by simpa using hq
    subst hq
    refine ⟨_, rfl, ?_⟩
    rw [flight_Path_L1_succ]
    refine stF (decF (by simp)) ?_
    rw [flight_Path_J6_eq]
    rfl
  | cons a t ih =>
    intro q k hq hk
    obtain ⟨k, rfl⟩ : ∃ m, k = m + 1 := ⟨k - 1, by simp at hk; omega⟩
    have hll : L.length = q.length + (t.length + 1) := by rw [← hq]; simp
    have hat : atL (L.map dtcv) (q.length : Int) = some (dtcv a) := atL_ok (by rw [← hq]; simp)
    have hw : IntKind.wrap .i64 ((q.length : Int) + 1) = (q.length : Int) + 1 := wrap64 (by omega) (by omega)
    unfold pthF
    by_cases h1 : a.fro = s.fro
    · rw [if_pos h1]
      obtain ⟨v, hv, h2⟩ := fp_L2 lb p f s n b0 L q (a :: t) a x25 r21 (.list b0 (L.map dtcv)) hq hLl hn rfl hid (a :: t) [] n rfl (by simp; omega)
      refine ⟨v, hv, ?_⟩
      rw [flight_Path_L1_succ]
      exact stT (decT (by simp only [List.length_map]; omega)) (stO _ rfl (stO _ hat (stC rfl (stO _ rfl (stO _ rfl (stO _ rfl (stO _ rfl (stO _ rfl (stO _ rfl (stO _ rfl (stO _ rfl (stO _ rfl (stT (by simpa using h1) (stF (decF (by omega)) (stO _ rfl (stC (by simp [dtcv]) (stC (decT (by rw [List.length_map]; omega)) h2)))))))))))))))))
    · rw [if_neg h1]
      obtain ⟨v, hv, ih⟩ := ih (q ++ [a]) k (by rw [← hq]; simp) (by simp at hk; omega)
      refine ⟨v, hv, ?_⟩
      rw [flight_Path_L1_succ]
      refine stT (decT (by simp only [List.length_map]; omega)) (stO _ rfl (stO _ hat (stC rfl (stO _ rfl (stO _ rfl (stO _ rfl (stO _ rfl (stO _ rfl (stO _ rfl (stO _ rfl (stO _ rfl (stO _ rfl (stF (by simpa using h1) ?_)))))))))))))
      rw [hw, show (q.length : Int) + 1 = ((q ++ [a]).length : Int) by simp]
      exact ih
end Go.Proofs
