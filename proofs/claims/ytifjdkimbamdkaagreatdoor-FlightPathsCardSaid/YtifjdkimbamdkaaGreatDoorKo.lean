/- Chapter 7: the law FlightCovers on plain data. Conditions: as each says. -/
import Derived.Test.YtifjdkimbamdkaaGreatDoorKn
set_option linter.unusedSimpArgs false
set_option linter.unusedVariables false
namespace Go.Proofs
open Go.Am
variable (lb : Bool)
theorem pthIn_seg (a b : Dt) : ∀ (q t pre : List Dt), (∀ c ∈ q, c.to ≠ b.to) → pthIn (segF a b) a pre (q ++ b :: t) = ((pre ++ q ++ [b]).map idF, 0)
  | [], t, pre, h => by
    show (if b.to = (segF a b).to then _ else _) = _
    rw [if_pos (show b.to = (segF a b).to from rfl), if_pos (show a.dep = (segF a b).dep from rfl), if_pos (show b.arr = (segF a b).arr from rfl), List.append_nil]
  | c :: q, t, pre, h => by
    show (if c.to = (segF a b).to then _ else pthIn (segF a b) a (pre ++ [c]) (q ++ b :: t)) = _
    rw [if_neg (show ¬ c.to = (segF a b).to from h c (List.mem_cons_self ..)), pthIn_seg a b q t (pre ++ [c]) (fun x hx => h x (List.mem_cons_of_mem _ hx))]
    simp
theorem pthF_seg {L : List Dt} : ∀ (Q : List Dt), Stops (L.map froTo) → ∀ (l q t : List Dt) (a b : Dt), Q ++ l = L → l[0]? = some a → q ++ b :: t = l → pthF (segF a b) L = ((q ++ [b]).map idF, 0) := by
  intro Q
  induction Q generalizing L with
  | nil =>
    intro hst l q t a b hL ha hq
    have hL : l = L := hL
    subst hL
    cases l with
    | nil => simp at ha
    | cons a' r =>
      have : a' = a := by simpa using ha
      subst this
      show (if a'.fro = (segF a' b).fro then pthIn (segF a' b) a' [] (a' :: r) else _) = _
      rw [if_pos (show a'.fro = (segF a' b).fro from rfl), ← hq]
      have hto : ∀ c ∈ q, c.to ≠ b.to := by
        rw [← hq] at hst
        have gen : ∀ q : List Dt, Stops ((q ++ b :: t).map froTo) → ∀ c ∈ q, c.to ≠ b.to := by
          intro q
          induction q with
          | nil => intro _ c hc; cases hc
          | cons z q ih =>
            intro hst c hc
            rcases List.mem_cons.1 hc with rfl | hc
            · exact fun e => stops_to hst (froTo b) (List.mem_map_of_mem (by simp)) e
            · exact ih (stops_tail hst) c hc
        exact gen q hst
      rw [pthIn_seg a' b q t [] hto]
      simp
  | cons z Q ih =>
    intro hst l q t a b hL ha hq
    subst hL
    have hz : z.fro ≠ a.fro := fun e => stops_fro hst (froTo a) (List.mem_map_of_mem (List.mem_append_right _ (List.mem_of_getElem? ha))) e
    show (if z.fro = (segF a b).fro then _ else pthF (segF a b) (Q ++ l)) = _
    rw [if_neg (show ¬ z.fro = (segF a b).fro from hz)]
    exact ih (stops_tail hst) l q t a b rfl ha hq
theorem fc2_L2 (p : Pc) (hp : Shifts p) (f : Fl) (hC : checkF p f = []) (hl : f.legs.length ≤ 100) (day : Int) (hh : hasF f.fr f.to f.days day = true) (b0 : Bool) (S B : List Sg) (Q l r : List Dt) (a : Dt) (hL : Q ++ l = legsF p f day) (ha : l = a :: r) (hS : S = B ++ segsF l) (hSl : S.length ≤ 100000) (x22 r18 : CV) :
    ∀ (t q : List Dt), q ++ t = l → Evt fun n => ∀ j k, t.length < j →
      l07_FlightCovers_L1 lb n k p.an (p.aps.map apcv) p.dn (p.dis.map dicv) f.car f.num f.fr f.to f.days f.ln (f.legs.map lgcv) day (.list b0 (S.map sgcv)) x22 r18 ((B.length + l.length : Nat) : Int) (IntKind.wrap .i64 ((Q.length : Int) + 1)) = some (.bool true) →
      l07_FlightCovers_L2 lb n j k p.an (p.aps.map apcv) p.dn (p.dis.map dicv) f.car f.num f.fr f.to f.days f.ln (f.legs.map lgcv) day (.list b0 (S.map sgcv)) x22 (Q.length : Int) r18 ((B.length + q.length : Nat) : Int) ((Q.length + q.length : Nat) : Int) = some (.bool true) := by
  have hLl : f.legs.length = Q.length + l.length := by rw [← legsF_len p f day, ← hL]; simp
  have hlS : B.length + l.length ≤ S.length := by rw [hS, ha, List.length_append]; simp [segsF]
  intro t
  induction t with
  | nil =>
    intro q hq
    refine .all fun n j k hj hk => ?_
    obtain ⟨j, rfl⟩ : ∃ m, j = m + 1 := ⟨j - 1, by simp at hj; omega⟩
    have hq : q = l := by simpa using hq
    subst hq
    rw [l07_FlightCovers_L2_succ]
    refine stF (decF (by rw [List.length_map]; omega)) ?_
    rw [l07_FlightCovers_J3_eq]
    exact hk
  | cons b t ih =>
    intro q hq
    have hql : l.length = q.length + (t.length + 1) := by rw [← hq]; simp
    have hl0 : l[0]? = some a := by rw [ha]; rfl
    have hla : (legsF p f day)[Q.length]? = some a := by rw [← hL, List.getElem?_append_right (Nat.le_refl _), Nat.sub_self]; exact hl0
    have hlb : (legsF p f day)[Q.length + q.length]? = some b := by rw [← hL, ← hq]; simp
    have ma := legsF_mem a (List.mem_of_getElem? hla)
    obtain ⟨xa, hxa, ea⟩ : ∃ x, f.legs[Q.length]? = some x ∧ legF p f day x = a := by unfold legsF at hla; rw [List.getElem?_map] at hla; exact Option.map_eq_some_iff.1 hla
    obtain ⟨xb, hxb, eb⟩ : ∃ x, f.legs[Q.length + q.length]? = some x ∧ legF p f day x = b := by unfold legsF at hlb; rw [List.getElem?_map] at hlb; exact Option.map_eq_some_iff.1 hlb
    have h1 : atL (f.legs.map lgcv) (Q.length : Int) = some (lgcv xa) := atL_ok (by simp [hxa])
    have h2 : atL (f.legs.map lgcv) ((Q.length + q.length : Nat) : Int) = some (lgcv xb) := atL_ok (by simp [hxb])
    have hSb : S[B.length + q.length]? = some (segF a b) := by
      rw [hS, List.getElem?_append_right (by omega), show B.length + q.length - B.length = q.length by omega, ha]
      simp only [segsF]
      rw [← ha, List.getElem?_append_left (by rw [List.length_map]; omega), ← hq]
      simp
    have h3 : atL (S.map sgcv) ((B.length + q.length : Nat) : Int) = some (sgcv (segF a b)) := atL_ok (by simp [hSb])
    have hpath := flight_Path_ret lb p hp f (segF a b) (by omega)
    have hday : (segF a b).day = day := ma.2.2
    rw [if_pos (show (segF a b).car = f.car ∧ (segF a b).num = f.num from ⟨ma.1, ma.2.1⟩), hday, hh, if_pos rfl, pthF_seg Q (stops_legs hC day) l q t a b hL hl0 hq] at hpath
    have hw1 : IntKind.wrap .i64 (((B.length + q.length : Nat) : Int) + 1) = ((B.length + (q ++ [b]).length : Nat) : Int) := by rw [wrap64 (by omega) (by omega)]; simp; omega
    have hw2 : IntKind.wrap .i64 (((Q.length + q.length : Nat) : Int) + 1) = ((Q.length + (q ++ [b]).length : Nat) : Int) := by rw [wrap64 (by omega) (by omega)]; simp; omega
    have hw3 : IntKind.wrap .i64 (((Q.length + q.length : Nat) : Int) - (Q.length : Int)) = (q.length : Int) := by rw [wrap64 (by omega) (by omega)]; omega
    have hw4 : IntKind.wrap .i64 ((q.length : Int) + 1) = (q.length : Int) + 1 := wrap64 (by omega) (by omega)
    have hi0 : atL (((q ++ [b]).map idF).map licv) 0 = some (licv (idF a)) := atL_ok (i := 0) (by
      have : (q ++ [b])[0]? = some a := by
        cases q with
        | nil =>
          rw [ha] at hq
          simp only [List.nil_append, List.cons.injEq] at hq
          rw [hq.1]; rfl
        | cons z q =>
          rw [ha] at hq
          simp only [List.cons_append, List.cons.injEq] at hq
          rw [hq.1]; rfl
      rw [List.getElem?_map, List.getElem?_map, this]; rfl)
    have hiq : atL (((q ++ [b]).map idF).map licv) (q.length : Int) = some (licv (idF b)) := atL_ok (by simp)
    refine Evt.imp2 hpath (ih (q ++ [b]) (by rw [← hq]; simp)) fun n c1 hi j k hj hk => ?_
    obtain ⟨j, rfl⟩ : ∃ m, j = m + 1 := ⟨j - 1, by simp at hj; omega⟩
    have hi := hi j k (by simp at hj; omega) hk
    rw [l07_FlightCovers_L2_succ]
    refine stT (decT (by rw [List.length_map]; omega)) (stO _ rfl (stF (decF (by simp only [List.length_map]; omega)) (stO _ rfl (stO _ h3 (stC rfl (stO _ rfl (stO _ rfl (stO _ rfl (stO _ rfl (stO _ rfl (stO _ rfl (stO _ rfl (stO _ c1 (stO _ rfl (stO _ rfl (stO _ rfl (stO _ rfl (stO _ rfl (stF rfl (stO _ rfl ?_))))))))))))))))))))
    rw [hw1, hw2, hw3, hw4]
    refine stF (bneF (by simp)) (stO _ rfl (stO _ hi0 (stC rfl (stO _ rfl (stO _ h1 (stC rfl (stO _ rfl (stO _ rfl (stO _ rfl (stF ?_ (stO _ rfl (stO _ hiq (stC rfl (stO _ rfl (stO _ h2 (stC rfl (stO _ rfl (stO _ rfl (stO _ rfl (stF ?_ (stO _ rfl (stO _ h3 (stC rfl (stO _ rfl (stO _ h2 (stC rfl (stO _ rfl (stO _ rfl (stO _ rfl (stF ?_ hi))))))))))))))))))))))))))))))
    · simp only [idF, ← ea, legF]; simp
    · simp only [idF, ← eb, legF]; simp
    · simp only [segF, ← eb, legF]; simp
theorem fc2_L1 (p : Pc) (hp : Shifts p) (f : Fl) (hC : checkF p f = []) (hl : f.legs.length ≤ 100) (day : Int) (hh : hasF f.fr f.to f.days day = true) (b0 : Bool) (S : List Sg) (hS : S = segsF (legsF p f day)) (hSl : S.length ≤ 100000) (x22 r18 : CV) :
    ∀ (l Q : List Dt) (B : List Sg), Q ++ l = legsF p f day → S = B ++ segsF l → Evt fun n => ∀ k, l.length < k →
      l07_FlightCovers_L1 lb n k p.an (p.aps.map apcv) p.dn (p.dis.map dicv) f.car f.num f.fr f.to f.days f.ln (f.legs.map lgcv) day (.list b0 (S.map sgcv)) x22 r18 (B.length : Int) (Q.length : Int) = some (.bool true) := by
  have hne : 1 ≤ f.legs.length := (checkF_legs hC).2.1
  have hS0 : 0 < S.length := by
    have : (legsF p f day).length = f.legs.length := legsF_len p f day
    rw [hS]
    cases h : legsF p f day with
    | nil => rw [h] at this; simp at this; omega
    | cons a r => simp [segsF]
  intro l
  induction l with
  | nil =>
    intro Q B hQ hB
    have hQ : Q = legsF p f day := by simpa using hQ
    have hB : S = B := by simpa [segsF] using hB
    refine (awake07_ok lb).mono fun n hn k hk => ?_
    obtain ⟨k, rfl⟩ : ∃ m, k = m + 1 := ⟨k - 1, by simp at hk; omega⟩
    rw [l07_FlightCovers_L1_succ]
    refine stF (decF (by rw [List.length_map, hQ, legsF_len]; omega)) ?_
    rw [l07_FlightCovers_J4_eq]
    exact stO _ rfl (stT (beqT (by simp [hB])) (stO _ hn rfl))
  | cons a r ih =>
    intro Q B hQ hB
    have hLl : f.legs.length = Q.length + (r.length + 1) := by rw [← legsF_len p f day, ← hQ]; simp
    have hw : IntKind.wrap .i64 ((Q.length : Int) + 1) = ((Q ++ [a]).length : Int) := by rw [wrap64 (by omega) (by omega)]; simp
    refine Evt.imp2 (fc2_L2 lb p hp f hC hl day hh b0 S B Q (a :: r) r a hQ rfl hB hSl x22 r18 (a :: r) [] rfl) ((ih (Q ++ [a]) (B ++ (a :: r).map (segF a)) (by rw [← hQ]; simp) (by rw [hB]; simp [segsF])).and (Evt.ge 200)) fun n h2 hi k hk => ?_
    obtain ⟨hi, hge⟩ := hi
    obtain ⟨k, rfl⟩ : ∃ m, k = m + 1 := ⟨k - 1, by simp at hk; omega⟩
    rw [l07_FlightCovers_L1_succ]
    refine stT (decT (by rw [List.length_map]; omega)) (stO _ rfl (stT (decT (by simp only [List.length_map]; omega)) ?_))
    have hi := hi k (by simp at hk; omega)
    have := h2 n k (by simp; omega) (by
      rw [hw, show ((B.length + (a :: r).length : Nat) : Int) = ((B ++ (a :: r).map (segF a)).length : Int) by simp]
      exact hi)
    simpa using this
theorem flightCovers_ok (p : Pc) (f : Fl) (day : Int) (hp : ArgP p) (hf : ArgF f) : Ret lb F_l07_FlightCovers [pcv p, flcv f, .int .i64 day] (.bool true) := by
  cases hR : rightB p f with
  | false =>
    refine .top rfl (Evt.imp2 (l07_right_ret lb p f hp hf) (awake07_ok lb) fun n h1 h2 => ?_)
    rw [l07_FlightCovers_eq]
    exact stO _ h1 (stO _ rfl (stT (by rw [hR]; rfl) (stO _ h2 rfl)))
  | true =>
    obtain ⟨⟨b1, b2, b3, b4, b5⟩, hS, hC⟩ := rightB_true hR
    have c3 := flight_Segs_ret lb p hS f (by omega) day
    unfold segsR at c3
    cases hh : hasF f.fr f.to f.days day with
    | false =>
      rw [hh] at c3
      refine .top rfl (Evt.imp2 (Evt.imp2 (l07_right_ret lb p f hp hf) (awake07_ok lb) fun n a b => And.intro a b) (Evt.imp2 c3 (Evt.ge 1) fun n a b => And.intro a b) fun n h1 h2 => ?_)
      obtain ⟨k, hk⟩ : ∃ m, n = m + 1 := ⟨n - 1, by have := h2.2; omega⟩
      rw [l07_FlightCovers_eq]
      refine stO _ h1.1 (stO _ rfl (stF (by rw [hR]; rfl) (stO _ h2.1 (stO _ rfl (stO _ rfl (stO _ rfl (stO _ rfl ?_)))))))
      have : ∀ k', k' = n → l07_FlightCovers_L1 lb n k' p.an (p.aps.map apcv) p.dn (p.dis.map dicv) f.car f.num f.fr f.to f.days f.ln (f.legs.map lgcv) day (.list true []) (.int .i64 12) (.tup [.list true [], .int .i64 12]) 0 0 = some (.bool true) := by
        intro k' e
        have hn1 := (checkF_legs hC).2.1
        rw [show k' = k + 1 by omega, l07_FlightCovers_L1_succ]
        refine stT (decT (by rw [List.length_map]; omega)) (stO _ rfl (stF rfl ?_))
        rw [l07_FlightCovers_J4_eq]
        exact stO _ rfl (stT rfl (stO _ h1.2 rfl))
      exact this n rfl
    | true =>
      rw [hh] at c3
      have hl1 : (legsF p f day).length ≤ 12 := by rw [legsF_len]; exact b3
      have hl2 := segsF_len (legsF p f day)
      have hl3 : (legsF p f day).length * (legsF p f day).length ≤ 12 * 12 := Nat.mul_le_mul hl1 hl1
      have key := fc2_L1 lb p hS f hC (by omega) day hh (segsF (legsF p f day)).isEmpty (segsF (legsF p f day)) rfl (by omega) (.int .i64 0) (.tup [.list (segsF (legsF p f day)).isEmpty ((segsF (legsF p f day)).map sgcv), .int .i64 0]) (legsF p f day) [] [] rfl rfl
      refine .top rfl (Evt.imp2 (Evt.imp2 (l07_right_ret lb p f hp hf) c3 fun n a b => And.intro a b) (Evt.diag key) fun n h1 h2 => ?_)
      rw [l07_FlightCovers_eq]
      exact stO _ h1.1 (stO _ rfl (stF (by rw [hR]; rfl) (stO _ h1.2 (stO _ rfl (stO _ rfl (stO _ rfl (stO _ rfl h2)))))))
end Go.Proofs
