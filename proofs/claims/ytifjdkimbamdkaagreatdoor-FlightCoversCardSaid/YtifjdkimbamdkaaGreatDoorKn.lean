/- Chapter 7: the laws FlightPaths and FlightCovers on plain data. Conditions: as each says. -/
import Derived.Test.YtifjdkimbamdkaaGreatDoorKm
set_option linter.unusedSimpArgs false
set_option linter.unusedVariables false
namespace Go.Proofs
open Go.Am
variable (lb : Bool)
theorem flight_Path_ret (p : Pc) (hp : Shifts p) (f : Fl) (s : Sg) (hl : f.legs.length ≤ 100) : Ret lb F_flight_Path [pcv p, flcv f, .agg (sgcv s)]
    (if s.car = f.car ∧ s.num = f.num then (if hasF f.fr f.to f.days s.day then pthV (pthF s (legsF p f s.day)) else .tup [.list true [], .int .i64 12]) else .tup [.list true [], .int .i64 7]) := by
  by_cases h1 : s.car = f.car
  · by_cases h2 : s.num = f.num
    · rw [if_pos ⟨h1, h2⟩]
      refine .top rfl (Evt.imp2 (flight_Legs_ret lb p hp f (by omega) s.day) (Evt.ge 200) fun n hn hge => ?_)
      rw [sgcv, flight_Path_eq]
      refine stF (by simpa using h1) (stF (bneF h2) (stO _ hn ?_))
      cases hh : hasF f.fr f.to f.days s.day with
      | false => rfl
      | true =>
        obtain ⟨v, hv, h⟩ := fp_L1 lb p f s n false (legsF p f s.day) (.int .i64 0) (.tup [.list false ((legsF p f s.day).map dtcv), .int .i64 0]) (by rw [legsF_len]; exact hl) hge (fun a ha => by
          obtain ⟨e1, e2, e3⟩ := legsF_mem a ha
          unfold idF
          rw [e1, e2, e3]) (legsF p f s.day) [] n rfl (by rw [legsF_len]; omega)
        rw [PthR] at hv
        subst hv
        exact stO _ rfl (stO _ rfl (stO _ rfl (stO _ rfl (stO _ rfl (stF rfl (stO _ rfl h))))))
    · rw [if_neg (fun q => h2 q.2)]
      refine .top rfl (.all fun n => ?_)
      rw [sgcv, flight_Path_eq]
      exact stF (by simpa using h1) (stT (bneT h2) rfl)
  · rw [if_neg (fun q => h1 q.1)]
    refine .top rfl (.all fun n => ?_)
    rw [sgcv, flight_Path_eq]
    exact stT (by simpa using h1) rfl

/-! the reference's -/
theorem r07_Ids_ret (an : Bool) (l : List Dt) (hl : l.length ≤ 1000) : Ret lb F_r07_Ids [.list an (l.map dtcv)] (.list l.isEmpty ((l.map idF).map licv)) := by
  refine .top rfl (.eq (fun n => by rw [r07_Ids_eq]) ?_)
  have key := loopL (enc := dtcv) (l := l) (by omega) (P := fun q t n k => r07_Ids_L1 lb n k an (l.map dtcv) q.isEmpty ((q.map idF).map licv) (q.length : Int) = some (.list l.isEmpty ((l.map idF).map licv))) (by
    refine .all fun n k => ?_
    rw [r07_Ids_L1_succ]
    refine stF (decF (by simp)) ?_
    rw [r07_Ids_J2_eq]) (by
    intro q x t hq hlt hat hw hev
    refine hev.mono fun n hn k hk => ?_
    have hn := hn k hk
    have hql : q.length ≤ 1000 := by have : l.length = q.length + (t.length + 1) := by rw [← hq]; simp
                                     omega
    rw [r07_Ids_L1_succ]
    refine stT (decT hlt) (stO _ hat (stC rfl (stO _ rfl (stO _ hat (stC rfl (stO _ rfl (stO _ hat (stC rfl (stO _ rfl (stO _ hat (stC rfl (stO _ rfl (stC rfl (stC rfl (stC rfl (stC rfl (stC (room_le (by simp; omega) (by decide)) ?_)))))))))))))))))
    rw [hw, snoc_nil q x]
    simpa [List.map_append, licv, idF] using hn) l [] rfl
  exact Evt.diag key
theorem rp_L2 (p : Pc) (f : Fl) (s : Sg) (hs : s.car = f.car ∧ s.num = f.num) (b0 : Bool) (L Q l : List Dt) (a : Dt) (x25 r21 : CV) (hL : Q ++ l = L) (hLl : L.length ≤ 100) (ha : l[0]? = some a) (hid : ∀ a ∈ L, a.car = f.car ∧ a.num = f.num ∧ a.day = s.day) (hfro : a.fro = s.fro) (R : Pth) :
    ∀ (t q : List Dt), q ++ t = l → pthIn s a q t = R → Evt fun n => ∀ j k, t.length < j →
      (R = ([], 14) → r07_Path_L1 lb n k p.an (p.aps.map apcv) p.dn (p.dis.map dicv) f.car f.num f.fr f.to f.days f.ln (f.legs.map lgcv) s.car s.num s.day s.fro s.to s.dep s.arr (.list b0 (L.map dtcv)) x25 r21 (IntKind.wrap .i64 ((Q.length : Int) + 1)) = some (pthV R)) →
      r07_Path_L2 lb n j k p.an (p.aps.map apcv) p.dn (p.dis.map dicv) f.car f.num f.fr f.to f.days f.ln (f.legs.map lgcv) s.car s.num s.day s.fro s.to s.dep s.arr (.list b0 (L.map dtcv)) x25 (Q.length : Int) r21 ((Q.length + q.length : Nat) : Int) = some (pthV R) := by
  have hLll : L.length = Q.length + l.length := by rw [← hL]; simp
  have hla : L[Q.length]? = some a := by rw [← hL, List.getElem?_append_right (Nat.le_refl _), Nat.sub_self]; exact ha
  have h0 : atL (L.map dtcv) (Q.length : Int) = some (dtcv a) := atL_ok (by simp [hla])
  intro t
  induction t with
  | nil =>
    intro q hq hR
    refine .all fun n j k hj hk => ?_
    obtain ⟨j, rfl⟩ : ∃ m, j = m + 1 := ⟨j - 1, by simp at hj; omega⟩
    have hq : q = l := by simpa using hq
    subst hq
    rw [r07_Path_L2_succ]
    refine stO _ rfl (stF (decF (by simp; omega)) ?_)
    rw [r07_Path_J3_eq]
    exact hk hR.symm
  | cons b t ih =>
    intro q hq hR
    have hll : l.length = q.length + (t.length + 1) := by rw [← hq]; simp
    have hlb : L[Q.length + q.length]? = some b := by rw [← hL, ← hq]; simp
    have hat : atL (L.map dtcv) ((Q.length + q.length : Nat) : Int) = some (dtcv b) := atL_ok (by simp [hlb])
    have hw : IntKind.wrap .i64 (((Q.length + q.length : Nat) : Int) + 1) = ((Q.length + (q ++ [b]).length : Nat) : Int) := by rw [wrap64 (by omega) (by omega)]; simp; omega
    have hw' : IntKind.wrap .i64 (((Q.length + q.length : Nat) : Int) + 1) = (((Q.length + (q.length + 1) : Nat)) : Int) := by rw [wrap64 (by omega) (by omega)]; omega
    have hcut : ((L.map dtcv).take (IntKind.wrap .i64 (((Q.length + q.length : Nat) : Int) + 1)).toNat).drop ((Q.length : Int)).toNat = (q ++ [b]).map dtcv := by
      rw [hw', Int.toNat_natCast, Int.toNat_natCast, ← List.map_take, ← List.map_drop, ← hL, ← hq]
      congr 1
      rw [List.take_append, List.take_of_length_le (by omega), show Q.length + (q.length + 1) - Q.length = q.length + 1 by omega, List.drop_append, List.drop_of_length_le (by omega), Nat.sub_self, List.drop_zero, List.nil_append, List.take_append, List.take_of_length_le (by omega)]
      simp
    have hia := hid a (by rw [← hL]; exact List.mem_append_right _ (List.mem_of_getElem? ha))
    unfold pthIn at hR
    by_cases h1 : b.to = s.to
    · rw [if_pos h1] at hR
      refine Evt.imp2 (r07_seg_ret lb b0 L Q.length (Q.length + q.length) a b hla hlb) (r07_Ids_ret lb b0 (q ++ [b]) (by rw [List.length_append, List.length_singleton]; omega)) fun n c1 c2 j k hj hk => ?_
      obtain ⟨j, rfl⟩ : ∃ m, j = m + 1 := ⟨j - 1, by simp at hj; omega⟩
      rw [r07_Path_L2_succ]
      refine stO _ rfl (stT (decT (by simp only [List.length_map]; omega)) (stO _ rfl (stO _ h0 (stC rfl (stO _ rfl (stO _ rfl (stF (by simpa using hfro) (stO _ rfl (stO _ hat (stC rfl (stO _ rfl (stO _ rfl (stF (by simpa using h1) (stO _ c1 (stO _ rfl (stO _ rfl (stO _ rfl (stO _ rfl (stO _ rfl (stO _ rfl (stO _ rfl (stO _ rfl (stO _ rfl (stO _ rfl (stO _ rfl (stO _ rfl (stO _ rfl (stO _ rfl (stO _ rfl ?_)))))))))))))))))))))))))))))
      have e : (!((a.car == s.car) && ((a.num == s.num) && ((a.day == s.day) && ((a.fro == s.fro) && ((b.to == s.to) && ((a.dep == s.dep) && ((b.arr == s.arr) && true)))))))) = !((a.dep == s.dep) && (b.arr == s.arr)) := by
        rw [show (a.car == s.car) = true by simp [hia.1, hs.1], show (a.num == s.num) = true by simp [hia.2.1, hs.2], show (a.day == s.day) = true by simp [hia.2.2], show (a.fro == s.fro) = true by simpa using hfro, show (b.to == s.to) = true by simpa using h1]
        simp
      by_cases h2 : a.dep = s.dep
      · rw [if_pos h2] at hR
        by_cases h3 : b.arr = s.arr
        · rw [if_pos h3] at hR
          refine stF (e.trans (by simp [h2, h3])) (stO _ rfl (stC (by simp [dtcv]) (stC (decT (by rw [hw', List.length_map]; omega)) (stC (decT (by rw [hw']; omega)) ?_))))
          simp only
          rw [hcut]
          refine stO _ c2 ?_
          rw [← hR]
          simp [pthV]
        · rw [if_neg h3] at hR
          rw [← hR]
          exact stT (e.trans (by simp [h2, h3])) rfl
      · rw [if_neg h2] at hR
        rw [← hR]
        exact stT (e.trans (by simp [h2])) rfl
    · rw [if_neg h1] at hR
      refine (ih (q ++ [b]) (by rw [← hq]; simp) hR).mono fun n hi j k hj hk => ?_
      obtain ⟨j, rfl⟩ : ∃ m, j = m + 1 := ⟨j - 1, by simp at hj; omega⟩
      rw [r07_Path_L2_succ]
      refine stO _ rfl (stT (decT (by simp only [List.length_map]; omega)) (stO _ rfl (stO _ h0 (stC rfl (stO _ rfl (stO _ rfl (stF (by simpa using hfro) (stO _ rfl (stO _ hat (stC rfl (stO _ rfl (stO _ rfl (stT (by simpa using h1) ?_)))))))))))))
      rw [hw]
      exact hi j k (by simp at hj; omega) hk
theorem rp_skip (p : Pc) (f : Fl) (s : Sg) (b0 : Bool) (L Q l : List Dt) (a : Dt) (x25 r21 : CV) (hL : Q ++ l = L) (hLl : L.length ≤ 100) (ha : l[0]? = some a) (hfro : a.fro ≠ s.fro) (n : Nat) (k : Nat) (R : CV)
    (hk : r07_Path_L1 lb n k p.an (p.aps.map apcv) p.dn (p.dis.map dicv) f.car f.num f.fr f.to f.days f.ln (f.legs.map lgcv) s.car s.num s.day s.fro s.to s.dep s.arr (.list b0 (L.map dtcv)) x25 r21 (IntKind.wrap .i64 ((Q.length : Int) + 1)) = some R) :
    ∀ (t q : List Dt) (j : Nat), q ++ t = l → t.length < j → r07_Path_L2 lb n j k p.an (p.aps.map apcv) p.dn (p.dis.map dicv) f.car f.num f.fr f.to f.days f.ln (f.legs.map lgcv) s.car s.num s.day s.fro s.to s.dep s.arr (.list b0 (L.map dtcv)) x25 (Q.length : Int) r21 ((Q.length + q.length : Nat) : Int) = some R := by
  have hLll : L.length = Q.length + l.length := by rw [← hL]; simp
  have hla : L[Q.length]? = some a := by rw [← hL, List.getElem?_append_right (Nat.le_refl _), Nat.sub_self]; exact ha
  have h0 : atL (L.map dtcv) (Q.length : Int) = some (dtcv a) := atL_ok (by simp [hla])
  intro t
  induction t with
  | nil =>
    intro q j hq hj
    obtain ⟨j, rfl⟩ : ∃ m, j = m + 1 := ⟨j - 1, by simp at hj; omega⟩
    have hq : q = l := by simpa using hq
    subst hq
    rw [r07_Path_L2_succ]
    refine stO _ rfl (stF (decF (by simp; omega)) ?_)
    rw [r07_Path_J3_eq]
    exact hk
  | cons b t ih =>
    intro q j hq hj
    obtain ⟨j, rfl⟩ : ∃ m, j = m + 1 := ⟨j - 1, by simp at hj; omega⟩
    have hll : l.length = q.length + (t.length + 1) := by rw [← hq]; simp
    have hw : IntKind.wrap .i64 (((Q.length + q.length : Nat) : Int) + 1) = ((Q.length + (q ++ [b]).length : Nat) : Int) := by rw [wrap64 (by omega) (by omega)]; simp; omega
    rw [r07_Path_L2_succ]
    refine stO _ rfl (stT (decT (by simp only [List.length_map]; omega)) (stO _ rfl (stO _ h0 (stC rfl (stO _ rfl (stO _ rfl (stT (by simpa using hfro) ?_)))))))
    rw [hw]
    exact ih (q ++ [b]) j (by rw [← hq]; simp) (by simp at hj; omega)
theorem stops_fro_dt {L : List Dt} (hst : Stops (L.map froTo)) {Q t : List Dt} {a : Dt} (h : Q ++ a :: t = L) : ∀ b ∈ t, b.fro ≠ a.fro := by
  subst h
  rw [List.map_append] at hst
  have := stops_fro (stops_app hst)
  intro b hb e
  exact this (froTo b) (List.mem_map_of_mem hb) e.symm
theorem rp_L1 (p : Pc) (f : Fl) (s : Sg) (hs : s.car = f.car ∧ s.num = f.num) (b0 : Bool) (L : List Dt) (x25 r21 : CV) (hLl : L.length ≤ 100) (hid : ∀ a ∈ L, a.car = f.car ∧ a.num = f.num ∧ a.day = s.day) (hst : Stops (L.map froTo)) :
    ∀ (t Q : List Dt), Q ++ t = L → Evt fun n => ∀ k, t.length < k → r07_Path_L1 lb n k p.an (p.aps.map apcv) p.dn (p.dis.map dicv) f.car f.num f.fr f.to f.days f.ln (f.legs.map lgcv) s.car s.num s.day s.fro s.to s.dep s.arr (.list b0 (L.map dtcv)) x25 r21 (Q.length : Int) = some (pthV (pthF s t)) := by
  intro t
  induction t with
  | nil =>
    intro Q hQ
    refine .all fun n k hk => ?_
    obtain ⟨k, rfl⟩ : ∃ m, k = m + 1 := ⟨k - 1, by simp at hk; omega⟩
    have hQ : Q = L := by simpa using hQ
    subst hQ
    rw [r07_Path_L1_succ]
    refine stO _ rfl (stF (decF (by simp)) ?_)
    rw [r07_Path_J4_eq]
    rfl
  | cons a t ih =>
    intro Q hQ
    have hll : L.length = Q.length + (t.length + 1) := by rw [← hQ]; simp
    have hw : IntKind.wrap .i64 ((Q.length : Int) + 1) = ((Q ++ [a]).length : Int) := by rw [wrap64 (by omega) (by omega)]; simp
    have hnone := stops_fro_dt hst hQ
    unfold pthF
    by_cases h1 : a.fro = s.fro
    · rw [if_pos h1]
      refine Evt.imp2 (rp_L2 lb p f s hs b0 L Q (a :: t) a x25 r21 hQ hLl rfl hid h1 (pthIn s a [] (a :: t)) (a :: t) [] rfl rfl) ((ih (Q ++ [a]) (by rw [← hQ]; simp)).and (Evt.ge 200)) fun n h2 hi k hk => ?_
      obtain ⟨hi, hge⟩ := hi
      obtain ⟨k, rfl⟩ : ∃ m, k = m + 1 := ⟨k - 1, by simp at hk; omega⟩
      rw [r07_Path_L1_succ]
      refine stO _ rfl (stT (decT (by simp only [List.length_map]; omega)) ?_)
      have := h2 n k (by simp; omega) (fun hR => by
        rw [hw, hi k (by simp at hk; omega), hR]
        rw [pth_none s t (fun b hb => by rw [← h1]; exact hnone b hb)])
      simpa using this
    · rw [if_neg h1]
      refine ((ih (Q ++ [a]) (by rw [← hQ]; simp)).and (Evt.ge 200)).mono fun n hi k hk => ?_
      obtain ⟨hi, hge⟩ := hi
      obtain ⟨k, rfl⟩ : ∃ m, k = m + 1 := ⟨k - 1, by simp at hk; omega⟩
      rw [r07_Path_L1_succ]
      refine stO _ rfl (stT (decT (by simp only [List.length_map]; omega)) ?_)
      have := rp_skip lb p f s b0 L Q (a :: t) a x25 r21 hQ hLl rfl h1 n k _ (by rw [hw]; exact hi k (by simp at hk; omega)) (a :: t) [] n rfl (by simp; omega)
      simpa using this
theorem r07_Path_ret (p : Pc) (hp : Shifts p) (f : Fl) (s : Sg) (hl : f.legs.length ≤ 100) (hC : checkF p f = []) : Ret lb F_r07_Path [pcv p, flcv f, .agg (sgcv s)]
    (if s.car = f.car ∧ s.num = f.num then (if hasF f.fr f.to f.days s.day then pthV (pthF s (legsF p f s.day)) else .tup [.list true [], .int .i64 12]) else .tup [.list true [], .int .i64 7]) := by
  by_cases h1 : s.car = f.car
  · by_cases h2 : s.num = f.num
    · rw [if_pos ⟨h1, h2⟩]
      have key := rp_L1 lb p f s ⟨h1, h2⟩ f.legs.isEmpty (legsF p f s.day) (.int .i64 0) (.tup [.list f.legs.isEmpty ((legsF p f s.day).map dtcv), .int .i64 0]) (by rw [legsF_len]; exact hl) legsF_mem (stops_legs hC s.day) (legsF p f s.day) [] rfl
      refine .top rfl (Evt.imp2 (r07_Legs_ret lb p hp f (by omega) s.day) (Evt.diag key) fun n hn h => ?_)
      rw [sgcv, r07_Path_eq]
      refine stF (by simpa using h1) (stF (bneF h2) (stO _ hn ?_))
      cases hh : hasF f.fr f.to f.days s.day with
      | false => rfl
      | true => exact stO _ rfl (stO _ rfl (stO _ rfl (stO _ rfl (stO _ rfl (stF rfl h)))))
    · rw [if_neg (fun q => h2 q.2)]
      refine .top rfl (.all fun n => ?_)
      rw [sgcv, r07_Path_eq]
      exact stF (by simpa using h1) (stT (bneT h2) rfl)
  · rw [if_neg (fun q => h1 q.1)]
    refine .top rfl (.all fun n => ?_)
    rw [sgcv, r07_Path_eq]
    exact stT (by simpa using h1) rfl
theorem sameIds_ret (b : Bool) (l : List Li) (hF : l.length ≤ 100000) : Ret lb F_r07_SameIds [.list b (l.map licv), .list b (l.map licv)] (.bool true) := by
  refine .top rfl (.eq (fun n => by rw [r07_SameIds_eq, bneF rfl, cond_false]) ?_)
  refine Evt.diag (m := l.length) (loopL (enc := licv) (l := l) (by omega) (P := fun q t n k => r07_SameIds_L1 lb n k b (l.map licv) b (l.map licv) (q.length : Int) = some (.bool true)) ?_ ?_ l [] rfl)
  · refine .all fun n k => ?_
    rw [r07_SameIds_L1_succ]
    refine stF (decF (by simp)) ?_
    rw [r07_SameIds_J2_eq]
  · intro q x t hq hlt hat hw hev
    refine hev.mono fun n hn k hk => ?_
    have hn := hn k hk
    rw [r07_SameIds_L1_succ]
    refine stT (decT hlt) (stO _ hat (stC rfl (stO _ rfl (stO _ rfl (stO _ rfl (stO _ rfl (stO _ hat (stC rfl (stO _ rfl (stO _ rfl (stO _ rfl (stO _ rfl (stO _ rfl (stO _ rfl (stO _ rfl (stO _ rfl (stO _ rfl (stO _ rfl (stO _ rfl (stO _ rfl (stF (by simp) ?_)))))))))))))))))))))
    rw [hw]
    exact hn
theorem pthIn_len (s : Sg) (a : Dt) : ∀ (t q : List Dt), (pthIn s a q t).1.length ≤ q.length + t.length
  | [], q => by simp [pthIn]
  | b :: t, q => by
    unfold pthIn
    split
    · split
      · split
        · simp
        · simp
      · simp
    · have := pthIn_len s a t (q ++ [b])
      simp at this ⊢
      omega
theorem pthF_len (s : Sg) : ∀ l : List Dt, (pthF s l).1.length ≤ l.length
  | [] => by simp [pthF]
  | a :: r => by
    unfold pthF
    split
    · have := pthIn_len s a (a :: r) []
      simpa using this
    · have := pthF_len s r
      simp; omega
theorem flightPaths_ok (p : Pc) (f : Fl) (s : Sg) (hp : ArgP p) (hf : ArgF f) : Ret lb F_l07_FlightPaths [pcv p, flcv f, .agg (sgcv s)] (.bool true) := by
  cases hR : rightB p f with
  | false =>
    refine .top rfl (Evt.imp2 (l07_right_ret lb p f hp hf) (awake07_ok lb) fun n h1 h2 => ?_)
    rw [sgcv, l07_FlightPaths_eq]
    exact stO _ h1 (stO _ rfl (stT (by rw [hR]; rfl) (stO _ h2 rfl)))
  | true =>
    obtain ⟨⟨b1, b2, b3, b4, b5⟩, hS, hC⟩ := rightB_true hR
    have c1 := flight_Path_ret lb p hS f s (by omega)
    have c2 := r07_Path_ret lb p hS f s (by omega) hC
    have fin : ∀ (b : Bool) (l : List Li) (e : Int), l.length ≤ 1000 → (if s.car = f.car ∧ s.num = f.num then (if hasF f.fr f.to f.days s.day then pthV (pthF s (legsF p f s.day)) else .tup [.list true [], .int .i64 12]) else .tup [.list true [], .int .i64 7]) = CV.tup [.list b (l.map licv), .int .i64 e] →
        Ret lb F_l07_FlightPaths [pcv p, flcv f, .agg (sgcv s)] (.bool true) := by
      intro b l e hl he
      rw [he] at c1 c2
      refine .top rfl (Evt.imp2 (Evt.imp2 (l07_right_ret lb p f hp hf) (awake07_ok lb) fun n a b => And.intro a b) (Evt.imp2 (Evt.imp2 c1 c2 fun n a b => And.intro a b) (sameIds_ret lb b l (by omega)) fun n a b => And.intro a b) fun n h1 h2 => ?_)
      obtain ⟨a1, a2⟩ := h1
      obtain ⟨⟨a3, a4⟩, a5⟩ := h2
      rw [sgcv] at a3 a4 ⊢
      rw [l07_FlightPaths_eq]
      exact stO _ a1 (stO _ rfl (stF (by rw [hR]; rfl) (stO _ a3 (stO _ rfl (stO _ rfl (stO _ rfl (stO _ rfl (stO _ a4 (stO _ rfl (stO _ rfl (stO _ rfl (stO _ rfl (stO _ a5 (stO _ rfl (stT rfl (stO _ rfl (stO _ rfl (stT (beqT rfl) (stO _ a2 rfl)))))))))))))))))))
    by_cases h1 : s.car = f.car ∧ s.num = f.num
    · cases hh : hasF f.fr f.to f.days s.day with
      | false => exact fin true [] 12 (by simp) (by rw [if_pos h1, hh]; rfl)
      | true => exact fin ((pthF s (legsF p f s.day)).2 != 0) (pthF s (legsF p f s.day)).1 (pthF s (legsF p f s.day)).2 (by have := pthF_len s (legsF p f s.day); rw [legsF_len] at this; omega) (by rw [if_pos h1, hh]; rfl)
    · exact fin true [] 7 (by simp) (by rw [if_neg h1]; rfl)
end Go.Proofs
