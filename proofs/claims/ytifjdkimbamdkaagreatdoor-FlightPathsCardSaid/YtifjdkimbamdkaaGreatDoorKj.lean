/- Chapter 7 on plain data: legs and segments on a day, by the program and by its reference. Conditions: as each says. -/
import Derived.Test.YtifjdkimbamdkaaGreatDoorKi
import Derived.Test.YtifjdkimbamdkaaGreatDoorGd
set_option linter.unusedSimpArgs false
namespace Go.Proofs
open Go.Am
variable (lb : Bool)
structure Sg where
  car : Bs
  num : Int
  day : Int
  fro : Bs
  to : Bs
  dep : Int
  arr : Int
def sgcv (s : Sg) : List CV := [.str s.car, .int .i64 s.num, .int .i64 s.day, .str s.fro, .str s.to, .int .i64 s.dep, .int .i64 s.arr]
def segF (a b : Dt) : Sg := ⟨a.car, a.num, a.day, a.fro, b.to, a.dep, b.arr⟩
def segsF : List Dt → List Sg
  | [] => []
  | a :: r => (a :: r).map (segF a) ++ segsF r
theorem segsF_len : ∀ l : List Dt, (segsF l).length ≤ l.length * l.length
  | [] => by simp [segsF]
  | a :: r => by
    have := segsF_len r
    simp only [segsF, List.length_append, List.length_map, List.length_cons, Nat.add_mul, Nat.mul_add, Nat.one_mul, Nat.mul_one]
    omega
theorem r07_Legs_ret (p : Pc) (hp : Shifts p) (f : Fl) (hl : f.legs.length ≤ 1000) (day : Int) : Ret lb F_r07_Legs [pcv p, flcv f, .int .i64 day]
    (if hasF f.fr f.to f.days day then .tup [.list f.legs.isEmpty ((legsF p f day).map dtcv), .int .i64 0] else .tup [.list true [], .int .i64 12]) := by
  refine .top rfl (Evt.imp2 (r04_Has_ret lb f.fr f.to f.days day) (r07_legs_ret lb p hp f hl day) fun n h1 h2 => ?_)
  rw [r07_Legs_eq]
  refine stO _ h1 (stO _ rfl ?_)
  cases hasF f.fr f.to f.days day with
  | false => rfl
  | true => exact stF rfl (stO _ h2 rfl)
theorem r07_seg_ret (an : Bool) (l : List Dt) (i k : Nat) (a b : Dt) (ha : l[i]? = some a) (hb : l[k]? = some b) : Ret lb F_r07_seg [.list an (l.map dtcv), .int .i64 (i : Int), .int .i64 (k : Int)] (.agg (sgcv (segF a b))) := by
  have h1 : atL (l.map dtcv) (i : Int) = some (dtcv a) := atL_ok (by simp [ha])
  have h2 : atL (l.map dtcv) (k : Int) = some (dtcv b) := atL_ok (by simp [hb])
  refine .top rfl (.all fun n => ?_)
  rw [r07_seg_eq, h1, h2]
  rfl
theorem seg_room {n : Nat} (h : n ≤ 100000) : room (n + 1) 80 = true := room_le (by omega) (by decide)

/-! the program's -/
theorem fs_in (p : Pc) (f : Fl) (day : Int) (l q r : List Dt) (a : Dt) (hql : q ++ a :: r = l) (hl : l.length ≤ 100) (ha : a.car = f.car ∧ a.num = f.num ∧ a.day = day) (x17 x19 r14 : CV) (p21 : Bool × List (List CV)) (p120 : Bool × List (List CV)) (hp : p120.2 = l.map dtcv)
    (S : List Sg) (hS : S.length ≤ 90000) (R : CV) (k : Nat) (c111 : List CV) (n : Nat)
    (hR : flight_Segs_L1 lb n k p.an (p.aps.map apcv) p.dn (p.dis.map dicv) f.car f.num f.fr f.to f.days f.ln (f.legs.map lgcv) day x17 x19 r14 p21 (S ++ (a :: r).map (segF a)).isEmpty ((S ++ (a :: r).map (segF a)).map sgcv) (IntKind.wrap .i64 ((q.length : Int) + 1)) = some R) :
    ∀ (s u : List Dt) (j : Nat), u ++ s = a :: r → s.length < j →
      flight_Segs_L2 lb n j k p.an (p.aps.map apcv) p.dn (p.dis.map dicv) f.car f.num f.fr f.to f.days f.ln (f.legs.map lgcv) day x17 x19 (q.length : Int) r14 p21 c111 (.str a.car) (.int .i64 a.num) (.int .i64 a.day) (.str a.fro) (.str a.to) (.int .i64 a.dep) (.int .i64 a.arr) (.str a.eq) p120
        (S ++ u.map (segF a)).isEmpty ((S ++ u.map (segF a)).map sgcv) (u.length : Int) = some R := by
  have hll : l.length = q.length + (r.length + 1) := by rw [← hql]; simp
  have hdrop : (p120.2.take ((p120.2.length : Int).toNat)).drop ((q.length : Int)).toNat = (a :: r).map dtcv := by
    rw [hp, Int.toNat_natCast, Int.toNat_natCast, List.take_of_length_le (by simp), ← List.map_drop, ← hql, List.drop_append]
    simp
  intro s
  induction s with
  | nil =>
    intro u j hu hj
    obtain ⟨j, rfl⟩ : ∃ m, j = m + 1 := ⟨j - 1, by simp at hj; omega⟩
    have hu : u = a :: r := by simpa using hu
    subst hu
    rw [flight_Segs_L2_succ, hdrop]
    refine stF (decF (by simp)) ?_
    rw [flight_Segs_J3_eq]
    exact hR
  | cons b s ih =>
    intro u j hu hj
    obtain ⟨j, rfl⟩ : ∃ m, j = m + 1 := ⟨j - 1, by simp at hj; omega⟩
    have hul : r.length + 1 = u.length + (s.length + 1) := by have := congrArg List.length hu; simp at this; omega
    have hat : atL ((a :: r).map dtcv) (u.length : Int) = some (dtcv b) := atL_ok (by rw [← hu]; simp)
    have ih := ih (u ++ [b]) j (by rw [← hu]; simp) (by simp at hj; omega)
    rw [flight_Segs_L2_succ, hdrop]
    refine stT (decT (by simp only [List.length_map, List.length_cons]; omega)) (stO _ hat (stC rfl (stO _ rfl (stO _ rfl (stO _ rfl (stO _ rfl (stO _ rfl (stO _ rfl (stO _ rfl (stO _ rfl (stC rfl (stC rfl (stC rfl (stC rfl (stC (seg_room (by simp; omega)) ?_)))))))))))))))
    rw [wrap64 (by omega) (by omega), show (u.length : Int) + 1 = ((u ++ [b]).length : Int) by simp, snoc_nil (S ++ u.map (segF a)) (segF a b)]
    have e : sgcv (segF a b) = [CV.str f.car, CV.int .i64 f.num, CV.int .i64 day, CV.str a.fro, CV.str b.to, CV.int .i64 a.dep, CV.int .i64 b.arr] := by
      simp [sgcv, segF, ha]
    rw [← e]
    simpa [List.map_append, List.append_assoc] using ih
theorem fs_out (p : Pc) (f : Fl) (day : Int) (l : List Dt) (hl : l.length ≤ 100) (ha : ∀ a ∈ l, a.car = f.car ∧ a.num = f.num ∧ a.day = day) (b0 : Bool) (x19 r14 : CV) :
    Evt fun n => flight_Segs_L1 lb n n p.an (p.aps.map apcv) p.dn (p.dis.map dicv) f.car f.num f.fr f.to f.days f.ln (f.legs.map lgcv) day (.list b0 (l.map dtcv)) x19 r14 (b0, l.map dtcv) true [] 0 = some (.tup [.list (segsF l).isEmpty ((segsF l).map sgcv), .int .i64 0]) := by
  have key := loopL (enc := dtcv) (l := l) (by omega) (P := fun q t n k => ∀ S : List Sg, S ++ segsF t = segsF l → flight_Segs_L1 lb n k p.an (p.aps.map apcv) p.dn (p.dis.map dicv) f.car f.num f.fr f.to f.days f.ln (f.legs.map lgcv) day (.list b0 (l.map dtcv)) x19 r14 (b0, l.map dtcv) S.isEmpty (S.map sgcv) (q.length : Int) =
      some (.tup [.list (segsF l).isEmpty ((segsF l).map sgcv), .int .i64 0])) (by
    refine .all fun n k S hS => ?_
    have hS : S = segsF l := by simpa [segsF] using hS
    subst hS
    rw [flight_Segs_L1_succ]
    refine stF (decF (by simp)) ?_
    rw [flight_Segs_J4_eq]) (by
    intro q a r hq hlt hat hw hev
    refine (hev.and (Evt.ge (l.length + 1))).mono fun n hn k hk S hS => ?_
    obtain ⟨hn, hge⟩ := hn
    have hll : l.length = q.length + (r.length + 1) := by rw [← hq]; simp
    have hSl : S.length ≤ 90000 := by
      have h1 := congrArg List.length hS
      have h2 := segsF_len l
      have h3 : l.length * l.length ≤ 100 * 100 := Nat.mul_le_mul hl hl
      rw [List.length_append] at h1
      omega
    have hn := hn k hk (S ++ (a :: r).map (segF a)) (by rw [← hS]; simp [segsF])
    rw [flight_Segs_L1_succ]
    refine stT (decT hlt) (stO _ rfl (stO _ hat (stC rfl (stO _ rfl (stO _ rfl (stO _ rfl (stO _ rfl (stO _ rfl (stO _ rfl (stO _ rfl (stO _ rfl (stO _ rfl (stC (by simp [dtcv]) (stC (decT (by simp; omega)) ?_))))))))))))))
    have := fs_in lb p f day l q r a hq hl (ha a (by rw [← hq]; simp)) (.list b0 (l.map dtcv)) x19 r14 (b0, l.map dtcv) (b0, l.map dtcv) rfl S hSl _ k (dtcv a) n (by rw [hw]; exact hn) (a :: r) [] n rfl (by simp; omega)
    simpa using this) l [] rfl
  refine (Evt.diag key).mono fun n hn => ?_
  simpa using hn [] rfl
theorem legsF_mem {p : Pc} {f : Fl} {day : Int} : ∀ a ∈ legsF p f day, a.car = f.car ∧ a.num = f.num ∧ a.day = day := by
  intro a ha
  unfold legsF at ha
  obtain ⟨x, _, rfl⟩ := List.mem_map.1 ha
  exact ⟨rfl, rfl, rfl⟩
theorem legsF_len (p : Pc) (f : Fl) (day : Int) : (legsF p f day).length = f.legs.length := by simp [legsF]
def segsR (p : Pc) (f : Fl) (day : Int) : CV := if hasF f.fr f.to f.days day then .tup [.list (segsF (legsF p f day)).isEmpty ((segsF (legsF p f day)).map sgcv), .int .i64 0] else .tup [.list true [], .int .i64 12]
theorem flight_Segs_ret (p : Pc) (hp : Shifts p) (f : Fl) (hl : f.legs.length ≤ 100) (day : Int) : Ret lb F_flight_Segs [pcv p, flcv f, .int .i64 day] (segsR p f day) := by
  refine .top rfl (Evt.imp2 (flight_Legs_ret lb p hp f (by omega) day) (fs_out lb p f day (legsF p f day) (by rw [legsF_len]; exact hl) legsF_mem false (.int .i64 0) (.tup [.list false ((legsF p f day).map dtcv), .int .i64 0])) fun n h1 h2 => ?_)
  rw [flight_Segs_eq]
  refine stO _ h1 ?_
  unfold segsR
  cases hasF f.fr f.to f.days day with
  | false => rfl
  | true => exact stO _ rfl (stO _ rfl (stO _ rfl (stO _ rfl (stO _ rfl (stF rfl (stO _ rfl h2))))))

/-! the reference's -/
theorem rs_in (p : Pc) (f : Fl) (day : Int) (b0 : Bool) (l q r : List Dt) (a : Dt) (hql : q ++ a :: r = l) (hl : l.length ≤ 100) (x19 r14 : CV) (S : List Sg) (hS : S.length ≤ 90000) (R : CV) :
    ∀ (s u : List Dt), u ++ s = a :: r → Evt fun n => ∀ j k, s.length < j →
      r07_Segs_L1 lb n k p.an (p.aps.map apcv) p.dn (p.dis.map dicv) f.car f.num f.fr f.to f.days f.ln (f.legs.map lgcv) day (.list b0 (l.map dtcv)) x19 r14 (S ++ (a :: r).map (segF a)).isEmpty ((S ++ (a :: r).map (segF a)).map sgcv) (IntKind.wrap .i64 ((q.length : Int) + 1)) = some R →
      r07_Segs_L2 lb n j k p.an (p.aps.map apcv) p.dn (p.dis.map dicv) f.car f.num f.fr f.to f.days f.ln (f.legs.map lgcv) day (.list b0 (l.map dtcv)) x19 (q.length : Int) r14 (S ++ u.map (segF a)).isEmpty ((S ++ u.map (segF a)).map sgcv) ((q.length + u.length : Nat) : Int) = some R := by
  have hll : l.length = q.length + (r.length + 1) := by rw [← hql]; simp
  intro s
  induction s with
  | nil =>
    intro u hu
    have hu : u = a :: r := by simpa using hu
    subst hu
    refine .all fun n j k hj hR => ?_
    obtain ⟨j, rfl⟩ : ∃ m, j = m + 1 := ⟨j - 1, by simp at hj; omega⟩
    rw [r07_Segs_L2_succ]
    refine stO _ rfl (stF (decF (by simp; omega)) ?_)
    rw [r07_Segs_J3_eq]
    exact hR
  | cons b s ih =>
    intro u hu
    have hul : r.length + 1 = u.length + (s.length + 1) := by have := congrArg List.length hu; simp at this; omega
    refine Evt.imp2 (ih (u ++ [b]) (by rw [← hu]; simp)) (r07_seg_ret lb b0 l q.length (q.length + u.length) a b (by rw [← hql]; simp) (by rw [← hql, ← hu]; simp)) fun n hi h2 j k hj hR => ?_
    obtain ⟨j, rfl⟩ : ∃ m, j = m + 1 := ⟨j - 1, by simp at hj; omega⟩
    have hi := hi j k (by simp at hj; omega) hR
    rw [r07_Segs_L2_succ]
    refine stO _ rfl (stT (decT (by simp only [List.length_map]; omega)) (stO _ h2 (stO _ rfl (stC rfl (stO _ rfl (stO _ rfl (stO _ rfl (stO _ rfl (stO _ rfl (stO _ rfl (stO _ rfl (stC (seg_room (by simp; omega)) ?_))))))))))))
    rw [wrap64 (by omega) (by omega), show ((q.length + u.length : Nat) : Int) + 1 = ((q.length + (u ++ [b]).length : Nat) : Int) by simp; omega, snoc_nil (S ++ u.map (segF a)) (segF a b)]
    simpa [List.map_append, List.append_assoc, sgcv] using hi
theorem rs_out (p : Pc) (f : Fl) (day : Int) (l : List Dt) (hl : l.length ≤ 100) (b0 : Bool) (x19 r14 : CV) :
    Evt fun n => r07_Segs_L1 lb n n p.an (p.aps.map apcv) p.dn (p.dis.map dicv) f.car f.num f.fr f.to f.days f.ln (f.legs.map lgcv) day (.list b0 (l.map dtcv)) x19 r14 true [] 0 = some (.tup [.list (segsF l).isEmpty ((segsF l).map sgcv), x19]) := by
  have key := loopL (enc := dtcv) (l := l) (by omega) (P := fun q t n k => ∀ S : List Sg, S ++ segsF t = segsF l → r07_Segs_L1 lb n k p.an (p.aps.map apcv) p.dn (p.dis.map dicv) f.car f.num f.fr f.to f.days f.ln (f.legs.map lgcv) day (.list b0 (l.map dtcv)) x19 r14 S.isEmpty (S.map sgcv) (q.length : Int) =
      some (.tup [.list (segsF l).isEmpty ((segsF l).map sgcv), x19])) (by
    refine .all fun n k S hS => ?_
    have hS : S = segsF l := by simpa [segsF] using hS
    subst hS
    rw [r07_Segs_L1_succ]
    refine stO _ rfl (stF (decF (by simp)) ?_)
    rw [r07_Segs_J4_eq]) (by
    intro q a r hq hlt hat hw hev
    have hll : l.length = q.length + (r.length + 1) := by rw [← hq]; simp
    have fin : ∀ S : List Sg, S ++ segsF (a :: r) = segsF l → S.length ≤ 90000 := by
      intro S hS
      have h1 := congrArg List.length hS
      have h2 := segsF_len l
      have h3 : l.length * l.length ≤ 100 * 100 := Nat.mul_le_mul hl hl
      rw [List.length_append] at h1
      omega
    have one : ∃ S : List Sg, S ++ segsF (a :: r) = segsF l := by
      have : ∀ (q : List Dt) (l : List Dt), q ++ a :: r = l → ∃ S : List Sg, S ++ segsF (a :: r) = segsF l := by
        intro q
        induction q with
        | nil => intro l h; exact ⟨[], by rw [← h]; rfl⟩
        | cons y q ih =>
          intro l h
          obtain ⟨S, hS⟩ := ih (q ++ a :: r) rfl
          exact ⟨(y :: (q ++ a :: r)).map (segF y) ++ S, by rw [← h, List.cons_append, List.append_assoc, hS]; rfl⟩
      exact this q l hq
    obtain ⟨S0, hS0⟩ := one
    refine Evt.imp2 (hev.and (Evt.ge (l.length + 1))) (rs_in lb p f day b0 l q r a hq hl x19 r14 S0 (fin S0 hS0) (.tup [.list (segsF l).isEmpty ((segsF l).map sgcv), x19]) (a :: r) [] rfl) fun n hn hi k hk S hS => ?_
    obtain ⟨hn, hge⟩ := hn
    obtain rfl : S = S0 := by
      have := hS.trans hS0.symm
      exact List.append_cancel_right this
    have hn := hn k hk (S ++ (a :: r).map (segF a)) (by rw [← hS]; simp [segsF])
    rw [r07_Segs_L1_succ]
    refine stO _ rfl (stT (decT hlt) ?_)
    have := hi n k (by simp; omega) (by rw [hw]; exact hn)
    simpa using this) l [] rfl
  refine (Evt.diag key).mono fun n hn => ?_
  simpa using hn [] rfl
theorem r07_Segs_ret (p : Pc) (hp : Shifts p) (f : Fl) (hl : f.legs.length ≤ 100) (day : Int) : Ret lb F_r07_Segs [pcv p, flcv f, .int .i64 day] (segsR p f day) := by
  unfold segsR
  cases hh : hasF f.fr f.to f.days day with
  | false =>
    refine .top rfl (Evt.imp2 (r07_Legs_ret lb p hp f (by omega) day) (rs_out lb p f day [] (by simp) true (.int .i64 12) (.tup [.list true [], .int .i64 12])) fun n h1 h2 => ?_)
    rw [hh] at h1
    rw [r07_Segs_eq]
    exact stO _ h1 (stO _ rfl (stO _ rfl (stO _ rfl (stO _ rfl h2))))
  | true =>
    refine .top rfl (Evt.imp2 (r07_Legs_ret lb p hp f (by omega) day) (rs_out lb p f day (legsF p f day) (by rw [legsF_len]; exact hl) f.legs.isEmpty (.int .i64 0) (.tup [.list f.legs.isEmpty ((legsF p f day).map dtcv), .int .i64 0])) fun n h1 h2 => ?_)
    rw [hh] at h1
    rw [r07_Segs_eq]
    exact stO _ h1 (stO _ rfl (stO _ rfl (stO _ rfl (stO _ rfl h2))))
end Go.Proofs
