/- Chapter 7 on plain data: legs and segments on a day, by the program and by its reference. Conditions: as each says. -/
import Derived.Test.YtdcpdknginpohaaGreatDoorKC
import Derived.Test.YtdcpdknginpohaaGreatDoorGd
import Derived.Test.YtdcpdknginpohaaGreatDoorNB
import Derived.Test.YtdcpdknginpohaaGreatDoorVe
import Derived.Test.YtdcpdknginpohaaGreatDoorVh
import Derived.Test.YtdcpdknginpohaaGreatDoorJd10
set_option linter.unusedSimpArgs false
namespace Go.Proofs
open Go.Am
variable (lb : Nat)
structure Sg where
 car : Bs
 num : Int
 day : Int
 fro : Bs
 to : Bs
 dep : Int
 arr : Int
def sgcv (s : Sg) : List CV := [.str s.car, .int .i64 s.num, .int .i64 s.day, .str s.fro, .str s.to, .int .i64 s.dep, .int .i64 s.arr]
def segF (a b : Dt) : Sg := ⟨a.car, a.num, a.day, a.fro, b.to, a.dep, b.arr⟩
def QaS : List Dt → List Sg
 | [] => []
 | a :: r => (a :: r).map (segF a) ++ QaS r
theorem Qhp : ∀ l : List Dt, (QaS l).length ≤ l.length * l.length
 | [] => by simp [QaS]
 | a :: r => by
  have := Qhp r
  simp only [QaS, List.length_append, List.length_map, List.length_cons, Nat.add_mul, Nat.mul_add, Nat.one_mul, Nat.mul_one]
  omega
theorem QjV (p : Pc) (hp : QbP p) (f : Fl) (hl : f.legs.length ≤ 1000) (day : Int) : Ret lb Qiz [pcv p, flcv f, .int .i64 day]
  (if hasF f.fr f.to f.days day then .tup [.list f.legs.isEmpty ((Qbp p f day).map dtcv), .int .i64 0] else .tup [.list true [], .int .i64 12]) := by
 refine .top rfl (Evt.imp2 (QfD lb f.fr f.to f.days day) (QjM lb p hp f hl day) fun n h1 h2 => ?_)
 rw [Qqj]
 refine stO _ h1 (stO _ rfl ?_)
 cases hasF f.fr f.to f.days day with
 | false => rfl
 | true => exact stF rfl (stO _ h2 rfl)
theorem Qqu (an : Bool) (l : List Dt) (i k : Nat) (a b : Dt) (ha : l[i]? = some a) (hb : l[k]? = some b) : Ret lb Qjo [.list an (l.map dtcv), .int .i64 (i : Int), .int .i64 (k : Int)] (.agg (sgcv (segF a b))) := by
 have h1 : atL (l.map dtcv) (i : Int) = some (dtcv a) := QaO (by simp [ha])
 have h2 : atL (l.map dtcv) (k : Int) = some (dtcv b) := QaO (by simp [hb])
 refine .top rfl (.all fun n => ?_)
 rw [Qq1, h1, h2]
 rfl
theorem Qo5 {n : Nat} (h : n ≤ 100000) : room (n + 1) 80 = true := QbN (by omega) (by decide)
theorem QuE (p : Pc) (f : Fl) (day : Int) (l q r : List Dt) (a : Dt) (hql : q ++ a :: r = l) (hl : l.length ≤ 100) (ha : a.car = f.car ∧ a.num = f.num ∧ a.day = day) (jo ji jj : CV) (wT : Bool × List (List CV)) (wp : Bool × List (List CV)) (hp : wp.2 = l.map dtcv)
  (S : List Sg) (hS : S.length ≤ 90000) (R : CV) (k : Nat) (c111 : List CV) (n : Nat)
  (hR : Qcv lb n k p.an (p.aps.map apcv) p.dn (p.dis.map dicv) f.car f.num f.fr f.to f.days f.ln (f.legs.map lgcv) day jo ji jj wT (S ++ (a :: r).map (segF a)).isEmpty ((S ++ (a :: r).map (segF a)).map sgcv) (IntKind.wrap .i64 ((q.length : Int) + 1)) = some R) :
  ∀ (s u : List Dt) (j : Nat), u ++ s = a :: r → s.length < j →
   QdS lb n j k p.an (p.aps.map apcv) p.dn (p.dis.map dicv) f.car f.num f.fr f.to f.days f.ln (f.legs.map lgcv) day jo ji (q.length : Int) jj wT c111 (.str a.car) (.int .i64 a.num) (.int .i64 a.day) (.str a.fro) (.str a.to) (.int .i64 a.dep) (.int .i64 a.arr) (.str a.eq) wp
    (S ++ u.map (segF a)).isEmpty ((S ++ u.map (segF a)).map sgcv) (u.length : Int) = some R := by
 have hll : l.length = q.length + (r.length + 1) := by rw [← hql]; simp
 have hdrop : (wp.2.take ((wp.2.length : Int).toNat)).drop ((q.length : Int)).toNat = (a :: r).map dtcv := by
  rw [hp, Int.toNat_natCast, Int.toNat_natCast, List.take_of_length_le (by simp), ← List.map_drop, ← hql, List.drop_append]
  simp
 intro s
 induction s with
 | nil =>
  intro u j hu hj
  obtain ⟨j, rfl⟩ : ∃ m, j = m + 1 := ⟨j - 1, by simp at hj; omega⟩
  have hu : u = a :: r := by simpa using hu
  subst hu
  rw [Qe5, hdrop]
  refine stF (decF (by simp)) ?_
  rw [Qkx]
  exact hR
 | cons b s ih =>
  intro u j hu hj
  obtain ⟨j, rfl⟩ : ∃ m, j = m + 1 := ⟨j - 1, by simp at hj; omega⟩
  have hul : r.length + 1 = u.length + (s.length + 1) := by have := congrArg List.length hu; simp at this; omega
  have hat : atL ((a :: r).map dtcv) (u.length : Int) = some (dtcv b) := QaO (by rw [← hu]; simp)
  have ih := ih (u ++ [b]) j (by rw [← hu]; simp) (by simp at hj; omega)
  rw [Qe5, hdrop]
  refine stT (decT (by simp only [List.length_map, List.length_cons]; omega)) (stO _ hat (stC rfl (stO _ rfl (stO _ rfl (stO _ rfl (stO _ rfl (stO _ rfl (stO _ rfl (stO _ rfl (stO _ rfl (stC rfl (stC rfl (stC rfl (stC rfl (stC (Qo5 (by simp; omega)) ?_)))))))))))))))
  rw [QaF (by omega) (by omega), show (u.length : Int) + 1 = ((u ++ [b]).length : Int) by simp, Qbv (S ++ u.map (segF a)) (segF a b)]
  have e : sgcv (segF a b) = [CV.str f.car, CV.int .i64 f.num, CV.int .i64 day, CV.str a.fro, CV.str b.to, CV.int .i64 a.dep, CV.int .i64 b.arr] := by
   simp [sgcv, segF, ha]
  rw [← e]
  simpa [List.map_append, List.append_assoc] using ih
theorem Qun (p : Pc) (f : Fl) (day : Int) (l : List Dt) (hl : l.length ≤ 100) (ha : ∀ a ∈ l, a.car = f.car ∧ a.num = f.num ∧ a.day = day) (b0 : Bool) (ji jj : CV) :
  Evt fun n => Qcv lb n n p.an (p.aps.map apcv) p.dn (p.dis.map dicv) f.car f.num f.fr f.to f.days f.ln (f.legs.map lgcv) day (.list b0 (l.map dtcv)) ji jj (b0, l.map dtcv) true [] 0 = some (.tup [.list (QaS l).isEmpty ((QaS l).map sgcv), .int .i64 0]) := by
 have key := QcD (enc := dtcv) (l := l) (by omega) (P := fun q t n k => ∀ S : List Sg, S ++ QaS t = QaS l → Qcv lb n k p.an (p.aps.map apcv) p.dn (p.dis.map dicv) f.car f.num f.fr f.to f.days f.ln (f.legs.map lgcv) day (.list b0 (l.map dtcv)) ji jj (b0, l.map dtcv) S.isEmpty (S.map sgcv) (q.length : Int) =
   some (.tup [.list (QaS l).isEmpty ((QaS l).map sgcv), .int .i64 0])) (by
  refine .all fun n k S hS => ?_
  have hS : S = QaS l := by simpa [QaS] using hS
  subst hS
  rw [Qe4]
  refine stF (decF (by simp)) ?_
  rw [QkD]) (by
  intro q a r hq hlt hat hw hev
  refine (hev.and (Evt.ge (l.length + 1))).mono fun n hn k hk S hS => ?_
  obtain ⟨hn, hge⟩ := hn
  have hll : l.length = q.length + (r.length + 1) := by rw [← hq]; simp
  have hSl : S.length ≤ 90000 := by
   have h1 := congrArg List.length hS
   have h2 := Qhp l
   have h3 : l.length * l.length ≤ 100 * 100 := Nat.mul_le_mul hl hl
   rw [List.length_append] at h1
   omega
  have hn := hn k hk (S ++ (a :: r).map (segF a)) (by rw [← hS]; simp [QaS])
  rw [Qe4]
  refine stT (decT hlt) (stO _ rfl (stO _ hat (stC rfl (stO _ rfl (stO _ rfl (stO _ rfl (stO _ rfl (stO _ rfl (stO _ rfl (stO _ rfl (stO _ rfl (stO _ rfl (stC (by simp [dtcv]) (stC (decT (by simp; omega)) ?_))))))))))))))
  have := QuE lb p f day l q r a hq hl (ha a (by rw [← hq]; simp)) (.list b0 (l.map dtcv)) ji jj (b0, l.map dtcv) (b0, l.map dtcv) rfl S hSl _ k (dtcv a) n (by rw [hw]; exact hn) (a :: r) [] n rfl (by simp; omega)
  simpa using this) l [] rfl
 refine (Evt.diag key).mono fun n hn => ?_
 simpa using hn [] rfl
theorem QrW {p : Pc} {f : Fl} {day : Int} : ∀ a ∈ Qbp p f day, a.car = f.car ∧ a.num = f.num ∧ a.day = day := by
 intro a ha
 unfold Qbp at ha
 obtain ⟨x, _, rfl⟩ := List.mem_map.1 ha
 exact ⟨rfl, rfl, rfl⟩
theorem QjS (p : Pc) (f : Fl) (day : Int) : (Qbp p f day).length = f.legs.length := by simp [Qbp]
def Qkk (p : Pc) (f : Fl) (day : Int) : CV := if hasF f.fr f.to f.days day then .tup [.list (QaS (Qbp p f day)).isEmpty ((QaS (Qbp p f day)).map sgcv), .int .i64 0] else .tup [.list true [], .int .i64 12]
theorem Qmu (p : Pc) (hp : QbP p) (f : Fl) (hl : f.legs.length ≤ 100) (day : Int) : Ret lb Qak [pcv p, flcv f, .int .i64 day] (Qkk p f day) := by
 refine .top rfl (Evt.imp2 (QmE lb p hp f (by omega) day) (Qun lb p f day (Qbp p f day) (by rw [QjS]; exact hl) QrW false (.int .i64 0) (.tup [.list false ((Qbp p f day).map dtcv), .int .i64 0])) fun n h1 h2 => ?_)
 rw [Qm5]
 refine stO _ h1 ?_
 unfold Qkk
 cases hasF f.fr f.to f.days day with
 | false => rfl
 | true => exact stO _ rfl (stO _ rfl (stO _ rfl (stO _ rfl (stO _ rfl (stF rfl (stO _ rfl h2))))))
theorem QuZ (p : Pc) (f : Fl) (day : Int) (b0 : Bool) (l q r : List Dt) (a : Dt) (hql : q ++ a :: r = l) (hl : l.length ≤ 100) (ji jj : CV) (S : List Sg) (hS : S.length ≤ 90000) (R : CV) :
  ∀ (s u : List Dt), u ++ s = a :: r → Evt fun n => ∀ j k, s.length < j →
   r07_Segs_L1 lb n k p.an (p.aps.map apcv) p.dn (p.dis.map dicv) f.car f.num f.fr f.to f.days f.ln (f.legs.map lgcv) day (.list b0 (l.map dtcv)) ji jj (S ++ (a :: r).map (segF a)).isEmpty ((S ++ (a :: r).map (segF a)).map sgcv) (IntKind.wrap .i64 ((q.length : Int) + 1)) = some R →
   QfI lb n j k p.an (p.aps.map apcv) p.dn (p.dis.map dicv) f.car f.num f.fr f.to f.days f.ln (f.legs.map lgcv) day (.list b0 (l.map dtcv)) ji (q.length : Int) jj (S ++ u.map (segF a)).isEmpty ((S ++ u.map (segF a)).map sgcv) ((q.length + u.length : Nat) : Int) = some R := by
 have hll : l.length = q.length + (r.length + 1) := by rw [← hql]; simp
 intro s
 induction s with
 | nil =>
  intro u hu
  have hu : u = a :: r := by simpa using hu
  subst hu
  refine .all fun n j k hj hR => ?_
  obtain ⟨j, rfl⟩ : ∃ m, j = m + 1 := ⟨j - 1, by simp at hj; omega⟩
  rw [Qgy]
  refine stO _ rfl (stF (decF (by simp; omega)) ?_)
  rw [Qnm]
  exact hR
 | cons b s ih =>
  intro u hu
  have hul : r.length + 1 = u.length + (s.length + 1) := by have := congrArg List.length hu; simp at this; omega
  refine Evt.imp2 (ih (u ++ [b]) (by rw [← hu]; simp)) (Qqu lb b0 l q.length (q.length + u.length) a b (by rw [← hql]; simp) (by rw [← hql, ← hu]; simp)) fun n hi h2 j k hj hR => ?_
  obtain ⟨j, rfl⟩ : ∃ m, j = m + 1 := ⟨j - 1, by simp at hj; omega⟩
  have hi := hi j k (by simp at hj; omega) hR
  rw [Qgy]
  refine stO _ rfl (stT (decT (by simp only [List.length_map]; omega)) (stO _ h2 (stO _ rfl (stC rfl (stO _ rfl (stO _ rfl (stO _ rfl (stO _ rfl (stO _ rfl (stO _ rfl (stO _ rfl (stC (Qo5 (by simp; omega)) ?_))))))))))))
  rw [QaF (by omega) (by omega), show ((q.length + u.length : Nat) : Int) + 1 = ((q.length + (u ++ [b]).length : Nat) : Int) by simp; omega, Qbv (S ++ u.map (segF a)) (segF a b)]
  simpa [List.map_append, List.append_assoc, sgcv] using hi
theorem QsA (p : Pc) (f : Fl) (day : Int) (l : List Dt) (hl : l.length ≤ 100) (b0 : Bool) (ji jj : CV) :
  Evt fun n => r07_Segs_L1 lb n n p.an (p.aps.map apcv) p.dn (p.dis.map dicv) f.car f.num f.fr f.to f.days f.ln (f.legs.map lgcv) day (.list b0 (l.map dtcv)) ji jj true [] 0 = some (.tup [.list (QaS l).isEmpty ((QaS l).map sgcv), ji]) := by
 have key := QcD (enc := dtcv) (l := l) (by omega) (P := fun q t n k => ∀ S : List Sg, S ++ QaS t = QaS l → r07_Segs_L1 lb n k p.an (p.aps.map apcv) p.dn (p.dis.map dicv) f.car f.num f.fr f.to f.days f.ln (f.legs.map lgcv) day (.list b0 (l.map dtcv)) ji jj S.isEmpty (S.map sgcv) (q.length : Int) =
   some (.tup [.list (QaS l).isEmpty ((QaS l).map sgcv), ji])) (by
  refine .all fun n k S hS => ?_
  have hS : S = QaS l := by simpa [QaS] using hS
  subst hS
  rw [QgB]
  refine stO _ rfl (stF (decF (by simp)) ?_)
  rw [Qm6]) (by
  intro q a r hq hlt hat hw hev
  have hll : l.length = q.length + (r.length + 1) := by rw [← hq]; simp
  have fin : ∀ S : List Sg, S ++ QaS (a :: r) = QaS l → S.length ≤ 90000 := by
   intro S hS
   have h1 := congrArg List.length hS
   have h2 := Qhp l
   have h3 : l.length * l.length ≤ 100 * 100 := Nat.mul_le_mul hl hl
   rw [List.length_append] at h1
   omega
  have one : ∃ S : List Sg, S ++ QaS (a :: r) = QaS l := by
   have : ∀ (q : List Dt) (l : List Dt), q ++ a :: r = l → ∃ S : List Sg, S ++ QaS (a :: r) = QaS l := by
    intro q
    induction q with
    | nil => intro l h; exact ⟨[], by rw [← h]; rfl⟩
    | cons y q ih =>
     intro l h
     obtain ⟨S, hS⟩ := ih (q ++ a :: r) rfl
     exact ⟨(y :: (q ++ a :: r)).map (segF y) ++ S, by rw [← h, List.cons_append, List.append_assoc, hS]; rfl⟩
   exact this q l hq
  obtain ⟨S0, hS0⟩ := one
  refine Evt.imp2 (hev.and (Evt.ge (l.length + 1))) (QuZ lb p f day b0 l q r a hq hl ji jj S0 (fin S0 hS0) (.tup [.list (QaS l).isEmpty ((QaS l).map sgcv), ji]) (a :: r) [] rfl) fun n hn hi k hk S hS => ?_
  obtain ⟨hn, hge⟩ := hn
  obtain rfl : S = S0 := by
   have := hS.trans hS0.symm
   exact List.append_cancel_right this
  have hn := hn k hk (S ++ (a :: r).map (segF a)) (by rw [← hS]; simp [QaS])
  rw [QgB]
  refine stO _ rfl (stT (decT hlt) ?_)
  have := hi n k (by simp; omega) (by rw [hw]; exact hn)
  simpa using this) l [] rfl
 refine (Evt.diag key).mono fun n hn => ?_
 simpa using hn [] rfl
theorem Qpm (p : Pc) (hp : QbP p) (f : Fl) (hl : f.legs.length ≤ 100) (day : Int) : Ret lb Qap [pcv p, flcv f, .int .i64 day] (Qkk p f day) := by
 unfold Qkk
 cases hh : hasF f.fr f.to f.days day with
 | false =>
  refine .top rfl (Evt.imp2 (QjV lb p hp f (by omega) day) (QsA lb p f day [] (by simp) true (.int .i64 12) (.tup [.list true [], .int .i64 12])) fun n h1 h2 => ?_)
  rw [hh] at h1
  rw [QkX]
  exact stO _ h1 (stO _ rfl (stO _ rfl (stO _ rfl (stO _ rfl h2))))
 | true =>
  refine .top rfl (Evt.imp2 (QjV lb p hp f (by omega) day) (QsA lb p f day (Qbp p f day) (by rw [QjS]; exact hl) f.legs.isEmpty (.int .i64 0) (.tup [.list f.legs.isEmpty ((Qbp p f day).map dtcv), .int .i64 0])) fun n h1 h2 => ?_)
  rw [hh] at h1
  rw [QkX]
  exact stO _ h1 (stO _ rfl (stO _ rfl (stO _ rfl (stO _ rfl h2))))
end Go.Proofs
set_option linter.unusedSimpArgs false
set_option linter.unusedVariables false
namespace Go.Proofs
open Go.Am
variable (lb : Nat)
def onB (car : Bs) (num day : Int) (f : Fl) : Bool := (f.car == car) && ((f.num == num) && hasF f.fr f.to f.days day)
def QdO (car : Bs) (num day : Int) : List Fl → Option Fl
 | [] => none
 | f :: t => if onB car num day f then some f else QdO car num day t
def fl0 : Fl := ⟨[], 0, 0, 0, 0, true, []⟩
def onV (o : Option Fl) : CV := .tup [.agg (flE (o.getD fl0)), .bool o.isSome]
theorem Qjk {car : Bs} {num day : Int} : ∀ {l : List Fl} {f : Fl}, QdO car num day l = some f → f ∈ l ∧ onB car num day f = true
 | [], f, h => by simp [QdO] at h
 | x :: t, f, h => by
  unfold QdO at h
  split at h
  ·rename_i hx; simp at h; subst h; exact ⟨by simp, hx⟩
  ·obtain ⟨a, b⟩ := Qjk h
   exact ⟨by simp [a], b⟩
theorem Qsr (bn : Bool) (l : List Fl) (car : Bs) (num day : Int) (hll : l.length ≤ 1000000) : ∀ (t u : List Fl), u ++ t = l → Evt fun n => ∀ k, t.length < k →
  r08_On_L1 lb n k bn (l.map flE) car num day (u.length : Int) = some (onV (QdO car num day t))
 | [], u, h => by
  refine .all fun n k hk => ?_
  obtain ⟨k, rfl⟩ : ∃ m, k = m + 1 := ⟨k - 1, by simp at hk; omega⟩
  have hu : u = l := by simpa using h
  rw [Qid, hu]
  refine stF (decF (by simp)) ?_
  rw [QoP]
  rfl
 | f :: t, u, h => by
  have hlen : l.length = u.length + (t.length + 1) := by rw [← h]; simp
  have hw1 : IntKind.wrap .i64 ((u.length : Int) + 1) = ((u ++ [f]).length : Int) := by rw [QaF (by omega) (by omega)]; simp
  refine Evt.imp2 (QfD lb f.fr f.to f.days day) (Qsr bn l car num day hll t (u ++ [f]) (by rw [← h]; simp)) fun n hm hi k hk => ?_
  obtain ⟨k, rfl⟩ : ∃ m, k = m + 1 := ⟨k - 1, by simp at hk; omega⟩
  have hi := hi k (by simp at hk; omega)
  have at_ := QaO (QjF h)
  unfold QdO onB
  rw [Qid, hw1]
  refine stT (decT (by simp; omega)) (stO _ at_ (stC rfl (stO _ rfl (stO _ rfl ?_))))
  cases h1 : f.car == car with
  | false => exact stF rfl (by simpa using hi)
  | true =>
   refine stT rfl (stO _ at_ (stC rfl (stO _ rfl (stO _ (QaD ..) ?_))))
   cases h2 : f.num == num with
   | false => exact stF rfl (by simpa using hi)
   | true =>
    refine stT rfl (stO _ at_ (stC rfl (stO _ rfl (stO _ rfl (stO _ rfl (stO _ hm (stO _ (QaI _) ?_)))))))
    cases h3 : hasF f.fr f.to f.days day with
    | false => exact stF rfl (by simpa using hi)
    | true => exact stT rfl (stO _ at_ (stC rfl (stO _ rfl (stO _ rfl (stO _ rfl (stO _ rfl (stO _ rfl (stO _ rfl rfl))))))))
theorem Qq4 (bn : Bool) (l : List Fl) (car : Bs) (num day : Int) (hll : l.length ≤ 1000000) : Ret lb Qcn [.list bn (l.map flE), .str car, .int .i64 num, .int .i64 day] (onV (QdO car num day l)) :=
 .top rfl ((Evt.diag (Qsr lb bn l car num day hll l [] rfl)).mono fun n h => by rw [Qsz]; exact h)
theorem Qr7 (bn : Bool) (l : List Fl) (car : Bs) (num day : Int) (hll : l.length ≤ 1000000) : ∀ (t u : List Fl), u ++ t = l → Evt fun n => ∀ k, t.length < k →
  schedule_On_L1 lb n k bn (l.map flE) car num day (u.length : Int) = some (onV (QdO car num day t))
 | [], u, h => by
  refine .all fun n k hk => ?_
  obtain ⟨k, rfl⟩ : ∃ m, k = m + 1 := ⟨k - 1, by simp at hk; omega⟩
  have hu : u = l := by simpa using h
  rw [Qe0, hu]
  refine stF (decF (by simp)) ?_
  rw [Qkw]
  rfl
 | f :: t, u, h => by
  have hlen : l.length = u.length + (t.length + 1) := by rw [← h]; simp
  have hw1 : IntKind.wrap .i64 ((u.length : Int) + 1) = ((u ++ [f]).length : Int) := by rw [QaF (by omega) (by omega)]; simp
  refine Evt.imp2 (Qh5 lb f.fr f.to f.days day) (Qr7 bn l car num day hll t (u ++ [f]) (by rw [← h]; simp)) fun n hm hi k hk => ?_
  obtain ⟨k, rfl⟩ : ∃ m, k = m + 1 := ⟨k - 1, by simp at hk; omega⟩
  have hi := hi k (by simp at hk; omega)
  have at_ := QaO (QjF h)
  unfold QdO onB
  rw [Qe0, hw1]
  refine stT (decT (by simp; omega)) (stO _ at_ (stC rfl (stO _ rfl (stO _ rfl (stO _ rfl (stO _ rfl (stO _ rfl (stO _ rfl (stO _ rfl ?_)))))))))
  cases h1 : f.car == car with
  | false => exact stF rfl (by simpa using hi)
  | true =>
   refine stT rfl (stO _ (QaD ..) ?_)
   cases h2 : f.num == num with
   | false => exact stF rfl (by simpa using hi)
   | true =>
    refine stT rfl (stO _ hm (stO _ (QaI _) ?_))
    cases h3 : hasF f.fr f.to f.days day with
    | false => exact stF rfl (by simpa using hi)
    | true => exact stT rfl rfl
theorem Qmz (bn : Bool) (l : List Fl) (car : Bs) (num day : Int) (hll : l.length ≤ 1000000) : Ret lb QaJ [.list bn (l.map flE), .str car, .int .i64 num, .int .i64 day] (onV (QdO car num day l)) :=
 .top rfl ((Evt.diag (Qr7 lb bn l car num day hll l [] rfl)).mono fun n h => by rw [QmV]; exact h)
def sg0 : Sg := ⟨[], 0, 0, [], [], 0, 0⟩
def Qkl (fro tq : Bs) : List Sg → Option Sg
 | [] => none
 | s :: t => if s.fro == fro && s.to == tq then some s else Qkl fro tq t
def segO (p : Pc) (l : List Fl) (car : Bs) (num day : Int) (fro tq : Bs) : Sg × Int := match QdO car num day l with
 | none => (sg0, 7)
 | some f => match Qkl fro tq (QaS (Qbp p f day)) with
  | none => (sg0, 14)
  | some s => (s, 0)
def segV (x : Sg × Int) : CV := .tup [.agg (sgcv x.1), .int .i64 x.2]
def segS (o : Option Sg) : Sg × Int := match o with
 | none => (sg0, 14)
 | some s => (s, 0)
theorem QlT {l u t : List Sg} {s : Sg} (h : u ++ s :: t = l) : (l.map sgcv)[u.length]? = some (sgcv s) := by rw [← h]; simp
theorem Qqy (n : Nat) (p : Pc) (bn : Bool) (L : List (List CV)) (car : Bs) (num day : Int) (fro tq : Bs) (S : List Sg) (b : Bool) (jA jt jS jz j7 ju jy jk j5 jF jx : CV) (hS : S.length ≤ 1000000) : ∀ (t u : List Sg) (k : Nat), u ++ t = S → t.length < k →
  QeK lb n k p.an (p.aps.map apcv) p.dn (p.dis.map dicv) bn L car num day fro tq jA (.list b (S.map sgcv)) jt jS jz j7 ju jy jk j5 jF jx (u.length : Int) = some (segV (segS (Qkl fro tq t)))
 | [], u, k, h, hk => by
  obtain ⟨k, rfl⟩ : ∃ m, k = m + 1 := ⟨k - 1, by simp at hk; omega⟩
  have hu : u = S := by simpa using h
  rw [Qhn, hu]
  refine stO _ rfl (stF (decF (by simp)) ?_)
  rw [Qol]
  rfl
 | s :: t, u, k, h, hk => by
  obtain ⟨k, rfl⟩ : ∃ m, k = m + 1 := ⟨k - 1, by simp at hk; omega⟩
  have hlen : S.length = u.length + (t.length + 1) := by rw [← h]; simp
  have hw1 : IntKind.wrap .i64 ((u.length : Int) + 1) = ((u ++ [s]).length : Int) := by rw [QaF (by omega) (by omega)]; simp
  have hi := Qqy n p bn L car num day fro tq S b jA jt jS jz j7 ju jy jk j5 jF jx hS t (u ++ [s]) k (by rw [← h]; simp) (by simp at hk; omega)
  have at_ := QaO (QlT h)
  rw [Qhn, hw1]
  unfold Qkl
  refine stO _ rfl (stT (decT (by simp; omega)) (stO _ rfl (stO _ at_ (stC rfl (stO _ rfl (stO _ rfl ?_))))))
  cases h1 : s.fro == fro with
  | false => exact stF rfl (by simpa using hi)
  | true =>
   refine stT rfl (stO _ rfl (stO _ at_ (stC rfl (stO _ rfl (stO _ rfl ?_)))))
   cases h2 : s.to == tq with
   | false => exact stF rfl (by simpa using hi)
   | true => exact stT rfl (stO _ rfl (stO _ at_ (stC rfl (stO _ rfl (stO _ rfl (stO _ rfl (stO _ rfl (stO _ rfl (stO _ rfl (stO _ rfl rfl))))))))))
theorem QqK (n : Nat) (p : Pc) (bn : Bool) (L : List (List CV)) (car : Bs) (num day : Int) (fro tq : Bs) (S : List Sg) (b : Bool) (jA jt jS jz j7 ju jy jk j5 jF jx : CV) (hS : S.length ≤ 1000000) : ∀ (t u : List Sg) (k : Nat), u ++ t = S → t.length < k →
  QcH lb n k p.an (p.aps.map apcv) p.dn (p.dis.map dicv) bn L car num day fro tq jA (.list b (S.map sgcv)) jt jS jz j7 ju jy jk j5 jF jx (b, S.map sgcv) (u.length : Int) = some (segV (segS (Qkl fro tq t)))
 | [], u, k, h, hk => by
  obtain ⟨k, rfl⟩ : ∃ m, k = m + 1 := ⟨k - 1, by simp at hk; omega⟩
  have hu : u = S := by simpa using h
  rw [QeI, hu]
  refine stF (decF (by simp)) ?_
  rw [Qj8]
  rfl
 | s :: t, u, k, h, hk => by
  obtain ⟨k, rfl⟩ : ∃ m, k = m + 1 := ⟨k - 1, by simp at hk; omega⟩
  have hlen : S.length = u.length + (t.length + 1) := by rw [← h]; simp
  have hw1 : IntKind.wrap .i64 ((u.length : Int) + 1) = ((u ++ [s]).length : Int) := by rw [QaF (by omega) (by omega)]; simp
  have hi := QqK n p bn L car num day fro tq S b jA jt jS jz j7 ju jy jk j5 jF jx hS t (u ++ [s]) k (by rw [← h]; simp) (by simp at hk; omega)
  have at_ := QaO (QlT h)
  rw [QeI, hw1]
  unfold Qkl
  refine stT (decT (by simp; omega)) (stO _ rfl (stO _ at_ (stC rfl (stO _ rfl (stO _ rfl (stO _ rfl (stO _ rfl (stO _ rfl (stO _ rfl (stO _ rfl (stO _ rfl ?_)))))))))))
  cases h1 : s.fro == fro with
  | false => exact stF rfl (by simpa using hi)
  | true =>
   refine stT rfl (stO _ rfl ?_)
   cases h2 : s.to == tq with
   | false => exact stF rfl (by simpa using hi)
   | true => exact stT rfl rfl
theorem Qmj (p : Pc) (f : Fl) (hl : f.legs.length ≤ 100) (day : Int) : (QaS (Qbp p f day)).length ≤ 1000000 := by
 have h := Qhp (Qbp p f day)
 rw [QjS] at h
 have : f.legs.length * f.legs.length ≤ 100 * 100 := Nat.mul_le_mul hl hl
 omega
theorem Qp0 (p : Pc) (hp : QbP p) (bn : Bool) (l : List Fl) (hl : ∀ f ∈ l, OkF f) (hll : l.length ≤ 1000000) (car : Bs) (num day : Int) (fro tq : Bs) :
  Ret lb Qb4 [pcv p, .list bn (l.map flE), .str car, .int .i64 num, .int .i64 day, .str fro, .str tq] (segV (segO p l car num day fro tq)) := by
 have a1 := Qq4 lb bn l car num day hll
 unfold segO
 cases hf : QdO car num day l with
 | none =>
  rw [hf] at a1
  refine .top rfl (a1.mono fun n h1 => ?_)
  rw [Qms]
  exact stO _ h1 (stO _ rfl (stO _ rfl (stO _ rfl (stO _ rfl (stO _ rfl (stC rfl (stO _ rfl (stO _ rfl (stO _ rfl (stO _ rfl (stO _ rfl (stO _ rfl (stO _ rfl (stT rfl rfl))))))))))))))
 | some f =>
  rw [hf] at a1
  obtain ⟨m1, m2⟩ := Qjk hf
  have hh : hasF f.fr f.to f.days day = true := by unfold onB at m2; simp only [Bool.and_eq_true] at m2; exact m2.2.2
  have a2 := Qpm lb p hp f (hl f m1).len day
  unfold Qkk at a2
  rw [hh, if_pos rfl] at a2
  have hsm := Qmj p f (hl f m1).len day
  refine .top rfl (Evt.imp2 a1 (a2.and (Evt.ge 1000002)) fun n h1 ⟨h2, h3⟩ => ?_)
  rw [Qms]
  refine stO _ h1 (stO _ rfl (stO _ rfl (stO _ rfl (stO _ rfl (stO _ rfl (stC rfl (stO _ rfl (stO _ rfl (stO _ rfl (stO _ rfl (stO _ rfl (stO _ rfl (stO _ rfl (stF rfl (stO _ h2 (stO _ rfl (stO _ rfl (stO _ rfl (stO _ rfl ?_)))))))))))))))))))
  exact Qqy lb n p bn (l.map flE) car num day fro tq (QaS (Qbp p f day)) _ _ _ _ _ _ _ _ _ _ _ _ hsm (QaS (Qbp p f day)) [] n rfl (by omega)
theorem Qlu (p : Pc) (hp : QbP p) (bn : Bool) (l : List Fl) (hl : ∀ f ∈ l, OkF f) (hll : l.length ≤ 1000000) (car : Bs) (num day : Int) (fro tq : Bs) :
  Ret lb QaH [pcv p, .list bn (l.map flE), .str car, .int .i64 num, .int .i64 day, .str fro, .str tq] (segV (segO p l car num day fro tq)) := by
 have a1 := Qmz lb bn l car num day hll
 unfold segO
 cases hf : QdO car num day l with
 | none =>
  rw [hf] at a1
  refine .top rfl (a1.mono fun n h1 => ?_)
  rw [Qhf]
  exact stO _ h1 (stO _ rfl (stO _ rfl (stO _ rfl (stO _ rfl (stO _ rfl (stC rfl (stO _ rfl (stO _ rfl (stO _ rfl (stO _ rfl (stO _ rfl (stO _ rfl (stO _ rfl (stT rfl rfl))))))))))))))
 | some f =>
  rw [hf] at a1
  obtain ⟨m1, m2⟩ := Qjk hf
  have hh : hasF f.fr f.to f.days day = true := by unfold onB at m2; simp only [Bool.and_eq_true] at m2; exact m2.2.2
  have a2 := Qmu lb p hp f (hl f m1).len day
  unfold Qkk at a2
  rw [hh, if_pos rfl] at a2
  have hsm := Qmj p f (hl f m1).len day
  refine .top rfl (Evt.imp2 a1 (a2.and (Evt.ge 1000002)) fun n h1 ⟨h2, h3⟩ => ?_)
  rw [Qhf]
  refine stO _ h1 (stO _ rfl (stO _ rfl (stO _ rfl (stO _ rfl (stO _ rfl (stC rfl (stO _ rfl (stO _ rfl (stO _ rfl (stO _ rfl (stO _ rfl (stO _ rfl (stO _ rfl (stF rfl (stO _ h2 (stO _ rfl (stO _ rfl (stO _ rfl (stO _ rfl (stO _ rfl ?_))))))))))))))))))))
  exact QqK lb n p bn (l.map flE) car num day fro tq (QaS (Qbp p f day)) _ _ _ _ _ _ _ _ _ _ _ _ hsm (QaS (Qbp p f day)) [] n rfl (by omega)
abbrev GM := List Int × List Int
def QeE (p : Pc) (l : List Fl) (x : GM) (i : Int) (s : Sg) : GM :=
 if (segO p l s.car s.num s.day s.fro s.to).2 ≠ 0 then (x.1 ++ [i], x.2)
 else if (segO p l s.car s.num s.day s.fro s.to).1.dep ≠ s.dep then (x.1, x.2 ++ [i])
 else if (segO p l s.car s.num s.day s.fro s.to).1.arr ≠ s.arr then (x.1, x.2 ++ [i]) else x
def Qde (p : Pc) (l : List Fl) : GM → Nat → List Sg → GM
 | x, _, [] => x
 | x, i, s :: t => Qde p l (QeE p l x (i : Int) s) (i + 1) t
def gmV (x : GM) : CV := .tup [.list x.1.isEmpty (dcv x.1), .list x.2.isEmpty (dcv x.2)]
theorem QjR (p : Pc) (l : List Fl) (x : GM) (i : Int) (s : Sg) : (QeE p l x i s).1.length ≤ x.1.length + 1 ∧ (QeE p l x i s).2.length ≤ x.2.length + 1 := by
 unfold QeE
 split
 ·simp
 ·split
  ·simp
  ·split <;> simp
theorem Qfn (l : List Int) (x : Int) : dcv (l ++ [x]) = dcv l ++ [[CV.int .i64 x]] := by simp [dcv]
theorem Qtj (p : Pc) (hp : QbP p) (bn : Bool) (l : List Fl) (hl : ∀ f ∈ l, OkF f) (hll : l.length ≤ 1000000) (cn : Bool) (S : List Sg) (hS : S.length ≤ 20) : ∀ (t u : List Sg) (x : GM), u ++ t = S → x.1.length ≤ u.length → x.2.length ≤ u.length → Evt fun n => ∀ k, t.length < k →
  Qbh lb n k p.an (p.aps.map apcv) p.dn (p.dis.map dicv) bn (l.map flE) cn (S.map sgcv) x.1.isEmpty (dcv x.1) x.2.isEmpty (dcv x.2) (u.length : Int) = some (gmV (Qde p l x u.length t))
 | [], u, x, h, hx1, hx2 => by
  refine .all fun n k hk => ?_
  obtain ⟨k, rfl⟩ : ∃ m, k = m + 1 := ⟨k - 1, by simp at hk; omega⟩
  have hu : u = S := by simpa using h
  rw [QdC, hu]
  refine stF (decF (by simp)) ?_
  rw [QhA]
  rfl
 | s :: t, u, x, h, hx1, hx2 => by
  have hlen : S.length = u.length + (t.length + 1) := by rw [← h]; simp
  have hw1 : IntKind.wrap .i64 ((u.length : Int) + 1) = ((u ++ [s]).length : Int) := by rw [QaF (by omega) (by omega)]; simp
  have e1 : (u ++ [s]).length = u.length + 1 := by simp
  obtain ⟨s1, s2⟩ := QjR p l x (u.length : Int) s
  have d1 : (dcv x.1).length = x.1.length := by simp [dcv]
  have d2 : (dcv x.2).length = x.2.length := by simp [dcv]
  refine Evt.imp2 (Qlu lb p hp bn l hl hll s.car s.num s.day s.fro s.to) (Qtj p hp bn l hl hll cn S hS t (u ++ [s]) (QeE p l x (u.length : Int) s) (by rw [← h]; simp) (by omega) (by omega)) fun n hm hi k hk => ?_
  obtain ⟨k, rfl⟩ : ∃ m, k = m + 1 := ⟨k - 1, by simp at hk; omega⟩
  have hi := hi k (by simp at hk; omega)
  rw [e1] at hi hw1
  show _ = some (gmV (Qde p l (QeE p l x (u.length : Int) s) (u.length + 1) t))
  rw [QdC, hw1]
  unfold QeE at hi ⊢
  generalize segO p l s.car s.num s.day s.fro s.to = z at hm hi ⊢
  refine stT (decT (by simp; omega)) (stO _ (QaO (QlT h)) (stC rfl (stO _ rfl (stO _ rfl (stO _ rfl (stO _ rfl (stO _ rfl (stO _ rfl (stO _ rfl (stO _ hm (stO _ rfl (stO _ rfl (stO _ rfl (stO _ rfl (stO _ rfl (stC rfl (stO _ rfl (stO _ rfl (stO _ rfl (stO _ rfl (stO _ rfl (stO _ rfl (stO _ rfl (stO _ (QaD ..) ?_))))))))))))))))))))))))
  by_cases h1 : z.2 = 0
  ·rw [if_neg (by simpa using h1)] at hi ⊢
   refine stF (bneF h1) (stO _ (QaD ..) (stO _ (QaD ..) ?_))
   by_cases h2 : z.1.dep = s.dep
   ·rw [if_neg (by simpa using h2)] at hi ⊢
    refine stF (bneF h2) (stO _ (QaD ..) (stO _ (QaD ..) ?_))
    by_cases h3 : z.1.arr = s.arr
    ·rw [if_neg (by simpa using h3)] at hi ⊢
     exact stF (bneF h3) hi
    ·rw [if_pos h3] at hi ⊢
     simp only [Qfn] at hi
     rw [← Qbv x.2 (u.length : Int) x.2.isEmpty] at hi
     exact stT (bneT h3) (stC (QbN (by omega) (by omega)) hi)
   ·rw [if_pos h2] at hi ⊢
    simp only [Qfn] at hi
    rw [← Qbv x.2 (u.length : Int) x.2.isEmpty] at hi
    exact stT (bneT h2) (stC (QbN (by omega) (by omega)) hi)
  ·rw [if_pos h1] at hi ⊢
   simp only [Qfn] at hi
   rw [← Qbv x.1 (u.length : Int) x.1.isEmpty] at hi
   exact stT (bneT h1) (stC (QbN (by omega) (by omega)) hi)
theorem Qtn (p : Pc) (hp : QbP p) (bn : Bool) (l : List Fl) (hl : ∀ f ∈ l, OkF f) (hll : l.length ≤ 1000000) (cn : Bool) (S : List Sg) (hS : S.length ≤ 20) : ∀ (t u : List Sg) (x : GM), u ++ t = S → x.1.length ≤ u.length → x.2.length ≤ u.length → Evt fun n => ∀ k, t.length < k →
  Qb7 lb n k p.an (p.aps.map apcv) p.dn (p.dis.map dicv) bn (l.map flE) cn (S.map sgcv) x.1.isEmpty (dcv x.1) x.2.isEmpty (dcv x.2) (u.length : Int) = some (gmV (Qde p l x u.length t))
 | [], u, x, h, hx1, hx2 => by
  refine .all fun n k hk => ?_
  obtain ⟨k, rfl⟩ : ∃ m, k = m + 1 := ⟨k - 1, by simp at hk; omega⟩
  have hu : u = S := by simpa using h
  rw [Qe3, hu]
  refine stF (decF (by simp)) ?_
  rw [Qku]
  rfl
 | s :: t, u, x, h, hx1, hx2 => by
  have hlen : S.length = u.length + (t.length + 1) := by rw [← h]; simp
  have hw1 : IntKind.wrap .i64 ((u.length : Int) + 1) = ((u ++ [s]).length : Int) := by rw [QaF (by omega) (by omega)]; simp
  have e1 : (u ++ [s]).length = u.length + 1 := by simp
  obtain ⟨s1, s2⟩ := QjR p l x (u.length : Int) s
  have d1 : (dcv x.1).length = x.1.length := by simp [dcv]
  have d2 : (dcv x.2).length = x.2.length := by simp [dcv]
  refine Evt.imp2 (Qp0 lb p hp bn l hl hll s.car s.num s.day s.fro s.to) (Qtn p hp bn l hl hll cn S hS t (u ++ [s]) (QeE p l x (u.length : Int) s) (by rw [← h]; simp) (by omega) (by omega)) fun n hm hi k hk => ?_
  obtain ⟨k, rfl⟩ : ∃ m, k = m + 1 := ⟨k - 1, by simp at hk; omega⟩
  have hi := hi k (by simp at hk; omega)
  rw [e1] at hi hw1
  show _ = some (gmV (Qde p l (QeE p l x (u.length : Int) s) (u.length + 1) t))
  rw [Qe3, hw1]
  unfold QeE at hi ⊢
  generalize segO p l s.car s.num s.day s.fro s.to = z at hm hi ⊢
  refine stT (decT (by simp; omega)) (stO _ (QaO (QlT h)) (stC rfl (stO _ rfl (stO _ rfl (stO _ rfl (stO _ rfl (stO _ rfl (stO _ rfl (stO _ rfl (stO _ hm (stO _ rfl (stO _ rfl (stO _ rfl (stO _ rfl (stO _ rfl (stC rfl (stO _ rfl (stO _ rfl (stO _ rfl (stO _ rfl (stO _ rfl (stO _ rfl (stO _ rfl (stO _ (QaD ..) ?_))))))))))))))))))))))))
  by_cases h1 : z.2 = 0
  ·rw [if_neg (by simpa using h1)] at hi ⊢
   refine stF (bneF h1) (stO _ (QaD ..) (stO _ (QaD ..) ?_))
   by_cases h2 : z.1.dep = s.dep
   ·rw [if_neg (by simpa using h2)] at hi ⊢
    refine stF (bneF h2) (stO _ (QaD ..) (stO _ (QaD ..) ?_))
    by_cases h3 : z.1.arr = s.arr
    ·rw [if_neg (by simpa using h3)] at hi ⊢
     exact stF (bneF h3) hi
    ·rw [if_pos h3] at hi ⊢
     simp only [Qfn] at hi
     rw [← Qbv x.2 (u.length : Int) x.2.isEmpty] at hi
     exact stT (bneT h3) (stC (QbN (by omega) (by omega)) hi)
   ·rw [if_pos h2] at hi ⊢
    simp only [Qfn] at hi
    rw [← Qbv x.2 (u.length : Int) x.2.isEmpty] at hi
    exact stT (bneT h2) (stC (QbN (by omega) (by omega)) hi)
  ·rw [if_pos h1] at hi ⊢
   simp only [Qfn] at hi
   rw [← Qbv x.1 (u.length : Int) x.1.isEmpty] at hi
   exact stT (bneT h1) (stC (QbN (by omega) (by omega)) hi)
theorem Ql2 (p : Pc) (l : List Fl) : ∀ (t : List Sg) (x : GM) (i : Nat), (Qde p l x i t).1.length ≤ x.1.length + t.length ∧ (Qde p l x i t).2.length ≤ x.2.length + t.length
 | [], x, i => by simp [Qde]
 | s :: t, x, i => by
  obtain ⟨a, b⟩ := Ql2 p l t (QeE p l x (i : Int) s) (i + 1)
  obtain ⟨c, d⟩ := QjR p l x (i : Int) s
  simp only [Qde, List.length_cons]
  omega
theorem Qtt (p : Pc) (bn cn : Bool) (L S : List (List CV)) (G M : List Int) (gb mb : Bool) (yg : Int) (jj wa : CV) (hM : M.length ≤ 1000) : ∀ (t u : List Int), u ++ t = M → Evt fun n => ∀ k, t.length < k →
  Qca lb n k p.an (p.aps.map apcv) p.dn (p.dis.map dicv) bn L cn S (.list gb (dcv G)) (.list mb (dcv M)) (.list gb (dcv G)) (.list mb (dcv M)) yg jj wa (u.length : Int) = some (.bool true)
 | [], u, h => by
  refine (Ql0 lb).mono fun n aw k hk => ?_
  obtain ⟨k, rfl⟩ : ∃ m, k = m + 1 := ⟨k - 1, by simp at hk; omega⟩
  have hu : u = M := by simpa using h
  rw [Qc3, hu]
  refine stO _ rfl (stF (decF (by simp [dcv])) ?_)
  rw [Qgg]
  exact stO _ aw rfl
 | x :: t, u, h => by
  have hlen : M.length = u.length + (t.length + 1) := by rw [← h]; simp
  have hw1 : IntKind.wrap .i64 ((u.length : Int) + 1) = ((u ++ [x]).length : Int) := by rw [QaF (by omega) (by omega)]; simp
  refine (Qtt p bn cn L S G M gb mb yg jj wa hM t (u ++ [x]) (by rw [← h]; simp)).mono fun n hi k hk => ?_
  obtain ⟨k, rfl⟩ : ∃ m, k = m + 1 := ⟨k - 1, by simp at hk; omega⟩
  have hi := hi k (by simp at hk; omega)
  have at_ := QaO (Qfd h)
  rw [Qc3, hw1]
  exact stO _ rfl (stT (decT (by simp [dcv]; omega)) (stO _ rfl (stO _ at_ (stC rfl (stO _ rfl (stO _ rfl (stO _ at_ (stC rfl (stO _ rfl (stO _ (QaD ..) (stO _ (QaD ..) (stF (bneF rfl) hi))))))))))))
theorem QtD (p : Pc) (bn cn : Bool) (L S : List (List CV)) (G M : List Int) (gb mb : Bool) (jj wa : CV) (hG : G.length ≤ 1000) (hM : M.length ≤ 1000) : ∀ (t u : List Int), u ++ t = G → Evt fun n => ∀ k, t.length < k →
  Qcb lb n k p.an (p.aps.map apcv) p.dn (p.dis.map dicv) bn L cn S (.list gb (dcv G)) (.list mb (dcv M)) (.list gb (dcv G)) (.list mb (dcv M)) jj wa (u.length : Int) = some (.bool true)
 | [], u, h => by
  refine (Evt.diag (Qtt lb p bn cn L S G M gb mb (G.length : Int) jj wa hM M [] rfl)).mono fun n aw k hk => ?_
  obtain ⟨k, rfl⟩ : ∃ m, k = m + 1 := ⟨k - 1, by simp at hk; omega⟩
  have hu : u = G := by simpa using h
  rw [Qc2, hu]
  refine stO _ rfl (stF (decF (by simp [dcv])) ?_)
  rw [Qgj]
  exact aw
 | x :: t, u, h => by
  have hlen : G.length = u.length + (t.length + 1) := by rw [← h]; simp
  have hw1 : IntKind.wrap .i64 ((u.length : Int) + 1) = ((u ++ [x]).length : Int) := by rw [QaF (by omega) (by omega)]; simp
  refine (QtD p bn cn L S G M gb mb jj wa hG hM t (u ++ [x]) (by rw [← h]; simp)).mono fun n hi k hk => ?_
  obtain ⟨k, rfl⟩ : ∃ m, k = m + 1 := ⟨k - 1, by simp at hk; omega⟩
  have hi := hi k (by simp at hk; omega)
  have at_ := QaO (Qfd h)
  rw [Qc2, hw1]
  exact stO _ rfl (stT (decT (by simp [dcv]; omega)) (stO _ rfl (stO _ at_ (stC rfl (stO _ rfl (stO _ rfl (stO _ at_ (stC rfl (stO _ rfl (stO _ (QaD ..) (stO _ (QaD ..) (stF (bneF rfl) hi))))))))))))
theorem Qj4 (p : Pc) (hp : ArgP p) (bn : Bool) (l : List Fl) (hl : ArgL l) (cn : Bool) (S : List Sg) : Ret lb Qao [pcv p, .list bn (l.map flE), .list cn (S.map sgcv)] (.bool true) := by
 have aw := Ql0 lb
 have rt := Qon lb p hp bn l hl
 cases hR : QjQ p l with
 | false =>
  refine .top rfl (Evt.imp2 rt aw fun n h1 h2 => ?_)
  rw [QcO]
  exact stO _ h1 (stO _ rfl (stT (by rw [hR]; rfl) (stO _ h2 rfl)))
 | true =>
  obtain ⟨r1, r2, r3, r4⟩ := Qs7 hl hR
  by_cases h5 : S.length > 20
  ·refine .top rfl (Evt.imp2 rt aw fun n h1 h2 => ?_)
   rw [QcO]
   exact stO _ h1 (stO _ rfl (stF (by rw [hR]; rfl) (stT (decT (by simp; omega)) (stO _ h2 rfl))))
  ·have t1 : Ret lb QaK [pcv p, .list bn (l.map flE), .list cn (S.map sgcv)] (gmV (Qde p l ([], []) 0 S)) :=
    .top rfl ((Evt.diag (Qtj lb p r1 bn l r2 (by omega) cn S (by omega) S [] ([], []) rfl (by simp) (by simp))).mono fun n h => by rw [Qja]; exact h)
   have t2 : Ret lb Qbc [pcv p, .list bn (l.map flE), .list cn (S.map sgcv)] (gmV (Qde p l ([], []) 0 S)) :=
    .top rfl ((Evt.diag (Qtn lb p r1 bn l r2 (by omega) cn S (by omega) S [] ([], []) rfl (by simp) (by simp))).mono fun n h => by rw [QmU]; exact h)
   obtain ⟨g1, g2⟩ := Ql2 p l S ([], []) 0
   simp only [List.length_nil] at g1 g2
   generalize Qde p l ([], []) 0 S = z at t1 t2 g1 g2
   have lo := Evt.diag (QtD lb p bn cn (l.map flE) (S.map sgcv) z.1 z.2 z.1.isEmpty z.2.isEmpty (gmV z) (gmV z) (by omega) (by omega) z.1 [] rfl)
   refine .top rfl (Evt.imp2 rt (Evt.and t1 (Evt.and t2 lo)) fun n h1 ⟨h2, h3, h4⟩ => ?_)
   rw [QcO]
   exact stO _ h1 (stO _ rfl (stF (by rw [hR]; rfl) (stF (decF (by simp; omega)) (stO _ h2 (stO _ rfl (stO _ rfl (stO _ rfl (stO _ rfl (stO _ h3 (stO _ rfl (stO _ rfl (stO _ rfl (stO _ rfl (stO _ rfl (stO _ rfl (stF (bneF rfl) (stO _ rfl (stO _ rfl (stF (bneF rfl) h4)))))))))))))))))))
end Go.Proofs
namespace Go.Proofs.YtdcpdknginpohaaGreatDoor
open Go.ChangeShapes Go.WideShapes Go.ChangeAt Go.RowKit Go.Am
set_option maxRecDepth 100000 in
theorem Quq {n : Nat} (x : List CV) (h : Ty Tryz.prog (n + 2) 106 x) : ∃ s : Sg, x = sgcv s ∧ True := by
 obtain ⟨p1, r1, rfl, h1, hr⟩ := Qaq (Ty.struct (ts := [9, 3, 3, 9, 9, 3, 3]) Tryz.underlying106 rfl h)
 obtain ⟨p2, r2, rfl, h2, hr⟩ := Qaq hr
 obtain ⟨p3, r3, rfl, h3, hr⟩ := Qaq hr
 obtain ⟨p4, r4, rfl, h4, hr⟩ := Qaq hr
 obtain ⟨p5, r5, rfl, h5, hr⟩ := Qaq hr
 obtain ⟨p6, r6, rfl, h6, hr⟩ := Qaq hr
 obtain ⟨p7, r7, rfl, h7, hr⟩ := Qaq hr
 obtain rfl := Qcu hr
 obtain ⟨a, rfl, _⟩ := Ty.str Tryz.underlying9 h1
 obtain ⟨b, rfl, _⟩ := Ty.int Tryz.underlying3 h2
 obtain ⟨c, rfl, _⟩ := Ty.int Tryz.underlying3 h3
 obtain ⟨d, rfl, _⟩ := Ty.str Tryz.underlying9 h4
 obtain ⟨e, rfl, _⟩ := Ty.str Tryz.underlying9 h5
 obtain ⟨f, rfl, _⟩ := Ty.int Tryz.underlying3 h6
 obtain ⟨g, rfl, _⟩ := Ty.int Tryz.underlying3 h7
 exact ⟨⟨a, b, c, d, e, f, g⟩, rfl, trivial⟩
set_option maxRecDepth 100000 in
theorem Qtb {c : CV} (h : ArgTy Tryz.prog 58 c) : ∃ (bn : Bool) (l : List Sg), c = .list bn (l.map sgcv) := by
 obtain ⟨bn, xs, rfl, _, l1, hxs⟩ := ArgTy.slice Tryz.underlying58 h
 obtain ⟨l, rfl, _⟩ := Qc5 (enc := sgcv) (fun x hx => Quq (n := 5) x hx) hxs
 exact ⟨bn, l, rfl⟩
end Go.Proofs.YtdcpdknginpohaaGreatDoor
