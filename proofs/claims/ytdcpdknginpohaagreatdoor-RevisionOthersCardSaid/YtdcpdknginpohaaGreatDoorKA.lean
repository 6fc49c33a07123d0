/- Chapter 7 on plain data: airports, zones, periods; finding an airport, the minute UTC of a local minute, the days of a period. Conditions: as each says. -/
import Derived.Test.YtdcpdknginpohaaGreatDoorGa
import Derived.Test.YtdcpdknginpohaaGreatDoorRA
set_option linter.unusedSimpArgs false
namespace Go.Proofs
open Go.Am
variable (lb : Nat)
theorem get4 {α : Type} (a b c d e : α) (l : List α) : (a :: b :: c :: d :: e :: l)[4]? = some e := rfl
theorem get5 {α : Type} (a b c d e f : α) (l : List α) : (a :: b :: c :: d :: e :: f :: l)[5]? = some f := rfl
theorem get6 {α : Type} (a b c d e f g : α) (l : List α) : (a :: b :: c :: d :: e :: f :: g :: l)[6]? = some g := rfl
abbrev W64 (x : Int) : Int := IntKind.wrap .i64 x
theorem QwC (x : Int) : -9223372036854775808 ≤ W64 x ∧ W64 x ≤ 9223372036854775807 := by
 unfold W64 IntKind.wrap
 simp only [IntKind.bits, IntKind.signed]
 simp
 omega
abbrev Sh := Int × Int
def shcv (s : Sh) : List CV := [.int .i64 s.1, .int .i64 s.2]
structure Ap where
 code : Bs
 city : Bs
 ctry : Bs
 off : Int
 sn : Bool
 sh : List Sh
def apcv (a : Ap) : List CV := [.str a.code, .str a.city, .str a.ctry, .int .i64 a.off, .list a.sn (a.sh.map shcv)]
def ap0 : Ap := ⟨[], [], [], 0, true, []⟩
structure Di where
 fro : Bs
 to : Bs
 mi : Int
def dicv (d : Di) : List CV := [.str d.fro, .str d.to, .int .i64 d.mi]
structure Pc where
 an : Bool
 aps : List Ap
 dn : Bool
 dis : List Di
abbrev pcv (p : Pc) : CV := .agg [.list p.an (p.aps.map apcv), .list p.dn (p.dis.map dicv)]
structure Lg where
 fro : Bs
 to : Bs
 dep : Int
 arr : Int
 eq : Bs
def lgcv (l : Lg) : List CV := [.str l.fro, .str l.to, .int .i64 l.dep, .int .i64 l.arr, .str l.eq]
structure Fl where
 car : Bs
 num : Int
 fr : Int
 to : Int
 days : Int
 ln : Bool
 legs : List Lg
abbrev flcv (f : Fl) : CV := .agg [.str f.car, .int .i64 f.num, .int .i64 f.fr, .int .i64 f.to, .int .i64 f.days, .list f.ln (f.legs.map lgcv)]
def Qcm (s : Bs) : List Ap → Option Ap
 | [] => none
 | a :: t => if a.code = s then some a else Qcm s t
def QgB (s : Bs) (l : List Ap) : CV := .tup [.agg (apcv ((Qcm s l).getD ap0)), .bool (Qcm s l).isSome]
theorem Qe9 (p : Pc) (s : Bs) (hp : p.aps.length ≤ 281474976710656) : Ret lb Qbh [pcv p, .str s] (QgB s p.aps) := by
 refine .top rfl (.eq (fun n => by rw [QqV]) ?_)
 refine Evt.diag (m := p.aps.length) (QdA (enc := apcv) (l := p.aps) hp (P := fun q t n k => QfH lb n k p.an (p.aps.map apcv) p.dn (p.dis.map dicv) s (q.length : Int) = some (QgB s t)) ?_ ?_ p.aps [] rfl)
 ·refine .all fun n k => ?_
  rw [Qg4, decF (by simp), cond_false, QnT]
  rfl
 ·intro q x t hq hlt hat hw hev
  refine hev.mono fun n hn k hk => ?_
  have hn := hn k hk
  rw [Qg4, decT hlt, cond_true]
  simp only [hat, apcv, QaC, QaH, QaF, Qa0, QaX, Qa4, Qa3, get0, get1, get2, get3, QaL, cond_true, cond_false, List.length_cons, List.length_nil, Nat.zero_add, Nat.reduceAdd, Nat.reduceBEq, beq_self_eq_true, Qaw, Qas, get4, hw]
  unfold QgB Qcm
  by_cases h : x.code = s
  ·rw [show (x.code == s) = true by simpa using h, cond_true, if_pos h]
   rfl
  ·rw [show (x.code == s) = false by simpa using h, cond_false, if_neg h]
   exact hn
theorem Qja (p : Pc) (s : Bs) (hp : p.aps.length ≤ 281474976710656) : Ret lb QbF [pcv p, .str s] (QgB s p.aps) := by
 refine .top rfl (.eq (fun n => by rw [Quw]) ?_)
 refine Evt.diag (m := p.aps.length) (QdA (enc := apcv) (l := p.aps) hp (P := fun q t n k => r06_Find_L1 lb n k p.an (p.aps.map apcv) p.dn (p.dis.map dicv) s (q.length : Int) = some (QgB s t)) ?_ ?_ p.aps [] rfl)
 ·refine .all fun n k => ?_
  rw [Qi0, decF (by simp), cond_false, Qq7]
  rfl
 ·intro q x t hq hlt hat hw hev
  refine hev.mono fun n hn k hk => ?_
  have hn := hn k hk
  rw [Qi0, decT hlt, cond_true]
  simp only [hat, apcv, QaC, QaH, QaF, Qa0, QaX, Qa4, Qa3, get0, get1, get2, get3, QaL, cond_true, cond_false, List.length_cons, List.length_nil, Nat.zero_add, Nat.reduceAdd, Nat.reduceBEq, beq_self_eq_true, Qaw, Qas, get4, hw]
  unfold QgB Qcm
  by_cases h : x.code = s
  ·rw [show (x.code == s) = true by simpa using h, cond_true, if_pos h]
   rfl
  ·rw [show (x.code == s) = false by simpa using h, cond_false, if_neg h]
   exact hn
theorem Qoe : ∀ l : List Sh, QeI (l.map shcv) = some l
 | [] => rfl
 | s :: l => by
  show (QeI (l.map shcv)).map ((s.1, s.2) :: ·) = _
  rw [Qoe l]; rfl
def maxI (a b : Int) : Int := if a > b then a else b
def utcG (loc : Int) : Int → List Sh → Int
 | u, [] => u
 | u, s :: r => if u < s.1 then u else utcG loc (maxI (W64 (loc - s.2)) s.1) r
def utcF (off : Int) (sh : List Sh) (loc : Int) : Int := utcG loc (W64 (loc - off)) sh
def utcP (loc : Int) : Int → List (Int × Int × Int) → Int
 | u, [] => u
 | _, s :: r => if maxI (W64 (loc - s.2.2)) s.1 < s.2.1 then maxI (W64 (loc - s.2.2)) s.1 else utcP loc (maxI (W64 (loc - s.2.2)) s.1) r
theorem Qpl (loc : Int) : ∀ (l : List Sh) (u fr o : Int), utcP loc u (Qb0 fr o l) = utcG loc (maxI (W64 (loc - o)) fr) l
 | [], u, fr, o => by
  simp only [Qb0, utcP, utcG]
  split <;> rfl
 | (a, o') :: r, u, fr, o => by
  simp only [Qb0, utcP, utcG]
  split
  ·rfl
  ·exact Qpl loc r _ a o'
theorem QxS (loc o : Int) : maxI (W64 (loc - o)) (-9223372036854775808) = W64 (loc - o) := by
 have := (QwC (loc - o)).1
 unfold maxI
 split <;> omega
theorem Qrr : ∀ (l : List Sh) (fr o : Int), (Qb0 fr o l).length = l.length + 1
 | [], _, _ => rfl
 | (a, o') :: r, fr, o => by simp [Qb0, Qrr r]
theorem QqB (off : Int) (sn : Bool) (sh : List Sh) (h : sh.length ≤ 1000000000000) : Ret lb QgP [.agg [.int .i64 off, .list sn (sh.map shcv)]] (.list false ((Qb0 (-9223372036854775808) off sh).map Qf1)) :=
 .lib (s := QjT) rfl (by
  show (match QeI (sh.map shcv) with | some s => if s.length ≤ 1000000000000 then some (CV.list false ((Qb0 (-9223372036854775808) off s).map Qf1)) else none | none => none) = _
  rw [Qoe]
  simp only
  rw [if_pos h])
theorem QmD (off : Int) (sn : Bool) (sh : List Sh) (loc : Int) (h : sh.length ≤ 1000000000000) : Ret lb QbE [.agg [.int .i64 off, .list sn (sh.map shcv)], .int .i64 loc] (.int .i64 (utcF off sh loc)) := by
 refine .top rfl (.eq (fun n => by rw [Qun]) ?_)
 refine .call (QqB lb off sn sh h) ?_
 simp only [QaX, QaC]
 obtain ⟨sp, hsp⟩ : ∃ sp, Qb0 (-9223372036854775808) off sh = sp := ⟨_, rfl⟩
 have hl : sp.length ≤ 281474976710656 := by rw [← hsp, Qrr]; omega
 have key := QdA (enc := Qf1) (l := sp) hl (P := fun q t n k => ∀ u, QhK lb n k off sn (sh.map shcv) loc (.list false (sp.map Qf1)) (false, sp.map Qf1) u (q.length : Int) = some (.int .i64 (utcP loc u t))) (by
  refine .all fun n k u => ?_
  rw [QiR, decF (by simp), cond_false, QqN]
  rfl) (by
  intro q x t hq hlt hat hw hev
  refine hev.mono fun n hn k hk u => ?_
  have hn := hn k hk
  rw [QiR, decT hlt, cond_true]
  simp only [hat, Qf1, QaC, QaH, QaF, Qa0, QaX, Qa4, Qa3, get0, get1, get2, get3, QaL, cond_true, cond_false, List.length_cons, List.length_nil, Nat.zero_add, Nat.reduceAdd, Nat.reduceBEq, beq_self_eq_true, Qaw, Qas, hw]
  unfold utcP maxI
  by_cases h : (if W64 (loc - x.2.2) > x.1 then W64 (loc - x.2.2) else x.1) < x.2.1
  ·rw [decT h, cond_true, if_pos h, QqM]
  ·rw [decF h, cond_false, if_neg h]
   exact hn _) sp [] rfl
 refine (Evt.diag key).mono fun n hn => ?_
 rw [hsp]
 have := hn 0
 rw [← hsp, Qpl, QxS] at this
 rw [← hsp]
 exact this
theorem Qur (off : Int) (sn : Bool) (sh : List Sh) (loc : Int) (h : sh.length ≤ 281474976710656) : Ret lb Qc1 [.agg [.int .i64 off, .list sn (sh.map shcv)], .int .i64 loc] (.int .i64 (utcF off sh loc)) := by
 refine .top rfl (.eq (fun n => by rw [QvR]) ?_)
 have key := QdA (enc := shcv) (l := sh) h (P := fun q t n k => ∀ u, Qiq lb n k off sn (sh.map shcv) loc u (q.length : Int) = some (.int .i64 (utcG loc u t))) (by
  refine .all fun n k u => ?_
  rw [QjR, decF (by simp), cond_false, Qr8]
  rfl) (by
  intro q x t hq hlt hat hw hev
  refine hev.mono fun n hn k hk u => ?_
  have hn := hn k hk
  rw [QjR, decT hlt, cond_true]
  simp only [hat, shcv, QaC, QaH, QaF, Qa0, QaX, Qa4, Qa3, get0, get1, get2, get3, QaL, cond_true, cond_false, List.length_cons, List.length_nil, Nat.zero_add, Nat.reduceAdd, Nat.reduceBEq, beq_self_eq_true, Qaw, Qas, hw]
  unfold utcG maxI
  by_cases h : u < x.1
  ·rw [decT h, cond_true, if_pos h]
  ·rw [decF h, cond_false, if_neg h]
   exact hn _) sh [] rfl
 exact (Evt.diag key).mono fun n hn => hn _
def apOf (p : Pc) (s : Bs) : Ap := (Qcm s p.aps).getD ap0
def atF (p : Pc) (s : Bs) (day m : Int) : Int := utcF (apOf p s).off (apOf p s).sh (W64 (W64 (day * 1440) + m))
def Qcg (p : Pc) : Prop := p.aps.length ≤ 281474976710656 ∧ ∀ a ∈ p.aps, a.sh.length ≤ 256
theorem Qmz {s : Bs} {a : Ap} : ∀ {l : List Ap}, Qcm s l = some a → a ∈ l ∧ a.code = s
 | x :: l, h => by
  unfold Qcm at h
  split at h
  ·rename_i e
   cases h
   exact ⟨List.mem_cons_self .., e⟩
  ·exact ⟨List.mem_cons_of_mem _ (Qmz h).1, (Qmz h).2⟩
theorem Qq4 {p : Pc} (hp : Qcg p) (s : Bs) : (apOf p s).sh.length ≤ 256 := by
 unfold apOf
 cases h : Qcm s p.aps with
 | none => simp [ap0]
 | some a => exact hp.2 a (Qmz h).1
theorem QoL (p : Pc) (hp : Qcg p) (x : Lg) (day : Int) : Ret lb Qho [pcv p, .agg (lgcv x), .int .i64 day] (.tup [.int .i64 (atF p x.fro day x.dep), .int .i64 (atF p x.to day x.arr)]) := by
 refine .top rfl (.eq (fun n => by rw [lgcv, Qp3]) ?_)
 refine .call (Qe9 lb p x.fro hp.1) ?_
 simp only [QgB, apcv, QaC, QaH, QaF, Qa0, QaX, Qa4, Qa3, get0, get1, get2, get3, QaL, cond_true, cond_false, List.length_cons, List.length_nil, Nat.zero_add, Nat.reduceAdd, Nat.reduceBEq, beq_self_eq_true, Qaw, Qas, get4]
 refine .call (Qe9 lb p x.to hp.1) ?_
 simp only [QgB, apcv, QaC, QaH, QaF, Qa0, QaX, Qa4, Qa3, get0, get1, get2, get3, QaL, cond_true, cond_false, List.length_cons, List.length_nil, Nat.zero_add, Nat.reduceAdd, Nat.reduceBEq, beq_self_eq_true, Qaw, Qas, get4]
 refine .call (QmD lb _ _ _ _ (by have := Qq4 hp x.fro; unfold apOf at this; omega)) ?_
 refine .call (QmD lb _ _ _ _ (by have := Qq4 hp x.to; unfold apOf at this; omega)) ?_
 exact .of rfl
theorem Qn7 (p : Pc) (hp : Qcg p) (s : Bs) (day m : Int) : Ret lb QjK [pcv p, .str s, .int .i64 day, .int .i64 m] (.int .i64 (atF p s day m)) := by
 refine .top rfl (.eq (fun n => by rw [QvS]) ?_)
 refine .call (Qja lb p s hp.1) ?_
 simp only [QgB, apcv, QaC, QaH, QaF, Qa0, QaX, Qa4, Qa3, get0, get1, get2, get3, QaL, cond_true, cond_false, List.length_cons, List.length_nil, Nat.zero_add, Nat.reduceAdd, Nat.reduceBEq, beq_self_eq_true, Qaw, Qas, get4]
 refine .call (Qur lb _ _ _ _ (by have := Qq4 hp s; unfold apOf at this; omega)) ?_
 exact .of rfl
end Go.Proofs
set_option linter.unusedSimpArgs false
namespace Go.Proofs
open Go.Am
variable (lb : Nat)
theorem QbO (fr to days : Int) : Ret lb Qbt [.agg [.int .i64 fr, .int .i64 to, .int .i64 days]] (.int .i64 (perE fr to days)) := by
 refine .top rfl (.eq (fun n => by rw [QpM]) (.of ?_))
 unfold perE
 by_cases h1 : fr < 0
 ·rw [decT h1, cond_true, if_pos (.inl h1)]
 by_cases h2 : to < fr
 ·rw [decF h1, cond_false, decT h2, cond_true, if_pos (.inr (.inl h2))]
 by_cases h3 : to ≥ 36525
 ·rw [decF h1, cond_false, decF h2, cond_false, decT h3, cond_true, if_pos (.inr (.inr h3))]
 rw [decF h1, cond_false, decF h2, cond_false, decF h3, cond_false, if_neg (by omega), QaB (by omega) (by omega)]
 by_cases h4 : to - fr ≥ 800
 ·rw [decT h4, cond_true, if_pos h4]
 rw [decF h4, cond_false, if_neg h4]
 by_cases h5 : days < 1
 ·rw [decT h5, cond_true, if_pos (.inl h5)]
 by_cases h6 : days > 127
 ·rw [decF h5, cond_false, decT h6, cond_true, if_pos (.inr h6)]
 rw [decF h5, cond_false, decF h6, cond_false, if_neg (by omega)]
theorem QeN (fr to days : Int) : Ret lb Qe0 [.agg [.int .i64 fr, .int .i64 to, .int .i64 days]] (.int .i64 (perE fr to days)) := by
 refine .top rfl (.eq (fun n => by rw [Qtx]) (.of ?_))
 unfold perE
 by_cases h1 : fr < 0
 ·rw [decT h1, cond_true, if_pos (.inl h1)]
 by_cases h2 : fr > to
 ·rw [decF h1, cond_false, decT h2, cond_true, if_pos (.inr (.inl h2))]
 by_cases h3 : to ≥ 36525
 ·rw [decF h1, cond_false, decF h2, cond_false, decT h3, cond_true, if_pos (.inr (.inr h3))]
 rw [decF h1, cond_false, decF h2, cond_false, decF h3, cond_false, if_neg (by omega), QaB (by omega) (by omega)]
 by_cases h4 : to - fr ≥ 800
 ·rw [decT h4, cond_true, if_pos h4]
 rw [decF h4, cond_false, if_neg h4]
 by_cases h5 : days < 1
 ·rw [decT h5, cond_true, if_pos (.inl h5)]
 by_cases h6 : days > 127
 ·rw [decF h5, cond_false, decT h6, cond_true, if_pos (.inr h6)]
 rw [decF h5, cond_false, decF h6, cond_false, if_neg (by omega)]
theorem Qc8 {fr to days : Int} (h : perE fr to days = 0) : 0 ≤ fr ∧ fr ≤ to ∧ to < 36525 ∧ to - fr < 800 ∧ 1 ≤ days ∧ days ≤ 127 := by
 unfold perE at h
 split at h
 ·omega
 ·split at h
  ·omega
  ·split at h <;> omega
theorem QpK (day : Int) : Int.tmod (W64 (Int.tmod day 7 + 12)) 7 = QaV day := by
 have h1 := Int.tmod_lt_of_pos day (show (0 : Int) < 7 by decide)
 have h2 := Int.lt_tmod_of_pos day (show (0 : Int) < 7 by decide)
 unfold QaV
 rw [show W64 (Int.tmod day 7 + 12) = Int.tmod day 7 + 12 from QaB (by omega) (by omega)]
theorem Qcq {day : Int} (h : 0 ≤ day) : 0 ≤ QaV day ∧ QaV day ≤ 6 := by
 have h1 : 0 ≤ Int.tmod day 7 := Int.tmod_nonneg _ h
 unfold QaV
 have h3 : 0 ≤ Int.tmod (Int.tmod day 7 + 12) 7 := Int.tmod_nonneg _ (by omega)
 have h4 : Int.tmod (Int.tmod day 7 + 12) 7 < 7 := Int.tmod_lt_of_pos _ (by omega)
 omega
theorem QlD (day : Int) : Ret lb QdV [.int .i64 day] (.int .i64 (QaV day)) :=
 .top rfl (.eq (fun n => by rw [Ql0, QpK]) (.of rfl))
theorem Qjz (day : Int) : Ret lb Qh6 [.int .i64 day] (.int .i64 (QaV day)) :=
 .top rfl (.eq (fun n => by rw [Qrc, QpK]) (.of rfl))
theorem Qzx : ∀ (d : Fin 128) (w : Fin 7), (Int.tmod (W64 (Int.tdiv ((d.val : Nat) : Int) (2 ^ ((w.val : Nat) : Int).toNat))) 2 == 1) = (((d.val : Nat) : Int) / 2 ^ ((w.val : Nat) : Int).toNat % 2 == 1) := by decide +kernel
theorem Qos (day : Int) (h : 0 ≤ day) : Ret lb Qcj [.int .i64 day] (.int .i64 (2 ^ (QaV day).toNat)) := by
 refine .top rfl (.eq (fun n => by rw [Qwb]) ?_)
 obtain ⟨h1, h2⟩ := Qcq h
 have key : ∀ (m j : Nat), j + m = (QaV day).toNat → Evt fun n => ∀ k, m < k → Qiu lb n k day (2 ^ j) (j : Int) = some (.int .i64 (2 ^ (QaV day).toNat)) := by
  intro m
  induction m with
  | zero =>
   intro j hj
   refine (Qjz lb day).mono fun n hn k hk => ?_
   obtain ⟨k, rfl⟩ : ∃ m, k = m + 1 := ⟨k - 1, by omega⟩
   rw [QjS, hn]
   simp only [QaC, QaH, QaF, Qa0, QaX, Qa4, Qa3, get0, get1, get2, get3, QaL, cond_true, cond_false, List.length_cons, List.length_nil, Nat.zero_add, Nat.reduceAdd, Nat.reduceBEq, beq_self_eq_true, Qaw, Qas]
   rw [decF (by omega), cond_false, Qsz, ← hj]
   rfl
  | succ m ih =>
   intro j hj
   refine Evt.imp2 (Qjz lb day) (ih (j + 1) (by omega)) fun n hn hi k hk => ?_
   obtain ⟨k, rfl⟩ : ∃ m, k = m + 1 := ⟨k - 1, by omega⟩
   rw [QjS, hn]
   simp only [QaC, QaH, QaF, Qa0, QaX, Qa4, Qa3, get0, get1, get2, get3, QaL, cond_true, cond_false, List.length_cons, List.length_nil, Nat.zero_add, Nat.reduceAdd, Nat.reduceBEq, beq_self_eq_true, Qaw, Qas]
   have hp : (2 : Int) ^ j ≤ 64 := by
    have hj6 : j ≤ 6 := by omega
    exact (show ∀ q : Fin 7, (2 : Int) ^ q.val ≤ 64 by decide) ⟨j, by omega⟩
   have hp0 : (0 : Int) < 2 ^ j := Int.pow_pos (by decide)
   rw [decT (by omega), cond_true, QaB (by omega) (by omega), QaB (by omega) (by omega)]
   have := hi k (by omega)
   rw [Int.pow_succ, Int.mul_comm] at this
   simpa using this
 have := Evt.diag (key (QaV day).toNat 0 (by omega))
 simpa using this
theorem QwD {days : Int} {day : Int} (hd : 0 ≤ days ∧ days ≤ 127) (h : 0 ≤ day) : (Int.tmod (W64 (Int.tdiv days (2 ^ (QaV day).toNat))) 2 == 1) = onF days day := by
 obtain ⟨h1, h2⟩ := Qcq h
 obtain ⟨d, rfl⟩ := Int.eq_ofNat_of_zero_le hd.1
 obtain ⟨w, hw⟩ := Int.eq_ofNat_of_zero_le h1
 unfold onF
 rw [hw]
 exact Qzx ⟨d, by omega⟩ ⟨w, by omega⟩
def hasF (fr to days day : Int) : Bool := decide (perE fr to days = 0) && (decide (fr ≤ day) && (decide (day ≤ to) && onF days day))
theorem Qf3 (fr to days day : Int) : Ret lb Qcz [.agg [.int .i64 fr, .int .i64 to, .int .i64 days], .int .i64 day] (.bool (hasF fr to days day)) := by
 refine .top rfl (.eq (fun n => by rw [Qwd]) ?_)
 refine .call (QeN lb fr to days) ?_
 simp only [QaC, QaH, QaF, Qa0, QaX, Qa4, Qa3, get0, get1, get2, get3, QaL, cond_true, cond_false, List.length_cons, List.length_nil, Nat.zero_add, Nat.reduceAdd, Nat.reduceBEq, beq_self_eq_true, Qaw, Qas]
 unfold hasF
 by_cases h0 : perE fr to days = 0
 ·simp only [beqT h0, cond_true, decT h0]
  obtain ⟨a0, a1, a2, a3, a4, a5⟩ := Qc8 h0
  by_cases h1 : fr ≤ day
  ·simp only [ge_iff_le, decT h1, cond_true]
   by_cases h2 : day ≤ to
   ·simp only [decT h2, cond_true]
    refine .call (Qos lb day (by omega)) ?_
    simp only [QaC, QaH, QaF, Qa0, QaX, Qa4, Qa3, get0, get1, get2, get3, QaL, cond_true, cond_false, List.length_cons, List.length_nil, Nat.zero_add, Nat.reduceAdd, Nat.reduceBEq, beq_self_eq_true, Qaw, Qas]
    have hp : (0 : Int) < 2 ^ (QaV day).toNat := Int.pow_pos (by decide)
    simp only [show ((2 : Int) ^ (QaV day).toNat != 0) = true from bneT (by omega), QaL, QwD ⟨(show 0 ≤ days by omega), a5⟩ (show 0 ≤ day by omega)]
    exact .of (by simp)
   ·simp only [decF h2, cond_false]
    exact .of (by simp)
  ·simp only [ge_iff_le, decF h1, cond_false]
   exact .of (by simp)
 ·simp only [beqF h0, cond_false, decF h0]
  exact .of (by simp)
def dcv (l : List Int) : List (List CV) := l.map fun x => [CV.int .i64 x]
theorem QpU (fr to days : Int) : Ret lb Qf7 [.agg [.int .i64 fr, .int .i64 to, .int .i64 days]] (.list (Qar fr to days).isEmpty (dcv (Qar fr to days))) := .lib (s := QlA) rfl rfl
theorem Qq5 (fr days : Int) : ∀ k, (upto fr days k).length ≤ k
 | 0 => Nat.le_refl _
 | k + 1 => by
  have := Qq5 fr days k
  simp only [upto, List.length_append]
  split <;> simp <;> omega
theorem Qce {n b : Nat} (h : n ≤ 1000000) (h2 : b ≤ 1000) : room n b = true := by
 unfold room
 have : n * b ≤ 1000000 * 1000 := Nat.mul_le_mul h h2
 exact decide_eq_true (by omega)
theorem QcS {α : Type} (l : List α) (x : α) (b : Bool) : (b && false) = (l ++ [x]).isEmpty := by simp
theorem Qmp (fr to days : Int) : Ret lb Qcf [.agg [.int .i64 fr, .int .i64 to, .int .i64 days]] (.list (Qar fr to days).isEmpty (dcv (Qar fr to days))) := by
 refine .top rfl (.eq (fun n => by rw [QuM]) ?_)
 by_cases h0 : perE fr to days = 0
 ·obtain ⟨a0, a1, a2, a3, a4, a5⟩ := Qc8 h0
  have key : ∀ (m j : Nat), (j : Int) + m = to + 1 - fr → Evt fun n => ∀ k, m < k → Qe1 lb n k fr to days (upto fr days j).isEmpty (dcv (upto fr days j)) (fr + j) = some (.list (Qar fr to days).isEmpty (dcv (Qar fr to days))) := by
   intro m
   induction m with
   | zero =>
    intro j hj
    refine (QeN lb fr to days).mono fun n hn k hk => ?_
    obtain ⟨k, rfl⟩ : ∃ m, k = m + 1 := ⟨k - 1, by omega⟩
    rw [Qgh, hn]
    simp only [QaC, QaH, QaF, Qa0, QaX, Qa4, Qa3, get0, get1, get2, get3, QaL, cond_true, cond_false, List.length_cons, List.length_nil, Nat.zero_add, Nat.reduceAdd, Nat.reduceBEq, beq_self_eq_true, Qaw, Qas]
    rw [beqT h0, cond_true, decF (by omega), cond_false, Qkk]
    unfold Qar
    rw [if_pos h0, show (to + 1 - fr).toNat = j by omega]
   | succ m ih =>
    intro j hj
    refine Evt.imp2 (Evt.imp2 (QeN lb fr to days) (Qf3 lb fr to days (fr + j)) fun n h1 h2 => And.intro h1 h2) (ih (j + 1) (by omega)) fun n hn hi k hk => ?_
    obtain ⟨k, rfl⟩ : ∃ m, k = m + 1 := ⟨k - 1, by omega⟩
    rw [Qgh, hn.1, hn.2]
    simp only [QaC, QaH, QaF, Qa0, QaX, Qa4, Qa3, get0, get1, get2, get3, QaL, cond_true, cond_false, List.length_cons, List.length_nil, Nat.zero_add, Nat.reduceAdd, Nat.reduceBEq, beq_self_eq_true, Qaw, Qas]
    rw [beqT h0, cond_true, decT (by omega), cond_true]
    have hi := hi k (by omega)
    have hh : hasF fr to days (fr + j) = onF days (fr + j) := by
     unfold hasF
     rw [decT h0, decT (by omega), decT (by omega)]
     rfl
    have hw : IntKind.wrap .i64 (fr + j + 1) = fr + ((j + 1 : Nat) : Int) := by rw [QaB (by omega) (by omega)]; omega
    have hul := Qq5 fr days j
    rw [hh]
    cases ho : onF days (fr + j) with
    | true =>
     rw [cond_true, Qce (by simp [dcv]; omega) (by omega), QaL, hw]
     simp only [upto, ho, if_true] at hi
     rw [QcS (upto fr days j) (fr + j)]
     simpa [dcv] using hi
    | false =>
     rw [cond_false, hw]
     simp only [upto, ho, Bool.false_eq_true, if_false, List.append_nil] at hi
     exact hi
  have := Evt.diag (key (to + 1 - fr).toNat 0 (by omega))
  refine this.mono fun n hn => ?_
  simpa [upto, dcv] using hn
 ·refine (QeN lb fr to days).and (Evt.ge 1) |>.mono fun n hn => ?_
  obtain ⟨hn, h1⟩ := hn
  obtain ⟨k, hk⟩ : ∃ m, n = m + 1 := ⟨n - 1, by omega⟩
  have : ∀ k', k' = n → Qe1 lb n k' fr to days true [] fr = some (.list (Qar fr to days).isEmpty (dcv (Qar fr to days))) := by
   intro k' e
   rw [show k' = k + 1 by omega, Qgh, hn]
   simp only [QaC, QaH, QaF, Qa0, QaX, Qa4, Qa3, get0, get1, get2, get3, QaL, cond_true, cond_false, List.length_cons, List.length_nil, Nat.zero_add, Nat.reduceAdd, Nat.reduceBEq, beq_self_eq_true, Qaw, Qas]
   rw [beqF h0, cond_false, Qkk]
   unfold Qar
   rw [if_neg h0]
   rfl
  exact this n rfl
end Go.Proofs
set_option linter.unusedSimpArgs false
namespace Go.Proofs
open Go.Am
variable (lb : Nat)
theorem QgU {α : Type} (l : List α) : l = [] ∨ ∃ a x, l = a ++ [x] := by
 rcases List.eq_nil_or_concat l with h | ⟨a, x, h⟩
 ·exact .inl h
 ·exact .inr ⟨a, x, by rw [h, List.concat_eq_append]⟩
structure Dt where
 car : Bs
 num : Int
 day : Int
 fro : Bs
 to : Bs
 dep : Int
 arr : Int
 eq : Bs
def dtcv (d : Dt) : List CV := [.str d.car, .int .i64 d.num, .int .i64 d.day, .str d.fro, .str d.to, .int .i64 d.dep, .int .i64 d.arr, .str d.eq]
def legF (p : Pc) (f : Fl) (day : Int) (x : Lg) : Dt := ⟨f.car, f.num, day, x.fro, x.to, atF p x.fro day x.dep, atF p x.to day x.arr, x.eq⟩
def QjO (p : Pc) (f : Fl) (day : Int) : List Dt := f.legs.map (legF p f day)
def ordG : Bool → Int → List (Int × Int) → Bool
 | _, _, [] => true
 | first, b, x :: r => if x.1 ≥ x.2 then false else bif first then ordG false x.2 r else if x.1 < b then false else ordG false x.2 r
def ordF (p : Pc) (l : List Lg) (day : Int) : Bool := ordG true 0 (l.map fun x => (atF p x.fro day x.dep, atF p x.to day x.arr))
theorem QhP (m : Int) : Ret lb QbD [.int .i64 m] (.bool (decide (-1440 ≤ m ∧ m < 5760))) := by
 refine .top rfl (.eq (fun n => by rw [QnQ]) (.of ?_))
 by_cases h : m ≥ -1440
 ·rw [decT h, cond_true]
  congr 2
  exact decide_eq_decide.2 ⟨fun q => ⟨h, q⟩, fun q => q.2⟩
 ·rw [decF h, cond_false, decF (by omega)]
theorem QoE (m : Int) : Ret lb QdG [.int .i64 m] (.bool (!decide (-1440 ≤ m ∧ m < 5760))) := by
 refine .top rfl (.eq (fun n => by rw [QvW]) (.of ?_))
 by_cases h : m < -1440
 ·rw [decT h, cond_true, decF (by omega)]
  rfl
 ·rw [decF h, cond_false, ← decide_not]
  congr 2
  exact decide_eq_decide.2 (by omega)
theorem Qma (p : Pc) (hp : Qcg p) (ln : Bool) (l : List Lg) (hl : l.length ≤ 1000) (day : Int) : Ret lb Qbc [pcv p, .list ln (l.map lgcv), .int .i64 day] (.bool (ordF p l day)) := by
 refine .top rfl (.eq (fun n => by rw [QnE]) ?_)
 have key := QdA (enc := lgcv) (l := l) (by omega) (P := fun q t n k => ∀ b, Qdw lb n k p.an (p.aps.map apcv) p.dn (p.dis.map dicv) ln (l.map lgcv) day (.int .i64 b) (q.length : Int) =
   some (.bool (ordG q.isEmpty b (t.map fun x => (atF p x.fro day x.dep, atF p x.to day x.arr))))) (by
  refine .all fun n k b => ?_
  rw [Qf6, decF (by simp), cond_false, Qle]
  rfl) (by
  intro q x t hq hlt hat hw hev
  refine Evt.imp2 hev (QoL lb p hp x day) fun n hn h2 k hk b => ?_
  have hn := hn k hk (atF p x.to day x.arr)
  rw [lgcv] at h2
  rw [Qf6, decT hlt, cond_true]
  simp only [hat, lgcv, QaC, QaH, QaF, Qa0, QaX, Qa4, Qa3, get0, get1, get2, get3, QaL, cond_true, cond_false, List.length_cons, List.length_nil, Nat.zero_add, Nat.reduceAdd, Nat.reduceBEq, beq_self_eq_true, Qaw, Qas, get4, hw, h2]
  rw [show (q ++ [x]).isEmpty = false by simp] at hn
  simp only [List.map_cons, ordG]
  by_cases h : atF p x.fro day x.dep ≥ atF p x.to day x.arr
  ·rw [decT h, cond_true, if_pos h]
  ·rw [decF h, cond_false, if_neg h]
   cases q with
   | nil =>
    rw [decF (by simp), cond_false]
    exact hn
   | cons y q =>
    rw [decT (by simp), cond_true, List.isEmpty_cons, cond_false]
    by_cases h3 : atF p x.fro day x.dep < b
    ·rw [decT h3, cond_true, if_pos h3]
    ·rw [decF h3, cond_false, if_neg h3]
     exact hn) l [] rfl
 exact (Evt.diag key).mono fun n hn => hn 0
theorem QpG (an : Bool) (l : List Dt) (hl : l.length ≤ 1000) : Ret lb Qbv [.list an (l.map dtcv)] (.bool (ordG true 0 (l.map fun x => (x.dep, x.arr)))) := by
 refine .top rfl (.eq (fun n => by rw [Qra]) ?_)
 have key := QdA (enc := dtcv) (l := l) (by omega) (P := fun q t n k => Qeo lb n k an (l.map dtcv) (q.length : Int) = some (.bool (ordG q.isEmpty ((q.getLast?.map (·.arr)).getD 0) (t.map fun x => (x.dep, x.arr))))) (by
  refine .all fun n k => ?_
  rw [Qg9, decF (by simp), cond_false, QnG]
  rfl) (by
  intro q x t hq hlt hat hw hev
  refine hev.mono fun n hn k hk => ?_
  have hn := hn k hk
  rw [Qg9, decT hlt, cond_true]
  simp only [hat, dtcv, QaC, QaH, QaF, Qa0, QaX, Qa4, Qa3, get0, get1, get2, get3, QaL, cond_true, cond_false, List.length_cons, List.length_nil, Nat.zero_add, Nat.reduceAdd, Nat.reduceBEq, beq_self_eq_true, Qaw, Qas, get4, get5, get6, hw]
  rw [show (q ++ [x]).isEmpty = false by simp, List.getLast?_append] at hn
  simp only [List.getLast?_singleton, Option.some_or, Option.map_some, Option.getD_some] at hn
  obtain ⟨b0, hb0⟩ : ∃ b, ((q.getLast?.map (·.arr)).getD 0) = b := ⟨_, rfl⟩
  rw [hb0]
  simp only [List.map_cons, ordG]
  by_cases h : x.dep ≥ x.arr
  ·rw [decT h, cond_true, if_pos h]
  ·rw [decF h, cond_false, if_neg h]
   rcases QgU q with rfl | ⟨q', y, rfl⟩
   ·rw [decF (by simp), cond_false]
    exact hn
   ·have hlen : l.length = q'.length + (t.length + 2) := by rw [← hq]; simp only [List.length_append, List.length_cons, List.length_nil]; omega
    have hwl : IntKind.wrap .i64 (((q' ++ [y]).length : Int) - 1) = (q'.length : Int) := by
     rw [List.length_append, List.length_singleton, QaB (by omega) (by omega)]
     omega
    have hpre : atL (l.map dtcv) (q'.length : Int) = some (dtcv y) := Qa5 (by rw [← hq]; simp)
    rw [decT (by rw [List.length_append, List.length_singleton]; omega), cond_true, hwl, hpre]
    simp only [dtcv, QaC, QaH, QaF, Qa0, QaX, Qa4, Qa3, get0, get1, get2, get3, QaL, cond_true, cond_false, List.length_cons, List.length_nil, Nat.zero_add, Nat.reduceAdd, Nat.reduceBEq, beq_self_eq_true, Qaw, Qas, get4, get5, get6]
    rw [List.getLast?_append] at hb0
    simp only [List.getLast?_singleton, Option.some_or, Option.map_some, Option.getD_some] at hb0
    subst hb0
    rw [show (q' ++ [y]).isEmpty = false by simp]
    by_cases h3 : x.dep < y.arr
    ·rw [decT h3, cond_true, cond_false, if_pos h3]
    ·rw [decF h3, cond_false, cond_false, if_neg h3]
     exact hn) l [] rfl
 exact Evt.diag key
theorem Qs1 (p : Pc) (hp : Qcg p) (f : Fl) (hl : f.legs.length ≤ 1000) (day : Int) : Ret lb Qca [pcv p, flcv f, .int .i64 day] (.list f.legs.isEmpty ((QjO p f day).map dtcv)) := by
 refine .top rfl (.eq (fun n => by rw [QuD]) ?_)
 have key := QdA (enc := lgcv) (l := f.legs) (by omega) (P := fun q t n k => QhD lb n k p.an (p.aps.map apcv) p.dn (p.dis.map dicv) f.car f.num f.fr f.to f.days f.ln (f.legs.map lgcv) day q.isEmpty ((q.map (legF p f day)).map dtcv) (q.length : Int) =
   some (.list f.legs.isEmpty ((QjO p f day).map dtcv))) (by
  refine .all fun n k => ?_
  rw [QiW, decF (by simp), cond_false, Qq6]
  rfl) (by
  intro q x t hq hlt hat hw hev
  refine Evt.imp2 hev (Evt.imp2 (Qn7 lb p hp x.fro day x.dep) (Qn7 lb p hp x.to day x.arr) fun n h1 h2 => And.intro h1 h2) fun n hn h2 k hk => ?_
  have hn := hn k hk
  have hql : q.length ≤ 1000 := by have : f.legs.length = q.length + (t.length + 1) := by rw [← hq]; simp
                                   omega
  rw [QiW, decT hlt, cond_true]
  simp only [hat, lgcv, QaC, QaH, QaF, Qa0, QaX, Qa4, Qa3, get0, get1, get2, get3, QaL, cond_true, cond_false, List.length_cons, List.length_nil, Nat.zero_add, Nat.reduceAdd, Nat.reduceBEq, beq_self_eq_true, Qaw, Qas, get4, hw, h2.1, h2.2]
  rw [Qce (by simp; omega) (by omega), QaL, QcS q x]
  simpa [List.map_append, legF, dtcv] using hn) f.legs [] rfl
 exact Evt.diag key
end Go.Proofs
