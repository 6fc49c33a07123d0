/- Chapter 7 on plain data: airports, zones, periods; finding an airport, the minute UTC of a local minute, the days of a period. Conditions: as each says. -/
import Derived.Test.YtdcpdknginpohaaGreatDoorGa
import Derived.Test.YtdcpdknginpohaaGreatDoorRA
set_option linter.unusedSimpArgs false
namespace Go.Proofs
open Go.Am
variable (lb : Nat)
theorem get4 {α : Type} (a b c d e : α) (l : List α) : (a :: b :: c :: d :: e :: l)[4]? = some e := rfl
theorem get5 {α : Type} (a b c d e f : α) (l : List α) : (a :: b :: c :: d :: e :: f :: l)[5]? = some f := rfl
theorem get6 {α : Type} (a b c d e f g : α) (l : List α) : (a :: b :: c :: d :: e :: f :: g :: l)[6]? = some g := rfl
abbrev W64 (x : Int) : Int := IntKind.wrap .i64 x
theorem QsD (x : Int) : -9223372036854775808 ≤ W64 x ∧ W64 x ≤ 9223372036854775807 := by
 unfold W64 IntKind.wrap
 simp only [IntKind.bits, IntKind.signed]
 simp
 omega
abbrev Sh := Int × Int
def shcv (s : Sh) : List CV := [.int .i64 s.1, .int .i64 s.2]
structure Ap where
 code : Bs
 city : Bs
 ctry : Bs
 off : Int
 sn : Bool
 sh : List Sh
def apcv (a : Ap) : List CV := [.str a.code, .str a.city, .str a.ctry, .int .i64 a.off, .list a.sn (a.sh.map shcv)]
def ap0 : Ap := ⟨[], [], [], 0, true, []⟩
structure Di where
 fro : Bs
 to : Bs
 mi : Int
def dicv (d : Di) : List CV := [.str d.fro, .str d.to, .int .i64 d.mi]
structure Pc where
 an : Bool
 aps : List Ap
 dn : Bool
 dis : List Di
abbrev pcv (p : Pc) : CV := .agg [.list p.an (p.aps.map apcv), .list p.dn (p.dis.map dicv)]
structure Lg where
 fro : Bs
 to : Bs
 dep : Int
 arr : Int
 eq : Bs
def lgcv (l : Lg) : List CV := [.str l.fro, .str l.to, .int .i64 l.dep, .int .i64 l.arr, .str l.eq]
structure Fl where
 car : Bs
 num : Int
 fr : Int
 to : Int
 days : Int
 ln : Bool
 legs : List Lg
abbrev flcv (f : Fl) : CV := .agg [.str f.car, .int .i64 f.num, .int .i64 f.fr, .int .i64 f.to, .int .i64 f.days, .list f.ln (f.legs.map lgcv)]
def QbF (s : Bs) : List Ap → Option Ap
 | [] => none
 | a :: t => if a.code = s then some a else QbF s t
def Qey (s : Bs) (l : List Ap) : CV := .tup [.agg (apcv ((QbF s l).getD ap0)), .bool (QbF s l).isSome]
theorem Qg1 (p : Pc) (s : Bs) (hp : p.aps.length ≤ 281474976710656) : Ret lb Qa4 [pcv p, .str s] (Qey s p.aps) := by
 refine .top rfl (.eq (fun n => by rw [QmP]) ?_)
 refine Evt.diag (m := p.aps.length) (QcD (enc := apcv) (l := p.aps) hp (P := fun q t n k => QdY lb n k p.an (p.aps.map apcv) p.dn (p.dis.map dicv) s (q.length : Int) = some (Qey s t)) ?_ ?_ p.aps [] rfl)
 ·refine .all fun n k => ?_
  rw [Qe2, decF (by simp), cond_false, QkE]
  rfl
 ·intro q x t hq hlt hat hw hev
  refine hev.mono fun n hn k hk => ?_
  have hn := hn k hk
  rw [Qe2, decT hlt, cond_true]
  simp only [hat, apcv, QaB, QaD, QaI, QaR, QaM, QaW, QaV, get0, get1, get2, get3, QaE, cond_true, cond_false, List.length_cons, List.length_nil, Nat.zero_add, Nat.reduceAdd, Nat.reduceBEq, beq_self_eq_true, Qas, Qar, get4, hw]
  unfold Qey QbF
  by_cases h : x.code = s
  ·rw [show (x.code == s) = true by simpa using h, cond_true, if_pos h]
   rfl
  ·rw [show (x.code == s) = false by simpa using h, cond_false, if_neg h]
   exact hn
theorem QgC (p : Pc) (s : Bs) (hp : p.aps.length ≤ 281474976710656) : Ret lb Qa9 [pcv p, .str s] (Qey s p.aps) := by
 refine .top rfl (.eq (fun n => by rw [Qp8]) ?_)
 refine Evt.diag (m := p.aps.length) (QcD (enc := apcv) (l := p.aps) hp (P := fun q t n k => r06_Find_L1 lb n k p.an (p.aps.map apcv) p.dn (p.dis.map dicv) s (q.length : Int) = some (Qey s t)) ?_ ?_ p.aps [] rfl)
 ·refine .all fun n k => ?_
  rw [QgQ, decF (by simp), cond_false, Qm2]
  rfl
 ·intro q x t hq hlt hat hw hev
  refine hev.mono fun n hn k hk => ?_
  have hn := hn k hk
  rw [QgQ, decT hlt, cond_true]
  simp only [hat, apcv, QaB, QaD, QaI, QaR, QaM, QaW, QaV, get0, get1, get2, get3, QaE, cond_true, cond_false, List.length_cons, List.length_nil, Nat.zero_add, Nat.reduceAdd, Nat.reduceBEq, beq_self_eq_true, Qas, Qar, get4, hw]
  unfold Qey QbF
  by_cases h : x.code = s
  ·rw [show (x.code == s) = true by simpa using h, cond_true, if_pos h]
   rfl
  ·rw [show (x.code == s) = false by simpa using h, cond_false, if_neg h]
   exact hn
theorem QkU : ∀ l : List Sh, Qc8 (l.map shcv) = some l
 | [] => rfl
 | s :: l => by
  show (Qc8 (l.map shcv)).map ((s.1, s.2) :: ·) = _
  rw [QkU l]; rfl
def maxI (a b : Int) : Int := if a > b then a else b
def utcG (loc : Int) : Int → List Sh → Int
 | u, [] => u
 | u, s :: r => if u < s.1 then u else utcG loc (maxI (W64 (loc - s.2)) s.1) r
def utcF (off : Int) (sh : List Sh) (loc : Int) : Int := utcG loc (W64 (loc - off)) sh
def utcP (loc : Int) : Int → List (Int × Int × Int) → Int
 | u, [] => u
 | _, s :: r => if maxI (W64 (loc - s.2.2)) s.1 < s.2.1 then maxI (W64 (loc - s.2.2)) s.1 else utcP loc (maxI (W64 (loc - s.2.2)) s.1) r
theorem QmK (loc : Int) : ∀ (l : List Sh) (u fr o : Int), utcP loc u (Qbu fr o l) = utcG loc (maxI (W64 (loc - o)) fr) l
 | [], u, fr, o => by
  simp only [Qbu, utcP, utcG]
  split <;> rfl
 | (a, o') :: r, u, fr, o => by
  simp only [Qbu, utcP, utcG]
  split
  ·rfl
  ·exact QmK loc r _ a o'
theorem Qtd (loc o : Int) : maxI (W64 (loc - o)) (-9223372036854775808) = W64 (loc - o) := by
 have := (QsD (loc - o)).1
 unfold maxI
 split <;> omega
theorem QnX : ∀ (l : List Sh) (fr o : Int), (Qbu fr o l).length = l.length + 1
 | [], _, _ => rfl
 | (a, o') :: r, fr, o => by simp [Qbu, QnX r]
theorem Qnq (off : Int) (sn : Bool) (sh : List Sh) (h : sh.length ≤ 1000000000000) : Ret lb QeU [.agg [.int .i64 off, .list sn (sh.map shcv)]] (.list false ((Qbu (-9223372036854775808) off sh).map Qd4)) :=
 .lib (s := Qhq) rfl (by
  show (match Qc8 (sh.map shcv) with | some s => if s.length ≤ 1000000000000 then some (CV.list false ((Qbu (-9223372036854775808) off s).map Qd4)) else none | none => none) = _
  rw [QkU]
  simp only
  rw [if_pos h])
theorem Qkf (off : Int) (sn : Bool) (sh : List Sh) (loc : Int) (h : sh.length ≤ 1000000000000) : Ret lb Qba [.agg [.int .i64 off, .list sn (sh.map shcv)], .int .i64 loc] (.int .i64 (utcF off sh loc)) := by
 refine .top rfl (.eq (fun n => by rw [Qp6]) ?_)
 refine .call (Qnq lb off sn sh h) ?_
 simp only [QaM, QaB]
 obtain ⟨sp, hsp⟩ : ∃ sp, Qbu (-9223372036854775808) off sh = sp := ⟨_, rfl⟩
 have hl : sp.length ≤ 281474976710656 := by rw [← hsp, QnX]; omega
 have key := QcD (enc := Qd4) (l := sp) hl (P := fun q t n k => ∀ u, Qfw lb n k off sn (sh.map shcv) loc (.list false (sp.map Qd4)) (false, sp.map Qd4) u (q.length : Int) = some (.int .i64 (utcP loc u t))) (by
  refine .all fun n k u => ?_
  rw [QgL, decF (by simp), cond_false, Qm8]
  rfl) (by
  intro q x t hq hlt hat hw hev
  refine hev.mono fun n hn k hk u => ?_
  have hn := hn k hk
  rw [QgL, decT hlt, cond_true]
  simp only [hat, Qd4, QaB, QaD, QaI, QaR, QaM, QaW, QaV, get0, get1, get2, get3, QaE, cond_true, cond_false, List.length_cons, List.length_nil, Nat.zero_add, Nat.reduceAdd, Nat.reduceBEq, beq_self_eq_true, Qas, Qar, hw]
  unfold utcP maxI
  by_cases h : (if W64 (loc - x.2.2) > x.1 then W64 (loc - x.2.2) else x.1) < x.2.1
  ·rw [decT h, cond_true, if_pos h, Qne]
  ·rw [decF h, cond_false, if_neg h]
   exact hn _) sp [] rfl
 refine (Evt.diag key).mono fun n hn => ?_
 rw [hsp]
 have := hn 0
 rw [← hsp, QmK, Qtd] at this
 rw [← hsp]
 exact this
theorem Qqg (off : Int) (sn : Bool) (sh : List Sh) (loc : Int) (h : sh.length ≤ 281474976710656) : Ret lb Qb5 [.agg [.int .i64 off, .list sn (sh.map shcv)], .int .i64 loc] (.int .i64 (utcF off sh loc)) := by
 refine .top rfl (.eq (fun n => by rw [Qru]) ?_)
 have key := QcD (enc := shcv) (l := sh) h (P := fun q t n k => ∀ u, Qgf lb n k off sn (sh.map shcv) loc u (q.length : Int) = some (.int .i64 (utcG loc u t))) (by
  refine .all fun n k u => ?_
  rw [Qg3, decF (by simp), cond_false, Qog]
  rfl) (by
  intro q x t hq hlt hat hw hev
  refine hev.mono fun n hn k hk u => ?_
  have hn := hn k hk
  rw [Qg3, decT hlt, cond_true]
  simp only [hat, shcv, QaB, QaD, QaI, QaR, QaM, QaW, QaV, get0, get1, get2, get3, QaE, cond_true, cond_false, List.length_cons, List.length_nil, Nat.zero_add, Nat.reduceAdd, Nat.reduceBEq, beq_self_eq_true, Qas, Qar, hw]
  unfold utcG maxI
  by_cases h : u < x.1
  ·rw [decT h, cond_true, if_pos h]
  ·rw [decF h, cond_false, if_neg h]
   exact hn _) sh [] rfl
 exact (Evt.diag key).mono fun n hn => hn _
def apOf (p : Pc) (s : Bs) : Ap := (QbF s p.aps).getD ap0
def atF (p : Pc) (s : Bs) (day m : Int) : Int := utcF (apOf p s).off (apOf p s).sh (W64 (W64 (day * 1440) + m))
def QbP (p : Pc) : Prop := p.aps.length ≤ 281474976710656 ∧ ∀ a ∈ p.aps, a.sh.length ≤ 256
theorem Qjm {s : Bs} {a : Ap} : ∀ {l : List Ap}, QbF s l = some a → a ∈ l ∧ a.code = s
 | x :: l, h => by
  unfold QbF at h
  split at h
  ·rename_i e
   cases h
   exact ⟨List.mem_cons_self .., e⟩
  ·exact ⟨List.mem_cons_of_mem _ (Qjm h).1, (Qjm h).2⟩
theorem QmZ {p : Pc} (hp : QbP p) (s : Bs) : (apOf p s).sh.length ≤ 256 := by
 unfold apOf
 cases h : QbF s p.aps with
 | none => simp [ap0]
 | some a => exact hp.2 a (Qjm h).1
theorem Qlx (p : Pc) (hp : QbP p) (x : Lg) (day : Int) : Ret lb Qe7 [pcv p, .agg (lgcv x), .int .i64 day] (.tup [.int .i64 (atF p x.fro day x.dep), .int .i64 (atF p x.to day x.arr)]) := by
 refine .top rfl (.eq (fun n => by rw [lgcv, Ql4]) ?_)
 refine .call (Qg1 lb p x.fro hp.1) ?_
 simp only [Qey, apcv, QaB, QaD, QaI, QaR, QaM, QaW, QaV, get0, get1, get2, get3, QaE, cond_true, cond_false, List.length_cons, List.length_nil, Nat.zero_add, Nat.reduceAdd, Nat.reduceBEq, beq_self_eq_true, Qas, Qar, get4]
 refine .call (Qg1 lb p x.to hp.1) ?_
 simp only [Qey, apcv, QaB, QaD, QaI, QaR, QaM, QaW, QaV, get0, get1, get2, get3, QaE, cond_true, cond_false, List.length_cons, List.length_nil, Nat.zero_add, Nat.reduceAdd, Nat.reduceBEq, beq_self_eq_true, Qas, Qar, get4]
 refine .call (Qkf lb _ _ _ _ (by have := QmZ hp x.fro; unfold apOf at this; omega)) ?_
 refine .call (Qkf lb _ _ _ _ (by have := QmZ hp x.to; unfold apOf at this; omega)) ?_
 exact .of rfl
theorem Qla (p : Pc) (hp : QbP p) (s : Bs) (day m : Int) : Ret lb Qg9 [pcv p, .str s, .int .i64 day, .int .i64 m] (.int .i64 (atF p s day m)) := by
 refine .top rfl (.eq (fun n => by rw [Qq8]) ?_)
 refine .call (QgC lb p s hp.1) ?_
 simp only [Qey, apcv, QaB, QaD, QaI, QaR, QaM, QaW, QaV, get0, get1, get2, get3, QaE, cond_true, cond_false, List.length_cons, List.length_nil, Nat.zero_add, Nat.reduceAdd, Nat.reduceBEq, beq_self_eq_true, Qas, Qar, get4]
 refine .call (Qqg lb _ _ _ _ (by have := QmZ hp s; unfold apOf at this; omega)) ?_
 exact .of rfl
end Go.Proofs
set_option linter.unusedSimpArgs false
namespace Go.Proofs
open Go.Am
variable (lb : Nat)
theorem Qlv (fr to days : Int) : Ret lb Qfa [.agg [.int .i64 fr, .int .i64 to, .int .i64 days]] (.int .i64 (perE fr to days)) := by
 refine .top rfl (.eq (fun n => by rw [QmI]) (.of ?_))
 unfold perE
 by_cases h1 : fr < 0
 ·rw [decT h1, cond_true, if_pos (.inl h1)]
 by_cases h2 : to < fr
 ·rw [decF h1, cond_false, decT h2, cond_true, if_pos (.inr (.inl h2))]
 by_cases h3 : to ≥ 36525
 ·rw [decF h1, cond_false, decF h2, cond_false, decT h3, cond_true, if_pos (.inr (.inr h3))]
 rw [decF h1, cond_false, decF h2, cond_false, decF h3, cond_false, if_neg (by omega), QaF (by omega) (by omega)]
 by_cases h4 : to - fr ≥ 800
 ·rw [decT h4, cond_true, if_pos h4]
 rw [decF h4, cond_false, if_neg h4]
 by_cases h5 : days < 1
 ·rw [decT h5, cond_true, if_pos (.inl h5)]
 by_cases h6 : days > 127
 ·rw [decF h5, cond_false, decT h6, cond_true, if_pos (.inr h6)]
 rw [decF h5, cond_false, decF h6, cond_false, if_neg (by omega)]
theorem Qdd (fr to days : Int) : Ret lb Qdk [.agg [.int .i64 fr, .int .i64 to, .int .i64 days]] (.int .i64 (perE fr to days)) := by
 refine .top rfl (.eq (fun n => by rw [QpR]) (.of ?_))
 unfold perE
 by_cases h1 : fr < 0
 ·rw [decT h1, cond_true, if_pos (.inl h1)]
 by_cases h2 : fr > to
 ·rw [decF h1, cond_false, decT h2, cond_true, if_pos (.inr (.inl h2))]
 by_cases h3 : to ≥ 36525
 ·rw [decF h1, cond_false, decF h2, cond_false, decT h3, cond_true, if_pos (.inr (.inr h3))]
 rw [decF h1, cond_false, decF h2, cond_false, decF h3, cond_false, if_neg (by omega), QaF (by omega) (by omega)]
 by_cases h4 : to - fr ≥ 800
 ·rw [decT h4, cond_true, if_pos h4]
 rw [decF h4, cond_false, if_neg h4]
 by_cases h5 : days < 1
 ·rw [decT h5, cond_true, if_pos (.inl h5)]
 by_cases h6 : days > 127
 ·rw [decF h5, cond_false, decT h6, cond_true, if_pos (.inr h6)]
 rw [decF h5, cond_false, decF h6, cond_false, if_neg (by omega)]
theorem Qjz {fr to days : Int} (h : perE fr to days = 0) : 0 ≤ fr ∧ fr ≤ to ∧ to < 36525 ∧ to - fr < 800 ∧ 1 ≤ days ∧ days ≤ 127 := by
 unfold perE at h
 split at h
 ·omega
 ·split at h
  ·omega
  ·split at h <;> omega
theorem QlV (day : Int) : Int.tmod (W64 (Int.tmod day 7 + 12)) 7 = QaT day := by
 have h1 := Int.tmod_lt_of_pos day (show (0 : Int) < 7 by decide)
 have h2 := Int.lt_tmod_of_pos day (show (0 : Int) < 7 by decide)
 unfold QaT
 rw [show W64 (Int.tmod day 7 + 12) = Int.tmod day 7 + 12 from QaF (by omega) (by omega)]
theorem Qdp {day : Int} (h : 0 ≤ day) : 0 ≤ QaT day ∧ QaT day ≤ 6 := by
 have h1 : 0 ≤ Int.tmod day 7 := Int.tmod_nonneg _ h
 unfold QaT
 have h3 : 0 ≤ Int.tmod (Int.tmod day 7 + 12) 7 := Int.tmod_nonneg _ (by omega)
 have h4 : Int.tmod (Int.tmod day 7 + 12) 7 < 7 := Int.tmod_lt_of_pos _ (by omega)
 omega
theorem QiD (day : Int) : Ret lb Qdz [.int .i64 day] (.int .i64 (QaT day)) :=
 .top rfl (.eq (fun n => by rw [Qi8, QlV]) (.of rfl))
theorem Qhl (day : Int) : Ret lb QfW [.int .i64 day] (.int .i64 (QaT day)) :=
 .top rfl (.eq (fun n => by rw [Qnf, QlV]) (.of rfl))
theorem Qt9 : ∀ (d : Fin 128) (w : Fin 7), (W64 ((BitVec.ofInt 64 (Int.fdiv ((d.val : Nat) : Int) (2 ^ (min ((w.val : Nat) : Int).toNat 64))) &&& BitVec.ofInt 64 1).toNat) == 1) = (((d.val : Nat) : Int) / 2 ^ ((w.val : Nat) : Int).toNat % 2 == 1) := by decide +kernel
theorem Qut : ∀ (d : Fin 128) (w : Fin 7), (Int.tmod (W64 (Int.tdiv ((d.val : Nat) : Int) (2 ^ ((w.val : Nat) : Int).toNat))) 2 == 1) = (((d.val : Nat) : Int) / 2 ^ ((w.val : Nat) : Int).toNat % 2 == 1) := by decide +kernel
theorem QoF (days day : Int) (hd : 0 ≤ days ∧ days ≤ 127) (h : 0 ≤ day) : Ret lb QhJ [.int .i64 days, .int .i64 day] (.bool (onF days day)) := by
 refine .top rfl (.eq (fun n => by rw [Qo6]) ?_)
 refine .call (QiD lb day) ?_
 obtain ⟨h1, h2⟩ := Qdp h
 simp only [QaB, QaD, QaI, QaR, QaM, QaW, QaV, get0, get1, get2, get3, QaE, cond_true, cond_false, List.length_cons, List.length_nil, Nat.zero_add, Nat.reduceAdd, Nat.reduceBEq, beq_self_eq_true, Qas, Qar]
 rw [decT h1, QaE]
 obtain ⟨d, rfl⟩ := Int.eq_ofNat_of_zero_le hd.1
 obtain ⟨w, hw⟩ := Int.eq_ofNat_of_zero_le h1
 unfold onF
 rw [hw]
 have := Qt9 ⟨d, by omega⟩ ⟨w, by omega⟩
 exact .of (by rw [← this])
theorem QkK (day : Int) (h : 0 ≤ day) : Ret lb QbE [.int .i64 day] (.int .i64 (2 ^ (QaT day).toNat)) := by
 refine .top rfl (.eq (fun n => by rw [QqS]) ?_)
 obtain ⟨h1, h2⟩ := Qdp h
 have key : ∀ (m j : Nat), j + m = (QaT day).toNat → Evt fun n => ∀ k, m < k → Qgh lb n k day (2 ^ j) (j : Int) = some (.int .i64 (2 ^ (QaT day).toNat)) := by
  intro m
  induction m with
  | zero =>
   intro j hj
   refine (Qhl lb day).mono fun n hn k hk => ?_
   obtain ⟨k, rfl⟩ : ∃ m, k = m + 1 := ⟨k - 1, by omega⟩
   rw [Qhh, hn]
   simp only [QaB, QaD, QaI, QaR, QaM, QaW, QaV, get0, get1, get2, get3, QaE, cond_true, cond_false, List.length_cons, List.length_nil, Nat.zero_add, Nat.reduceAdd, Nat.reduceBEq, beq_self_eq_true, Qas, Qar]
   rw [decF (by omega), cond_false, Qov, ← hj]
   rfl
  | succ m ih =>
   intro j hj
   refine Evt.imp2 (Qhl lb day) (ih (j + 1) (by omega)) fun n hn hi k hk => ?_
   obtain ⟨k, rfl⟩ : ∃ m, k = m + 1 := ⟨k - 1, by omega⟩
   rw [Qhh, hn]
   simp only [QaB, QaD, QaI, QaR, QaM, QaW, QaV, get0, get1, get2, get3, QaE, cond_true, cond_false, List.length_cons, List.length_nil, Nat.zero_add, Nat.reduceAdd, Nat.reduceBEq, beq_self_eq_true, Qas, Qar]
   have hp : (2 : Int) ^ j ≤ 64 := by
    have hj6 : j ≤ 6 := by omega
    exact (show ∀ q : Fin 7, (2 : Int) ^ q.val ≤ 64 by decide) ⟨j, by omega⟩
   have hp0 : (0 : Int) < 2 ^ j := Int.pow_pos (by decide)
   rw [decT (by omega), cond_true, QaF (by omega) (by omega), QaF (by omega) (by omega)]
   have := hi k (by omega)
   rw [Int.pow_succ, Int.mul_comm] at this
   simpa using this
 have := Evt.diag (key (QaT day).toNat 0 (by omega))
 simpa using this
theorem Qsf {days : Int} {day : Int} (hd : 0 ≤ days ∧ days ≤ 127) (h : 0 ≤ day) : (Int.tmod (W64 (Int.tdiv days (2 ^ (QaT day).toNat))) 2 == 1) = onF days day := by
 obtain ⟨h1, h2⟩ := Qdp h
 obtain ⟨d, rfl⟩ := Int.eq_ofNat_of_zero_le hd.1
 obtain ⟨w, hw⟩ := Int.eq_ofNat_of_zero_le h1
 unfold onF
 rw [hw]
 exact Qut ⟨d, by omega⟩ ⟨w, by omega⟩
def hasF (fr to days day : Int) : Bool := decide (perE fr to days = 0) && (decide (fr ≤ day) && (decide (day ≤ to) && onF days day))
theorem Qh5 (fr to days day : Int) : Ret lb QeR [.agg [.int .i64 fr, .int .i64 to, .int .i64 days], .int .i64 day] (.bool (hasF fr to days day)) := by
 refine .top rfl (.eq (fun n => by rw [Qoz]) ?_)
 refine .call (Qlv lb fr to days) ?_
 simp only [QaB, QaD, QaI, QaR, QaM, QaW, QaV, get0, get1, get2, get3, QaE, cond_true, cond_false, List.length_cons, List.length_nil, Nat.zero_add, Nat.reduceAdd, Nat.reduceBEq, beq_self_eq_true, Qas, Qar]
 unfold hasF
 by_cases h0 : perE fr to days = 0
 ·simp only [beqT h0, cond_true, decT h0]
  obtain ⟨a0, a1, a2, a3, a4, a5⟩ := Qjz h0
  by_cases h1 : fr ≤ day
  ·simp only [ge_iff_le, decT h1, cond_true]
   by_cases h2 : day ≤ to
   ·simp only [decT h2, cond_true]
    refine .call (QoF lb days day ⟨by omega, a5⟩ (by omega)) (.of ?_)
    simp
   ·simp only [decF h2, cond_false]
    exact .of (by simp)
  ·simp only [ge_iff_le, decF h1, cond_false]
   exact .of (by simp)
 ·simp only [beqF h0, cond_false, decF h0]
  exact .of (by simp)
theorem QfD (fr to days day : Int) : Ret lb Qes [.agg [.int .i64 fr, .int .i64 to, .int .i64 days], .int .i64 day] (.bool (hasF fr to days day)) := by
 refine .top rfl (.eq (fun n => by rw [Qrg]) ?_)
 refine .call (Qdd lb fr to days) ?_
 simp only [QaB, QaD, QaI, QaR, QaM, QaW, QaV, get0, get1, get2, get3, QaE, cond_true, cond_false, List.length_cons, List.length_nil, Nat.zero_add, Nat.reduceAdd, Nat.reduceBEq, beq_self_eq_true, Qas, Qar]
 unfold hasF
 by_cases h0 : perE fr to days = 0
 ·simp only [beqT h0, cond_true, decT h0]
  obtain ⟨a0, a1, a2, a3, a4, a5⟩ := Qjz h0
  by_cases h1 : fr ≤ day
  ·simp only [ge_iff_le, decT h1, cond_true]
   by_cases h2 : day ≤ to
   ·simp only [decT h2, cond_true]
    refine .call (QkK lb day (by omega)) ?_
    simp only [QaB, QaD, QaI, QaR, QaM, QaW, QaV, get0, get1, get2, get3, QaE, cond_true, cond_false, List.length_cons, List.length_nil, Nat.zero_add, Nat.reduceAdd, Nat.reduceBEq, beq_self_eq_true, Qas, Qar]
    have hp : (0 : Int) < 2 ^ (QaT day).toNat := Int.pow_pos (by decide)
    simp only [show ((2 : Int) ^ (QaT day).toNat != 0) = true from bneT (by omega), QaE, Qsf ⟨(show 0 ≤ days by omega), a5⟩ (show 0 ≤ day by omega)]
    exact .of (by simp)
   ·simp only [decF h2, cond_false]
    exact .of (by simp)
  ·simp only [ge_iff_le, decF h1, cond_false]
   exact .of (by simp)
 ·simp only [beqF h0, cond_false, decF h0]
  exact .of (by simp)
def dcv (l : List Int) : List (List CV) := l.map fun x => [CV.int .i64 x]
theorem QmO (fr days : Int) : ∀ k, (upto fr days k).length ≤ k
 | 0 => Nat.le_refl _
 | k + 1 => by
  have := QmO fr days k
  simp only [upto, List.length_append]
  split <;> simp <;> omega
theorem QbN {n b : Nat} (h : n ≤ 1000000) (h2 : b ≤ 1000) : room n b = true := by
 unfold room
 have : n * b ≤ 1000000 * 1000 := Nat.mul_le_mul h h2
 exact decide_eq_true (by omega)
theorem Qbv {α : Type} (l : List α) (x : α) (b : Bool) : (b && false) = (l ++ [x]).isEmpty := by simp
theorem Qj5 (fr to days : Int) : Ret lb QbA [.agg [.int .i64 fr, .int .i64 to, .int .i64 days]] (.list (QaA fr to days).isEmpty (dcv (QaA fr to days))) := by
 refine .top rfl (.eq (fun n => by rw [Qp3]) ?_)
 by_cases h0 : perE fr to days = 0
 ·obtain ⟨a0, a1, a2, a3, a4, a5⟩ := Qjz h0
  have key : ∀ (m j : Nat), (j : Int) + m = to + 1 - fr → Evt fun n => ∀ k, m < k → Qdi lb n k fr to days (upto fr days j).isEmpty (dcv (upto fr days j)) (fr + j) = some (.list (QaA fr to days).isEmpty (dcv (QaA fr to days))) := by
   intro m
   induction m with
   | zero =>
    intro j hj
    refine (Qdd lb fr to days).mono fun n hn k hk => ?_
    obtain ⟨k, rfl⟩ : ∃ m, k = m + 1 := ⟨k - 1, by omega⟩
    rw [Qei, hn]
    simp only [QaB, QaD, QaI, QaR, QaM, QaW, QaV, get0, get1, get2, get3, QaE, cond_true, cond_false, List.length_cons, List.length_nil, Nat.zero_add, Nat.reduceAdd, Nat.reduceBEq, beq_self_eq_true, Qas, Qar]
    rw [beqT h0, cond_true, decF (by omega), cond_false, Qim]
    unfold QaA
    rw [if_pos h0, show (to + 1 - fr).toNat = j by omega]
   | succ m ih =>
    intro j hj
    refine Evt.imp2 (Evt.imp2 (Qdd lb fr to days) (QfD lb fr to days (fr + j)) fun n h1 h2 => And.intro h1 h2) (ih (j + 1) (by omega)) fun n hn hi k hk => ?_
    obtain ⟨k, rfl⟩ : ∃ m, k = m + 1 := ⟨k - 1, by omega⟩
    rw [Qei, hn.1, hn.2]
    simp only [QaB, QaD, QaI, QaR, QaM, QaW, QaV, get0, get1, get2, get3, QaE, cond_true, cond_false, List.length_cons, List.length_nil, Nat.zero_add, Nat.reduceAdd, Nat.reduceBEq, beq_self_eq_true, Qas, Qar]
    rw [beqT h0, cond_true, decT (by omega), cond_true]
    have hi := hi k (by omega)
    have hh : hasF fr to days (fr + j) = onF days (fr + j) := by
     unfold hasF
     rw [decT h0, decT (by omega), decT (by omega)]
     rfl
    have hw : IntKind.wrap .i64 (fr + j + 1) = fr + ((j + 1 : Nat) : Int) := by rw [QaF (by omega) (by omega)]; omega
    have hul := QmO fr days j
    rw [hh]
    cases ho : onF days (fr + j) with
    | true =>
     rw [cond_true, QbN (by simp [dcv]; omega) (by omega), QaE, hw]
     simp only [upto, ho, if_true] at hi
     rw [Qbv (upto fr days j) (fr + j)]
     simpa [dcv] using hi
    | false =>
     rw [cond_false, hw]
     simp only [upto, ho, Bool.false_eq_true, if_false, List.append_nil] at hi
     exact hi
  have := Evt.diag (key (to + 1 - fr).toNat 0 (by omega))
  refine this.mono fun n hn => ?_
  simpa [upto, dcv] using hn
 ·refine (Qdd lb fr to days).and (Evt.ge 1) |>.mono fun n hn => ?_
  obtain ⟨hn, h1⟩ := hn
  obtain ⟨k, hk⟩ : ∃ m, n = m + 1 := ⟨n - 1, by omega⟩
  have : ∀ k', k' = n → Qdi lb n k' fr to days true [] fr = some (.list (QaA fr to days).isEmpty (dcv (QaA fr to days))) := by
   intro k' e
   rw [show k' = k + 1 by omega, Qei, hn]
   simp only [QaB, QaD, QaI, QaR, QaM, QaW, QaV, get0, get1, get2, get3, QaE, cond_true, cond_false, List.length_cons, List.length_nil, Nat.zero_add, Nat.reduceAdd, Nat.reduceBEq, beq_self_eq_true, Qas, Qar]
   rw [beqF h0, cond_false, Qim]
   unfold QaA
   rw [if_neg h0]
   rfl
  exact this n rfl
end Go.Proofs
set_option linter.unusedSimpArgs false
namespace Go.Proofs
open Go.Am
variable (lb : Nat)
theorem Qgi {α : Type} (l : List α) : l = [] ∨ ∃ a x, l = a ++ [x] := by
 rcases List.eq_nil_or_concat l with h | ⟨a, x, h⟩
 ·exact .inl h
 ·exact .inr ⟨a, x, by rw [h, List.concat_eq_append]⟩
structure Dt where
 car : Bs
 num : Int
 day : Int
 fro : Bs
 to : Bs
 dep : Int
 arr : Int
 eq : Bs
def dtcv (d : Dt) : List CV := [.str d.car, .int .i64 d.num, .int .i64 d.day, .str d.fro, .str d.to, .int .i64 d.dep, .int .i64 d.arr, .str d.eq]
def legF (p : Pc) (f : Fl) (day : Int) (x : Lg) : Dt := ⟨f.car, f.num, day, x.fro, x.to, atF p x.fro day x.dep, atF p x.to day x.arr, x.eq⟩
def Qbp (p : Pc) (f : Fl) (day : Int) : List Dt := f.legs.map (legF p f day)
def ordG : Bool → Int → List (Int × Int) → Bool
 | _, _, [] => true
 | first, b, x :: r => if x.1 ≥ x.2 then false else bif first then ordG false x.2 r else if x.1 < b then false else ordG false x.2 r
def ordF (p : Pc) (l : List Lg) (day : Int) : Bool := ordG true 0 (l.map fun x => (atF p x.fro day x.dep, atF p x.to day x.arr))
theorem QkI (m : Int) : Ret lb Qct [.int .i64 m] (.bool (!decide (-1440 ≤ m ∧ m < 5760))) := by
 refine .top rfl (.eq (fun n => by rw [Qq9]) (.of ?_))
 by_cases h : m < -1440
 ·rw [decT h, cond_true, decF (by omega)]
  rfl
 ·rw [decF h, cond_false, ← decide_not]
  congr 2
  exact decide_eq_decide.2 (by omega)
theorem Qmp (an : Bool) (l : List Dt) (hl : l.length ≤ 1000) : Ret lb Qa2 [.list an (l.map dtcv)] (.bool (ordG true 0 (l.map fun x => (x.dep, x.arr)))) := by
 refine .top rfl (.eq (fun n => by rw [Qm1]) ?_)
 have key := QcD (enc := dtcv) (l := l) (by omega) (P := fun q t n k => QcT lb n k an (l.map dtcv) (q.length : Int) = some (.bool (ordG q.isEmpty ((q.getLast?.map (·.arr)).getD 0) (t.map fun x => (x.dep, x.arr))))) (by
  refine .all fun n k => ?_
  rw [QeW, decF (by simp), cond_false, Qky]
  rfl) (by
  intro q x t hq hlt hat hw hev
  refine hev.mono fun n hn k hk => ?_
  have hn := hn k hk
  rw [QeW, decT hlt, cond_true]
  simp only [hat, dtcv, QaB, QaD, QaI, QaR, QaM, QaW, QaV, get0, get1, get2, get3, QaE, cond_true, cond_false, List.length_cons, List.length_nil, Nat.zero_add, Nat.reduceAdd, Nat.reduceBEq, beq_self_eq_true, Qas, Qar, get4, get5, get6, hw]
  rw [show (q ++ [x]).isEmpty = false by simp, List.getLast?_append] at hn
  simp only [List.getLast?_singleton, Option.some_or, Option.map_some, Option.getD_some] at hn
  obtain ⟨b0, hb0⟩ : ∃ b, ((q.getLast?.map (·.arr)).getD 0) = b := ⟨_, rfl⟩
  rw [hb0]
  simp only [List.map_cons, ordG]
  by_cases h : x.dep ≥ x.arr
  ·rw [decT h, cond_true, if_pos h]
  ·rw [decF h, cond_false, if_neg h]
   rcases Qgi q with rfl | ⟨q', y, rfl⟩
   ·rw [decF (by simp), cond_false]
    exact hn
   ·have hlen : l.length = q'.length + (t.length + 2) := by rw [← hq]; simp only [List.length_append, List.length_cons, List.length_nil]; omega
    have hwl : IntKind.wrap .i64 (((q' ++ [y]).length : Int) - 1) = (q'.length : Int) := by
     rw [List.length_append, List.length_singleton, QaF (by omega) (by omega)]
     omega
    have hpre : atL (l.map dtcv) (q'.length : Int) = some (dtcv y) := QaO (by rw [← hq]; simp)
    rw [decT (by rw [List.length_append, List.length_singleton]; omega), cond_true, hwl, hpre]
    simp only [dtcv, QaB, QaD, QaI, QaR, QaM, QaW, QaV, get0, get1, get2, get3, QaE, cond_true, cond_false, List.length_cons, List.length_nil, Nat.zero_add, Nat.reduceAdd, Nat.reduceBEq, beq_self_eq_true, Qas, Qar, get4, get5, get6]
    rw [List.getLast?_append] at hb0
    simp only [List.getLast?_singleton, Option.some_or, Option.map_some, Option.getD_some] at hb0
    subst hb0
    rw [show (q' ++ [y]).isEmpty = false by simp]
    by_cases h3 : x.dep < y.arr
    ·rw [decT h3, cond_true, cond_false, if_pos h3]
    ·rw [decF h3, cond_false, cond_false, if_neg h3]
     exact hn) l [] rfl
 exact Evt.diag key
theorem QmE (p : Pc) (hp : QbP p) (f : Fl) (hl : f.legs.length ≤ 1000) (day : Int) : Ret lb Qbb [pcv p, flcv f, .int .i64 day]
  (if hasF f.fr f.to f.days day then .tup [.list false ((Qbp p f day).map dtcv), .int .i64 0] else .tup [.list true [], .int .i64 12]) := by
 refine .top rfl (.eq (fun n => by rw [QmY]) ?_)
 refine .call (Qh5 lb f.fr f.to f.days day) ?_
 simp only [QaB, QaD, QaI, QaR, QaM, QaW, QaV, get0, get1, get2, get3, QaE, cond_true, cond_false, List.length_cons, List.length_nil, Nat.zero_add, Nat.reduceAdd, Nat.reduceBEq, beq_self_eq_true, Qas, Qar]
 cases hh : hasF f.fr f.to f.days day with
 | false => exact .of rfl
 | true =>
  simp only [Bool.not_true, cond_false, if_true]
  refine .chk (by simp only [List.length_map, Bool.and_eq_true, decide_eq_true_eq]; omega) ?_
  have key := QcD (enc := lgcv) (l := f.legs) (by omega) (P := fun q t n k => QdX lb n k p.an (p.aps.map apcv) p.dn (p.dis.map dicv) f.car f.num f.fr f.to f.days f.ln (f.legs.map lgcv) day ((q.map (legF p f day)).map dtcv) (q.length : Int) =
    some (.tup [.list false ((Qbp p f day).map dtcv), .int .i64 0])) (by
   refine .all fun n k => ?_
   rw [QeY, decF (by simp), cond_false, Qkt]
   rfl) (by
   intro q x t hq hlt hat hw hev
   refine Evt.imp2 hev (Qlx lb p hp x day) fun n hn h2 k hk => ?_
   have hn := hn k hk
   rw [lgcv] at h2
   have hql : q.length ≤ 1000 := by have : f.legs.length = q.length + (t.length + 1) := by rw [← hq]; simp
                                    omega
   rw [QeY, decT hlt, cond_true]
   simp only [hat, lgcv, QaB, QaD, QaI, QaR, QaM, QaW, QaV, get0, get1, get2, get3, QaE, cond_true, cond_false, List.length_cons, List.length_nil, Nat.zero_add, Nat.reduceAdd, Nat.reduceBEq, beq_self_eq_true, Qas, Qar, get4, hw, h2]
   rw [QbN (by simp; omega) (by omega), QaE]
   simpa [List.map_append, legF, dtcv] using hn) f.legs [] rfl
  exact Evt.diag key
theorem QjM (p : Pc) (hp : QbP p) (f : Fl) (hl : f.legs.length ≤ 1000) (day : Int) : Ret lb Qbi [pcv p, flcv f, .int .i64 day] (.list f.legs.isEmpty ((Qbp p f day).map dtcv)) := by
 refine .top rfl (.eq (fun n => by rw [Qql]) ?_)
 have key := QcD (enc := lgcv) (l := f.legs) (by omega) (P := fun q t n k => QfH lb n k p.an (p.aps.map apcv) p.dn (p.dis.map dicv) f.car f.num f.fr f.to f.days f.ln (f.legs.map lgcv) day q.isEmpty ((q.map (legF p f day)).map dtcv) (q.length : Int) =
   some (.list f.legs.isEmpty ((Qbp p f day).map dtcv))) (by
  refine .all fun n k => ?_
  rw [QgV, decF (by simp), cond_false, QmN]
  rfl) (by
  intro q x t hq hlt hat hw hev
  refine Evt.imp2 hev (Evt.imp2 (Qla lb p hp x.fro day x.dep) (Qla lb p hp x.to day x.arr) fun n h1 h2 => And.intro h1 h2) fun n hn h2 k hk => ?_
  have hn := hn k hk
  have hql : q.length ≤ 1000 := by have : f.legs.length = q.length + (t.length + 1) := by rw [← hq]; simp
                                   omega
  rw [QgV, decT hlt, cond_true]
  simp only [hat, lgcv, QaB, QaD, QaI, QaR, QaM, QaW, QaV, get0, get1, get2, get3, QaE, cond_true, cond_false, List.length_cons, List.length_nil, Nat.zero_add, Nat.reduceAdd, Nat.reduceBEq, beq_self_eq_true, Qas, Qar, get4, hw, h2.1, h2.2]
  rw [QbN (by simp; omega) (by omega), QaE, Qbv q x]
  simpa [List.map_append, legF, dtcv] using hn) f.legs [] rfl
 exact Evt.diag key
end Go.Proofs
