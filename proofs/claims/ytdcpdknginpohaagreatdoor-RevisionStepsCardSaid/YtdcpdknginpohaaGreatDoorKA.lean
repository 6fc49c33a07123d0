/- Chapter 7 on plain data: airports, zones, periods; finding an airport, the minute UTC of a local minute, the days of a period. Conditions: as each says. -/
import Derived.Test.YtdcpdknginpohaaGreatDoorGa
import Derived.Test.YtdcpdknginpohaaGreatDoorRy
set_option linter.unusedSimpArgs false
namespace Go.Proofs
open Go.Am
variable (lb : Nat)
theorem get4 {α : Type} (a b c d e : α) (l : List α) : (a :: b :: c :: d :: e :: l)[4]? = some e := rfl
theorem get5 {α : Type} (a b c d e f : α) (l : List α) : (a :: b :: c :: d :: e :: f :: l)[5]? = some f := rfl
theorem get6 {α : Type} (a b c d e f g : α) (l : List α) : (a :: b :: c :: d :: e :: f :: g :: l)[6]? = some g := rfl
abbrev W64 (x : Int) : Int := IntKind.wrap .i64 x
theorem QxA (x : Int) : -9223372036854775808 ≤ W64 x ∧ W64 x ≤ 9223372036854775807 := by
 unfold W64 IntKind.wrap
 simp only [IntKind.bits, IntKind.signed]
 simp
 omega
abbrev Sh := Int × Int
def shcv (s : Sh) : List CV := [.int .i64 s.1, .int .i64 s.2]
structure Ap where
 code : Bs
 city : Bs
 ctry : Bs
 off : Int
 sn : Bool
 sh : List Sh
def apcv (a : Ap) : List CV := [.str a.code, .str a.city, .str a.ctry, .int .i64 a.off, .list a.sn (a.sh.map shcv)]
def ap0 : Ap := ⟨[], [], [], 0, true, []⟩
structure Di where
 fro : Bs
 to : Bs
 mi : Int
def dicv (d : Di) : List CV := [.str d.fro, .str d.to, .int .i64 d.mi]
structure Pc where
 an : Bool
 aps : List Ap
 dn : Bool
 dis : List Di
abbrev pcv (p : Pc) : CV := .agg [.list p.an (p.aps.map apcv), .list p.dn (p.dis.map dicv)]
structure Lg where
 fro : Bs
 to : Bs
 dep : Int
 arr : Int
 eq : Bs
def lgcv (l : Lg) : List CV := [.str l.fro, .str l.to, .int .i64 l.dep, .int .i64 l.arr, .str l.eq]
structure Fl where
 car : Bs
 num : Int
 fr : Int
 to : Int
 days : Int
 ln : Bool
 legs : List Lg
abbrev flcv (f : Fl) : CV := .agg [.str f.car, .int .i64 f.num, .int .i64 f.fr, .int .i64 f.to, .int .i64 f.days, .list f.ln (f.legs.map lgcv)]
def Qcx (s : Bs) : List Ap → Option Ap
 | [] => none
 | a :: t => if a.code = s then some a else Qcx s t
def Qg1 (s : Bs) (l : List Ap) : CV := .tup [.agg (apcv ((Qcx s l).getD ap0)), .bool (Qcx s l).isSome]
theorem Qfv (p : Pc) (s : Bs) (hp : p.aps.length ≤ 281474976710656) : Ret lb Qbk [pcv p, .str s] (Qg1 s p.aps) := by
 refine .top rfl (.eq (fun n => by rw [QrO]) ?_)
 refine Evt.diag (m := p.aps.length) (QdF (enc := apcv) (l := p.aps) hp (P := fun q t n k => QfY lb n k p.an (p.aps.map apcv) p.dn (p.dis.map dicv) s (q.length : Int) = some (Qg1 s t)) ?_ ?_ p.aps [] rfl)
 ·refine .all fun n k => ?_
  rw [Qhl, decF (by simp), cond_false, Qok]
  rfl
 ·intro q x t hq hlt hat hw hev
  refine hev.mono fun n hn k hk => ?_
  have hn := hn k hk
  rw [Qhl, decT hlt, cond_true]
  simp only [hat, apcv, QaF, QaB, QaL, Qa4, Qa0, Qa6, Qa7, get0, get1, get2, get3, QaN, cond_true, cond_false, List.length_cons, List.length_nil, Nat.zero_add, Nat.reduceAdd, Nat.reduceBEq, beq_self_eq_true, Qay, Qav, get4, hw]
  unfold Qg1 Qcx
  by_cases h : x.code = s
  ·rw [show (x.code == s) = true by simpa using h, cond_true, if_pos h]
   rfl
  ·rw [show (x.code == s) = false by simpa using h, cond_false, if_neg h]
   exact hn
theorem Qi8 (p : Pc) (s : Bs) (hp : p.aps.length ≤ 281474976710656) : Ret lb QbN [pcv p, .str s] (Qg1 s p.aps) := by
 refine .top rfl (.eq (fun n => by rw [Qvc]) ?_)
 refine Evt.diag (m := p.aps.length) (QdF (enc := apcv) (l := p.aps) hp (P := fun q t n k => r06_Find_L1 lb n k p.an (p.aps.map apcv) p.dn (p.dis.map dicv) s (q.length : Int) = some (Qg1 s t)) ?_ ?_ p.aps [] rfl)
 ·refine .all fun n k => ?_
  rw [Qjr, decF (by simp), cond_false, Qr5]
  rfl
 ·intro q x t hq hlt hat hw hev
  refine hev.mono fun n hn k hk => ?_
  have hn := hn k hk
  rw [Qjr, decT hlt, cond_true]
  simp only [hat, apcv, QaF, QaB, QaL, Qa4, Qa0, Qa6, Qa7, get0, get1, get2, get3, QaN, cond_true, cond_false, List.length_cons, List.length_nil, Nat.zero_add, Nat.reduceAdd, Nat.reduceBEq, beq_self_eq_true, Qay, Qav, get4, hw]
  unfold Qg1 Qcx
  by_cases h : x.code = s
  ·rw [show (x.code == s) = true by simpa using h, cond_true, if_pos h]
   rfl
  ·rw [show (x.code == s) = false by simpa using h, cond_false, if_neg h]
   exact hn
theorem QoD : ∀ l : List Sh, QeU (l.map shcv) = some l
 | [] => rfl
 | s :: l => by
  show (QeU (l.map shcv)).map ((s.1, s.2) :: ·) = _
  rw [QoD l]; rfl
def maxI (a b : Int) : Int := if a > b then a else b
def utcG (loc : Int) : Int → List Sh → Int
 | u, [] => u
 | u, s :: r => if u < s.1 then u else utcG loc (maxI (W64 (loc - s.2)) s.1) r
def utcF (off : Int) (sh : List Sh) (loc : Int) : Int := utcG loc (W64 (loc - off)) sh
def utcP (loc : Int) : Int → List (Int × Int × Int) → Int
 | u, [] => u
 | _, s :: r => if maxI (W64 (loc - s.2.2)) s.1 < s.2.1 then maxI (W64 (loc - s.2.2)) s.1 else utcP loc (maxI (W64 (loc - s.2.2)) s.1) r
theorem Qqk (loc : Int) : ∀ (l : List Sh) (u fr o : Int), utcP loc u (Qcl fr o l) = utcG loc (maxI (W64 (loc - o)) fr) l
 | [], u, fr, o => by
  simp only [Qcl, utcP, utcG]
  split <;> rfl
 | (a, o') :: r, u, fr, o => by
  simp only [Qcl, utcP, utcG]
  split
  ·rfl
  ·exact Qqk loc r _ a o'
theorem Qyo (loc o : Int) : maxI (W64 (loc - o)) (-9223372036854775808) = W64 (loc - o) := by
 have := (QxA (loc - o)).1
 unfold maxI
 split <;> omega
theorem Qsk : ∀ (l : List Sh) (fr o : Int), (Qcl fr o l).length = l.length + 1
 | [], _, _ => rfl
 | (a, o') :: r, fr, o => by simp [Qcl, Qsk r]
theorem Qrt (off : Int) (sn : Bool) (sh : List Sh) (h : sh.length ≤ 1000000000000) : Ret lb QgW [.agg [.int .i64 off, .list sn (sh.map shcv)]] (.list false ((Qcl (-9223372036854775808) off sh).map Qgc)) :=
 .lib (s := QjW) rfl (by
  show (match QeU (sh.map shcv) with | some s => if s.length ≤ 1000000000000 then some (CV.list false ((Qcl (-9223372036854775808) off s).map Qgc)) else none | none => none) = _
  rw [QoD]
  simp only
  rw [if_pos h])
theorem QnA (off : Int) (sn : Bool) (sh : List Sh) (loc : Int) (h : sh.length ≤ 1000000000000) : Ret lb QbO [.agg [.int .i64 off, .list sn (sh.map shcv)], .int .i64 loc] (.int .i64 (utcF off sh loc)) := by
 refine .top rfl (.eq (fun n => by rw [QvD]) ?_)
 refine .call (Qrt lb off sn sh h) ?_
 simp only [Qa0, QaF]
 obtain ⟨sp, hsp⟩ : ∃ sp, Qcl (-9223372036854775808) off sh = sp := ⟨_, rfl⟩
 have hl : sp.length ≤ 281474976710656 := by rw [← hsp, Qsk]; omega
 have key := QdF (enc := Qgc) (l := sp) hl (P := fun q t n k => ∀ u, QhR lb n k off sn (sh.map shcv) loc (.list false (sp.map Qgc)) (false, sp.map Qgc) u (q.length : Int) = some (.int .i64 (utcP loc u t))) (by
  refine .all fun n k u => ?_
  rw [Qi7, decF (by simp), cond_false, QrT]
  rfl) (by
  intro q x t hq hlt hat hw hev
  refine hev.mono fun n hn k hk u => ?_
  have hn := hn k hk
  rw [Qi7, decT hlt, cond_true]
  simp only [hat, Qgc, QaF, QaB, QaL, Qa4, Qa0, Qa6, Qa7, get0, get1, get2, get3, QaN, cond_true, cond_false, List.length_cons, List.length_nil, Nat.zero_add, Nat.reduceAdd, Nat.reduceBEq, beq_self_eq_true, Qay, Qav, hw]
  unfold utcP maxI
  by_cases h : (if W64 (loc - x.2.2) > x.1 then W64 (loc - x.2.2) else x.1) < x.2.1
  ·rw [decT h, cond_true, if_pos h, Qrk]
  ·rw [decF h, cond_false, if_neg h]
   exact hn _) sp [] rfl
 refine (Evt.diag key).mono fun n hn => ?_
 rw [hsp]
 have := hn 0
 rw [← hsp, Qqk, Qyo] at this
 rw [← hsp]
 exact this
theorem Qvn (off : Int) (sn : Bool) (sh : List Sh) (loc : Int) (h : sh.length ≤ 281474976710656) : Ret lb Qc6 [.agg [.int .i64 off, .list sn (sh.map shcv)], .int .i64 loc] (.int .i64 (utcF off sh loc)) := by
 refine .top rfl (.eq (fun n => by rw [QwW]) ?_)
 have key := QdF (enc := shcv) (l := sh) h (P := fun q t n k => ∀ u, QiT lb n k off sn (sh.map shcv) loc u (q.length : Int) = some (.int .i64 (utcG loc u t))) (by
  refine .all fun n k u => ?_
  rw [QjV, decF (by simp), cond_false, Qte]
  rfl) (by
  intro q x t hq hlt hat hw hev
  refine hev.mono fun n hn k hk u => ?_
  have hn := hn k hk
  rw [QjV, decT hlt, cond_true]
  simp only [hat, shcv, QaF, QaB, QaL, Qa4, Qa0, Qa6, Qa7, get0, get1, get2, get3, QaN, cond_true, cond_false, List.length_cons, List.length_nil, Nat.zero_add, Nat.reduceAdd, Nat.reduceBEq, beq_self_eq_true, Qay, Qav, hw]
  unfold utcG maxI
  by_cases h : u < x.1
  ·rw [decT h, cond_true, if_pos h]
  ·rw [decF h, cond_false, if_neg h]
   exact hn _) sh [] rfl
 exact (Evt.diag key).mono fun n hn => hn _
def apOf (p : Pc) (s : Bs) : Ap := (Qcx s p.aps).getD ap0
def atF (p : Pc) (s : Bs) (day m : Int) : Int := utcF (apOf p s).off (apOf p s).sh (W64 (W64 (day * 1440) + m))
def Qbw (p : Pc) : Prop := p.aps.length ≤ 281474976710656 ∧ ∀ a ∈ p.aps, a.sh.length ≤ 256
theorem Qnr {s : Bs} {a : Ap} : ∀ {l : List Ap}, Qcx s l = some a → a ∈ l ∧ a.code = s
 | x :: l, h => by
  unfold Qcx at h
  split at h
  ·rename_i e
   cases h
   exact ⟨List.mem_cons_self .., e⟩
  ·exact ⟨List.mem_cons_of_mem _ (Qnr h).1, (Qnr h).2⟩
theorem QrQ {p : Pc} (hp : Qbw p) (s : Bs) : (apOf p s).sh.length ≤ 256 := by
 unfold apOf
 cases h : Qcx s p.aps with
 | none => simp [ap0]
 | some a => exact hp.2 a (Qnr h).1
theorem QpB (p : Pc) (hp : Qbw p) (x : Lg) (day : Int) : Ret lb QhI [pcv p, .agg (lgcv x), .int .i64 day] (.tup [.int .i64 (atF p x.fro day x.dep), .int .i64 (atF p x.to day x.arr)]) := by
 refine .top rfl (.eq (fun n => by rw [lgcv, QqJ]) ?_)
 refine .call (Qfv lb p x.fro hp.1) ?_
 simp only [Qg1, apcv, QaF, QaB, QaL, Qa4, Qa0, Qa6, Qa7, get0, get1, get2, get3, QaN, cond_true, cond_false, List.length_cons, List.length_nil, Nat.zero_add, Nat.reduceAdd, Nat.reduceBEq, beq_self_eq_true, Qay, Qav, get4]
 refine .call (Qfv lb p x.to hp.1) ?_
 simp only [Qg1, apcv, QaF, QaB, QaL, Qa4, Qa0, Qa6, Qa7, get0, get1, get2, get3, QaN, cond_true, cond_false, List.length_cons, List.length_nil, Nat.zero_add, Nat.reduceAdd, Nat.reduceBEq, beq_self_eq_true, Qay, Qav, get4]
 refine .call (QnA lb _ _ _ _ (by have := QrQ hp x.fro; unfold apOf at this; omega)) ?_
 refine .call (QnA lb _ _ _ _ (by have := QrQ hp x.to; unfold apOf at this; omega)) ?_
 exact .of rfl
theorem QoB (p : Pc) (hp : Qbw p) (s : Bs) (day m : Int) : Ret lb Qkc [pcv p, .str s, .int .i64 day, .int .i64 m] (.int .i64 (atF p s day m)) := by
 refine .top rfl (.eq (fun n => by rw [QwH]) ?_)
 refine .call (Qi8 lb p s hp.1) ?_
 simp only [Qg1, apcv, QaF, QaB, QaL, Qa4, Qa0, Qa6, Qa7, get0, get1, get2, get3, QaN, cond_true, cond_false, List.length_cons, List.length_nil, Nat.zero_add, Nat.reduceAdd, Nat.reduceBEq, beq_self_eq_true, Qay, Qav, get4]
 refine .call (Qvn lb _ _ _ _ (by have := QrQ hp s; unfold apOf at this; omega)) ?_
 exact .of rfl
end Go.Proofs
set_option linter.unusedSimpArgs false
namespace Go.Proofs
open Go.Am
variable (lb : Nat)
theorem QbY (fr to days : Int) : Ret lb QbA [.agg [.int .i64 fr, .int .i64 to, .int .i64 days]] (.int .i64 (perE fr to days)) := by
 refine .top rfl (.eq (fun n => by rw [Qqi]) (.of ?_))
 unfold perE
 by_cases h1 : fr < 0
 ·rw [decT h1, cond_true, if_pos (.inl h1)]
 by_cases h2 : to < fr
 ·rw [decF h1, cond_false, decT h2, cond_true, if_pos (.inr (.inl h2))]
 by_cases h3 : to ≥ 36525
 ·rw [decF h1, cond_false, decF h2, cond_false, decT h3, cond_true, if_pos (.inr (.inr h3))]
 rw [decF h1, cond_false, decF h2, cond_false, decF h3, cond_false, if_neg (by omega), Qaz (by omega) (by omega)]
 by_cases h4 : to - fr ≥ 800
 ·rw [decT h4, cond_true, if_pos h4]
 rw [decF h4, cond_false, if_neg h4]
 by_cases h5 : days < 1
 ·rw [decT h5, cond_true, if_pos (.inl h5)]
 by_cases h6 : days > 127
 ·rw [decF h5, cond_false, decT h6, cond_true, if_pos (.inr h6)]
 rw [decF h5, cond_false, decF h6, cond_false, if_neg (by omega)]
theorem Qdx (fr to days : Int) : Ret lb Qdk [.agg [.int .i64 fr, .int .i64 to, .int .i64 days]] (.int .i64 (perE fr to days)) := by
 refine .top rfl (.eq (fun n => by rw [Qt5]) (.of ?_))
 unfold perE
 by_cases h1 : fr < 0
 ·rw [decT h1, cond_true, if_pos (.inl h1)]
 by_cases h2 : fr > to
 ·rw [decF h1, cond_false, decT h2, cond_true, if_pos (.inr (.inl h2))]
 by_cases h3 : to ≥ 36525
 ·rw [decF h1, cond_false, decF h2, cond_false, decT h3, cond_true, if_pos (.inr (.inr h3))]
 rw [decF h1, cond_false, decF h2, cond_false, decF h3, cond_false, if_neg (by omega), Qaz (by omega) (by omega)]
 by_cases h4 : to - fr ≥ 800
 ·rw [decT h4, cond_true, if_pos h4]
 rw [decF h4, cond_false, if_neg h4]
 by_cases h5 : days < 1
 ·rw [decT h5, cond_true, if_pos (.inl h5)]
 by_cases h6 : days > 127
 ·rw [decF h5, cond_false, decT h6, cond_true, if_pos (.inr h6)]
 rw [decF h5, cond_false, decF h6, cond_false, if_neg (by omega)]
theorem Qe8 {fr to days : Int} (h : perE fr to days = 0) : 0 ≤ fr ∧ fr ≤ to ∧ to < 36525 ∧ to - fr < 800 ∧ 1 ≤ days ∧ days ≤ 127 := by
 unfold perE at h
 split at h
 ·omega
 ·split at h
  ·omega
  ·split at h <;> omega
theorem QqE (day : Int) : Int.tmod (W64 (Int.tmod day 7 + 12)) 7 = Qa9 day := by
 have h1 := Int.tmod_lt_of_pos day (show (0 : Int) < 7 by decide)
 have h2 := Int.lt_tmod_of_pos day (show (0 : Int) < 7 by decide)
 unfold Qa9
 rw [show W64 (Int.tmod day 7 + 12) = Int.tmod day 7 + 12 from Qaz (by omega) (by omega)]
theorem Qdm {day : Int} (h : 0 ≤ day) : 0 ≤ Qa9 day ∧ Qa9 day ≤ 6 := by
 have h1 : 0 ≤ Int.tmod day 7 := Int.tmod_nonneg _ h
 unfold Qa9
 have h3 : 0 ≤ Int.tmod (Int.tmod day 7 + 12) 7 := Int.tmod_nonneg _ (by omega)
 have h4 : Int.tmod (Int.tmod day 7 + 12) 7 < 7 := Int.tmod_lt_of_pos _ (by omega)
 omega
theorem QlE (day : Int) : Ret lb Qed [.int .i64 day] (.int .i64 (Qa9 day)) :=
 .top rfl (.eq (fun n => by rw [QmC, QqE]) (.of rfl))
theorem Qkd (day : Int) : Ret lb Qio [.int .i64 day] (.int .i64 (Qa9 day)) :=
 .top rfl (.eq (fun n => by rw [QrG, QqE]) (.of rfl))
theorem QzV : ∀ (d : Fin 128) (w : Fin 7), (Int.tmod (W64 (Int.tdiv ((d.val : Nat) : Int) (2 ^ ((w.val : Nat) : Int).toNat))) 2 == 1) = (((d.val : Nat) : Int) / 2 ^ ((w.val : Nat) : Int).toNat % 2 == 1) := by decide +kernel
theorem Qoz (day : Int) (h : 0 ≤ day) : Ret lb Qcu [.int .i64 day] (.int .i64 (2 ^ (Qa9 day).toNat)) := by
 refine .top rfl (.eq (fun n => by rw [Qwi]) ?_)
 obtain ⟨h1, h2⟩ := Qdm h
 have key : ∀ (m j : Nat), j + m = (Qa9 day).toNat → Evt fun n => ∀ k, m < k → QiP lb n k day (2 ^ j) (j : Int) = some (.int .i64 (2 ^ (Qa9 day).toNat)) := by
  intro m
  induction m with
  | zero =>
   intro j hj
   refine (Qkd lb day).mono fun n hn k hk => ?_
   obtain ⟨k, rfl⟩ : ∃ m, k = m + 1 := ⟨k - 1, by omega⟩
   rw [QjP, hn]
   simp only [QaF, QaB, QaL, Qa4, Qa0, Qa6, Qa7, get0, get1, get2, get3, QaN, cond_true, cond_false, List.length_cons, List.length_nil, Nat.zero_add, Nat.reduceAdd, Nat.reduceBEq, beq_self_eq_true, Qay, Qav]
   rw [decF (by omega), cond_false, Qs2, ← hj]
   rfl
  | succ m ih =>
   intro j hj
   refine Evt.imp2 (Qkd lb day) (ih (j + 1) (by omega)) fun n hn hi k hk => ?_
   obtain ⟨k, rfl⟩ : ∃ m, k = m + 1 := ⟨k - 1, by omega⟩
   rw [QjP, hn]
   simp only [QaF, QaB, QaL, Qa4, Qa0, Qa6, Qa7, get0, get1, get2, get3, QaN, cond_true, cond_false, List.length_cons, List.length_nil, Nat.zero_add, Nat.reduceAdd, Nat.reduceBEq, beq_self_eq_true, Qay, Qav]
   have hp : (2 : Int) ^ j ≤ 64 := by
    have hj6 : j ≤ 6 := by omega
    exact (show ∀ q : Fin 7, (2 : Int) ^ q.val ≤ 64 by decide) ⟨j, by omega⟩
   have hp0 : (0 : Int) < 2 ^ j := Int.pow_pos (by decide)
   rw [decT (by omega), cond_true, Qaz (by omega) (by omega), Qaz (by omega) (by omega)]
   have := hi k (by omega)
   rw [Int.pow_succ, Int.mul_comm] at this
   simpa using this
 have := Evt.diag (key (Qa9 day).toNat 0 (by omega))
 simpa using this
theorem QxF {days : Int} {day : Int} (hd : 0 ≤ days ∧ days ≤ 127) (h : 0 ≤ day) : (Int.tmod (W64 (Int.tdiv days (2 ^ (Qa9 day).toNat))) 2 == 1) = onF days day := by
 obtain ⟨h1, h2⟩ := Qdm h
 obtain ⟨d, rfl⟩ := Int.eq_ofNat_of_zero_le hd.1
 obtain ⟨w, hw⟩ := Int.eq_ofNat_of_zero_le h1
 unfold onF
 rw [hw]
 exact QzV ⟨d, by omega⟩ ⟨w, by omega⟩
def hasF (fr to days day : Int) : Bool := decide (perE fr to days = 0) && (decide (fr ≤ day) && (decide (day ≤ to) && onF days day))
theorem Qkv (fr to days day : Int) : Ret lb Qie [.agg [.int .i64 fr, .int .i64 to, .int .i64 days], .int .i64 day] (.bool (hasF fr to days day)) := by
 refine .top rfl (.eq (fun n => by rw [Qwn]) ?_)
 refine .call (Qdx lb fr to days) ?_
 simp only [QaF, QaB, QaL, Qa4, Qa0, Qa6, Qa7, get0, get1, get2, get3, QaN, cond_true, cond_false, List.length_cons, List.length_nil, Nat.zero_add, Nat.reduceAdd, Nat.reduceBEq, beq_self_eq_true, Qay, Qav]
 unfold hasF
 by_cases h0 : perE fr to days = 0
 ·simp only [beqT h0, cond_true, decT h0]
  obtain ⟨a0, a1, a2, a3, a4, a5⟩ := Qe8 h0
  by_cases h1 : fr ≤ day
  ·simp only [ge_iff_le, decT h1, cond_true]
   by_cases h2 : day ≤ to
   ·simp only [decT h2, cond_true]
    refine .call (Qoz lb day (by omega)) ?_
    simp only [QaF, QaB, QaL, Qa4, Qa0, Qa6, Qa7, get0, get1, get2, get3, QaN, cond_true, cond_false, List.length_cons, List.length_nil, Nat.zero_add, Nat.reduceAdd, Nat.reduceBEq, beq_self_eq_true, Qay, Qav]
    have hp : (0 : Int) < 2 ^ (Qa9 day).toNat := Int.pow_pos (by decide)
    simp only [show ((2 : Int) ^ (Qa9 day).toNat != 0) = true from bneT (by omega), QaN, QxF ⟨(show 0 ≤ days by omega), a5⟩ (show 0 ≤ day by omega)]
    exact .of (by simp)
   ·simp only [decF h2, cond_false]
    exact .of (by simp)
  ·simp only [ge_iff_le, decF h1, cond_false]
   exact .of (by simp)
 ·simp only [beqF h0, cond_false, decF h0]
  exact .of (by simp)
def dcv (l : List Int) : List (List CV) := l.map fun x => [CV.int .i64 x]
theorem Qqh (fr to days : Int) : Ret lb Qgm [.agg [.int .i64 fr, .int .i64 to, .int .i64 days]] (.list (Qat fr to days).isEmpty (dcv (Qat fr to days))) := .lib (s := Qlp) rfl rfl
theorem Qr7 (fr days : Int) : ∀ k, (upto fr days k).length ≤ k
 | 0 => Nat.le_refl _
 | k + 1 => by
  have := Qr7 fr days k
  simp only [upto, List.length_append]
  split <;> simp <;> omega
theorem Qa8 {n b : Nat} (h : n ≤ 1000000) (h2 : b ≤ 1000) : room n b = true := by
 unfold room
 have : n * b ≤ 1000000 * 1000 := Nat.mul_le_mul h h2
 exact decide_eq_true (by omega)
theorem Qbr {α : Type} (l : List α) (x : α) (b : Bool) : (b && false) = (l ++ [x]).isEmpty := by simp
theorem Qji (fr to days : Int) : Ret lb Qb5 [.agg [.int .i64 fr, .int .i64 to, .int .i64 days]] (.list (Qat fr to days).isEmpty (dcv (Qat fr to days))) := by
 refine .top rfl (.eq (fun n => by rw [Qvy]) ?_)
 by_cases h0 : perE fr to days = 0
 ·obtain ⟨a0, a1, a2, a3, a4, a5⟩ := Qe8 h0
  have key : ∀ (m j : Nat), (j : Int) + m = to + 1 - fr → Evt fun n => ∀ k, m < k → Qfh lb n k fr to days (upto fr days j).isEmpty (dcv (upto fr days j)) (fr + j) = some (.list (Qat fr to days).isEmpty (dcv (Qat fr to days))) := by
   intro m
   induction m with
   | zero =>
    intro j hj
    refine (Qdx lb fr to days).mono fun n hn k hk => ?_
    obtain ⟨k, rfl⟩ : ∃ m, k = m + 1 := ⟨k - 1, by omega⟩
    rw [Qgs, hn]
    simp only [QaF, QaB, QaL, Qa4, Qa0, Qa6, Qa7, get0, get1, get2, get3, QaN, cond_true, cond_false, List.length_cons, List.length_nil, Nat.zero_add, Nat.reduceAdd, Nat.reduceBEq, beq_self_eq_true, Qay, Qav]
    rw [beqT h0, cond_true, decF (by omega), cond_false, Qlf]
    unfold Qat
    rw [if_pos h0, show (to + 1 - fr).toNat = j by omega]
   | succ m ih =>
    intro j hj
    refine Evt.imp2 (Evt.imp2 (Qdx lb fr to days) (Qkv lb fr to days (fr + j)) fun n h1 h2 => And.intro h1 h2) (ih (j + 1) (by omega)) fun n hn hi k hk => ?_
    obtain ⟨k, rfl⟩ : ∃ m, k = m + 1 := ⟨k - 1, by omega⟩
    rw [Qgs, hn.1, hn.2]
    simp only [QaF, QaB, QaL, Qa4, Qa0, Qa6, Qa7, get0, get1, get2, get3, QaN, cond_true, cond_false, List.length_cons, List.length_nil, Nat.zero_add, Nat.reduceAdd, Nat.reduceBEq, beq_self_eq_true, Qay, Qav]
    rw [beqT h0, cond_true, decT (by omega), cond_true]
    have hi := hi k (by omega)
    have hh : hasF fr to days (fr + j) = onF days (fr + j) := by
     unfold hasF
     rw [decT h0, decT (by omega), decT (by omega)]
     rfl
    have hw : IntKind.wrap .i64 (fr + j + 1) = fr + ((j + 1 : Nat) : Int) := by rw [Qaz (by omega) (by omega)]; omega
    have hul := Qr7 fr days j
    rw [hh]
    cases ho : onF days (fr + j) with
    | true =>
     rw [cond_true, Qa8 (by simp [dcv]; omega) (by omega), QaN, hw]
     simp only [upto, ho, if_true] at hi
     rw [Qbr (upto fr days j) (fr + j)]
     simpa [dcv] using hi
    | false =>
     rw [cond_false, hw]
     simp only [upto, ho, Bool.false_eq_true, if_false, List.append_nil] at hi
     exact hi
  have := Evt.diag (key (to + 1 - fr).toNat 0 (by omega))
  refine this.mono fun n hn => ?_
  simpa [upto, dcv] using hn
 ·refine (Qdx lb fr to days).and (Evt.ge 1) |>.mono fun n hn => ?_
  obtain ⟨hn, h1⟩ := hn
  obtain ⟨k, hk⟩ : ∃ m, n = m + 1 := ⟨n - 1, by omega⟩
  have : ∀ k', k' = n → Qfh lb n k' fr to days true [] fr = some (.list (Qat fr to days).isEmpty (dcv (Qat fr to days))) := by
   intro k' e
   rw [show k' = k + 1 by omega, Qgs, hn]
   simp only [QaF, QaB, QaL, Qa4, Qa0, Qa6, Qa7, get0, get1, get2, get3, QaN, cond_true, cond_false, List.length_cons, List.length_nil, Nat.zero_add, Nat.reduceAdd, Nat.reduceBEq, beq_self_eq_true, Qay, Qav]
   rw [beqF h0, cond_false, Qlf]
   unfold Qat
   rw [if_neg h0]
   rfl
  exact this n rfl
end Go.Proofs
set_option linter.unusedSimpArgs false
namespace Go.Proofs
open Go.Am
variable (lb : Nat)
theorem Qhc {α : Type} (l : List α) : l = [] ∨ ∃ a x, l = a ++ [x] := by
 rcases List.eq_nil_or_concat l with h | ⟨a, x, h⟩
 ·exact .inl h
 ·exact .inr ⟨a, x, by rw [h, List.concat_eq_append]⟩
structure Dt where
 car : Bs
 num : Int
 day : Int
 fro : Bs
 to : Bs
 dep : Int
 arr : Int
 eq : Bs
def dtcv (d : Dt) : List CV := [.str d.car, .int .i64 d.num, .int .i64 d.day, .str d.fro, .str d.to, .int .i64 d.dep, .int .i64 d.arr, .str d.eq]
def legF (p : Pc) (f : Fl) (day : Int) (x : Lg) : Dt := ⟨f.car, f.num, day, x.fro, x.to, atF p x.fro day x.dep, atF p x.to day x.arr, x.eq⟩
def Qkl (p : Pc) (f : Fl) (day : Int) : List Dt := f.legs.map (legF p f day)
def ordG : Bool → Int → List (Int × Int) → Bool
 | _, _, [] => true
 | first, b, x :: r => if x.1 ≥ x.2 then false else bif first then ordG false x.2 r else if x.1 < b then false else ordG false x.2 r
def ordF (p : Pc) (l : List Lg) (day : Int) : Bool := ordG true 0 (l.map fun x => (atF p x.fro day x.dep, atF p x.to day x.arr))
theorem Qil (m : Int) : Ret lb QbJ [.int .i64 m] (.bool (decide (-1440 ≤ m ∧ m < 5760))) := by
 refine .top rfl (.eq (fun n => by rw [Qop]) (.of ?_))
 by_cases h : m ≥ -1440
 ·rw [decT h, cond_true]
  congr 2
  exact decide_eq_decide.2 ⟨fun q => ⟨h, q⟩, fun q => q.2⟩
 ·rw [decF h, cond_false, decF (by omega)]
theorem QoK (m : Int) : Ret lb QdM [.int .i64 m] (.bool (!decide (-1440 ≤ m ∧ m < 5760))) := by
 refine .top rfl (.eq (fun n => by rw [Qwe]) (.of ?_))
 by_cases h : m < -1440
 ·rw [decT h, cond_true, decF (by omega)]
  rfl
 ·rw [decF h, cond_false, ← decide_not]
  congr 2
  exact decide_eq_decide.2 (by omega)
theorem Qm2 (p : Pc) (hp : Qbw p) (ln : Bool) (l : List Lg) (hl : l.length ≤ 1000) (day : Int) : Ret lb Qbg [pcv p, .list ln (l.map lgcv), .int .i64 day] (.bool (ordF p l day)) := by
 refine .top rfl (.eq (fun n => by rw [Qob]) ?_)
 have key := QdF (enc := lgcv) (l := l) (by omega) (P := fun q t n k => ∀ b, QdA lb n k p.an (p.aps.map apcv) p.dn (p.dis.map dicv) ln (l.map lgcv) day (.int .i64 b) (q.length : Int) =
   some (.bool (ordG q.isEmpty b (t.map fun x => (atF p x.fro day x.dep, atF p x.to day x.arr))))) (by
  refine .all fun n k b => ?_
  rw [Qf7, decF (by simp), cond_false, Qlu]
  rfl) (by
  intro q x t hq hlt hat hw hev
  refine Evt.imp2 hev (QpB lb p hp x day) fun n hn h2 k hk b => ?_
  have hn := hn k hk (atF p x.to day x.arr)
  rw [lgcv] at h2
  rw [Qf7, decT hlt, cond_true]
  simp only [hat, lgcv, QaF, QaB, QaL, Qa4, Qa0, Qa6, Qa7, get0, get1, get2, get3, QaN, cond_true, cond_false, List.length_cons, List.length_nil, Nat.zero_add, Nat.reduceAdd, Nat.reduceBEq, beq_self_eq_true, Qay, Qav, get4, hw, h2]
  rw [show (q ++ [x]).isEmpty = false by simp] at hn
  simp only [List.map_cons, ordG]
  by_cases h : atF p x.fro day x.dep ≥ atF p x.to day x.arr
  ·rw [decT h, cond_true, if_pos h]
  ·rw [decF h, cond_false, if_neg h]
   cases q with
   | nil =>
    rw [decF (by simp), cond_false]
    exact hn
   | cons y q =>
    rw [decT (by simp), cond_true, List.isEmpty_cons, cond_false]
    by_cases h3 : atF p x.fro day x.dep < b
    ·rw [decT h3, cond_true, if_pos h3]
    ·rw [decF h3, cond_false, if_neg h3]
     exact hn) l [] rfl
 exact (Evt.diag key).mono fun n hn => hn 0
theorem Qp2 (an : Bool) (l : List Dt) (hl : l.length ≤ 1000) : Ret lb Qby [.list an (l.map dtcv)] (.bool (ordG true 0 (l.map fun x => (x.dep, x.arr)))) := by
 refine .top rfl (.eq (fun n => by rw [QrZ]) ?_)
 have key := QdF (enc := dtcv) (l := l) (by omega) (P := fun q t n k => QeD lb n k an (l.map dtcv) (q.length : Int) = some (.bool (ordG q.isEmpty ((q.getLast?.map (·.arr)).getD 0) (t.map fun x => (x.dep, x.arr))))) (by
  refine .all fun n k => ?_
  rw [Qhp, decF (by simp), cond_false, Qom]
  rfl) (by
  intro q x t hq hlt hat hw hev
  refine hev.mono fun n hn k hk => ?_
  have hn := hn k hk
  rw [Qhp, decT hlt, cond_true]
  simp only [hat, dtcv, QaF, QaB, QaL, Qa4, Qa0, Qa6, Qa7, get0, get1, get2, get3, QaN, cond_true, cond_false, List.length_cons, List.length_nil, Nat.zero_add, Nat.reduceAdd, Nat.reduceBEq, beq_self_eq_true, Qay, Qav, get4, get5, get6, hw]
  rw [show (q ++ [x]).isEmpty = false by simp, List.getLast?_append] at hn
  simp only [List.getLast?_singleton, Option.some_or, Option.map_some, Option.getD_some] at hn
  obtain ⟨b0, hb0⟩ : ∃ b, ((q.getLast?.map (·.arr)).getD 0) = b := ⟨_, rfl⟩
  rw [hb0]
  simp only [List.map_cons, ordG]
  by_cases h : x.dep ≥ x.arr
  ·rw [decT h, cond_true, if_pos h]
  ·rw [decF h, cond_false, if_neg h]
   rcases Qhc q with rfl | ⟨q', y, rfl⟩
   ·rw [decF (by simp), cond_false]
    exact hn
   ·have hlen : l.length = q'.length + (t.length + 2) := by rw [← hq]; simp only [List.length_append, List.length_cons, List.length_nil]; omega
    have hwl : IntKind.wrap .i64 (((q' ++ [y]).length : Int) - 1) = (q'.length : Int) := by
     rw [List.length_append, List.length_singleton, Qaz (by omega) (by omega)]
     omega
    have hpre : atL (l.map dtcv) (q'.length : Int) = some (dtcv y) := QaG (by rw [← hq]; simp)
    rw [decT (by rw [List.length_append, List.length_singleton]; omega), cond_true, hwl, hpre]
    simp only [dtcv, QaF, QaB, QaL, Qa4, Qa0, Qa6, Qa7, get0, get1, get2, get3, QaN, cond_true, cond_false, List.length_cons, List.length_nil, Nat.zero_add, Nat.reduceAdd, Nat.reduceBEq, beq_self_eq_true, Qay, Qav, get4, get5, get6]
    rw [List.getLast?_append] at hb0
    simp only [List.getLast?_singleton, Option.some_or, Option.map_some, Option.getD_some] at hb0
    subst hb0
    rw [show (q' ++ [y]).isEmpty = false by simp]
    by_cases h3 : x.dep < y.arr
    ·rw [decT h3, cond_true, cond_false, if_pos h3]
    ·rw [decF h3, cond_false, cond_false, if_neg h3]
     exact hn) l [] rfl
 exact Evt.diag key
theorem Qut (p : Pc) (hp : Qbw p) (f : Fl) (hl : f.legs.length ≤ 1000) (day : Int) : Ret lb Qcr [pcv p, flcv f, .int .i64 day] (.list f.legs.isEmpty ((Qkl p f day).map dtcv)) := by
 refine .top rfl (.eq (fun n => by rw [QvK]) ?_)
 have key := QdF (enc := lgcv) (l := f.legs) (by omega) (P := fun q t n k => QhY lb n k p.an (p.aps.map apcv) p.dn (p.dis.map dicv) f.car f.num f.fr f.to f.days f.ln (f.legs.map lgcv) day q.isEmpty ((q.map (legF p f day)).map dtcv) (q.length : Int) =
   some (.list f.legs.isEmpty ((Qkl p f day).map dtcv))) (by
  refine .all fun n k => ?_
  rw [Qjt, decF (by simp), cond_false, Qrs]
  rfl) (by
  intro q x t hq hlt hat hw hev
  refine Evt.imp2 hev (Evt.imp2 (QoB lb p hp x.fro day x.dep) (QoB lb p hp x.to day x.arr) fun n h1 h2 => And.intro h1 h2) fun n hn h2 k hk => ?_
  have hn := hn k hk
  have hql : q.length ≤ 1000 := by have : f.legs.length = q.length + (t.length + 1) := by rw [← hq]; simp
                                   omega
  rw [Qjt, decT hlt, cond_true]
  simp only [hat, lgcv, QaF, QaB, QaL, Qa4, Qa0, Qa6, Qa7, get0, get1, get2, get3, QaN, cond_true, cond_false, List.length_cons, List.length_nil, Nat.zero_add, Nat.reduceAdd, Nat.reduceBEq, beq_self_eq_true, Qay, Qav, get4, hw, h2.1, h2.2]
  rw [Qa8 (by simp; omega) (by omega), QaN, Qbr q x]
  simpa [List.map_append, legF, dtcv] using hn) f.legs [] rfl
 exact Evt.diag key
end Go.Proofs
