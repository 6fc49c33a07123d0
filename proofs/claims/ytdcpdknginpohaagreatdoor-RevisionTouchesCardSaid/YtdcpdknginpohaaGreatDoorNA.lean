/- Chapter 10 on plain data: the canonical period of a list of days, by the program and by its reference. Conditions: as each says. -/
import Derived.Test.YtdcpdknginpohaaGreatDoorKB
import Derived.Test.YtdcpdknginpohaaGreatDoorGt
import Derived.Test.YtdcpdknginpohaaGreatDoorVa
import Derived.Test.YtdcpdknginpohaaGreatDoorVb
import Derived.Test.YtdcpdknginpohaaGreatDoorVc
set_option linter.unusedSimpArgs false
set_option linter.unusedVariables false
namespace Go.Proofs
open Go.Am
variable (lb : Nat)
def orB (acc : Int) (w : Nat) : Int := if acc / 2 ^ w % 2 == 0 then acc + 2 ^ w else acc
def Qco : Int → List Int → Int
 | acc, [] => acc
 | acc, d :: l => Qco (orB acc (QaT d).toNat) l
abbrev P3 := Int × Int × Int
def pcv3 (x : P3) : List CV := [.int .i64 x.1, .int .i64 x.2.1, .int .i64 x.2.2]
def ofF (l : List Int) : Option P3 :=
 match l with
 | [] => none
 | a :: r => some (a, (a :: r).getLast?.getD 0, Qco 0 (a :: r))
def optP (o : Option P3) : CV := match o with
 | some x => .tup [.agg (pcv3 x), .bool true]
 | none => .tup [.agg [.int .i64 0, .int .i64 0, .int .i64 0], .bool false]
theorem QsR : ∀ (d : Fin 128) (w : Fin 7), 0 ≤ orB ((d.val : Nat) : Int) w.val ∧ orB ((d.val : Nat) : Int) w.val < 128 := by decide +kernel
theorem Quk : ∀ (d : Fin 128) (w : Fin 7), (Int.tmod (IntKind.wrap .i64 (Int.tdiv ((d.val : Nat) : Int) (2 ^ w.val))) 2 == 0) = (((d.val : Nat) : Int) / 2 ^ w.val % 2 == 0) := by decide +kernel
theorem QrZ {acc day : Int} (h0 : 0 ≤ acc ∧ acc < 128) (h : 0 ≤ day) : 0 ≤ orB acc (QaT day).toNat ∧ orB acc (QaT day).toNat < 128 := by
 obtain ⟨h1, h2⟩ := Qdp h
 obtain ⟨d, rfl⟩ := Int.eq_ofNat_of_zero_le h0.1
 obtain ⟨w, hw⟩ := Int.eq_ofNat_of_zero_le h1
 rw [hw]
 exact QsR ⟨d, by omega⟩ ⟨w, by omega⟩
theorem Qt7 {acc day : Int} (h0 : 0 ≤ acc ∧ acc < 128) (h : 0 ≤ day) : (Int.tmod (IntKind.wrap .i64 (Int.tdiv acc (2 ^ (QaT day).toNat))) 2 == 0) = (acc / 2 ^ (QaT day).toNat % 2 == 0) := by
 obtain ⟨h1, h2⟩ := Qdp h
 obtain ⟨d, rfl⟩ := Int.eq_ofNat_of_zero_le h0.1
 obtain ⟨w, hw⟩ := Int.eq_ofNat_of_zero_le h1
 rw [hw]
 exact Quk ⟨d, by omega⟩ ⟨w, by omega⟩
theorem Qr8 {day : Int} (h : 0 ≤ day) : (1 : Int) ≤ 2 ^ (QaT day).toNat ∧ (2 : Int) ^ (QaT day).toNat ≤ 64 := by
 obtain ⟨h1, h2⟩ := Qdp h
 have : ∀ q : Fin 7, (1 : Int) ≤ 2 ^ q.val ∧ (2 : Int) ^ q.val ≤ 64 := by decide
 exact this ⟨(QaT day).toNat, by omega⟩
theorem QnF : ∀ (a : List Int) (acc : Int) (b : List Int), Qco acc (a ++ b) = Qco (Qco acc a) b
 | [], _, _ => rfl
 | d :: a, acc, b => by simp only [List.cons_append, Qco]; exact QnF a _ b
theorem QkW : ∀ (l : List Int) (acc : Int), (∀ d ∈ l, 0 ≤ d) → 0 ≤ acc ∧ acc < 128 → 0 ≤ Qco acc l ∧ Qco acc l < 128
 | [], acc, _, h => h
 | d :: l, acc, hd, h => by
  simp only [Qco]
  exact QkW l _ (fun x hx => hd x (by simp [hx])) (QrZ h (hd d (by simp)))
def QuN (l : List Int) : Int := l.head?.getD 0
def QmA (l : List Int) : Int := l.getLast?.getD 0
theorem QqV (l : List Int) (x : Int) : QmA (l ++ [x]) = x := by simp [QmA]
theorem QrO (l : List Int) : optP (ofF l) = .tup [.agg [.int .i64 (QuN l), .int .i64 (QmA l), .int .i64 (Qco 0 l)], .bool (!l.isEmpty)] := by
 cases l with
 | nil => rfl
 | cons a r => rfl
theorem Qfd {l p t : List Int} {x : Int} (h : p ++ x :: t = l) : (dcv l)[p.length]? = some [.int .i64 x] := by rw [← h]; simp [dcv]
theorem QoZ (fr to days : Int) : ∀ d ∈ QaA fr to days, 0 ≤ d := fun d hd => (Qjq hd).1
theorem Qqw (an : Bool) (l : List Int) (hl : l.length ≤ 100000) (hd : ∀ d ∈ l, 0 ≤ d) (c3 c5 : List CV) (x4 x6 : Int) : ∀ (t p : List Int), p ++ t = l →
  Evt fun n => ∀ k, t.length < k → r04_of_L1 lb n k an (dcv l) c3 (.int .i64 x4) c5 (.int .i64 x6) (p.length : Int) (Qco 0 p) = some (.tup [.agg [.int .i64 x4, .int .i64 x6, .int .i64 (Qco 0 l)], .bool true])
 | [], p, h => by
  have : p = l := by simpa using h
  subst this
  refine .all fun n k hk => ?_
  obtain ⟨k, rfl⟩ : ∃ m, k = m + 1 := ⟨k - 1, by simp at hk; omega⟩
  rw [QhP]
  refine stF (decF (by simp [dcv])) ?_
  rw [QoW]
 | x :: t, p, h => by
  have hx : 0 ≤ x := hd x (by rw [← h]; simp)
  have hp : ∀ d ∈ p, 0 ≤ d := fun d hm => hd d (by rw [← h]; simp [hm])
  have hlen : l.length = p.length + (t.length + 1) := by rw [← h]; simp
  obtain ⟨p1, p2⟩ := Qr8 hx
  have hr := QkW p 0 hp (by decide)
  have hw1 : IntKind.wrap .i64 ((p.length : Int) + 1) = ((p ++ [x]).length : Int) := by rw [QaF (by omega) (by omega)]; simp
  refine Evt.imp2 (QkK lb x hx) (Qqw an l hl hd c3 c5 x4 x6 t (p ++ [x]) (by rw [← h]; simp)) fun n hw hi k hk => ?_
  obtain ⟨k, rfl⟩ : ∃ m, k = m + 1 := ⟨k - 1, by simp at hk; omega⟩
  have hi := hi k (by simp at hk; omega)
  rw [QnF] at hi
  simp only [Qco] at hi
  rw [QhP]
  refine stT (decT (by simp [dcv]; omega)) (stO _ (QaO (Qfd h)) (stC rfl (stO _ rfl (stO _ hw (stO _ (QaD ..) (stC (bneT (by omega)) ?_))))))
  rw [Qt7 hr hx]
  cases hb : (Qco 0 p / 2 ^ (QaT x).toNat % 2 == 0) with
  | true =>
   have hor : orB (Qco 0 p) (QaT x).toNat = Qco 0 p + 2 ^ (QaT x).toNat := by simp [orB, hb]
   refine stT rfl (stO _ (QaO (Qfd h)) (stC rfl (stO _ rfl (stO _ hw (stO _ (QaD ..) ?_)))))
   rw [hw1, QaF (x := Qco 0 p + _) (by omega) (by omega), ← hor]
   exact hi
  | false =>
   have hor : orB (Qco 0 p) (QaT x).toNat = Qco 0 p := by simp [orB, hb]
   refine stF rfl ?_
   rw [hw1]
   rw [hor] at hi
   exact hi
theorem QqU (an : Bool) (l : List Int) (hl : l.length ≤ 100000) (hd : ∀ d ∈ l, 0 ≤ d) : Ret lb Qcl [.list an (dcv l)] (optP (ofF l)) := by
 refine .top rfl (.eq (fun n => by rw [Qr4]) ?_)
 cases l with
 | nil => exact .of rfl
 | cons a r =>
  have hs : (a :: r).getLast?.getD 0 = QmA (a :: r) := rfl
  obtain ⟨q, z, hq⟩ : ∃ q z, a :: r = q ++ [z] := by
   rcases Qgi (a :: r) with h | ⟨q, z, h⟩
   ·cases h
   ·exact ⟨q, z, h⟩
  have hz : QmA (a :: r) = z := by rw [hq, QqV]
  have hql : (a :: r).length = q.length + 1 := by rw [hq]; simp
  have := Evt.diag (Qqw lb an (a :: r) hl hd [.int .i64 a] [.int .i64 z] a z (a :: r) [] rfl)
  refine this.mono fun n hn => ?_
  refine stF (beqF (by simp [dcv]; omega)) (stO _ (QaO (i := 0) rfl) (stC rfl (stO _ rfl (stO [.int .i64 z] ?_ (stC rfl (stO _ rfl (stC rfl (stC rfl ?_))))))))
  ·have e : IntKind.wrap .i64 (((dcv (a :: r)).length : Int) - 1) = (q.length : Int) := by
    have : (dcv (a :: r)).length = q.length + 1 := by simp only [dcv, List.length_map]; exact hql
    rw [this, QaF (by omega) (by omega)]; omega
   rw [e]
   exact QaO (Qfd (t := []) hq.symm)
  ·rw [QrO, hz]
   exact hn
end Go.Proofs
set_option linter.unusedSimpArgs false
set_option linter.unusedVariables false
namespace Go.Proofs
open Go.Am
variable (lb : Nat)
abbrev Asc (l : List Int) : Prop := l.Pairwise (· < ·)
theorem Asc.ext : ∀ {a b : List Int}, Asc a → Asc b → (∀ x, x ∈ a ↔ x ∈ b) → a = b
 | [], [], _, _, _ => rfl
 | [], y :: b, _, _, h => by have := (h y).2 (by simp); cases this
 | x :: a, [], _, _, h => by have := (h x).1 (by simp); cases this
 | x :: a, y :: b, ha, hb, h => by
  have h1 := List.pairwise_cons.1 ha
  have h2 := List.pairwise_cons.1 hb
  have hxy : x = y := by
   have e1 := (h x).1 (by simp)
   have e2 := (h y).2 (by simp)
   simp only [List.mem_cons] at e1 e2
   rcases e1 with e1 | e1
   ·exact e1
   ·rcases e2 with e2 | e2
    ·exact e2.symm
    ·have := h1.1 y e2
     have := h2.1 x e1
     omega
  subst hxy
  congr 1
  refine Asc.ext h1.2 h2.2 fun z => ⟨fun hz => ?_, fun hz => ?_⟩
  ·have := (h z).1 (by simp [hz])
   simp only [List.mem_cons] at this
   rcases this with rfl | this
   ·have := h1.1 z hz; omega
   ·exact this
  ·have := (h z).2 (by simp [hz])
   simp only [List.mem_cons] at this
   rcases this with rfl | this
   ·have := h2.1 z hz; omega
   ·exact this
theorem Asc.filter {l : List Int} (h : Asc l) (p : Int → Bool) : Asc (l.filter p) := h.sublist List.filter_sublist
def QoI (fr to days fr' to' days' : Int) : List Int := (QaA fr to days).filter fun d => hasF fr' to' days' d
def QoJ (fr to days fr' to' days' : Int) : Option P3 := ofF (QoI fr to days fr' to' days')
theorem QnL (fr to days fr' to' days' : Int) (l : List Int) (hl : l.length ≤ 1000) (b0 : Bool) : ∀ (t p : List Int), p ++ t = l →
  Evt fun n => ∀ k, t.length < k → Qd7 lb n k fr to days fr' to' days' (.list b0 (dcv l)) (p.filter fun d => hasF fr' to' days' d).isEmpty (dcv (p.filter fun d => hasF fr' to' days' d)) (p.length : Int) =
   Qhx lb n fr to days fr' to' days' (.list b0 (dcv l)) (l.filter fun d => hasF fr' to' days' d).isEmpty (dcv (l.filter fun d => hasF fr' to' days' d)) (l.length : Int)
 | [], p, h => by
  have : p = l := by simpa using h
  subst this
  refine .all fun n k hk => ?_
  obtain ⟨k, rfl⟩ : ∃ m, k = m + 1 := ⟨k - 1, by simp at hk; omega⟩
  rw [QgM]
  exact stO _ (QaM ..) (stF (decF (by simp [dcv])) rfl)
 | x :: t, p, h => by
  have hlen : l.length = p.length + (t.length + 1) := by rw [← h]; simp
  have hw1 : IntKind.wrap .i64 ((p.length : Int) + 1) = ((p ++ [x]).length : Int) := by rw [QaF (by omega) (by omega)]; simp
  refine Evt.imp2 (QfD lb fr' to' days' x) (QnL fr to days fr' to' days' l hl b0 t (p ++ [x]) (by rw [← h]; simp)) fun n hw hi k hk => ?_
  obtain ⟨k, rfl⟩ : ∃ m, k = m + 1 := ⟨k - 1, by simp at hk; omega⟩
  have hi := hi k (by simp at hk; omega)
  rw [QgM]
  refine stO _ (QaM ..) (stT (decT (by simp [dcv]; omega)) (stO _ (QaM ..) (stO _ (QaO (Qfd h)) (stC rfl (stO _ rfl (stO _ hw (stO _ (QaI _) ?_)))))))
  rw [List.filter_append] at hi
  cases hh : hasF fr' to' days' x with
  | true =>
   have e : [x].filter (fun d => hasF fr' to' days' d) = [x] := by simp [hh]
   rw [e] at hi
   refine stT rfl (stO _ (QaM ..) (stO _ (QaO (Qfd h)) (stC rfl (stO _ rfl (stC rfl (stC (QbN ?_ (by omega)) ?_))))))
   ·have := List.length_filter_le (fun d => hasF fr' to' days' d) p
    simp [dcv]; omega
   ·rw [hw1, Qbv (p.filter fun d => hasF fr' to' days' d) x]
    simpa [dcv] using hi
  | false =>
   have e : [x].filter (fun d => hasF fr' to' days' d) = [] := by simp [hh]
   rw [e, List.append_nil] at hi
   exact stF rfl (by rw [hw1]; exact hi)
theorem Qq6 (l : List Int) (p : Int → Bool) (h : l.length ≤ 800) : (l.filter p).length ≤ 100000 := by
 have := List.length_filter_le p l
 omega
theorem QpS (fr to days fr' to' days' : Int) : Ret lb QbI [.agg [.int .i64 fr, .int .i64 to, .int .i64 days], .agg [.int .i64 fr', .int .i64 to', .int .i64 days']] (optP (QoJ fr to days fr' to' days')) := by
 refine .top rfl (.eq (fun n => by rw [Qqb]) ?_)
 have hl := QnT fr to days
 have h1 := Evt.diag (QnL lb fr to days fr' to' days' (QaA fr to days) (by omega) (QaA fr to days).isEmpty (QaA fr to days) [] rfl)
 have h2 := QqU lb (QoI fr to days fr' to' days').isEmpty (QoI fr to days fr' to' days') (Qq6 _ _ hl) (fun d hd => QoZ fr to days d (List.mem_filter.1 hd).1)
 refine (Qj5 lb fr to days).and (Evt.and h1 h2) |>.mono fun n ⟨q1, q2, q3⟩ => ?_
 refine stO _ q1 (q2.trans ?_)
 rw [Qm3]
 refine stO _ q3 ?_
 unfold QoJ
 cases ofF (QoI fr to days fr' to' days') with
 | none => rfl
 | some x => rfl
end Go.Proofs
set_option linter.unusedSimpArgs false
set_option linter.unusedVariables false
namespace Go.Proofs
open Go.Am
variable (lb : Nat)
end Go.Proofs
set_option linter.unusedSimpArgs false
set_option linter.unusedVariables false
namespace Go.Proofs
open Go.Am
variable (lb : Nat)
structure Rv where
 kind : Int
 car : Bs
 num : Int
 fr : Int
 to : Int
 days : Int
 min : Int
 eq : Bs
 ln : Bool
 legs : List Lg
abbrev rvcv (r : Rv) : CV := .agg [.int .i64 r.kind, .str r.car, .int .i64 r.num, .int .i64 r.fr, .int .i64 r.to, .int .i64 r.days, .int .i64 r.min, .str r.eq, .list r.ln (r.legs.map lgcv)]
def QcX (f g : Fl) : Bool := (f.car == g.car) && ((f.num == g.num) && (QoJ f.fr f.to f.days g.fr g.to g.days).isSome)
theorem Qou (f g : Fl) : Ret lb QhB [flcv f, flcv g] (.bool (QcX f g)) := by
 refine .top rfl ((QpS lb f.fr f.to f.days g.fr g.to g.days).mono fun n h => ?_)
 rw [Qpy]
 unfold QcX
 refine stO _ h ?_
 generalize QoJ f.fr f.to f.days g.fr g.to g.days = o
 cases o with
 | none => cases f.car == g.car <;> cases f.num == g.num <;> rfl
 | some x => cases f.car == g.car <;> cases f.num == g.num <;> rfl
end Go.Proofs
