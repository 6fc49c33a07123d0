/- Chapter 20 on plain data: the reference's reader; its words. Conditions: as each says. -/
import Derived.Test.YtbdclhadjcfadaaGreatDoorDA
import Derived.Test.YtbdclhadjcfadaaGreatDoorPB
import Derived.Test.YtbdclhadjcfadaaGreatDoorHC
import Derived.Test.YtbdclhadjcfadaaGreatDoorW20
set_option linter.unusedVariables false
set_option linter.unusedSimpArgs false
set_option maxRecDepth 100000
namespace Go.Proofs
open Go.Am
variable (lb : Nat)
def min2 (args : List Bs) : Int := match args with | [_, y] => (minF y).1 | _ => 0
end Go.Proofs
set_option linter.unusedVariables false
set_option linter.unusedSimpArgs false
set_option maxRecDepth 100000
namespace Go.Proofs
open Go.Am
variable (lb : Nat)
def low (c : UInt8) : Bool := decide (97 ≤ c.toNat) && decide (c.toNat ≤ 122)
def Suf (r t : Bs) : Prop := ∃ m, t = m ++ r
theorem Suf.refl (t : Bs) : Suf t t := ⟨[], rfl⟩
theorem Suf.trans {a b c : Bs} (h : Suf a b) (g : Suf b c) : Suf a c := by
 obtain ⟨m, rfl⟩ := h
 obtain ⟨n, rfl⟩ := g
 exact ⟨n ++ m, by simp⟩
theorem Suf.len {a b : Bs} (h : Suf a b) : a.length ≤ b.length := by
 obtain ⟨m, rfl⟩ := h
 simp
section
variable {s : Bs} (hs : s.length ≤ 800000) {lv : Int} (hlv : 0 ≤ lv ∧ lv ≤ 100) {p : Bs → Cd × Option Bs} (hsuf : ∀ t r, (p t).2 = some r → Suf r t)
include hs hlv hsuf
end
end Go.Proofs
set_option linter.unusedVariables false
set_option linter.unusedSimpArgs false
set_option maxRecDepth 100000
namespace Go.Proofs
open Go.Am
variable (lb : Nat)
end Go.Proofs
set_option linter.unusedVariables false
set_option linter.unusedSimpArgs false
namespace Go.Proofs
open Go.Am
variable (lb : Nat)
mutual
def Sm (B L : Nat) : Cd → Prop
 | .mk k ln l a b fr to days tn t => l.length ≤ B ∧ SmL B L l ∧ t.length ≤ B ∧ ∀ s ∈ t, s.length ≤ L
def SmL (B L : Nat) : List Cd → Prop
 | [] => True
 | c :: r => Sm B L c ∧ SmL B L r
end
theorem Qsd {B L : Nat} : ∀ l : List Cd, SmL B L l ↔ ∀ x ∈ l, Sm B L x
 | [] => by simp [SmL]
 | c :: r => by rw [SmL, Qsd r]; simp
theorem QfV {B L : Nat} (c : Cd) : Sm B L c ↔ c.l.length ≤ B ∧ (∀ x ∈ c.l, Sm B L x) ∧ c.t.length ≤ B ∧ ∀ s ∈ c.t, s.length ≤ L := by
 cases c with
 | mk k ln l a b fr to days tn t => rw [Sm, Qsd]; rfl
theorem Qos {B L B' L' : Nat} (hB : B ≤ B') (hL : L ≤ L') : ∀ c : Cd, Sm B L c → Sm B' L' c := by
 refine Cd.ind fun c ih h => ?_
 obtain ⟨h1, h2, h3, h4⟩ := (QfV c).1 h
 exact (QfV c).2 ⟨by omega, fun x hx => ih x hx (h2 x hx), by omega, fun s hs => by have := h4 s hs; omega⟩
theorem Qwh {B L : Nat} (hB : B ≤ 281474976710656) (hL : L ≤ 281474976710656) : ∀ c : Cd, Sm B L c → Fits c := by
 refine Cd.ind fun c ih h => ?_
 obtain ⟨h1, h2, h3, h4⟩ := (QfV c).1 h
 exact (QhA c).2 ⟨by omega, fun x hx => ih x hx (h2 x hx), by omega, fun s hs => by have := h4 s hs; omega⟩
theorem Qty : ∀ c : Cd, Mod c → Sm 400 281474976710656 c := by
 refine Cd.ind fun c ih h => (QfV c).2 ⟨by have := Qxa h; omega, fun x hx => ih x hx (Qwb c h x hx), Qxj h, (Qil h.1).2⟩
abbrev Big (c : Cd) : Prop := Sm 1000000 281474976710656 c
theorem Qse : ∀ c : Cd, Big c → ∀ x ∈ c.l, Big x := fun c h => ((QfV c).1 h).2.1
theorem Qxg {c : Cd} (h : Big c) : c.l.length ≤ 1000000 := ((QfV c).1 h).1
theorem Qxs {c : Cd} (h : Big c) : c.t.length ≤ 1000000 := ((QfV c).1 h).2.2.1
theorem QuI {f : FuncId} {v : Cd → Cd → CV} (h : ∀ a b, Big a → Big b → (Evt fun n => ∀ x ∈ a.l, ∀ y ∈ b.l, C lb n f [cdv x, cdv y] = some (v x y)) → Ret lb f [cdv a, cdv b] (v a b)) : ∀ a b, Big a → Big b → Ret lb f [cdv a, cdv b] (v a b) :=
 Cd.ind fun a ih b ha hb => h a b ha hb (Evt.fin _ fun x hx => Evt.fin _ fun y hy => ih x hx y (Qse a ha x hx) (Qse b hb y hy))
theorem QpB : ∀ a b : Cd, Big a → Big b → Ret lb QbL [cdv a, cdv b] (.bool (Qbt a b)) := by
 refine QuI lb fun a b ha hb hs => .top rfl (.eq (fun n => by rw [QqF]) ?_)
 have la := Qxg ha
 have ta := Qxs ha
 have e1 := QpU lb a.tn b.tn a.t b.t (by omega)
 have e2 := Qoa lb a.ln b.ln a.l b.l (by omega) hs
 rw [Qqt]
 by_cases h1 : a.k = b.k
 ·rw [beqT h1]
  by_cases h2 : a.a = b.a
  ·rw [beqT h2]
   by_cases h3 : a.b = b.b
   ·rw [beqT h3]
    cases h4 : ((a.fr == b.fr) && ((a.to == b.to) && ((a.days == b.days) && true))) with
    | false => exact .all fun n => stT rfl (stT rfl (stT rfl (stF rfl rfl)))
    | true =>
     by_cases h6 : a.t = b.t
     ·rw [decT h6] at e1 ⊢
      exact Evt.imp2 e1 e2 fun n x y => stT rfl (stT rfl (stT rfl (stT rfl (stO _ x (stO _ rfl (stT rfl (stO _ y rfl)))))))
     ·rw [decF h6] at e1 ⊢
      exact e1.mono fun n x => stT rfl (stT rfl (stT rfl (stT rfl (stO _ x (stO _ rfl (stF rfl rfl))))))
   ·rw [beqF h3]
    exact .all fun n => stT rfl (stT rfl (stF rfl rfl))
  ·rw [beqF h2]
   exact .all fun n => stT rfl (stF rfl rfl)
 ·rw [beqF h1]
  exact .all fun n => stF rfl rfl
theorem Qev {a b : Cd} : Qbt a b = true ↔ a.k = b.k ∧ a.a = b.a ∧ a.b = b.b ∧ a.fr = b.fr ∧ a.to = b.to ∧ a.days = b.days ∧ a.t = b.t ∧ Qa1 a.l b.l = true := by
 rw [Qqt]
 simp only [Bool.and_eq_true, beq_iff_eq, decide_eq_true_eq, Bool.and_true]
 constructor
 ·rintro ⟨h1, h2, h3, ⟨h4, h5, h6⟩, h7, h8⟩; exact ⟨h1, h2, h3, h4, h5, h6, h7, h8⟩
 ·rintro ⟨h1, h2, h3, h4, h5, h6, h7, h8⟩; exact ⟨h1, h2, h3, ⟨h4, h5, h6⟩, h7, h8⟩
theorem QeF (x y : Cd) (l r : List Cd) : Qa1 (x :: l) (y :: r) = (Qbt x y && Qa1 l r) := by rw [Qa1]
theorem QoD {β : Type} {f : Cd → β} : ∀ {l r : List Cd}, Qa1 l r = true → (∀ x ∈ l, ∀ y, Qbt x y = true → f x = f y) → l.map f = r.map f
 | [], [], _, _ => rfl
 | [], y :: r, h, _ => by rw [Qa1] at h; cases h
 | x :: l, [], h, _ => by rw [Qa1] at h; cases h
 | x :: l, y :: r, h, g => by
  rw [QeF, Bool.and_eq_true] at h
  rw [List.map_cons, List.map_cons, g x (by simp) y h.1, QoD h.2 fun z hz => g z (by simp [hz])]
theorem QtK {a b : Cd} (h : Qbt a b = true) : a.args = b.args := by
 obtain ⟨h1, h2, h3, h4, h5, h6, h7, _⟩ := Qev.1 h
 unfold Cd.args
 rw [h1, h2, h3, h4, h5, h6, h7]
theorem QvI : ∀ a b : Cd, Qbt a b = true → wrC a = wrC b := by
 refine Cd.ind fun a ih b h => ?_
 obtain ⟨h1, _, _, _, _, _, _, h8⟩ := Qev.1 h
 rw [QcF a, QcF b, h1, QtK h, QoD h8 ih]
theorem QsR {a b : Cd} (h : Qbt a b = true) : Qdl a = Qdl b := by
 obtain ⟨h1, h2, h3, h4, h5, h6, h7, h8⟩ := Qev.1 h
 have hl := QjZ h8
 unfold Qdl Qa2 QbI Qb8 perN
 rw [h1, h2, h3, h4, h5, h6, h7, hl]
theorem Qns : ∀ {l r : List Cd}, Qa1 l r = true → (∀ x ∈ l, ∀ y, Qbt x y = true → parE x = parE y) → Qe3 l = Qe3 r
 | [], [], _, _ => rfl
 | [], y :: r, h, _ => by rw [Qa1] at h; cases h
 | x :: l, [], h, _ => by rw [Qa1] at h; cases h
 | x :: l, y :: r, h, g => by
  rw [QeF, Bool.and_eq_true] at h
  rw [Qe3, Qe3, g x (by simp) y h.1, Qns h.2 fun z hz => g z (by simp [hz])]
theorem Qt0 : ∀ a b : Cd, Qbt a b = true → parE a = parE b := by
 refine Cd.ind fun a ih b h => ?_
 obtain ⟨_, _, _, _, _, _, _, h8⟩ := Qev.1 h
 rw [QlC a, QlC b, QsR h, Qns h8 ih]
theorem Qpd : ∀ {l r : List Cd} (n : Int), Qa1 l r = true → (∀ x ∈ l, ∀ y, Qbt x y = true → levC x = levC y) → levs n l = levs n r
 | [], [], _, _, _ => rfl
 | [], y :: r, _, h, _ => by rw [Qa1] at h; cases h
 | x :: l, [], _, h, _ => by rw [Qa1] at h; cases h
 | x :: l, y :: r, n, h, g => by
  rw [QeF, Bool.and_eq_true] at h
  rw [levs, levs, g x (by simp) y h.1, Qpd _ h.2 fun z hz => g z (by simp [hz])]
theorem Qvl : ∀ a b : Cd, Qbt a b = true → levC a = levC b := by
 refine Cd.ind fun a ih b h => ?_
 obtain ⟨_, _, _, _, _, _, _, h8⟩ := Qev.1 h
 rw [Qn7 a, Qn7 b, Qpd 0 h8 ih]
theorem QoC : ∀ {l r : List Cd} (n : Int), Qa1 l r = true → (∀ x ∈ l, ∀ y, Qbt x y = true → sizC x = sizC y) → sizs n l = sizs n r
 | [], [], _, _, _ => rfl
 | [], y :: r, _, h, _ => by rw [Qa1] at h; cases h
 | x :: l, [], _, h, _ => by rw [Qa1] at h; cases h
 | x :: l, y :: r, n, h, g => by
  rw [QeF, Bool.and_eq_true] at h
  rw [sizs, sizs, g x (by simp) y h.1, QoC _ h.2 fun z hz => g z (by simp [hz])]
theorem QuN : ∀ a b : Cd, Qbt a b = true → sizC a = sizC b := by
 refine Cd.ind fun a ih b h => ?_
 obtain ⟨_, _, _, _, _, _, _, h8⟩ := Qev.1 h
 rw [Qhz a, Qhz b, QoC 1 h8 ih]
theorem Qtb {a b : Cd} (h : Qbt a b = true) : Qcn a = Qcn b := by
 unfold Qcn
 rw [Qvl a b h, QuN a b h, Qt0 a b h]
theorem QuT {k : Int} {s : Bs} (h : QlD k s = true) : s.length ≤ 3 := by
 unfold QlD at h
 split at h
 ·unfold Qc9 Qhk at h
  simp only [Bool.and_eq_true, decide_eq_true_eq] at h
  have := h.1.2.1
  omega
 split at h
 ·unfold Qdc at h
  simp only [Bool.and_eq_true, decide_eq_true_eq] at h
  omega
 ·unfold paxB Qhk at h
  simp only [Bool.and_eq_true, decide_eq_true_eq] at h
  have := h.2.1
  omega
theorem Qsm {s : Bs} {m : Nat} : ∀ {l : List Bs}, (∀ x ∈ l, x.length ≤ m) → (Lib.join l s).length ≤ (m + s.length) * l.length
 | [], _ => by simp [Lib.join_nil]
 | [x], h => by rw [Lib.join_one]; have := h x (by simp); simp; omega
 | x :: y :: r, h => by
  rw [Qex]
  have h1 := h x (by simp)
  have h2 := Qsm (s := s) (l := y :: r) fun z hz => h z (by simp at hz ⊢; right; exact hz)
  simp only [List.length_append, List.length_cons] at h2 ⊢
  rw [Nat.mul_add, Nat.mul_one]
  rw [Nat.mul_add, Nat.mul_one] at h2
  rw [Nat.mul_add, Nat.mul_one]
  omega
end Go.Proofs
set_option linter.unusedVariables false
set_option linter.unusedSimpArgs false
set_option maxRecDepth 100000
namespace Go.Proofs
open Go.Am
theorem QqJ {ok : Bs → Bool} : ∀ (l p : List Bs), QcQ ok p l = 0 → ∀ s ∈ l, ok s = true
 | [], p, _, s, hs => by cases hs
 | x :: r, p, h, s, hs => by
  rw [QcQ] at h
  split at h
  ·cases h
  ·rename_i q
   split at h
   ·cases h
   ·rcases List.mem_cons.1 hs with rfl | hs
    ·simpa using q
    ·exact QqJ r _ h s hs
theorem Qn5 {k : Int} (h : isc k = true) : isp k = false := by
 unfold isc at h; unfold isp
 rw [Bool.or_eq_true, Bool.or_eq_true] at h
 simp only [beq_iff_eq] at h
 rw [Bool.or_eq_false_iff]
 simp only [beq_eq_false_iff_ne]
 omega
theorem QoL {c : Cd} (h : parE c = 0) (hk : isc c.k = true) : c.t ≠ [] ∧ ∀ s ∈ c.t, QlD c.k s = true := by
 have h1 := (Qdt h).1
 unfold Qdl at h1
 split at h1
 ·cases h1
 split at h1
 ·cases h1
 split at h1
 ·cases h1
 rw [Qn5 hk, if_neg (by simp)] at h1
 unfold Qb8 at h1
 split at h1
 ·cases h1
 ·rename_i q; exact ⟨q, QqJ _ _ h1⟩
theorem Qsj {c : Cd} (h : parE c = 0) (hk : isp c.k = true) : perE c.fr c.to c.days = 0 := by
 have h1 := (Qdt h).1
 unfold Qdl at h1
 split at h1
 ·cases h1
 split at h1
 ·cases h1
 split at h1
 ·cases h1
 exact h1
theorem QqZ {c : Cd} (h : parE c = 0) : (isl c.k = false → c.l = []) ∧ (isc c.k = false → c.t = []) ∧ (isp c.k = false → c.fr = 0 ∧ c.to = 0 ∧ c.days = 0) ∧ (nums c.k < 1 → c.a = 0) ∧ (nums c.k < 2 → c.b = 0) := by
 obtain ⟨_, _, h1, _⟩ := Qfq (Qdt h).1
 unfold Qa2 Qbj perN at h1
 simp only [Bool.or_eq_false_iff, Bool.and_eq_false_imp, Bool.not_eq_true', decide_eq_false_iff_not, decide_eq_true_eq, bne_eq_false_iff_eq, Bool.not_eq_false', Bool.and_eq_true, beq_iff_eq, Bool.and_true] at h1
 obtain ⟨z1, z2, z3, z4, z5⟩ := h1
 refine ⟨fun q => List.length_eq_zero_iff.1 (by have := z1 q; omega), fun q => List.length_eq_zero_iff.1 (by have := z2 q; omega), fun q => ?_, z4, z5⟩
 have := z3 q
 simpa using this
theorem Qfr {c : Cd} (h : parE c = 0) (hn : nums c.k > 0) : 0 ≤ c.a ∧ c.a ≤ 36524 ∧ (nums c.k > 1 → 0 ≤ c.b ∧ c.b ≤ 9999) ∧ (c.k = 8 → c.a < 1440 ∧ c.b < 1440) := by
 obtain ⟨k1, k2, _, h1⟩ := Qfq (Qdt h).1
 unfold QbI at h1
 unfold nums at hn ⊢
 split at h1
 ·rename_i q; rw [if_neg (by omega), if_neg (by omega)] at hn; omega
 split at h1
 ·rename_i q; rw [if_neg (by omega), if_neg (by omega)] at hn; omega
 split at h1
 ·rename_i q
  simp only [decide_eq_false_iff_not] at h1
  rw [if_neg (by omega), if_pos (by omega)]
  exact ⟨by omega, by omega, fun e => by omega, fun e => by omega⟩
 split at h1
 ·rename_i q
  simp only [decide_eq_false_iff_not] at h1
  exact ⟨by omega, by omega, fun e => ⟨by omega, by omega⟩, fun e => ⟨by omega, by omega⟩⟩
 split at h1
 ·rename_i q
  simp only [decide_eq_false_iff_not] at h1
  rw [if_neg (by omega), if_pos (by omega)]
  exact ⟨by omega, by omega, fun e => by omega, fun e => by omega⟩
 split at h1
 ·rename_i q
  simp only [decide_eq_false_iff_not] at h1
  exact ⟨by omega, by omega, fun e => ⟨by omega, by omega⟩, fun e => by omega⟩
 ·rw [if_neg (by omega), if_neg (by omega)] at hn; omega
theorem QmO {c : Cd} (h : isp c.k = true) : c.args = [perS c.fr c.to c.days] := by show Qcv .. = _; unfold Qcv; rw [if_pos h]
theorem QmF {c : Cd} (h : isc c.k = true) : c.args = c.t := by show Qcv .. = _; unfold Qcv; rw [Qn5 h, if_neg (by simp), if_pos h]
theorem Qp5 {c : Cd} (h : c.k = 8) : c.args = [clkS c.a, clkS c.b] := by show Qcv .. = _; unfold Qcv; rw [h, if_neg (by decide), if_neg (by decide), if_pos rfl]
theorem Qm7 {c : Cd} (h1 : isp c.k = false) (h2 : isc c.k = false) (h3 : c.k ≠ 8) : c.args = if nums c.k > 1 then [Lib.itoa c.a, Lib.itoa c.b] else if nums c.k > 0 then [Lib.itoa c.a] else [] := by
 show Qcv .. = _; unfold Qcv; rw [h1, h2, if_neg (by simp), if_neg (by simp), if_neg h3]
def okb (c : UInt8) : Bool := !(decide (c.toNat = 32) || (decide (c.toNat = 40) || (decide (c.toNat = 41) || decide (c.toNat = 44))))
theorem QtZ {c : UInt8} (h : isDg c = true) : okb c = true := by
 unfold isDg at h; unfold okb
 simp only [Bool.and_eq_true, decide_eq_true_eq] at h
 simp only [Bool.not_eq_true', Bool.or_eq_false_iff, decide_eq_false_iff_not]
 omega
theorem QtB {c : UInt8} (h : isUp c = true) : okb c = true := by
 unfold isUp at h; unfold okb
 simp only [Bool.and_eq_true, decide_eq_true_eq] at h
 simp only [Bool.not_eq_true', Bool.or_eq_false_iff, decide_eq_false_iff_not]
 omega
theorem Qtu {c : UInt8} (h : isCd c = true) : okb c = true := by
 unfold isCd at h
 rw [Bool.or_eq_true] at h
 exact h.elim QtB QtZ
theorem Qh3 {f g : UInt8 → Bool} (h : ∀ c, f c = true → g c = true) {s : Bs} (hs : s.all f = true) : s.all g = true := by
 rw [List.all_eq_true] at hs ⊢
 exact fun c hc => h c (hs c hc)
theorem QwD : ∀ k : Fin 15, (kwd (k.val : Int)).all okb = true := by decide
theorem Qu2 : ∀ k : Fin 15, (kwd (k.val : Int)).all low = true := by decide
theorem QwO {k : Int} (h0 : 1 ≤ k) (h1 : k ≤ 14) : (kwd k).all okb = true := by
 have := QwD ⟨k.toNat, by omega⟩
 have e : ((k.toNat : Nat) : Int) = k := by omega
 simpa [e] using this
theorem Qwe {k : Int} (h0 : 1 ≤ k) (h1 : k ≤ 14) : (kwd k).all low = true := by
 have := Qu2 ⟨k.toNat, by omega⟩
 have e : ((k.toNat : Nat) : Int) = k := by omega
 simpa [e] using this
theorem Qtx : ∀ z : Fin 100, (twoS (z.val : Int)).all okb = true := by decide +kernel
theorem QvO : ∀ z : Fin 100, (twoS (IntKind.wrap .i64 (Int.tdiv (2000 + (z.val : Int)) 100)) ++ twoS (Int.tmod (2000 + (z.val : Int)) 100)).all okb = true := by decide +kernel
theorem QwM : ∀ d : Fin 128, (dayS d.val 7).all okb = true := by decide +kernel
theorem QwT : ∀ m : Fin 1440, (clkS (m.val : Int)).all okb = true := by decide +kernel
theorem Qok {z : Int} (h : 0 ≤ z) : (Lib.itoa z).all okb = true := by
 unfold Lib.itoa
 rw [if_neg (by omega)]
 exact Qh3 (fun c => QtZ) (Qi2 _).1.2.1
theorem Qv2 {k : Int} {s : Bs} (h : QlD k s = true) : s.all okb = true := by
 unfold QlD at h
 split at h
 ·unfold Qc9 Qhk at h
  simp only [Bool.and_eq_true] at h
  exact Qh3 (fun c => Qtu) h.1.2.2
 split at h
 ·unfold Qdc at h
  simp only [Bool.and_eq_true] at h
  exact Qh3 (fun c => QtB) h.2
 ·unfold paxB Qhk at h
  simp only [Bool.and_eq_true] at h
  exact Qh3 (fun c => Qtu) h.2.2
theorem Qq7 {D : Int} (h0 : 0 ≤ D) (hD : D < 36525) : (Qcl D).all okb = true := by
 have hr := QeO h0 hD
 obtain ⟨y, hy⟩ : ∃ k : Nat, (QaW D).1 = 2000 + (k : Int) := ⟨((QaW D).1 - 2000).toNat, by omega⟩
 obtain ⟨m, hm⟩ : ∃ k : Nat, (QaW D).2.1 = k := ⟨((QaW D).2.1).toNat, by omega⟩
 obtain ⟨d, hd⟩ : ∃ k : Nat, (QaW D).2.2 = k := ⟨((QaW D).2.2).toNat, by omega⟩
 have h1 := QvO ⟨y, by omega⟩
 have h2 := Qtx ⟨m, by omega⟩
 have h3 := Qtx ⟨d, by omega⟩
 simp only at h1 h2 h3
 unfold Qcl
 rw [hy, hm, hd]
 simp only [List.all_append, Bool.and_eq_true] at h1 ⊢
 exact ⟨⟨⟨⟨h1, by decide⟩, h2⟩, by decide⟩, h3⟩
theorem QwE {fr to days : Int} (h : perE fr to days = 0) : (perS fr to days).all okb = true := by
 obtain ⟨b1, b2, b3, b4, b5⟩ := Qoo h
 obtain ⟨d, rfl⟩ : ∃ d : Nat, days = d := ⟨days.toNat, by omega⟩
 unfold perS
 rw [if_neg (fun e => e h), Int.toNat_natCast]
 simp only [List.all_append, Bool.and_eq_true]
 exact ⟨⟨⟨⟨Qq7 (by omega) (by omega), by decide⟩, Qq7 (by omega) (by omega)⟩, by decide⟩, QwM ⟨d, by omega⟩⟩
theorem Qsi {m : Int} (h0 : 0 ≤ m) (h1 : m < 1440) : (clkS m).all okb = true := by
 have := QwT ⟨m.toNat, by omega⟩
 have e : ((m.toNat : Nat) : Int) = m := by omega
 simpa [e] using this
theorem QvN {c : Cd} (h : parE c = 0) : ∀ w ∈ c.args, w.all okb = true := by
 intro w hw
 cases hp : isp c.k with
 | true =>
  rw [QmO hp] at hw
  simp only [List.mem_singleton] at hw
  subst hw
  exact QwE (Qsj h hp)
 | false =>
  cases hc : isc c.k with
  | true =>
   rw [QmF hc] at hw
   exact Qv2 ((QoL h hc).2 w hw)
  | false =>
   by_cases h8 : c.k = 8
   ·obtain ⟨a0, _, b0, a1⟩ := Qfr h (by rw [h8]; decide)
    have b0 := b0 (by rw [h8]; decide)
    have a1 := a1 h8
    rw [Qp5 h8] at hw
    simp only [List.mem_cons, List.not_mem_nil, or_false] at hw
    rcases hw with rfl | rfl
    ·exact Qsi (by omega) (by omega)
    ·exact Qsi (by omega) (by omega)
   ·rw [Qm7 hp hc h8] at hw
    split at hw
    ·rename_i hn
     obtain ⟨a0, _, b0, _⟩ := Qfr h (by omega)
     have b0 := b0 hn
     simp only [List.mem_cons, List.not_mem_nil, or_false] at hw
     rcases hw with rfl | rfl
     ·exact Qok a0
     ·exact Qok b0.1
    split at hw
    ·rename_i _ hn
     obtain ⟨a0, _, _, _⟩ := Qfr h hn
     simp only [List.mem_singleton] at hw
     subst hw
     exact Qok a0
    ·cases hw
theorem QsP {c : Cd} (h : parE c = 0) (hk : isp c.k = true) : perT (perS c.fr c.to c.days) = ((c.fr, c.to, c.days), 0) := by
 unfold perT
 rw [Qt8 (Qsj h hk)]
theorem QnI {m : Int} (h0 : 0 ≤ m) (h1 : m < 1440) : minF (clkS m) = (m, 0) := by
 have := QtT ⟨m.toNat, by omega⟩
 have e : ((m.toNat : Nat) : Int) = m := by omega
 simpa [e] using this
theorem Qgg {c : Cd} {k a b fr to days : Int} {tn : Bool} {t : List Bs} (hl : c.l = []) (h1 : k = c.k) (h2 : a = c.a) (h3 : b = c.b) (h4 : fr = c.fr) (h5 : to = c.to) (h6 : days = c.days) (h7 : t = c.t) : Qbt (mkL k a b fr to days tn t) c = true :=
 Qev.2 ⟨h1, h2, h3, h4, h5, h6, h7, by show Qa1 [] c.l = true; rw [hl, Qa1]; rfl⟩
theorem QwN {k : Int} (h : nums k > 1) (h8 : k ≠ 8) : k = 12 := by
 unfold nums at h
 split at h
 ·omega
 ·split at h <;> omega
theorem QjO (k : Int) : nums k = 0 ∨ nums k = 1 ∨ nums k = 2 := by
 unfold nums
 split
 ·exact .inr (.inr rfl)
 split
 ·exact .inr (.inl rfl)
 ·exact .inl rfl
theorem QrP {c : Cd} (h : parE c = 0) (hl : isl c.k = false) : ∃ x, Qcz c.k c.args = some x ∧ Qbt x c = true := by
 obtain ⟨z1, z2, z3, z4, z5⟩ := QqZ h
 have z1 := z1 hl
 cases hc : isc c.k with
 | true =>
  have hn : nums c.k < 1 := by
   unfold isc at hc
   rw [Bool.or_eq_true, Bool.or_eq_true] at hc
   simp only [beq_iff_eq] at hc
   unfold nums
   rw [if_neg (by omega), if_neg (by omega)]
   omega
  have z3 := z3 (Qn5 hc)
  refine ⟨_, Qls hc, Qgg z1 rfl (z4 hn).symm (z5 (by omega)).symm z3.1.symm z3.2.1.symm z3.2.2.symm (QmF hc)⟩
 | false =>
  have z2 := z2 hc
  cases hp : isp c.k with
  | true =>
   have hn : nums c.k < 1 := by
    unfold isp at hp
    rw [Bool.or_eq_true] at hp
    simp only [beq_iff_eq] at hp
    unfold nums
    rw [if_neg (by omega), if_neg (by omega)]
    omega
   have e := QsP h hp
   refine ⟨mkL c.k 0 0 c.fr c.to c.days true [], ?_, Qgg z1 rfl (z4 hn).symm (z5 (by omega)).symm rfl rfl rfl z2.symm⟩
   rw [Qon hc hp, QmO hp]
   dsimp only
   rw [e, if_pos rfl]
  | false =>
   obtain ⟨y1, y2, y3⟩ := z3 hp
   by_cases h8 : c.k = 8
   ·obtain ⟨a0, _, b0, a1⟩ := Qfr h (by rw [h8]; decide)
    have b0 := b0 (by rw [h8]; decide)
    have a1 := a1 h8
    refine ⟨mkL 8 c.a c.b 0 0 0 true [], ?_, Qgg z1 h8.symm rfl rfl y1.symm y2.symm y3.symm z2.symm⟩
    rw [Qp5 h8, h8, Qsk]
    dsimp only
    rw [QnI (by omega) (by omega), QnI (by omega) (by omega), if_pos ⟨rfl, rfl⟩]
   ·by_cases hn : nums c.k > 1
    ·have h12 := QwN hn h8
     obtain ⟨a0, a1, b0, _⟩ := Qfr h (by omega)
     have b0 := b0 hn
     refine ⟨mkL 12 c.a c.b 0 0 0 true [], ?_, Qgg z1 h12.symm rfl rfl y1.symm y2.symm y3.symm z2.symm⟩
     rw [Qm7 hp hc h8, if_pos hn, h12, Qqh]
     dsimp only
     rw [Qlj c.a (by omega) (by omega), Qlj c.b (by omega) (by omega), if_pos ⟨rfl, rfl⟩]
    ·have zb := z5 (by rcases QjO c.k with q | q | q <;> omega)
     by_cases hn1 : nums c.k > 0
     ·obtain ⟨a0, a1, _, _⟩ := Qfr h hn1
      refine ⟨mkL c.k c.a 0 0 0 0 true [], ?_, Qgg z1 rfl rfl zb.symm y1.symm y2.symm y3.symm z2.symm⟩
      rw [Qm7 hp hc h8, if_neg hn, if_pos hn1, Qlr hc hp h8 (by rcases QjO c.k with q | q | q <;> omega)]
      dsimp only
      rw [Qlj c.a (by omega) (by omega), if_pos rfl]
     ·have za := z4 (by rcases QjO c.k with q | q | q <;> omega)
      refine ⟨mkL c.k 0 0 0 0 0 true [], ?_, Qgg z1 rfl za.symm zb.symm y1.symm y2.symm y3.symm z2.symm⟩
      unfold Qcz
      rw [hc, hp, if_neg (by simp), if_neg (by simp), if_neg h8, if_neg hn, if_neg hn1]
end Go.Proofs
set_option linter.unusedVariables false
set_option linter.unusedSimpArgs false
set_option maxRecDepth 100000
namespace Go.Proofs
open Go.Am
def Rest (r : Bs) : Prop := r = [] ∨ ∃ c q, r = c :: q ∧ (c = 44 ∨ c = 41)
theorem Qtm {f : UInt8 → Bool} {w r : Bs} (hw : w.all f = true) (hr : r = [] ∨ ∃ c q, r = c :: q ∧ f c = false) : (w ++ r).takeWhile f = w ∧ (w ++ r).dropWhile f = r := by
 have h0 : r.takeWhile f = [] ∧ r.dropWhile f = r := by
  rcases hr with rfl | ⟨c, q, rfl, hc⟩
  ·exact ⟨rfl, rfl⟩
  ·simp [hc]
 induction w with
 | nil => exact h0
 | cons c w ih =>
  simp only [List.all_cons, Bool.and_eq_true] at hw
  obtain ⟨h1, h2⟩ := ih hw.2
  simp only [List.cons_append, List.takeWhile_cons, List.dropWhile_cons, hw.1, if_true, h1, h2, and_self]
theorem QtU {f : UInt8 → Bool} {r : Bs} (h : Rest r) (h1 : f 44 = false) (h2 : f 41 = false) : r = [] ∨ ∃ c q, r = c :: q ∧ f c = false := by
 rcases h with h | ⟨c, q, h, hc⟩
 ·exact .inl h
 ·refine .inr ⟨c, q, h, ?_⟩
  rcases hc with rfl | rfl
  ·exact h1
  ·exact h2
theorem Qq5 {w : Bs} (h : w.all okb = true) : (32 : UInt8) ∉ w := fun e => by
 have := List.all_eq_true.1 h 32 e
 exact absurd this (by decide)
theorem QsD {w : Bs} (h : w.all okb = true) : w.all QeQ = true := by
 refine Qh3 (fun c hc => ?_) h
 unfold okb at hc; unfold QeQ
 simp only [Bool.not_eq_true', Bool.or_eq_false_iff, decide_eq_false_iff_not] at hc
 simp only [Bool.not_eq_true', Bool.or_eq_false_iff, beq_eq_false_iff_ne]
 exact ⟨fun e => hc.2.2.2 (by rw [e]; rfl), fun e => hc.2.2.1 (by rw [e]; rfl)⟩
theorem Qqw {f : UInt8 → Bool} {s : Bs} (hs : s.all f = true) : ∀ {l : List Bs}, (∀ w ∈ l, w.all f = true) → (Lib.join l s).all f = true
 | [], _ => by rw [Lib.join_nil]; rfl
 | [x], h => by rw [Lib.join_one]; exact h x (by simp)
 | x :: y :: r, h => by
  rw [Qex, List.all_append, List.all_append, h x (by simp), hs, Qqw hs fun z hz => h z (by simp at hz ⊢; right; exact hz)]
  rfl
theorem QnS : ∀ {l : List Bs}, l ≠ [] → (∀ w ∈ l, w.all okb = true) → QaG 32 (Lib.join l [32]) = l
 | [], h, _ => absurd rfl h
 | [x], _, h => by rw [Lib.join_one]; exact QkL (Qq5 (h x (by simp)))
 | x :: y :: r, _, h => by
  rw [Qex, List.append_assoc]
  show QaG 32 (x ++ 32 :: Lib.join (y :: r) [32]) = _
  rw [Qis (Qq5 (h x (by simp))), QnS (by simp) fun z hz => h z (by simp at hz ⊢; right; exact hz)]
theorem QsQ {c : Cd} (h : parE c = 0) : ∀ w ∈ kwd c.k :: c.args, w.all okb = true := by
 obtain ⟨k1, k2, _, _⟩ := Qfq (Qdt h).1
 intro w hw
 rcases List.mem_cons.1 hw with rfl | hw
 ·exact QwO k1 k2
 ·exact QvN h w hw
theorem Qr7 {k : Int} {t : Bs} (h0 : 1 ≤ k) (h1 : k ≤ 14) (ht : t = [] ∨ ∃ c q, t = c :: q ∧ low c = false) : (kwd k ++ t).takeWhile low = kwd k ∧ (kwd k ++ t).dropWhile low = t := Qtm (Qwe h0 h1) ht
theorem Qrd {k : Int} {t : Bs} (h0 : 1 ≤ k) (h1 : k ≤ 14) (ht : t = [] ∨ ∃ c q, t = c :: q ∧ low c = false) (i : Int) (i0 : 1 ≤ i) (i1 : i ≤ 14) {r : Bs} (h : cutP (kwd i ++ [40]) (kwd k ++ t) = some r) : i = k := by
 have e := (Qc2 h).1
 have e1 := (Qr7 h0 h1 ht).1
 rw [e, List.append_assoc, (Qr7 i0 i1 (t := [40] ++ r) (.inr ⟨40, r, rfl, by decide⟩)).1] at e1
 rw [← QmA i0 i1, e1, QmA h0 h1]
theorem QuR {k : Int} {t : Bs} (h0 : 1 ≤ k) (h1 : k ≤ 14) (hl : isl k = false) (ht : t = [] ∨ ∃ c q, t = c :: q ∧ low c = false) : Qgs (kwd k ++ t) = none := by
 have key : ∀ i : Int, isl i = true → 1 ≤ i → i ≤ 14 → cutP (kwd i ++ [40]) (kwd k ++ t) = none := fun i hi i0 i1 => by
  cases hc : cutP (kwd i ++ [40]) (kwd k ++ t) with
  | none => rfl
  | some r =>
   have := Qrd h0 h1 ht i i0 i1 hc
   rw [this, hl] at hi
   cases hi
 unfold Qgs
 rw [key 2 (by decide) (by decide) (by decide), key 3 (by decide) (by decide) (by decide), key 4 (by decide) (by decide) (by decide)]
theorem QtC {k : Int} (hk : k = 2 ∨ k = 3 ∨ k = 4) (t : Bs) : Qgs (kwd k ++ 40 :: t) = some (k, t) := by
 have hy : cutP (kwd k ++ [40]) (kwd k ++ 40 :: t) = some t := by
  have := QmW (kwd k ++ [40]) t
  rwa [List.append_assoc] at this
 have no : ∀ i : Int, 1 ≤ i → i ≤ 14 → i ≠ k → cutP (kwd i ++ [40]) (kwd k ++ 40 :: t) = none := fun i i0 i1 hi => by
  cases hc : cutP (kwd i ++ [40]) (kwd k ++ 40 :: t) with
  | none => rfl
  | some r => exact absurd (Qrd (by omega) (by omega) (.inr ⟨40, t, rfl, by decide⟩) i i0 i1 hc) hi
 unfold Qgs
 rcases hk with rfl | rfl | rfl
 ·rw [hy]
 ·rw [no 2 (by decide) (by decide) (by decide), hy]
 ·rw [no 2 (by decide) (by decide) (by decide), no 3 (by decide) (by decide) (by decide), hy]
theorem Qur (x : Bs) (l : List Bs) : Lib.join (x :: l) [32] = x ++ Lib.joinTail [32] l := Lib.join_cons x l [32]
theorem QuV (l : List Bs) {r : Bs} (hr : Rest r) : Lib.joinTail [32] l ++ r = [] ∨ ∃ c q, Lib.joinTail [32] l ++ r = c :: q ∧ low c = false := by
 cases l with
 | nil => exact QtU hr (by decide) (by decide)
 | cons w l => exact .inr ⟨32, w ++ (Lib.joinTail [32] l ++ r), by simp [Lib.joinTail], by decide⟩
theorem Qt1 {c : Cd} (hl : isl c.k = false) (r : Bs) : wrC c ++ r = kwd c.k ++ (Lib.joinTail [32] c.args ++ r) := by
 rw [QcF, hl, if_neg (by simp), Qur, List.append_assoc]
theorem QsW {c : Cd} (h : parE c = 0) (hl : isl c.k = false) (k : Nat) (r : Bs) (hr : Rest r) : ∃ x, QbO (k + 1) (wrC c ++ r) = some (x, r) ∧ Qbt x c = true := by
 obtain ⟨k1, k2, _, _⟩ := Qfq (Qdt h).1
 have hw := QsQ h
 obtain ⟨x, hx, hs⟩ := QrP h hl
 have ew : wrC c = Lib.join (kwd c.k :: c.args) [32] := by rw [QcF, hl, if_neg (by simp)]
 have hall : (wrC c).all QeQ = true := by rw [ew]; exact Qqw (by decide) fun w hw' => QsD (hw w hw')
 obtain ⟨e1, e2⟩ := Qtm hall (QtU hr (by decide) (by decide))
 refine ⟨x, ?_, hs⟩
 have hk : Qgs (wrC c ++ r) = none := by
  rw [Qt1 hl]
  exact QuR k1 k2 hl (QuV c.args hr)
 rw [QbO, hk]
 dsimp only
 have eh : Qa7 (wrC c ++ r) = wrC c := e1
 have et : Qe6 (wrC c ++ r) = r := e2
 have el : QfT (kwd c.k :: c.args) = some x := by
  show (if QfD (kwd c.k) = 0 then none else if isl (QfD (kwd c.k)) = true then none else Qcz (QfD (kwd c.k)) c.args) = some x
  rw [QmA k1 k2, if_neg (by omega), hl, if_neg (by simp), hx]
 rw [eh, et, ew, QnS (by simp) hw, el]
theorem Qxy {k : Int} (h : isl k = true) : k = 2 ∨ k = 3 ∨ k = 4 := by
 unfold isl at h
 rw [Bool.or_eq_true, Bool.or_eq_true] at h
 simpa using h
def QcS (l : List Cd) : Bs := (l.map fun x => [44, 32] ++ wrC x).flatten
theorem QoM (x : Cd) (l : List Cd) : Lib.join ((x :: l).map wrC) [44, 32] = wrC x ++ QcS l := by
 rw [List.map_cons, Lib.join_cons]
 unfold Lib.joinTail QcS
 rw [List.map_map]
 rfl
theorem Qpi (l : List Cd) (r : Bs) : Rest (QcS l ++ [41] ++ r) := by
 cases l with
 | nil => exact .inr ⟨41, r, rfl, .inr rfl⟩
 | cons x l => exact .inr ⟨44, 32 :: (wrC x ++ (QcS l ++ [41] ++ r)), by simp [QcS], .inl rfl⟩
theorem Qud (l : List Cd) (x : Cd) (r : Bs) : cutP [44, 32] (QcS (x :: l) ++ [41] ++ r) = some (wrC x ++ (QcS l ++ [41] ++ r)) := by
 have := QmW [44, 32] (wrC x ++ (QcS l ++ [41] ++ r))
 rw [← this]
 congr 1
 simp [QcS]
theorem Qv5 (r : Bs) : cutP [44, 32] (QcS [] ++ [41] ++ r) = none ∧ cutP [41] (QcS [] ++ [41] ++ r) = some r := by
 refine ⟨?_, QmW [41] r⟩
 show cutP [44, 32] (41 :: r) = none
 unfold cutP
 rw [if_neg]
 rintro ⟨_, h⟩
 cases r <;> simp at h
theorem Quu (l : List Cd) (x : Cd) : (QcS (x :: l)).length = 2 + (wrC x).length + (QcS l).length := by simp [QcS]; omega
theorem Qro : ∀ l : List Cd, l.length ≤ (QcS l).length
 | [] => by simp
 | x :: l => by
  have := Qro l
  rw [Quu, List.length_cons]
  omega
theorem Qna {p : Bs → Option (Cd × Bs)} {i : Int} (r : Bs) : ∀ (l : List Cd) (a : List Cd) (j : Nat), (∀ x ∈ l, ∀ r', Rest r' → ∃ y, p (wrC x ++ r') = some (y, r') ∧ Qbt y x = true) → l.length < j →
  ∃ b, QdV p i j a (QcS l ++ [41] ++ r) = some (mkLi i (a ++ b), r) ∧ Qa1 b l = true
 | [], a, j, h, hj => by
  obtain ⟨j, rfl⟩ : ∃ m, j = m + 1 := ⟨j - 1, by simp at hj; omega⟩
  obtain ⟨e1, e2⟩ := Qv5 r
  refine ⟨[], ?_, by rw [Qa1]; rfl⟩
  rw [QdV, e1, e2, List.append_nil]
 | x :: l, a, j, h, hj => by
  obtain ⟨j, rfl⟩ : ∃ m, j = m + 1 := ⟨j - 1, by simp at hj; omega⟩
  obtain ⟨y, hy, hs⟩ := h x (by simp) _ (Qpi l r)
  obtain ⟨b, hb, hbs⟩ := Qna r l (a ++ [y]) j (fun z hz => h z (by simp [hz])) (by simp at hj; omega)
  refine ⟨y :: b, ?_, by rw [QeF, hs, hbs]; rfl⟩
  rw [QdV, Qud]
  dsimp only
  rw [hy]
  dsimp only
  rw [hb]
  simp
theorem Qsp : ∀ c : Cd, parE c = 0 → ∀ (k : Nat) (r : Bs), Rest r → (wrC c).length < k → ∃ x, QbO k (wrC c ++ r) = some (x, r) ∧ Qbt x c = true := by
 refine Cd.ind fun c ih h k r hr hk => ?_
 obtain ⟨k, rfl⟩ : ∃ m, k = m + 1 := ⟨k - 1, by omega⟩
 cases hl : isl c.k with
 | false => exact QsW h hl k r hr
 | true =>
  have hks := Qxy hl
  have hne : c.l ≠ [] := by
   intro e
   obtain ⟨_, _, _, h1⟩ := Qfq (Qdt h).1
   unfold QbI at h1
   rcases hks with q | q | q
   ·rw [if_pos (by omega), e] at h1; exact absurd h1 (by decide)
   ·rw [if_pos (by omega), e] at h1; exact absurd h1 (by decide)
   ·rw [if_neg (by omega), if_pos q, e] at h1; exact absurd h1 (by decide)
  have hp := (Qdt h).2
  cases hcl : c.l with
  | nil => exact absurd hcl hne
  | cons x l =>
   have ew : wrC c ++ r = kwd c.k ++ 40 :: (wrC x ++ (QcS l ++ [41] ++ r)) := by
    rw [QcF c, if_pos hl, hcl, QoM]
    simp
   have hwx : (wrC c).length = (kwd c.k).length + 1 + (wrC x).length + (QcS l).length + 1 := by
    rw [QcF c, if_pos hl, hcl, QoM]
    simp; omega
   have hsub : ∀ z ∈ c.l, (wrC z).length < k := fun z hz => by have := Qul hl hz; omega
   have ihp : ∀ z ∈ c.l, ∀ r', Rest r' → ∃ y, QbO k (wrC z ++ r') = some (y, r') ∧ Qbt y z = true := fun z hz r' hr' => ih z hz (hp z hz) k r' hr' (hsub z hz)
   obtain ⟨y, hy, hys⟩ := ihp x (by rw [hcl]; simp) _ (Qpi l r)
   have hll := Qro l
   obtain ⟨b, hb, hbs⟩ := Qna (p := QbO k) (i := c.k) r l [y] ((QcS l ++ [41] ++ r).length + 1) (fun z hz => ihp z (by rw [hcl]; simp [hz])) (by simp; omega)
   refine ⟨mkLi c.k ([y] ++ b), ?_, ?_⟩
   ·rw [ew, QbO, QtC hks]
    dsimp only
    rw [hy]
    dsimp only
    rw [hb]
   ·obtain ⟨_, z2, z3, z4, z5⟩ := QqZ h
    have hc : isc c.k = false := by rcases hks with q | q | q <;> rw [q] <;> rfl
    have hpp : isp c.k = false := by rcases hks with q | q | q <;> rw [q] <;> rfl
    have hn : nums c.k = 0 := by rcases hks with q | q | q <;> rw [q] <;> rfl
    obtain ⟨y1, y2, y3⟩ := z3 hpp
    refine Qev.2 ⟨rfl, (z4 (by omega)).symm, (z5 (by omega)).symm, y1.symm, y2.symm, y3.symm, (z2 hc).symm, ?_⟩
    show Qa1 (y :: b) c.l = true
    rw [hcl, QeF, hys, hbs]
    rfl
end Go.Proofs
set_option linter.unusedVariables false
set_option linter.unusedSimpArgs false
set_option maxRecDepth 100000
namespace Go.Proofs
open Go.Am
end Go.Proofs
set_option linter.unusedVariables false
set_option linter.unusedSimpArgs false
set_option maxRecDepth 100000
namespace Go.Proofs
open Go.Am
theorem QvV {B L : Nat} {c : Cd} {args : List Bs} (hl : c.l = []) (ht : c.t = [] ∨ c.t = args) (hb : args.length ≤ B) (ha : ∀ s ∈ args, s.length ≤ L) : Sm B L c ∧ tsz c = 1 := by
 refine ⟨(QfV c).2 ⟨by rw [hl]; simp, fun x hx => (by rw [hl] at hx; cases hx), ?_, fun s hs => ?_⟩, by rw [QeT, hl, tszs]⟩
 ·rcases ht with h | h <;> rw [h]
  ·simp
  ·exact hb
 ·rcases ht with h | h <;> rw [h] at hs
  ·cases hs
  ·exact ha s hs
theorem QrO {k : Int} {args : List Bs} {c : Cd} (h : Qcz k args = some c) : c.l = [] ∧ (c.t = [] ∨ c.t = args) := by
 unfold Qcz at h
 split at h
 ·obtain rfl := Option.some.inj h; exact ⟨rfl, .inr rfl⟩
 split at h
 ·split at h
  ·split at h
   ·obtain rfl := Option.some.inj h; exact ⟨rfl, .inl rfl⟩
   ·cases h
  ·cases h
 split at h
 ·split at h
  ·split at h
   ·obtain rfl := Option.some.inj h; exact ⟨rfl, .inl rfl⟩
   ·cases h
  ·cases h
 split at h
 ·split at h
  ·split at h
   ·obtain rfl := Option.some.inj h; exact ⟨rfl, .inl rfl⟩
   ·cases h
  ·cases h
 split at h
 ·split at h
  ·split at h
   ·obtain rfl := Option.some.inj h; exact ⟨rfl, .inl rfl⟩
   ·cases h
  ·cases h
 ·obtain rfl := Option.some.inj h; exact ⟨rfl, .inl rfl⟩
theorem QrK {s : Bs} {c : Cd} (h : QfT (QaG 32 s) = some c) : s ≠ [] ∧ ∃ h0 args, QaG 32 s = h0 :: args ∧ c.l = [] ∧ (c.t = [] ∨ c.t = args) := by
 constructor
 ·rintro rfl
  have e : QfT (QaG 32 []) = none := by decide
  rw [e] at h
  cases h
 ·cases e : QaG 32 s with
  | nil => exact absurd e (Qo4 32 s)
  | cons h0 args =>
   rw [e] at h
   refine ⟨h0, args, rfl, ?_⟩
   have h : (if QfD h0 = 0 then none else if isl (QfD h0) = true then none else Qcz (QfD h0) args) = some c := h
   split at h
   ·cases h
   split at h
   ·cases h
   ·exact QrO h
theorem Qrm : ∀ (a b : List Cd), tszs (a ++ b) = tszs a + tszs b
 | [], b => by rw [List.nil_append, tszs]; omega
 | x :: a, b => by rw [List.cons_append, tszs, tszs, Qrm a b]; omega
section
variable {B : Nat}
def Fine (B : Nat) (s : Bs) (c : Cd) (r : Bs) : Prop := tsz c + r.length ≤ s.length ∧ Sm (B + 1) B c
theorem Qv4 {c : Cd} {n : Nat} (ht : c.t = []) (hl : ∀ z ∈ c.l, Sm (B + 1) B z) (hn : tszs c.l ≤ B) : Sm (B + 1) B c :=
 (QfV c).2 ⟨by have := QhW c.l; omega, hl, by rw [ht]; simp, fun s hs => by rw [ht] at hs; cases hs⟩
theorem QoI {p : Bs → Option (Cd × Bs)} (hp : ∀ s y, s.length ≤ B → p s = some y → Fine B s y.1 y.2) {i : Int} : ∀ (j : Nat) (l : List Cd) (s : Bs) (x : Cd × Bs), (∀ z ∈ l, Sm (B + 1) B z) → tszs l + s.length ≤ B → QdV p i j l s = some x →
  tsz x.1 + x.2.length ≤ tszs l + s.length ∧ Sm (B + 1) B x.1
 | 0, _, _, _, _, _, h => by cases h
 | j + 1, l, s, x, hl, hs, h => by
  rw [QdV] at h
  split at h
  ·rename_i s1 h1
   have hc := (Qc2 h1).2
   simp only [List.length_cons, List.length_nil] at hc
   split at h
   ·rename_i y hy
    obtain ⟨q1, q2⟩ := hp s1 y (by omega) hy
    have e : tszs (l ++ [y.1]) = tszs l + tsz y.1 := by rw [Qrm, tszs, tszs]; omega
    have := QoI hp j (l ++ [y.1]) y.2 x (fun z hz => by
     rcases List.mem_append.1 hz with hz | hz
     ·exact hl z hz
     ·simp only [List.mem_singleton] at hz; subst hz; exact q2) (by rw [e]; omega) h
    rw [e] at this
    exact ⟨by omega, this.2⟩
   ·cases h
  ·split at h
   ·rename_i s1 h1
    have hc := (Qc2 h1).2
    simp only [List.length_cons, List.length_nil] at hc
    obtain rfl := Option.some.inj h
    refine ⟨?_, Qv4 (n := 0) rfl hl (show tszs l ≤ B by omega)⟩
    show tsz (mkLi i l) + s1.length ≤ _
    rw [QeT]
    show 1 + tszs l + s1.length ≤ _
    omega
   ·cases h
theorem Qie : ∀ (k : Nat) (s : Bs) (x : Cd × Bs), s.length ≤ B → QbO k s = some x → Fine B s x.1 x.2
 | 0, _, _, _, h => by cases h
 | k + 1, s, x, hs, h => by
  rw [QbO] at h
  split at h
  ·rename_i q hq
   have h1 := (Qpn hq).1
   split at h
   ·rename_i y hy
    obtain ⟨q1, q2⟩ := Qie k _ _ (by omega) hy
    have e : tszs [y.1] = tsz y.1 := by rw [tszs, tszs]; omega
    have := QoI (fun s y hs' hy' => Qie k s y hs' hy') _ _ _ _ (fun z hz => by simp only [List.mem_singleton] at hz; subst hz; exact q2) (by rw [e]; omega) h
    rw [e] at this
    exact ⟨by omega, this.2⟩
   ·cases h
  ·split at h
   ·rename_i c hc
    obtain rfl := Option.some.inj h
    obtain ⟨hne, h0, args, e, hl, ht⟩ := QrK hc
    have hh := congrArg List.length (QgV s)
    rw [List.length_append] at hh
    have hpos : 1 ≤ (Qa7 s).length := by cases hq : Qa7 s; exact absurd hq hne; simp
    obtain ⟨l1, l2⟩ := Qhn 32 (Qa7 s)
    rw [e] at l1 l2
    simp only [List.length_cons] at l1
    obtain ⟨s1, s2⟩ := QvV (B := B + 1) (L := B) hl ht (by omega) (fun w hw => by have := l2 w (by simp [hw]); omega)
    exact ⟨by show tsz c + (Qe6 s).length ≤ _; omega, s1⟩
   ·cases h
end
theorem Qo8 {K : Nat} {f : Cd → Bs} : ∀ {l : List Cd}, (∀ x ∈ l, (f x).length ≤ K * tsz x) → (Lib.join (l.map f) [44, 32]).length ≤ K * tszs l + 2 * l.length
 | [], _ => by simp [Lib.join_nil]
 | [x], h => by
  rw [List.map_cons, List.map_nil, Lib.join_one, tszs, tszs]
  have := h x (by simp)
  simp only [Nat.add_zero]
  omega
 | x :: y :: r, h => by
  rw [List.map_cons, List.map_cons, Qex]
  have h1 := h x (by simp)
  have h2 := Qo8 (l := y :: r) fun z hz => h z (by simp at hz ⊢; right; exact hz)
  rw [List.map_cons] at h2
  rw [tszs, Nat.mul_add]
  simp only [List.length_append, List.length_cons, List.length_nil] at h2 ⊢
  omega
theorem Quf : ∀ {B L : Nat} (c : Cd), parE c = 0 → Sm B L c → (wrC c).length ≤ (4 * B + 100) * tsz c := by
 intro B L
 refine Cd.ind fun c ih h hs => ?_
 obtain ⟨h1, h2, h3, _⟩ := (QfV c).1 hs
 have hk := Qn8 c.k
 rw [QeT, Nat.mul_add, Nat.mul_one]
 cases hl : isl c.k with
 | true =>
  rw [QcF, if_pos hl]
  have := Qo8 (K := 4 * B + 100) (f := wrC) (l := c.l) fun x hx => ih x hx ((Qdt h).2 x hx) (h2 x hx)
  simp only [List.length_append, List.length_cons, List.length_nil]
  omega
 | false =>
  rw [QcF, hl, if_neg (by simp)]
  have ha : (Lib.join c.args [32]).length ≤ 4 * B + 60 := by
   cases hp : isp c.k with
   | true => rw [QmO hp, Lib.join_one]; have := QmB c.fr c.to c.days; omega
   | false =>
    cases hc : isc c.k with
    | true =>
     rw [QmF hc]
     have := Qsm (s := [32]) (m := 3) fun x hx => QuT ((QoL h hc).2 x hx)
     simp only [List.length_cons, List.length_nil] at this
     omega
    | false =>
     by_cases h8 : c.k = 8
     ·rw [Qp5 h8, Qex, Lib.join_one]
      have := QjR c.a
      have := QjR c.b
      simp only [List.length_append, List.length_cons, List.length_nil]
      omega
     ·rw [Qm7 hp hc h8]
      split
      ·rename_i hn
       obtain ⟨a0, a1, b0, _⟩ := Qfr h (by omega)
       have b0 := b0 hn
       have := Qeu (z := c.a) (by omega) (by omega)
       have := Qeu (z := c.b) (by omega) (by omega)
       rw [Qex, Lib.join_one]
       simp only [List.length_append, List.length_cons, List.length_nil]
       omega
      split
      ·rename_i _ hn
       obtain ⟨a0, a1, _, _⟩ := Qfr h hn
       have := Qeu (z := c.a) (by omega) (by omega)
       rw [Lib.join_one]
       omega
      ·rw [Lib.join_nil]; simp
  cases hq : c.args with
  | nil => rw [Lib.join_one]; omega
  | cons x r =>
   rw [Qex, ← hq]
   simp only [List.length_append, List.length_cons, List.length_nil]
   omega
end Go.Proofs
set_option linter.unusedVariables false
set_option linter.unusedSimpArgs false
set_option maxRecDepth 100000
namespace Go.Proofs
open Go.Am
variable (lb : Nat)
end Go.Proofs
set_option linter.unusedVariables false
set_option linter.unusedSimpArgs false
set_option maxRecDepth 100000
namespace Go.Proofs
open Go.Am
variable (lb : Nat)
theorem QuE : some (.tup [QjV (8, 1320, 359), .bool true]) = some (QpV (QbO 17 [104, 111, 117, 114, 32, 50, 50, 58, 48, 48, 32, 48, 53, 58, 53, 57])) := by kernel_rfl
theorem QvG : some (.tup [QjV (1, 0, 0), .bool true]) = some (QpV (QbO 4 [97, 108, 108])) := by kernel_rfl
theorem QpO (s : Bs) (hs : s.length < 800000) : Ret (lb + 2) QeZ [.str s] (QpV (QbO (s.length + 1) s)) := by
 cases ht : QhB s with
 | none => exact Qps lb s hs ht
 | some x =>
  refine .lib (s := Qdf) rfl ?_
  simp only [Qdf, ht]
  unfold QhB at ht
  split at ht
  ·rename_i e
   obtain rfl := Option.some.inj ht
   subst e
   exact QuE
  split at ht
  ·rename_i e
   obtain rfl := Option.some.inj ht
   subst e
   exact QvG
  ·cases ht
def Has (s : Bs) (c : Cd) : Prop := Qcn c = 0 ∧ tsz c ≤ 1000000 ∧ wrC c = s
def Qjy (c : Cd) : Prop := tsz c ≤ 1000000 ∧ Sm 70000 70000 c
def parV (o : Option Cd) : CV := match o with
 | some c => .tup [cdv c, .int .i64 0]
 | none => .tup [cdv (mkL 0 0 0 0 0 0 true []), .int .i64 3]
def QvD (s : Bs) (o : Option Cd) : Prop := (∀ c, o = some c → Has s c ∧ Qjy c) ∧ (o = none → ∀ c, ¬ Has s c) ∧ ∀ c c', o = some c → Has s c' → Qbt c c' = true
theorem Qrl {s : Bs} {c : Cd} (hs : s.length ≤ 65536) (h : Has s c) : prV c = (s, 0) := by
 unfold prV
 rw [if_neg (fun e => e h.1), h.2.2, if_neg (by omega)]
theorem QwW {s : Bs} {c : Cd} (ht : tsz c ≤ 1000000) (h : prV c = (s, 0)) : Has s c := by
 unfold prV at h
 split at h
 ·rename_i q; exact absurd (congrArg Prod.snd h) q
 rename_i q
 split at h
 ·exact absurd (show (4 : Int) = 0 from congrArg Prod.snd h) (by decide)
 ·exact ⟨Classical.byContradiction q, ht, congrArg Prod.fst h⟩
theorem QuJ {s : Bs} {a b : Cd} (ht : tsz a ≤ 1000000) (h : Qbt a b = true) (hb : Has s b) : Has s a := ⟨(Qtb h).trans hb.1, ht, (QvI a b h).trans hb.2.2⟩
theorem Qrc {c : Cd} (h : Qjy c) (hc : Qcn c = 0) : (wrC c).length ≤ 100000000 := by
 obtain ⟨h1, h2, _⟩ := Qgw h.1 hc
 have := Quf c h2 h.2
 have : (4 * 70000 + 100) * tsz c ≤ (4 * 70000 + 100) * 128 := Nat.mul_le_mul_left _ h1
 omega
theorem Qjs {c : Cd} (h : Qjy c) : Fits c := Qwh (by decide) (by decide) c h.2
theorem Qk0 {c : Cd} (h : Qjy c) : Big c := Qos (by decide) (by decide) c h.2
theorem Qn2 {s : Bs} {c : Cd} {r : Bs} (hs : s.length ≤ 65536) (h : Fine 65536 s c r) : Qjy c := ⟨by have := h.1; omega, Qos (by decide) (by decide) c h.2⟩
def QbU (s : Bs) : Option Cd := match QbO (s.length + 1) s with
 | some (x, []) => if prV x = (s, 0) then some x else none
 | _ => none
theorem Qoz (s : Bs) (hs : s.length ≤ 65536) : QvD s (QbU s) := by
 have there : ∀ c, Has s c → ∃ x, QbO (s.length + 1) s = some (x, []) ∧ Qbt x c = true := fun c h => by
  obtain ⟨h1, h2, _⟩ := Qgw h.2.1 h.1
  obtain ⟨x, hx, hsx⟩ := Qsp c h2 (s.length + 1) [] (.inl rfl) (by rw [h.2.2]; omega)
  rw [List.append_nil, h.2.2] at hx
  exact ⟨x, hx, hsx⟩
 unfold QbU
 cases hp : QbO (s.length + 1) s with
 | none =>
  refine ⟨fun c e => (by cases e), fun _ c h => ?_, fun c c' e => (by cases e)⟩
  obtain ⟨x, hx, _⟩ := there c h
  rw [hp] at hx; cases hx
 | some q =>
  obtain ⟨x, r⟩ := q
  have hf := Qn2 hs (Qie _ _ _ hs hp)
  cases r with
  | cons a b =>
   refine ⟨fun c e => (by cases e), fun _ c h => ?_, fun c c' e => (by cases e)⟩
   obtain ⟨y, hy, _⟩ := there c h
   rw [hp] at hy; cases hy
  | nil =>
   dsimp only
   have key : ∀ c, Has s c → Qbt x c = true := fun c h => by
    obtain ⟨y, hy, hsy⟩ := there c h
    rw [hp] at hy
    simp only [Option.some.injEq, Prod.mk.injEq, and_true] at hy
    rw [hy]; exact hsy
   by_cases hq : prV x = (s, 0)
   ·rw [if_pos hq]
    refine ⟨fun c e => ?_, fun e => (by cases e), fun c c' e h => ?_⟩
    ·obtain rfl := Option.some.inj e
     exact ⟨QwW hf.1 hq, hf⟩
    ·obtain rfl := Option.some.inj e
     exact key c' h
   ·rw [if_neg hq]
    refine ⟨fun c e => (by cases e), fun _ c h => hq ?_, fun c c' e => (by cases e)⟩
    exact Qrl hs (QuJ hf.1 (key c h) h)
theorem Qwm {p : Bs × Int} {s : Bs} (h : ¬ p = (s, 0)) (h2 : p.2 = 0) : ¬ p.1 = s := fun e => h (by rw [← e, ← h2])
theorem Qjc (s : Bs) (hs : s.length ≤ 65536) : Ret (lb + 2) QdH [.str s] (parV (QbU s)) := by
 refine .top rfl (.eq (fun n => by rw [Qpy]) ?_)
 have e1 := QpO lb s (by omega)
 unfold QbU
 cases hp : QbO (s.length + 1) s with
 | none =>
  rw [hp] at e1
  exact e1.mono fun n a => stF (decF (by omega)) (stO _ a (stO _ rfl (stO _ rfl (stO _ rfl (stO _ rfl (stO _ rfl (stC rfl (stO _ rfl (stO _ rfl (stO _ rfl (stO _ rfl (stO _ rfl (stO _ rfl (stO _ rfl (stO _ rfl (stO _ rfl (stT rfl rfl)))))))))))))))))
 | some q =>
  obtain ⟨x, r⟩ := q
  rw [hp] at e1
  have hf := Qn2 hs (Qie _ _ _ hs hp)
  cases r with
  | cons a b =>
   exact e1.mono fun n a => stF (decF (by omega)) (stO _ a (stO _ rfl (stO _ rfl (stO _ rfl (stO _ rfl (stO _ rfl (stC rfl (stO _ rfl (stO _ rfl (stO _ rfl (stO _ rfl (stO _ rfl (stO _ rfl (stO _ rfl (stO _ rfl (stO _ rfl (stT rfl rfl)))))))))))))))))
  | nil =>
   dsimp only
   have e2 := Qf6 (lb + 2) x (Qjs hf) hf.1 (Qrc hf)
   refine Evt.imp2 e1 e2 fun n a b => stF (decF (by omega)) (stO _ a (stO _ rfl (stO _ rfl (stO _ rfl (stO _ rfl (stO _ rfl (stC rfl (stO _ rfl (stO _ rfl (stO _ rfl (stO _ rfl (stO _ rfl (stO _ rfl (stO _ rfl (stO _ rfl (stO _ rfl (stF rfl (stO _ b (stO _ rfl (stO _ rfl (stO _ rfl (stO _ rfl (stO _ (Qas ..) ?_)))))))))))))))))))))))
   by_cases hq : prV x = (s, 0)
   ·rw [if_pos hq]
    have h1 : (prV x).1 = s := by rw [hq]
    have h2 : (prV x).2 = 0 := by rw [hq]
    exact stF (bneF h2) (stO _ rfl (stF (beqS h1) rfl))
   ·rw [if_neg hq]
    by_cases h2 : (prV x).2 = 0
    ·exact stF (bneF h2) (stO _ rfl (stT (bneS (Qwm hq h2)) rfl))
    ·exact stT (bneT h2) rfl
def getC (o : Option Cd) : Cd := o.getD (mkL 0 0 0 0 0 0 true [])
def errC (o : Option Cd) : Int := match o with
 | some _ => 0
 | none => 3
theorem QvX (o : Option Cd) : parV o = .tup [cdv (getC o), .int .i64 (errC o)] := by cases o <;> rfl
theorem Quc {s : Bs} {a : Option Cd} (ha : QvD s a) : Big (getC a) ∧ Qjy (getC a) := by
 cases a with
 | none => 
  have h : Qjy (mkL 0 0 0 0 0 0 true []) := ⟨by decide, (QfV _).2 ⟨by decide, fun x hx => (by cases hx), by decide, fun s hs => (by cases hs)⟩⟩
  exact ⟨Qk0 h, h⟩
 | some x => exact ⟨Qk0 (ha.1 x rfl).2, (ha.1 x rfl).2⟩
theorem QwQ {c : Cd} (hf : Fits c) (hl : lgC c = false) (hc : Qcn c = 0) : (wrC c).length ≤ 100000000 := by
 obtain ⟨h1, h2, _⟩ := Qgw (by have := (Qj3 c hf hl).2; omega) hc
 have := Quf c h2 (Qty c ⟨hf, hl⟩)
 have : (4 * 400 + 100) * tsz c ≤ (4 * 400 + 100) * 128 := Nat.mul_le_mul_left _ h1
 omega
theorem Qra (c : Cd) (s : Bs) (hf : Fits c) : Ret (lb + 2) QbV [cdv c, .str s] (.bool true) := by
 refine .top rfl (.eq (fun n => by rw [Qnk]) ?_)
 have k := Qtd lb
 have e1 := Qpt (lb + 2) c hf
 cases hl : lgC c with
 | true =>
  rw [hl] at e1
  exact Evt.imp2 e1 k fun n x y => stO _ x (stO _ rfl (stT rfl (stO _ y rfl)))
 | false =>
  rw [hl] at e1
  by_cases h4 : (s.length : Int) > 4000
  ·exact Evt.imp2 e1 k fun n x y => stO _ x (stO _ rfl (stF rfl (stT (decT h4) (stO _ y rfl))))
  have hs : s.length ≤ 65536 := by omega
  have ht : tsz c ≤ 1000000 := by have := (Qj3 c hf hl).2; omega
  have p1 := Qf6 (lb + 2) c hf ht (QwQ hf hl)
  have p2 := Qgp (lb + 2) c hf ht
  have q1 := Qjc lb s hs
  have f1 := Qoz s hs
  have hsz := (Quc f1).2
  have q2 := Qf6 (lb + 2) (getC (QbU s)) (Qjs hsz) hsz.1 (Qrc hsz)
  have q3 := Qgp (lb + 2) (getC (QbU s)) (Qjs hsz) hsz.1
  rw [QvX] at q1
  have good : errC (QbU s) = 0 → prV (getC (QbU s)) = (s, 0) ∧ Qcn (getC (QbU s)) = 0 := fun h => by
   cases hq : QbU s with
   | none => rw [hq] at h; cases h
   | some x =>
    have := (f1.1 x hq).1
    exact ⟨Qrl hs this, this.1⟩
  have tl : ∀ n (a : C (lb + 2) n QdH [.str s] = some (.tup [cdv (getC (QbU s)), .int .i64 (errC (QbU s))])) (b : C (lb + 2) n Qc4 [cdv (getC (QbU s))] = some (.tup [.str (prV (getC (QbU s))).1, .int .i64 (prV (getC (QbU s))).2]))
    (d : C (lb + 2) n Qdh [cdv (getC (QbU s))] = some (.int .i64 (Qcn (getC (QbU s))))) (y : C (lb + 2) n QbM [] = some (.bool true)),
    (∀ jy jH jF, QfI (lb + 2) n c.k c.ln (c.l.map ccv) c.a c.b c.fr c.to c.days c.tn (scv c.t) s jy jH jF = some (.bool true)) ∧ ∀ jy jH jF v1 v2 v3 v4 v5 v6 v7 v8 v9, Qfy (lb + 2) n c.k c.ln (c.l.map ccv) c.a c.b c.fr c.to c.days c.tn (scv c.t) s jy jH jF v1 v2 v3 v4 v5 v6 v7 v8 v9 = some (.bool true) := by
   intro n a b d y
   refine ⟨fun jy jH jF => ?_, fun jy jH jF v1 v2 v3 v4 v5 v6 v7 v8 v9 => ?_⟩
   ·rw [QkN]
    refine stO _ a (stO _ rfl (stO _ rfl (stO _ rfl (stO _ rfl (stO _ rfl (stC rfl (stO _ rfl (stO _ rfl (stO _ rfl (stO _ rfl (stO _ rfl (stO _ rfl (stO _ rfl (stO _ rfl (stO _ b (stO _ rfl (stO _ rfl (stO _ rfl (stO _ rfl (stO _ (Qas ..) ?_))))))))))))))))))))
    by_cases hg : errC (QbU s) = 0
    ·obtain ⟨g1, g2⟩ := good hg
     exact stF (bneF hg) (stO _ (Qas ..) (stT (beqT (by rw [g1])) (stO _ rfl (stT (by rw [g1]; simp) (stO _ d (stO _ (Qas ..) (stT (beqT g2) (stO _ y rfl))))))))
    ·exact stT (bneT hg) (stO _ y rfl)
   ·rw [QkS]
    refine stO _ a (stO _ rfl (stO _ rfl (stO _ rfl (stO _ rfl (stO _ rfl (stC rfl (stO _ rfl (stO _ rfl (stO _ rfl (stO _ rfl (stO _ rfl (stO _ rfl (stO _ rfl (stO _ rfl (stO _ b (stO _ rfl (stO _ rfl (stO _ rfl (stO _ rfl (stO _ (Qas ..) ?_))))))))))))))))))))
    by_cases hg : errC (QbU s) = 0
    ·obtain ⟨g1, g2⟩ := good hg
     exact stF (bneF hg) (stO _ (Qas ..) (stT (beqT (by rw [g1])) (stO _ rfl (stT (by rw [g1]; simp) (stO _ d (stO _ (Qas ..) (stT (beqT g2) (stO _ y rfl))))))))
    ·exact stT (bneT hg) (stO _ y rfl)
  have all := Evt.and (Evt.and e1 k) (Evt.and (Evt.and p1 p2) (Evt.and q1 (Evt.and q2 q3)))
  by_cases hc : Qcn c = 0
  ·by_cases hlen : ((wrC c).length : Int) > 65536
   ·have ev : prV c = ([], 4) := by unfold prV; rw [if_neg (fun e => e hc), if_pos hlen]
    rw [ev] at p1
    exact (Evt.and (Evt.and e1 k) (Evt.and p1 p2)).mono fun n ⟨⟨x, y⟩, a, b⟩ =>
     stO _ x (stO _ rfl (stF rfl (stF (decF h4) (stO _ a (stO _ rfl (stO _ rfl (stO _ rfl (stO _ rfl (stO _ (Qas ..) (stO _ b (stO _ (Qas ..) (stT (by rw [hc]; rfl) (stO _ (Qas ..) (stT rfl (stO _ y rfl)))))))))))))))
   ·have hw : (wrC c).length ≤ 65536 := by omega
    have hh : Has (wrC c) c := ⟨hc, ht, rfl⟩
    have ev : prV c = (wrC c, 0) := Qrl hw hh
    rw [ev] at p1
    have fc := Qoz (wrC c) hw
    have r1 := Qjc lb (wrC c) hw
    cases hq : QbU (wrC c) with
    | none => exact absurd hh (fc.2.1 hq c)
    | some z =>
     rw [hq] at r1
     have hz := fc.1 z hq
     have hsame := fc.2.2 z c hq hh
     have sm := QpB (lb + 2) z c (Qk0 hz.2) (Qos (by decide) (by decide) c (Qty c ⟨hf, hl⟩))
     rw [hsame] at sm
     exact (Evt.and (Evt.and (Evt.and e1 k) (Evt.and p1 p2)) (Evt.and (Evt.and r1 sm) (Evt.and q1 (Evt.and q2 q3)))).mono fun n ⟨⟨⟨x, y⟩, a, b⟩, ⟨r, m⟩, u, v, w⟩ =>
      stO _ x (stO _ rfl (stF rfl (stF (decF h4) (stO _ a (stO _ rfl (stO _ rfl (stO _ rfl (stO _ rfl (stO _ (Qas ..) (stO _ b (stO _ (Qas ..) (stF (by rw [hc]; rfl) (stO _ (Qas ..) (stT rfl
       (stO _ r (stO _ rfl (stO _ rfl (stO _ rfl (stO _ rfl (stO _ rfl (stC rfl (stO _ rfl (stO _ rfl (stO _ rfl (stO _ rfl (stO _ rfl (stO _ rfl (stO _ rfl (stO _ rfl (stO _ (Qas ..) (stF rfl (stO _ m (stO _ rfl (stF rfl ((tl n u v w y).2 _ _ _ _ _ _ _ _ _ _ _ _)))))))))))))))))))))))))))))))))))
  ·have ev : prV c = ([], Qcn c) := by unfold prV; rw [if_pos hc]
   rw [ev] at p1
   exact (Evt.and (Evt.and (Evt.and e1 k) (Evt.and p1 p2)) (Evt.and q1 (Evt.and q2 q3))).mono fun n ⟨⟨⟨x, y⟩, a, b⟩, u, v, w⟩ =>
    stO _ x (stO _ rfl (stF rfl (stF (decF h4) (stO _ a (stO _ rfl (stO _ rfl (stO _ rfl (stO _ rfl (stO _ (Qas ..) (stO _ b (stO _ (Qas ..) (stF (by simp) (stO _ (Qas ..) (stF (beqF hc) ((tl n u v w y).1 _ _ _)))))))))))))))
end Go.Proofs
