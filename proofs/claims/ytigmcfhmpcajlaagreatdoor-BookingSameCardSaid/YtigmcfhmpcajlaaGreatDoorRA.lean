/- What the functions of package text and of its reference answer: quoted texts. Conditions: as each says. -/
import Derived.Test.YtigmcfhmpcajlaaGreatDoorG1
import Derived.Test.YtigmcfhmpcajlaaGreatDoorRk
import Derived.Laws.RangeAny
import Derived.Laws.RangeString
import Derived.Lib.SplitLaws
set_option linter.unusedSimpArgs false
namespace Go.Proofs
open Go.Am
variable (lb : Nat)
end Go.Proofs
set_option linter.unusedSimpArgs false
namespace Go.Proofs
open Go.Am
variable (lb : Nat)
theorem Qin (c : UInt8) : Ret lb Qbk [.int .u8 (c.toNat : Int)] (.bool (isPl c)) := by
 refine .top rfl (.all fun n => ?_)
 rw [QiV]
 revert c
 refine Qnv ?_
 have : ∀ k, k < 256 → (bif decide (((UInt8.ofNat k).toNat : Int) > 32) then bif decide (((UInt8.ofNat k).toNat : Int) ≤ 126) then ((((UInt8.ofNat k).toNat : Int) != 34)) else false else false) = isPl (UInt8.ofNat k) := by decide +kernel
 intro k hk
 rw [← this k hk]
 cases decide (((UInt8.ofNat k).toNat : Int) > 32)
 ·rfl
 ·cases decide (((UInt8.ofNat k).toNat : Int) ≤ 126) <;> rfl
theorem Qfy (s : Bs) (hs : s.length ≤ 281474976710656) : Ret lb QaV [.str s, .fn Qbk] (.bool (s.all fun c => isPl c)) := by
 refine .top rfl (.eq (fun n => by rw [Qen]) ?_)
 refine Evt.diag (m := s.length) (Qop hs (P := fun p t n k => Qbe lb n k s (p.length : Int) = some (.bool (t.all fun c => isPl c))) ?_ ?_ s [] rfl)
 ·refine .all fun n k => ?_
  rw [Qb3, decF (by omega), cond_false, QdG]
  rfl
 ·intro p c t hp hlt hat hw hev
  refine hev.imp2 (Qin lb c) fun n hn hc k hk => ?_
  rw [Qb3]
  simp only [hlt, decide_true, cond_true, hat, QbI, hc, Qb1, hw, List.all_cons]
  cases (isPl c)
  ·rfl
  ·simpa using hn k hk
theorem QbV (s : Bs) (hs : s.length ≤ 281474976710656) : Ret lb Qdw [.str s] (.bool (QeW s)) := by
 refine .top rfl (.eq (fun n => by rw [Qkp]) ?_)
 unfold QeW
 cases s with
 | nil => exact .done
 | cons c t =>
  simp only [show (c :: t == []) = false from rfl, Bool.not_false, cond_true, List.isEmpty_cons, Bool.true_and]
  exact .call (Qfy lb (c :: t) hs) .done
end Go.Proofs
set_option linter.unusedSimpArgs false
namespace Go.Proofs
open Go.Am
variable (lb : Nat)
def hxV (c : UInt8) : Int := match hexV c with
 | some n => n
 | none => -1
theorem Qnz (c : UInt8) : Lib.indexByte [48, 49, 50, 51, 52, 53, 54, 55, 56, 57, 97, 98, 99, 100, 101, 102] c = hxV c := by
 revert c; refine Qnv ?_; decide +kernel
theorem Qk5 (c : UInt8) : Ret lb QbA [.str [48, 49, 50, 51, 52, 53, 54, 55, 56, 57, 97, 98, 99, 100, 101, 102], .int .u8 (c.toNat : Int)] (.int .i64 (hxV c)) := by
 refine .lib rfl ?_
 simp only [Qda, Int.toNat_natCast]
 rw [show c.toNat.toUInt8 = c from by simp, Qnz]
theorem Qj4 (c : UInt8) : (hexV c = none ∧ hxV c = -1) ∨ ∃ n, hexV c = some n ∧ n < 16 ∧ hxV c = n := by
 cases h : hexV c with
 | none => exact .inl ⟨rfl, by simp [hxV, h]⟩
 | some n => exact .inr ⟨n, rfl, (Qek h).2, by simp [hxV, h]⟩
theorem Qqa : ∀ a, a < 16 → ∀ b, b < 16 → IntKind.wrap .u8 (IntKind.wrap .i64 ((BitVec.ofInt 64 (IntKind.wrap .i64 ((a : Nat) * 2 ^ 4)) ||| BitVec.ofInt 64 (b : Nat)).toNat)) = ((16 * a + b : Nat) : Int) := by decide +kernel
def escR (t : Bs) : Nat × Nat := match t with
 | [] => (0, 0)
 | d :: r => if d.toNat = 34 ∨ d.toNat = 92 then (d.toNat, 1) else if d.toNat = 120 then
   match r with
   | h :: l :: _ => match hexV h, hexV l with
    | some a, some b => if 32 ≤ 16 * a + b ∧ 16 * a + b ≤ 126 then (0, 0) else (16 * a + b, 3)
    | _, _ => (0, 0)
   | _ => (0, 0)
  else (0, 0)
theorem Qn0 (t : Bs) : (escR t).2 ≤ t.length ∧ (escR t).2 ≤ 3 ∧ (escR t).1 < 256 := by
 unfold escR
 split
 ·simp
 rename_i d r
 have := d.toNat_lt
 split
 ·exact ⟨by simp, by simp, by simpa using this⟩
 split
 ·split
  ·split
   ·rename_i a b ha hb
    have := (Qek ha).2
    have := (Qek hb).2
    split
    ·simp
    ·exact ⟨by simp only [List.length_cons]; omega, by simp, by simp only; omega⟩
   ·simp
  ·simp
 ·simp
theorem QoG (r : Bs) : unqI (92 :: r) = if (escR r).2 = 0 then none else (unqI (r.drop (escR r).2)).map (UInt8.ofNat (escR r).1 :: ·) := by
 rw [Qfe, if_neg (by decide), if_pos (by decide)]
 match r with
 | [] => simp [escR]
 | d :: r' =>
  simp only [escR]
  by_cases h1 : d.toNat = 34 ∨ d.toNat = 92
  ·simp [h1]
  ·simp only [h1, if_false]
   by_cases h2 : d.toNat = 120
   ·simp only [h2, if_true]
    match r' with
    | [] => simp
    | [x] => simp
    | x :: y :: r'' =>
     simp only
     cases hx : hexV x with
     | none => simp
     | some a =>
      cases hy : hexV y with
      | none => simp
      | some b =>
       simp only
       by_cases h3 : 32 ≤ 16 * a + b ∧ 16 * a + b ≤ 126
       ·simp [h3]
       ·simp [h3]
   ·simp [h2]
theorem Qfn (t : Bs) (ht : t.length ≤ 1000000000) : Ret lb Qep [.str t] (.tup [.int .u8 ((escR t).1 : Int), .int .i64 ((escR t).2 : Int)]) := by
 refine .top rfl (.eq (fun n => by rw [QjK]) ?_)
 match t, ht with
 | [], _ => exact .done
 | d :: r, ht =>
  simp only [show (d :: r == ([] : Bs)) = false from rfl, cond_false, show atS (d :: r) 0 = some d from rfl, QbI]
  unfold escR
  by_cases h1 : d.toNat = 34
  ·simp only [beqT (show (d.toNat : Int) = 34 by omega), cond_true]
   simp only [h1, true_or, if_true]
   refine .of ?_; first | rfl | simp
  simp only [beqF (show (d.toNat : Int) ≠ 34 by omega), cond_false]
  by_cases h2 : d.toNat = 92
  ·simp only [beqT (show (d.toNat : Int) = 92 by omega), cond_true]
   simp only [h2, or_true, if_true]
   refine .of ?_; first | rfl | simp
  simp only [beqF (show (d.toNat : Int) ≠ 92 by omega), cond_false, h1, h2, or_self, if_false]
  by_cases h3 : d.toNat = 120
  ·simp only [bneF (show (d.toNat : Int) = 120 by omega), cond_false]
   simp only [h3, if_true]
   match r, ht with
   | [], _ => exact .of rfl
   | [x], _ => exact .of rfl
   | x :: y :: r', _ =>
    simp only [decF (show ¬ ((d :: x :: y :: r' : Bs).length : Int) < 3 by simp only [List.length_cons]; omega), cond_false, show atS (d :: x :: y :: r') 1 = some x from rfl, show atS (d :: x :: y :: r') 2 = some y from rfl, QbI]
    refine .call (Qk5 lb x) ?_
    refine .call (Qk5 lb y) ?_
    simp only [QbI, QaA]
    rcases Qj4 x with ⟨hx, ex⟩ | ⟨a, hx, ha, ex⟩
    ·simp only [hx, ex]
     refine .of ?_; first | rfl | simp
    rcases Qj4 y with ⟨hy, ey⟩ | ⟨b, hy, hb, ey⟩
    ·simp only [hx, hy, ex, ey, decF (show ¬ (a : Int) < 0 by omega), cond_false]
     refine .of ?_; first | rfl | simp
    simp only [hx, hy, ex, ey, decF (show ¬ (a : Int) < 0 by omega), decF (show ¬ (b : Int) < 0 by omega), cond_false, Qqa a ha b hb]
    by_cases h4 : 32 ≤ 16 * a + b
    ·rw [decT (show ((16 * a + b : Nat) : Int) ≥ 32 by omega), cond_true]
     by_cases h5 : 16 * a + b ≤ 126
     ·rw [decT (show ((16 * a + b : Nat) : Int) ≤ 126 by omega), cond_true, if_pos ⟨h4, h5⟩]
      exact .of rfl
     ·rw [decF (show ¬ ((16 * a + b : Nat) : Int) ≤ 126 by omega), cond_false, if_neg (by omega)]
      exact .of rfl
    ·rw [decF (show ¬ ((16 * a + b : Nat) : Int) ≥ 32 by omega), cond_false, if_neg (by omega)]
     exact .of rfl
  ·simp only [bneT (show (d.toNat : Int) ≠ 120 by omega), cond_true, h3, if_false]
   refine .of ?_; first | rfl | simp
def unqR (o : Option Bs) : CV := match o with
 | some b => .tup [.str b, .int .i64 0]
 | none => .tup [.str [], .int .i64 3]
theorem Qio (s inner : Bs) (hs : inner.length ≤ 1000000000) (he : (s.take ((IntKind.wrap .i64 ((s.length : Int) - 1)).toNat)).drop 1 = inner) :
  ∀ (N : Nat) (t p b : Bs), t.length ≤ N → p ++ t = inner → b.length ≤ p.length → Evt fun n => ∀ k, t.length < k → Qb9 lb n k s (bcv b) (p.length : Int) = some (unqR ((unqI t).map (b ++ ·)))
 | N, [], p, b, hN, hp, hb => .all fun n k hk => by
  obtain ⟨k, rfl⟩ : ∃ m, k = m + 1 := ⟨k - 1, by simp at hk; omega⟩
  have : p = inner := by simpa using hp
  rw [Qbq, he, decF (by rw [this]; omega), cond_false, Qhf, Qh0]
  simp [QbI, unqR, unqI]
 | 0, c :: t, p, b, hN, _, _ => by simp at hN
 | N + 1, c :: t, p, b, hN, hp, hb => by
  have hl : inner.length = p.length + (t.length + 1) := by rw [← hp]; simp
  have hat : atS inner (p.length : Int) = some c := Qi7 (by rw [← hp]; simp)
  have hlt : (p.length : Int) < (inner.length : Int) := by omega
  have hw : IntKind.wrap .i64 ((p.length : Int) + 1) = ((p ++ [c]).length : Int) := by rw [Qbj (by omega) (by omega)]; simp
  have r1 : room ((bcv b).length + 1) 1 = true := QfU (by rw [QoI]; omega)
  by_cases hbad : c.toNat = 34 ∨ c.toNat < 32 ∨ 126 < c.toNat
  ·refine .all fun n k hk => ?_
   obtain ⟨k, rfl⟩ : ∃ m, k = m + 1 := ⟨k - 1, by simp at hk; omega⟩
   rw [Qbq, he]
   simp only [hlt, decide_true, cond_true, hat, QbI, Qfe, hbad, if_true, Option.map_none, unqR]
   by_cases h1 : c.toNat = 34
   ·rw [beqT (by omega), cond_true]
   rw [beqF (by omega), cond_false]
   by_cases h2 : c.toNat < 32
   ·rw [decT (by omega), cond_true]
   rw [decF (by omega), cond_false, decT (by omega), cond_true]
  ·have hg : ∀ {x y : Option CV}, (bif ((c.toNat : Int) == 34) then x else bif (decide ((c.toNat : Int) < 32)) then x else bif (decide ((c.toNat : Int) > 126)) then x else y) = y := by
    intro x y
    rw [beqF (by omega), cond_false, decF (by omega), cond_false, decF (by omega), cond_false]
   by_cases h92 : c.toNat = 92
   ·have ec : c = 92 := QeN h92
    have hr : (inner.take ((inner.length : Int)).toNat).drop ((p ++ [c]).length : Int).toNat = t := by
     rw [Int.toNat_natCast, Int.toNat_natCast, List.take_length, ← hp, show p ++ c :: t = (p ++ [c]) ++ t by simp, List.drop_left]
    obtain ⟨e1, e2, e3⟩ := Qn0 t
    have hu := QoG t
    by_cases h0 : (escR t).2 = 0
    ·refine (Qfn lb t (by omega)).mono fun n hn k hk => ?_
     obtain ⟨k, rfl⟩ : ∃ m, k = m + 1 := ⟨k - 1, by simp at hk; omega⟩
     rw [Qbq, he]
     simp only [hlt, decide_true, cond_true, hat, QbI, hg, beqT (show (c.toNat : Int) = 92 by omega), hw, hr, hn, Qf4, get0, get1, QaA]
     rw [decT (by simp; omega), Qck, beqT (by omega), cond_true, ec, hu, if_pos h0]
     rfl
    ·have hd : (p ++ [c] ++ t.take (escR t).2) ++ t.drop (escR t).2 = inner := by
      rw [List.append_assoc, List.take_append_drop, ← hp]; simp
     have hlen : (p ++ [c] ++ t.take (escR t).2).length = p.length + 1 + (escR t).2 := by simp; omega
     refine (Qio s inner hs he N (t.drop (escR t).2) _ (b ++ [UInt8.ofNat (escR t).1]) (by simp at hN ⊢; omega) hd (by rw [hlen]; simp; omega)).imp2 (Qfn lb t (by omega)) fun n hn hesc k hk => ?_
     obtain ⟨k, rfl⟩ : ∃ m, k = m + 1 := ⟨k - 1, by simp at hk; omega⟩
     have hn := hn k (by simp at hk ⊢; omega)
     rw [hlen] at hn
     rw [Qbq, he]
     simp only [hlt, decide_true, cond_true, hat, QbI, hg, beqT (show (c.toNat : Int) = 92 by omega), hw, hr, hesc, Qf4, get0, get1, QaA, Qmx, r1, Qck]
     rw [decT (by simp; omega), Qck, beqF (by omega), cond_false, Qbj (x := (p.length : Int) + ((escR t).2 : Int)) (by omega) (by omega), Qbj (by omega) (by omega), ec, hu, if_neg h0]
     have e5 : bcv b ++ [[CV.int .u8 ((escR t).1 : Int)]] = bcv (b ++ [UInt8.ofNat (escR t).1]) := by
      simp [bcv, Nat.mod_eq_of_lt e3]
     rw [e5, show (p.length : Int) + ((escR t).2 : Int) + 1 = ((p.length + 1 + (escR t).2 : Nat) : Int) by omega, hn]
     cases unqI (t.drop (escR t).2) <;> simp
   ·have hd : (p ++ [c]) ++ t = inner := by rw [← hp]; simp
    refine (Qio s inner hs he N t (p ++ [c]) (b ++ [c]) (by simp at hN; omega) hd (by simp; omega)).mono fun n hn k hk => ?_
    obtain ⟨k, rfl⟩ : ∃ m, k = m + 1 := ⟨k - 1, by simp at hk; omega⟩
    have hn := hn k (by simp at hk; omega)
    rw [Qbq, he]
    simp only [hlt, decide_true, cond_true, hat, QbI, hg, beqF (show (c.toNat : Int) ≠ 92 by omega), cond_false, r1, Qck, hw]
    rw [show bcv b ++ [[CV.int .u8 (c.toNat : Int)]] = bcv (b ++ [c]) by simp [bcv], hn, Qfe, if_neg hbad, if_neg h92]
    cases unqI t <;> simp
theorem Qde (s : Bs) (hs : s.length ≤ 1000000000) : Ret lb QaH [.str s] (unqR (unq s)) := by
 refine .top rfl (.eq (fun n => by rw [Qi3]) ?_)
 unfold unq
 by_cases h2 : s.length < 2
 ·rw [if_neg (by omega)]
  simp only [decT (show (s.length : Int) < 2 by omega), cond_true]
  exact .done
 simp only [decF (show ¬ (s.length : Int) < 2 by omega), cond_false]
 have hw : IntKind.wrap .i64 ((s.length : Int) - 1) = ((s.length - 1 : Nat) : Int) := by rw [Qbj (by omega) (by omega)]; omega
 obtain ⟨x, hx⟩ : ∃ x, s[0]? = some x := ⟨s[0], List.getElem?_eq_getElem (by omega)⟩
 obtain ⟨y, hy⟩ : ∃ y, s[s.length - 1]? = some y := ⟨s[s.length - 1], List.getElem?_eq_getElem (by omega)⟩
 have hx' : atS s 0 = some x := Qi7 (i := 0) hx
 have hy' : atS s ((s.length - 1 : Nat) : Int) = some y := Qi7 hy
 have hh : s.head? = some x := by rw [List.head?_eq_getElem?]; exact hx
 have hg : s.getLast? = some y := by rw [List.getLast?_eq_getElem?]; exact hy
 rw [hh, hg]
 simp only [hx', QbI]
 by_cases h34 : x = 34
 ·simp only [bneF (show (x.toNat : Int) = 34 by rw [h34]; rfl), cond_false, hw, hy', QbI]
  by_cases h35 : y = 34
  ·rw [if_pos ⟨by omega, by rw [h34], by rw [h35]⟩]
   simp only [bneF (show (y.toNat : Int) = 34 by rw [h35]; rfl), cond_false]
   have hin : (s.take ((s.length - 1 : Nat) : Int).toNat).drop 1 = (s.take (s.length - 1)).drop 1 := by simp
   have hil : ((s.take (s.length - 1)).drop 1).length = s.length - 2 := by simp; omega
   refine .chk (decT ⟨by omega, by omega⟩) (.chk (decT ⟨by omega, by omega⟩) (.chk ?_ ?_))
   ·rw [hin, hil]; simp; omega
   ·have := Qio lb s ((s.take (s.length - 1)).drop 1) (by omega) (by rw [hw, hin]) _ _ [] [] (Nat.le_refl _) rfl (Nat.le_refl _)
    refine (Evt.diag this).mono fun n hn => Eq.trans hn ?_
    cases unqI ((s.take (s.length - 1)).drop 1) <;> simp
  ·rw [if_neg (by rintro ⟨_, _, q⟩; exact h35 (by simpa using q))]
   have : y.toNat ≠ 34 := fun q => h35 (QeN q)
   simp only [bneT (show (y.toNat : Int) ≠ 34 by omega), cond_true]
   exact .done
 ·rw [if_neg (by rintro ⟨_, q, _⟩; exact h34 (by simpa using q))]
  have : x.toNat ≠ 34 := fun q => h34 (QeN q)
  simp only [bneT (show (x.toNat : Int) ≠ 34 by omega), cond_true]
  exact .done
end Go.Proofs
set_option linter.unusedSimpArgs false
namespace Go.Proofs
open Go.Am
variable (lb : Nat)
end Go.Proofs
set_option linter.unusedSimpArgs false
namespace Go.Proofs
open Go.Am
variable (lb : Nat)
def QeR (l : List Bs) : Nat := (l.map List.length).sum
theorem Qh1 (w : Bs) (l : List Bs) : QeR (w :: l) = w.length + QeR l := by simp [QeR]
theorem Qi5 {w : Bs} : ∀ {l : List Bs}, w ∈ l → w.length ≤ QeR l
 | [], h => by cases h
 | x :: l, h => by
  rw [Qh1]
  rcases List.mem_cons.1 h with rfl | h
  ·omega
  ·have := Qi5 h; omega
def cutR (ps : List Bs) (o : Option (List Bs)) : CV := match o with
 | some l => .tup [.list false (scv (ps ++ l)), .bool true]
 | none => .tup [.list true [], .bool false]
theorem Qn9 (s : Bs) {i : Nat} {c : UInt8} (h : s[i]? = some c) : (c.toNat < 128 → Utf8.decode ⟨s.toArray⟩ i = (c.toNat, 1)) ∧ (128 ≤ c.toNat → 126 < (Utf8.decode ⟨s.toArray⟩ i).1) := by
 obtain ⟨hl, hc⟩ := List.getElem?_eq_some_iff.1 h
 have hsz : i < (⟨s.toArray⟩ : ByteArray).size := by simpa [ByteArray.size] using hl
 have hg : ((⟨s.toArray⟩ : ByteArray)[i]'hsz) = c := hc
 refine ⟨fun q => ?_, fun q => ?_⟩
 ·rw [decode_ascii _ _ hsz (by rw [hg]; exact q), hg]
 ·have := (decode_high ⟨s.toArray⟩ i hsz (by rw [hg]; exact q)).1
  omega
theorem Qil (s : Bs) (hs : s.length ≤ 1000000000) : ∀ (t A cur : Bs) (ps : List Bs) (bn q e : Bool), A ++ cur ++ t = s → ps.length ≤ A.length →
  Evt fun n => ∀ k, t.length < k → QaF lb n k s bn (scv ps) (A.length : Int) q e (A ++ cur).length = some (cutR ps (cutB t cur q e))
 | [], A, cur, ps, bn, q, e, h, hp => .all fun n k hk => by
  obtain ⟨k, rfl⟩ : ∃ m, k = m + 1 := ⟨k - 1, by simp at hk; omega⟩
  have hsA : A ++ cur = s := by simpa using h
  have hl : s.length = A.length + cur.length := by rw [← hsA, List.length_append]
  rw [Qbf, decF (by rw [hsA]; omega), cond_false, QjW, decT ⟨by omega, by omega⟩, Qck, QfU (by rw [QeF]; omega), Qck]
  have e1 : (s.take ((s.length : Int)).toNat).drop ((A.length : Int)).toNat = cur := by
   rw [Int.toNat_natCast, Int.toNat_natCast, List.take_length, ← hsA, List.drop_left]
  rw [e1, Bool.and_false]
  simp [cutR, cutB, scv]
 | c :: t, A, cur, ps, bn, q, e, h, hp => by
  have hl : s.length = A.length + cur.length + (t.length + 1) := by rw [← h]; simp only [List.length_append, List.length_cons]
  have hat : s[(A ++ cur).length]? = some c := by rw [← h]; simp
  have hlt : (A ++ cur).length < s.length := by rw [List.length_append]; omega
  obtain ⟨d1, d2⟩ := Qn9 s hat
  have hnext : (A ++ (cur ++ [c])) ++ t = s := by rw [← h]; simp
  by_cases hbad : c.toNat < 32 ∨ 126 < c.toNat
  ·refine .all fun n k hk => ?_
   obtain ⟨k, rfl⟩ : ∃ m, k = m + 1 := ⟨k - 1, by simp at hk; omega⟩
   rw [Qbf, decT hlt, cond_true, cutB, if_pos hbad]
   by_cases h1 : c.toNat < 128
   ·rw [d1 h1]
    rcases hbad with h2 | h2
    ·rw [decT (show ((c.toNat : Nat) : Int) < 32 by omega), cond_true]; rfl
    ·rw [decF (show ¬ ((c.toNat : Nat) : Int) < 32 by omega), cond_false, decT (show ((c.toNat : Nat) : Int) > 126 by omega), cond_true]; rfl
   ·have h3 := d2 (by omega)
    rw [decF (show ¬ (((Utf8.decode ⟨s.toArray⟩ (A ++ cur).length).1 : Nat) : Int) < 32 by omega), cond_false, decT (show (((Utf8.decode ⟨s.toArray⟩ (A ++ cur).length).1 : Nat) : Int) > 126 by omega), cond_true]; rfl
  have hd := d1 (by omega)
  have hpos : (A ++ cur).length + 1 = (A ++ (cur ++ [c])).length := by simp; omega
  have hg : ∀ {x y : Option CV}, (bif decide (((c.toNat : Nat) : Int) < 32) then x else bif decide (((c.toNat : Nat) : Int) > 126) then x else y) = y := by
   intro x y
   rw [decF (by omega), cond_false, decF (by omega), cond_false]
  have step : ∀ q' e', cutB (c :: t) cur q e = cutB t (cur ++ [c]) q' e' →
    (∀ n k, QaF lb n (k + 1) s bn (scv ps) (A.length : Int) q e (A ++ cur).length = QaF lb n k s bn (scv ps) (A.length : Int) q' e' ((A ++ cur).length + 1)) →
    Evt fun n => ∀ k, (c :: t).length < k → QaF lb n k s bn (scv ps) (A.length : Int) q e (A ++ cur).length = some (cutR ps (cutB (c :: t) cur q e)) := by
   intro q' e' h1 h2
   refine (Qil s hs t A (cur ++ [c]) ps bn q' e' hnext hp).mono fun n hn k hk => ?_
   obtain ⟨k, rfl⟩ : ∃ m, k = m + 1 := ⟨k - 1, by simp at hk; omega⟩
   rw [h2, h1, hpos]
   exact hn k (by simp at hk; omega)
  cases e with
  | true =>
   refine step q false (by rw [cutB, if_neg hbad, if_pos rfl]) fun n k => ?_
   rw [Qbf, decT hlt, cond_true, hd, hg, cond_true]
  | false =>
   by_cases h92 : q = true ∧ c.toNat = 92
   ·obtain ⟨rfl, h92⟩ := h92
    refine step true true (by rw [cutB, if_neg hbad, if_neg (by decide), if_pos ⟨rfl, h92⟩]) fun n k => ?_
    rw [Qbf, decT hlt, cond_true, hd, hg, cond_false, cond_true, beqT (show ((c.toNat : Nat) : Int) = 92 by omega), cond_true]
   by_cases h34 : c.toNat = 34
   ·refine step (!q) false (by rw [cutB, if_neg hbad, if_neg (by decide), if_neg h92, if_pos h34]) fun n k => ?_
    rw [Qbf, decT hlt, cond_true, hd, hg, cond_false, beqF (show ((c.toNat : Nat) : Int) ≠ 92 by omega), beqT (show ((c.toNat : Nat) : Int) = 34 by omega)]
    cases q <;> rfl
   by_cases h32 : c.toNat = 32 ∧ (!q) = true
   ·obtain ⟨h32, hq⟩ := h32
    have hq : q = false := by simpa using hq
    subst hq
    refine (Qil s hs t (A ++ (cur ++ [c])) [] (ps ++ [cur]) false false false (by rw [List.append_nil]; exact hnext) (by simp; omega)).mono fun n hn k hk => ?_
    obtain ⟨k, rfl⟩ : ∃ m, k = m + 1 := ⟨k - 1, by simp at hk; omega⟩
    have hn := hn k (by simp at hk; omega)
    rw [Qbf, decT hlt, cond_true, hd, hg, cond_false, cond_false, beqF (show ((c.toNat : Nat) : Int) ≠ 34 by omega), cond_false, beqT (show ((c.toNat : Nat) : Int) = 32 by omega), cond_true, Bool.not_false, cond_true,
     decT ⟨by omega, by omega⟩, Qck, decT ⟨by omega, by rw [List.length_append]; omega⟩, Qck, QfU (by rw [QeF]; omega), Qck, Qbj (by omega) (by omega)]
    have e1 : (s.take (((A ++ cur).length : Int)).toNat).drop ((A.length : Int)).toNat = cur := by
     rw [Int.toNat_natCast, Int.toNat_natCast, ← h, List.take_left, List.drop_left]
    rw [e1, Bool.and_false, hpos, show (((A ++ cur).length : Int) + 1) = ((A ++ (cur ++ [c])).length : Int) by rw [← hpos]; omega, show scv ps ++ [[CV.str cur]] = scv (ps ++ [cur]) by simp [scv]]
    rw [List.append_nil] at hn
    rw [hn, cutB, if_neg hbad, if_neg (by decide), if_neg (by simp), if_neg h34, if_pos ⟨h32, rfl⟩]
    cases cutB t [] false false <;> simp [cutR]
   ·refine step q false (by rw [cutB, if_neg hbad, if_neg (by decide), if_neg h92, if_neg h34, if_neg h32]) fun n k => ?_
    rw [Qbf, decT hlt, cond_true, hd, hg, cond_false]
    cases q with
    | true =>
     have h92' : c.toNat ≠ 92 := fun x => h92 ⟨rfl, x⟩
     rw [cond_true, beqF (show ((c.toNat : Nat) : Int) ≠ 92 by omega), cond_false, beqF (show ((c.toNat : Nat) : Int) ≠ 34 by omega), cond_false, Bool.not_true]
     cases ((c.toNat : Nat) : Int) == 32 <;> rfl
    | false =>
     have h32' : c.toNat ≠ 32 := fun x => h32 ⟨x, rfl⟩
     rw [cond_false, beqF (show ((c.toNat : Nat) : Int) ≠ 34 by omega), cond_false, beqF (show ((c.toNat : Nat) : Int) ≠ 32 by omega), cond_false]
theorem Qlb (s : Bs) (hs : s.length ≤ 1000000000) : Ret lb Qba [.str s] (cutR [] (cutB s [] false false)) := by
 refine .top rfl (.eq (fun n => by rw [Ql5]) ?_)
 exact Evt.diag (Qil lb s hs s [] [] [] true false false rfl (Nat.le_refl _))
def QgP (bn : Bool) (o : Option (List Bs)) : CV := match o with
 | some l => .tup [.list bn (scv l), .int .i64 0]
 | none => .tup [.list true [], .int .i64 3]
theorem Qfx (s : Bs) (x4 x6 r2 : CV) (p9 : Bool × List (List CV)) (ps : List Bs) (b4 b10 : Bool) (hx : x4 = .list b4 (scv ps)) (hsum : ∀ p ∈ ps, p.length ≤ 1000000000) (hps : ps.length ≤ 1000000000) :
  ∀ t p, p ++ t = ps → ∀ out : List Bs, out.length ≤ p.length → Evt fun n => ∀ k, t.length < k → text_Words_L1 lb n k s x4 x6 r2 p9 (b10, scv ps) (scv out) (p.length : Int) = some (QgP false ((t.mapM Qff).map (out ++ ·)))
 | [], p, h, out, ho => .all fun n k hk => by
  obtain ⟨k, rfl⟩ : ∃ m, k = m + 1 := ⟨k - 1, by simp at hk; omega⟩
  have : p = ps := by simpa using h
  rw [QbL, decF (by rw [this, QeF]; omega), cond_false, Qim]
  simp [QgP]
 | w :: t, p, h, out, ho => by
  have hl : ps.length = p.length + (t.length + 1) := by rw [← h]; simp
  have hat : atL (scv ps) (p.length : Int) = some [.str w] := QbB (Qpc (by rw [← h]; simp))
  have hw : w.length ≤ 1000000000 := hsum w (by rw [← h]; simp)
  have hnext : (p ++ [w]) ++ t = ps := by rw [← h]; simp
  have hlt : (p.length : Int) < ((scv ps).length : Int) := by rw [QeF]; omega
  have hwr : IntKind.wrap .i64 ((p.length : Int) + 1) = ((p ++ [w]).length : Int) := by rw [Qbj (by omega) (by omega)]; simp
  have r1 : room ((scv out).length + 1) 16 = true := QfU (by rw [QeF]; omega)
  rw [List.mapM_cons]
  cases hpl : QeW w with
  | true =>
   refine (Qfx s x4 x6 r2 p9 ps b4 b10 hx hsum hps t (p ++ [w]) hnext (out ++ [w]) (by simp; omega)).imp2 (QbV lb w (Nat.le_trans hw (by decide))) fun n hn h1 k hk => ?_
   obtain ⟨k, rfl⟩ : ∃ m, k = m + 1 := ⟨k - 1, by simp at hk; omega⟩
   have hn := hn k (by simp at hk; omega)
   rw [QbL]
   simp only [decT hlt, cond_true, hx, Qjq, QbI, hat, List.length_cons, List.length_nil, Nat.zero_add, beq_self_eq_true, Qck, get0, h1, Qb1, hpl, Bool.not_true, cond_false, Qjr, r1, hwr]
   rw [← hx, show scv out ++ [[CV.str w]] = scv (out ++ [w]) by simp [scv], hn]
   simp only [Qff, hpl, if_true]
   cases t.mapM Qff <;> simp
  | false =>
   have hr : Qff w = match unq w with
     | some t => if QeW t then none else some t
     | none => none := by unfold Qff; rw [hpl]; rfl
   cases hu : unq w with
   | none =>
    refine (Qde lb w hw).imp2 (QbV lb w (Nat.le_trans hw (by decide))) fun n h2 h1 k hk => ?_
    obtain ⟨k, rfl⟩ : ∃ m, k = m + 1 := ⟨k - 1, by simp at hk; omega⟩
    rw [QbL]
    simp only [decT hlt, cond_true, hx, Qjq, QbI, hat, List.length_cons, List.length_nil, Nat.zero_add, beq_self_eq_true, Qck, get0, get1, h1, h2, hu, unqR, Qf4, QaA, Qb1, hpl, Bool.not_false]
    rw [hr, hu]
    rfl
   | some v =>
    have hv : v.length ≤ 1000000000 := by have := Qpb v; rw [← Qoc hu] at this; omega
    cases hpv : QeW v with
    | true =>
     refine ((Qde lb w hw).and (QbV lb v (Nat.le_trans hv (by decide)))).imp2 (QbV lb w (Nat.le_trans hw (by decide))) fun n ⟨h2, h3⟩ h1 k hk => ?_
     obtain ⟨k, rfl⟩ : ∃ m, k = m + 1 := ⟨k - 1, by simp at hk; omega⟩
     rw [QbL]
     simp only [decT hlt, cond_true, hx, Qjq, QbI, hat, List.length_cons, List.length_nil, Nat.zero_add, beq_self_eq_true, Qck, get0, get1, h1, h2, h3, hu, hpv, unqR, Qf4, QaA, Qb1, hpl, Bool.not_false, bne_self_eq_false, cond_false]
     rw [hr, hu]
     simp [hpv, QgP]
    | false =>
     refine ((Qfx s x4 x6 r2 p9 ps b4 b10 hx hsum hps t (p ++ [w]) hnext (out ++ [v]) (by simp; omega)).and (Qde lb w hw)).imp2 ((QbV lb w (Nat.le_trans hw (by decide))).and (QbV lb v (Nat.le_trans hv (by decide)))) fun n ⟨hn, h2⟩ ⟨h1, h3⟩ k hk => ?_
     obtain ⟨k, rfl⟩ : ∃ m, k = m + 1 := ⟨k - 1, by simp at hk; omega⟩
     have hn := hn k (by simp at hk; omega)
     rw [QbL]
     simp only [decT hlt, cond_true, hx, Qjq, QbI, hat, List.length_cons, List.length_nil, Nat.zero_add, beq_self_eq_true, Qck, get0, get1, h1, h2, h3, hu, hpv, unqR, Qf4, QaA, Qb1, hpl, Bool.not_false, bne_self_eq_false, cond_false, Qjr, r1, hwr]
     rw [← hx, show scv out ++ [[CV.str v]] = scv (out ++ [v]) by simp [scv], hn, hr, hu]
     simp only [hpv]
     cases t.mapM Qff <;> simp
theorem Qle : ∀ ps : List Bs, QeR ps ≤ (Lib.join ps [32]).length ∧ ps.length ≤ (Lib.join ps [32]).length + 1
 | [] => by simp [QeR, Lib.join]
 | [w] => by simp [QeR, Lib.join]
 | w :: x :: r => by
  have := Qle (x :: r)
  have e : Lib.join (w :: x :: r) [32] = w ++ 32 :: Lib.join (x :: r) [32] := by simp [Lib.join, List.intercalate]
  rw [e, Qh1]
  simp only [List.length_append, List.length_cons] at this ⊢
  omega
theorem Qjz (s : Bs) (hs : s.length ≤ 100000000) : Ret lb Qav [.str s] (QgP s.isEmpty (QlH s)) := by
 refine .top rfl (.eq (fun n => by rw [Qkx]) ?_)
 by_cases h0 : s = []
 ·subst h0; exact .done
 rw [show s.isEmpty = false by simpa using h0]
 simp only [show (s == []) = false by simpa using h0, cond_false]
 refine .call (Qlb lb s (by omega)) ?_
 unfold QlH
 rw [if_neg h0]
 cases hc : cutB s [] false false with
 | none =>
  simp only [cutR, Qf4, get0, get1, QbI, Qb1, Bool.not_false, cond_true]
  exact .of rfl
 | some ps =>
  simp only [cutR, List.nil_append, Qf4, get0, get1, QbI, Qb1, Bool.not_true, cond_false, Qjq, QeF]
  obtain ⟨h1, h2⟩ := Qg6 hc
  have h3 := Qle ps
  rw [h2] at h3
  simp only [List.nil_append] at h3
  refine .chk ?_ ?_
  ·simp; omega
  ·refine (Evt.diag (Qfx lb s (.list false (scv ps)) _ _ _ ps false false rfl (fun p hp => by have := Qi5 hp; omega) (by omega) ps [] rfl [] (Nat.le_refl _))).mono fun n hn => Eq.trans hn ?_
   rw [Option.bind_some]
   cases ps.mapM Qff <;> simp
end Go.Proofs
set_option linter.unusedSimpArgs false
namespace Go.Proofs
open Go.Am
variable (lb : Nat)
end Go.Proofs
set_option linter.unusedSimpArgs false
namespace Go.Proofs
open Go.Am
variable (lb : Nat)
end Go.Proofs
