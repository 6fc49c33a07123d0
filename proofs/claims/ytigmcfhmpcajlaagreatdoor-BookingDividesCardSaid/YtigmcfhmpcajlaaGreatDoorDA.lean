/- Chapter 35: persons divided, on plain data: party.Split. Conditions: as each says. -/
import Derived.Test.YtigmcfhmpcajlaaGreatDoorBC
import Derived.Test.YtigmcfhmpcajlaaGreatDoorGd2
import Derived.Test.YtigmcfhmpcajlaaGreatDoorGd3
import Derived.Test.YtigmcfhmpcajlaaGreatDoorCn
import Derived.Test.YtigmcfhmpcajlaaGreatDoorCq
import Derived.Test.YtigmcfhmpcajlaaGreatDoorCc1
set_option linter.unusedSimpArgs false
set_option linter.unusedVariables false
namespace Go.Proofs
open Go.Am
variable (lb : Nat)
def bvE (b : Bool) : List CV := [.bool b]
def Qbz (m : Nat) : List Int → Bool → List Bool → Option (Bool × List Bool)
 | [], t, c => some (t, c)
 | i :: r, t, c => if i < 0 ∨ i ≥ (m : Int) then none else Qbz m r (t || (c[i.toNat]?).getD false) (c.set i.toNat true)
def selB (v : Bool) : List Bool → List Pe → List Pe
 | b :: c, p :: l => bif b == v then p :: selB v c l else selB v c l
 | _, _ => []
def cntB : List Bool → Nat
 | [] => 0
 | b :: c => (bif b then 1 else 0) + cntB c
def QdB (l : List Pe) : Bool := decide (Qbu 0 l > 0)
def QcS (ps : List Pe) (at' : List Int) : Int × List Pe × List Pe :=
 match Qbz ps.length at' false (List.replicate ps.length false) with
 | none => (7, [], [])
 | some (t, c) => bif t then (6, [], []) else bif at'.isEmpty then (2, [], []) else bif QdB (selB true c ps) then (25, [], []) else bif QdB (selB false c ps) then (25, [], []) else (0, selB true c ps, selB false c ps)
theorem Qi3 {α : Type} : ∀ (l : List α) (i : Nat) (x : α), setN l i x = l.set i x
 | [], _, _ => rfl
 | _ :: _, 0, _ => rfl
 | a :: l, i + 1, x => by simp only [setN, List.set_cons_succ, Qi3 l i x]
theorem QpR : ∀ (c : List Bool) (i : Nat), c[i]? = some false → cntB (c.set i true) = cntB c + 1
 | [], i, h => by simp at h
 | b :: c, 0, h => by
  simp at h; subst h
  simp [cntB]; omega
 | b :: c, i + 1, h => by
  have := QpR c i (by simpa using h)
  simp only [List.set_cons_succ, cntB, this]; omega
structure Scanned (m : Nat) (at' : List Int) (tw : Bool) (c : List Bool) (tw' : Bool) (c' : List Bool) : Prop where
 len : c'.length = c.length
 rng : ∀ i ∈ at', 0 ≤ i ∧ i < (m : Int)
 tws : tw' = false → tw = false
 cnt : tw' = false → cntB c' = cntB c + at'.length
 fresh : tw' = false → ∀ i ∈ at', c[i.toNat]? = some false
 mem : ∀ j : Nat, c'[j]? = some true ↔ (c[j]? = some true ∨ (j < c.length ∧ (j : Int) ∈ at'))
theorem Qj1 (m : Nat) : ∀ (at' : List Int) (tw : Bool) (c : List Bool) (tw' : Bool) (c' : List Bool), c.length = m → Qbz m at' tw c = some (tw', c') → Scanned m at' tw c tw' c'
 | [], tw, c, tw', c', hc, h => by
  simp only [Qbz, Option.some.injEq, Prod.mk.injEq] at h
  obtain ⟨rfl, rfl⟩ := h
  exact ⟨rfl, by simp, id, fun _ => rfl, by simp, by simp⟩
 | i :: r, tw, c, tw', c', hc, h => by
  unfold Qbz at h
  by_cases hi : i < 0 ∨ i ≥ (m : Int)
  ·rw [if_pos hi] at h; cases h
  ·rw [if_neg hi] at h
   have ih := Qj1 m r _ _ tw' c' (by simpa using hc) h
   obtain ⟨b, hb⟩ : ∃ b, c[i.toNat]? = some b := ⟨_, List.getElem?_eq_getElem (by omega)⟩
   have hbf : tw' = false → tw = false ∧ b = false := fun ht => by
    have := ih.tws ht
    rw [hb] at this
    simpa using this
   refine ⟨by simpa using ih.len, fun j hj => ?_, fun ht => (hbf ht).1, fun ht => ?_, fun ht j hj => ?_, fun j => ?_⟩
   ·rcases List.mem_cons.1 hj with rfl | hj
    ·omega
    ·exact ih.rng j hj
   ·rw [ih.cnt ht, QpR c i.toNat (by rw [hb, (hbf ht).2])]
    simp; omega
   ·rcases List.mem_cons.1 hj with rfl | hj
    ·rw [hb, (hbf ht).2]
    ·have := ih.fresh ht j hj
     rw [List.getElem?_set] at this
     split at this
     ·split at this <;> simp at this
     ·exact this
   ·rw [ih.mem j, List.getElem?_set, List.length_set]
    by_cases hij : i.toNat = j
    ·subst hij
     have hlt : i.toNat < c.length := by omega
     have hz : ((i.toNat : Nat) : Int) = i := by omega
     simp [hlt, hz]
    ·have hz : (j : Int) ≠ i := by omega
     simp [hij, hz]
theorem QeO : ∀ (c : List Bool) (l : List Pe), c.length = l.length → (selB true c l).length = cntB c ∧ (selB true c l).length + (selB false c l).length = l.length
 | [], [], _ => ⟨rfl, rfl⟩
 | [], _ :: _, h => by simp at h
 | _ :: _, [], h => by simp at h
 | b :: c, p :: l, h => by
  obtain ⟨h1, h2⟩ := QeO c l (by simpa using h)
  cases b <;> simp [selB, cntB] <;> omega
theorem QiE (v : Bool) : ∀ (c d : List Bool) (l m : List Pe), c.length = l.length → selB v (c ++ d) (l ++ m) = selB v c l ++ selB v d m
 | [], d, [], m, _ => rfl
 | [], _, _ :: _, _, h => by simp at h
 | _ :: _, _, [], _, h => by simp at h
 | b :: c, d, p :: l, m, h => by
  have ih := QiE v c d l m (by simpa using h)
  simp only [List.cons_append, selB, ih]
  cases b == v <;> rfl
def errS (e : Int) : CV := .tup [.list true [], .list true [], .int .i64 e]
theorem QsH (an bn : Bool) (ps : List Pe) (at' : List Int) (hat : at'.length ≤ 1000000) : ∀ (t p : List Int), p ++ t = at' → ∀ (tw : Bool) (c : List Bool), c.length = ps.length → ∀ n k, t.length < k →
  party_Split_L1 lb n k an (ps.map peE) bn (at'.map icv) (.bool tw) (p.length : Int) (c.map bvE) = (match Qbz ps.length t tw c with
   | none => some (errS 7)
   | some (tw', c') => Qe0 lb n an (ps.map peE) bn (at'.map icv) (.bool tw') (c'.map bvE))
 | [], p, h, tw, c, hc, n, k, hk => by
  obtain ⟨k, rfl⟩ : ∃ j, k = j + 1 := ⟨k - 1, by simp at hk; omega⟩
  have hp : p = at' := by simpa using h
  rw [Qgy]
  exact stF (decF (by simp [hp])) rfl
 | i :: t, p, h, tw, c, hc, n, k, hk => by
  obtain ⟨k, rfl⟩ : ∃ j, k = j + 1 := ⟨k - 1, by simp at hk; omega⟩
  have hpl : p.length + (t.length + 1) = at'.length := by rw [← h]; simp
  have hw : IntKind.wrap .i64 ((p.length : Int) + 1) = ((p ++ [i]).length : Int) := by rw [Qaw (by omega) (by omega)]; simp
  have ai : atL (at'.map icv) (p.length : Int) = some (icv i) := Qbh (by rw [List.getElem?_map, ← h]; simp)
  have hlen : (((ps.map peE).length : Nat) : Int) = (ps.length : Int) := by simp
  rw [Qgy, hw]
  unfold Qbz
  refine stT (decT (by simp; omega)) (stO _ ai (stC rfl (stO _ rfl (stO _ (Qas ..) ?_))))
  by_cases h0 : i < 0
  ·rw [if_pos (.inl h0)]
   exact stT (decT h0) rfl
  refine stF (decF h0) (stO _ (Qas ..) ?_)
  by_cases h1 : i ≥ (ps.length : Int)
  ·rw [if_pos (.inr h1)]
   exact stT (decT (by rw [hlen]; exact h1)) rfl
  rw [if_neg (by omega)]
  refine stF (decF (by rw [hlen]; exact h1)) (stO _ rfl ?_)
  obtain ⟨b, hb⟩ : ∃ b, c[i.toNat]? = some b := ⟨_, List.getElem?_eq_getElem (by omega)⟩
  have hget : (c.map bvE)[0 + i.toNat]? = some (bvE b) := by rw [Nat.zero_add, List.getElem?_map, hb]; rfl
  have hset : setN (c.map bvE) (0 + i.toNat) (Qbv (bvE b) 0 [.bool true]) = (c.set i.toNat true).map bvE := by
   rw [Qi3, Nat.zero_add, List.map_set]; rfl
  have ih := QsH an bn ps at' hat t (p ++ [i]) (by rw [← h]; simp) (tw || b) (c.set i.toNat true) (by simpa using hc) n k (by simp at hk; omega)
  have hr : (decide (0 ≤ i) && decide (i < (((((ps.map peE).length : Int).toNat) : Nat) : Int))) = true := by simp; omega
  rw [hb]
  simp only [Option.getD_some]
  cases tw with
  | true =>
   refine stT rfl (stO i rfl (stC hr (stO _ hget (stC rfl ?_))))
   rw [hset]
   simpa using ih
  | false =>
   refine stF rfl (stO i rfl (stC hr (stO _ hget (stO _ rfl (stO i rfl (stC hr (stO _ hget (stC rfl ?_))))))))
   rw [hset]
   simpa using ih
def zP : List CV := [.str [], .str [], .str []]
theorem QqT (X Y : List (List CV)) (z w : List CV) (k : Nat) (hk : k = X.length) : QdI (X ++ z :: Y) k [w] = (X ++ [w]) ++ Y := by
 subst hk
 unfold QdI
 rw [List.take_left, List.length_singleton]
 congr 1
 rw [List.drop_append]
 simp
theorem Qkq : ∀ (c d : List Bool), cntB (c ++ d) = cntB c + cntB d
 | [], d => by simp [cntB]
 | b :: c, d => by simp only [List.cons_append, cntB, Qkq c d]; omega
theorem Qkl : ∀ c : List Bool, cntB c ≤ c.length
 | [] => Nat.le_refl _
 | b :: c => by
  have := Qkl c
  cases b <;> simp [cntB] <;> omega
def rowP (A n : Nat) (M R : List Pe) : List (List CV) := (M.map peE ++ List.replicate (A - M.length) zP) ++ (R.map peE ++ List.replicate (n - A - R.length) zP)
theorem QvA (A n : Nat) (M R : List Pe) (x : Pe) (h : M.length < A) : QdI (rowP A n M R) M.length [peE x] = rowP A n (M ++ [x]) R := by
 unfold rowP
 obtain ⟨d, hd⟩ : ∃ d, A - M.length = d + 1 := ⟨A - M.length - 1, by omega⟩
 have hd2 : A - (M ++ [x]).length = d := by simp; omega
 rw [hd, hd2, List.replicate_succ, List.append_assoc, List.cons_append, QqT _ _ _ _ _ (by simp)]
 simp
theorem Qud (A n : Nat) (M R : List Pe) (x : Pe) (hM : M.length ≤ A) (h : R.length < n - A) : QdI (rowP A n M R) (A + R.length) [peE x] = rowP A n M (R ++ [x]) := by
 unfold rowP
 obtain ⟨d, hd⟩ : ∃ d, n - A - R.length = d + 1 := ⟨n - A - R.length - 1, by omega⟩
 have hd2 : n - A - (R ++ [x]).length = d := by simp; omega
 rw [hd, hd2, List.replicate_succ, ← List.append_assoc, QqT _ _ _ _ _ (by simp; omega)]
 simp
theorem Qsd (A n : Nat) (M R : List Pe) (hM : M.length ≤ A) (hA : A ≤ n) (hR : R.length ≤ n - A) : (rowP A n M R).length = n := by
 unfold rowP
 simp; omega
theorem Qsp (an bn : Bool) (ps : List Pe) (b4 : List (List CV)) (wF : CV) (c : List Bool) (hc : c.length = ps.length) (hn : ps.length ≤ 1000000) : ∀ (qs pp : List Pe) (cs cp : List Bool), pp ++ qs = ps → cp ++ cs = c → cp.length = pp.length → ∀ n k, qs.length < k →
  QdR lb n k an (ps.map peE) bn b4 wF (c.map bvE) ((selB true cp pp).length : Int) ((cntB c + (selB false cp pp).length : Nat) : Int) (pp.length : Int) (rowP (cntB c) ps.length (selB true cp pp) (selB false cp pp)) = QeZ lb n an (ps.map peE) bn b4 wF (c.map bvE) ((cntB c : Nat) : Int) (ps.length : Int) ((selB true c ps).map peE ++ (selB false c ps).map peE)
 | [], pp, cs, cp, hp, hcc, hl, n, k, hk => by
  obtain ⟨k, rfl⟩ : ∃ j, k = j + 1 := ⟨k - 1, by simp at hk; omega⟩
  have e1 : pp = ps := by simpa using hp
  have hcs : cs = [] := List.eq_nil_of_length_eq_zero (by have := congrArg List.length hcc; rw [List.length_append, hl, e1, hc] at this; omega)
  have e2 : cp = c := by simpa [hcs] using hcc
  subst e1; subst e2
  obtain ⟨s1, s2⟩ := QeO cp pp hc
  rw [Qgw]
  refine stF (decF (by simp)) ?_
  have e3 : rowP (cntB cp) pp.length (selB true cp pp) (selB false cp pp) = (selB true cp pp).map peE ++ (selB false cp pp).map peE := by
   unfold rowP
   rw [show cntB cp - (selB true cp pp).length = 0 by omega, show pp.length - cntB cp - (selB false cp pp).length = 0 by omega]
   simp
  rw [e3, s1, show cntB cp + (selB false cp pp).length = pp.length by omega]
 | x :: qs, pp, [], cp, hp, hcc, hl, n, k, hk => by
  exfalso
  have h1 := congrArg List.length hcc
  have h2 := congrArg List.length hp
  simp at h1 h2; omega
 | x :: qs, pp, b :: cs, cp, hp, hcc, hl, n, k, hk => by
  obtain ⟨k, rfl⟩ : ∃ j, k = j + 1 := ⟨k - 1, by simp at hk; omega⟩
  have hpl : pp.length + (qs.length + 1) = ps.length := by rw [← hp]; simp
  have hw : IntKind.wrap .i64 ((pp.length : Int) + 1) = ((pp.length + 1 : Nat) : Int) := by rw [Qaw (by omega) (by omega)]; omega
  obtain ⟨s1, s2⟩ := QeO cp pp hl
  have hct : cntB c = cntB cp + ((bif b then 1 else 0) + cntB cs) := by rw [← hcc, Qkq]; rfl
  have hcl : cs.length = qs.length := by
   have h1 := congrArg List.length hcc
   simp at h1; omega
  have hcle := Qkl cs
  have ih := Qsp an bn ps b4 wF c hc hn qs (pp ++ [x]) cs (cp ++ [b]) (by rw [← hp]; simp) (by rw [← hcc]; simp) (by simp [hl]) n k (by simp at hk; omega)
  rw [QiE true cp [b] pp [x] hl, QiE false cp [b] pp [x] hl] at ih
  have hsl : ((ps.map peE).take (pp.length + 1)).drop pp.length = [peE x] := by
   rw [← hp, List.map_append, List.take_append, List.drop_append]
   simp
  have hget : (c.map bvE)[pp.length]? = some (bvE b) := by rw [List.getElem?_map, ← hcc, ← hl]; simp
  have hall : (ps.map peE).all (·.length == 3) = true := by simp [peE]
  have hcA : cntB c ≤ ps.length := by rw [← hc]; exact Qkl c
  have hwm : ((pp ++ [x]).length : Int) = ((pp.length + 1 : Nat) : Int) := by simp
  rw [Qgw, hw]
  simp only [List.length_map, Int.toNat_natCast, Nat.zero_add, hsl]
  refine stT (decT (by omega)) (stC (by simp; omega) (stO _ hget (stO _ rfl (stO _ (Qau _) ?_))))
  cases b with
  | true =>
   simp only [cond_true] at hct
   have hlt : (selB true cp pp).length < cntB c := by omega
   have hrl := Qsd (cntB c) ps.length (selB true cp pp) (selB false cp pp) (by omega) hcA (by omega)
   refine stT rfl (stC (decT (by omega)) (stC hall (stC (decT (by omega)) (stC (decT (by omega)) (stC (decT (by rw [hrl]; omega)) (stC rfl ?_))))))
   have hm : min (ps.length - (selB true cp pp).length) ([peE x] : List (List CV)).length = 1 := by simp; omega
   rw [hm, List.take_of_length_le (by simp), QvA _ _ _ _ _ hlt, Qaw (by omega) (by omega)]
   have e1 : selB true [true] [x] = [x] := rfl
   have e2 : selB false [true] [x] = [] := rfl
   rw [e1, e2, List.append_nil, hwm] at ih
   have e3 : (((selB true cp pp ++ [x]).length : Nat) : Int) = ((selB true cp pp).length : Int) + ((1 : Nat) : Int) := by simp
   rw [e3] at ih
   exact ih
  | false =>
   simp only [cond_false] at hct
   have hlt : (selB false cp pp).length < ps.length - cntB c := by omega
   have hrl := Qsd (cntB c) ps.length (selB true cp pp) (selB false cp pp) (by omega) hcA (by omega)
   refine stF rfl (stC (decT (by omega)) (stC hall (stC (decT (by omega)) (stC (decT (by omega)) (stC (decT (by rw [hrl]; omega)) (stC rfl ?_))))))
   have hm : min (ps.length - (cntB c + (selB false cp pp).length)) ([peE x] : List (List CV)).length = 1 := by simp; omega
   rw [hm, List.take_of_length_le (by simp), Qud _ _ _ _ _ (by omega) hlt, Qaw (by omega) (by omega)]
   have e1 : selB true [false] [x] = [] := rfl
   have e2 : selB false [false] [x] = [x] := rfl
   rw [e1, e2, List.append_nil, hwm] at ih
   have e3 : (((cntB c + (selB false cp pp ++ [x]).length : Nat)) : Int) = ((cntB c + (selB false cp pp).length : Nat) : Int) + ((1 : Nat) : Int) := by simp; omega
   rw [e3] at ih
   exact ih
end Go.Proofs
set_option linter.unusedSimpArgs false
set_option linter.unusedVariables false
namespace Go.Proofs
open Go.Am
variable (lb : Nat)
theorem Qor : Evt fun n => ∀ p : Pe, C lb n Qa8 [.agg (peE p)] = some (.bool (infB p)) := .from 1 fun n p => by
 rw [Quc lb n _ _ rfl, show top lb n Qa8 [.agg (peE p)] = _ from Qjv lb n p.la p.fi p.ty]
 rfl
theorem Qvz : Evt fun n => ∀ p : Pe, C lb n Qbb [.agg (peE p)] = some (.bool (aduB p)) := by
 obtain ⟨N, hN⟩ := Qor lb
 refine ⟨N + 1, fun n hn p => ?_⟩
 obtain ⟨m, rfl⟩ : ∃ m, n = m + 1 := ⟨n - 1, by omega⟩
 rw [Quc lb m _ _ rfl, show top lb m Qbb [.agg (peE p)] = _ from QjS lb m p.la p.fi p.ty]
 refine stO _ (hN m (by omega) p) (stO _ (Qau _) ?_)
 unfold aduB
 cases infB p with
 | true => exact stF rfl rfl
 | false => exact stT rfl rfl
theorem Qr1 (an bn : Bool) (a2 b4 : List (List CV)) (wF : CV) (wg : Int) (wD : List (List CV)) (M R : List Pe) (hM : M.length ≤ 1000000) (n : Nat) (hi : ∀ p : Pe, C lb n Qa8 [.agg (peE p)] = some (.bool (infB p))) (ha : ∀ p : Pe, C lb n Qbb [.agg (peE p)] = some (.bool (aduB p))) : ∀ (t u : List Pe) (m : Int), u ++ t = M → -(u.length : Int) ≤ m → m ≤ (u.length : Int) → ∀ k, t.length < k →
  Qcv lb n k an a2 bn b4 wF (M.length : Int) wg wD (M.map peE ++ R.map peE) m (u.length : Int) = QgS lb n an a2 bn b4 wF (M.length : Int) wg wD (M.map peE ++ R.map peE) (Qbu m t)
 | [], u, m, h, _, _, k, hk => by
  obtain ⟨k, rfl⟩ : ∃ j, k = j + 1 := ⟨k - 1, by simp at hk; omega⟩
  have hu : u = M := by simpa using h
  rw [Qgx]
  refine stF (decF (by rw [hu]; simp)) ?_
  rfl
 | p :: t, u, m, h, m0, m1, k, hk => by
  obtain ⟨k, rfl⟩ : ∃ j, k = j + 1 := ⟨k - 1, by simp at hk; omega⟩
  have hul : u.length + (t.length + 1) = M.length := by rw [← h]; simp
  have hw : IntKind.wrap .i64 ((u.length : Int) + 1) = ((u ++ [p]).length : Int) := by rw [Qaw (by omega) (by omega)]; simp
  have hat : (M.map peE ++ R.map peE)[u.length]? = some (peE p) := by
   rw [List.getElem?_append_left (by simp; omega), List.getElem?_map, ← h]; simp
  have w1 : IntKind.wrap .i64 (m + 1) = m + 1 := Qaw (by omega) (by omega)
  have w2 : IntKind.wrap .i64 (m - 1) = m - 1 := Qaw (by omega) (by omega)
  have hex : infB p = true → aduB p = false := fun hi => by unfold aduB; rw [hi]; rfl
  have ih := Qr1 an bn a2 b4 wF wg wD M R hM n hi ha t (u ++ [p]) ((m + (bif infB p then 1 else 0)) - (bif aduB p then 1 else 0)) (by rw [← h]; simp)
   (by simp; cases infB p <;> cases aduB p <;> simp <;> omega) (by simp; cases infB p <;> cases aduB p <;> simp <;> omega) k (by simp at hk; omega)
  rw [Qgx, hw, w1, w2]
  simp only [Int.toNat_natCast, Nat.zero_add, Nat.sub_zero]
  unfold Qbu
  refine stT (decT (by omega)) (stC (by simp; omega) (stO _ hat (stO _ rfl (stO _ rfl (stO _ rfl (stO _ (hi p) (stO _ (Qau _) ?_)))))))
  cases hI : infB p with
  | true =>
   have hA := hex hI
   rw [hI, hA] at ih
   refine stT rfl (stO _ (ha p) (stO _ (Qau _) ?_))
   rw [hA]
   exact stF rfl (by simpa using ih)
  | false =>
   refine stF rfl (stO _ (ha p) (stO _ (Qau _) ?_))
   cases hA : aduB p with
   | true => rw [hI, hA] at ih; exact stT rfl (by simpa using ih)
   | false => rw [hI, hA] at ih; exact stF rfl (by simpa using ih)
theorem QrY (an bn : Bool) (a2 b4 : List (List CV)) (wF : CV) (wg yR : Int) (wD : List (List CV)) (M R : List Pe) (hM : M.length + R.length ≤ 1000000) (h2 : a2.length = M.length + R.length) (n : Nat) (hi : ∀ p : Pe, C lb n Qa8 [.agg (peE p)] = some (.bool (infB p))) (ha : ∀ p : Pe, C lb n Qbb [.agg (peE p)] = some (.bool (aduB p))) : ∀ (t u : List Pe) (m : Int), u ++ t = R → -(u.length : Int) ≤ m → m ≤ (u.length : Int) → ∀ k, t.length < k →
  Qcx lb n k an a2 bn b4 wF (M.length : Int) wg yR wD (M.map peE ++ R.map peE) m (u.length : Int) = Qg8 lb n an a2 bn b4 wF (M.length : Int) wg yR wD (M.map peE ++ R.map peE) (Qbu m t)
 | [], u, m, h, _, _, k, hk => by
  obtain ⟨k, rfl⟩ : ∃ j, k = j + 1 := ⟨k - 1, by simp at hk; omega⟩
  have hu : u = R := by simpa using h
  rw [QgE]
  refine stF (decF (by rw [hu, h2]; simp; omega)) ?_
  rfl
 | p :: t, u, m, h, m0, m1, k, hk => by
  obtain ⟨k, rfl⟩ : ∃ j, k = j + 1 := ⟨k - 1, by simp at hk; omega⟩
  have hul : u.length + (t.length + 1) = R.length := by rw [← h]; simp
  have hw : IntKind.wrap .i64 ((u.length : Int) + 1) = ((u ++ [p]).length : Int) := by rw [Qaw (by omega) (by omega)]; simp
  have hat : (M.map peE ++ R.map peE)[M.length + u.length]? = some (peE p) := by
   rw [List.getElem?_append_right (by simp), List.length_map, Nat.add_sub_cancel_left, List.getElem?_map, ← h]; simp
  have w1 : IntKind.wrap .i64 (m + 1) = m + 1 := Qaw (by omega) (by omega)
  have w2 : IntKind.wrap .i64 (m - 1) = m - 1 := Qaw (by omega) (by omega)
  have hex : infB p = true → aduB p = false := fun hi => by unfold aduB; rw [hi]; rfl
  have ih := QrY an bn a2 b4 wF wg yR wD M R hM h2 n hi ha t (u ++ [p]) ((m + (bif infB p then 1 else 0)) - (bif aduB p then 1 else 0)) (by rw [← h]; simp)
   (by simp; cases infB p <;> cases aduB p <;> simp <;> omega) (by simp; cases infB p <;> cases aduB p <;> simp <;> omega) k (by simp at hk; omega)
  rw [QgE, hw, w1, w2]
  simp only [Int.toNat_natCast, Nat.zero_add, h2, Nat.add_sub_cancel_left]
  unfold Qbu
  refine stT (decT (by omega)) (stC (by simp; omega) (stO _ hat (stO _ rfl (stO _ rfl (stO _ rfl (stO _ (hi p) (stO _ (Qau _) ?_)))))))
  cases hI : infB p with
  | true =>
   have hA := hex hI
   rw [hI, hA] at ih
   refine stT rfl (stO _ (ha p) (stO _ (Qau _) ?_))
   rw [hA]
   exact stF rfl (by simpa using ih)
  | false =>
   refine stF rfl (stO _ (ha p) (stO _ (Qau _) ?_))
   cases hA : aduB p with
   | true => rw [hI, hA] at ih; exact stT rfl (by simpa using ih)
   | false => rw [hI, hA] at ih; exact stF rfl (by simpa using ih)
def QjZ (r : Int × List Pe × List Pe) : CV := if r.1 = 0 then .tup [.list false (r.2.1.map peE), .list false (r.2.2.map peE), .int .i64 0] else errS r.1
theorem QvX (an bn : Bool) (ps : List Pe) (b4 : List (List CV)) (wF : CV) (wD : List (List CV)) (M R : List Pe) (hM : M.length + R.length ≤ 1000000) (h2 : ps.length = M.length + R.length) : Evt fun n =>
  QeZ lb n an (ps.map peE) bn b4 wF wD (M.length : Int) (ps.length : Int) (M.map peE ++ R.map peE) = some (QjZ (bif QdB M then (25, [], []) else bif QdB R then (25, [], []) else (0, M, R))) :=
 Evt.imp2 (Evt.imp2 (Qor lb) (Qvz lb) fun n a b => And.intro a b) (Evt.ge (M.length + R.length + 1)) fun n ⟨hi, ha⟩ hn => by
  rw [Qng]
  refine stC (decT (by simp; omega)) (stC (decT (by omega)) (stC (decT (by simp)) (stC (decT (by simp)) (stC (decT (by simp; omega)) ?_))))
  refine (Qr1 lb an bn (ps.map peE) b4 wF (ps.length : Int) wD M R (by omega) n hi ha M [] 0 rfl (by simp) (by simp) n (by omega)).trans ?_
  rw [Qna]
  cases h5 : QdB M with
  | true => exact stT h5 rfl
  | false =>
   refine stF h5 ?_
   refine (QrY lb an bn (ps.map peE) b4 wF (ps.length : Int) (Qbu 0 M) wD M R hM (by simp [h2]) n hi ha R [] 0 rfl (by simp) (by simp) n (by omega)).trans ?_
   rw [Qm1]
   cases h7 : QdB R with
   | true => exact stT h7 rfl
   | false =>
    refine stF h7 ?_
    simp only [Int.toNat_natCast, Nat.zero_add, Nat.sub_zero, List.length_map, h2, Nat.add_sub_cancel_left, List.drop_zero]
    refine stC (decT (by simp)) (stC (decT (by simp)) ?_)
    have e1 : (M.map peE ++ R.map peE).take M.length = M.map peE := by rw [List.take_left' (by simp)]
    have e2 : ((M.map peE ++ R.map peE).drop M.length).take R.length = R.map peE := by rw [List.drop_left' (by simp), List.take_of_length_le (by simp)]
    rw [e1, e2]; rfl
theorem QmG : ∀ n : Nat, cntB (List.replicate n false) = 0
 | 0 => rfl
 | n + 1 => by simp [List.replicate_succ, cntB, QmG n]
theorem QmM (n : Nat) : (List.replicate n false).map bvE = List.replicate n [CV.bool false] := by simp [bvE]
theorem Qvp (an bn : Bool) (ps : List Pe) (at' : List Int) (hn : ps.length ≤ 1000000) (hat : at'.length ≤ 1000000) : Ret lb Qai [.list an (ps.map peE), .list bn (at'.map icv)] (QjZ (QcS ps at')) := by
 have hl0 : (List.replicate ps.length false).length = ps.length := by simp
 have L1 := fun n => QsH lb an bn ps at' hat at' [] rfl false (List.replicate ps.length false) hl0 n
 unfold QcS
 cases hs : Qbz ps.length at' false (List.replicate ps.length false) with
 | none =>
  refine .top rfl ((Evt.ge (at'.length + 1)).mono fun n hn' => ?_)
  have := L1 n n (by omega)
  rw [hs, QmM] at this
  rw [Qkj]
  simp only [List.length_map, Int.toNat_natCast]
  exact stC (by simp; omega) (stC (by simp) this)
 | some r =>
  obtain ⟨tw, c⟩ := r
  have sc := Qj1 _ _ _ _ _ _ hl0 hs
  have hcl : c.length = ps.length := by rw [sc.len]; exact hl0
  have start : ∀ {v : CV}, (Evt fun n => Qe0 lb n an (ps.map peE) bn (at'.map icv) (.bool tw) (c.map bvE) = some v) → Ret lb Qai [.list an (ps.map peE), .list bn (at'.map icv)] v := fun h => .top rfl (Evt.imp2 h (Evt.ge (at'.length + 1)) fun n h hn' => by
   have := L1 n n (by omega)
   rw [hs, QmM] at this
   rw [Qkj]
   simp only [List.length_map, Int.toNat_natCast]
   exact stC (by simp; omega) (stC (by simp) (this.trans h)))
  cases htw : tw with
  | true =>
   subst htw
   exact start (.all fun n => by rw [Qfa]; exact stO _ (Qau _) (stT rfl rfl))
  | false =>
   subst htw
   cases he : at'.isEmpty with
   | true =>
    have h0 : at' = [] := List.isEmpty_iff.1 he
    refine start (.all fun n => ?_)
    rw [Qfa]
    exact stO _ (Qau _) (stF rfl (stT (beqT (by simp [h0])) rfl))
   | false =>
    have hne : at' ≠ [] := fun h => by rw [h] at he; cases he
    have hcnt := sc.cnt rfl
    have hc0 := QmG ps.length
    rw [hc0, Nat.zero_add] at hcnt
    obtain ⟨s1, s2⟩ := QeO c ps hcl
    refine start (Evt.imp2 (QvX lb an bn ps (at'.map icv) (.bool false) (c.map bvE) (selB true c ps) (selB false c ps) (by omega) (by omega)) (Evt.ge (ps.length + 1)) fun n h hn' => ?_)
    rw [Qfa]
    have h3 := Qsp lb an bn ps (at'.map icv) (.bool false) c hcl hn ps [] c [] rfl rfl rfl n n (by omega)
    have e0 : rowP (cntB c) ps.length (selB true [] []) (selB false [] []) = List.replicate ps.length [CV.str [], CV.str [], CV.str []] := by
     have := Qkl c
     show ([] ++ List.replicate (cntB c - 0) zP) ++ ([] ++ List.replicate (ps.length - cntB c - 0) zP) = List.replicate ps.length zP
     rw [List.nil_append, List.nil_append, List.replicate_append_replicate]
     congr 1; omega
    rw [e0] at h3
    have e1 : ((cntB c + (selB false ([] : List Bool) ([] : List Pe)).length : Nat) : Int) = (at'.length : Int) := by
     show ((cntB c + 0 : Nat) : Int) = _
     rw [hcnt]; rfl
    rw [e1] at h3
    rw [s1] at h
    refine stO _ (Qau _) (stF rfl (stF (beqF (by simp; exact hne)) (stC (by simp; omega) (stC (by simp) ?_))))
    simp only [List.length_map, Int.toNat_natCast]
    exact h3.trans h
end Go.Proofs
set_option linter.unusedSimpArgs false
set_option linter.unusedVariables false
namespace Go.Proofs
open Go.Am
variable (lb : Nat)
theorem Qjp (m : Nat) : ∀ (t : List Int) (tw : Bool) (c : List Bool), Qbz m t tw c = none ↔ t.any (fun i => decide (i < 0 ∨ i ≥ (m : Int))) = true
 | [], tw, c => by simp [Qbz]
 | i :: t, tw, c => by
  unfold Qbz
  by_cases h : i < 0 ∨ i ≥ (m : Int)
  ·rw [if_pos h, List.any_cons, decT h]; simp
  ·rw [if_neg h, Qjp m t, List.any_cons, decF h, Bool.false_or]
theorem QtM (m : Nat) : ∀ (t : List Int) (c : List Bool) (tw' : Bool) (c' : List Bool), Qbz m t true c = some (tw', c') → tw' = true
 | [], c, tw', c', h => by simp [Qbz] at h; exact h.1
 | i :: t, c, tw', c', h => by
  unfold Qbz at h
  split at h
  ·cases h
  ·exact QtM m t _ tw' c' (by simpa using h)
theorem Qqz (an bn : Bool) (ps : List Pe) (at' : List Int) (hat : at'.length ≤ 1000000) (n : Nat) : ∀ (t p : List Int), p ++ t = at' → ∀ k, t.length < k →
  r32_Split_L1 lb n k an (ps.map peE) bn (at'.map icv) (p.length : Int) = if t.any (fun i => decide (i < 0 ∨ i ≥ (ps.length : Int))) then some (errS 7) else Qio lb n an (ps.map peE) bn (at'.map icv) (at'.length : Int)
 | [], p, h, k, hk => by
  obtain ⟨k, rfl⟩ : ∃ j, k = j + 1 := ⟨k - 1, by simp at hk; omega⟩
  have hp : p = at' := by simpa using h
  rw [QhW, hp]
  exact stF (decF (by simp)) (by simp)
 | i :: t, p, h, k, hk => by
  obtain ⟨k, rfl⟩ : ∃ j, k = j + 1 := ⟨k - 1, by simp at hk; omega⟩
  have hpl : p.length + (t.length + 1) = at'.length := by rw [← h]; simp
  have hw : IntKind.wrap .i64 ((p.length : Int) + 1) = ((p ++ [i]).length : Int) := by rw [Qaw (by omega) (by omega)]; simp
  have ai : atL (at'.map icv) (p.length : Int) = some (icv i) := Qbh (by rw [List.getElem?_map, ← h]; simp)
  have hlen : (((ps.map peE).length : Nat) : Int) = (ps.length : Int) := by simp
  have ih := Qqz an bn ps at' hat n t (p ++ [i]) (by rw [← h]; simp) k (by simp at hk; omega)
  rw [QhW, hw, List.any_cons]
  refine stT (decT (by simp; omega)) (stO _ ai (stC rfl (stO _ rfl (stO _ (Qas ..) ?_))))
  by_cases h0 : i < 0
  ·rw [decT (show i < 0 ∨ i ≥ (ps.length : Int) from .inl h0)]
   exact stT (decT h0) rfl
  refine stF (decF h0) (stO _ ai (stC rfl (stO _ rfl (stO _ (Qas ..) ?_))))
  by_cases h1 : i ≥ (ps.length : Int)
  ·rw [decT (show i < 0 ∨ i ≥ (ps.length : Int) from .inr h1)]
   exact stT (decT (by rw [hlen]; exact h1)) rfl
  ·rw [decF (show ¬ (i < 0 ∨ i ≥ (ps.length : Int)) by omega), Bool.false_or]
   exact stF (decF (by rw [hlen]; exact h1)) ih
theorem Qqq (an bn : Bool) (ps : List Pe) (at' : List Int) (wT : Int) (hat : at'.length ≤ 1000000) (n : Nat) : ∀ (t p : List Int), p ++ t = at' → ∀ (c : List Bool), c.length = ps.length → (∀ i ∈ t, 0 ≤ i ∧ i < (ps.length : Int)) → ∀ k, t.length < k →
  QfZ lb n k an (ps.map peE) bn (at'.map icv) wT (p.length : Int) (c.map bvE) = (match Qbz ps.length t false c with
   | none => none
   | some (tw', c') => if tw' = true then some (errS 6) else Qgr lb n an (ps.map peE) bn (at'.map icv) wT (at'.length : Int) (c'.map bvE))
 | [], p, h, c, hc, hv, k, hk => by
  obtain ⟨k, rfl⟩ : ∃ j, k = j + 1 := ⟨k - 1, by simp at hk; omega⟩
  have hp : p = at' := by simpa using h
  rw [QhY, hp]
  exact stF (decF (by simp)) (by simp [Qbz])
 | i :: t, p, h, c, hc, hv, k, hk => by
  obtain ⟨k, rfl⟩ : ∃ j, k = j + 1 := ⟨k - 1, by simp at hk; omega⟩
  have hpl : p.length + (t.length + 1) = at'.length := by rw [← h]; simp
  have hw : IntKind.wrap .i64 ((p.length : Int) + 1) = ((p ++ [i]).length : Int) := by rw [Qaw (by omega) (by omega)]; simp
  have ai : atL (at'.map icv) (p.length : Int) = some (icv i) := Qbh (by rw [List.getElem?_map, ← h]; simp)
  obtain ⟨i0, i1⟩ := hv i (by simp)
  obtain ⟨b, hb⟩ : ∃ b, c[i.toNat]? = some b := ⟨_, List.getElem?_eq_getElem (by omega)⟩
  have hget : (c.map bvE)[0 + i.toNat]? = some (bvE b) := by rw [Nat.zero_add, List.getElem?_map, hb]; rfl
  have hset : setN (c.map bvE) (0 + i.toNat) (Qbv (bvE b) 0 [.bool true]) = (c.set i.toNat true).map bvE := by
   rw [Qi3, Nat.zero_add, List.map_set]; rfl
  have hr : (decide (0 ≤ i) && decide (i < (((((ps.map peE).length : Int).toNat) : Nat) : Int))) = true := by simp; omega
  have ih := Qqq an bn ps at' wT hat n t (p ++ [i]) (by rw [← h]; simp) (c.set i.toNat true) (by simpa using hc) (fun j hj => hv j (by simp [hj])) k (by simp at hk; omega)
  rw [QhY, hw]
  have hsc : Qbz ps.length (i :: t) false c = Qbz ps.length t b (c.set i.toNat true) := by
   show (if i < 0 ∨ i ≥ (ps.length : Int) then none else Qbz ps.length t (false || (c[i.toNat]?).getD false) (c.set i.toNat true)) = _
   rw [if_neg (by omega), hb]; rfl
  rw [hsc]
  refine stT (decT (by simp; omega)) (stO _ ai (stC rfl (stO _ rfl (stO i rfl (stC hr (stO _ hget (stO _ rfl (stO _ (Qau _) ?_))))))))
  cases b with
  | true =>
   refine stT rfl ?_
   cases hq : Qbz ps.length t true (c.set i.toNat true) with
   | none =>
    exfalso
    rw [Qjp] at hq
    obtain ⟨j, hj, hd⟩ := List.any_eq_true.1 hq
    have := hv j (by simp [hj])
    simp at hd; omega
   | some r =>
    obtain ⟨tw', c'⟩ := r
    have := QtM _ _ _ _ _ hq
    subst this; rfl
  | false =>
   refine stF rfl (stO _ ai (stC rfl (stO _ rfl (stO i rfl (stC hr (stO _ hget (stC rfl ?_)))))))
   rw [hset]
   exact ih
theorem QqF (an bn : Bool) (ps : List Pe) (b4 : List (List CV)) (wT vu : Int) (c : List Bool) (hc : c.length = ps.length) (hn : ps.length ≤ 1000000) (n : Nat) : ∀ (qs pp : List Pe) (cs cp : List Bool), pp ++ qs = ps → cp ++ cs = c → cp.length = pp.length → ∀ k, qs.length < k →
  QeD lb n k an (ps.map peE) bn b4 wT vu (c.map bvE) (selB true cp pp).isEmpty ((selB true cp pp).map peE) (selB false cp pp).isEmpty ((selB false cp pp).map peE) (pp.length : Int) = QiB lb n an (ps.map peE) bn b4 wT vu (c.map bvE) (selB true c ps).isEmpty ((selB true c ps).map peE) (selB false c ps).isEmpty ((selB false c ps).map peE) (ps.length : Int)
 | [], pp, cs, cp, hp, hcc, hl, k, hk => by
  obtain ⟨k, rfl⟩ : ∃ j, k = j + 1 := ⟨k - 1, by simp at hk; omega⟩
  have e1 : pp = ps := by simpa using hp
  have hcs : cs = [] := List.eq_nil_of_length_eq_zero (by have := congrArg List.length hcc; rw [List.length_append, hl, e1, hc] at this; omega)
  have e2 : cp = c := by simpa [hcs] using hcc
  subst e1; subst e2
  rw [QhS]
  exact stF (decF (by simp)) rfl
 | x :: qs, pp, [], cp, hp, hcc, hl, k, hk => by
  exfalso
  have h1 := congrArg List.length hcc
  have h2 := congrArg List.length hp
  simp at h1 h2; omega
 | x :: qs, pp, b :: cs, cp, hp, hcc, hl, k, hk => by
  obtain ⟨k, rfl⟩ : ∃ j, k = j + 1 := ⟨k - 1, by simp at hk; omega⟩
  have hpl : pp.length + (qs.length + 1) = ps.length := by rw [← hp]; simp
  have hw : IntKind.wrap .i64 ((pp.length : Int) + 1) = ((pp ++ [x]).length : Int) := by rw [Qaw (by omega) (by omega)]; simp
  obtain ⟨s1, s2⟩ := QeO cp pp hl
  have ih := QqF an bn ps b4 wT vu c hc hn n qs (pp ++ [x]) cs (cp ++ [b]) (by rw [← hp]; simp) (by rw [← hcc]; simp) (by simp [hl]) k (by simp at hk; omega)
  rw [QiE true cp [b] pp [x] hl, QiE false cp [b] pp [x] hl] at ih
  have hget : (c.map bvE)[0 + ((pp.length : Int)).toNat]? = some (bvE b) := by rw [Nat.zero_add, Int.toNat_natCast, List.getElem?_map, ← hcc, ← hl]; simp
  have hat : atL (ps.map peE) (pp.length : Int) = some (peE x) := Qbh (by rw [List.getElem?_map, ← hp]; simp)
  rw [QhS, hw]
  refine stT (decT (by simp; omega)) (stC (by simp; omega) (stO _ hget (stO _ rfl (stO _ (Qau _) ?_))))
  have row : ∀ l : List Pe, l.map peE ++ [[CV.str x.la, CV.str x.fi, CV.str x.ty]] = (l ++ [x]).map peE := fun l => by simp [peE]
  have emp : ∀ l : List Pe, (l.isEmpty && false) = (l ++ [x]).isEmpty := fun l => by simp
  cases b with
  | true =>
   refine stT rfl (stO _ hat (stC rfl (stO _ rfl (stO _ rfl (stO _ rfl (stC (Qb6 (by simp; omega)) ?_))))))
   rw [row, emp (selB true cp pp)]
   have e1 : selB true [true] [x] = [x] := rfl
   have e2 : selB false [true] [x] = [] := rfl
   rw [e1, e2, List.append_nil] at ih
   exact ih
  | false =>
   refine stF rfl (stO _ hat (stC rfl (stO _ rfl (stO _ rfl (stO _ rfl (stC (Qb6 (by simp; omega)) ?_))))))
   rw [row, emp (selB false cp pp)]
   have e1 : selB true [false] [x] = [] := rfl
   have e2 : selB false [false] [x] = [x] := rfl
   rw [e1, e2, List.append_nil] at ih
   exact ih
def QlU (r : Int × List Pe × List Pe) : CV := if r.1 = 0 then .tup [.list r.2.1.isEmpty (r.2.1.map peE), .list r.2.2.isEmpty (r.2.2.map peE), .int .i64 0] else errS r.1
theorem Qt2 (an bn : Bool) (ps : List Pe) (at' : List Int) (hn : ps.length ≤ 1000000) (hat : at'.length ≤ 1000000) : Ret lb QaB [.list an (ps.map peE), .list bn (at'.map icv)] (QlU (QcS ps at')) := by
 have hl0 : (List.replicate ps.length false).length = ps.length := by simp
 have L1 := fun n k h => Qqz lb an bn ps at' hat n at' [] rfl k h
 have e0 : ∀ n, top lb n QaB [.list an (ps.map peE), .list bn (at'.map icv)] = r32_Split_L1 lb n n an (ps.map peE) bn (at'.map icv) 0 := fun n => by
  rw [Qsr]
  exact stC (by simp; omega) (stC (by simp) rfl)
 unfold QcS
 cases hs : Qbz ps.length at' false (List.replicate ps.length false) with
 | none =>
  refine .top rfl ((Evt.ge (at'.length + 1)).mono fun n hn' => ?_)
  rw [e0]
  refine (L1 n n (by omega)).trans ?_
  rw [(Qjp ..).1 hs]; rfl
 | some r =>
  obtain ⟨tw, c⟩ := r
  have sc := Qj1 _ _ _ _ _ _ hl0 hs
  have hcl : c.length = ps.length := by rw [sc.len]; exact hl0
  have hany : at'.any (fun i => decide (i < 0 ∨ i ≥ (ps.length : Int))) = false := by
   rw [Bool.eq_false_iff]; intro hq
   have := (Qjp ps.length at' false (List.replicate ps.length false)).2 hq
   rw [hs] at this; cases this
  have L3 := fun n k h => Qqq lb an bn ps at' (at'.length : Int) hat n at' [] rfl (List.replicate ps.length false) hl0 sc.rng k h
  have start : ∀ {v : CV}, (Evt fun n => (if tw = true then some (errS 6) else Qgr lb n an (ps.map peE) bn (at'.map icv) (at'.length : Int) (at'.length : Int) (c.map bvE)) = some v) → Ret lb QaB [.list an (ps.map peE), .list bn (at'.map icv)] v := fun h => .top rfl (Evt.imp2 h (Evt.ge (at'.length + 1)) fun n h hn' => by
   rw [e0]
   refine (L1 n n (by omega)).trans ?_
   rw [hany, if_neg (by simp), Qpo]
   have := L3 n n (by omega)
   rw [hs, QmM] at this
   simp only [List.length_map, Int.toNat_natCast]
   exact this.trans h)
  cases htw : tw with
  | true =>
   subst htw
   exact start (.all fun n => by rw [if_pos rfl]; rfl)
  | false =>
   subst htw
   cases he : at'.isEmpty with
   | true =>
    have h0 : at' = [] := List.isEmpty_iff.1 he
    refine start (.all fun n => ?_)
    rw [if_neg (by simp), Qjc]
    exact stT (beqT (by simp [h0])) rfl
   | false =>
    have hne : at' ≠ [] := fun h => by rw [h] at he; cases he
    obtain ⟨s1, s2⟩ := QeO c ps hcl
    have f1 := Qon lb (selB true c ps).isEmpty (selB true c ps) (by omega)
    have f2 := Qon lb (selB false c ps).isEmpty (selB false c ps) (by omega)
    refine start (Evt.imp2 (Evt.imp2 f1 f2 fun n a b => And.intro a b) (Evt.ge (ps.length + 1)) fun n ⟨g1, g2⟩ hn' => ?_)
    rw [if_neg (by simp), Qjc]
    refine stF (beqF (by simp; exact hne)) ?_
    refine (QqF lb an bn ps (at'.map icv) (at'.length : Int) (at'.length : Int) c hcl hn n ps [] c [] rfl rfl rfl n (by omega)).trans ?_
    rw [Qo7]
    refine stO _ g1 (stO _ (Qau _) ?_)
    rw [Bool.not_not]
    cases h5 : QdB (selB true c ps) with
    | true => exact stT h5 (by simp only [h5, cond_true, cond_false]; rfl)
    | false =>
     refine stF h5 (stO _ g2 (stO _ (Qau _) ?_))
     rw [Bool.not_not]
     cases h7 : QdB (selB false c ps) with
     | true => exact stT h7 (by simp only [h5, h7, cond_true, cond_false]; rfl)
     | false => exact stF h7 (by simp only [h5, h7, cond_false]; rfl)
end Go.Proofs
set_option linter.unusedSimpArgs false
set_option linter.unusedVariables false
namespace Go.Proofs
open Go.Am
variable (lb : Nat)
def ltC (at' : List Int) (k : Int) : Nat := (at'.filter fun i => decide (i < k)).length
def xSv (at' : List Int) : List Sv → List Sv
 | [] => []
 | s :: t => bif at'.contains s.pe then xSv at' t else { s with pe := s.pe - (ltC at' s.pe : Int) } :: xSv at' t
def ySv (at' : List Int) : List Sv → List Sv
 | [] => []
 | s :: t => bif at'.contains s.pe then { s with pe := (ltC at' s.pe : Int) } :: ySv at' t else ySv at' t
theorem QmN (at' : List Int) : ∀ l m : List Sv, xSv at' (l ++ m) = xSv at' l ++ xSv at' m
 | [], m => rfl
 | s :: l, m => by
  simp only [List.cons_append, xSv, QmN at' l m]
  cases at'.contains s.pe <;> rfl
theorem QmT (at' : List Int) : ∀ l m : List Sv, ySv at' (l ++ m) = ySv at' l ++ ySv at' m
 | [], m => rfl
 | s :: l, m => by
  simp only [List.cons_append, ySv, QmT at' l m]
  cases at'.contains s.pe <;> rfl
theorem QjV (at' : List Int) : ∀ l : List Sv, (xSv at' l).length ≤ l.length
 | [] => Nat.le_refl _
 | s :: l => by
  have := QjV at' l
  simp only [xSv]
  cases at'.contains s.pe <;> simp <;> omega
theorem QjW (at' : List Int) : ∀ l : List Sv, (ySv at' l).length ≤ l.length
 | [] => Nat.le_refl _
 | s :: l => by
  have := QjW at' l
  simp only [ySv]
  cases at'.contains s.pe <;> simp <;> omega
theorem Qsm (at' : List Int) (k : Int) : ltC at' k ≤ at'.length := List.length_filter_le ..
def divE (b : Bk) (at' : List Int) (name : Bs) : Int :=
 bif (QcS b.ps at').1 != 0 then (QcS b.ps at').1 else bif (QcS b.ps at').2.2.isEmpty && b.grp == 0 then 2 else bif decide ((QcS b.ps at').2.1.length > 9) then 4 else bif !Qa1 name 6 6 then 5 else bif name == b.loc then 6 else 0
theorem Qvt (n yD : Nat) (jj : List UInt8) (jb : Bool) (jd : List (List CV)) (jg : Int) (ja : Bool) (jf : List (List CV)) (je : Bool) (jh : List (List CV)) (jc : Int) (jn : Bool) (jv : List (List CV)) (jp : List UInt8) (jq jr jm jy : CV) (jP : Int) (wY : Bool × List (List CV)) (wV : Bool) (wP : Int) (vr : List CV) (ve y6 vj : CV) (yS : Bool) (yV : List (List CV)) (yu : Bool) (yw : List (List CV)) (at' : List Int) (hat : at'.length ≤ 1000000) (hb : jv = at'.map icv) (s : Sv) (hx : y6 = .int .i64 s.pe) : ∀ (t p : List Int), p ++ t = at' → ∀ k, t.length < k →
  QcP lb n k yD jj jb jd jg ja jf je jh jc jn jv jp jq jr jm jy jP wY wV wP vr ve y6 vj yS yV yu yw (ltC p s.pe : Int) (p.length : Int) = Qff lb n yD jj jb jd jg ja jf je jh jc jn jv jp jq jr jm jy jP wY wV wP vr ve y6 vj yS yV yu yw (ltC at' s.pe : Int)
 | [], p, h, k, hk => by
  obtain ⟨k, rfl⟩ : ∃ j, k = j + 1 := ⟨k - 1, by simp at hk; omega⟩
  have hp : p = at' := by simpa using h
  subst hb
  rw [Qfp, hp]
  exact stF (decF (by simp)) rfl
 | i :: t, p, h, k, hk => by
  obtain ⟨k, rfl⟩ : ∃ j, k = j + 1 := ⟨k - 1, by simp at hk; omega⟩
  have hpl : p.length + (t.length + 1) = at'.length := by rw [← h]; simp
  have hw : IntKind.wrap .i64 ((p.length : Int) + 1) = ((p ++ [i]).length : Int) := by rw [Qaw (by omega) (by omega)]; simp
  have ai : atL (at'.map icv) (p.length : Int) = some (icv i) := Qbh (by rw [List.getElem?_map, ← h]; simp)
  have hc : (ltC p s.pe : Int) ≤ p.length := by have := Qsm p s.pe; omega
  have w1 : IntKind.wrap .i64 ((ltC p s.pe : Int) + 1) = (ltC p s.pe : Int) + 1 := Qaw (by omega) (by omega)
  have ih := Qvt n yD jj jb jd jg ja jf je jh jc jn jv jp jq jr jm jy jP wY wV wP vr ve y6 vj yS yV yu yw at' hat hb s hx t (p ++ [i]) (by rw [← h]; simp) k (by simp at hk; omega)
  subst hb; subst hx
  rw [Qfp, hw, w1]
  refine stT (decT (by simp; omega)) (stO _ ai (stC rfl (stO _ rfl (stO _ (Qas ..) (stO _ (Qas ..) ?_)))))
  by_cases hi : i < s.pe
  ·have e : (ltC (p ++ [i]) s.pe : Int) = (ltC p s.pe : Int) + 1 := by simp [ltC, List.filter_append, hi]
   rw [e] at ih
   exact stT (decT hi) ih
  ·have e : (ltC (p ++ [i]) s.pe : Int) = (ltC p s.pe : Int) := by simp [ltC, List.filter_append, hi]
   rw [e] at ih
   exact stF (decF hi) ih
theorem QxS (n : Nat) (jj : List UInt8) (jb : Bool) (jd : List (List CV)) (jg : Int) (ja : Bool) (jf : List (List CV)) (je : Bool) (jh : List (List CV)) (jc : Int) (jn : Bool) (jv : List (List CV)) (jp : List UInt8) (jq jr jm jy : CV) (jP : Int) (wY : Bool × List (List CV)) (wV : Bool) (at' : List Int) (hat : at'.length ≤ 1000000) (hb : jv = at'.map icv) (svs : List Sv) (hs : svs.length ≤ 1000000) (hr : ∀ s ∈ svs, -9223372036854775808 ≤ s.pe - (ltC at' s.pe : Int) ∧ s.pe ≤ 9223372036854775807) (h9 : jh = svs.map svE) : Evt fun n => ∀ k, svs.length < k →
  Qco lb n k jj jb jd jg ja jf je jh jc jn jv jp jq jr jm jy jP wY wV 0 true [] true [] = QdK lb n jj jb jd jg ja jf je jh jc jn jv jp jq jr jm jy jP wY wV (xSv at' svs).isEmpty ((xSv at' svs).map svE) (ySv at' svs).isEmpty ((ySv at' svs).map svE) := by
 have hall : Evt fun n => ∀ s ∈ svs, C lb n Qbo [.list jn (at'.map icv), .int .i64 s.pe] = some (.bool (at'.contains s.pe)) := Evt.fin svs fun s _ => Qej lb jn at' s.pe hat
 refine Evt.imp2 hall (Evt.ge (at'.length + 1)) fun n hcon hn => ?_
 have key : ∀ (t p : List Sv), p ++ t = svs → ∀ k, t.length < k → Qco lb n k jj jb jd jg ja jf je jh jc jn jv jp jq jr jm jy jP wY wV (p.length : Int) (xSv at' p).isEmpty ((xSv at' p).map svE) (ySv at' p).isEmpty ((ySv at' p).map svE) = QdK lb n jj jb jd jg ja jf je jh jc jn jv jp jq jr jm jy jP wY wV (xSv at' svs).isEmpty ((xSv at' svs).map svE) (ySv at' svs).isEmpty ((ySv at' svs).map svE) := by
  intro t
  induction t with
  | nil =>
   intro p h k hk
   obtain ⟨k, rfl⟩ : ∃ j, k = j + 1 := ⟨k - 1, by simp at hk; omega⟩
   have hp : p = svs := by simpa using h
   rw [Qfk, hp, h9]
   exact stF (decF (by simp)) rfl
  | cons s t ih =>
   intro p h k hk
   obtain ⟨k, rfl⟩ : ∃ j, k = j + 1 := ⟨k - 1, by simp at hk; omega⟩
   have hpl : p.length + (t.length + 1) = svs.length := by rw [← h]; simp
   have hw : IntKind.wrap .i64 ((p.length : Int) + 1) = ((p ++ [s]).length : Int) := by rw [Qaw (by omega) (by omega)]; simp
   have hat2 : atL (svs.map svE) (p.length : Int) = some (svE s) := Qbh (by rw [List.getElem?_map, ← h]; simp)
   have hmem : s ∈ svs := by rw [← h]; simp
   have ih := ih (p ++ [s]) (by rw [← h]; simp) k (by simp at hk; omega)
   rw [QmN, QmT] at ih
   obtain ⟨r0, r1⟩ := hr s hmem
   have wpe : IntKind.wrap .i64 (s.pe - (ltC at' s.pe : Int)) = s.pe - (ltC at' s.pe : Int) := Qaw r0 (by omega)
   have hxl := QjV at' p
   have hyl := QjW at' p
   have emp : ∀ (l : List Sv) (z : Sv), (l.isEmpty && false) = (l ++ [z]).isEmpty := fun l z => by simp
   have row : ∀ (l : List Sv) (z : Sv), l.map svE ++ [[CV.str z.cd, CV.int .i64 z.pe, CV.int .i64 z.sg]] = (l ++ [z]).map svE := fun l z => by simp [svE]
   subst hb; subst h9
   rw [Qfk]
   refine stT (decT (by simp; omega)) (stO _ hat2 (stC rfl (stO _ rfl (stO _ rfl (stO _ rfl ?_)))))
   refine (Qvt lb _ _ _ _ _ _ _ _ _ _ _ _ _ _ _ _ _ _ _ _ _ _ _ _ _ _ _ _ _ _ at' hat rfl s rfl at' [] rfl n (by omega)).trans ?_
   rw [QkN]
   refine stO _ (hcon s hmem) (stO _ (Qau _) ?_)
   cases hc : at'.contains s.pe with
   | true =>
    have e1 : xSv at' [s] = [] := by simp only [xSv, hc, cond_true]
    have e2 : ySv at' [s] = [{ s with pe := (ltC at' s.pe : Int) }] := by simp only [ySv, hc, cond_true]
    rw [e1, e2, List.append_nil, ← hw] at ih
    refine stT rfl (stC (Qb6 (by simp; omega)) ?_)
    rw [QkH, emp (ySv at' p) { s with pe := (ltC at' s.pe : Int) }]
    have := row (ySv at' p) { s with pe := (ltC at' s.pe : Int) }
    simp only at this
    rw [this]
    exact ih
   | false =>
    have e1 : xSv at' [s] = [{ s with pe := s.pe - (ltC at' s.pe : Int) }] := by simp only [xSv, hc, cond_false]
    have e2 : ySv at' [s] = [] := by simp only [ySv, hc, cond_false]
    rw [e1, e2, List.append_nil, ← hw] at ih
    refine stF rfl (stO _ (Qas ..) (stC (Qb6 (by simp; omega)) ?_))
    rw [QkE, emp (xSv at' p) { s with pe := s.pe - (ltC at' s.pe : Int) }, wpe]
    have := row (xSv at' p) { s with pe := s.pe - (ltC at' s.pe : Int) }
    simp only at this
    rw [this]
    exact ih
 exact fun k hk => key svs [] rfl k hk
theorem Qvk (n w7 : Nat) (jj : List UInt8) (jb : Bool) (jd : List (List CV)) (jg : Int) (ja : Bool) (jf : List (List CV)) (je : Bool) (jh : List (List CV)) (jc : Int) (jn : Bool) (jv : List (List CV)) (jp : List UInt8) (jq jr jm jy : CV) (jP : Int) (wJ : Bool × List (List CV)) (wI : Bool) (jR : Int) (y2 : List CV) (yz yN yO : CV) (yp : Bool) (ym : List (List CV)) (yo : Bool) (yk : List (List CV)) (at' : List Int) (hat : at'.length ≤ 1000000) (hb : jv = at'.map icv) (s : Sv) (hx : yN = .int .i64 s.pe) : ∀ (t p : List Int), p ++ t = at' → ∀ k, t.length < k →
  QcT lb n k w7 jj jb jd jg ja jf je jh jc jn jv jp jq jr jm jy jP wJ wI jR y2 yz yN yO yp ym yo yk (ltC p s.pe : Int) (p.length : Int) = Qfd lb n w7 jj jb jd jg ja jf je jh jc jn jv jp jq jr jm jy jP wJ wI jR y2 yz yN yO yp ym yo yk (ltC at' s.pe : Int)
 | [], p, h, k, hk => by
  obtain ⟨k, rfl⟩ : ∃ j, k = j + 1 := ⟨k - 1, by simp at hk; omega⟩
  have hp : p = at' := by simpa using h
  subst hb
  rw [Qfr, hp]
  exact stF (decF (by simp)) rfl
 | i :: t, p, h, k, hk => by
  obtain ⟨k, rfl⟩ : ∃ j, k = j + 1 := ⟨k - 1, by simp at hk; omega⟩
  have hpl : p.length + (t.length + 1) = at'.length := by rw [← h]; simp
  have hw : IntKind.wrap .i64 ((p.length : Int) + 1) = ((p ++ [i]).length : Int) := by rw [Qaw (by omega) (by omega)]; simp
  have ai : atL (at'.map icv) (p.length : Int) = some (icv i) := Qbh (by rw [List.getElem?_map, ← h]; simp)
  have hc : (ltC p s.pe : Int) ≤ p.length := by have := Qsm p s.pe; omega
  have w1 : IntKind.wrap .i64 ((ltC p s.pe : Int) + 1) = (ltC p s.pe : Int) + 1 := Qaw (by omega) (by omega)
  have ih := Qvk n w7 jj jb jd jg ja jf je jh jc jn jv jp jq jr jm jy jP wJ wI jR y2 yz yN yO yp ym yo yk at' hat hb s hx t (p ++ [i]) (by rw [← h]; simp) k (by simp at hk; omega)
  subst hb; subst hx
  rw [Qfr, hw, w1]
  refine stT (decT (by simp; omega)) (stO _ ai (stC rfl (stO _ rfl (stO _ (Qas ..) (stO _ (Qas ..) ?_)))))
  by_cases hi : i < s.pe
  ·have e : (ltC (p ++ [i]) s.pe : Int) = (ltC p s.pe : Int) + 1 := by simp [ltC, List.filter_append, hi]
   rw [e] at ih
   exact stT (decT hi) ih
  ·have e : (ltC (p ++ [i]) s.pe : Int) = (ltC p s.pe : Int) := by simp [ltC, List.filter_append, hi]
   rw [e] at ih
   exact stF (decF hi) ih
theorem QxU (n : Nat) (jj : List UInt8) (jb : Bool) (jd : List (List CV)) (jg : Int) (ja : Bool) (jf : List (List CV)) (je : Bool) (jh : List (List CV)) (jc : Int) (jn : Bool) (jv : List (List CV)) (jp : List UInt8) (jq jr jm jy : CV) (jP : Int) (wJ : Bool × List (List CV)) (wI : Bool) (at' : List Int) (hat : at'.length ≤ 1000000) (hb : jv = at'.map icv) (svs : List Sv) (hs : svs.length ≤ 1000000) (hr : ∀ s ∈ svs, -9223372036854775808 ≤ s.pe - (ltC at' s.pe : Int) ∧ s.pe ≤ 9223372036854775807) (h9 : jh = svs.map svE) : Evt fun n => ∀ k, svs.length < k →
  Qcl lb n k jj jb jd jg ja jf je jh jc jn jv jp jq jr jm jy jP wJ wI 0 true [] true [] = Qdw lb n jj jb jd jg ja jf je jh jc jn jv jp jq jr jm jy jP wJ wI (xSv at' svs).isEmpty ((xSv at' svs).map svE) (ySv at' svs).isEmpty ((ySv at' svs).map svE) := by
 have hall : Evt fun n => ∀ s ∈ svs, C lb n Qbo [.list jn (at'.map icv), .int .i64 s.pe] = some (.bool (at'.contains s.pe)) := Evt.fin svs fun s _ => Qej lb jn at' s.pe hat
 refine Evt.imp2 hall (Evt.ge (at'.length + 1)) fun n hcon hn => ?_
 have key : ∀ (t p : List Sv), p ++ t = svs → ∀ k, t.length < k → Qcl lb n k jj jb jd jg ja jf je jh jc jn jv jp jq jr jm jy jP wJ wI (p.length : Int) (xSv at' p).isEmpty ((xSv at' p).map svE) (ySv at' p).isEmpty ((ySv at' p).map svE) = Qdw lb n jj jb jd jg ja jf je jh jc jn jv jp jq jr jm jy jP wJ wI (xSv at' svs).isEmpty ((xSv at' svs).map svE) (ySv at' svs).isEmpty ((ySv at' svs).map svE) := by
  intro t
  induction t with
  | nil =>
   intro p h k hk
   obtain ⟨k, rfl⟩ : ∃ j, k = j + 1 := ⟨k - 1, by simp at hk; omega⟩
   have hp : p = svs := by simpa using h
   rw [Qfl, hp, h9]
   exact stF (decF (by simp)) rfl
  | cons s t ih =>
   intro p h k hk
   obtain ⟨k, rfl⟩ : ∃ j, k = j + 1 := ⟨k - 1, by simp at hk; omega⟩
   have hpl : p.length + (t.length + 1) = svs.length := by rw [← h]; simp
   have hw : IntKind.wrap .i64 ((p.length : Int) + 1) = ((p ++ [s]).length : Int) := by rw [Qaw (by omega) (by omega)]; simp
   have hat2 : atL (svs.map svE) (p.length : Int) = some (svE s) := Qbh (by rw [List.getElem?_map, ← h]; simp)
   have hmem : s ∈ svs := by rw [← h]; simp
   have ih := ih (p ++ [s]) (by rw [← h]; simp) k (by simp at hk; omega)
   rw [QmN, QmT] at ih
   obtain ⟨r0, r1⟩ := hr s hmem
   have wpe : IntKind.wrap .i64 (s.pe - (ltC at' s.pe : Int)) = s.pe - (ltC at' s.pe : Int) := Qaw r0 (by omega)
   have hxl := QjV at' p
   have hyl := QjW at' p
   have emp : ∀ (l : List Sv) (z : Sv), (l.isEmpty && false) = (l ++ [z]).isEmpty := fun l z => by simp
   have row : ∀ (l : List Sv) (z : Sv), l.map svE ++ [[CV.str z.cd, CV.int .i64 z.pe, CV.int .i64 z.sg]] = (l ++ [z]).map svE := fun l z => by simp [svE]
   subst hb; subst h9
   rw [Qfl]
   refine stT (decT (by simp; omega)) (stO _ hat2 (stC rfl (stO _ rfl (stO _ rfl (stO _ rfl ?_)))))
   refine (Qvk lb _ _ _ _ _ _ _ _ _ _ _ _ _ _ _ _ _ _ _ _ _ _ _ _ _ _ _ _ _ _ at' hat rfl s rfl at' [] rfl n (by omega)).trans ?_
   rw [Qky]
   refine stO _ (hcon s hmem) (stO _ (Qau _) ?_)
   cases hc : at'.contains s.pe with
   | true =>
    have e1 : xSv at' [s] = [] := by simp only [xSv, hc, cond_true]
    have e2 : ySv at' [s] = [{ s with pe := (ltC at' s.pe : Int) }] := by simp only [ySv, hc, cond_true]
    rw [e1, e2, List.append_nil, ← hw] at ih
    refine stT rfl (stC (Qb6 (by simp; omega)) ?_)
    rw [Qj6, emp (ySv at' p) { s with pe := (ltC at' s.pe : Int) }]
    have := row (ySv at' p) { s with pe := (ltC at' s.pe : Int) }
    simp only at this
    rw [this]
    exact ih
   | false =>
    have e1 : xSv at' [s] = [{ s with pe := s.pe - (ltC at' s.pe : Int) }] := by simp only [xSv, hc, cond_false]
    have e2 : ySv at' [s] = [] := by simp only [ySv, hc, cond_false]
    rw [e1, e2, List.append_nil, ← hw] at ih
    refine stF rfl (stO _ (Qas ..) (stC (Qb6 (by simp; omega)) ?_))
    rw [Qkh, emp (xSv at' p) { s with pe := s.pe - (ltC at' s.pe : Int) }, wpe]
    have := row (xSv at' p) { s with pe := s.pe - (ltC at' s.pe : Int) }
    simp only at this
    rw [this]
    exact ih
 exact fun k hk => key svs [] rfl k hk
end Go.Proofs
set_option linter.unusedSimpArgs false
set_option linter.unusedVariables false
namespace Go.Proofs
open Go.Am
variable (lb : Nat)
def noBk : Bk := ⟨[], true, [], 0, true, [], true, [], 0⟩
def Qgo (b : Bk) (at' : List Int) (fl : Bool) (R : List Pe) : Bk := { b with pn := fl, ps := R, rn := (xSv at' b.svs).isEmpty, svs := xSv at' b.svs }
def goB (b : Bk) (at' : List Int) (name : Bs) (fl : Bool) (M : List Pe) : Bk := { b with loc := name, pn := fl, ps := M, grp := 0, rn := (ySv at' b.svs).isEmpty, svs := ySv at' b.svs }
def divV (b : Bk) (at' : List Int) (name : Bs) (f1 f2 : Bool) : CV :=
 if divE b at' name = 0 then .tup [.agg (bkE (Qgo b at' f1 (QcS b.ps at').2.2)), .agg (bkE (goB b at' name f2 (QcS b.ps at').2.1)), .int .i64 0]
 else .tup [.agg (bkE noBk), .agg (bkE noBk), .int .i64 (divE b at' name)]
theorem Quz (b : Bk) (bn : Bool) (at' : List Int) (name : Bs) (hps : b.ps.length ≤ 100000) (hat : at'.length ≤ 100000) (hsv : b.svs.length ≤ 100000) (hr : ∀ s ∈ b.svs, -9223372036854775808 ≤ s.pe - (ltC at' s.pe : Int) ∧ s.pe ≤ 9223372036854775807) (hname : name.length ≤ 281474976710656) :
  Ret lb Qaa [.agg (bkE b), .list bn (at'.map icv), .str name] (divV b at' name false false) := by
 have hS := Qvp lb b.pn bn b.ps at' (by omega) (by omega)
 have hL := QnR lb name hname
 have eqn : ∀ n, top lb n Qaa [.agg (bkE b), .list bn (at'.map icv), .str name] = _ := fun n => Qnh lb n b.loc b.pn (b.ps.map peE) b.grp b.bn (b.segs.map sgE) b.rn (b.svs.map svE) b.lim bn (at'.map icv) name
 unfold divV
 obtain ⟨⟨e, M, R⟩, hq⟩ : ∃ q, QcS b.ps at' = q := ⟨_, rfl⟩
 have hE : divE b at' name = bif e != 0 then e else bif R.isEmpty && b.grp == 0 then 2 else bif decide (M.length > 9) then 4 else bif !Qa1 name 6 6 then 5 else bif name == b.loc then 6 else 0 := by unfold divE; rw [hq]
 rw [hq] at hS
 rw [hE]
 by_cases he : ¬ e = 0
 ·rw [bneT he]
  simp only [cond_true]
  rw [if_neg he]
  have hv : QjZ (e, M, R) = errS e := by unfold QjZ; rw [if_neg he]
  rw [hv] at hS
  exact .top rfl (hS.mono fun n c => by rw [eqn]; exact stO _ c (stO _ rfl (stO _ rfl (stO _ rfl (stO _ rfl (stO _ rfl (stO _ rfl (stO _ (Qas ..) (stT (bneT he) rfl)))))))))
 have he : e = 0 := Classical.not_not.1 he
 subst he
 have hv : QjZ (0, M, R) = .tup [.list false (M.map peE), .list false (R.map peE), .int .i64 0] := by unfold QjZ; rw [if_pos rfl]
 rw [hv] at hS
 have hSL := Evt.imp2 hS hL fun n x y => And.intro x y
 rw [show ((0 : Int) != 0) = false from rfl]
 simp only [cond_false]
 cases hRe : R.isEmpty with
 | true =>
  have hR0 : R = [] := List.isEmpty_iff.1 hRe
  by_cases hg : b.grp = 0
  ·rw [beqT hg]
   simp only [Bool.and_self, cond_true]
   rw [if_neg (by decide)]
   exact .top rfl (hS.mono fun n c => by rw [eqn]; exact stO _ c (stO _ rfl (stO _ rfl (stO _ rfl (stO _ rfl (stO _ rfl (stO _ rfl (stO _ (Qas ..) (stF rfl (stO _ rfl (stT (beqT (by simp [hR0])) (stT (beqT hg) rfl))))))))))))
  rw [beqF hg]
  simp only [Bool.and_false, cond_false]
  by_cases h9 : M.length > 9
  ·rw [decT h9]
   simp only [cond_true]
   rw [if_neg (by decide)]
   exact .top rfl (hS.mono fun n c => by rw [eqn]; exact stO _ c (stO _ rfl (stO _ rfl (stO _ rfl (stO _ rfl (stO _ rfl (stO _ rfl (stO _ (Qas ..) (stF rfl (stO _ rfl (stT (beqT (by simp [hR0])) (stF (beqF hg) (stO _ rfl (stT (decT (by simp; omega)) rfl))))))))))))))
  rw [decF h9]
  simp only [cond_false]
  cases hc : Qa1 name 6 6 with
  | false =>
   rw [hc] at hSL
   simp only [Bool.not_false, cond_true]
   rw [if_neg (by decide)]
   exact .top rfl (hSL.mono fun n ⟨c, d⟩ => by rw [eqn]; exact stO _ c (stO _ rfl (stO _ rfl (stO _ rfl (stO _ rfl (stO _ rfl (stO _ rfl (stO _ (Qas ..) (stF rfl (stO _ rfl (stT (beqT (by simp [hR0])) (stF (beqF hg) (stO _ rfl (stF (decF (by simp; omega)) (stO _ d (stO _ (Qau _) (stT rfl rfl)))))))))))))))))
  | true =>
   rw [hc] at hSL
   simp only [Bool.not_true, cond_false]
   cases hl : name == b.loc with
   | true =>
    simp only [cond_true]
    rw [if_neg (by decide)]
    exact .top rfl (hSL.mono fun n ⟨c, d⟩ => by rw [eqn]; exact stO _ c (stO _ rfl (stO _ rfl (stO _ rfl (stO _ rfl (stO _ rfl (stO _ rfl (stO _ (Qas ..) (stF rfl (stO _ rfl (stT (beqT (by simp [hR0])) (stF (beqF hg) (stO _ rfl (stF (decF (by simp; omega)) (stO _ d (stO _ (Qau _) (stF rfl (stT hl rfl))))))))))))))))))
   | false =>
    simp only [cond_false]
    rw [if_pos trivial]
    have hl1 := QxS lb 0 b.loc b.pn (b.ps.map peE) b.grp b.bn (b.segs.map sgE) b.rn (b.svs.map svE) b.lim bn (at'.map icv) name (.list false (M.map peE)) (.list false (R.map peE)) (.int .i64 0) (.tup [.list false (M.map peE), .list false (R.map peE), .int .i64 0]) 0 (false, M.map peE) true at' (by omega) rfl b.svs (by omega) hr rfl
    refine .top rfl (Evt.imp2 hSL (Evt.diag hl1) fun n ⟨c, d⟩ k => ?_)
    rw [eqn]
    refine stO _ c (stO _ rfl (stO _ rfl (stO _ rfl (stO _ rfl (stO _ rfl (stO _ rfl (stO _ (Qas ..) (stF rfl (stO _ rfl (stT (beqT (by simp [hR0])) (stF (beqF hg) (stO _ rfl (stF (decF (by simp; omega)) (stO _ d (stO _ (Qau _) (stF rfl (stF hl (stC rfl (stC rfl (k.trans ?_))))))))))))))))))))
    rw [Qk8, hq]; rfl
 | false =>
  have hR0 : R ≠ [] := fun h => by rw [h] at hRe; cases hRe
  have hne : (((R.map peE).length : Nat) : Int) ≠ 0 := by
   rw [List.length_map]
   have := List.length_pos_iff.2 hR0
   omega
  simp only [Bool.false_and, cond_false]
  by_cases h9 : M.length > 9
  ·rw [decT h9]
   simp only [cond_true]
   rw [if_neg (by decide)]
   exact .top rfl (hS.mono fun n c => by rw [eqn]; exact stO _ c (stO _ rfl (stO _ rfl (stO _ rfl (stO _ rfl (stO _ rfl (stO _ rfl (stO _ (Qas ..) (stF rfl (stO _ rfl (stF (beqF hne) (stO _ rfl (stT (decT (by simp; omega)) rfl)))))))))))))
  rw [decF h9]
  simp only [cond_false]
  cases hc : Qa1 name 6 6 with
  | false =>
   rw [hc] at hSL
   simp only [Bool.not_false, cond_true]
   rw [if_neg (by decide)]
   exact .top rfl (hSL.mono fun n ⟨c, d⟩ => by rw [eqn]; exact stO _ c (stO _ rfl (stO _ rfl (stO _ rfl (stO _ rfl (stO _ rfl (stO _ rfl (stO _ (Qas ..) (stF rfl (stO _ rfl (stF (beqF hne) (stO _ rfl (stF (decF (by simp; omega)) (stO _ d (stO _ (Qau _) (stT rfl rfl))))))))))))))))
  | true =>
   rw [hc] at hSL
   simp only [Bool.not_true, cond_false]
   cases hl : name == b.loc with
   | true =>
    simp only [cond_true]
    rw [if_neg (by decide)]
    exact .top rfl (hSL.mono fun n ⟨c, d⟩ => by rw [eqn]; exact stO _ c (stO _ rfl (stO _ rfl (stO _ rfl (stO _ rfl (stO _ rfl (stO _ rfl (stO _ (Qas ..) (stF rfl (stO _ rfl (stF (beqF hne) (stO _ rfl (stF (decF (by simp; omega)) (stO _ d (stO _ (Qau _) (stF rfl (stT hl rfl)))))))))))))))))
   | false =>
    simp only [cond_false]
    rw [if_pos trivial]
    have hl1 := QxU lb 0 b.loc b.pn (b.ps.map peE) b.grp b.bn (b.segs.map sgE) b.rn (b.svs.map svE) b.lim bn (at'.map icv) name (.list false (M.map peE)) (.list false (R.map peE)) (.int .i64 0) (.tup [.list false (M.map peE), .list false (R.map peE), .int .i64 0]) 0 (false, M.map peE) true at' (by omega) rfl b.svs (by omega) hr rfl
    refine .top rfl (Evt.imp2 hSL (Evt.diag hl1) fun n ⟨c, d⟩ k => ?_)
    rw [eqn]
    refine stO _ c (stO _ rfl (stO _ rfl (stO _ rfl (stO _ rfl (stO _ rfl (stO _ rfl (stO _ (Qas ..) (stF rfl (stO _ rfl (stF (beqF hne) (stO _ rfl (stF (decF (by simp; omega)) (stO _ d (stO _ (Qau _) (stF rfl (stF hl (stC rfl (stC rfl (k.trans ?_)))))))))))))))))))
    rw [QjQ, hq]; rfl
end Go.Proofs
set_option linter.unusedSimpArgs false
set_option linter.unusedVariables false
namespace Go.Proofs
open Go.Am
variable (lb : Nat)
theorem Qqp (m : Nat) : ∀ (at' : List Int) (tw : Bool) (c c' : List Bool), c.length = m → Qbz m at' tw c = some (false, c') → ∀ k : Nat, cntB (c'.take k) = cntB (c.take k) + ltC at' (k : Int)
 | [], tw, c, c', hc, h, k => by
  simp only [Qbz, Option.some.injEq, Prod.mk.injEq] at h
  rw [← h.2]; rfl
 | i :: r, tw, c, c', hc, h, k => by
  unfold Qbz at h
  by_cases hi : i < 0 ∨ i ≥ (m : Int)
  ·rw [if_pos hi] at h; cases h
  ·rw [if_neg hi] at h
   have hc2 : (c.set i.toNat true).length = m := by simpa using hc
   have ih := Qqp m r _ _ c' hc2 h k
   have sc := Qj1 m r _ _ _ _ hc2 h
   obtain ⟨b, hb⟩ : ∃ b, c[i.toNat]? = some b := ⟨_, List.getElem?_eq_getElem (by omega)⟩
   have hbf : b = false := by
    have := sc.tws rfl
    rw [hb] at this
    simp at this; exact this.2
   subst hbf
   rw [ih, List.take_set]
   by_cases hk : i < (k : Int)
   ·rw [QpR (c.take k) i.toNat (by rw [List.getElem?_take_of_lt (by omega), hb])]
    have : ltC (i :: r) (k : Int) = ltC r (k : Int) + 1 := by simp [ltC, hk]
    omega
   ·have : ltC (i :: r) (k : Int) = ltC r (k : Int) := by simp [ltC, hk]
    rw [this, List.set_eq_of_length_le (by rw [List.length_take]; omega)]
theorem QrZ (n k : Nat) : cntB ((List.replicate n false).take k) = 0 := by rw [List.take_replicate]; exact QmG _
def rkB (c : List Bool) (b : Bool) (k : Nat) : Nat := bif b then cntB (c.take k) else k - cntB (c.take k)
theorem Qoj {c : List Bool} {j : Nat} {b : Bool} (h : c[j]? = some b) : cntB (c.take (j + 1)) = cntB (c.take j) + (bif b then 1 else 0) := by
 rw [List.take_add_one, h, Qkq]
 rfl
theorem Qho (c : List Bool) (k : Nat) : cntB (c.take k) ≤ k := by
 have := Qkl (c.take k)
 rw [List.length_take] at this
 omega
theorem QvL {c : List Bool} {j : Nat} {v b : Bool} (h : c[j]? = some v) : rkB c b (j + 1) = rkB c b j + (bif v == b then 1 else 0) := by
 have := Qho c j
 unfold rkB
 rw [Qoj h]
 cases v <;> cases b <;> simp <;> omega
theorem QtG (n : Nat) (jj : List UInt8) (jb : Bool) (jd : List (List CV)) (jg : Int) (ja : Bool) (jf : List (List CV)) (je : Bool) (jh : List (List CV)) (jc : Int) (jn : Bool) (jv : List (List CV)) (jp : List UInt8) (jq jr jm : CV) (w6 yU : Int) (j8 jy : CV) (yZ : List CV) (yx w4 yP : CV) (wk : Int) (wZ : List (List CV)) (y5 : Bool) (y0 : List (List CV)) (y4 : Bool) (yY : List (List CV)) (yJ : Nat) (c : List Bool) (hc : c.length = jd.length) (hcl : c.length ≤ 1000000) (h44 : wZ = c.map bvE) (s : Sv) (hx : w4 = .int .i64 s.pe) (s0 : 0 ≤ s.pe) (s1 : s.pe < (c.length : Int)) (b : Bool) (hb : c[s.pe.toNat]? = some b) : ∀ (d j : Nat) (z : Int), z = (rkB c b j : Int) → j + d = s.pe.toNat → ∀ k, d < k →
  Qd5 lb n k jj jb jd jg ja jf je jh jc jn jv jp jq jr jm w6 yU j8 jy yZ yx w4 yP wk wZ y5 y0 y4 yY yJ z (j : Int) = QhG lb n jj jb jd jg ja jf je jh jc jn jv jp jq jr jm w6 yU j8 jy yZ yx w4 yP wk wZ y5 y0 y4 yY yJ (rkB c b s.pe.toNat : Int) ((s.pe.toNat : Nat) : Int)
 | 0, j, z, hzz, h, k, hk => by
  obtain ⟨k, rfl⟩ : ∃ i, k = i + 1 := ⟨k - 1, by omega⟩
  subst hzz
  have hj : j = s.pe.toNat := by omega
  subst h44; subst hx
  rw [QhA, hj]
  exact stO _ (Qas ..) (stF (decF (by omega)) rfl)
 | d + 1, j, z, hzz, h, k, hk => by
  obtain ⟨k, rfl⟩ : ∃ i, k = i + 1 := ⟨k - 1, by omega⟩
  subst hzz
  obtain ⟨v, hv⟩ : ∃ v, c[j]? = some v := ⟨_, List.getElem?_eq_getElem (by omega)⟩
  have hw : IntKind.wrap .i64 ((j : Int) + 1) = ((j + 1 : Nat) : Int) := by rw [Qaw (by omega) (by omega)]; omega
  have hct := Qho c j
  have hrk : rkB c b j ≤ j := by unfold rkB; cases b <;> simp <;> omega
  have wr : IntKind.wrap .i64 ((rkB c b j : Int) + 1) = ((rkB c b j + 1 : Nat) : Int) := by rw [Qaw (by omega) (by omega)]; omega
  have ih := QtG n jj jb jd jg ja jf je jh jc jn jv jp jq jr jm w6 yU j8 jy yZ yx w4 yP wk wZ y5 y0 y4 yY yJ c hc hcl h44 s hx s0 s1 b hb d (j + 1) _ rfl (by omega) k (by omega)
  rw [QvL hv] at ih
  subst h44; subst hx
  have g1 : (c.map bvE)[0 + ((j : Int)).toNat]? = some (bvE v) := by rw [Nat.zero_add, Int.toNat_natCast, List.getElem?_map, hv]; rfl
  have g2 : (c.map bvE)[0 + s.pe.toNat]? = some (bvE b) := by rw [Nat.zero_add, List.getElem?_map, hb]; rfl
  rw [QhA, hw, wr]
  refine stO _ (Qas ..) (stT (decT (by omega)) (stC (by simp; omega) (stO _ g1 (stO _ rfl (stO s.pe rfl (stC (by simp; omega) (stO _ g2 (stO _ rfl (stO _ (Qau _) (stO _ (Qau _) ?_))))))))))
  cases hvb : v == b with
  | true => rw [hvb] at ih; exact stT rfl ih
  | false => rw [hvb] at ih; exact stF rfl ih
theorem QtJ (n : Nat) (jj : List UInt8) (jb : Bool) (jd : List (List CV)) (jg : Int) (ja : Bool) (jf : List (List CV)) (je : Bool) (jh : List (List CV)) (jc : Int) (jn : Bool) (jv : List (List CV)) (jp : List UInt8) (jq jr jm : CV) (w6 : Int) (jy : CV) (wZ : List (List CV)) (at' : List Int) (c : List Bool) (hc : c.length = jd.length) (hcl : c.length ≤ 1000000) (h44 : wZ = c.map bvE) (svs : List Sv) (hs : svs.length ≤ 1000000) (h9 : jh = svs.map svE) (hv : ∀ s ∈ svs, 0 ≤ s.pe ∧ s.pe < (c.length : Int))
  (hcon : ∀ s ∈ svs, c[s.pe.toNat]? = some (at'.contains s.pe)) (hcnt : ∀ k : Nat, cntB (c.take k) = ltC at' (k : Int)) (hn : c.length < n) : ∀ (t p : List Sv), p ++ t = svs → ∀ k, t.length < k →
  QcM lb n k jj jb jd jg ja jf je jh jc jn jv jp jq jr jm w6 jy wZ (p.length : Int) (xSv at' p).isEmpty ((xSv at' p).map svE) (ySv at' p).isEmpty ((ySv at' p).map svE) = QhM lb n jj jb jd jg ja jf je jh jc jn jv jp jq jr jm w6 jy wZ (svs.length : Int) (xSv at' svs).isEmpty ((xSv at' svs).map svE) (ySv at' svs).isEmpty ((ySv at' svs).map svE)
 | [], p, h, k, hk => by
  obtain ⟨k, rfl⟩ : ∃ j, k = j + 1 := ⟨k - 1, by simp at hk; omega⟩
  have hp : p = svs := by simpa using h
  rw [Qhu, hp, h9]
  exact stF (decF (by simp)) rfl
 | s :: t, p, h, k, hk => by
  obtain ⟨k, rfl⟩ : ∃ j, k = j + 1 := ⟨k - 1, by simp at hk; omega⟩
  have hpl : p.length + (t.length + 1) = svs.length := by rw [← h]; simp
  have hw : IntKind.wrap .i64 ((p.length : Int) + 1) = ((p ++ [s]).length : Int) := by rw [Qaw (by omega) (by omega)]; simp
  have hat2 : atL (svs.map svE) (p.length : Int) = some (svE s) := Qbh (by rw [List.getElem?_map, ← h]; simp)
  have hmem : s ∈ svs := by rw [← h]; simp
  have ih := QtJ n jj jb jd jg ja jf je jh jc jn jv jp jq jr jm w6 jy wZ at' c hc hcl h44 svs hs h9 hv hcon hcnt hn t (p ++ [s]) (by rw [← h]; simp) k (by simp at hk; omega)
  rw [QmN, QmT] at ih
  obtain ⟨s0, s1⟩ := hv s hmem
  have hb := hcon s hmem
  have hz : ((s.pe.toNat : Nat) : Int) = s.pe := by omega
  have hct := hcnt s.pe.toNat
  rw [hz] at hct
  have hle := Qho c s.pe.toNat
  have hxl := QjV at' p
  have hyl := QjW at' p
  have emp : ∀ (l : List Sv) (z : Sv), (l.isEmpty && false) = (l ++ [z]).isEmpty := fun l z => by simp
  have row : ∀ (l : List Sv) (z : Sv), l.map svE ++ [[CV.str z.cd, CV.int .i64 z.pe, CV.int .i64 z.sg]] = (l ++ [z]).map svE := fun l z => by simp [svE]
  have g2 : (c.map bvE)[0 + s.pe.toNat]? = some (bvE (at'.contains s.pe)) := by rw [Nat.zero_add, List.getElem?_map, hb]; rfl
  subst h44; subst h9
  rw [Qhu]
  refine stT (decT (by simp; omega)) (stO _ hat2 (stC rfl (stO _ rfl (stO _ rfl (stO _ rfl (stO _ (Qas ..) (stF (decF (by omega)) (stO _ (Qas ..) (stF (decF (by simp; omega)) (stO s.pe rfl (stC (by simp; omega) (stO _ g2 (stO _ rfl ?_)))))))))))))
  have e0 : (0 : Int) = (rkB c (at'.contains s.pe) 0 : Int) := by unfold rkB; cases at'.contains s.pe <;> rfl
  refine (QtG lb _ _ _ _ _ _ _ _ _ _ _ _ _ _ _ _ _ _ _ _ _ _ _ _ _ _ _ _ _ _ _ c hc hcl rfl s rfl s0 s1 (at'.contains s.pe) hb s.pe.toNat 0 0 e0 (by omega) n (by omega)).trans ?_
  rw [Qn8]
  refine stO _ (Qau _) ?_
  cases hc2 : at'.contains s.pe with
  | true =>
   have e1 : xSv at' [s] = [] := by simp only [xSv, hc2, cond_true]
   have e2 : ySv at' [s] = [{ s with pe := (ltC at' s.pe : Int) }] := by simp only [ySv, hc2, cond_true]
   have e3 : (rkB c true s.pe.toNat : Int) = (ltC at' s.pe : Int) := by unfold rkB; rw [cond_true, hct]
   rw [e1, e2, List.append_nil, ← hw] at ih
   refine stT rfl (stC (Qb6 (by simp; omega)) ?_)
   rw [emp (ySv at' p) { s with pe := (ltC at' s.pe : Int) }, e3]
   have := row (ySv at' p) { s with pe := (ltC at' s.pe : Int) }
   simp only at this
   rw [this]
   exact ih
  | false =>
   have e1 : xSv at' [s] = [{ s with pe := s.pe - (ltC at' s.pe : Int) }] := by simp only [xSv, hc2, cond_false]
   have e2 : ySv at' [s] = [] := by simp only [ySv, hc2, cond_false]
   have e3 : (rkB c false s.pe.toNat : Int) = s.pe - (ltC at' s.pe : Int) := by unfold rkB; rw [cond_false]; omega
   rw [e1, e2, List.append_nil, ← hw] at ih
   refine stF rfl (stC (Qb6 (by simp; omega)) ?_)
   rw [emp (xSv at' p) { s with pe := s.pe - (ltC at' s.pe : Int) }, e3]
   have := row (xSv at' p) { s with pe := s.pe - (ltC at' s.pe : Int) }
   simp only at this
   rw [this]
   exact ih
theorem QtK (n : Nat) (jj : List UInt8) (jb : Bool) (jd : List (List CV)) (jg : Int) (ja : Bool) (jf : List (List CV)) (je : Bool) (jh : List (List CV)) (jc : Int) (jn : Bool) (jv : List (List CV)) (jp : List UInt8) (jq jr jm jy : CV) (at' : List Int) (hat : at'.length ≤ 1000000) (hb : jv = at'.map icv) (hv : ∀ i ∈ at', 0 ≤ i ∧ i < (jd.length : Int)) : ∀ (t p : List Int), p ++ t = at' → ∀ (tw : Bool) (c : List Bool), c.length = jd.length → ∀ k, t.length < k →
  Qdp lb n k jj jb jd jg ja jf je jh jc jn jv jp jq jr jm jy (p.length : Int) (c.map bvE) = (match Qbz jd.length t tw c with
   | none => none
   | some (_, c') => QhQ lb n jj jb jd jg ja jf je jh jc jn jv jp jq jr jm jy (at'.length : Int) (c'.map bvE))
 | [], p, h, tw, c, hc, k, hk => by
  obtain ⟨k, rfl⟩ : ∃ j, k = j + 1 := ⟨k - 1, by simp at hk; omega⟩
  have hp : p = at' := by simpa using h
  rw [QhD, hp, hb]
  exact stF (decF (by simp)) rfl
 | i :: t, p, h, tw, c, hc, k, hk => by
  obtain ⟨k, rfl⟩ : ∃ j, k = j + 1 := ⟨k - 1, by simp at hk; omega⟩
  have hpl : p.length + (t.length + 1) = at'.length := by rw [← h]; simp
  have hw : IntKind.wrap .i64 ((p.length : Int) + 1) = ((p ++ [i]).length : Int) := by rw [Qaw (by omega) (by omega)]; simp
  have ai : atL (at'.map icv) (p.length : Int) = some (icv i) := Qbh (by rw [List.getElem?_map, ← h]; simp)
  obtain ⟨i0, i1⟩ := hv i (by rw [← h]; simp)
  obtain ⟨b, hbb⟩ : ∃ b, c[i.toNat]? = some b := ⟨_, List.getElem?_eq_getElem (by omega)⟩
  have hget : (c.map bvE)[0 + i.toNat]? = some (bvE b) := by rw [Nat.zero_add, List.getElem?_map, hbb]; rfl
  have hset : setN (c.map bvE) (0 + i.toNat) (Qbv (bvE b) 0 [.bool true]) = (c.set i.toNat true).map bvE := by
   rw [Qi3, Nat.zero_add, List.map_set]; rfl
  have ih := QtK n jj jb jd jg ja jf je jh jc jn jv jp jq jr jm jy at' hat hb hv t (p ++ [i]) (by rw [← h]; simp) (tw || b) (c.set i.toNat true) (by simpa using hc) k (by simp at hk; omega)
  have hsc : Qbz jd.length (i :: t) tw c = Qbz jd.length t (tw || b) (c.set i.toNat true) := by
   show (if i < 0 ∨ i ≥ (jd.length : Int) then none else Qbz jd.length t (tw || (c[i.toNat]?).getD false) (c.set i.toNat true)) = _
   rw [if_neg (by omega), hbb]; rfl
  subst hb
  rw [QhD, hw, hsc]
  refine stT (decT (by simp; omega)) (stO _ ai (stC rfl (stO _ rfl (stO i rfl (stC (by simp; omega) (stO _ hget (stC rfl ?_)))))))
  rw [hset]
  exact ih
end Go.Proofs
set_option linter.unusedSimpArgs false
set_option linter.unusedVariables false
namespace Go.Proofs
open Go.Am
theorem Qn9 {α : Type} {f : Nat → α → List Fau} {P : α → Prop} (h : ∀ i x, f i x = [] ↔ P x) : ∀ (l : List α) (i : Nat), idxF f i l = [] ↔ ∀ x ∈ l, P x
 | [], i => by simp [idxF]
 | x :: l, i => by
  simp only [idxF, List.append_eq_nil_iff, Qn9 h l (i + 1), h i x, List.forall_mem_cons]
theorem Qjn (c : Bool) (e : Int) (s : Bs) : Qax c e s = [] ↔ c = false := by cases c <;> simp [Qax]
theorem Qv7 (i : Nat) (p : Pe) : perF i p = [] ↔ Qdb p = true ∧ QdM p = true := by
 unfold perF
 simp only [List.append_eq_nil_iff, Qjn, Bool.not_eq_false']
theorem QwS (np ns : Int) (i : Nat) (x : Sv) : svF np ns i x = [] ↔ Qa1 x.cd 4 4 = true ∧ Qek np ns x = false := by
 unfold svF
 simp only [List.append_eq_nil_iff, Qjn, Bool.not_eq_false']
theorem Qur (ps : List Pe) (g : Int) : QaG ps g = [] ↔ (∀ p ∈ ps, Qdb p = true ∧ QdM p = true) ∧ Qcf g = false ∧ QaL ps.length g = false ∧ QdB ps = false := by
 unfold QaG QfP
 simp only [List.append_eq_nil_iff, Qjn, Qn9 Qv7]
 constructor
 ·rintro ⟨h1, h2, h3, h4⟩
  rw [h2] at h3
  exact ⟨h1, h2, h3, h4⟩
 ·rintro ⟨h1, h2, h3, h4⟩
  refine ⟨h1, h2, ?_, h4⟩
  rw [h2]; exact h3
structure Right (loc : Bs) (ps : List Pe) (g : Int) (l : List Sg) (svs : List Sv) (lim : Int) : Prop where
 loc : Qa1 loc 6 6 = true
 lim : Qfi lim = false
 pe : ∀ p ∈ ps, Qdb p = true ∧ QdM p = true
 grp : Qcf g = false
 size : QaL ps.length g = false
 alone : QdB ps = false
 segs : decide ((l.length : Int) > 24) = false
 mar : (marE (mars l) != 0) = false
 seg : idxF segF 0 l = []
 sv : ∀ x ∈ svs, Qa1 x.cd 4 4 = true ∧ Qek ps.length l.length x = false
theorem Qi9 (loc : Bs) (ps : List Pe) (g : Int) (l : List Sg) (svs : List Sv) (lim : Int) : Qi4 loc ps g l svs lim = [] ↔ Right loc ps g l svs lim := by
 unfold Qi4
 simp only [List.append_eq_nil_iff, Qjn, Bool.not_eq_false', Qur, Qn9 (QwS ps.length l.length)]
 constructor
 ·rintro ⟨⟨⟨⟨⟨⟨h1, h2⟩, h3, h4, h5, h6⟩, h7⟩, h8⟩, h9⟩, h10⟩
  exact ⟨h1, h2, h3, h4, h5, h6, h7, h8, h9, h10⟩
 ·rintro ⟨h1, h2, h3, h4, h5, h6, h7, h8, h9, h10⟩
  exact ⟨⟨⟨⟨⟨⟨h1, h2⟩, h3, h4, h5, h6⟩, h7⟩, h8⟩, h9⟩, h10⟩
theorem Qg3 (v : Bool) : ∀ (c : List Bool) (l : List Pe) (x : Pe), x ∈ selB v c l → x ∈ l
 | [], l, x, h => by cases l <;> simp [selB] at h
 | _ :: _, [], x, h => by simp [selB] at h
 | b :: c, p :: l, x, h => by
  simp only [selB] at h
  cases hb : b == v with
  | true =>
   rw [hb] at h
   rcases List.mem_cons.1 h with rfl | h
   ·simp
   ·exact List.mem_cons_of_mem _ (Qg3 v c l x h)
  | false =>
   rw [hb] at h
   exact List.mem_cons_of_mem _ (Qg3 v c l x h)
structure Chosen (ps : List Pe) (at' : List Int) (c : List Bool) : Prop where
 len : c.length = ps.length
 rng : ∀ i ∈ at', 0 ≤ i ∧ i < (ps.length : Int)
 cnt : cntB c = at'.length
 take : ∀ k : Nat, cntB (c.take k) = ltC at' (k : Int)
 con : ∀ j : Nat, j < ps.length → c[j]? = some (at'.contains (j : Int))
 ne : at' ≠ []
theorem Qok {ps : List Pe} {at' : List Int} {M R : List Pe} (h : QcS ps at' = (0, M, R)) : ∃ c, Qbz ps.length at' false (List.replicate ps.length false) = some (false, c) ∧ Chosen ps at' c ∧ M = selB true c ps ∧ R = selB false c ps ∧ QdB M = false ∧ QdB R = false := by
 have hl0 : (List.replicate ps.length false).length = ps.length := by simp
 unfold QcS at h
 cases hs : Qbz ps.length at' false (List.replicate ps.length false) with
 | none => rw [hs] at h; simp at h
 | some r =>
  obtain ⟨tw, c⟩ := r
  rw [hs] at h
  simp only at h
  cases htw : tw with
  | true => rw [htw] at h; simp at h
  | false =>
   subst htw
   have sc := Qj1 _ _ _ _ _ _ hl0 hs
   rw [cond_false] at h
   cases he : at'.isEmpty with
   | true => rw [he] at h; simp at h
   | false =>
    rw [he, cond_false] at h
    cases h1 : QdB (selB true c ps) with
    | true => rw [h1] at h; simp at h
    | false =>
     rw [h1, cond_false] at h
     cases h2 : QdB (selB false c ps) with
     | true => rw [h2] at h; simp at h
     | false =>
      rw [h2, cond_false] at h
      simp only [Prod.mk.injEq, true_and] at h
      obtain ⟨rfl, rfl⟩ := h
      have hcl : c.length = ps.length := by rw [sc.len]; exact hl0
      refine ⟨c, rfl, ⟨hcl, sc.rng, ?_, fun k => ?_, fun j hj => ?_, fun h => by rw [h] at he; cases he⟩, rfl, rfl, h1, h2⟩
      ·rw [sc.cnt rfl, QmG, Nat.zero_add]
      ·rw [Qqp _ _ _ _ _ hl0 hs k, QrZ, Nat.zero_add]
      ·obtain ⟨b, hb⟩ : ∃ b, c[j]? = some b := ⟨_, List.getElem?_eq_getElem (by omega)⟩
       rw [hb]
       have hm := sc.mem j
       rw [hb] at hm
       have hr : (List.replicate ps.length false)[j]? = some false := by rw [List.getElem?_replicate]; simp [hj]
       rw [hr] at hm
       simp only [Option.some.injEq, Bool.false_eq_true, false_or, hl0, hj, true_and] at hm
       cases b with
       | true => rw [List.contains_iff_mem.2 (hm.1 rfl)]
       | false =>
        cases hq : at'.contains (j : Int) with
        | true => exact absurd (hm.2 (List.contains_iff_mem.1 hq)) (by simp)
        | false => rfl
theorem QmO (at' : List Int) : ∀ (l : List Sv) (x : Sv), x ∈ xSv at' l → ∃ s ∈ l, at'.contains s.pe = false ∧ x = { s with pe := s.pe - (ltC at' s.pe : Int) }
 | [], x, h => by simp [xSv] at h
 | s :: l, x, h => by
  simp only [xSv] at h
  cases hc : at'.contains s.pe with
  | true =>
   rw [hc] at h
   obtain ⟨s', h1, h2⟩ := QmO at' l x h
   exact ⟨s', by simp [h1], h2⟩
  | false =>
   rw [hc] at h
   rcases List.mem_cons.1 h with rfl | h
   ·exact ⟨s, by simp, hc, rfl⟩
   ·obtain ⟨s', h1, h2⟩ := QmO at' l x h
    exact ⟨s', by simp [h1], h2⟩
theorem QmI (at' : List Int) : ∀ (l : List Sv) (x : Sv), x ∈ ySv at' l → ∃ s ∈ l, at'.contains s.pe = true ∧ x = { s with pe := (ltC at' s.pe : Int) }
 | [], x, h => by simp [ySv] at h
 | s :: l, x, h => by
  simp only [ySv] at h
  cases hc : at'.contains s.pe with
  | false =>
   rw [hc] at h
   obtain ⟨s', h1, h2⟩ := QmI at' l x h
   exact ⟨s', by simp [h1], h2⟩
  | true =>
   rw [hc] at h
   rcases List.mem_cons.1 h with rfl | h
   ·exact ⟨s, by simp, hc, rfl⟩
   ·obtain ⟨s', h1, h2⟩ := QmI at' l x h
    exact ⟨s', by simp [h1], h2⟩
theorem QiY {np ns : Int} {x : Sv} : Qek np ns x = false ↔ 0 ≤ x.pe ∧ x.pe < np ∧ 0 ≤ x.sg ∧ x.sg < ns := by
 unfold Qek
 simp only [Bool.or_eq_false_iff, decide_eq_false_iff_not]
 omega
theorem Qw8 {ps : List Pe} {at' : List Int} {c : List Bool} (h : Chosen ps at' c) {k : Nat} (hk : k < ps.length) (hc : at'.contains (k : Int) = false) : ltC at' (k : Int) ≤ k ∧ k - ltC at' (k : Int) < ps.length - at'.length := by
 have h1 := h.take k
 have h2 := Qho c k
 have h3 := h.con k hk
 rw [hc] at h3
 have h4 := Qoj h3
 have h5 : cntB c = cntB (c.take (k + 1)) + cntB (c.drop (k + 1)) := by rw [← Qkq, List.take_append_drop]
 have h6 := Qkl (c.drop (k + 1))
 rw [List.length_drop, h.len] at h6
 have h7 := h.cnt
 simp only [cond_false] at h4
 omega
theorem QyI {ps : List Pe} {at' : List Int} {c : List Bool} (h : Chosen ps at' c) {k : Nat} (hk : k < ps.length) (hc : at'.contains (k : Int) = true) : ltC at' (k : Int) < at'.length := by
 have h1 := h.take k
 have h3 := h.con k hk
 rw [hc] at h3
 have h4 := Qoj h3
 have h5 : cntB c = cntB (c.take (k + 1)) + cntB (c.drop (k + 1)) := by rw [← Qkq, List.take_append_drop]
 have h7 := h.cnt
 simp only [cond_true] at h4
 omega
theorem Qtp {b : Bk} {at' : List Int} {name : Bs} {M R : List Pe} (hb : Qja b = []) (hq : QcS b.ps at' = (0, M, R)) (hd : divE b at' name = 0) (f1 f2 : Bool) : Qja (Qgo b at' f1 R) = [] ∧ Qja (goB b at' name f2 M) = [] := by
 have hr := (Qi9 ..).1 hb
 obtain ⟨c, hs, hch, hM, hR, hA1, hA2⟩ := Qok hq
 obtain ⟨l1, l2⟩ := QeO c b.ps hch.len
 rw [hch.cnt] at l1
 rw [← hM] at l1 l2
 rw [← hR] at l2
 have hatp := List.length_pos_iff.2 hch.ne
 have hE : (bif R.isEmpty && b.grp == 0 then (2 : Int) else bif decide (M.length > 9) then 4 else bif !Qa1 name 6 6 then 5 else bif name == b.loc then 6 else 0) = 0 := by
  have := hd
  unfold divE at this
  rw [hq] at this
  exact this
 have hg := hr.grp
 simp only [Qcf, Bool.or_eq_false_iff, decide_eq_false_iff_not] at hg
 have hsz := hr.size
 simp only [QaL, Bool.or_eq_false_iff, Bool.and_eq_false_iff, decide_eq_false_iff_not, beq_eq_false_iff_ne] at hsz
 cases h1 : (R.isEmpty && b.grp == 0) with
 | true => rw [h1] at hE; simp at hE
 | false =>
 rw [h1, cond_false] at hE
 cases h2 : decide (M.length > 9) with
 | true => rw [h2] at hE; simp at hE
 | false =>
 rw [h2, cond_false] at hE
 cases h3 : Qa1 name 6 6 with
 | false => rw [h3] at hE; simp at hE
 | true =>
 simp only [decide_eq_false_iff_not] at h2
 have hRg : b.grp = 0 → 0 < R.length := fun h => by
  rw [beqT h] at h1
  simp only [Bool.and_true] at h1
  exact List.length_pos_iff.2 fun e => by rw [e] at h1; cases h1
 refine ⟨(Qi9 ..).2 ⟨hr.loc, hr.lim, fun p hp => hr.pe p ?_, hr.grp, ?_, hA2, hr.segs, hr.mar, hr.seg, fun x hx => ?_⟩,
  (Qi9 ..).2 ⟨h3, hr.lim, fun p hp => hr.pe p ?_, rfl, ?_, hA1, hr.segs, hr.mar, hr.seg, fun x hx => ?_⟩⟩
 ·have hp : p ∈ R := hp
  rw [hR] at hp; exact Qg3 _ _ _ _ hp
 ·show QaL (R.length : Nat) b.grp = false
  simp only [QaL, Bool.or_eq_false_iff, Bool.and_eq_false_iff, decide_eq_false_iff_not, beq_eq_false_iff_ne]
  by_cases h0 : b.grp = 0
  ·have := hRg h0
   refine ⟨by omega, .inr ?_, by omega⟩
   rcases hsz.2.1 with q | q
   ·exact absurd h0 q
   ·omega
  ·exact ⟨by omega, .inl h0, by omega⟩
 ·obtain ⟨s, hs1, hs2, rfl⟩ := QmO at' b.svs x hx
  obtain ⟨q1, q2⟩ := hr.sv s hs1
  rw [QiY] at q2
  refine ⟨q1, QiY.2 ?_⟩
  have ez : ((s.pe.toNat : Nat) : Int) = s.pe := by omega
  have := Qw8 hch (k := s.pe.toNat) (by omega) (by rw [ez]; exact hs2)
  rw [ez] at this
  show 0 ≤ s.pe - (ltC at' s.pe : Int) ∧ s.pe - (ltC at' s.pe : Int) < ((R.length : Nat) : Int) ∧ 0 ≤ s.sg ∧ s.sg < ((b.segs.length : Nat) : Int)
  omega
 ·have hp : p ∈ M := hp
  rw [hM] at hp; exact Qg3 _ _ _ _ hp
 ·show QaL (M.length : Nat) 0 = false
  simp only [QaL, Bool.or_eq_false_iff, Bool.and_eq_false_iff, decide_eq_false_iff_not, beq_eq_false_iff_ne]
  exact ⟨by omega, .inr (by omega), by omega⟩
 ·obtain ⟨s, hs1, hs2, rfl⟩ := QmI at' b.svs x hx
  obtain ⟨q1, q2⟩ := hr.sv s hs1
  rw [QiY] at q2
  refine ⟨q1, QiY.2 ?_⟩
  have ez : ((s.pe.toNat : Nat) : Int) = s.pe := by omega
  have := QyI hch (k := s.pe.toNat) (by omega) (by rw [ez]; exact hs2)
  rw [ez] at this
  show 0 ≤ (ltC at' s.pe : Int) ∧ (ltC at' s.pe : Int) < ((M.length : Nat) : Int) ∧ 0 ≤ s.sg ∧ s.sg < ((b.segs.length : Nat) : Int)
  omega
theorem QdD : ∀ (l : List Pe) (n : Int), QbT n l = n + QbT 0 l
 | [], n => by simp [QbT]
 | p :: l, n => by
  simp only [QbT]
  rw [QdD l (n + _), QdD l (0 + _)]
  omega
theorem QoU : ∀ (c : List Bool) (l : List Pe), c.length = l.length → QbT 0 (selB true c l) + QbT 0 (selB false c l) = QbT 0 l
 | [], [], _ => rfl
 | [], _ :: _, h => by simp at h
 | _ :: _, [], h => by simp at h
 | b :: c, p :: l, h => by
  have ih := QoU c l (by simpa using h)
  cases b with
  | false =>
   have e1 : selB true (false :: c) (p :: l) = selB true c l := rfl
   have e2 : selB false (false :: c) (p :: l) = p :: selB false c l := rfl
   rw [e1, e2]
   simp only [QbT]
   rw [QdD (selB false c l), QdD l]
   omega
  | true =>
   have e1 : selB true (true :: c) (p :: l) = p :: selB true c l := rfl
   have e2 : selB false (true :: c) (p :: l) = selB false c l := rfl
   rw [e1, e2]
   simp only [QbT]
   rw [QdD (selB true c l), QdD l]
   omega
theorem QqA : ∀ (l : List Pe) (n : Int), n ≤ QbT n l ∧ QbT n l ≤ n + l.length
 | [], n => by simp [QbT]
 | p :: l, n => by
  have := QqA l (n + (bif infB p then 0 else 1))
  simp only [QbT, List.length_cons]
  have hc : (0 : Int) ≤ (bif infB p then 0 else 1) ∧ (bif infB p then (0 : Int) else 1) ≤ 1 := by cases infB p <;> simp
  omega
end Go.Proofs
set_option linter.unusedSimpArgs false
set_option linter.unusedVariables false
namespace Go.Proofs
open Go.Am
theorem Qnn (a : Bk) (p1 b1 r1 : Bool) : Qjm a { a with pn := p1, bn := b1, rn := r1 } = true := by
 simp [Qjm, Qd3 QsP, Qd3 QrP, Qd3 Qsz]
theorem Qs9 (b : Bk) (bn : Bool) (at' : List Int) (name : Bs) (hps : b.ps.length ≤ 100000) (hat : at'.length ≤ 100000) (hsv : b.svs.length ≤ 100000) (hv : ∀ s ∈ b.svs, 0 ≤ s.pe ∧ s.pe < (b.ps.length : Int)) (hname : name.length ≤ 281474976710656) :
  ∃ f1 f2, Ret 1 Qaj [.agg (bkE b), .list bn (at'.map icv), .str name] (divV b at' name f1 f2) := by
 have hS := Qt2 1 b.pn bn b.ps at' (by omega) (by omega)
 have hL := QnN 1 name hname
 have eqn : ∀ n, top 1 n Qaj [.agg (bkE b), .list bn (at'.map icv), .str name] = _ := fun n => Qrh 1 n b.loc b.pn (b.ps.map peE) b.grp b.bn (b.segs.map sgE) b.rn (b.svs.map svE) b.lim bn (at'.map icv) name
 unfold divV
 obtain ⟨⟨e, M, R⟩, hq⟩ : ∃ q, QcS b.ps at' = q := ⟨_, rfl⟩
 refine ⟨R.isEmpty, M.isEmpty, ?_⟩
 have hE : divE b at' name = bif e != 0 then e else bif R.isEmpty && b.grp == 0 then 2 else bif decide (M.length > 9) then 4 else bif !Qa1 name 6 6 then 5 else bif name == b.loc then 6 else 0 := by unfold divE; rw [hq]
 rw [hq] at hS
 rw [hE]
 by_cases he : ¬ e = 0
 ·rw [bneT he]
  simp only [cond_true]
  rw [if_neg he]
  have hvv : QlU (e, M, R) = errS e := by unfold QlU; rw [if_neg he]
  rw [hvv] at hS
  exact .top rfl (hS.mono fun n c => by rw [eqn]; exact stO _ c (stO _ rfl (stO _ rfl (stO _ rfl (stO _ rfl (stO _ rfl (stO _ rfl (stO _ (Qas ..) (stT (bneT he) rfl)))))))))
 have he : e = 0 := Classical.not_not.1 he
 subst he
 have hvv : QlU (0, M, R) = .tup [.list M.isEmpty (M.map peE), .list R.isEmpty (R.map peE), .int .i64 0] := by unfold QlU; rw [if_pos rfl]
 rw [hvv] at hS
 have hSL := Evt.imp2 hS hL fun n x y => And.intro x y
 obtain ⟨c, hsc, hch, hM, hR, _, _⟩ := Qok hq
 have fin : ∀ n, 1000000 < n → (chkO (decide (0 ≤ (((b.ps.map peE).length : Int) : Int)) && decide ((((b.ps.map peE).length : Int) : Int) ≤ (((b.ps.map peE).length : Int) : Int)) && decide ((((b.ps.map peE).length : Int) : Int) * 1 ≤ 140737488355328) && decide ((((b.ps.map peE).length : Int) : Int) ≤ 140737488355328)) (
   chkO (decide ((((b.ps.map peE).length : Int) : Int) = ((b.ps.map peE).length : Int))) (
   Qdp 1 n n b.loc b.pn (b.ps.map peE) b.grp b.bn (b.segs.map sgE) b.rn (b.svs.map svE) b.lim bn (at'.map icv) name (.list M.isEmpty (M.map peE)) (.list R.isEmpty (R.map peE)) (.int .i64 0) (.tup [.list M.isEmpty (M.map peE), .list R.isEmpty (R.map peE), .int .i64 0]) 0 (List.replicate ((b.ps.map peE).length : Int).toNat [.bool false])))) = some (.tup [.agg (bkE (Qgo b at' R.isEmpty R)), .agg (bkE (goB b at' name M.isEmpty M)), .int .i64 0]) := fun n hn => by
  refine stC (by simp; omega) (stC (by simp) ?_)
  have hlm : (b.ps.map peE).length = b.ps.length := by simp
  have h1 := QtK 1 n b.loc b.pn (b.ps.map peE) b.grp b.bn (b.segs.map sgE) b.rn (b.svs.map svE) b.lim bn (at'.map icv) name (.list M.isEmpty (M.map peE)) (.list R.isEmpty (R.map peE)) (.int .i64 0) (.tup [.list M.isEmpty (M.map peE), .list R.isEmpty (R.map peE), .int .i64 0]) at' (by omega) rfl (by rw [hlm]; exact hch.rng) at' [] rfl false (List.replicate b.ps.length false) (by simp) n (by omega)
  rw [hlm, hsc, QmM] at h1
  simp only [hlm, Int.toNat_natCast]
  refine h1.trans ?_
  dsimp only
  rw [Qoo]
  refine stC rfl (stC rfl ?_)
  have h3 := QtJ 1 n b.loc b.pn (b.ps.map peE) b.grp b.bn (b.segs.map sgE) b.rn (b.svs.map svE) b.lim bn (at'.map icv) name (.list M.isEmpty (M.map peE)) (.list R.isEmpty (R.map peE)) (.int .i64 0) (at'.length : Int) (.tup [.list M.isEmpty (M.map peE), .list R.isEmpty (R.map peE), .int .i64 0]) (c.map bvE) at' c (by rw [hlm]; exact hch.len) (by rw [hch.len]; omega) rfl b.svs (by omega) rfl (fun s hs => by rw [hch.len]; exact hv s hs)
   (fun s hs => by
    obtain ⟨q0, q1⟩ := hv s hs
    have := hch.con s.pe.toNat (by omega)
    rwa [show ((s.pe.toNat : Nat) : Int) = s.pe by omega] at this) hch.take (by rw [hch.len]; omega) b.svs [] rfl n (by omega)
  refine h3.trans ?_
  rw [Qob]; rfl
 have hSLn := Evt.imp2 hSL (Evt.ge 1000001) fun n x y => And.intro x y
 rw [show ((0 : Int) != 0) = false from rfl]
 simp only [cond_false]
 cases hRe : R.isEmpty with
 | true =>
  have hR0 : R = [] := List.isEmpty_iff.1 hRe
  rw [hRe] at hS hSL hSLn fin
  by_cases hg : b.grp = 0
  ·rw [beqT hg]
   simp only [Bool.and_self, cond_true]
   rw [if_neg (by decide)]
   exact .top rfl (hS.mono fun n c => by rw [eqn]; exact stO _ c (stO _ rfl (stO _ rfl (stO _ rfl (stO _ rfl (stO _ rfl (stO _ rfl (stO _ (Qas ..) (stF rfl (stO _ rfl (stT (beqT (by simp [hR0])) (stT (beqT hg) rfl))))))))))))
  rw [beqF hg]
  simp only [Bool.and_false, cond_false]
  by_cases h9 : M.length > 9
  ·rw [decT h9]
   simp only [cond_true]
   rw [if_neg (by decide)]
   exact .top rfl (hS.mono fun n c => by rw [eqn]; exact stO _ c (stO _ rfl (stO _ rfl (stO _ rfl (stO _ rfl (stO _ rfl (stO _ rfl (stO _ (Qas ..) (stF rfl (stO _ rfl (stT (beqT (by simp [hR0])) (stF (beqF hg) (stO _ rfl (stT (decT (by simp; omega)) rfl))))))))))))))
  rw [decF h9]
  simp only [cond_false]
  cases hc : Qa1 name 6 6 with
  | false =>
   rw [hc] at hSL
   simp only [Bool.not_false, cond_true]
   rw [if_neg (by decide)]
   exact .top rfl (hSL.mono fun n ⟨c, d⟩ => by rw [eqn]; exact stO _ c (stO _ rfl (stO _ rfl (stO _ rfl (stO _ rfl (stO _ rfl (stO _ rfl (stO _ (Qas ..) (stF rfl (stO _ rfl (stT (beqT (by simp [hR0])) (stF (beqF hg) (stO _ rfl (stF (decF (by simp; omega)) (stO _ d (stO _ (Qau _) (stT rfl rfl)))))))))))))))))
  | true =>
   rw [hc] at hSL hSLn
   simp only [Bool.not_true, cond_false]
   cases hl : name == b.loc with
   | true =>
    simp only [cond_true]
    rw [if_neg (by decide)]
    exact .top rfl (hSL.mono fun n ⟨c, d⟩ => by rw [eqn]; exact stO _ c (stO _ rfl (stO _ rfl (stO _ rfl (stO _ rfl (stO _ rfl (stO _ rfl (stO _ (Qas ..) (stF rfl (stO _ rfl (stT (beqT (by simp [hR0])) (stF (beqF hg) (stO _ rfl (stF (decF (by simp; omega)) (stO _ d (stO _ (Qau _) (stF rfl (stT hl rfl))))))))))))))))))
   | false =>
    simp only [cond_false]
    rw [if_pos trivial, hq]
    refine .top rfl (hSLn.mono fun n ⟨⟨c, d⟩, hn⟩ => ?_)
    rw [eqn]
    exact stO _ c (stO _ rfl (stO _ rfl (stO _ rfl (stO _ rfl (stO _ rfl (stO _ rfl (stO _ (Qas ..) (stF rfl (stO _ rfl (stT (beqT (by simp [hR0])) (stF (beqF hg) (stO _ rfl (stF (decF (by simp; omega)) (stO _ d (stO _ (Qau _) (stF rfl (stF hl (fin n (by omega)))))))))))))))))))
 | false =>
  have hR0 : R ≠ [] := fun h => by rw [h] at hRe; cases hRe
  have hne : (((R.map peE).length : Nat) : Int) ≠ 0 := by
   rw [List.length_map]
   have := List.length_pos_iff.2 hR0
   omega
  rw [hRe] at hS hSL hSLn fin
  simp only [Bool.false_and, cond_false]
  by_cases h9 : M.length > 9
  ·rw [decT h9]
   simp only [cond_true]
   rw [if_neg (by decide)]
   exact .top rfl (hS.mono fun n c => by rw [eqn]; exact stO _ c (stO _ rfl (stO _ rfl (stO _ rfl (stO _ rfl (stO _ rfl (stO _ rfl (stO _ (Qas ..) (stF rfl (stO _ rfl (stF (beqF hne) (stO _ rfl (stT (decT (by simp; omega)) rfl)))))))))))))
  rw [decF h9]
  simp only [cond_false]
  cases hc : Qa1 name 6 6 with
  | false =>
   rw [hc] at hSL
   simp only [Bool.not_false, cond_true]
   rw [if_neg (by decide)]
   exact .top rfl (hSL.mono fun n ⟨c, d⟩ => by rw [eqn]; exact stO _ c (stO _ rfl (stO _ rfl (stO _ rfl (stO _ rfl (stO _ rfl (stO _ rfl (stO _ (Qas ..) (stF rfl (stO _ rfl (stF (beqF hne) (stO _ rfl (stF (decF (by simp; omega)) (stO _ d (stO _ (Qau _) (stT rfl rfl))))))))))))))))
  | true =>
   rw [hc] at hSL hSLn
   simp only [Bool.not_true, cond_false]
   cases hl : name == b.loc with
   | true =>
    simp only [cond_true]
    rw [if_neg (by decide)]
    exact .top rfl (hSL.mono fun n ⟨c, d⟩ => by rw [eqn]; exact stO _ c (stO _ rfl (stO _ rfl (stO _ rfl (stO _ rfl (stO _ rfl (stO _ rfl (stO _ (Qas ..) (stF rfl (stO _ rfl (stF (beqF hne) (stO _ rfl (stF (decF (by simp; omega)) (stO _ d (stO _ (Qau _) (stF rfl (stT hl rfl)))))))))))))))))
   | false =>
    simp only [cond_false]
    rw [if_pos trivial, hq]
    refine .top rfl (hSLn.mono fun n ⟨⟨c, d⟩, hn⟩ => ?_)
    rw [eqn]
    exact stO _ c (stO _ rfl (stO _ rfl (stO _ rfl (stO _ rfl (stO _ rfl (stO _ rfl (stO _ (Qas ..) (stF rfl (stO _ rfl (stF (beqF hne) (stO _ rfl (stF (decF (by simp; omega)) (stO _ d (stO _ (Qau _) (stF rfl (stF hl (fin n (by omega))))))))))))))))))
theorem Qvh : Ret 1 QaC [.agg (bkE noBk), .agg (bkE noBk)] (.bool true) := by
 have := QiS 1 noBk noBk (by decide) (by decide) (by decide)
 rwa [Qt7] at this
theorem Qnb (b : Bk) (bn : Bool) (at' : List Int) (name : Bs) (hname : name.length ≤ 281474976710656) : Ret 1 QdZ [.agg (bkE b), .list bn (at'.map icv), .str name] (.bool true) := by
 have hA := Que
 have hS := QuW 1 b
 have eqn : ∀ n, top 1 n QdZ [.agg (bkE b), .list bn (at'.map icv), .str name] = _ := fun n => Qkt 1 n b.loc b.pn (b.ps.map peE) b.grp b.bn (b.segs.map sgE) b.rn (b.svs.map svE) b.lim bn (at'.map icv) name
 cases hb : Ql5 b with
 | false =>
  rw [hb] at hS
  exact .top rfl (Evt.imp2 hA hS fun n h c => by rw [eqn]; exact stO _ c (stO _ (Qau _) (stT rfl (stO _ h rfl))))
 | true =>
 rw [hb] at hS
 have ok := Qwi hb
 have hAS := Evt.imp2 hA hS fun n x y => And.intro x y
 by_cases h60 : at'.length > 60
 ·exact .top rfl (hAS.mono fun n ⟨h, c⟩ => by rw [eqn]; exact stO _ c (stO _ (Qau _) (stF rfl (stT (decT (by simp; omega)) (stO _ h rfl)))))
 have hR := (QrQ 1 ok).2
 cases hk : Qja b with
 | cons f r =>
  rw [hk] at hR
  exact .top rfl (Evt.imp2 hAS hR fun n ⟨h, c⟩ d => by rw [eqn]; exact stO _ c (stO _ (Qau _) (stF rfl (stF (decF (by simp; omega)) (stO _ d (stO _ rfl (stT (decT (by simp)) (stO _ h rfl))))))))
 | nil =>
  rw [hk] at hR
  have hr := (Qi9 ..).1 hk
  have z1 := ok.ps
  have z2 := ok.segs
  have z3 := ok.svs
  have z4 := ok.loc
  have hv : ∀ s ∈ b.svs, 0 ≤ s.pe ∧ s.pe < (b.ps.length : Int) := fun s hs => by
   have := QiY.1 (hr.sv s hs).2
   exact ⟨this.1, this.2.1⟩
  have hlt : ∀ k : Int, ltC at' k ≤ 60 := fun k => by have := Qsm at' k; omega
  have d1 := Quz 1 b bn at' name (by omega) (by omega) (by omega) (fun s hs => by have := hv s hs; have := hlt s.pe; omega) hname
  obtain ⟨f1, f2, d2⟩ := Qs9 b bn at' name (by omega) (by omega) (by omega) hv hname
  have hASR := Evt.imp2 hAS hR fun n x y => And.intro x y
  by_cases he : ¬ divE b at' name = 0
  ·unfold divV at d1 d2
   rw [if_neg he] at d1 d2
   refine .top rfl (Evt.imp2 hASR (Evt.imp2 (Evt.imp2 d1 d2 fun n x y => And.intro x y) (Evt.imp2 Qvh Qvh fun n x y => And.intro x y) fun n x y => And.intro x y) fun n ⟨⟨h, c⟩, d⟩ ⟨⟨r1, r2⟩, s1, s2⟩ => ?_)
   rw [eqn]
   exact stO _ c (stO _ (Qau _) (stF rfl (stF (decF (by simp; omega)) (stO _ d (stO _ rfl (stF rfl (stO _ r1 (stO _ rfl (stO _ rfl (stO _ rfl (stO _ rfl (stO _ rfl (stO _ rfl (stO _ rfl (stC rfl (stO _ rfl (stO _ rfl (stO _ rfl (stO _ rfl (stO _ rfl (stO _ rfl (stO _ rfl (stC rfl (stO _ rfl (stO _ rfl (stO _ rfl (stO _ rfl (stO _ rfl (stO _ rfl (stO _ r2 (stO _ rfl (stO _ rfl (stO _ rfl (stO _ rfl (stO _ rfl (stO _ rfl (stO _ rfl (stC rfl (stO _ rfl (stO _ rfl (stO _ rfl (stO _ rfl (stO _ rfl (stO _ rfl (stO _ rfl (stC rfl (stO _ rfl (stO _ rfl (stO _ rfl (stO _ rfl (stO _ rfl (stO _ rfl (stO _ s1 (stO _ (Qau _) (stF rfl (stO _ s2 (stO _ (Qau _) (stF rfl (stO _ (Qas ..) (stO _ (Qas ..) (stF (bneF rfl) (stO _ (Qas ..) (stT (bneT he) (stO _ h (rfl)))))))))))))))))))))))))))))))))))))))))))))))))))))))))))))))))
  ·have he : divE b at' name = 0 := Classical.not_not.1 he
   obtain ⟨⟨e, M, R⟩, hq⟩ : ∃ q, QcS b.ps at' = q := ⟨_, rfl⟩
   have he0 : e = 0 := by
    have := he
    unfold divE at this
    rw [hq] at this
    by_cases hz : e = 0
    ·exact hz
    ·rw [bneT hz] at this; simp at this; exact this
   subst he0
   unfold divV at d1 d2
   rw [if_pos he, hq] at d1 d2
   obtain ⟨p1, p2⟩ := Qtp hk hq he false false
   obtain ⟨c, hsc, hch, hM, hR2, _, _⟩ := Qok hq
   obtain ⟨l1, l2⟩ := QeO c b.ps hch.len
   rw [← hM] at l1 l2
   rw [← hR2] at l2
   have xl := QjV at' b.svs
   have yl := QjW at' b.svs
   have pR : ∀ p ∈ R, p ∈ b.ps := fun p hp => by rw [hR2] at hp; exact Qg3 _ _ _ _ hp
   have pM : ∀ p ∈ M, p ∈ b.ps := fun p hp => by rw [hM] at hp; exact Qg3 _ _ _ _ hp
   have s1 : Ret 1 QaC [.agg (bkE (Qgo b at' false R)), .agg (bkE (Qgo b at' f1 R))] (.bool true) := by
    have := QiS 1 (Qgo b at' false R) (Qgo b at' f1 R) (by show R.length ≤ 1000000; omega) (by show b.segs.length ≤ 1000000; omega) (by show (xSv at' b.svs).length ≤ 1000000; omega)
    rwa [show Qjm (Qgo b at' false R) (Qgo b at' f1 R) = true from Qnn (Qgo b at' false R) f1 b.bn (xSv at' b.svs).isEmpty] at this
   have s2 : Ret 1 QaC [.agg (bkE (goB b at' name false M)), .agg (bkE (goB b at' name f2 M))] (.bool true) := by
    have := QiS 1 (goB b at' name false M) (goB b at' name f2 M) (by show M.length ≤ 1000000; omega) (by show b.segs.length ≤ 1000000; omega) (by show (ySv at' b.svs).length ≤ 1000000; omega)
    rwa [show Qjm (goB b at' name false M) (goB b at' name f2 M) = true from Qnn (goB b at' name false M) f2 b.bn (ySv at' b.svs).isEmpty] at this
   have k1 := Qe9 1 b.loc false R b.grp b.bn b.segs (xSv at' b.svs).isEmpty (xSv at' b.svs) b.lim (by omega) (by omega) (fun p hp => by have := ok.pe p (pR p hp); exact ⟨by omega, by omega, by omega⟩) (by omega) (fun s hs => by have := ok.sg s hs; exact ⟨by omega, by omega, by omega⟩) (by omega) (fun x hx => by
    obtain ⟨s, hs, _, rfl⟩ := QmO at' b.svs x hx
    have := ok.sv s hs
    show s.cd.length ≤ 281474976710656; omega)
   have k2 := Qe9 1 name false M 0 b.bn b.segs (ySv at' b.svs).isEmpty (ySv at' b.svs) b.lim hname (by omega) (fun p hp => by have := ok.pe p (pM p hp); exact ⟨by omega, by omega, by omega⟩) (by omega) (fun s hs => by have := ok.sg s hs; exact ⟨by omega, by omega, by omega⟩) (by omega) (fun x hx => by
    obtain ⟨s, hs, _, rfl⟩ := QmI at' b.svs x hx
    have := ok.sv s hs
    show s.cd.length ≤ 281474976710656; omega)
   rw [show Qi4 b.loc R b.grp b.segs (xSv at' b.svs) b.lim = [] from p1] at k1
   rw [show Qi4 name M 0 b.segs (ySv at' b.svs) b.lim = [] from p2] at k2
   have t1 := Qfc 1 (Qgo b at' false R) (by show R.length ≤ 1000000; omega)
   have t2 := Qfc 1 (goB b at' name false M) (by show M.length ≤ 1000000; omega)
   have t3 := Qfc 1 b (by omega)
   have hsum : IntKind.wrap .i64 (QbT (grp0 b.grp) R + QbT (grp0 0) M) = QbT (grp0 b.grp) b.ps := by
    have g0 : grp0 0 = 0 := by decide
    have q1 := QdD R (grp0 b.grp)
    have q2 := QdD b.ps (grp0 b.grp)
    have q3 := QoU c b.ps hch.len
    rw [← hM, ← hR2] at q3
    have q4 := QqA b.ps (grp0 b.grp)
    have q5 := Qp1 b.grp
    rw [g0, Qaw (by omega) (by omega)]
    omega
   refine .top rfl (Evt.imp2 (Evt.imp2 hASR (Evt.imp2 d1 d2 fun n x y => And.intro x y) fun n x y => And.intro x y) (Evt.imp2 (Evt.imp2 s1 s2 fun n x y => And.intro x y) (Evt.imp2 (Evt.imp2 k1 k2 fun n x y => And.intro x y) (Evt.imp2 t1 (Evt.imp2 t2 t3 fun n x y => And.intro x y) fun n x y => And.intro x y) fun n x y => And.intro x y) fun n x y => And.intro x y) fun n ⟨⟨⟨h, c⟩, d⟩, r1, r2⟩ ⟨⟨s1, s2⟩, ⟨k1, k2⟩, t1, t2, t3⟩ => ?_)
   rw [eqn]
   exact stO _ c (stO _ (Qau _) (stF rfl (stF (decF (by simp; omega)) (stO _ d (stO _ rfl (stF rfl (stO _ r1 (stO _ rfl (stO _ rfl (stO _ rfl (stO _ rfl (stO _ rfl (stO _ rfl (stO _ rfl (stC rfl (stO _ rfl (stO _ rfl (stO _ rfl (stO _ rfl (stO _ rfl (stO _ rfl (stO _ rfl (stC rfl (stO _ rfl (stO _ rfl (stO _ rfl (stO _ rfl (stO _ rfl (stO _ rfl (stO _ r2 (stO _ rfl (stO _ rfl (stO _ rfl (stO _ rfl (stO _ rfl (stO _ rfl (stO _ rfl (stC rfl (stO _ rfl (stO _ rfl (stO _ rfl (stO _ rfl (stO _ rfl (stO _ rfl (stO _ rfl (stC rfl (stO _ rfl (stO _ rfl (stO _ rfl (stO _ rfl (stO _ rfl (stO _ rfl (stO _ s1 (stO _ (Qau _) (stF rfl (stO _ s2 (stO _ (Qau _) (stF rfl (stO _ (Qas ..) (stO _ (Qas ..) (stF (bneF rfl) (stO _ (Qas ..) (stF rfl (stO _ k1 (stO _ rfl (stT rfl (stO _ k2 (stO _ rfl (stT rfl (stO _ t1 (stO _ t2 (stO _ (Qas ..) (stO _ (Qas ..) (stO _ t3 (stO _ (Qas ..) (stT (beqT hsum) (stO _ h (rfl))))))))))))))))))))))))))))))))))))))))))))))))))))))))))))))))))))))))))))))
end Go.Proofs
