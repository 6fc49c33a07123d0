/- Chapter 24 on plain data: rules, how large they are, and that each is the same as itself. Conditions: as each says. -/
import Derived.Test.YtmpbijffaepkdaaGreatDoorCa
import Derived.Test.YtmpbijffaepkdaaGreatDoorHn
import Derived.Test.YtmpbijffaepkdaaGreatDoorHd
import Derived.Test.YtmpbijffaepkdaaGreatDoorGk
set_option linter.unusedVariables false
set_option linter.unusedSimpArgs false
set_option maxRecDepth 100000
namespace Go.Proofs
open Go.Am
variable (lb : Nat)
abbrev cdv (c : Cd) : CV := .agg [.int .i64 c.k, .list c.ln (c.l.map ccv), .int .i64 c.a, .int .i64 c.b, .int .i64 c.fr, .int .i64 c.to, .int .i64 c.days, .list c.tn (scv c.t)]
theorem QmZ {l : List Cd} {i : Nat} {x : Cd} (h : l[i]? = some x) : atL (l.map ccv) (i : Int) = some [.int .i64 x.k, .list x.ln (x.l.map ccv), .int .i64 x.a, .int .i64 x.b, .int .i64 x.fr, .int .i64 x.to, .int .i64 x.days, .list x.tn (scv x.t)] := by
 rw [← QjE]
 exact Qfl (by simp [h])
theorem QmE : ∀ c : Cd, Fits c → ∀ x ∈ c.l, Fits x := fun c h => ((QgJ c).1 h).2.1
theorem Qmd {t : List Bs} {i : Nat} {s : Bs} (h : t[i]? = some s) : atL (scv t) (i : Int) = some [.str s] := Qfl (by simp [scv, h])
structure Ru where
 num : Int
 w : Cd
 cn : Bool
 com : List Int
 mn : Int
 mx : Int
 cf : Int
 rf : Int
 pn : Bool
 pc : List (Bs × Int)
abbrev QfN (l : List Int) : List (List CV) := l.map fun z => [CV.int .i64 z]
abbrev pcs (l : List (Bs × Int)) : List (List CV) := l.map fun p => [CV.str p.1, CV.int .i64 p.2]
abbrev ruc (r : Ru) : List CV := [.int .i64 r.num, .int .i64 r.w.k, .list r.w.ln (r.w.l.map ccv), .int .i64 r.w.a, .int .i64 r.w.b, .int .i64 r.w.fr, .int .i64 r.w.to, .int .i64 r.w.days, .list r.w.tn (scv r.w.t),
 .list r.cn (QfN r.com), .int .i64 r.mn, .int .i64 r.mx, .int .i64 r.cf, .int .i64 r.rf, .list r.pn (pcs r.pc)]
abbrev ruv (r : Ru) : CV := .agg (ruc r)
def Qia (r : Ru) : Prop := Fits r.w ∧ r.com.length ≤ 281474976710656 ∧ r.pc.length ≤ 281474976710656
theorem QnG {l : List Int} {i : Nat} {z : Int} (h : l[i]? = some z) : atL (QfN l) (i : Int) = some [.int .i64 z] := Qfl (by simp [h])
theorem Qn3 {l : List (Bs × Int)} {i : Nat} {x : Bs × Int} (h : l[i]? = some x) : atL (pcs l) (i : Int) = some [.str x.1, .int .i64 x.2] := Qfl (by simp [h])
theorem QmL (an : Bool) (a : List Bs) (ha : a.length ≤ 281474976710656) : Ret lb Qa3 [.list an (scv a), .list an (scv a)] (.bool true) := by
 refine .top rfl (.eq (fun n => by rw [QkD]) ?_)
 have hh : ∀ n t p, p ++ t = a → ∀ k, t.length < k → QdC lb n k an (scv a) an (scv a) (p.length : Int) = some (.bool true) := by
  intro n t
  induction t with
  | nil =>
   intro p hp k hk
   obtain ⟨k, rfl⟩ : ∃ j, k = j + 1 := ⟨k - 1, by simp at hk; omega⟩
   have hpl : p = a := by simpa using hp
   rw [Qem]
   refine stF (decF (by rw [hpl, Qdk]; omega)) ?_
   rw [Qin]
  | cons x t ih =>
   intro p hp k hk
   obtain ⟨k, rfl⟩ : ∃ j, k = j + 1 := ⟨k - 1, by simp at hk; omega⟩
   have hpl : a.length = p.length + (t.length + 1) := by rw [← hp]; simp
   have hat := Qmd (t := a) (i := p.length) (s := x) (by rw [← hp]; simp)
   rw [Qem]
   refine stT (decT (by rw [Qdk]; omega)) (stO _ hat (stC rfl (stO _ rfl (stO _ hat (stC rfl (stO _ rfl (stO _ rfl (stO _ rfl (stF (by simp) ?_)))))))))
   rw [Qbj (by omega) (by omega), show (p.length : Int) + 1 = ((p ++ [x]).length : Int) by simp]
   exact ih (p ++ [x]) (by rw [← hp]; simp) k (by simp at hk; omega)
 exact (Evt.ge (a.length + 1)).mono fun n hn => stF (bneF rfl) (hh n a [] rfl n (by omega))
theorem QmG : ∀ c : Cd, Fits c → Ret lb QaO [cdv c, cdv c] (.bool true) := by
 refine Cd.ind fun c ih hf => .top rfl (.eq (fun n => by rw [Qky]) ?_)
 obtain ⟨f1, f2, f3, _⟩ := (QgJ c).1 hf
 have e1 := QmL lb c.tn c.t f3
 have hs : Evt fun n => ∀ x ∈ c.l, C lb n QaO [cdv x, cdv x] = some (.bool true) := Evt.fin _ fun x hx => ih x hx (f2 x hx)
 have hh : ∀ n, (∀ x ∈ c.l, C lb n QaO [cdv x, cdv x] = some (.bool true)) → ∀ t p, p ++ t = c.l → ∀ k, t.length < k → r20_Same_L1 lb n k c.k c.ln (c.l.map ccv) c.a c.b c.fr c.to c.days c.tn (scv c.t) c.k c.ln (c.l.map ccv) c.a c.b c.fr c.to c.days c.tn (scv c.t) (p.length : Int) = some (.bool true) := by
  intro n hs t
  induction t with
  | nil =>
   intro p hp k hk
   obtain ⟨k, rfl⟩ : ∃ j, k = j + 1 := ⟨k - 1, by simp at hk; omega⟩
   have hpl : p = c.l := by simpa using hp
   rw [Qed]
   refine stF (decF (by rw [hpl, List.length_map]; omega)) ?_
   rw [Qiw]
  | cons x t ih2 =>
   intro p hp k hk
   obtain ⟨k, rfl⟩ : ∃ j, k = j + 1 := ⟨k - 1, by simp at hk; omega⟩
   have hpl : c.l.length = p.length + (t.length + 1) := by rw [← hp]; simp
   have hat := QmZ (l := c.l) (i := p.length) (x := x) (by rw [← hp]; simp)
   rw [Qed]
   refine stT (decT (by rw [List.length_map]; omega)) (stO _ hat (stC rfl (stO _ rfl (stO _ rfl (stO _ rfl (stO _ rfl (stO _ rfl (stO _ rfl (stO _ rfl (stO _ rfl (stO _ hat (stC rfl (stO _ rfl (stO _ rfl (stO _ rfl (stO _ rfl (stO _ rfl (stO _ rfl (stO _ rfl (stO _ rfl (stO _ (hs x (by rw [← hp]; simp)) (stO _ rfl (stF rfl ?_)))))))))))))))))))))))
   rw [Qbj (by omega) (by omega), show (p.length : Int) + 1 = ((p ++ [x]).length : Int) by simp]
   exact ih2 (p ++ [x]) (by rw [← hp]; simp) k (by simp at hk; omega)
 exact Evt.imp2 e1 (Evt.and hs (Evt.ge (c.l.length + 1))) fun n x ⟨y, hn⟩ => stF (bneF rfl) (stF (bneF rfl) (stF (bneF rfl) (stF (by simp) (stF (bneF rfl) (stO _ x (stO _ rfl (stF rfl (hh n y c.l [] rfl n (by omega)))))))))
theorem QlY (r : Ru) (hl : r.pc.length ≤ 281474976710656) (ww : Int) (n : Nat) : ∀ t p, p ++ t = r.pc → ∀ k, t.length < k → QdH lb n k r.num r.w.k r.w.ln (r.w.l.map ccv) r.w.a r.w.b r.w.fr r.w.to r.w.days r.w.tn (scv r.w.t) r.cn (QfN r.com) r.mn r.mx r.cf r.rf r.pn (pcs r.pc) r.num r.w.k r.w.ln (r.w.l.map ccv) r.w.a r.w.b r.w.fr r.w.to r.w.days r.w.tn (scv r.w.t) r.cn (QfN r.com) r.mn r.mx r.cf r.rf r.pn (pcs r.pc) ww (p.length : Int) = some (.bool true) := by
 intro t
 induction t with
 | nil =>
  intro p hp k hk
  obtain ⟨k, rfl⟩ : ∃ m, k = m + 1 := ⟨k - 1, by simp at hk; omega⟩
  have hpl : p.length = r.pc.length := by rw [← hp]; simp
  rw [Qef]
  refine stF (decF (by rw [List.length_map]; omega)) ?_
  rw [QiD]
 | cons x t ih =>
  intro p hp k hk
  obtain ⟨k, rfl⟩ : ∃ m, k = m + 1 := ⟨k - 1, by simp at hk; omega⟩
  have hpl : r.pc.length = p.length + (t.length + 1) := by rw [← hp]; simp
  have h1 : atL (pcs r.pc) (p.length : Int) = some [.str x.1, .int .i64 x.2] := Qn3 (by rw [← hp]; simp)
  rw [Qef]
  refine stT (decT (by rw [List.length_map]; omega)) (stO _ h1 (stC rfl (stO _ rfl (stO _ rfl (stO _ h1 (stC rfl (stO _ rfl (stO _ rfl (stO _ rfl (stO _ rfl (stO _ (Qck ..) (stO _ (Qck ..) (stF (by simp) ?_)))))))))))))
  rw [Qbj (by omega) (by omega), show (p.length : Int) + 1 = ((p ++ [x]).length : Int) by simp]
  exact ih (p ++ [x]) (by rw [← hp]; simp) k (by simp at hk; omega)
theorem Qmg (r : Ru) (hl : r.pc.length ≤ 281474976710656) (hc : r.com.length ≤ 281474976710656) (n : Nat) (hn : r.pc.length < n) : ∀ t p, p ++ t = r.com → ∀ k, t.length < k → QdF lb n k r.num r.w.k r.w.ln (r.w.l.map ccv) r.w.a r.w.b r.w.fr r.w.to r.w.days r.w.tn (scv r.w.t) r.cn (QfN r.com) r.mn r.mx r.cf r.rf r.pn (pcs r.pc) r.num r.w.k r.w.ln (r.w.l.map ccv) r.w.a r.w.b r.w.fr r.w.to r.w.days r.w.tn (scv r.w.t) r.cn (QfN r.com) r.mn r.mx r.cf r.rf r.pn (pcs r.pc) (p.length : Int) = some (.bool true) := by
 intro t
 induction t with
 | nil =>
  intro p hp k hk
  obtain ⟨k, rfl⟩ : ∃ m, k = m + 1 := ⟨k - 1, by simp at hk; omega⟩
  have hpl : p.length = r.com.length := by rw [← hp]; simp
  rw [Qej]
  refine stF (decF (by rw [List.length_map]; omega)) ?_
  rw [QiC]
  exact QlY lb r hl _ n r.pc [] rfl n (by omega)
 | cons x t ih =>
  intro p hp k hk
  obtain ⟨k, rfl⟩ : ∃ m, k = m + 1 := ⟨k - 1, by simp at hk; omega⟩
  have hpl : r.com.length = p.length + (t.length + 1) := by rw [← hp]; simp
  have h1 : atL (QfN r.com) (p.length : Int) = some [.int .i64 x] := QnG (by rw [← hp]; simp)
  rw [Qej]
  refine stT (decT (by rw [List.length_map]; omega)) (stO _ h1 (stC rfl (stO _ rfl (stO _ h1 (stC rfl (stO _ rfl (stO _ (Qck ..) (stO _ (Qck ..) (stF (bneF rfl) ?_)))))))))
  rw [Qbj (by omega) (by omega), show (p.length : Int) + 1 = ((p ++ [x]).length : Int) by simp]
  exact ih (p ++ [x]) (by rw [← hp]; simp) k (by simp at hk; omega)
theorem QmD (r : Ru) (h : Qia r) : Ret lb Qav [ruv r, ruv r] (.bool true) := by
 refine .top rfl (.eq (fun n => by rw [Qkz]) ?_)
 refine ((QmG lb r.w h.1).and (Evt.ge (r.com.length + r.pc.length + 1))).mono fun n ⟨x, hn⟩ => ?_
 exact stF (bneF rfl) (stO _ x (stO _ rfl (stF rfl (stF (bneF rfl) (stF (bneF rfl) (stF (bneF rfl) (stF (bneF rfl) (stF (bneF rfl) (stF (bneF rfl) (Qmg lb r h.2.2 h.2.1 n (by omega) r.com [] rfl n (by omega)))))))))))
mutual
def prtC : Int → Cd → Int
 | d, .mk k ln l a b fr to days tn t => if d > 20 then 300 else if (l.length : Int) > 300 then 300 else
  if 300 < QbS (d + 1) (1 + (if 300 < (t.length : Int) then 300 else (t.length : Int))) l then 300 else QbS (d + 1) (1 + (if 300 < (t.length : Int) then 300 else (t.length : Int))) l
def QbS : Int → Int → List Cd → Int
 | _, n, [] => n
 | d, n, c :: r => if n < 300 then QbS d (n + prtC d c) r else n
end
theorem QkP (d : Int) (c : Cd) : prtC d c = if d > 20 then 300 else if (c.l.length : Int) > 300 then 300 else
  if 300 < QbS (d + 1) (1 + (if 300 < (c.t.length : Int) then 300 else (c.t.length : Int))) c.l then 300 else QbS (d + 1) (1 + (if 300 < (c.t.length : Int) then 300 else (c.t.length : Int))) c.l := by
 cases c
 rw [prtC]
 rfl
theorem Qng : ∀ (c : Cd) (d : Int), 1 ≤ prtC d c ∧ prtC d c ≤ 300 := by
 refine Cd.ind fun c ih d => ?_
 have ge : ∀ (l : List Cd) (d n : Int), (∀ x ∈ l, ∀ d, 1 ≤ prtC d x) → n ≤ QbS d n l := by
  intro l
  induction l with
  | nil => intro d n _; rw [QbS]; omega
  | cons x l ihl =>
   intro d n h
   rw [QbS]
   split
   ·have h1 := h x (by simp) d
    have h2 := ihl d (n + prtC d x) fun y hy => h y (by simp [hy])
    omega
   ·omega
 obtain ⟨m, hm, ht⟩ : ∃ m, (if 300 < (c.t.length : Int) then 300 else (c.t.length : Int)) = m ∧ 0 ≤ m := ⟨_, rfl, by split <;> omega⟩
 have hg := ge c.l (d + 1) (1 + m) fun x hx d => (ih x hx d).1
 rw [QkP, hm]
 split
 ·omega
 ·split
  ·omega
  ·split <;> omega
theorem QlW : ∀ c : Cd, Fits c → ∀ d : Int, 0 ≤ d → d ≤ 21 → Ret lb QaF [cdv c, .int .i64 d] (.int .i64 (prtC d c)) := by
 refine Cd.ind fun c ih hf d h0 h1 => .top rfl (.eq (fun n => by rw [Qj7]) ?_)
 obtain ⟨m, hm, hm0, hm1⟩ : ∃ m : Int, (if 300 < (c.t.length : Int) then 300 else (c.t.length : Int)) = m ∧ 0 ≤ m ∧ m ≤ 300 := ⟨_, rfl, by split <;> omega, by split <;> omega⟩
 rw [QkP, Qdk, hm]
 by_cases k1 : d > 20
 ·rw [if_pos k1]
  exact .all fun n => stT (decT k1) rfl
 rw [if_neg k1]
 by_cases k2 : (c.l.length : Int) > 300
 ·rw [if_pos k2]
  exact .all fun n => stF (decF k1) (stT (decT (by rw [List.length_map]; exact k2)) rfl)
 rw [if_neg k2]
 have hs : Evt fun n => ∀ x ∈ c.l, C lb n QaF [cdv x, .int .i64 (d + 1)] = some (.int .i64 (prtC (d + 1) x)) := Evt.fin _ fun x hx => ih x hx (QmE c hf x hx) (d + 1) (by omega) (by omega)
 have loop : ∀ n, (∀ x ∈ c.l, C lb n QaF [cdv x, .int .i64 (d + 1)] = some (.int .i64 (prtC (d + 1) x))) → ∀ u p, p ++ u = c.l → ∀ k, u.length < k → ∀ acc : Int, 0 ≤ acc → acc ≤ 700 →
   l21_parts_L1 lb n k c.k c.ln (c.l.map ccv) c.a c.b c.fr c.to c.days c.tn (scv c.t) d acc (p.length : Int) = some (.int .i64 (if 300 < QbS (d + 1) acc u then 300 else QbS (d + 1) acc u)) := by
  intro n a u
  induction u with
  | nil =>
   intro p hp k hk acc q0 q1
   obtain ⟨k, rfl⟩ : ∃ j, k = j + 1 := ⟨k - 1, by simp at hk; omega⟩
   have hpl : p = c.l := by simpa using hp
   rw [QdX]
   refine stF (decF (by rw [hpl, List.length_map]; omega)) ?_
   rw [QeA, QbS]
  | cons x u ih2 =>
   intro p hp k hk acc q0 q1
   obtain ⟨k, rfl⟩ : ∃ j, k = j + 1 := ⟨k - 1, by simp at hk; omega⟩
   have hpl : c.l.length = p.length + (u.length + 1) := by rw [← hp]; simp
   have hx : x ∈ c.l := by rw [← hp]; simp
   have hat := QmZ (l := c.l) (i := p.length) (x := x) (by rw [← hp]; simp)
   rw [QdX]
   refine stT (decT (by rw [List.length_map]; omega)) ?_
   by_cases k3 : acc < 300
   ·have hq := Qng x (d + 1)
    refine stT (decT k3) (stO _ hat (stC rfl (stO _ rfl (stO _ rfl (stO _ rfl (stO _ rfl (stO _ rfl (stO _ rfl (stO _ rfl (stO _ rfl ?_))))))))))
    rw [Qbj (x := d + 1) (by omega) (by omega)]
    refine stO _ (a x hx) (stO _ (Qck ..) ?_)
    rw [Qbj (x := acc + prtC (d + 1) x) (by omega) (by omega), Qbj (x := (p.length : Int) + 1) (by omega) (by omega), show (p.length : Int) + 1 = ((p ++ [x]).length : Int) by simp]
    rw [ih2 (p ++ [x]) (by rw [← hp]; simp) k (by simp at hk; omega) (acc + prtC (d + 1) x) (by omega) (by omega)]
    rw [show QbS (d + 1) acc (x :: u) = QbS (d + 1) (acc + prtC (d + 1) x) u by rw [QbS, if_pos k3]]
   ·refine stF (decF k3) ?_
    rw [QeA, show QbS (d + 1) acc (x :: u) = acc by rw [QbS, if_neg k3]]
 refine Evt.imp2 hs (Evt.ge (c.l.length + 1)) fun n a hn => stF (decF k1) (stF (decF (by rw [List.length_map]; exact k2)) ?_)
 rw [Qbj (x := 1 + m) (by omega) (by omega)]
 exact loop n a c.l [] rfl n (by omega) (1 + m) (by omega) (by omega)
def smB (r : Ru) : Bool := decide (prtC 0 r.w ≤ 200) && (decide ((r.com.length : Int) ≤ 100) && decide ((r.pc.length : Int) ≤ 100))
theorem QkK (r : Ru) (h : Fits r.w) : Ret lb QcI [ruv r] (.bool (smB r)) := by
 refine .top rfl (.eq (fun n => by rw [QjW, List.length_map, List.length_map]) ?_)
 refine (QlW lb r.w h 0 (by omega) (by omega)).mono fun n a => stO _ a (stO _ (Qck ..) ?_)
 unfold smB
 by_cases k1 : prtC 0 r.w ≤ 200
 ·rw [decT k1]
  by_cases k2 : (r.com.length : Int) ≤ 100
  ·rw [decT k2]; rfl
  ·rw [decF k2]; rfl
 ·rw [decF k1]; rfl
end Go.Proofs
set_option linter.unusedVariables false
set_option linter.unusedSimpArgs false
set_option maxRecDepth 100000
namespace Go.Proofs
open Go.Am
variable (lb : Nat)
structure Fr where
 ca : Bs
 f : Bs
 to : Bs
 ba : Bs
 cl : Bs
 rd : Bool
 am : Int
 ru : Int
 ro : Int
structure Rg where
 num : Int
 ln : Bool
 links : List (Bs × Bs)
 mi : Int
structure Tx where
 code : Bs
 kind : Int
 co : Bs
 am : Int
 sc : Int
 tr : Int
 fn : Bool
 free : List Bs
structure Tf where
 fn : Bool
 fares : List Fr
 rn : Bool
 rules : List Ru
 gn : Bool
 routs : List Rg
 xn : Bool
 taxes : List Tx
abbrev frc (f : Fr) : List CV := [.str f.ca, .str f.f, .str f.to, .str f.ba, .str f.cl, .bool f.rd, .int .i64 f.am, .int .i64 f.ru, .int .i64 f.ro]
abbrev lks (l : List (Bs × Bs)) : List (List CV) := l.map fun p => [CV.str p.1, CV.str p.2]
abbrev rgc (g : Rg) : List CV := [.int .i64 g.num, .list g.ln (lks g.links), .int .i64 g.mi]
abbrev txc (x : Tx) : List CV := [.str x.code, .int .i64 x.kind, .str x.co, .int .i64 x.am, .int .i64 x.sc, .int .i64 x.tr, .list x.fn (scv x.free)]
abbrev tfv (t : Tf) : CV := .agg [.list t.fn (t.fares.map frc), .list t.rn (t.rules.map ruc), .list t.gn (t.routs.map rgc), .list t.xn (t.taxes.map txc)]
structure TFits (t : Tf) : Prop where
 f : t.fares.length ≤ 281474976710656
 r : t.rules.length ≤ 281474976710656
 g : t.routs.length ≤ 281474976710656
 x : t.taxes.length ≤ 281474976710656
 rs : ∀ r ∈ t.rules, Qia r
 gs : ∀ g ∈ t.routs, g.links.length ≤ 281474976710656
 xs : ∀ x ∈ t.taxes, x.free.length ≤ 281474976710656
theorem QdN {α : Type} {enc : α → List CV} {l : List α} {i : Nat} {x : α} (h : l[i]? = some x) : atL (l.map enc) (i : Int) = some (enc x) := Qfl (by simp [h])
def shB (l : List Bs) : Bool := l.all fun s => decide (s.length ≤ 100)
theorem Qgb (an : Bool) (a : List Bs) (ha : a.length ≤ 281474976710656) : Ret lb Qar [.list an (scv a)] (.bool (shB a)) := by
 refine .top rfl (.eq (fun n => by rw [Qjw]) ?_)
 have hh : ∀ n t p, p ++ t = a → ∀ k, t.length < k → Qc9 lb n k an (scv a) (p.length : Int) = some (.bool (shB t)) := by
  intro n t
  induction t with
  | nil =>
   intro p hp k hk
   obtain ⟨k, rfl⟩ : ∃ j, k = j + 1 := ⟨k - 1, by simp at hk; omega⟩
   have hpl : p = a := by simpa using hp
   rw [Qd2]
   refine stF (decF (by rw [hpl, Qdk]; omega)) ?_
   rw [QhN]
   rfl
  | cons x t ih =>
   intro p hp k hk
   obtain ⟨k, rfl⟩ : ∃ j, k = j + 1 := ⟨k - 1, by simp at hk; omega⟩
   have hpl : a.length = p.length + (t.length + 1) := by rw [← hp]; simp
   have hat := Qmd (t := a) (i := p.length) (s := x) (by rw [← hp]; simp)
   rw [Qd2]
   refine stT (decT (by rw [Qdk]; omega)) (stO _ hat (stC rfl (stO _ rfl (stO _ rfl ?_))))
   show _ = some (CV.bool (decide (x.length ≤ 100) && shB t))
   by_cases hx : x.length ≤ 100
   ·refine stF (decF (by omega)) ?_
    rw [decT hx, Bool.true_and, Qbj (by omega) (by omega), show (p.length : Int) + 1 = ((p ++ [x]).length : Int) by simp]
    exact ih (p ++ [x]) (by rw [← hp]; simp) k (by simp at hk; omega)
   ·refine stT (decT (by omega)) ?_
    rw [decF hx]
    rfl
 exact (Evt.ge (a.length + 1)).mono fun n hn => hh n a [] rfl n (by omega)
def txB (x : Tx) : Bool := shB [x.code, x.co] && (decide (x.free.length ≤ 20) && shB x.free)
def frB (f : Fr) : Bool := shB [f.ca, f.f, f.to, f.ba, f.cl]
def rgB (g : Rg) : Bool := decide (g.links.length ≤ 40)
def smT (t : Tf) : Bool := t.fares.all frB && (t.rules.all smB && (t.routs.all rgB && t.taxes.all txB))
theorem Qmz (t : Tf) (hl : t.taxes.length ≤ 281474976710656) (n : Nat) (h1 : ∀ x ∈ t.taxes, C lb n Qar [.list false (scv [x.code, x.co])] = some (.bool (shB [x.code, x.co])) ∧ C lb n Qar [.list x.fn (scv x.free)] = some (.bool (shB x.free))) (jz jY wa : Int) :
  ∀ u p, p ++ u = t.taxes → ∀ k, u.length < k → Qb1 lb n k t.fn (t.fares.map frc) t.rn (t.rules.map ruc) t.gn (t.routs.map rgc) t.xn (t.taxes.map txc) jz jY wa (p.length : Int) = some (.bool (u.all txB)) := by
 intro u
 induction u with
 | nil =>
  intro p hp k hk
  obtain ⟨k, rfl⟩ : ∃ m, k = m + 1 := ⟨k - 1, by simp at hk; omega⟩
  have hpl : p.length = t.taxes.length := by rw [← hp]; simp
  rw [QdY]
  refine stF (decF (by rw [List.length_map]; omega)) ?_
  rw [QhQ]
  rfl
 | cons x u ih =>
  intro p hp k hk
  obtain ⟨k, rfl⟩ : ∃ m, k = m + 1 := ⟨k - 1, by simp at hk; omega⟩
  have hpl : t.taxes.length = p.length + (u.length + 1) := by rw [← hp]; simp
  have hat := QdN (enc := txc) (l := t.taxes) (i := p.length) (x := x) (by rw [← hp]; simp)
  have hx : x ∈ t.taxes := by rw [← hp]; simp
  rw [QdY, List.all_cons]
  refine stT (decT (by rw [List.length_map]; omega)) (stO _ hat (stC rfl (stO _ rfl (stO _ rfl (stO _ rfl (stO _ rfl (stO _ rfl (stO _ rfl (stO _ rfl (stC rfl (stC rfl (stO _ (h1 x hx).1 (stO _ rfl ?_)))))))))))))
  cases b1 : shB [x.code, x.co] with
  | false => exact stT rfl (by rw [txB, b1]; rfl)
  | true =>
   refine stF rfl (stO _ rfl ?_)
   by_cases b2 : x.free.length ≤ 20
   ·refine stF (decF (by rw [Qdk]; omega)) (stO _ (h1 x hx).2 (stO _ rfl ?_))
    cases b3 : shB x.free with
    | false => exact stT rfl (by rw [txB, b1, b3, decT b2]; rfl)
    | true =>
     refine stF rfl ?_
     rw [show txB x = true by rw [txB, b1, b3, decT b2]; rfl, Bool.true_and]
     rw [Qbj (by omega) (by omega), show (p.length : Int) + 1 = ((p ++ [x]).length : Int) by simp]
     exact ih (p ++ [x]) (by rw [← hp]; simp) k (by simp at hk; omega)
   ·exact stT (decT (by rw [Qdk]; omega)) (by rw [txB, b1, decF b2]; rfl)
theorem QmT (t : Tf) (hl : t.routs.length ≤ 281474976710656) (n : Nat) (h7 : ∀ jz jY wa, Qb1 lb n n t.fn (t.fares.map frc) t.rn (t.rules.map ruc) t.gn (t.routs.map rgc) t.xn (t.taxes.map txc) jz jY wa 0 = some (.bool (t.taxes.all txB))) (jz jY : Int) :
  ∀ u p, p ++ u = t.routs → ∀ k, u.length < k → Qb3 lb n k t.fn (t.fares.map frc) t.rn (t.rules.map ruc) t.gn (t.routs.map rgc) t.xn (t.taxes.map txc) jz jY (p.length : Int) = some (.bool (u.all rgB && t.taxes.all txB)) := by
 intro u
 induction u with
 | nil =>
  intro p hp k hk
  obtain ⟨k, rfl⟩ : ∃ m, k = m + 1 := ⟨k - 1, by simp at hk; omega⟩
  have hpl : p.length = t.routs.length := by rw [← hp]; simp
  rw [Qd1]
  refine stF (decF (by rw [List.length_map]; omega)) ?_
  rw [Qh2]
  exact h7 _ _ _
 | cons x u ih =>
  intro p hp k hk
  obtain ⟨k, rfl⟩ : ∃ m, k = m + 1 := ⟨k - 1, by simp at hk; omega⟩
  have hpl : t.routs.length = p.length + (u.length + 1) := by rw [← hp]; simp
  have hat := QdN (enc := rgc) (l := t.routs) (i := p.length) (x := x) (by rw [← hp]; simp)
  have hx : x ∈ t.routs := by rw [← hp]; simp
  rw [Qd1, List.all_cons]
  refine stT (decT (by rw [List.length_map]; omega)) (stO _ hat (stC rfl (stO _ rfl (stO _ rfl ?_))))
  by_cases b1 : x.links.length ≤ 40
  ·refine stF (decF (by rw [List.length_map]; omega)) ?_
   rw [rgB, decT b1, Bool.true_and]
   rw [Qbj (by omega) (by omega), show (p.length : Int) + 1 = ((p ++ [x]).length : Int) by simp]
   exact ih (p ++ [x]) (by rw [← hp]; simp) k (by simp at hk; omega)
  ·exact stT (decT (by rw [List.length_map]; omega)) (by rw [rgB, decF b1]; rfl)
theorem Qmt (t : Tf) (hl : t.rules.length ≤ 281474976710656) (n : Nat) (h5 : ∀ jz jY, Qb3 lb n n t.fn (t.fares.map frc) t.rn (t.rules.map ruc) t.gn (t.routs.map rgc) t.xn (t.taxes.map txc) jz jY 0 = some (.bool (t.routs.all rgB && t.taxes.all txB))) (h1 : ∀ r ∈ t.rules, C lb n QcI [ruv r] = some (.bool (smB r))) (jz : Int) :
  ∀ u p, p ++ u = t.rules → ∀ k, u.length < k → QbZ lb n k t.fn (t.fares.map frc) t.rn (t.rules.map ruc) t.gn (t.routs.map rgc) t.xn (t.taxes.map txc) jz (p.length : Int) = some (.bool (u.all smB && (t.routs.all rgB && t.taxes.all txB))) := by
 intro u
 induction u with
 | nil =>
  intro p hp k hk
  obtain ⟨k, rfl⟩ : ∃ m, k = m + 1 := ⟨k - 1, by simp at hk; omega⟩
  have hpl : p.length = t.rules.length := by rw [← hp]; simp
  rw [Qd4]
  refine stF (decF (by rw [List.length_map]; omega)) ?_
  rw [QhP]
  exact h5 _ _
 | cons x u ih =>
  intro p hp k hk
  obtain ⟨k, rfl⟩ : ∃ m, k = m + 1 := ⟨k - 1, by simp at hk; omega⟩
  have hpl : t.rules.length = p.length + (u.length + 1) := by rw [← hp]; simp
  have hat := QdN (enc := ruc) (l := t.rules) (i := p.length) (x := x) (by rw [← hp]; simp)
  have hx : x ∈ t.rules := by rw [← hp]; simp
  rw [Qd4, List.all_cons]
  refine stT (decT (by rw [List.length_map]; omega)) (stO _ hat (stC rfl (stO _ rfl (stO _ rfl (stO _ rfl (stO _ rfl (stO _ rfl (stO _ rfl (stO _ rfl (stO _ rfl (stO _ rfl (stO _ rfl (stO _ rfl (stO _ rfl (stO _ rfl (stO _ rfl (stO _ rfl (stO _ (h1 x hx) (stO _ rfl ?_)))))))))))))))))))
  cases b1 : smB x with
  | false => exact stT rfl rfl
  | true =>
   refine stF rfl ?_
   rw [Bool.true_and]
   rw [Qbj (by omega) (by omega), show (p.length : Int) + 1 = ((p ++ [x]).length : Int) by simp]
   exact ih (p ++ [x]) (by rw [← hp]; simp) k (by simp at hk; omega)
theorem Qmv (t : Tf) (hl : t.fares.length ≤ 281474976710656) (n : Nat) (h3 : ∀ jz, QbZ lb n n t.fn (t.fares.map frc) t.rn (t.rules.map ruc) t.gn (t.routs.map rgc) t.xn (t.taxes.map txc) jz 0 = some (.bool (t.rules.all smB && (t.routs.all rgB && t.taxes.all txB)))) (h1 : ∀ f ∈ t.fares, C lb n Qar [.list false (scv [f.ca, f.f, f.to, f.ba, f.cl])] = some (.bool (frB f))) :
  ∀ u p, p ++ u = t.fares → ∀ k, u.length < k → l24_Small_L1 lb n k t.fn (t.fares.map frc) t.rn (t.rules.map ruc) t.gn (t.routs.map rgc) t.xn (t.taxes.map txc) (p.length : Int) = some (.bool (u.all frB && (t.rules.all smB && (t.routs.all rgB && t.taxes.all txB)))) := by
 intro u
 induction u with
 | nil =>
  intro p hp k hk
  obtain ⟨k, rfl⟩ : ∃ m, k = m + 1 := ⟨k - 1, by simp at hk; omega⟩
  have hpl : p.length = t.fares.length := by rw [← hp]; simp
  rw [QdZ]
  refine stF (decF (by rw [List.length_map]; omega)) ?_
  rw [QhM]
  exact h3 _
 | cons x u ih =>
  intro p hp k hk
  obtain ⟨k, rfl⟩ : ∃ m, k = m + 1 := ⟨k - 1, by simp at hk; omega⟩
  have hpl : t.fares.length = p.length + (u.length + 1) := by rw [← hp]; simp
  have hat := QdN (enc := frc) (l := t.fares) (i := p.length) (x := x) (by rw [← hp]; simp)
  have hx : x ∈ t.fares := by rw [← hp]; simp
  rw [QdZ, List.all_cons]
  refine stT (decT (by rw [List.length_map]; omega)) (stO _ hat (stC rfl (stO _ rfl (stO _ rfl (stO _ rfl (stO _ rfl (stO _ rfl (stO _ rfl (stO _ rfl (stO _ rfl (stO _ rfl (stC rfl (stC rfl (stC rfl (stC rfl (stC rfl (stO _ (h1 x hx) (stO _ rfl ?_))))))))))))))))))
  cases b1 : frB x with
  | false => exact stT rfl rfl
  | true =>
   refine stF rfl ?_
   rw [Bool.true_and]
   rw [Qbj (by omega) (by omega), show (p.length : Int) + 1 = ((p ++ [x]).length : Int) by simp]
   exact ih (p ++ [x]) (by rw [← hp]; simp) k (by simp at hk; omega)
theorem QkE (t : Tf) (h : TFits t) : ∃ b, Ret lb Qag [tfv t] (.bool b) := by
 by_cases k1 : (t.fares.length : Int) > 60
 ·exact ⟨false, .top rfl (.eq (fun n => by rw [Qcm]) (.all fun n => stT (decT (by rw [List.length_map]; exact k1)) rfl))⟩
 by_cases k2 : (t.rules.length : Int) > 12
 ·exact ⟨false, .top rfl (.eq (fun n => by rw [Qcm]) (.all fun n => stF (decF (by rw [List.length_map]; exact k1)) (stT (decT (by rw [List.length_map]; exact k2)) rfl)))⟩
 by_cases k3 : (t.routs.length : Int) > 12
 ·exact ⟨false, .top rfl (.eq (fun n => by rw [Qcm]) (.all fun n => stF (decF (by rw [List.length_map]; exact k1)) (stF (decF (by rw [List.length_map]; exact k2)) (stT (decT (by rw [List.length_map]; exact k3)) rfl))))⟩
 by_cases k4 : (t.taxes.length : Int) > 20
 ·exact ⟨false, .top rfl (.eq (fun n => by rw [Qcm]) (.all fun n => stF (decF (by rw [List.length_map]; exact k1)) (stF (decF (by rw [List.length_map]; exact k2)) (stF (decF (by rw [List.length_map]; exact k3)) (stT (decT (by rw [List.length_map]; exact k4)) rfl)))))⟩
 refine ⟨smT t, .top rfl (.eq (fun n => by rw [Qcm]) ?_)⟩
 have e1 : Evt fun n => ∀ f ∈ t.fares, C lb n Qar [.list false (scv [f.ca, f.f, f.to, f.ba, f.cl])] = some (.bool (frB f)) := Evt.fin _ fun f _ => Qgb lb false _ (by simp)
 have e2 : Evt fun n => ∀ r ∈ t.rules, C lb n QcI [ruv r] = some (.bool (smB r)) := Evt.fin _ fun r hr => QkK lb r (h.rs r hr).1
 have e3 : Evt fun n => ∀ x ∈ t.taxes, C lb n Qar [.list false (scv [x.code, x.co])] = some (.bool (shB [x.code, x.co])) ∧ C lb n Qar [.list x.fn (scv x.free)] = some (.bool (shB x.free)) := Evt.fin _ fun x hx => (Qgb lb false _ (by simp)).and (Qgb lb x.fn x.free (h.xs x hx))
 refine ((e1.and (e2.and e3)).and (Evt.ge (t.fares.length + t.rules.length + t.routs.length + t.taxes.length + 1))).mono fun n ⟨⟨a, b, c⟩, hn⟩ => ?_
 refine stF (decF (by rw [List.length_map]; exact k1)) (stF (decF (by rw [List.length_map]; exact k2)) (stF (decF (by rw [List.length_map]; exact k3)) (stF (decF (by rw [List.length_map]; exact k4)) ?_)))
 have h7 : ∀ jz jY wa, Qb1 lb n n t.fn (t.fares.map frc) t.rn (t.rules.map ruc) t.gn (t.routs.map rgc) t.xn (t.taxes.map txc) jz jY wa 0 = some (.bool (t.taxes.all txB)) := fun jz jY wa => Qmz lb t h.x n c jz jY wa t.taxes [] rfl n (by omega)
 have h5 : ∀ jz jY, Qb3 lb n n t.fn (t.fares.map frc) t.rn (t.rules.map ruc) t.gn (t.routs.map rgc) t.xn (t.taxes.map txc) jz jY 0 = some (.bool (t.routs.all rgB && t.taxes.all txB)) := fun jz jY => QmT lb t h.g n h7 jz jY t.routs [] rfl n (by omega)
 have h3 : ∀ jz, QbZ lb n n t.fn (t.fares.map frc) t.rn (t.rules.map ruc) t.gn (t.routs.map rgc) t.xn (t.taxes.map txc) jz 0 = some (.bool (t.rules.all smB && (t.routs.all rgB && t.taxes.all txB))) := fun jz => Qmt lb t h.r n h5 b jz t.rules [] rfl n (by omega)
 exact Qmv lb t h.f n h3 a t.fares [] rfl n (by omega)
def zRu : Ru := ⟨0, .mk 0 true [] 0 0 0 0 0 true [], true, [], 0, 0, 0, 0, true, []⟩
def zRg : Rg := ⟨0, true, [], 0⟩
def fndR (z : Int) : List Ru → Option Ru
 | [] => none
 | r :: l => if r.num = z then some r else fndR z l
def fndG (z : Int) : List Rg → Option Rg
 | [] => none
 | r :: l => if r.num = z then some r else fndG z l
theorem QjJ {z : Int} {r : Ru} : ∀ {l : List Ru}, fndR z l = some r → r ∈ l
 | [], h => by cases h
 | x :: l, h => by
  unfold fndR at h
  split at h
  ·cases h; simp
  ·simp [QjJ h]
theorem Qka {z : Int} {r : Rg} : ∀ {l : List Rg}, fndG z l = some r → r ∈ l
 | [], h => by cases h
 | x :: l, h => by
  unfold fndG at h
  split at h
  ·cases h; simp
  ·simp [Qka h]
def ruT (o : Option Ru) : CV := .tup [ruv (o.getD zRu), .bool o.isSome]
def rgT (o : Option Rg) : CV := .tup [.agg (rgc (o.getD zRg)), .bool o.isSome]
theorem QmR (t : Tf) (h : t.rules.length ≤ 281474976710656) (z : Int) : Ret lb QaI [tfv t, .int .i64 z] (ruT (fndR z t.rules)) := by
 refine .top rfl (.eq (fun n => by rw [Qiv]) ?_)
 have hh : ∀ n u p, p ++ u = t.rules → ∀ k, u.length < k → QcD lb n k t.fn (t.fares.map frc) t.rn (t.rules.map ruc) t.gn (t.routs.map rgc) t.xn (t.taxes.map txc) z (p.length : Int) = some (ruT (fndR z u)) := by
  intro n u
  induction u with
  | nil =>
   intro p hp k hk
   obtain ⟨k, rfl⟩ : ∃ j, k = j + 1 := ⟨k - 1, by simp at hk; omega⟩
   have hpl : p = t.rules := by simpa using hp
   rw [Qdh]
   refine stF (decF (by rw [hpl, List.length_map]; omega)) ?_
   rw [QgW]
   rfl
  | cons x u ih =>
   intro p hp k hk
   obtain ⟨k, rfl⟩ : ∃ j, k = j + 1 := ⟨k - 1, by simp at hk; omega⟩
   have hpl : t.rules.length = p.length + (u.length + 1) := by rw [← hp]; simp
   have hat := QdN (enc := ruc) (l := t.rules) (i := p.length) (x := x) (by rw [← hp]; simp)
   rw [Qdh]
   by_cases hz : x.num = z
   ·rw [show fndR z (x :: u) = some x by unfold fndR; rw [if_pos hz]]
    exact stT (decT (by rw [List.length_map]; omega)) (stO _ hat (stC rfl (stO _ rfl (stO _ rfl (stO _ rfl (stO _ rfl (stO _ rfl (stO _ rfl (stO _ rfl (stO _ rfl (stO _ rfl (stO _ rfl (stO _ rfl (stO _ rfl (stO _ rfl (stO _ rfl (stO _ rfl (stO _ (Qck ..) (stT (beqT hz) rfl)))))))))))))))))))
   ·rw [show fndR z (x :: u) = fndR z u by rw [fndR, if_neg hz]]
    refine stT (decT (by rw [List.length_map]; omega)) (stO _ hat (stC rfl (stO _ rfl (stO _ rfl (stO _ rfl (stO _ rfl (stO _ rfl (stO _ rfl (stO _ rfl (stO _ rfl (stO _ rfl (stO _ rfl (stO _ rfl (stO _ rfl (stO _ rfl (stO _ rfl (stO _ rfl (stO _ (Qck ..) (stF (beqF hz) ?_)))))))))))))))))))
    rw [Qbj (by omega) (by omega), show (p.length : Int) + 1 = ((p ++ [x]).length : Int) by simp]
    exact ih (p ++ [x]) (by rw [← hp]; simp) k (by simp at hk; omega)
 exact (Evt.ge (t.rules.length + 1)).mono fun n hn => hh n t.rules [] rfl n (by omega)
theorem Qlo (t : Tf) (h : t.rules.length ≤ 281474976710656) (z : Int) : Ret lb Qa1 [tfv t, .int .i64 z] (ruT (fndR z t.rules)) := by
 refine .top rfl (.eq (fun n => by rw [QkI]) ?_)
 have hh : ∀ n u p, p ++ u = t.rules → ∀ k, u.length < k → QdB lb n k t.fn (t.fares.map frc) t.rn (t.rules.map ruc) t.gn (t.routs.map rgc) t.xn (t.taxes.map txc) z (p.length : Int) = some (ruT (fndR z u)) := by
  intro n u
  induction u with
  | nil =>
   intro p hp k hk
   obtain ⟨k, rfl⟩ : ∃ j, k = j + 1 := ⟨k - 1, by simp at hk; omega⟩
   have hpl : p = t.rules := by simpa using hp
   rw [Qeh]
   refine stF (decF (by rw [hpl, List.length_map]; omega)) ?_
   rw [QiG]
   rfl
  | cons x u ih =>
   intro p hp k hk
   obtain ⟨k, rfl⟩ : ∃ j, k = j + 1 := ⟨k - 1, by simp at hk; omega⟩
   have hpl : t.rules.length = p.length + (u.length + 1) := by rw [← hp]; simp
   have hat := QdN (enc := ruc) (l := t.rules) (i := p.length) (x := x) (by rw [← hp]; simp)
   rw [Qeh]
   by_cases hz : x.num = z
   ·rw [show fndR z (x :: u) = some x by unfold fndR; rw [if_pos hz]]
    exact stT (decT (by rw [List.length_map]; omega)) (stO _ hat (stC rfl (stO _ rfl (stO _ (Qck ..) (stT (beqT hz) (stO _ hat (stC rfl (stO _ rfl (stO _ rfl (stO _ rfl (stO _ rfl (stO _ rfl (stO _ rfl (stO _ rfl (stO _ rfl (stO _ rfl (stO _ rfl (stO _ rfl (stO _ rfl (stO _ rfl (stO _ rfl (stO _ rfl rfl))))))))))))))))))))))
   ·rw [show fndR z (x :: u) = fndR z u by rw [fndR, if_neg hz]]
    refine stT (decT (by rw [List.length_map]; omega)) (stO _ hat (stC rfl (stO _ rfl (stO _ (Qck ..) (stF (beqF hz) ?_)))))
    rw [Qbj (by omega) (by omega), show (p.length : Int) + 1 = ((p ++ [x]).length : Int) by simp]
    exact ih (p ++ [x]) (by rw [← hp]; simp) k (by simp at hk; omega)
 exact (Evt.ge (t.rules.length + 1)).mono fun n hn => hh n t.rules [] rfl n (by omega)
theorem QkB (t : Tf) (h : t.routs.length ≤ 281474976710656) (z : Int) : Ret lb Qax [tfv t, .int .i64 z] (rgT (fndG z t.routs)) := by
 refine .top rfl (.eq (fun n => by rw [QgU]) ?_)
 have hh : ∀ n u p, p ++ u = t.routs → ∀ k, u.length < k → QbT lb n k t.fn (t.fares.map frc) t.rn (t.rules.map ruc) t.gn (t.routs.map rgc) t.xn (t.taxes.map txc) z (p.length : Int) = some (rgT (fndG z u)) := by
  intro n u
  induction u with
  | nil =>
   intro p hp k hk
   obtain ⟨k, rfl⟩ : ∃ j, k = j + 1 := ⟨k - 1, by simp at hk; omega⟩
   have hpl : p = t.routs := by simpa using hp
   rw [QcL]
   refine stF (decF (by rw [hpl, List.length_map]; omega)) ?_
   rw [Qfw]
   rfl
  | cons x u ih =>
   intro p hp k hk
   obtain ⟨k, rfl⟩ : ∃ j, k = j + 1 := ⟨k - 1, by simp at hk; omega⟩
   have hpl : t.routs.length = p.length + (u.length + 1) := by rw [← hp]; simp
   have hat := QdN (enc := rgc) (l := t.routs) (i := p.length) (x := x) (by rw [← hp]; simp)
   rw [QcL]
   by_cases hz : x.num = z
   ·rw [show fndG z (x :: u) = some x by unfold fndG; rw [if_pos hz]]
    exact stT (decT (by rw [List.length_map]; omega)) (stO _ hat (stC rfl (stO _ rfl (stO _ rfl (stO _ rfl (stO _ (Qck ..) (stT (beqT hz) rfl)))))))
   ·rw [show fndG z (x :: u) = fndG z u by rw [fndG, if_neg hz]]
    refine stT (decT (by rw [List.length_map]; omega)) (stO _ hat (stC rfl (stO _ rfl (stO _ rfl (stO _ rfl (stO _ (Qck ..) (stF (beqF hz) ?_)))))))
    rw [Qbj (by omega) (by omega), show (p.length : Int) + 1 = ((p ++ [x]).length : Int) by simp]
    exact ih (p ++ [x]) (by rw [← hp]; simp) k (by simp at hk; omega)
 exact (Evt.ge (t.routs.length + 1)).mono fun n hn => hh n t.routs [] rfl n (by omega)
theorem Qjd (t : Tf) (h : t.routs.length ≤ 281474976710656) (z : Int) : Ret lb QaH [tfv t, .int .i64 z] (rgT (fndG z t.routs)) := by
 refine .top rfl (.eq (fun n => by rw [Qil]) ?_)
 have hh : ∀ n u p, p ++ u = t.routs → ∀ k, u.length < k → Qcu lb n k t.fn (t.fares.map frc) t.rn (t.rules.map ruc) t.gn (t.routs.map rgc) t.xn (t.taxes.map txc) z (p.length : Int) = some (rgT (fndG z u)) := by
  intro n u
  induction u with
  | nil =>
   intro p hp k hk
   obtain ⟨k, rfl⟩ : ∃ j, k = j + 1 := ⟨k - 1, by simp at hk; omega⟩
   have hpl : p = t.routs := by simpa using hp
   rw [Qdf]
   refine stF (decF (by rw [hpl, List.length_map]; omega)) ?_
   rw [QgT]
   rfl
  | cons x u ih =>
   intro p hp k hk
   obtain ⟨k, rfl⟩ : ∃ j, k = j + 1 := ⟨k - 1, by simp at hk; omega⟩
   have hpl : t.routs.length = p.length + (u.length + 1) := by rw [← hp]; simp
   have hat := QdN (enc := rgc) (l := t.routs) (i := p.length) (x := x) (by rw [← hp]; simp)
   rw [Qdf]
   by_cases hz : x.num = z
   ·rw [show fndG z (x :: u) = some x by unfold fndG; rw [if_pos hz]]
    exact stT (decT (by rw [List.length_map]; omega)) (stO _ hat (stC rfl (stO _ rfl (stO _ (Qck ..) (stT (beqT hz) (stO _ hat (stC rfl (stO _ rfl (stO _ rfl (stO _ rfl rfl))))))))))
   ·rw [show fndG z (x :: u) = fndG z u by rw [fndG, if_neg hz]]
    refine stT (decT (by rw [List.length_map]; omega)) (stO _ hat (stC rfl (stO _ rfl (stO _ (Qck ..) (stF (beqF hz) ?_)))))
    rw [Qbj (by omega) (by omega), show (p.length : Int) + 1 = ((p ++ [x]).length : Int) by simp]
    exact ih (p ++ [x]) (by rw [← hp]; simp) k (by simp at hk; omega)
 exact (Evt.ge (t.routs.length + 1)).mono fun n hn => hh n t.routs [] rfl n (by omega)
theorem Qn8 {l : List (Bs × Bs)} {i : Nat} {x : Bs × Bs} (h : l[i]? = some x) : atL (lks l) (i : Int) = some [.str x.1, .str x.2] := Qfl (by simp [h])
theorem QjN (g : Rg) (h : g.links.length ≤ 281474976710656) : Ret lb Qas [.agg (rgc g), .agg (rgc g)] (.bool true) := by
 refine .top rfl (.eq (fun n => by rw [QgB]) ?_)
 have hh : ∀ n u p, p ++ u = g.links → ∀ k, u.length < k → QbJ lb n k g.num g.ln (lks g.links) g.mi g.num g.ln (lks g.links) g.mi (p.length : Int) = some (.bool true) := by
  intro n u
  induction u with
  | nil =>
   intro p hp k hk
   obtain ⟨k, rfl⟩ : ∃ j, k = j + 1 := ⟨k - 1, by simp at hk; omega⟩
   have hpl : p = g.links := by simpa using hp
   rw [QcE]
   refine stF (decF (by rw [hpl, List.length_map]; omega)) ?_
   rw [Qff]
  | cons x u ih =>
   intro p hp k hk
   obtain ⟨k, rfl⟩ : ∃ j, k = j + 1 := ⟨k - 1, by simp at hk; omega⟩
   have hpl : g.links.length = p.length + (u.length + 1) := by rw [← hp]; simp
   have hat := Qn8 (l := g.links) (i := p.length) (x := x) (by rw [← hp]; simp)
   rw [QcE]
   refine stT (decT (by rw [List.length_map]; omega)) (stO _ hat (stC rfl (stO _ rfl (stO _ rfl (stO _ hat (stC rfl (stO _ rfl (stO _ rfl (stO _ rfl (stO _ rfl (stO _ rfl (stO _ rfl (stF (by simp) ?_)))))))))))))
   rw [Qbj (by omega) (by omega), show (p.length : Int) + 1 = ((p ++ [x]).length : Int) by simp]
   exact ih (p ++ [x]) (by rw [← hp]; simp) k (by simp at hk; omega)
 exact (Evt.ge (g.links.length + 1)).mono fun n hn => stF (bneF rfl) (stF (bneF rfl) (stF (bneF rfl) (hh n g.links [] rfl n (by omega))))
theorem QhX (k : Ret lb Qcg [] (.bool true)) (t : Tf) (h : TFits t) (z : Int) : Ret lb Qd3 [tfv t, .int .i64 z] (.bool true) := by
 refine .top rfl (.eq (fun n => by rw [QgE]) ?_)
 obtain ⟨b, hb⟩ := QkE lb t h
 have e1 := QmR lb t h.r z
 have e2 := Qlo lb t h.r z
 have e3 := QkB lb t h.g z
 have e4 := Qjd lb t h.g z
 have f1 : Qia ((fndR z t.rules).getD zRu) := by
  cases hf : fndR z t.rules with
  | none => exact ⟨(QgJ _).2 ⟨by simp [Cd.l, zRu], fun x hx => by simp [Cd.l, zRu] at hx, by simp [Cd.t, zRu], fun x hx => by simp [Cd.t, zRu] at hx⟩, by simp [zRu], by simp [zRu]⟩
  | some r => exact h.rs r (QjJ hf)
 have f2 : ((fndG z t.routs).getD zRg).links.length ≤ 281474976710656 := by
  cases hf : fndG z t.routs with
  | none => simp [zRg]
  | some r => exact h.gs r (Qka hf)
 have e5 := QmD lb _ f1
 have e6 := QjN lb _ f2
 refine ((hb.and k).and ((e1.and e2).and ((e3.and e4).and (e5.and e6)))).mono fun n ⟨⟨a0, a⟩, ⟨a1, a2⟩, ⟨a3, a4⟩, a5, a6⟩ => stO _ a0 (stO _ rfl ?_)
 cases b with
 | false => exact stT rfl (stO _ a rfl)
 | true =>
  unfold ruT at a1 a2
  unfold rgT at a3 a4
  refine stF rfl (stO _ a1 (stO _ rfl (stO _ rfl (stO _ rfl (stO _ rfl (stO _ rfl (stC rfl (stO _ rfl (stO _ rfl (stO _ rfl (stO _ rfl (stO _ rfl (stO _ rfl (stO _ rfl (stO _ rfl (stO _ rfl (stO _ rfl (stO _ rfl (stO _ rfl (stO _ rfl (stO _ rfl (stO _ rfl (stO _ a2 (stO _ rfl (stO _ rfl (stO _ rfl (stO _ rfl (stO _ rfl (stC rfl (stO _ rfl (stO _ rfl (stO _ rfl (stO _ rfl (stO _ rfl (stO _ rfl (stO _ rfl (stO _ rfl (stO _ rfl (stO _ rfl (stO _ rfl (stO _ rfl (stO _ rfl (stO _ rfl (stO _ rfl (stO _ a3 (stO _ rfl (stO _ rfl (stO _ rfl (stO _ rfl (stO _ rfl (stC rfl (stO _ rfl (stO _ rfl (stO _ rfl (stO _ a4 (stO _ rfl (stO _ rfl (stO _ rfl (stO _ rfl (stO _ rfl (stC rfl (stO _ rfl (stO _ rfl (stO _ rfl ?_))))))))))))))))))))))))))))))))))))))))))))))))))))))))))))))))
  exact stO _ a5 (stO _ rfl (stT rfl (stO _ rfl (stO _ rfl (stT (by simp) (stO _ a6 (stO _ rfl (stT rfl (stO _ rfl (stO _ rfl (stT (by simp) (stO _ a rfl))))))))))))
end Go.Proofs
