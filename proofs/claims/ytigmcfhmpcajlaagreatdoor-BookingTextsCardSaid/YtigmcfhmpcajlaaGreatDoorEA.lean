/- Chapter 35: the lines of a booking on plain data, by the program and the reference. Conditions: as each says. -/
import Derived.Test.YtigmcfhmpcajlaaGreatDoorCn
import Derived.Test.YtigmcfhmpcajlaaGreatDoorRA
import Derived.Test.YtigmcfhmpcajlaaGreatDoorGt
import Derived.Test.YtigmcfhmpcajlaaGreatDoorGp
import Derived.Test.YtigmcfhmpcajlaaGreatDoorGy
import Derived.Test.YtigmcfhmpcajlaaGreatDoorGz
set_option linter.unusedSimpArgs false
set_option linter.unusedVariables false
namespace Go.Proofs
open Go.Am
variable (lb : Nat)
def bookingW : Bs := [98, 111, 111, 107, 105, 110, 103]
def personW : Bs := [112, 101, 114, 115, 111, 110]
def segWd : Bs := [115, 101, 103]
def serviceW : Bs := [115, 101, 114, 118, 105, 99, 101]
def staT (x : Int) : Bs := bif stOk x then Qb8 x else []
def peT (p : Pe) : Bs := bif QbP p && Qb9 p then (((p.la ++ [47]) ++ p.fi) ++ [32]) ++ p.ty else []
def peP (p : Pe) : Int := bif QbP p then (bif Qb9 p then 0 else 8) else 5
def QbX (b : Bk) : List Bs := [bookingW, b.loc, Lib.itoa b.lim, Lib.itoa b.grp]
def peWs (p : Pe) : List Bs := [personW, peT p]
def sgWs (s : Sg) : List Bs := [segWd, s.car, Lib.itoa s.num, Lib.itoa s.day, s.fr, s.to, Lib.itoa s.dep, Lib.itoa s.arr, s.cls, staT s.st, Lib.itoa s.mar]
def svWs (x : Sv) : List Bs := [serviceW, x.cd, Lib.itoa x.pe, Lib.itoa x.sg]
def lnB (w : List Bs) : Bs := QaO w ++ [10]
def J64 (x : Int) : Prop := -9223372036854775808 ≤ x ∧ x ≤ 9223372036854775807
def PeL (p : Pe) : Prop := p.la.length ≤ 10000 ∧ p.fi.length ≤ 10000 ∧ p.ty.length ≤ 10000
def SgL (s : Sg) : Prop := (s.car.length ≤ 10000 ∧ s.fr.length ≤ 10000 ∧ s.to.length ≤ 10000 ∧ s.cls.length ≤ 10000) ∧ (J64 s.num ∧ J64 s.day ∧ J64 s.dep ∧ J64 s.arr ∧ J64 s.st ∧ J64 s.mar)
def SvL (x : Sv) : Prop := x.cd.length ≤ 10000 ∧ J64 x.pe ∧ J64 x.sg
theorem Qto (x : Int) : (staT x).length ≤ 14 := by
 unfold staT Qb8
 cases stOk x with
 | false => exact Nat.zero_le _
 | true =>
  show (((stWords.take (2 * x).toNat).drop (2 * x - 2).toNat)).length ≤ 14
  rw [List.length_drop, List.length_take]
  have : stWords.length = 14 := rfl
  omega
theorem QzW (p : Pe) (h : PeL p) : (peT p).length ≤ 30002 := by
 obtain ⟨h1, h2, h3⟩ := h
 unfold peT
 cases QbP p && Qb9 p with
 | false => exact Nat.zero_le _
 | true => simp; omega
theorem Qn0 (w : List Bs) (h : Qa7 w ≤ 41000) (hl : w.length ≤ 11) : (lnB w).length ≤ 200000 := by
 have := Qj0 w
 unfold lnB
 rw [List.length_append]
 simp; omega
theorem Qo7 (b : Bk) (h : b.loc.length ≤ 10000) (h1 : J64 b.lim) (h2 : J64 b.grp) : Qa7 (QbX b) ≤ 41000 := by
 have a1 := Qbb h1.1 h1.2
 have a2 := Qbb h2.1 h2.2
 simp [Qa7, QbX, bookingW]; omega
theorem QuB (p : Pe) (h : PeL p) : Qa7 (peWs p) ≤ 41000 := by
 have := QzW p h
 simp [Qa7, peWs, personW]; omega
theorem Quk (s : Sg) (h : SgL s) : Qa7 (sgWs s) ≤ 41000 := by
 obtain ⟨⟨h1, h2, h3, h4⟩, k1, k2, k3, k4, k5, k6⟩ := h
 have a1 := Qbb k1.1 k1.2
 have a2 := Qbb k2.1 k2.2
 have a3 := Qbb k3.1 k3.2
 have a4 := Qbb k4.1 k4.2
 have a6 := Qbb k6.1 k6.2
 have a7 := Qto s.st
 simp [Qa7, sgWs, segWd]; omega
theorem Qta (x : Sv) (h : SvL x) : Qa7 (svWs x) ≤ 41000 := by
 obtain ⟨h1, k1, k2⟩ := h
 have a1 := Qbb k1.1 k1.2
 have a2 := Qbb k2.1 k2.2
 simp [Qa7, svWs, serviceW]; omega
theorem QmT (b : Bk) (h : b.loc.length ≤ 10000) (h1 : J64 b.lim) (h2 : J64 b.grp) : Ret lb Qcw [.agg (bkE b)] (.str (QaO (QbX b))) := by
 have hs := Qo7 b h h1 h2
 refine .top rfl (Evt.imp2 (Evt.imp2 (Qbc lb b.lim h1.1 h1.2) (Qbc lb b.grp h2.1 h2.2) fun n a b => And.intro a b) (Qge lb false (QbX b) (by simp [QbX]) (by omega)) fun n ⟨c1, c2⟩ c3 => ?_)
 rw [show top lb n Qcw [.agg (bkE b)] = _ from Qmz lb n b.loc b.pn (b.ps.map peE) b.grp b.bn (b.segs.map sgE) b.rn (b.svs.map svE) b.lim]
 exact stO _ c1 (stO _ c2 (stC rfl (stC rfl (stO _ c3 rfl))))
theorem QjW (p : Pe) (h : PeL p) : Ret lb QeO [.agg (peE p)] (.tup [.str (peT p), .int .i64 (peP p)]) := by
 obtain ⟨h1, h2, h3⟩ := h
 have hok : PeOk p := ⟨by omega, by omega, by omega⟩
 refine .top rfl (Evt.imp2 (Qse lb p hok) (QrT lb p hok) fun n c1 c2 => ?_)
 rw [show top lb n QeO [.agg (peE p)] = _ from Qq9 lb n p.la p.fi p.ty]
 refine stO _ c1 (stO _ (QaU _) ?_)
 unfold peT peP
 cases QbP p with
 | false => exact stT rfl rfl
 | true =>
  refine stF rfl (stO _ c2 (stO _ (QaU _) ?_))
  cases Qb9 p with
  | false => exact stT rfl rfl
  | true => exact stF rfl (stC (decT (by simp; omega)) (stC (decT (by simp; omega)) (stC (decT (by simp; omega)) (stC (decT (by simp; omega)) rfl))))
theorem Qlb (p : Pe) (h : PeL p) : Ret lb QbJ [.agg (peE p)] (.str (QaO (peWs p))) := by
 have hs := QuB p h
 refine .top rfl (Evt.imp2 (QjW lb p h) (Qge lb false (peWs p) (by simp [peWs]) (by omega)) fun n c1 c2 => ?_)
 rw [show top lb n QbJ [.agg (peE p)] = _ from Qk0 lb n p.la p.fi p.ty]
 exact stO _ c1 (stO _ rfl (stO _ rfl (stO _ rfl (stO _ rfl (stC rfl (stO _ c2 rfl))))))
theorem Qpk (x : Int) : ∃ y z, QgK x = .tup [.str (staT x), .int .i64 z] ∧ y = z := by
 unfold QgK staT
 cases stOk x with
 | true => exact ⟨0, 0, rfl, rfl⟩
 | false => exact ⟨8, 8, rfl, rfl⟩
theorem QoF (s : Sg) (h : SgL s) : Ret lb Qca [.agg (sgE s)] (.str (QaO (sgWs s))) := by
 have hs := Quk s h
 obtain ⟨⟨h1, h2, h3, h4⟩, k1, k2, k3, k4, k5, k6⟩ := h
 obtain ⟨y, z, hz, _⟩ := Qpk s.st
 have hT := Qka lb s.st
 rw [hz] at hT
 refine .top rfl (Evt.imp2 (Evt.imp2 hT (Evt.imp2 (Qbc lb s.num k1.1 k1.2) (Evt.imp2 (Qbc lb s.day k2.1 k2.2) (Evt.imp2 (Qbc lb s.dep k3.1 k3.2) (Evt.imp2 (Qbc lb s.arr k4.1 k4.2) (Qbc lb s.mar k6.1 k6.2) fun n a b => And.intro a b) fun n a b => And.intro a b) fun n a b => And.intro a b) fun n a b => And.intro a b) fun n a b => And.intro a b) (Qge lb false (sgWs s) (by simp [sgWs]) (by omega)) fun n ⟨c0, c1, c2, c3, c4, c6⟩ c7 => ?_)
 rw [show top lb n Qca [.agg (sgE s)] = _ from Qm7 lb n s.car s.num s.day s.fr s.to s.dep s.arr s.cls s.st s.mar]
 exact stO _ c0 (stO _ rfl (stO _ rfl (stO _ rfl (stO _ rfl (stO _ c1 (stO _ c2 (stO _ c3 (stO _ c4 (stO _ c6 (stC rfl (stC rfl (stC rfl (stC rfl (stC rfl (stC rfl (stO _ c7 rfl))))))))))))))))
theorem Qj5 (x : Sv) (h : SvL x) : Ret lb QbV [.agg (svE x)] (.str (QaO (svWs x))) := by
 have hs := Qta x h
 obtain ⟨h1, k1, k2⟩ := h
 refine .top rfl (Evt.imp2 (Evt.imp2 (Qbc lb x.pe k1.1 k1.2) (Qbc lb x.sg k2.1 k2.2) fun n a b => And.intro a b) (Qge lb false (svWs x) (by simp [svWs]) (by omega)) fun n ⟨c1, c2⟩ c3 => ?_)
 rw [show top lb n QbV [.agg (svE x)] = _ from Qks lb n x.cd x.pe x.sg]
 exact stO _ c1 (stO _ c2 (stC rfl (stC rfl (stO _ c3 rfl))))
theorem Qc2 (z : Int) (h : J64 z) : Ret lb Qdb [.int .i64 z] (.str (Lib.itoa z)) :=
 .top rfl ((Qe1 lb z h.1 h.2).mono fun n c => by
  rw [Qv2]
  exact stO _ c rfl)
theorem QsY (p : Pe) (h : PeL p) : Ret lb QhX [.agg (peE p)] (.tup [.str (peT p), .int .i64 (peP p)]) := by
 obtain ⟨h1, h2, h3⟩ := h
 have hok : PeSm p := ⟨by omega, by omega, by omega⟩
 refine .top rfl (Evt.imp2 (Ql3 lb p hok) (Qmf lb p hok) fun n c1 c2 => ?_)
 rw [show top lb n QhX [.agg (peE p)] = _ from Qtx lb n p.la p.fi p.ty]
 refine stO _ c1 (stO _ (QaU _) ?_)
 unfold peT peP
 cases QbP p with
 | false => exact stT rfl rfl
 | true =>
  refine stF rfl (stO _ c2 (stO _ (QaU _) ?_))
  cases Qb9 p with
  | false => exact stT rfl rfl
  | true => exact stF rfl (stC (decT (by simp; omega)) (stC (decT (by simp; omega)) (stC (decT (by simp; omega)) (stC (decT (by simp; omega)) rfl))))
theorem Qpq (s : Sg) (h : SgL s) : Ret lb Qgl [.agg (sgE s)] (.str (QaO (sgWs s))) := by
 have hs := Quk s h
 obtain ⟨⟨h1, h2, h3, h4⟩, k1, k2, k3, k4, k5, k6⟩ := h
 obtain ⟨y, z, hz, _⟩ := Qpk s.st
 have hT := QmZ lb s.st
 rw [hz] at hT
 refine .top rfl (Evt.imp2 (Evt.imp2 hT (Evt.imp2 (Qc2 lb s.num k1) (Evt.imp2 (Qc2 lb s.day k2) (Evt.imp2 (Qc2 lb s.dep k3) (Evt.imp2 (Qc2 lb s.arr k4) (Qc2 lb s.mar k6) fun n a b => And.intro a b) fun n a b => And.intro a b) fun n a b => And.intro a b) fun n a b => And.intro a b) fun n a b => And.intro a b) (Qhl lb false (sgWs s) (by simp [sgWs]) (by omega)) fun n ⟨c0, c1, c2, c3, c4, c6⟩ c7 => ?_)
 rw [show top lb n Qgl [.agg (sgE s)] = _ from QqR lb n s.car s.num s.day s.fr s.to s.dep s.arr s.cls s.st s.mar]
 exact stO _ c0 (stO _ rfl (stO _ rfl (stO _ rfl (stO _ rfl (stO _ c1 (stO _ c2 (stO _ c3 (stO _ c4 (stO _ c6 (stC rfl (stC rfl (stC rfl (stC rfl (stC rfl (stC rfl (stO _ c7 rfl))))))))))))))))
end Go.Proofs
set_option linter.unusedSimpArgs false
set_option linter.unusedVariables false
namespace Go.Proofs
open Go.Am
variable (lb : Nat)
def Qa5 {α : Type} (f : α → List Bs) (l : List α) : Bs := l.flatMap fun x => lnB (f x)
theorem QfE {α : Type} (f : α → List Bs) (l : List α) (x : α) : Qa5 f (l ++ [x]) = Qa5 f l ++ lnB (f x) := by simp [Qa5]
theorem QdA {α : Type} {f : α → List Bs} : ∀ {l : List α}, (∀ x ∈ l, (lnB (f x)).length ≤ 200000) → (Qa5 f l).length ≤ 200000 * l.length
 | [], _ => Nat.le_refl _
 | x :: l, h => by
  have h1 := h x (List.mem_cons_self ..)
  have h2 := QdA (f := f) (l := l) fun y hy => h y (List.mem_cons_of_mem _ hy)
  show ((lnB (f x)) ++ Qa5 f l).length ≤ 200000 * (x :: l).length
  rw [List.length_append, List.length_cons]; omega
structure PrOk (b : Bk) : Prop where
 loc : b.loc.length ≤ 10000
 lim : J64 b.lim
 grp : J64 b.grp
 psn : b.ps.length ≤ 1000
 ps : ∀ p ∈ b.ps, PeL p
 sgn : b.segs.length ≤ 1000
 sg : ∀ s ∈ b.segs, SgL s
 svn : b.svs.length ≤ 1000
 sv : ∀ x ∈ b.svs, SvL x
def Qfb (b : Bk) : Bs := lnB (QbX b)
def Qig (b : Bk) : Bs := Qfb b ++ Qa5 peWs b.ps
def Qh6 (b : Bk) : Bs := Qig b ++ Qa5 sgWs b.segs
def QaF (b : Bk) : Bs := Qh6 b ++ Qa5 svWs b.svs
def prE (b : Bk) : Int := match QcU b with
 | f :: _ => f.1
 | [] => if (QaF b).length > 65536 then 4 else 0
def prT (b : Bk) : Bs := match QcU b with
 | _ :: _ => []
 | [] => if (QaF b).length > 65536 then [] else QaF b
def prV (b : Bk) : CV := .tup [.str (prT b), .int .i64 (prE b)]
theorem QvT {b : Bk} (h : PrOk b) : ∀ x ∈ b.ps, (lnB (peWs x)).length ≤ 200000 := fun x hx => Qn0 _ (QuB x (h.ps x hx)) (by simp [peWs])
theorem QvX {b : Bk} (h : PrOk b) : ∀ x ∈ b.segs, (lnB (sgWs x)).length ≤ 200000 := fun x hx => Qn0 _ (Quk x (h.sg x hx)) (by simp [sgWs])
theorem Qwy {b : Bk} (h : PrOk b) : ∀ x ∈ b.svs, (lnB (svWs x)).length ≤ 200000 := fun x hx => Qn0 _ (Qta x (h.sv x hx)) (by simp [svWs])
theorem Qer {b : Bk} (h : PrOk b) : (Qfb b).length ≤ 200000 ∧ (Qig b).length ≤ 200200000 ∧ (Qh6 b).length ≤ 400200000 ∧ (QaF b).length ≤ 600200000 := by
 have a1 : (Qfb b).length ≤ 200000 := Qn0 _ (Qo7 b h.loc h.lim h.grp) (by simp [QbX])
 have a2 := QdA (QvT h)
 have a3 := QdA (QvX h)
 have a4 := QdA (Qwy h)
 have n1 := h.psn
 have n2 := h.sgn
 have n3 := h.svn
 refine ⟨a1, ?_, ?_, ?_⟩ <;> simp only [QaF, Qh6, Qig, List.length_append] <;> omega
theorem QoZ {J : Bool → List (List CV) → Option CV} {r : Option CV} (S s : Bs) (bn : Bool) (hS : S.length ≤ 700000000) (hs : s.length ≤ 1000000) (h : J (bn && (bcv (s ++ [10])).isEmpty) (bcv (S ++ (s ++ [10]))) = r) :
  chkO (decide (s.length + [10].length ≤ 9223372036854775807)) (chkO (((s ++ [10]).map fun (c : UInt8) => [CV.int .u8 c.toNat]).all (·.length == 1)) (chkO (room ((bcv S).length + ((s ++ [10]).map fun (c : UInt8) => [CV.int .u8 c.toNat]).length) 1) (J (bn && (((s ++ [10]).map fun (c : UInt8) => [CV.int .u8 c.toNat]).isEmpty)) (bcv S ++ ((s ++ [10]).map fun (c : UInt8) => [CV.int .u8 c.toNat]))))) = r := by
 refine stC (decT (by simp; omega)) (stC (QkF _) (stC (Qbg (by simp [Qd1]; omega)) ?_))
 rw [Qrx S] at h
 exact h
theorem Qle (w : List Bs) (h : (lnB w).length ≤ 200000) : (QaO w).length ≤ 1000000 := by
 unfold lnB at h
 rw [List.length_append] at h
 simp at h; omega
theorem QA3 (b : Bk) (h : PrOk b) (jx jD : CV) (ww : Bs) : Evt fun n => ∀ bn, QgE lb n b.loc b.pn (b.ps.map peE) b.grp b.bn (b.segs.map sgE) b.rn (b.svs.map svE) b.lim jx jD ww bn (bcv (Qh6 b)) = some (.tup [.str (if (QaF b).length > 65536 then [] else QaF b), .int .i64 (if (QaF b).length > 65536 then 4 else 0)]) := by
 have hn := h.svn
 have hl := Qwy h
 have hT := Qer h
 refine (Evt.diag (QcT (enc := svE) (l := b.svs) (P := fun p t n k => ∀ bn, QdS lb n k b.loc b.pn (b.ps.map peE) b.grp b.bn (b.segs.map sgE) b.rn (b.svs.map svE) b.lim jx jD ww (p.length : Int) bn (bcv (Qh6 b ++ Qa5 svWs p)) = some (.tup [.str (if (QaF b).length > 65536 then [] else QaF b), .int .i64 (if (QaF b).length > 65536 then 4 else 0)])) (by omega)
  (.all fun n k bn => by
   rw [QgJ]
   refine stF (decF (by simp)) ?_
   rw [Qmx, Qd1]
   show (bif decide (((QaF b).length : Int) > 65536) then _ else optO (bytesOf (bcv (QaF b))) _) = _
   by_cases hp : (QaF b).length > 65536
   ·rw [if_pos hp, if_pos hp]
    exact stT (decT (by omega)) rfl
   ·rw [if_neg hp, if_neg hp]
    exact stF (decF (by omega)) (stO _ (QeU _) rfl))
  (fun p x t he h1 h2 h3 ih => by
   have hx : x ∈ b.svs := by rw [← he]; simp
   have hpl : p.length + (t.length + 1) = b.svs.length := by rw [← he]; simp
   have hp : (Qa5 svWs p).length ≤ 200000 * p.length := QdA fun y hy => hl y (by rw [← he]; exact List.mem_append_left _ hy)
   refine Evt.imp2 (Qj5 lb x (h.sv x hx)) ih fun n c hi k hk bn => ?_
   rw [QgJ]
   refine stT (decT h1) (stO _ h2 (stC rfl (stO _ rfl (stO _ rfl (stO _ rfl (stO _ c (stO _ rfl ?_)))))))
   refine QoZ (J := fun q l => QdS lb n k b.loc b.pn (b.ps.map peE) b.grp b.bn (b.segs.map sgE) b.rn (b.svs.map svE) b.lim jx jD ww (IntKind.wrap .i64 ((p.length : Int) + 1)) q l) _ _ bn (by rw [List.length_append]; omega) (Qle _ (hl x hx)) ?_
   have := hi k hk (bn && (bcv (QaO (svWs x) ++ [10])).isEmpty)
   rw [QfE, ← List.append_assoc] at this
   rw [h3]
   exact this) b.svs [] rfl)).mono fun n hq bn => by
   rw [Qmw]
   have := hq bn
   rw [show Qa5 svWs ([] : List Sv) = [] from rfl, List.append_nil] at this
   exact this
theorem QBr (b : Bk) (h : PrOk b) (jx jD : CV) (ww : Bs) : Evt fun n => ∀ bn, Qgx lb n b.loc b.pn (b.ps.map peE) b.grp b.bn (b.segs.map sgE) b.rn (b.svs.map svE) b.lim jx jD ww bn (bcv (Qig b)) = some (.tup [.str (if (QaF b).length > 65536 then [] else QaF b), .int .i64 (if (QaF b).length > 65536 then 4 else 0)]) := by
 have hn := h.sgn
 have hl := QvX h
 have hT := Qer h
 refine (Evt.diag (QcT (enc := sgE) (l := b.segs) (P := fun p t n k => ∀ bn, QdQ lb n k b.loc b.pn (b.ps.map peE) b.grp b.bn (b.segs.map sgE) b.rn (b.svs.map svE) b.lim jx jD ww (p.length : Int) bn (bcv (Qig b ++ Qa5 sgWs p)) = some (.tup [.str (if (QaF b).length > 65536 then [] else QaF b), .int .i64 (if (QaF b).length > 65536 then 4 else 0)])) (by omega)
  ((QA3 lb b h jx jD ww).mono fun n hj k bn => by
    rw [QgM]
    exact stF (decF (by simp)) (hj bn))
  (fun p x t he h1 h2 h3 ih => by
   have hx : x ∈ b.segs := by rw [← he]; simp
   have hpl : p.length + (t.length + 1) = b.segs.length := by rw [← he]; simp
   have hp : (Qa5 sgWs p).length ≤ 200000 * p.length := QdA fun y hy => hl y (by rw [← he]; exact List.mem_append_left _ hy)
   refine Evt.imp2 (QoF lb x (h.sg x hx)) ih fun n c hi k hk bn => ?_
   rw [QgM]
   refine stT (decT h1) (stO _ h2 (stC rfl (stO _ rfl (stO _ rfl (stO _ rfl (stO _ rfl (stO _ rfl (stO _ rfl (stO _ rfl (stO _ rfl (stO _ rfl (stO _ rfl (stO _ c (stO _ rfl ?_))))))))))))))
   refine QoZ (J := fun q l => QdQ lb n k b.loc b.pn (b.ps.map peE) b.grp b.bn (b.segs.map sgE) b.rn (b.svs.map svE) b.lim jx jD ww (IntKind.wrap .i64 ((p.length : Int) + 1)) q l) _ _ bn (by rw [List.length_append]; omega) (Qle _ (hl x hx)) ?_
   have := hi k hk (bn && (bcv (QaO (sgWs x) ++ [10])).isEmpty)
   rw [QfE, ← List.append_assoc] at this
   rw [h3]
   exact this) b.segs [] rfl)).mono fun n hq bn => by
   rw [Qmq]
   have := hq bn
   rw [show Qa5 sgWs ([] : List Sg) = [] from rfl, List.append_nil] at this
   exact this
theorem QAW (b : Bk) (h : PrOk b) (jx jD : CV) (ww : Bs) : Evt fun n => ∀ bn, booking_Print_L1 lb n n b.loc b.pn (b.ps.map peE) b.grp b.bn (b.segs.map sgE) b.rn (b.svs.map svE) b.lim jx jD ww 0 bn (bcv (Qfb b)) = some (.tup [.str (if (QaF b).length > 65536 then [] else QaF b), .int .i64 (if (QaF b).length > 65536 then 4 else 0)]) := by
 have hn := h.psn
 have hl := QvT h
 have hT := Qer h
 refine (Evt.diag (QcT (enc := peE) (l := b.ps) (P := fun p t n k => ∀ bn, booking_Print_L1 lb n k b.loc b.pn (b.ps.map peE) b.grp b.bn (b.segs.map sgE) b.rn (b.svs.map svE) b.lim jx jD ww (p.length : Int) bn (bcv (Qfb b ++ Qa5 peWs p)) = some (.tup [.str (if (QaF b).length > 65536 then [] else QaF b), .int .i64 (if (QaF b).length > 65536 then 4 else 0)])) (by omega)
  ((QBr lb b h jx jD ww).mono fun n hj k bn => by
    rw [QgQ]
    exact stF (decF (by simp)) (hj bn))
  (fun p x t he h1 h2 h3 ih => by
   have hx : x ∈ b.ps := by rw [← he]; simp
   have hpl : p.length + (t.length + 1) = b.ps.length := by rw [← he]; simp
   have hp : (Qa5 peWs p).length ≤ 200000 * p.length := QdA fun y hy => hl y (by rw [← he]; exact List.mem_append_left _ hy)
   refine Evt.imp2 (Qlb lb x (h.ps x hx)) ih fun n c hi k hk bn => ?_
   rw [QgQ]
   refine stT (decT h1) (stO _ h2 (stC rfl (stO _ rfl (stO _ rfl (stO _ rfl (stO _ c (stO _ rfl ?_)))))))
   refine QoZ (J := fun q l => booking_Print_L1 lb n k b.loc b.pn (b.ps.map peE) b.grp b.bn (b.segs.map sgE) b.rn (b.svs.map svE) b.lim jx jD ww (IntKind.wrap .i64 ((p.length : Int) + 1)) q l) _ _ bn (by rw [List.length_append]; omega) (Qle _ (hl x hx)) ?_
   have := hi k hk (bn && (bcv (QaO (peWs x) ++ [10])).isEmpty)
   rw [QfE, ← List.append_assoc] at this
   rw [h3]
   exact this) b.ps [] rfl)).mono fun n hq bn => by
   have := hq bn
   rw [show Qa5 peWs ([] : List Pe) = [] from rfl, List.append_nil] at this
   exact this
theorem Qud (f : Fau) (l : List Fau) : atL ((f :: l).map fauE) 0 = some (fauE f) := rfl
theorem Qn2 (b : Bk) (h : PrOk b) (hc : Ret lb Qaa [.agg (bkE b)] (QaY (QcU b))) : Ret lb Qan [.agg (bkE b)] (prV b) := by
 have hT := Qer h
 refine .top rfl (Evt.imp2 (Evt.imp2 hc (QmT lb b h.loc h.lim h.grp) fun n a b => And.intro a b) (QAW lb b h (QaY (QcU b)) (.str (QaO (QbX b))) (QaO (QbX b))) fun n ⟨c1, c2⟩ hL => ?_)
 rw [show top lb n Qan [.agg (bkE b)] = _ from Qo2 lb n b.loc b.pn (b.ps.map peE) b.grp b.bn (b.segs.map sgE) b.rn (b.svs.map svE) b.lim]
 refine stO _ c1 (stO _ rfl ?_)
 unfold prV prT prE
 cases hb : QcU b with
 | cons f l => exact stT (decT (by simp)) (stO _ rfl (stO _ (Qud f l) (stC rfl (stO _ rfl rfl))))
 | nil =>
  refine stF rfl (stO _ c2 (stO _ rfl ?_))
  have h1 : (Qfb b).length = (QaO (QbX b)).length + 1 := by simp [Qfb, lnB]
  refine stC (decT (by simp; omega)) (stC (QkF _) (stC (Qbg (by simp; omega)) ?_))
  rw [hb] at hL
  exact hL _
theorem QAM (b : Bk) (h : PrOk b) (jx jD jl jt : CV) (wK : Bs) (wl yC : Int) : Evt fun n => Qff lb n n b.loc b.pn (b.ps.map peE) b.grp b.bn (b.segs.map sgE) b.rn (b.svs.map svE) b.lim jx wl yC jD jl jt wK (Qh6 b) 0 = some (.tup [.str (if (QaF b).length > 65536 then [] else QaF b), .int .i64 (if (QaF b).length > 65536 then 4 else 0)]) := by
 have hn := h.svn
 have hl := Qwy h
 have hT := Qer h
 refine (Evt.diag (QcT (enc := svE) (l := b.svs) (P := fun p t n k => Qff lb n k b.loc b.pn (b.ps.map peE) b.grp b.bn (b.segs.map sgE) b.rn (b.svs.map svE) b.lim jx wl yC jD jl jt wK (Qh6 b ++ Qa5 svWs p) (p.length : Int) = some (.tup [.str (if (QaF b).length > 65536 then [] else QaF b), .int .i64 (if (QaF b).length > 65536 then 4 else 0)])) (by omega)
  (.all fun n k => by
   rw [QiR]
   refine stF (decF (by simp)) ?_
   rw [Qqw]
   show (bif decide (((QaF b).length : Int) > 65536) then _ else some (CV.tup [.str (QaF b), .int .i64 0])) = _
   by_cases hp : (QaF b).length > 65536
   ·rw [if_pos hp, if_pos hp]
    exact stT (decT (by omega)) rfl
   ·rw [if_neg hp, if_neg hp]
    exact stF (decF (by omega)) rfl)
  (fun p x t he h1 h2 h3 ih => by
   have hx : x ∈ b.svs := by rw [← he]; simp
   have hpl : p.length + (t.length + 1) = b.svs.length := by rw [← he]; simp
   have hp : (Qa5 svWs p).length ≤ 200000 * p.length := QdA fun y hy => hl y (by rw [← he]; exact List.mem_append_left _ hy)
   have hj := Qle _ (hl x hx)
   obtain ⟨k0, k1, k2⟩ := h.sv x hx
   refine Evt.imp2 (Evt.imp2 (Evt.imp2 (Qc2 lb x.pe k1) (Qc2 lb x.sg k2) fun n a b => And.intro a b) (Qhl lb false (svWs x) (by simp [svWs]) (by have := Qta x (h.sv x hx); omega)) fun n a b => And.intro a b) ih fun n ⟨⟨c1, c2⟩, c3⟩ hi k hk => ?_
   rw [QiR]
   refine stT (decT h1) (stO _ h2 (stC rfl (stO _ rfl (stO _ rfl (stO _ rfl (stO _ c1 (stO _ c2 (stC rfl (stC rfl (stC rfl (stO _ c3 (stO _ rfl (stC (decT (by rw [List.length_append]; omega)) (stC (decT (by simp only [List.length_append, List.length_cons, List.length_nil]; omega)) ?_))))))))))))))
   have := hi k hk
   rw [QfE, lnB, ← List.append_assoc, ← List.append_assoc] at this
   rw [h3]
   exact this) b.svs [] rfl)).mono fun n hq => by
   rw [show Qa5 svWs ([] : List Sv) = [] from rfl, List.append_nil] at hq
   exact hq
theorem QAa (b : Bk) (h : PrOk b) (jx jD jl jt : CV) (wK : Bs) (wl : Int) : Evt fun n => Qfi lb n n b.loc b.pn (b.ps.map peE) b.grp b.bn (b.segs.map sgE) b.rn (b.svs.map svE) b.lim jx wl jD jl jt wK (Qig b) 0 = some (.tup [.str (if (QaF b).length > 65536 then [] else QaF b), .int .i64 (if (QaF b).length > 65536 then 4 else 0)]) := by
 have hn := h.sgn
 have hl := QvX h
 have hT := Qer h
 refine (Evt.diag (QcT (enc := sgE) (l := b.segs) (P := fun p t n k => Qfi lb n k b.loc b.pn (b.ps.map peE) b.grp b.bn (b.segs.map sgE) b.rn (b.svs.map svE) b.lim jx wl jD jl jt wK (Qig b ++ Qa5 sgWs p) (p.length : Int) = some (.tup [.str (if (QaF b).length > 65536 then [] else QaF b), .int .i64 (if (QaF b).length > 65536 then 4 else 0)])) (by omega)
  ((QAM lb b h jx jD jl jt wK wl (b.segs.length : Int)).mono fun n hj k => by
    rw [QiQ]
    refine stF (decF (by simp)) ?_
    rw [QpB]
    exact hj)
  (fun p x t he h1 h2 h3 ih => by
   have hx : x ∈ b.segs := by rw [← he]; simp
   have hpl : p.length + (t.length + 1) = b.segs.length := by rw [← he]; simp
   have hp : (Qa5 sgWs p).length ≤ 200000 * p.length := QdA fun y hy => hl y (by rw [← he]; exact List.mem_append_left _ hy)
   have hj := Qle _ (hl x hx)
   refine Evt.imp2 (Qpq lb x (h.sg x hx)) ih fun n c hi k hk => ?_
   rw [QiQ]
   refine stT (decT h1) (stO _ h2 (stC rfl (stO _ rfl (stO _ rfl (stO _ rfl (stO _ rfl (stO _ rfl (stO _ rfl (stO _ rfl (stO _ rfl (stO _ rfl (stO _ rfl (stO _ c (stO _ rfl (stC (decT (by rw [List.length_append]; omega)) (stC (decT (by simp only [List.length_append, List.length_cons, List.length_nil]; omega)) ?_))))))))))))))))
   have := hi k hk
   rw [QfE, lnB, ← List.append_assoc, ← List.append_assoc] at this
   rw [h3]
   exact this) b.segs [] rfl)).mono fun n hq => by
   rw [show Qa5 sgWs ([] : List Sg) = [] from rfl, List.append_nil] at hq
   exact hq
theorem QAe (b : Bk) (h : PrOk b) (jx jD jl jt : CV) (wK : Bs) : Evt fun n => Qfj lb n n b.loc b.pn (b.ps.map peE) b.grp b.bn (b.segs.map sgE) b.rn (b.svs.map svE) b.lim jx jD jl jt wK (Qfb b) 0 = some (.tup [.str (if (QaF b).length > 65536 then [] else QaF b), .int .i64 (if (QaF b).length > 65536 then 4 else 0)]) := by
 have hn := h.psn
 have hl := QvT h
 have hT := Qer h
 refine (Evt.diag (QcT (enc := peE) (l := b.ps) (P := fun p t n k => Qfj lb n k b.loc b.pn (b.ps.map peE) b.grp b.bn (b.segs.map sgE) b.rn (b.svs.map svE) b.lim jx jD jl jt wK (Qfb b ++ Qa5 peWs p) (p.length : Int) = some (.tup [.str (if (QaF b).length > 65536 then [] else QaF b), .int .i64 (if (QaF b).length > 65536 then 4 else 0)])) (by omega)
  ((QAa lb b h jx jD jl jt wK (b.ps.length : Int)).mono fun n hj k => by
    rw [QiX]
    refine stF (decF (by simp)) ?_
    rw [QpJ]
    exact hj)
  (fun p x t he h1 h2 h3 ih => by
   have hx : x ∈ b.ps := by rw [← he]; simp
   have hpl : p.length + (t.length + 1) = b.ps.length := by rw [← he]; simp
   have hp : (Qa5 peWs p).length ≤ 200000 * p.length := QdA fun y hy => hl y (by rw [← he]; exact List.mem_append_left _ hy)
   have hj := Qle _ (hl x hx)
   refine Evt.imp2 (Evt.imp2 (QsY lb x (h.ps x hx)) (Qhl lb false (peWs x) (by simp [peWs]) (by have := QuB x (h.ps x hx); omega)) fun n a b => And.intro a b) ih fun n ⟨c1, c2⟩ hi k hk => ?_
   rw [QiX]
   refine stT (decT h1) (stO _ h2 (stC rfl (stO _ rfl (stO _ rfl (stO _ rfl (stO _ c1 (stO _ rfl (stO _ rfl (stO _ rfl (stO _ rfl (stC rfl (stO _ c2 (stO _ rfl (stC (decT (by rw [List.length_append]; omega)) (stC (decT (by simp only [List.length_append, List.length_cons, List.length_nil]; omega)) ?_)))))))))))))))
   have := hi k hk
   rw [QfE, lnB, ← List.append_assoc, ← List.append_assoc] at this
   rw [h3]
   exact this) b.ps [] rfl)).mono fun n hq => by
   rw [show Qa5 peWs ([] : List Pe) = [] from rfl, List.append_nil] at hq
   exact hq
theorem QsB (b : Bk) (h : PrOk b) (hc : Ret lb Qag [.agg (bkE b)] (QaY (QcU b))) : Ret lb QaB [.agg (bkE b)] (prV b) := by
 have hT := Qer h
 have hs := Qo7 b h.loc h.lim h.grp
 refine .top rfl (Evt.imp2 (Evt.imp2 hc (Evt.imp2 (Evt.imp2 (Qc2 lb b.lim h.lim) (Qc2 lb b.grp h.grp) fun n a b => And.intro a b) (Qhl lb false (QbX b) (by simp [QbX]) (by omega)) fun n a b => And.intro a b) fun n a b => And.intro a b) (QAe lb b h (QaY (QcU b)) (.str (Lib.itoa b.lim)) (.str (Lib.itoa b.grp)) (.str (QaO (QbX b))) (QaO (QbX b))) fun n ⟨c1, ⟨c2, c3⟩, c4⟩ hL => ?_)
 rw [show top lb n QaB [.agg (bkE b)] = _ from Qt0 lb n b.loc b.pn (b.ps.map peE) b.grp b.bn (b.segs.map sgE) b.rn (b.svs.map svE) b.lim]
 refine stO _ c1 (stO _ rfl ?_)
 unfold prV prT prE
 cases hb : QcU b with
 | cons f l => exact stT (decT (by simp)) (stO _ rfl (stO _ (Qud f l) (stC rfl (stO _ rfl rfl))))
 | nil =>
  have h1 : (Qfb b).length = (QaO (QbX b)).length + 1 := by simp [Qfb, lnB]
  rw [hb] at hL
  exact stF rfl (stO _ c2 (stO _ c3 (stC rfl (stC rfl (stO _ c4 (stO _ rfl (stC (decT (by simp; omega)) hL)))))))
end Go.Proofs
set_option linter.unusedSimpArgs false
set_option linter.unusedVariables false
namespace Go.Proofs
open Go.Am
theorem Qpu {c : UInt8} : ∀ {s : Bs}, c ∉ s → Lib.index s [c] = -1
 | [], _ => by simp [Lib.index]
 | x :: s, h => by
  have h1 : x ≠ c := fun e => h (by rw [e]; exact List.mem_cons_self ..)
  rw [QiI s h1, Qpu (fun q => h (List.mem_cons_of_mem _ q))]
  rfl
theorem Qok {c : UInt8} (r : Bs) : ∀ {p : Bs}, c ∉ p → Lib.index (p ++ c :: r) [c] = (p.length : Int)
 | [], _ => QiH c r
 | x :: p, h => by
  have h1 : x ≠ c := fun e => h (by rw [e]; exact List.mem_cons_self ..)
  have ih := Qok r (p := p) (fun q => h (List.mem_cons_of_mem _ q))
  rw [List.cons_append, QiI _ h1, ih, if_neg (by omega), List.length_cons]
  omega
theorem QxP {c : UInt8} {s : Bs} (h : c ∉ s) : Lib.cut s [c] = (s, [], false) := by
 unfold Lib.cut
 rw [Qpu h]
 rfl
theorem Qxa {c : UInt8} {p : Bs} (r : Bs) (h : c ∉ p) : Lib.cut (p ++ c :: r) [c] = (p, r, true) := by
 unfold Lib.cut
 rw [Qok r h, if_pos (by omega)]
 simp
theorem QkI (c x : UInt8) (r : Bs) : QaL c (x :: r) = if x = c then [] :: QaL c r else match QaL c r with
  | w :: ws => (x :: w) :: ws
  | [] => [[x]] := rfl
theorem Qov {c : UInt8} : ∀ {s : Bs}, c ∉ s → QaL c s = [s]
 | [], _ => rfl
 | x :: s, h => by
  have h1 : x ≠ c := fun e => h (by rw [e]; exact List.mem_cons_self ..)
  rw [QkI, if_neg h1, Qov (fun q => h (List.mem_cons_of_mem _ q))]
theorem QdT {c : UInt8} (r : Bs) : ∀ {p : Bs}, c ∉ p → QaL c (p ++ c :: r) = p :: QaL c r
 | [], _ => by
  rw [List.nil_append, QkI, if_pos rfl]
 | x :: p, h => by
  have h1 : x ≠ c := fun e => h (by rw [e]; exact List.mem_cons_self ..)
  rw [List.cons_append, QkI, if_neg h1, QdT r (fun q => h (List.mem_cons_of_mem _ q))]
theorem QlW {c : UInt8} : ∀ s : Bs, c ∉ s ∨ ∃ p r, s = p ++ c :: r ∧ c ∉ p
 | [] => .inl (by simp)
 | x :: s => by
  by_cases hx : x = c
  ·exact .inr ⟨[], s, by rw [hx]; rfl, by simp⟩
  ·rcases QlW (c := c) s with h | ⟨p, r, h1, h2⟩
   ·exact .inl (by simp only [List.mem_cons, not_or]; exact ⟨fun e => hx e.symm, h⟩)
   ·exact .inr ⟨x :: p, r, by rw [h1]; rfl, by simp only [List.mem_cons, not_or]; exact ⟨fun e => hx e.symm, h2⟩⟩
def Qar (w : Bs) : Int := if bookingW = w then 0 else if personW = w then 1 else if segWd = w then 2 else if serviceW = w then 3 else -1
def zPe : Pe := ⟨[], [], []⟩
def peR (s : Bs) : Pe × Int :=
 if Lib.indexByte s 47 < 0 ∨ s.count 47 ≠ 1 ∨ QaW s 32 s.length < Lib.indexByte s 47 then (zPe, 3)
 else if peP ⟨s.take (Lib.indexByte s 47).toNat, (s.take (QaW s 32 s.length).toNat).drop (Lib.indexByte s 47 + 1).toNat, s.drop (QaW s 32 s.length + 1).toNat⟩ ≠ 0 then
  (zPe, peP ⟨s.take (Lib.indexByte s 47).toNat, (s.take (QaW s 32 s.length).toNat).drop (Lib.indexByte s 47 + 1).toNat, s.drop (QaW s 32 s.length + 1).toNat⟩)
 else (⟨s.take (Lib.indexByte s 47).toNat, (s.take (QaW s 32 s.length).toNat).drop (Lib.indexByte s 47 + 1).toNat, s.drop (QaW s 32 s.length + 1).toNat⟩, 0)
def staR (s : Bs) : Int × Int := if Qb8 1 = s then (1, 0) else if Qb8 2 = s then (2, 0) else if Qb8 3 = s then (3, 0) else if Qb8 4 = s then (4, 0) else if Qb8 5 = s then (5, 0) else if Qb8 6 = s then (6, 0) else if Qb8 7 = s then (7, 0) else (0, 3)
def QaV : List Bs → Option (List Int)
 | [] => some []
 | w :: t => if (numB w).2 ≠ 0 then none else (QaV t).map ((numB w).1 :: ·)
def zBk : Bk := ⟨[], true, [], 0, true, [], true, [], 0⟩
def Qey (b : Bk) : List Bs → Bk × Int
 | [_, l, x, y] => match QaV [x, y] with
  | some [lim, grp] => ({ b with loc := l, lim := lim, grp := grp }, 0)
  | _ => (b, 3)
 | _ => (b, 3)
def QeC (b : Bk) : List Bs → Bk × Int
 | [_, x] => if (peR x).2 ≠ 0 then (b, (peR x).2) else ({ b with pn := false, ps := b.ps ++ [(peR x).1] }, 0)
 | _ => (b, 3)
def segR (b : Bk) : List Bs → Bk × Int
 | [_, c, nu, da, fr, tq, de, ar, cl, st, ma] => match QaV [nu, da, de, ar, ma] with
  | some [a1, a2, a3, a4, a5] => if (staR st).2 ≠ 0 then (b, (staR st).2) else ({ b with bn := false, segs := b.segs ++ [⟨c, a1, a2, fr, tq, a3, a4, cl, (staR st).1, a5⟩] }, 0)
  | _ => (b, 3)
 | _ => (b, 3)
def Qex (b : Bk) : List Bs → Bk × Int
 | [_, c, x, y] => match QaV [x, y] with
  | some [pe, sg] => ({ b with rn := false, svs := b.svs ++ [⟨c, pe, sg⟩] }, 0)
  | _ => (b, 3)
 | _ => (b, 3)
def Qe5 (b : Bk) (k : Int) (w : List Bs) : Bk × Int := if k = 0 then Qey b w else if k = 1 then QeC b w else if k = 2 then segR b w else Qex b w
def QyS (b : Bk) (kind : Int) (first : Bool) (w : Bs) (t : List Bs) : (Bk × Int) × Int :=
 if Qar w < 0 ∨ (Qar w == 0) ≠ first ∨ Qar w < kind then ((b, kind), 3) else (((Qe5 b (Qar w) (w :: t)).1, Qar w), (Qe5 b (Qar w) (w :: t)).2)
def QaX (b : Bk) (kind : Int) (first : Bool) (s : Bs) : (Bk × Int) × Int := match QbS s with
 | some (w :: t) => QyS b kind first w t
 | _ => ((b, kind), 3)
def endF (b : Bk) : Bk × Int × Int := match QcU b with
 | f :: _ => (zBk, 0, f.1)
 | [] => (b, 0, 0)
def Qfc : Bk → Int → Nat → List Bs → Bk × Int × Int
 | _, _, i, [] => (zBk, (i : Int) + 1, 3)
 | b, kind, i, [s] => if s = [] ∧ i ≠ 0 then endF b else (zBk, (i : Int) + 1, 3)
 | b, kind, i, s :: t :: r => if (QaX b kind (i == 0) s).2 ≠ 0 then (zBk, (i : Int) + 1, (QaX b kind (i == 0) s).2) else Qfc (QaX b kind (i == 0) s).1.1 (QaX b kind (i == 0) s).1.2 (i + 1) (t :: r)
def QjR (s : Bs) : Bk × Int × Int := if s.length > 65536 then (zBk, 0, 4) else Qfc zBk 0 0 (QaL 10 s)
def psV (p : Bk × Int × Int) : CV := .tup [.agg (bkE p.1), .int .i64 p.2.1, .int .i64 p.2.2]
theorem QeW (w : Bs) : (Qar w = 0 ∧ w = bookingW) ∨ (Qar w = 1 ∧ w = personW) ∨ (Qar w = 2 ∧ w = segWd) ∨ (Qar w = 3 ∧ w = serviceW) ∨ Qar w = -1 := by
 unfold Qar
 by_cases h0 : bookingW = w
 ·exact .inl ⟨if_pos h0, h0.symm⟩
 ·rw [if_neg h0]
  by_cases h1 : personW = w
  ·exact .inr (.inl ⟨if_pos h1, h1.symm⟩)
  ·rw [if_neg h1]
   by_cases h2 : segWd = w
   ·exact .inr (.inr (.inl ⟨if_pos h2, h2.symm⟩))
   ·rw [if_neg h2]
    by_cases h3 : serviceW = w
    ·exact .inr (.inr (.inr (.inl ⟨if_pos h3, h3.symm⟩)))
    ·rw [if_neg h3]
     exact .inr (.inr (.inr (.inr rfl)))
theorem Qsd {s : Bs} (h : (staR s).2 = 0) : s = staT (staR s).1 ∧ (1 ≤ (staR s).1 ∧ (staR s).1 ≤ 7) := by
 unfold staR at h ⊢
 by_cases h1 : Qb8 1 = s
 ·rw [if_pos h1]; exact ⟨h1.symm, by decide⟩
 rw [if_neg h1] at h ⊢
 by_cases h2 : Qb8 2 = s
 ·rw [if_pos h2]; exact ⟨h2.symm, by decide⟩
 rw [if_neg h2] at h ⊢
 by_cases h3 : Qb8 3 = s
 ·rw [if_pos h3]; exact ⟨h3.symm, by decide⟩
 rw [if_neg h3] at h ⊢
 by_cases h4 : Qb8 4 = s
 ·rw [if_pos h4]; exact ⟨h4.symm, by decide⟩
 rw [if_neg h4] at h ⊢
 by_cases h5 : Qb8 5 = s
 ·rw [if_pos h5]; exact ⟨h5.symm, by decide⟩
 rw [if_neg h5] at h ⊢
 by_cases h6 : Qb8 6 = s
 ·rw [if_pos h6]; exact ⟨h6.symm, by decide⟩
 rw [if_neg h6] at h ⊢
 by_cases h7 : Qb8 7 = s
 ·rw [if_pos h7]; exact ⟨h7.symm, by decide⟩
 rw [if_neg h7] at h
 exact absurd h (by decide)
theorem Qws {x : Int} (h : stOk x = true) : staR (staT x) = (x, 0) := by
 have h' : 1 ≤ x ∧ x ≤ 7 := by simpa [stOk] using h
 have : x = 1 ∨ x = 2 ∨ x = 3 ∨ x = 4 ∨ x = 5 ∨ x = 6 ∨ x = 7 := by omega
 rcases this with rfl | rfl | rfl | rfl | rfl | rfl | rfl <;> decide
theorem Qip {x y : Bs} {l : List Int} (h : QaV [x, y] = some l) : l = [(numB x).1, (numB y).1] ∧ (numB x).2 = 0 ∧ (numB y).2 = 0 := by
 unfold QaV QaV QaV at h
 by_cases h1 : (numB x).2 ≠ 0
 ·rw [if_pos h1] at h; cases h
 ·rw [if_neg h1] at h
  by_cases h2 : (numB y).2 ≠ 0
  ·rw [if_pos h2] at h; cases h
  ·rw [if_neg h2] at h
   cases h
   exact ⟨rfl, by omega, by omega⟩
theorem QlU {a b c d e : Bs} {l : List Int} (h : QaV [a, b, c, d, e] = some l) : l = [(numB a).1, (numB b).1, (numB c).1, (numB d).1, (numB e).1] ∧ (numB a).2 = 0 ∧ (numB b).2 = 0 ∧ (numB c).2 = 0 ∧ (numB d).2 = 0 ∧ (numB e).2 = 0 := by
 unfold QaV at h
 by_cases h1 : (numB a).2 ≠ 0
 ·rw [if_pos h1] at h; cases h
 rw [if_neg h1] at h
 unfold QaV at h
 by_cases h2 : (numB b).2 ≠ 0
 ·rw [if_pos h2] at h; cases h
 rw [if_neg h2] at h
 unfold QaV at h
 by_cases h3 : (numB c).2 ≠ 0
 ·rw [if_pos h3] at h; cases h
 rw [if_neg h3] at h
 cases q : QaV [d, e] with
 | none => rw [q] at h; cases h
 | some m =>
  rw [q] at h
  obtain ⟨hm, k1, k2⟩ := Qip q
  cases h
  rw [hm]
  exact ⟨rfl, by omega, by omega, by omega, k1, k2⟩
theorem Qch {s : Bs} (h : (numB s).2 = 0) : s = Lib.itoa (numB s).1 ∧ J64 (numB s).1 := by
 have e : numB s = ((numB s).1, 0) := by rw [← h]
 obtain ⟨h1, h2, h3⟩ := QwZ e
 exact ⟨h1, h2, h3⟩
theorem Qgr (z : Int) (h : J64 z) : numB (Lib.itoa z) = (z, 0) := Qxy z h.1 h.2
theorem QuA (x y : Int) (hx : J64 x) (hy : J64 y) : QaV [Lib.itoa x, Lib.itoa y] = some [x, y] := by
 simp [QaV, Qgr x hx, Qgr y hy]
theorem QwR (a b c d e : Int) (ha : J64 a) (hb : J64 b) (hc : J64 c) (hd : J64 d) (he : J64 e) : QaV [Lib.itoa a, Lib.itoa b, Lib.itoa c, Lib.itoa d, Lib.itoa e] = some [a, b, c, d, e] := by
 simp [QaV, Qgr _ ha, Qgr _ hb, Qgr _ hc, Qgr _ hd, Qgr _ he]
theorem Qe9 {c : UInt8} (r : Bs) : ∀ {p : Bs}, c ∉ p → Lib.indexByte (p ++ c :: r) c = (p.length : Int)
 | [], _ => by simp [Lib.indexByte]
 | x :: p, h => by
  have h1 : (x == c) = false := by
   simp only [beq_eq_false_iff_ne, ne_eq]
   exact fun e => h (by rw [e]; exact List.mem_cons_self ..)
  have ih := Qe9 r (p := p) (fun q => h (List.mem_cons_of_mem _ q))
  rw [List.cons_append]
  unfold Lib.indexByte
  rw [h1, ih]
  have : ((p.length : Int) == -1) = false := by simp only [beq_eq_false_iff_ne, ne_eq]; omega
  simp [this]
theorem QiC {c : UInt8} : ∀ {s : Bs}, c ∉ s → Lib.indexByte s c = -1
 | [], _ => rfl
 | x :: p, h => by
  have h1 : (x == c) = false := by
   simp only [beq_eq_false_iff_ne, ne_eq]
   exact fun e => h (by rw [e]; exact List.mem_cons_self ..)
  have ih := QiC (s := p) (fun q => h (List.mem_cons_of_mem _ q))
  unfold Lib.indexByte
  rw [h1, ih]; rfl
theorem QkC {s : Bs} {c : UInt8} (h : c ∉ s) : ∀ k, k ≤ s.length → QaW s c.toNat k = -1
 | 0, _ => rfl
 | k + 1, hk => by
  unfold QaW
  rw [QkC h k (by omega)]
  have hg : s[k]? = some s[k] := List.getElem?_eq_getElem (by omega)
  rw [hg, if_neg]
  simp only [Option.getD_some]
  intro e
  have e2 : s[k] = c := Qdd (by omega)
  exact h (by rw [← e2]; exact List.getElem_mem _)
theorem QmA {c : UInt8} (p : Bs) : ∀ {r : Bs}, c ∉ r → ∀ k, k ≤ r.length → QaW (p ++ c :: r) c.toNat (p.length + 1 + k) = (p.length : Int)
 | r, h, 0, _ => by
  show QaW (p ++ c :: r) c.toNat (p.length + 1) = _
  unfold QaW
  rw [if_pos]
  simp
 | r, h, k + 1, hk => by
  show QaW (p ++ c :: r) c.toNat ((p.length + 1 + k) + 1) = _
  unfold QaW
  rw [QmA p h k (by omega)]
  have hg : (p ++ c :: r)[p.length + 1 + k]? = some r[k] := by
   rw [List.getElem?_append_right (by omega)]
   rw [show p.length + 1 + k - p.length = k + 1 by omega, List.getElem?_cons_succ]
   exact List.getElem?_eq_getElem (by omega)
  rw [hg, if_neg]
  simp only [Option.getD_some]
  intro e
  have e2 : r[k] = c := Qdd (by omega)
  exact h (by rw [← e2]; exact List.getElem_mem _)
theorem Qrg {c : UInt8} : ∀ s : Bs, c ∉ s ∨ ∃ p r, s = p ++ c :: r ∧ c ∉ r
 | [] => .inl (by simp)
 | x :: s => by
  rcases Qrg (c := c) s with h | ⟨p, r, h1, h2⟩
  ·by_cases hx : x = c
   ·exact .inr ⟨[], s, by rw [hx]; rfl, h⟩
   ·exact .inl (by simp only [List.mem_cons, not_or]; exact ⟨fun e => hx e.symm, h⟩)
  ·exact .inr ⟨x :: p, r, by rw [h1]; rfl, h2⟩
theorem QkE {c : UInt8} (p : Bs) {r : Bs} (h : c ∉ r) : QaW (p ++ c :: r) c.toNat (p ++ c :: r).length = (p.length : Int) := by
 have := QmA p h r.length (Nat.le_refl _)
 rw [show (p ++ c :: r).length = p.length + 1 + r.length by simp <;> omega]
 exact this
theorem QrW (la fi ty : Bs) (h1 : (47 : UInt8) ∉ la) (h2 : (47 : UInt8) ∉ fi) (h3 : (47 : UInt8) ∉ ty) (h4 : (32 : UInt8) ∉ ty) : peR ((((la ++ [47]) ++ fi) ++ [32]) ++ ty) = if peP ⟨la, fi, ty⟩ ≠ 0 then (zPe, peP ⟨la, fi, ty⟩) else (⟨la, fi, ty⟩, 0) := by
 have e1 : (((la ++ [47]) ++ fi) ++ [32]) ++ ty = la ++ 47 :: (fi ++ 32 :: ty) := by simp
 have e2 : (((la ++ [47]) ++ fi) ++ [32]) ++ ty = (la ++ 47 :: fi) ++ 32 :: ty := by simp
 have i1 : Lib.indexByte ((((la ++ [47]) ++ fi) ++ [32]) ++ ty) 47 = (la.length : Int) := by rw [e1]; exact Qe9 _ h1
 have i2 : QaW ((((la ++ [47]) ++ fi) ++ [32]) ++ ty) 32 ((((la ++ [47]) ++ fi) ++ [32]) ++ ty).length = ((la.length + 1 + fi.length : Nat) : Int) := by
  rw [e2]
  have := QkE (c := 32) (la ++ 47 :: fi) h4
  rw [show ((la ++ 47 :: fi).length : Int) = ((la.length + 1 + fi.length : Nat) : Int) by simp <;> omega] at this
  exact this
 have i3 : (((((la ++ [47]) ++ fi) ++ [32]) ++ ty)).count 47 = 1 := by
  rw [e1, List.count_append, List.count_cons, List.count_append, List.count_cons, List.count_eq_zero_of_not_mem h1, List.count_eq_zero_of_not_mem h2, List.count_eq_zero_of_not_mem h3]
  rfl
 have t1 : ((((la ++ [47]) ++ fi) ++ [32]) ++ ty).take ((la.length : Int)).toNat = la := by rw [e1]; simp
 have t2 : (((((la ++ [47]) ++ fi) ++ [32]) ++ ty).take (((la.length + 1 + fi.length : Nat) : Int)).toNat).drop ((la.length : Int) + 1).toNat = fi := by
  rw [e2, Int.toNat_natCast, show la.length + 1 + fi.length = (la ++ 47 :: fi).length by simp <;> omega, List.take_left, show ((la.length : Int) + 1).toNat = (la ++ [47]).length by simp <;> omega, show la ++ 47 :: fi = (la ++ [47]) ++ fi by simp, List.drop_left]
 have t3 : ((((la ++ [47]) ++ fi) ++ [32]) ++ ty).drop (((la.length + 1 + fi.length : Nat) : Int) + 1).toNat = ty := by
  rw [show (((la.length + 1 + fi.length : Nat) : Int) + 1).toNat = (((la ++ [47]) ++ fi) ++ [32]).length by simp <;> omega, List.drop_left]
 unfold peR
 rw [i1, i2, i3, t1, t2, t3, if_neg (by omega)]
theorem QyA {p : Pe} (h : ¬ peP p ≠ 0) : QbP p = true ∧ Qb9 p = true := by
 unfold peP at h
 cases h1 : QbP p with
 | false => rw [h1] at h; exact absurd (show (5 : Int) ≠ 0 by decide) h
 | true =>
  cases h2 : Qb9 p with
  | false => rw [h1, h2] at h; exact absurd (show (8 : Int) ≠ 0 by decide) h
  | true => exact ⟨rfl, rfl⟩
theorem Qwo {c : UInt8} (hc : isUp c = false) (h32 : c.toNat ≠ 32) : ∀ (s : Bs) (b : Bool), nmB b s = true → c ∉ s
 | [], _, _ => by simp
 | x :: s, b, h => by
  unfold nmB at h
  intro hm
  rcases List.mem_cons.1 hm with e | hm
  ·subst e
   rw [hc] at h
   simp [h32] at h
  ·split at h
   ·exact Qwo hc h32 s false h hm
   ·split at h
    ·exact Qwo hc h32 s true (Bool.and_eq_true_iff.1 h).2 hm
    ·exact absurd h (by decide)
theorem Qvy {c : UInt8} (hc : isUp c = false) (h32 : c.toNat ≠ 32) {s : Bs} (h : Qgm s = true) : c ∉ s := Qwo hc h32 s true (Bool.and_eq_true_iff.1 h).2
theorem Qvu {c : UInt8} (hc : isCd c = false) {s : Bs} {a b : Int} (h : Qb7 s a b = true) : c ∉ s := by
 intro hm
 have := List.all_eq_true.1 (Bool.and_eq_true_iff.1 (Bool.and_eq_true_iff.1 h).2).2 c hm
 rw [hc] at this; cases this
theorem QwO {p : Pe} (h1 : QbP p = true) (h2 : Qb9 p = true) : peR (peT p) = (p, 0) := by
 obtain ⟨n1, n2⟩ := Bool.and_eq_true_iff.1 h1
 have e : peT p = (((p.la ++ [47]) ++ p.fi) ++ [32]) ++ p.ty := by unfold peT; rw [h1, h2]; rfl
 rw [e, QrW p.la p.fi p.ty (Qvy (by decide) (by decide) n1) (Qvy (by decide) (by decide) n2) (Qvu (by decide) h2) (Qvu (by decide) h2)]
 have : peP p = 0 := by unfold peP; rw [h1, h2]; rfl
 rw [show peP ⟨p.la, p.fi, p.ty⟩ = 0 from this, if_neg (by decide)]
theorem QtV {s : Bs} (h : (peR s).2 = 0) : peT (peR s).1 = s ∧ ((peR s).1.la.length ≤ s.length ∧ (peR s).1.fi.length ≤ s.length ∧ (peR s).1.ty.length ≤ s.length) := by
 by_cases hc : Lib.indexByte s 47 < 0 ∨ s.count 47 ≠ 1 ∨ QaW s 32 s.length < Lib.indexByte s 47
 ·unfold peR at h
  rw [if_pos hc] at h
  exact absurd h (by decide)
 ·have hi : ¬ Lib.indexByte s 47 < 0 := fun e => hc (.inl e)
  have hn : ¬ s.count 47 ≠ 1 := fun e => hc (.inr (.inl e))
  have hk : ¬ QaW s 32 s.length < Lib.indexByte s 47 := fun e => hc (.inr (.inr e))
  rcases QlW (c := 47) s with h0 | ⟨la, r, hs, h1⟩
  ·rw [QiC h0] at hi; exact absurd (by decide) hi
  have i1 : Lib.indexByte s 47 = (la.length : Int) := by rw [hs]; exact Qe9 _ h1
  have hr : (47 : UInt8) ∉ r := by
   rw [hs, List.count_append, List.count_cons, List.count_eq_zero_of_not_mem h1] at hn
   intro hm
   have := List.count_pos_iff.2 hm
   simp at hn; omega
  rcases Qrg (c := 32) s with h0 | ⟨q, ty, hq, h2⟩
  ·have := QkC h0 s.length (Nat.le_refl _)
   rw [show (((32 : UInt8).toNat : Nat) : Int) = 32 from rfl] at this
   rw [this, i1] at hk
   omega
  have i2 : QaW s 32 s.length = (q.length : Int) := by
   have := QkE (c := 32) q h2
   rw [← hq] at this; exact this
  rw [i1, i2] at hk
  rcases List.append_eq_append_iff.1 (hs.symm.trans hq) with ⟨m, e1, e2⟩ | ⟨m, e1, e2⟩
  ·cases m with
   | nil => exact absurd (congrArg (fun l : Bs => l.headD 0) e2) (by simp)
   | cons x fi =>
    have e3 : r = fi ++ 32 :: ty := by
     rw [List.cons_append] at e2
     exact (List.cons.inj e2).2
    have e4 : s = (((la ++ [47]) ++ fi) ++ [32]) ++ ty := by rw [hs, e3]; simp
    have hf : (47 : UInt8) ∉ fi := fun hm => hr (by rw [e3]; exact List.mem_append_left _ hm)
    have ht : (47 : UInt8) ∉ ty := fun hm => hr (by rw [e3]; exact List.mem_append_right _ (List.mem_cons_of_mem _ hm))
    have hp := QrW la fi ty h1 hf ht h2
    rw [← e4] at hp
    by_cases hz : peP ⟨la, fi, ty⟩ ≠ 0
    ·rw [if_pos hz] at hp; rw [hp] at h; exact absurd h hz
    ·rw [if_neg hz] at hp
     obtain ⟨n1, n2⟩ := QyA hz
     rw [hp]
     refine ⟨?_, ?_⟩
     ·unfold peT
      rw [n1, n2, e4]; rfl
     ·have := congrArg List.length e4
      simp at this
      exact ⟨by simp <;> omega, by simp <;> omega, by simp <;> omega⟩
  ·cases m with
   | nil => exact absurd (congrArg (fun l : Bs => l.headD 0) e2) (by simp)
   | cons x m =>
    have := congrArg List.length e1
    simp at this; omega
theorem QrO : ∀ l : List Bs, Qa7 l ≤ (QaO l).length
 | [] => by simp [Qa7]
 | [w] => by
  have := (Qiq w).1
  simpa [Qa7, QaO] using this
 | w :: x :: r => by
  have h2 := QrO (x :: r)
  have h3 := (Qiq w).1
  rw [QeE w (by simp), Qee]
  simp only [List.length_append, List.length_cons]
  omega
theorem QnN (b : Bk) (w l x y : Bs) : Qey b [w, l, x, y] = match QaV [x, y] with
  | some [lim, grp] => ({ b with loc := l, lim := lim, grp := grp }, 0)
  | _ => (b, 3) := rfl
theorem QnZ (b : Bk) (w x : Bs) : QeC b [w, x] = if (peR x).2 ≠ 0 then (b, (peR x).2) else ({ b with pn := false, ps := b.ps ++ [(peR x).1] }, 0) := rfl
theorem QkP (b : Bk) (w c nu da fr tq de ar cl st ma : Bs) : segR b [w, c, nu, da, fr, tq, de, ar, cl, st, ma] = match QaV [nu, da, de, ar, ma] with
  | some [a1, a2, a3, a4, a5] => if (staR st).2 ≠ 0 then (b, (staR st).2) else ({ b with bn := false, segs := b.segs ++ [⟨c, a1, a2, fr, tq, a3, a4, cl, (staR st).1, a5⟩] }, 0)
  | _ => (b, 3) := rfl
theorem QnO (b : Bk) (w c x y : Bs) : Qex b [w, c, x, y] = match QaV [x, y] with
  | some [pe, sg] => ({ b with rn := false, svs := b.svs ++ [⟨c, pe, sg⟩] }, 0)
  | _ => (b, 3) := rfl
theorem Qus {b : Bk} {w : Bs} {t : List Bs} (h : t.length ≠ 10) : segR b (w :: t) = (b, 3) := by
 unfold segR
 split
 ·rename_i e
  have := congrArg List.length e
  simp at this
  exact absurd this h
 ·rfl
theorem Qr8 {b : Bk} {w : Bs} {t : List Bs} (h : t.length ≠ 3) : Qey b (w :: t) = (b, 3) := by
 unfold Qey
 split
 ·rename_i e
  have := congrArg List.length e
  simp at this
  exact absurd this h
 ·rfl
theorem Qsl {b : Bk} {w : Bs} {t : List Bs} (h : t.length ≠ 3) : Qex b (w :: t) = (b, 3) := by
 unfold Qex
 split
 ·rename_i e
  have := congrArg List.length e
  simp at this
  exact absurd this h
 ·rfl
theorem Qsh {b : Bk} {w : Bs} {t : List Bs} (h : t.length ≠ 1) : QeC b (w :: t) = (b, 3) := by
 unfold QeC
 split
 ·rename_i e
  have := congrArg List.length e
  simp at this
  exact absurd (by rw [this]) h
 ·rfl
theorem Qj3 {α : Type} {t : List α} (h : t.length = 3) : ∃ a b c, t = [a, b, c] := by
 match t, h with
 | [a, b, c], _ => exact ⟨a, b, c, rfl⟩
theorem Qvh {α : Type} {t : List α} (h : t.length = 1) : ∃ a, t = [a] := by
 match t, h with
 | [a], _ => exact ⟨a, rfl⟩
theorem Qvt {α : Type} {t : List α} (h : t.length = 10) : ∃ a b c d e f g i j k, t = [a, b, c, d, e, f, g, i, j, k] := by
 match t, h with
 | [a, b, c, d, e, f, g, i, j, k], _ => exact ⟨a, b, c, d, e, f, g, i, j, k, rfl⟩
theorem QxD {b : Bk} {w : Bs} {t : List Bs} (h : (Qey b (w :: t)).2 = 0) : ∃ l x y, t = [l, x, y] ∧ (numB x).2 = 0 ∧ (numB y).2 = 0 ∧ Qey b (w :: t) = ({ b with loc := l, lim := (numB x).1, grp := (numB y).1 }, 0) := by
 by_cases ht : t.length = 3
 ·obtain ⟨l, x, y, rfl⟩ := Qj3 ht
  rw [QnN] at h ⊢
  cases hn : QaV [x, y] with
  | none => rw [hn] at h; exact absurd (show (3 : Int) = 0 from h) (by decide)
  | some m =>
   obtain ⟨rfl, k1, k2⟩ := Qip hn
   exact ⟨l, x, y, rfl, k1, k2, rfl⟩
 ·rw [Qr8 ht] at h; exact absurd (show (3 : Int) = 0 from h) (by decide)
theorem Qw8 {b : Bk} {w : Bs} {t : List Bs} (h : (QeC b (w :: t)).2 = 0) : ∃ x, t = [x] ∧ (peR x).2 = 0 ∧ QeC b (w :: t) = ({ b with pn := false, ps := b.ps ++ [(peR x).1] }, 0) := by
 by_cases ht : t.length = 1
 ·obtain ⟨x, rfl⟩ := Qvh ht
  rw [QnZ] at h ⊢
  by_cases hx : (peR x).2 ≠ 0
  ·rw [if_pos hx] at h; exact absurd h hx
  ·exact ⟨x, rfl, by omega, by rw [if_neg hx]⟩
 ·rw [Qsh ht] at h; exact absurd (show (3 : Int) = 0 from h) (by decide)
theorem QwW {b : Bk} {w : Bs} {t : List Bs} (h : (Qex b (w :: t)).2 = 0) : ∃ l x y, t = [l, x, y] ∧ (numB x).2 = 0 ∧ (numB y).2 = 0 ∧ Qex b (w :: t) = ({ b with rn := false, svs := b.svs ++ [⟨l, (numB x).1, (numB y).1⟩] }, 0) := by
 by_cases ht : t.length = 3
 ·obtain ⟨l, x, y, rfl⟩ := Qj3 ht
  rw [QnO] at h ⊢
  cases hn : QaV [x, y] with
  | none => rw [hn] at h; exact absurd (show (3 : Int) = 0 from h) (by decide)
  | some m =>
   obtain ⟨rfl, k1, k2⟩ := Qip hn
   exact ⟨l, x, y, rfl, k1, k2, rfl⟩
 ·rw [Qsl ht] at h; exact absurd (show (3 : Int) = 0 from h) (by decide)
theorem QxI {b : Bk} {w : Bs} {t : List Bs} (h : (segR b (w :: t)).2 = 0) : ∃ c nu da fr tq de ar cl st ma, t = [c, nu, da, fr, tq, de, ar, cl, st, ma] ∧ ((numB nu).2 = 0 ∧ (numB da).2 = 0 ∧ (numB de).2 = 0 ∧ (numB ar).2 = 0 ∧ (numB ma).2 = 0) ∧ (staR st).2 = 0 ∧
  segR b (w :: t) = ({ b with bn := false, segs := b.segs ++ [⟨c, (numB nu).1, (numB da).1, fr, tq, (numB de).1, (numB ar).1, cl, (staR st).1, (numB ma).1⟩] }, 0) := by
 by_cases ht : t.length = 10
 ·obtain ⟨c, nu, da, fr, tq, de, ar, cl, st, ma, rfl⟩ := Qvt ht
  rw [QkP] at h ⊢
  cases hn : QaV [nu, da, de, ar, ma] with
  | none => rw [hn] at h; exact absurd (show (3 : Int) = 0 from h) (by decide)
  | some m =>
   obtain ⟨rfl, k1⟩ := QlU hn
   rw [hn] at h
   by_cases hx : (staR st).2 ≠ 0
   ·exact absurd (show (staR st).2 = 0 by have : (if (staR st).2 ≠ 0 then (b, (staR st).2) else _).2 = 0 := h; rw [if_pos hx] at this; exact this) hx
   ·refine ⟨c, nu, da, fr, tq, de, ar, cl, st, ma, rfl, k1, by omega, ?_⟩
    show (if (staR st).2 ≠ 0 then _ else _) = _
    rw [if_neg hx]
 ·rw [Qus ht] at h; exact absurd (show (3 : Int) = 0 from h) (by decide)
end Go.Proofs
set_option linter.unusedSimpArgs false
set_option linter.unusedVariables false
namespace Go.Proofs
open Go.Am
variable (lb : Nat)
theorem Qtf (s : Bs) (hs : s.length ≤ 10000000) : Ret lb QbM [.str s, .str [10]] (.tup [.str (Lib.cut s [10]).1, .str (Lib.cut s [10]).2.1, .bool (Lib.cut s [10]).2.2]) := by
 refine .lib rfl ?_
 show (if s.length < 4294967281 then _ else none) = _
 rw [if_pos (by omega)]
def QhV (i : Nat) (x : Bs) : List Bs → Int
 | [] => -1
 | y :: t => if x = y then (i : Int) else QhV (i + 1) x t
theorem QsQ (an : Bool) (l : List Bs) (x : Bs) (hl : l.length ≤ 281474976710656) : Ret lb Qax [.list an (scv l), .str x] (.int .i64 (QhV 0 x l)) := by
 refine .top rfl (.eq (fun n => by rw [Qky]) ?_)
 refine Evt.diag (m := l.length) (QcT (enc := fun s => [CV.str s]) (l := l) (by omega) (P := fun p t n k => slices_Index_string_L1 lb n k an (scv l) x (p.length : Int) = some (.int .i64 (QhV p.length x t))) ?_ ?_ l [] rfl)
 ·refine .all fun n k => ?_
  rw [Qes]
  refine stF (decF (by rw [QcZ]; omega)) ?_
  rw [Qjc]
  rfl
 ·intro p y t hp hlt hat hw hev
  refine hev.mono fun n hn k hk => ?_
  rw [Qes]
  refine stT (decT hlt) (stO _ hat (stC rfl (stO _ rfl (stO _ rfl ?_))))
  unfold QhV
  by_cases h : x = y
  ·refine stT (by simp [h]) ?_
   rw [if_pos h]
  ·refine stF (by simp [h]) ?_
   rw [if_neg h, hw, hn k hk]
   simp
theorem QcH (w : Bs) : Ret lb Qax [.list false [[CV.str [98, 111, 111, 107, 105, 110, 103]], [CV.str [112, 101, 114, 115, 111, 110]], [CV.str [115, 101, 103]], [CV.str [115, 101, 114, 118, 105, 99, 101]]], .str w] (.int .i64 (Qar w)) := by
 have h := QsQ lb false [bookingW, personW, segWd, serviceW] w (by decide)
 have e : QhV 0 w [bookingW, personW, segWd, serviceW] = Qar w := by
  unfold QhV QhV QhV QhV QhV Qar
  by_cases h0 : w = bookingW
  ·rw [if_pos h0, if_pos h0.symm]; rfl
  rw [if_neg h0, if_neg (show ¬ bookingW = w from fun e => h0 e.symm)]
  by_cases h1 : w = personW
  ·rw [if_pos h1, if_pos h1.symm]; rfl
  rw [if_neg h1, if_neg (show ¬ personW = w from fun e => h1 e.symm)]
  by_cases h2 : w = segWd
  ·rw [if_pos h2, if_pos h2.symm]; rfl
  rw [if_neg h2, if_neg (show ¬ segWd = w from fun e => h2 e.symm)]
  by_cases h3 : w = serviceW
  ·rw [if_pos h3, if_pos h3.symm]; rfl
  rw [if_neg h3, if_neg (show ¬ serviceW = w from fun e => h3 e.symm)]
 rw [e] at h
 exact h
def QyV (o : Option (List Int)) : CV := match o with
 | some l => .tup [.list l.isEmpty (l.map icv), .bool true]
 | none => .tup [.list true [], .bool false]
theorem Qm8 : ∀ a b : List Bs, QaV (a ++ b) = (QaV a).bind fun x => (QaV b).map (x ++ ·)
 | [], b => by
  show QaV b = (some []).bind _
  cases QaV b <;> rfl
 | w :: a, b => by
  show (if (numB w).2 ≠ 0 then none else (QaV (a ++ b)).map ((numB w).1 :: ·)) = (if (numB w).2 ≠ 0 then none else (QaV a).map ((numB w).1 :: ·)).bind _
  rw [Qm8 a b]
  by_cases h : (numB w).2 ≠ 0
  ·rw [if_pos h, if_pos h]; rfl
  ·rw [if_neg h, if_neg h]
   cases QaV a with
   | none => rfl
   | some x => cases QaV b <;> rfl
theorem QwK {p : List Bs} {x : Bs} {t : List Bs} (h : (numB x).2 ≠ 0) : QaV (p ++ x :: t) = none := by
 rw [Qm8]
 have : QaV (x :: t) = none := by unfold QaV; rw [if_pos h]
 rw [this]
 cases QaV p <;> rfl
theorem QwA {p : List Bs} {x : Bs} {A : List Int} (hA : QaV p = some A) (h : ¬ (numB x).2 ≠ 0) : QaV (p ++ [x]) = some (A ++ [(numB x).1]) := by
 rw [Qm8, hA]
 unfold QaV QaV
 rw [if_neg h]
 rfl
theorem Qst : ∀ {p : List Bs} {A : List Int}, QaV p = some A → A.length = p.length
 | [], A, h => by cases h; rfl
 | w :: p, A, h => by
  unfold QaV at h
  by_cases hw : (numB w).2 ≠ 0
  ·rw [if_pos hw] at h; cases h
  ·rw [if_neg hw] at h
   cases q : QaV p with
   | none => rw [q] at h; cases h
   | some B =>
    rw [q] at h; cases h
    simp [Qst q]
theorem QkA (bn : Bool) (ws : List Bs) (hl : ws.length ≤ 1000000) (hw : ∀ w ∈ ws, w.length ≤ 1000000000) : Ret (lb + 1) QaR [.list bn (scv ws)] (QyV (QaV ws)) := by
 refine .top rfl ((Evt.diag (QcT (enc := fun s => [CV.str s]) (l := ws) (P := fun p t n k => ∀ A, QaV p = some A → booking_numbers_L1 (lb + 1) n k bn (scv ws) A.isEmpty (A.map icv) (p.length : Int) = some (QyV (QaV ws))) (by omega)
  (.all fun n k A hA => by
   rw [QfU]
   refine stF (decF (by rw [QcZ]; omega)) ?_
   rw [QkO, hA]; rfl)
  (fun p x t he h1 h2 h3 ih => by
   have hx := hw x (by rw [← he]; simp)
   have hpl : p.length + (t.length + 1) = ws.length := by rw [← he]; simp
   refine Evt.imp2 (QqH lb x hx) ih fun n c hi k hk A hA => ?_
   have hAl := Qst hA
   rw [QfU]
   refine stT (decT h1) (stO _ h2 (stC rfl (stO _ rfl (stO _ c (stO _ rfl (stO _ rfl (stO _ rfl (stO _ rfl (stO _ (Qae ..) ?_)))))))))
   by_cases hb : (numB x).2 ≠ 0
   ·refine stT (bneT hb) ?_
    rw [← he, QwK hb]; rfl
   ·refine stF (bneF (by omega)) (stC rfl (stC (Qbg (by simp; omega)) ?_))
    have := hi k hk (A ++ [(numB x).1]) (QwA hA hb)
    rw [h3]
    rw [show (A.isEmpty && false) = (A ++ [(numB x).1]).isEmpty by simp]
    rw [show A.map icv ++ [[CV.int .i64 (numB x).1]] = (A ++ [(numB x).1]).map icv by simp [icv]]
    exact this) ws [] rfl)).mono fun n h => by
   rw [QmD]
   exact h [] rfl)
def staV (p : Int × Int) : CV := .tup [.int .i64 p.1, .int .i64 p.2]
theorem QgB (n k : Nat) (s : Bs) (i j : Int) (h0 : 1 ≤ i) (h1 : i ≤ 7) (hj : i + 1 = j) : Qd7 lb n (k + 1) s i = if Qb8 i = s then some (staV (i, 0)) else Qd7 lb n k s j := by
 rw [Qg0, QaN (x := 2 * i) (by omega) (by omega), QaN (x := 2 * i - 2) (by omega) (by omega), QaN (x := i + 1) (by omega) (by omega), hj]
 refine stT (decT h1) (stC (decT (by omega)) (stC (decT (by omega)) ?_))
 by_cases h : Qb8 i = s
 ·rw [if_pos h]
  exact stT (by rw [← h]; exact beq_self_eq_true _) rfl
 ·rw [if_neg h]
  exact stF (beq_eq_false_iff_ne.2 h) rfl
theorem Qhz {c : Prop} {_ : Decidable c} {a b : Int × Int} {x : Option CV} (h : x = some (staV b)) : (if c then some (staV a) else x) = some (staV (if c then a else b)) := by
 by_cases hc : c
 ·rw [if_pos hc, if_pos hc]
 ·rw [if_neg hc, if_neg hc]; exact h
theorem Qo1 (s : Bs) : Ret lb Qbu [.str s] (staV (staR s)) :=
 .top rfl (.from 8 fun n => by
  rw [Qqn, QgB lb _ (n + 7) s 1 2 (by decide) (by decide) rfl, QgB lb _ (n + 6) s 2 3 (by decide) (by decide) rfl, QgB lb _ (n + 5) s 3 4 (by decide) (by decide) rfl, QgB lb _ (n + 4) s 4 5 (by decide) (by decide) rfl, QgB lb _ (n + 3) s 5 6 (by decide) (by decide) rfl, QgB lb _ (n + 2) s 6 7 (by decide) (by decide) rfl, QgB lb _ (n + 1) s 7 8 (by decide) (by decide) rfl]
  unfold staR
  refine Qhz (Qhz (Qhz (Qhz (Qhz (Qhz (Qhz ?_))))))
  rw [Qg0]
  refine stF (decF (by decide)) ?_
  rw [Qnw]; rfl)
theorem QmX (c : UInt8) : ∀ s : Bs, -1 ≤ Lib.indexByte s c ∧ Lib.indexByte s c < (s.length : Int)
 | [] => ⟨Int.le_refl _, show (-1 : Int) < 0 by decide⟩
 | x :: s => by
  have ih := QmX c s
  unfold Lib.indexByte
  rw [List.length_cons]
  split
  ·omega
  ·split <;> omega
theorem Qqe (s : Bs) (c : Int) : ∀ k, -1 ≤ QaW s c k ∧ QaW s c k < (k : Int)
 | 0 => ⟨Int.le_refl _, show (-1 : Int) < 0 by decide⟩
 | k + 1 => by
  have ih := Qqe s c k
  unfold QaW
  split <;> omega
def pePV (p : Pe × Int) : CV := .tup [.agg (peE p.1), .int .i64 p.2]
theorem Qpv (s : Bs) (hs : s.length ≤ 10000) : Ret lb QeM [.str s] (pePV (peR s)) := by
 have h1 : Ret lb QbO [.str s, .int .u8 47] (.int .i64 (Lib.indexByte s 47)) := .lib rfl rfl
 have h2 : Ret lb QcW [.str s, .int .u8 32] (.int .i64 (QaW s 32 s.length)) := by
  refine .lib rfl ?_
  show (if s.length < 4611686018427387904 then _ else none) = _
  rw [if_pos (by omega)]
 have h3 : Ret lb Qe3 [.str s, .str [47]] (.int .i64 (s.count 47)) := .lib rfl rfl
 have b1 := QmX 47 s
 have b2 := Qqe s 32 s.length
 have hP := QjW lb ⟨s.take (Lib.indexByte s 47).toNat, (s.take (QaW s 32 s.length).toNat).drop (Lib.indexByte s 47 + 1).toNat, s.drop (QaW s 32 s.length + 1).toNat⟩ ⟨by simp; omega, by simp; omega, by simp; omega⟩
 refine .top rfl (Evt.imp2 (Evt.imp2 h1 (Evt.imp2 h2 h3 fun n a b => And.intro a b) fun n a b => And.intro a b) hP fun n ⟨c1, c2, c3⟩ c4 => ?_)
 rw [Qrv]
 refine stO _ c1 (stO _ c2 (stO _ (Qae ..) ?_))
 unfold peR
 by_cases k1 : Lib.indexByte s 47 < 0
 ·rw [if_pos (.inl k1)]
  exact stT (decT k1) rfl
 refine stF (decF k1) (stO _ c3 (stO _ (Qae ..) ?_))
 by_cases k2 : s.count 47 ≠ 1
 ·rw [if_pos (.inr (.inl k2))]
  exact stT (bneT (by omega)) rfl
 refine stF (bneF (by omega)) (stO _ (Qae ..) (stO _ (Qae ..) ?_))
 by_cases k3 : QaW s 32 s.length < Lib.indexByte s 47
 ·rw [if_pos (.inr (.inr k3))]
  exact stT (decT k3) rfl
 rw [if_neg fun h => h.elim k1 fun h => h.elim k2 k3]
 have k4 : QaW s 32 s.length ≠ Lib.indexByte s 47 := by
  intro e
  rcases QlW (c := 47) s with h0 | ⟨p, r, hs1, hp⟩
  ·rw [QiC h0] at k1; exact k1 (by decide)
  rcases Qrg (c := 32) s with h0 | ⟨q, t, hs2, hq⟩
  ·have := QkC h0 s.length (Nat.le_refl _)
   rw [show (((32 : UInt8).toNat : Nat) : Int) = 32 from rfl] at this
   rw [this] at e; omega
  have i1 : Lib.indexByte s 47 = (p.length : Int) := by rw [hs1]; exact Qe9 _ hp
  have i2 : QaW s 32 s.length = (q.length : Int) := by
   have := QkE (c := 32) q hq
   rw [← hs2] at this; exact this
  rw [i1, i2] at e
  have g1 : s[p.length]? = some 47 := by rw [hs1]; simp
  have g2 : s[q.length]? = some 32 := by rw [hs2]; simp
  rw [show q.length = p.length by omega, g1] at g2
  exact absurd g2 (by decide)
 have w1 : IntKind.wrap .i64 (Lib.indexByte s 47 + 1) = Lib.indexByte s 47 + 1 := QaN (by omega) (by omega)
 have w2 : IntKind.wrap .i64 (QaW s 32 s.length + 1) = QaW s 32 s.length + 1 := QaN (by omega) (by omega)
 have t1 : s.take ((s.length : Int).toNat) = s := by rw [Int.toNat_natCast]; exact List.take_length
 refine stF (decF k3) (stO _ rfl (stC (decT (by omega)) (stO _ (Qae ..) (stO _ rfl (stC (decT (by omega)) ?_)))))
 rw [w1]
 refine stC (decT (by omega)) (stO _ (Qae ..) ?_)
 rw [w2, t1, List.drop_zero]
 refine stC (decT (by omega)) (stO _ c4 (stO _ rfl (stO _ rfl (stO _ rfl (stO _ rfl (stO _ (Qae ..) ?_))))))
 by_cases k5 : peP ⟨s.take (Lib.indexByte s 47).toNat, (s.take (QaW s 32 s.length).toNat).drop (Lib.indexByte s 47 + 1).toNat, s.drop (QaW s 32 s.length + 1).toNat⟩ ≠ 0
 ·rw [if_pos k5]
  exact stT (bneT k5) rfl
 ·rw [if_neg k5]
  exact stF (bneF (by omega)) rfl
def noSg : Sg := ⟨[], 0, 0, [], [], 0, 0, [], 0, 0⟩
def sgPV (p : Sg × Int) : CV := .tup [.agg (sgE p.1), .int .i64 p.2]
def sgW (c nu da fr tq de ar cl st ma : Bs) : Sg × Int := match QaV [nu, da, de, ar, ma] with
 | some [a1, a2, a3, a4, a5] => (⟨c, a1, a2, fr, tq, a3, a4, cl, (staR st).1, a5⟩, (staR st).2)
 | _ => (noSg, 3)
theorem QuL (bn : Bool) (w c nu da fr tq de ar cl st ma : Bs) (hw : ∀ u ∈ [nu, da, de, ar, ma], u.length ≤ 1000000000) : Ret (lb + 1) Qdr [.list bn (scv [w, c, nu, da, fr, tq, de, ar, cl, st, ma])] (sgPV (sgW c nu da fr tq de ar cl st ma)) := by
 refine .top rfl (Evt.imp2 (QkA lb false [nu, da, de, ar, ma] (by simp) hw) (Qo1 (lb + 1) st) fun n c1 c2 => ?_)
 rw [Qm4]
 refine stO _ rfl (stC rfl (stO _ rfl (stO _ rfl (stC rfl (stO _ rfl (stO _ rfl (stC rfl (stO _ rfl (stO _ rfl (stC rfl (stO _ rfl (stO _ rfl (stC rfl (stO _ rfl (stC rfl (stC rfl (stC rfl (stC rfl (stC rfl (stO _ c1 ?_))))))))))))))))))))
 unfold sgW
 cases hn : QaV [nu, da, de, ar, ma] with
 | none => exact stO _ rfl (stO _ rfl (stO _ rfl (stO _ rfl (stO _ rfl (stT rfl rfl)))))
 | some m =>
  obtain ⟨rfl, k1⟩ := QlU hn
  refine stO _ rfl (stO _ rfl (stO _ rfl (stO _ rfl (stO _ rfl (stF rfl (stO _ rfl (stC rfl (stO _ rfl (stO _ c2 ?_)))))))))
  refine stO _ rfl (stO _ rfl (stO _ rfl (stO _ rfl (stO _ rfl (stC rfl (stO _ rfl (stO _ rfl (stO _ rfl (stC rfl (stO _ rfl (stO _ rfl (stO _ rfl (stC rfl (stO _ rfl ?_))))))))))))))
  refine stO _ rfl (stC rfl (stO _ rfl (stO _ rfl (stC rfl (stO _ rfl (stO _ rfl (stO _ rfl (stC rfl (stO _ rfl (stO _ rfl (stO _ rfl (stC rfl (stO _ rfl ?_)))))))))))))
  refine stC rfl (stC rfl (stC rfl (stC rfl (stC rfl (stC rfl (stC rfl (stO _ rfl (stC rfl (stO _ rfl (stC rfl (stO _ rfl (stO _ rfl (stC rfl (stO _ rfl (stC rfl (stC rfl rfl))))))))))))))))
end Go.Proofs
