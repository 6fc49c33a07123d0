/- Chapter 35: bookings on plain data: segments, their marriages. Conditions: as each says. -/
import Derived.Test.YtigmcfhmpcajlaaGreatDoorBA
import Derived.Test.YtigmcfhmpcajlaaGreatDoorRA
import Derived.Test.YtigmcfhmpcajlaaGreatDoorGb
import Derived.Test.YtigmcfhmpcajlaaGreatDoorGc
set_option linter.unusedSimpArgs false
set_option linter.unusedVariables false
namespace Go.Proofs
open Go.Am
variable (lb : Nat)
structure Sg where
 car : Bs
 num : Int
 day : Int
 fr : Bs
 to : Bs
 dep : Int
 arr : Int
 cls : Bs
 st : Int
 mar : Int
def sgE (s : Sg) : List CV := [.str s.car, .int .i64 s.num, .int .i64 s.day, .str s.fr, .str s.to, .int .i64 s.dep, .int .i64 s.arr, .str s.cls, .int .i64 s.st, .int .i64 s.mar]
end Go.Proofs
set_option linter.unusedSimpArgs false
set_option linter.unusedVariables false
namespace Go.Proofs
open Go.Am
variable (lb : Nat)
end Go.Proofs
set_option linter.unusedSimpArgs false
set_option linter.unusedVariables false
namespace Go.Proofs
open Go.Am
variable (lb : Nat)
structure Pe where
 la : Bs
 fi : Bs
 ty : Bs
def peE (p : Pe) : List CV := [.str p.la, .str p.fi, .str p.ty]
def PeOk (p : Pe) : Prop := p.la.length ≤ 281474976710656 ∧ p.fi.length ≤ 281474976710656 ∧ p.ty.length ≤ 281474976710656
def infB (p : Pe) : Bool := p.ty == [73, 78, 70]
theorem QmB (p : Pe) : Ret lb QcW [.agg (peE p)] (.bool (infB p)) :=
 .top rfl (.all fun n => by
  rw [show top lb n QcW [.agg (peE p)] = _ from Qjl lb n p.la p.fi p.ty]
  rfl)
end Go.Proofs
set_option linter.unusedSimpArgs false
set_option linter.unusedVariables false
namespace Go.Proofs
open Go.Am
variable (lb : Nat)
abbrev Fau := Int × Bs
def fauE (f : Fau) : List CV := [.int .i64 f.1, .str f.2]
def Qoy (b : Bool) (e : Int) (at' : Bs) : List Fau := bif b then [(e, at')] else []
theorem Qo1 (l : List Fau) (e : Int) (s : Bs) : l.map fauE ++ [[CV.int .i64 e, CV.str s]] = (l ++ [(e, s)]).map fauE := by simp [fauE]
theorem QoW (l : List Fau) (x : Fau) : (l.isEmpty && false) = (l ++ [x]).isEmpty := by simp
theorem QpI {l : List Fau} (h : l.length ≤ 1000000) : room ((l.map fauE).length + 1) 24 = true := QfU (by simp; omega)
theorem acc (c : Bool) (l : List Fau) (e : Int) (s : Bs) (hl : l.length ≤ 999999) (J : Bool → List (List CV) → Option CV) :
  (bif c then chkO (room ((l.map fauE).length + 1) 24) (J (l.isEmpty && false) (l.map fauE ++ [[CV.int .i64 e, CV.str s]])) else J l.isEmpty (l.map fauE)) = J (l ++ Qoy c e s).isEmpty ((l ++ Qoy c e s).map fauE) := by
 cases c with
 | true =>
  refine stC (QpI (by omega)) ?_
  rw [Qo1, QoW l (e, s)]; rfl
 | false =>
  show _ = J (l ++ []).isEmpty ((l ++ []).map fauE)
  rw [List.append_nil]; rfl
end Go.Proofs
set_option linter.unusedSimpArgs false
set_option linter.unusedVariables false
namespace Go.Proofs
open Go.Am
variable (lb : Nat)
structure Sv where
 cd : Bs
 pe : Int
 sg : Int
def svE (x : Sv) : List CV := [.str x.cd, .int .i64 x.pe, .int .i64 x.sg]
end Go.Proofs
