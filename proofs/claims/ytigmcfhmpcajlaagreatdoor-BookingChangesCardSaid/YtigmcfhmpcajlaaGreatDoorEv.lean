/- What the equations of functions speak of. Conditions: none; definitions, and one law. -/
import Derived.Test.YtigmcfhmpcajlaaGreatDoorProg
import Derived.Test.YtigmcfhmpcajlaaGreatDoorAm
import Derived.Test.YtigmcfhmpcajlaaGreatDoorLib
import Derived.KernelRfl
namespace Go.Proofs
open Go.Am
abbrev LL:=List (List CV)
abbrev LB:=List UInt8
abbrev vV (x:CV):AV:= .val x
abbrev vI (x:Int):AV:= .val (.int .i64 x)
abbrev vS (x:List UInt8):AV:= .val (.str x)
abbrev vB (x:Bool):AV:= .val (.bool x)
set_option maxRecDepth 100000
set_option linter.unusedVariables false
def owns:FuncId→Option TypeId:=fun _=>none
def Qvr:FuncId→Bool:=fun f=>f==48||f==47||false
def inls:FuncId→Bool:=fun f=>Qvr f
def gls:Nat→Option (List CV):=fun _=>none
def QlE:CV→List (List CV)
 | .list _ l=>l
 |_=> []
def QjX:CV→Bool
 | .list _ l=>(Qdr l).isSome&&decide (l.length≤10000000)
 |_=>false
def Qnl (f0:FuncId) (vs:List AV) (mem:List (List (Option (List AV)))):Option (List (List CV)×(List UInt8→AV×List (List (Option (List AV))))):=
 match vs with
 | [.clo f [.ptr d s 0]]=>match f==f0,box? mem d s with
  |true,some c=>match QbF c with
   |some [x]=>some (bif QjX x then [] else [[]],fun _=>(.val (.list (QlE x).isEmpty (QlE x)),mem))
   |_=>none
  |_,_=>none
 |_=>none
def QsR:FuncId→Option (List AV→List (List (Option (List AV)))→Option (List (List CV)×(List UInt8→AV×List (List (Option (List AV)))))):=fun f=>
 bif f==F_slices_Collect_int then some (Qnl 107) else
 bif f==F_strings_Builder_copyCheck then some (QrB 104) else
 bif f==F_strings_Builder_String then some (Qo1 5) else
 none
def QqD:List CV→Bool
 | [.int .i64 _]=>true
 |_=>false
def itValues:List (List CV)→Option (List (List CV))
 | [[.list _ l]]=>bif decide (l.length≤10000000)&&l.all QqD then some l else none
 |_=>none
def QsQ:FuncId→Option (List (List CV)→Option (List (List CV))):=fun f=>
 bif f==107 then some itValues else
 none
def rowTab:List (TypeId×Nat×Nat):= [(39,67,5),(39,7,4),(4,19,4),(89,51,4)]
def rowF:TypeId→Nat→Nat→Bool:=fun e s n=>rowTab.any fun q=>q.1==e&&q.2.1==s&&q.2.2==n
noncomputable def KK:Cfg:=⟨gls,QsR,owns,inls,QsQ,Qvr,rowF,none⟩
abbrev Inl:=FuncId→List AV→List (List (Option (List AV)))→(AV→List (List (Option (List AV)))→Option CV)→Option CV
abbrev Ev:=Code→(Ex→St→Option CV)→St→Option CV
noncomputable def B (f:FuncId):Code:=QzO Tryz.prog f
noncomputable def R (f:FuncId):List ResultVar:=QwV Tryz.prog f
noncomputable def evR (lib:FuncId→Option (List CV→Option CV)) (f:FuncId) (args:List CV):Option CV:=
 open Classical in if h:∃r,∃N,∀n,N≤n→Qcu Tryz.prog KK lib n f args=some r then some h.choose else none
theorem Qzt {lib:FuncId→Option (List CV→Option CV)} {f:FuncId} {args:List CV} {r:CV} (h:∃N,∀n,N≤n→Qcu Tryz.prog KK lib n f args=some r):evR lib f args=some r:=by
 have hx:∃r,∃N,∀n,N≤n→Qcu Tryz.prog KK lib n f args=some r:=⟨r,h⟩
 unfold evR
 rw [dif_pos hx]
 obtain ⟨N,hN⟩:=h
 obtain ⟨M,hM⟩:=hx.choose_spec
 exact congrArg some (Option.some.inj ((hM (N+M) (by omega)).symm.trans (hN (N+M) (by omega))))
theorem Qxv {lib:FuncId→Option (List CV→Option CV)} {f:FuncId} {args:List CV} {r:CV} (h:evR lib f args=some r):∃N,∀n,N≤n→Qcu Tryz.prog KK lib n f args=some r:=by
 unfold evR at h
 split at h
 ·rename_i hx
  rw [←Option.some.inj h]
  exact hx.choose_spec
 ·cases h
noncomputable def L (lb:Nat):FuncId→Option (List CV→Option CV):=fun f=>
 L1 lb f
noncomputable def C (lb:Nat):Nat→FuncId→List CV→Option CV:=Qcu Tryz.prog KK (L lb)
noncomputable def I0 (lb n:Nat):Inl:=evF Tryz.prog KK (C lb n) n 0
noncomputable def I1 (lb n:Nat):Inl:=Qbl KK (QaW Tryz.prog KK (C lb n) n (I0 lb n))
noncomputable def I2 (lb n:Nat):Inl:=Qbl KK (QaW Tryz.prog KK (C lb n) n (I1 lb n))
noncomputable def I3 (lb n:Nat):Inl:=Qbl KK (QaW Tryz.prog KK (C lb n) n (I2 lb n))
noncomputable def I4 (lb n:Nat):Inl:=Qbl KK (QaW Tryz.prog KK (C lb n) n (I3 lb n))
noncomputable def I5 (lb n:Nat):Inl:=Qbl KK (QaW Tryz.prog KK (C lb n) n (I4 lb n))
noncomputable def I6 (lb n:Nat):Inl:=Qbl KK (QaW Tryz.prog KK (C lb n) n (I5 lb n))
noncomputable def I7 (lb n:Nat):Inl:=Qbl KK (QaW Tryz.prog KK (C lb n) n (I6 lb n))
noncomputable def I8 (lb n:Nat):Inl:=Qbl KK (QaW Tryz.prog KK (C lb n) n (I7 lb n))
noncomputable def I9 (lb n:Nat):Inl:=Qbl KK (QaW Tryz.prog KK (C lb n) n (I8 lb n))
noncomputable def E0 (lb n d j:Nat):Ev:=evN Tryz.prog (C lb n) (I9 lb n) n d j
noncomputable def E1 (lb n d j:Nat):Ev:=evN Tryz.prog (C lb n) (I8 lb n) n d j
noncomputable def top (lb n:Nat) (f:FuncId) (args:List CV):Option CV:=QfI Tryz.prog KK (C lb n) n (I9 lb n) f (args.map .val)
theorem QpD (lb n:Nat) (f:FuncId) (args:List CV) (h:L lb f=none):C lb (n+1) f args=top lb n f args:=by
 show Qcu Tryz.prog KK (L lb) (n+1) f args=_
 unfold Qcu
 rw [h]
 rfl
theorem QAp (lb n:Nat) (f:FuncId) (args:List CV) {s:List CV→Option CV} (h:L lb f=some s):C lb (n+1) f args=s args:=by
 show Qcu Tryz.prog KK (L lb) (n+1) f args=_
 unfold Qcu
 rw [h]
end Go.Proofs
