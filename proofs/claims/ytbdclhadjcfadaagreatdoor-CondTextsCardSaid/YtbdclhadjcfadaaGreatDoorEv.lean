/- What the equations of functions speak of. Conditions: none; definitions, and one law. -/
import Derived.Test.YtbdclhadjcfadaaGreatDoorProg
import Derived.Test.YtbdclhadjcfadaaGreatDoorAm
import Derived.Test.YtbdclhadjcfadaaGreatDoorLib
import Derived.KernelRfl
namespace Go.Proofs
open Go.Am
abbrev LL := List (List CV)
abbrev LB := List UInt8
abbrev vV (x:CV):AV := .val x
abbrev vI (x:Int):AV := .val (.int .i64 x)
abbrev vS (x:List UInt8):AV := .val (.str x)
abbrev vB (x:Bool):AV := .val (.bool x)
set_option maxRecDepth 100000
set_option linter.unusedVariables false
def owns:FuncId → Option TypeId := fun _ => none
def QBa:FuncId → Bool := fun f => false
def inls:FuncId → Bool := fun f => f == Qax || QBa f
def gls:Nat → Option (List CV) := fun _ => none
def Qyb:FuncId → Option (List AV → List (List (Option (List AV))) → Option (List (List CV) × (List UInt8 → AV × List (List (Option (List AV)))))) := fun f =>
 none
def QxM:FuncId → Option (List (List CV) → Option (List (List CV))) := fun f =>
 none
def rowTab:List (TypeId × Nat × Nat) := []
def rowF:TypeId → Nat → Nat → Bool := fun e s n => rowTab.any fun q => q.1 == e && q.2.1 == s && q.2.2 == n
noncomputable def KK:Cfg := ⟨gls,Qyb,owns,inls,QxM,QBa,rowF,none⟩
abbrev Inl := FuncId → List AV → List (List (Option (List AV))) → (AV → List (List (Option (List AV))) → Option CV) → Option CV
abbrev Ev := Code → (Ex → St → Option CV) → St → Option CV
noncomputable def B (f:FuncId):Code := QCt Tryz.prog f
noncomputable def R (f:FuncId):List ResultVar := QzD Tryz.prog f
noncomputable def evR (lib:FuncId → Option (List CV → Option CV)) (f:FuncId) (args:List CV):Option CV :=
 open Classical in if h:∃ r, ∃ N, ∀ n,N ≤ n → Qbw Tryz.prog KK lib n f args = some r then some h.choose else none
theorem QCn {lib:FuncId → Option (List CV → Option CV)} {f:FuncId} {args:List CV} {r:CV} (h:∃ N, ∀ n,N ≤ n → Qbw Tryz.prog KK lib n f args = some r):evR lib f args = some r := by
 have hx:∃ r, ∃ N, ∀ n,N ≤ n → Qbw Tryz.prog KK lib n f args = some r := ⟨r,h⟩
 unfold evR
 rw [dif_pos hx]
 obtain ⟨N,hN⟩ := h
 obtain ⟨M,hM⟩ := hx.choose_spec
 exact congrArg some (Option.some.inj ((hM (N + M) (by omega)).symm.trans (hN (N + M) (by omega))))
theorem QAE {lib:FuncId → Option (List CV → Option CV)} {f:FuncId} {args:List CV} {r:CV} (h:evR lib f args = some r):∃ N, ∀ n,N ≤ n → Qbw Tryz.prog KK lib n f args = some r := by
 unfold evR at h
 split at h
 ·rename_i hx
  rw [← Option.some.inj h]
  exact hx.choose_spec
 ·cases h
def Qjz (s:List UInt8):Option (Int × Int × Int) :=
 if s = [104,111,117,114,32,50,50,58,48,48,32,48,53,58,53,57] then some (8,1320,359) else
 if s = [97,108,108] then some (1,0,0) else none
def Qmz (x:Int × Int × Int):CV := .agg [.int .i64 x.1, .list true [], .int .i64 x.2.1, .int .i64 x.2.2, .int .i64 0, .int .i64 0, .int .i64 0, .list true []]
def panO (o:Option CV) (k:CV → Option CV):Option CV :=
 match o with
 | some .err => some .err
 | some c => k c
 | none => none
def panP (o:Option CV) (k:CV → List UInt8 → Option CV):Option CV :=
 match o with
 | some .err => some .err
 | some (.tup [c, .str s]) => k c s
 | _ => none
namespace K5
noncomputable def L:FuncId → Option (List CV → Option CV) := fun f => if f = Qat then none else L1 1 f
noncomputable def C (_:Nat):Nat → FuncId → List CV → Option CV := Qbw Tryz.prog Go.Proofs.KK L
noncomputable abbrev KK:Cfg := Go.Proofs.KK
noncomputable def I0 (lb n:Nat):Inl := evF Tryz.prog KK (C lb n) n 0
noncomputable def I1 (lb n:Nat):Inl := Qbs KK (QaR Tryz.prog KK (C lb n) n (I0 lb n))
noncomputable def I2 (lb n:Nat):Inl := Qbs KK (QaR Tryz.prog KK (C lb n) n (I1 lb n))
noncomputable def I3 (lb n:Nat):Inl := Qbs KK (QaR Tryz.prog KK (C lb n) n (I2 lb n))
noncomputable def I4 (lb n:Nat):Inl := Qbs KK (QaR Tryz.prog KK (C lb n) n (I3 lb n))
noncomputable def I5 (lb n:Nat):Inl := Qbs KK (QaR Tryz.prog KK (C lb n) n (I4 lb n))
noncomputable def I6 (lb n:Nat):Inl := Qbs KK (QaR Tryz.prog KK (C lb n) n (I5 lb n))
noncomputable def I7 (lb n:Nat):Inl := Qbs KK (QaR Tryz.prog KK (C lb n) n (I6 lb n))
noncomputable def I8 (lb n:Nat):Inl := Qbs KK (QaR Tryz.prog KK (C lb n) n (I7 lb n))
noncomputable def I9 (lb n:Nat):Inl := Qbs KK (QaR Tryz.prog KK (C lb n) n (I8 lb n))
noncomputable def E0 (lb n d j:Nat):Ev := evN Tryz.prog (C lb n) (I9 lb n) n d j
noncomputable def E1 (lb n d j:Nat):Ev := evN Tryz.prog (C lb n) (I8 lb n) n d j
noncomputable def top (lb n:Nat) (f:FuncId) (args:List CV):Option CV := QkP Tryz.prog KK (C lb n) n (I9 lb n) f (args.map .val)
theorem Qyl (lb n:Nat) (f:FuncId) (args:List CV) (h:L f = none):C lb (n + 1) f args = top lb n f args := by
 show Qbw Tryz.prog KK L (n + 1) f args = _
 unfold Qbw
 rw [h]
 rfl
theorem Qux (lb n:Nat) (f:FuncId) (args:List CV) {s:List CV → Option CV} (h:L f = some s):C lb (n + 1) f args = s args := by
 show Qbw Tryz.prog KK L (n + 1) f args = _
 unfold Qbw
 rw [h]
noncomputable def any (args:List CV):Option CV :=
 match QdC args with
 | some r => some r
 | none => evR L Qat args
end K5
namespace K3
def QCH:FuncId → Bool := fun f => f == QaW || f == QwW || f == QtJ || f == QtF
noncomputable def KK:Cfg := ⟨gls,fun _ => none,owns,QCH,fun _ => none,fun _ => false,fun _ s _ => s == 1000000,some 70⟩
noncomputable def C (_:Nat):Nat → FuncId → List CV → Option CV := fun n f args => bif f == Qat then K5.any args else Qbw Tryz.prog Go.Proofs.KK (L1 1) n f args
noncomputable def I7 (lb n:Nat):Inl := Qil (some .err) fun _ _ _ _ => none
noncomputable def I8 (lb n:Nat):Inl := Qil (some .err) (QaR Tryz.prog KK (C lb n) n (I7 lb n))
noncomputable def I9 (lb n:Nat):Inl := Qil (some .err) (QaR Tryz.prog KK (C lb n) n (I8 lb n))
noncomputable def E0 (lb n d j:Nat):Ev := evN Tryz.prog (C lb n) (I9 lb n) n d j
noncomputable def E1 (lb n d j:Nat):Ev := evN Tryz.prog (C lb n) (I8 lb n) n d j
def outK (t:Option TypeId) (v:AV) (_:List (List (Option (List AV)))):Option CV :=
 match v.outT t with
 | some .err => none
 | r => r
noncomputable def top (lb n:Nat) (f:FuncId) (args:List CV):Option CV := QaR Tryz.prog KK (C lb n) n (I9 lb n) f (args.map .val) [] (outK (Qag Tryz.prog f))
end K3
namespace K4
noncomputable abbrev KK:Cfg := K3.KK
noncomputable abbrev C (lb:Nat):Nat → FuncId → List CV → Option CV := K3.C lb
noncomputable def LE (lb n:Nat) (r:CV):Option CV := K3.top 1 n QaW [r]
def partK (v:AV) (mem:List (List (Option (List AV)))):Option CV :=
 match v.out,mem with
 | some c,[[some [.val r]]] => some (.tup [c,r])
 | _,_ => none
def partBox (s:List UInt8):List (List (Option (List AV))) → List (List (Option (List AV)))
 | ((some [_]) :: r) :: q => ((some [.val (.str s)]) :: r) :: q
 | m => m
noncomputable def I8 (lb n:Nat):Inl := K3.I8 lb n
noncomputable def partI (pe:List UInt8 → Option CV) (lb n:Nat):Inl := fun f vs mem k =>
 bif f == Qab then
  match vs,box? mem 0 0 with
  | [.ptr 0 0 0],some [.val v] => optO v.asS fun s => panP (pe s) fun c r => k (.val c) (partBox r mem)
  | _,_ => none
 else bif f == QaW then
  match vs with
  | [.val r] => panO (LE lb n r) fun c => k (.val c) mem
  | _ => none
 else QaR Tryz.prog KK (C lb n) n (I8 lb n) f vs mem k
noncomputable def PE:Nat → Nat → List UInt8 → Option CV
 | 0,_,_ => none
 | N + 1,n,s => QaR Tryz.prog KK (C N n) n (Qil (some .err) (partI (PE N n) N n)) Qab [.ptr 0 0 0] [[some [.val (.str s)]]] partK
noncomputable def PT (lb n:Nat) (s:List UInt8):Option CV := PE (lb + 1) n s
noncomputable def I9 (lb n:Nat):Inl := Qil (some .err) (partI (PE lb n) lb n)
noncomputable def E0 (lb n d j:Nat):Ev := evN Tryz.prog (C lb n) (I9 lb n) n d j
noncomputable def E1 (lb n d j:Nat):Ev := evN Tryz.prog (C lb n) (I8 lb n) n d j
end K4
def Qj4 (s:List UInt8) (r:CV):Prop := ∃ M, ∀ n,M ≤ n → K4.PE n n s = some r
noncomputable def Qrj (s:List UInt8):Option CV := open Classical in if h:∃ r,Qj4 s r then some h.choose else none
theorem QAY {s:List UInt8} {r:CV} (h:Qj4 s r):Qrj s = some r := by
 have hx:∃ r,Qj4 s r := ⟨r,h⟩
 unfold Qrj
 rw [dif_pos hx]
 obtain ⟨N,hN⟩ := h
 obtain ⟨M,hM⟩ := hx.choose_spec
 exact congrArg some (Option.some.inj ((hM (N + M) (by omega)).symm.trans (hN (N + M) (by omega))))
theorem QyO {s:List UInt8} {r:CV} (h:Qrj s = some r):Qj4 s r := by
 unfold Qrj at h
 split at h
 ·rename_i hx
  rw [← Option.some.inj h]
  exact hx.choose_spec
 ·cases h
def Quv:CV := .agg [.int .i64 0, .list true [], .int .i64 0, .int .i64 0, .int .i64 0, .int .i64 0, .int .i64 0, .list true []]
def QvL:CV → Option CV
 | .err => some (.tup [Quv, .bool false])
 | .tup [.agg [a,b,c,d,e,f,g,h], .str r] => some (.tup [.agg [a,b,c,d,e,f,g,h], .bool r.isEmpty])
 | _ => none
noncomputable def QdO:List CV → Option CV
 | [.str s] => match Qjz s with
  | some x => some (.tup [Qmz x, .bool true])
  | none => (Qrj s).bind QvL
 | _ => none
noncomputable def L (lb:Nat):FuncId → Option (List CV → Option CV) := fun f =>
 if f = Qf4 then (match lb with | 0 => none | 1 => none | _ + 2 => some QdO) else
 L1 lb f
noncomputable def C (lb:Nat):Nat → FuncId → List CV → Option CV := Qbw Tryz.prog KK (L lb)
noncomputable def I0 (lb n:Nat):Inl := evF Tryz.prog KK (C lb n) n 0
noncomputable def I1 (lb n:Nat):Inl := Qbs KK (QaR Tryz.prog KK (C lb n) n (I0 lb n))
noncomputable def I2 (lb n:Nat):Inl := Qbs KK (QaR Tryz.prog KK (C lb n) n (I1 lb n))
noncomputable def I3 (lb n:Nat):Inl := Qbs KK (QaR Tryz.prog KK (C lb n) n (I2 lb n))
noncomputable def I4 (lb n:Nat):Inl := Qbs KK (QaR Tryz.prog KK (C lb n) n (I3 lb n))
noncomputable def I5 (lb n:Nat):Inl := Qbs KK (QaR Tryz.prog KK (C lb n) n (I4 lb n))
noncomputable def I6 (lb n:Nat):Inl := Qbs KK (QaR Tryz.prog KK (C lb n) n (I5 lb n))
noncomputable def I7 (lb n:Nat):Inl := Qbs KK (QaR Tryz.prog KK (C lb n) n (I6 lb n))
noncomputable def I8 (lb n:Nat):Inl := Qbs KK (QaR Tryz.prog KK (C lb n) n (I7 lb n))
noncomputable def I9 (lb n:Nat):Inl := Qbs KK (QaR Tryz.prog KK (C lb n) n (I8 lb n))
noncomputable def E0 (lb n d j:Nat):Ev := evN Tryz.prog (C lb n) (I9 lb n) n d j
noncomputable def E1 (lb n d j:Nat):Ev := evN Tryz.prog (C lb n) (I8 lb n) n d j
noncomputable def top (lb n:Nat) (f:FuncId) (args:List CV):Option CV := QkP Tryz.prog KK (C lb n) n (I9 lb n) f (args.map .val)
theorem Qyl (lb n:Nat) (f:FuncId) (args:List CV) (h:L lb f = none):C lb (n + 1) f args = top lb n f args := by
 show Qbw Tryz.prog KK (L lb) (n + 1) f args = _
 unfold Qbw
 rw [h]
 rfl
theorem Qux (lb n:Nat) (f:FuncId) (args:List CV) {s:List CV → Option CV} (h:L lb f = some s):C lb (n + 1) f args = s args := by
 show Qbw Tryz.prog KK (L lb) (n + 1) f args = _
 unfold Qbw
 rw [h]
end Go.Proofs
