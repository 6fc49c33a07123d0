/- The evaluation without the held joins: the same, and the kernel can run it on given data. Conditions: none. -/
import Derived.Test.YtbdclhadjcfadaaGreatDoorAm
set_option linter.unusedSimpArgs false
namespace Go.Am
noncomputable def seqN {β : Type} (ev:Code → (Ex → St → Option β) → St → Option β) (a b:Code) (k:Ex → St → Option β) (e:Ex) (σ : St):Option β :=
 match e with
 | .normal => ev b k (tidy a σ)
 | e => k e σ
noncomputable def Qrd {β : Type} (d:Nat) (ts bs:List Nat) (next:St → Option β) (k:Ex → St → Option β) (e:Ex) (σ : St):Option β :=
 match e with
 | .normal => next (clear d ts bs σ)
 | e => k e σ
noncomputable def QuG {β : Type} (ev:Code → (Ex → St → Option β) → St → Option β) (d:Nat) (ts bs:List Nat) (a:Code) (k:Ex → St → Option β) (n:Nat):St → Option β :=
 Nat.rec (fun _ => none) (fun _ ih => ev a (Qrd d ts bs ih k)) n
noncomputable def Qsc {β : Type} (D:Nat) (next:List (List (Option (List AV))) → Option β) (k:Ex → List (List (Option (List AV))) → Option β) (e:Ex) (σ : St):Option β :=
 match e with
 | .normal => next (Qdl D σ.mem)
 | .exit id => k (.exit id) (Qdl D σ.mem)
 | .ret => k .ret (Qdl D σ.mem)
noncomputable def QoE {β : Type} (ev1:Code → (Ex → St → Option β) → St → Option β) (D:Nat) (body:Code) (next:List (List (Option (List AV))) → Option β) (k:Ex → List (List (Option (List AV))) → Option β) (e:Ex) (σ : St):Option β :=
 match e with
 | .normal => ev1 body (Qsc D next k) σ
 | _ => none
noncomputable def Qsl {β : Type} (ev1:Code → (Ex → St → Option β) → St → Option β) (D:Nat) (asg body:Code) (ps:List Nat) (tm:List AV) (K:Cfg) (items:List (List CV)) (k:Ex → List (List (Option (List AV))) → Option β) (n:Nat) :
  Nat → List (List (Option (List AV))) → Option β :=
 Nat.rec (fun _ _ => none) (fun _ ih i mem => bif decide (i < items.length) then
   optO items[i]? fun x => lits ps.length x fun x => (ev1 asg (QoE ev1 D body (ih (i + 1)) k) { tmps := QeF tm ps x,mem := mem ++ [List.replicate tm.length none],K := K })
  else k .normal mem) n
noncomputable def QlI {β : Type} (P:Program) (call:FuncId → List CV → Option CV)
  (inl:FuncId → List AV → List (List (Option (List AV))) → (AV → List (List (Option (List AV))) → Option β) → Option β)
  (m d:Nat) (rg:Bool) (ev ev1:Code → (Ex → St → Option β) → St → Option β) (c:Code) (k:Ex → St → Option β) (σ : St):Option β :=
 match c with
 | .skip => k .normal σ
 | .region _ ops draw =>
  match draw with
  | false => match Qox σ ops.toList with
   | false => opsK P call inl d ops.toList ops.toList (k .normal) σ
   | true => inl panF [] [] fun _ _ => none
  | true => chkO (QcO 0 ops.toList) (QcZ P call inl d (Region.before ops).toList ops.toList ops.toList 0 [] (k .normal) σ)
 | .seq a b => ev a (seqN ev a b k) σ
 | .cond c a b => optO (Qoj σ c) fun t => bif t then ev a (QaS a b k) σ else ev b (QaS a b k) σ
 | .block id a => ev a (Qak id k) σ
 | .loop a =>
  let ts := Qah a ++ anys σ (Qdm a)
  let bs := Qmx σ d (Qd7 a)
  QuG ev d ts bs a k m (clear d ts bs σ)
 | .exit id => k (.exit id) σ
 | .scope a => ev a k σ
 | .label _ => k .normal σ
 | .ret => k .ret σ
 | .rangeFunc g ps asg body => match rg with
  | true => chkO σ.K.pan.isNone <| optO (Qlz d σ g) fun q => optO (σ.K.iter q.1) fun it => optO (it (q.2.map (·.2))) fun items => chkO (items.all (·.length == ps.size)) <|
    let tm := σ.tmps.map fun v => v.copy.scrub (capP q.2)
    Qsl ev1 (d + 1) asg body ps.toList tm σ.K items (QcV k tm σ.K) m 0 (QbD (capP q.2) 0 σ.mem)
  | false => none
 | _ => none
noncomputable def evGN {β : Type} (P:Program) (call:FuncId → List CV → Option CV)
  (inl:FuncId → List AV → List (List (Option (List AV))) → (AV → List (List (Option (List AV))) → Option β) → Option β)
  (m j:Nat):Nat → Bool → Code → (Ex → St → Option β) → St → Option β :=
 Nat.rec (fun _ _ _ _ _ => none) (fun _ ih d rg => QlI P call inl m d rg (ih d rg) (ih (d + 1) false)) j
noncomputable def evNN {β : Type} (P:Program) (call:FuncId → List CV → Option CV)
  (inl:FuncId → List AV → List (List (Option (List AV))) → (AV → List (List (Option (List AV))) → Option β) → Option β)
  (m d j:Nat):Code → (Ex → St → Option β) → St → Option β := evGN P call inl m j d true
noncomputable def QjS {β : Type} (P:Program) (K:Cfg) (call:FuncId → List CV → Option CV) (m:Nat)
  (inl:FuncId → List AV → List (List (Option (List AV))) → (AV → List (List (Option (List AV))) → Option β) → Option β)
  (f:FuncId) (args:List AV) (mem:List (List (Option (List AV)))) (k:AV → List (List (Option (List AV))) → Option β):Option β :=
  match P.funcs[f]? with
  | some fn => match fn.body with
   | some c => evNN P call inl m mem.length 1000 c (Qmk P (K.lift f) fn.results.toList mem.length k)
     { tmps := args ++ List.replicate (fn.ntmps - args.length) .any,mem := mem ++ [List.replicate fn.ntmps none],K := K }
   | none => none
  | none => none
noncomputable def evFN {β : Type} (P:Program) (K:Cfg) (call:FuncId → List CV → Option CV) (m dp:Nat):FuncId → List AV → List (List (Option (List AV))) →
  (AV → List (List (Option (List AV))) → Option β) → Option β :=
 Nat.rec (fun _ _ _ _ => none) (fun _ ih => Qbs K (QjS P K call m ih)) dp
noncomputable def Qq8 (P:Program) (K:Cfg) (call:FuncId → List CV → Option CV) (m:Nat)
  (inl:FuncId → List AV → List (List (Option (List AV))) → (AV → List (List (Option (List AV))) → Option CV) → Option CV)
  (f:FuncId) (args:List AV):Option CV :=
 match K.own f with
 | none => QjS P K call m inl f args [] (outK (Qag P f))
 | some e => match Qag P f with
  | none => match P.funcs[f]? with
   | some fn => match fn.body with
    | some c => evNN P call inl m 0 1000 c (Qq1 fn.results.toList e)
      { tmps := args ++ List.replicate (fn.ntmps - args.length) .any,mem := [List.replicate fn.ntmps none],K := K }
    | none => none
   | none => none
  | some _ => none
noncomputable def Qru (P:Program) (K:Cfg) (lib:FuncId → Option (List CV → Option CV)) (n:Nat):FuncId → List CV → Option CV :=
 Nat.rec (fun _ _ => none) (fun n ih f args => match lib f with
  | some s => s args
  | none => Qq8 P K ih n (evFN P K ih n 9) f (args.map .val)) n
theorem QBP {β : Type} (ev:Code → (Ex → St → Option β) → St → Option β) (a b:Code) (k:Ex → St → Option β):seqK ev a b k = seqN ev a b k := by
 funext e σ
 cases e with
 | normal => unfold seqK seqN; cases Quu a b <;> simp only [Qac]
 | _ => rfl
theorem Qz0 {β : Type} (d:Nat) (ts bs:List Nat) (next:St → Option β) (k:Ex → St → Option β):Qde d ts bs next k = Qrd d ts bs next k := by
 funext e σ
 cases e with
 | normal => unfold Qde Qrd; simp only [Qac]
 | _ => rfl
theorem Qzw {β : Type} (ev:Code → (Ex → St → Option β) → St → Option β) (d:Nat) (ts bs:List Nat) (a:Code) (k:Ex → St → Option β) (n:Nat):Qau ev d ts bs a k n = QuG ev d ts bs a k n := by
 induction n with
 | zero => rfl
 | succ n ih =>
  show ev a (Qde d ts bs (Qau ev d ts bs a k n) k) = ev a (Qrd d ts bs (QuG ev d ts bs a k n) k)
  rw [Qz0,ih]
section
variable {β : Type} (P:Program) (K:Cfg) (call:FuncId → List CV → Option CV) (m:Nat)
theorem Qx2 (ev1:Code → (Ex → St → Option β) → St → Option β) (D:Nat) (asg body:Code) (ps:List Nat) (tm:List AV) (K:Cfg) (items:List (List CV)) (k:Ex → List (List (Option (List AV))) → Option β) (n:Nat) :
  Qbu ev1 D asg body ps tm K items k n = Qsl ev1 D asg body ps tm K items k n := by
 induction n with
 | zero => rfl
 | succ n ih =>
  funext i mem
  show (bif decide (i < items.length) then optO items[i]? fun x => lits ps.length x fun x => (ev1 asg (Qin ev1 D body (Qbu ev1 D asg body ps tm K items k n (i + 1)) k) { tmps := QeF tm ps x,mem := mem ++ [List.replicate tm.length none],K := K }) else k .normal mem) =
   (bif decide (i < items.length) then optO items[i]? fun x => lits ps.length x fun x => (ev1 asg (QoE ev1 D body (Qsl ev1 D asg body ps tm K items k n (i + 1)) k) { tmps := QeF tm ps x,mem := mem ++ [List.replicate tm.length none],K := K }) else k .normal mem)
  have hB:∀ next,Qkm D next k = Qsc D next k := fun next => by
   funext e σ
   cases e with
   | normal => unfold Qkm Qsc; simp only [Qac]
   | _ => rfl
  have hA:∀ next,Qin ev1 D body next k = QoE ev1 D body next k := fun next => by
   funext e σ
   cases e with
   | normal => unfold Qin QoE; rw [hB]
   | _ => rfl
  rw [hA,ih]
theorem QyI (inl:FuncId → List AV → List (List (Option (List AV))) → (AV → List (List (Option (List AV))) → Option β) → Option β) (d:Nat) (rg:Bool) (ev ev1:Code → (Ex → St → Option β) → St → Option β) :
  Qco P call inl m d rg ev ev1 = QlI P call inl m d rg ev ev1 := by
 funext c k σ
 cases c with
 | seq a b => show ev a (seqK ev a b k) σ = ev a (seqN ev a b k) σ; rw [QBP]
 | loop a => unfold Qco QlI; simp only [Qac,Qzw]
 | rangeFunc g ps asg body => unfold Qco QlI; simp only [Qac,Qx2]; cases rg <;> rfl
 | _ => rfl
theorem QBH (inl:FuncId → List AV → List (List (Option (List AV))) → (AV → List (List (Option (List AV))) → Option β) → Option β) (j:Nat) :
  evG P call inl m j = evGN P call inl m j := by
 induction j with
 | zero => rfl
 | succ j ih =>
  funext d rg
  show Qco P call inl m d rg (evG P call inl m j d rg) (evG P call inl m j (d + 1) false) = QlI P call inl m d rg (evGN P call inl m j d rg) (evGN P call inl m j (d + 1) false)
  rw [QyI,ih]
theorem Qxi (inl:FuncId → List AV → List (List (Option (List AV))) → (AV → List (List (Option (List AV))) → Option β) → Option β) (d j:Nat) :
  evN P call inl m d j = evNN P call inl m d j := by
 unfold evN evNN
 rw [QBH]
theorem Qpx (inl:FuncId → List AV → List (List (Option (List AV))) → (AV → List (List (Option (List AV))) → Option β) → Option β) :
  QaR P K call m inl = QjS P K call m inl := by
 funext f args mem k
 unfold QaR QjS
 simp only [Qxi]
 rfl
theorem Qxm (dp:Nat):(evF P K call m dp:FuncId → List AV → List (List (Option (List AV))) → (AV → List (List (Option (List AV))) → Option β) → Option β) = evFN P K call m dp := by
 induction dp with
 | zero => rfl
 | succ n ih =>
  show Qbs K (QaR P K call m (evF P K call m n)) = Qbs K (QjS P K call m (evFN P K call m n))
  rw [Qpx,ih]
end
theorem QyX (P:Program) (K:Cfg) (call:FuncId → List CV → Option CV) (m:Nat) (inl:FuncId → List AV → List (List (Option (List AV))) → (AV → List (List (Option (List AV))) → Option CV) → Option CV)
  (f:FuncId) (args:List AV):QkP P K call m inl f args = Qq8 P K call m inl f args := by
 unfold QkP Qq8 Qn6
 rw [Qpx]
 simp only [Qxi]
 rfl
theorem QuZ (P:Program) (K:Cfg) (lib:FuncId → Option (List CV → Option CV)) (n:Nat):Qbw P K lib n = Qru P K lib n := by
 induction n with
 | zero => funext f args; unfold Qbw; rfl
 | succ n ih =>
  funext f args
  unfold Qbw
  show _ = (match lib f with
   | some s => s args
   | none => Qq8 P K (Qru P K lib n) n (evFN P K (Qru P K lib n) n 9) f (args.map .val))
  rw [ih,QyX,Qxm]
  rfl
end Go.Am
