/- The evaluation without the held joins: the same, and the kernel can run it on given data. Conditions: none. -/
import Derived.Test.YtdcpdknginpohaaGreatDoorAm
set_option linter.unusedSimpArgs false
namespace Go.Am
noncomputable def seqN {β : Type} (ev : Code → (Ex → St → Option β) → St → Option β) (a b : Code) (k : Ex → St → Option β) (e : Ex) (σ : St) : Option β :=
  match e with
  | .normal => ev b k (tidy a σ)
  | e => k e σ
noncomputable def loopKN {β : Type} (d : Nat) (ts bs : List Nat) (next : St → Option β) (k : Ex → St → Option β) (e : Ex) (σ : St) : Option β :=
  match e with
  | .normal => next (clear d ts bs σ)
  | e => k e σ
noncomputable def loopCN {β : Type} (ev : Code → (Ex → St → Option β) → St → Option β) (d : Nat) (ts bs : List Nat) (a : Code) (k : Ex → St → Option β) (n : Nat) : St → Option β :=
  Nat.rec (fun _ => none) (fun _ ih => ev a (loopKN d ts bs ih k)) n
noncomputable def roundBN {β : Type} (D : Nat) (next : List (List (Option (List AV))) → Option β) (k : Ex → List (List (Option (List AV))) → Option β) (e : Ex) (σ : St) : Option β :=
  match e with
  | .normal => next (dropTop D σ.mem)
  | .exit id => k (.exit id) (dropTop D σ.mem)
  | .ret => k .ret (dropTop D σ.mem)
noncomputable def roundAN {β : Type} (ev1 : Code → (Ex → St → Option β) → St → Option β) (D : Nat) (body : Code) (next : List (List (Option (List AV))) → Option β) (k : Ex → List (List (Option (List AV))) → Option β) (e : Ex) (σ : St) : Option β :=
  match e with
  | .normal => ev1 body (roundBN D next k) σ
  | _ => none
noncomputable def rangeCN {β : Type} (ev1 : Code → (Ex → St → Option β) → St → Option β) (D : Nat) (asg body : Code) (ps : List Nat) (tm : List AV) (K : Cfg) (items : List (List CV)) (k : Ex → List (List (Option (List AV))) → Option β) (n : Nat) :
    Nat → List (List (Option (List AV))) → Option β :=
  Nat.rec (fun _ _ => none) (fun _ ih i mem => bif decide (i < items.length) then
      optO items[i]? fun x => lits ps.length x fun x => (ev1 asg (roundAN ev1 D body (ih (i + 1)) k) { tmps := setPs tm ps x, mem := mem ++ [List.replicate tm.length none], K := K })
    else k .normal mem) n
noncomputable def evStepN {β : Type} (P : Program) (call : FuncId → List CV → Option CV)
    (inl : FuncId → List AV → List (List (Option (List AV))) → (AV → List (List (Option (List AV))) → Option β) → Option β)
    (m d : Nat) (rg : Bool) (ev ev1 : Code → (Ex → St → Option β) → St → Option β) (c : Code) (k : Ex → St → Option β) (σ : St) : Option β :=
  match c with
  | .skip => k .normal σ
  | .region _ ops draw =>
    match draw with
    | false => opsK P call inl d ops.toList ops.toList (k .normal) σ
    | true => chkO (edgesDown 0 ops.toList) (opsDrawK P call inl d (Region.before ops).toList ops.toList ops.toList 0 [] (k .normal) σ)
  | .seq a b => ev a (seqN ev a b k) σ
  | .cond c a b => optO (condOf σ c) fun t => bif t then ev a (condK a b k) σ else ev b (condK a b k) σ
  | .block id a => ev a (blockK id k) σ
  | .loop a =>
    let ts := loopTemps a ++ anys σ (assigns a)
    let bs := nones σ d (allocs a)
    loopCN ev d ts bs a k m (clear d ts bs σ)
  | .exit id => k (.exit id) σ
  | .scope a => ev a k σ
  | .label _ => k .normal σ
  | .ret => k .ret σ
  | .rangeFunc g ps asg body => match rg with
    | true => optO (iterOf d σ g) fun q => optO (σ.K.iter q.1) fun it => optO (it (q.2.map (·.2))) fun items => chkO (items.all (·.length == ps.size)) <|
        let tm := σ.tmps.map fun v => v.copy.scrub (capP q.2)
        rangeCN ev1 (d + 1) asg body ps.toList tm σ.K items (rangeK k tm σ.K) m 0 (maskMem (capP q.2) 0 σ.mem)
    | false => none
  | _ => none
noncomputable def evGN {β : Type} (P : Program) (call : FuncId → List CV → Option CV)
    (inl : FuncId → List AV → List (List (Option (List AV))) → (AV → List (List (Option (List AV))) → Option β) → Option β)
    (m : Nat) (j : Nat) : Nat → Bool → Code → (Ex → St → Option β) → St → Option β :=
  Nat.rec (fun _ _ _ _ _ => none) (fun _ ih d rg => evStepN P call inl m d rg (ih d rg) (ih (d + 1) false)) j
noncomputable def evNN {β : Type} (P : Program) (call : FuncId → List CV → Option CV)
    (inl : FuncId → List AV → List (List (Option (List AV))) → (AV → List (List (Option (List AV))) → Option β) → Option β)
    (m d : Nat) (j : Nat) : Code → (Ex → St → Option β) → St → Option β := evGN P call inl m j d true
noncomputable def evFStepN {β : Type} (P : Program) (K : Cfg) (call : FuncId → List CV → Option CV) (m : Nat)
    (inl : FuncId → List AV → List (List (Option (List AV))) → (AV → List (List (Option (List AV))) → Option β) → Option β)
    (f : FuncId) (args : List AV) (mem : List (List (Option (List AV)))) (k : AV → List (List (Option (List AV))) → Option β) : Option β :=
    match P.funcs[f]? with
    | some fn => match fn.body with
      | some c => evNN P call inl m mem.length 1000 c (retOf P (K.lift f) fn.results.toList mem.length k)
          { tmps := args ++ List.replicate (fn.ntmps - args.length) .any, mem := mem ++ [List.replicate fn.ntmps none], K := K }
      | none => none
    | none => none
noncomputable def evFN {β : Type} (P : Program) (K : Cfg) (call : FuncId → List CV → Option CV) (m dp : Nat) : FuncId → List AV → List (List (Option (List AV))) →
    (AV → List (List (Option (List AV))) → Option β) → Option β :=
  Nat.rec (fun _ _ _ _ => none) (fun _ ih => hooked K (evFStepN P K call m ih)) dp
noncomputable def evTopN (P : Program) (K : Cfg) (call : FuncId → List CV → Option CV) (m : Nat)
    (inl : FuncId → List AV → List (List (Option (List AV))) → (AV → List (List (Option (List AV))) → Option CV) → Option CV)
    (f : FuncId) (args : List AV) : Option CV :=
  match K.own f with
  | none => evFStepN P K call m inl f args [] (outK (tightF P f))
  | some e => match tightF P f with
    | none => match P.funcs[f]? with
      | some fn => match fn.body with
        | some c => evNN P call inl m 0 1000 c (retOwn fn.results.toList e)
            { tmps := args ++ List.replicate (fn.ntmps - args.length) .any, mem := [List.replicate fn.ntmps none], K := K }
        | none => none
      | none => none
    | some _ => none
noncomputable def callN (P : Program) (K : Cfg) (lib : FuncId → Option (List CV → Option CV)) (n : Nat) : FuncId → List CV → Option CV :=
  Nat.rec (fun _ _ => none) (fun n ih f args => match lib f with
    | some s => s args
    | none => evTopN P K ih n (evFN P K ih n 9) f (args.map .val)) n

theorem seqN_eq {β : Type} (ev : Code → (Ex → St → Option β) → St → Option β) (a b : Code) (k : Ex → St → Option β) : seqK ev a b k = seqN ev a b k := by
  funext e σ
  cases e with
  | normal => unfold seqK seqN; cases cutAt a b <;> simp only [hold_eq]
  | _ => rfl
theorem loopKN_eq {β : Type} (d : Nat) (ts bs : List Nat) (next : St → Option β) (k : Ex → St → Option β) : loopK d ts bs next k = loopKN d ts bs next k := by
  funext e σ
  cases e with
  | normal => unfold loopK loopKN; simp only [hold_eq]
  | _ => rfl
theorem loopCN_eq {β : Type} (ev : Code → (Ex → St → Option β) → St → Option β) (d : Nat) (ts bs : List Nat) (a : Code) (k : Ex → St → Option β) (n : Nat) : loopC ev d ts bs a k n = loopCN ev d ts bs a k n := by
  induction n with
  | zero => rfl
  | succ n ih =>
    show ev a (loopK d ts bs (loopC ev d ts bs a k n) k) = ev a (loopKN d ts bs (loopCN ev d ts bs a k n) k)
    rw [loopKN_eq, ih]
section
variable {β : Type} (P : Program) (K : Cfg) (call : FuncId → List CV → Option CV) (m : Nat)
theorem rangeCN_eq (ev1 : Code → (Ex → St → Option β) → St → Option β) (D : Nat) (asg body : Code) (ps : List Nat) (tm : List AV) (K : Cfg) (items : List (List CV)) (k : Ex → List (List (Option (List AV))) → Option β) (n : Nat) :
    rangeC ev1 D asg body ps tm K items k n = rangeCN ev1 D asg body ps tm K items k n := by
  induction n with
  | zero => rfl
  | succ n ih =>
    funext i mem
    show (bif decide (i < items.length) then optO items[i]? fun x => lits ps.length x fun x => (ev1 asg (roundA ev1 D body (rangeC ev1 D asg body ps tm K items k n (i + 1)) k) { tmps := setPs tm ps x, mem := mem ++ [List.replicate tm.length none], K := K }) else k .normal mem) =
      (bif decide (i < items.length) then optO items[i]? fun x => lits ps.length x fun x => (ev1 asg (roundAN ev1 D body (rangeCN ev1 D asg body ps tm K items k n (i + 1)) k) { tmps := setPs tm ps x, mem := mem ++ [List.replicate tm.length none], K := K }) else k .normal mem)
    have hB : ∀ next, roundB D next k = roundBN D next k := fun next => by
      funext e σ
      cases e with
      | normal => unfold roundB roundBN; simp only [hold_eq]
      | _ => rfl
    have hA : ∀ next, roundA ev1 D body next k = roundAN ev1 D body next k := fun next => by
      funext e σ
      cases e with
      | normal => unfold roundA roundAN; rw [hB]
      | _ => rfl
    rw [hA, ih]
theorem evStepN_eq (inl : FuncId → List AV → List (List (Option (List AV))) → (AV → List (List (Option (List AV))) → Option β) → Option β) (d : Nat) (rg : Bool) (ev ev1 : Code → (Ex → St → Option β) → St → Option β) :
    evStep P call inl m d rg ev ev1 = evStepN P call inl m d rg ev ev1 := by
  funext c k σ
  cases c with
  | seq a b => show ev a (seqK ev a b k) σ = ev a (seqN ev a b k) σ; rw [seqN_eq]
  | loop a => unfold evStep evStepN; simp only [hold_eq, loopCN_eq]
  | rangeFunc g ps asg body => unfold evStep evStepN; simp only [hold_eq, rangeCN_eq]; cases rg <;> rfl
  | _ => rfl
theorem evGN_eq (inl : FuncId → List AV → List (List (Option (List AV))) → (AV → List (List (Option (List AV))) → Option β) → Option β) (j : Nat) :
    evG P call inl m j = evGN P call inl m j := by
  induction j with
  | zero => rfl
  | succ j ih =>
    funext d rg
    show evStep P call inl m d rg (evG P call inl m j d rg) (evG P call inl m j (d + 1) false) = evStepN P call inl m d rg (evGN P call inl m j d rg) (evGN P call inl m j (d + 1) false)
    rw [evStepN_eq, ih]
theorem evNN_eq (inl : FuncId → List AV → List (List (Option (List AV))) → (AV → List (List (Option (List AV))) → Option β) → Option β) (d j : Nat) :
    evN P call inl m d j = evNN P call inl m d j := by
  unfold evN evNN
  rw [evGN_eq]
theorem evFStepN_eq (inl : FuncId → List AV → List (List (Option (List AV))) → (AV → List (List (Option (List AV))) → Option β) → Option β) :
    evFStep P K call m inl = evFStepN P K call m inl := by
  funext f args mem k
  unfold evFStep evFStepN
  simp only [evNN_eq]
  rfl
theorem evFN_eq (dp : Nat) : (evF P K call m dp : FuncId → List AV → List (List (Option (List AV))) → (AV → List (List (Option (List AV))) → Option β) → Option β) = evFN P K call m dp := by
  induction dp with
  | zero => rfl
  | succ n ih =>
    show hooked K (evFStep P K call m (evF P K call m n)) = hooked K (evFStepN P K call m (evFN P K call m n))
    rw [evFStepN_eq, ih]
end
theorem evTopN_eq (P : Program) (K : Cfg) (call : FuncId → List CV → Option CV) (m : Nat) (inl : FuncId → List AV → List (List (Option (List AV))) → (AV → List (List (Option (List AV))) → Option CV) → Option CV)
    (f : FuncId) (args : List AV) : evTop P K call m inl f args = evTopN P K call m inl f args := by
  unfold evTop evTopN evFOwn
  rw [evFStepN_eq]
  simp only [evNN_eq]
  rfl
theorem callN_eq (P : Program) (K : Cfg) (lib : FuncId → Option (List CV → Option CV)) (n : Nat) : callF P K lib n = callN P K lib n := by
  induction n with
  | zero => funext f args; unfold callF; rfl
  | succ n ih =>
    funext f args
    unfold callF
    show _ = (match lib f with
      | some s => s args
      | none => evTopN P K (callN P K lib n) n (evFN P K (callN P K lib n) n 9) f (args.map .val))
    rw [ih, evTopN_eq, evFN_eq]
    rfl
end Go.Am
