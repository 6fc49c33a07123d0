/- The evaluation without the held joins: the same, and the kernel can run it on given data. Conditions: none. -/
import Derived.Test.YtmefepdgnkhagaaGreatDoorAm
set_option linter.unusedSimpArgs false
namespace Go.Am
noncomputable def seqN {β : Type} (ev : Code → (Ex → St → Option β) → St → Option β) (a b : Code) (k : Ex → St → Option β) (e : Ex) (σ : St) : Option β :=
  match e with
  | .normal => ev b k (tidy a σ)
  | e => k e σ
noncomputable def loopKN {β : Type} (d : Nat) (ts bs : List Nat) (next : St → Option β) (k : Ex → St → Option β) (e : Ex) (σ : St) : Option β :=
  match e with
  | .normal => next (clear d ts bs σ)
  | e => k e σ
noncomputable def loopCN {β : Type} (ev : Code → (Ex → St → Option β) → St → Option β) (d : Nat) (ts bs : List Nat) (a : Code) (k : Ex → St → Option β) (n : Nat) : St → Option β :=
  Nat.rec (fun _ => none) (fun _ ih => ev a (loopKN d ts bs ih k)) n
noncomputable def evStepN {β : Type} (P : Program) (call : FuncId → List CV → Option CV)
    (inl : FuncId → List AV → List (List (Option (List AV))) → (AV → List (List (Option (List AV))) → Option β) → Option β)
    (m d : Nat) (ev : Code → (Ex → St → Option β) → St → Option β) (c : Code) (k : Ex → St → Option β) (σ : St) : Option β :=
  match c with
  | .skip => k .normal σ
  | .region _ ops draw =>
    match draw with
    | false => opsK P call inl d ops.toList ops.toList (k .normal) σ
    | true => chkO (edgesDown 0 ops.toList) (opsDrawK P call inl d (Region.before ops).toList ops.toList ops.toList 0 [] (k .normal) σ)
  | .seq a b => ev a (seqN ev a b k) σ
  | .cond c a b => optO (condOf σ c) fun t => bif t then ev a (condK a b k) σ else ev b (condK a b k) σ
  | .block id a => ev a (blockK id k) σ
  | .loop a =>
    let ts := loopTemps a ++ anys σ (assigns a)
    let bs := nones σ d (allocs a)
    loopCN ev d ts bs a k m (clear d ts bs σ)
  | .exit id => k (.exit id) σ
  | .scope a => ev a k σ
  | .label _ => k .normal σ
  | .ret => k .ret σ
  | _ => none
noncomputable def evNN {β : Type} (P : Program) (call : FuncId → List CV → Option CV)
    (inl : FuncId → List AV → List (List (Option (List AV))) → (AV → List (List (Option (List AV))) → Option β) → Option β)
    (m d : Nat) (j : Nat) : Code → (Ex → St → Option β) → St → Option β :=
  Nat.rec (fun _ _ _ => none) (fun _ ih => evStepN P call inl m d ih) j
noncomputable def evFStepN {β : Type} (P : Program) (K : Cfg) (call : FuncId → List CV → Option CV) (m : Nat)
    (inl : FuncId → List AV → List (List (Option (List AV))) → (AV → List (List (Option (List AV))) → Option β) → Option β)
    (f : FuncId) (args : List AV) (mem : List (List (Option (List AV)))) (k : AV → List (List (Option (List AV))) → Option β) : Option β :=
    match P.funcs[f]? with
    | some fn => match fn.body with
      | some c => evNN P call inl m mem.length 1000 c (retK P fn.results.toList mem.length k)
          { tmps := args ++ List.replicate (fn.ntmps - args.length) .any, mem := mem ++ [List.replicate fn.ntmps none], K := K }
      | none => none
    | none => none
noncomputable def evFN {β : Type} (P : Program) (K : Cfg) (call : FuncId → List CV → Option CV) (m dp : Nat) : FuncId → List AV → List (List (Option (List AV))) →
    (AV → List (List (Option (List AV))) → Option β) → Option β :=
  Nat.rec (fun _ _ _ _ => none) (fun _ ih => hooked K (evFStepN P K call m ih)) dp
noncomputable def evTopN (P : Program) (K : Cfg) (call : FuncId → List CV → Option CV) (m : Nat)
    (inl : FuncId → List AV → List (List (Option (List AV))) → (AV → List (List (Option (List AV))) → Option CV) → Option CV)
    (f : FuncId) (args : List AV) : Option CV :=
  match K.own f with
  | none => evFStepN P K call m inl f args [] (outK (tightF P f))
  | some e => match tightF P f with
    | none => match P.funcs[f]? with
      | some fn => match fn.body with
        | some c => evNN P call inl m 0 1000 c (retOwn fn.results.toList e)
            { tmps := args ++ List.replicate (fn.ntmps - args.length) .any, mem := [List.replicate fn.ntmps none], K := K }
        | none => none
      | none => none
    | some _ => none
noncomputable def callN (P : Program) (K : Cfg) (lib : FuncId → Option (List CV → Option CV)) (n : Nat) : FuncId → List CV → Option CV :=
  Nat.rec (fun _ _ => none) (fun n ih f args => match lib f with
    | some s => s args
    | none => evTopN P K ih n (evFN P K ih n 9) f (args.map .val)) n

theorem seqN_eq {β : Type} (ev : Code → (Ex → St → Option β) → St → Option β) (a b : Code) (k : Ex → St → Option β) : seqK ev a b k = seqN ev a b k := by
  funext e σ
  cases e with
  | normal => unfold seqK seqN; cases cutAt a b <;> simp only [hold_eq]
  | _ => rfl
theorem loopKN_eq {β : Type} (d : Nat) (ts bs : List Nat) (next : St → Option β) (k : Ex → St → Option β) : loopK d ts bs next k = loopKN d ts bs next k := by
  funext e σ
  cases e with
  | normal => unfold loopK loopKN; simp only [hold_eq]
  | _ => rfl
theorem loopCN_eq {β : Type} (ev : Code → (Ex → St → Option β) → St → Option β) (d : Nat) (ts bs : List Nat) (a : Code) (k : Ex → St → Option β) (n : Nat) : loopC ev d ts bs a k n = loopCN ev d ts bs a k n := by
  induction n with
  | zero => rfl
  | succ n ih =>
    show ev a (loopK d ts bs (loopC ev d ts bs a k n) k) = ev a (loopKN d ts bs (loopCN ev d ts bs a k n) k)
    rw [loopKN_eq, ih]
section
variable {β : Type} (P : Program) (K : Cfg) (call : FuncId → List CV → Option CV) (m : Nat)
theorem evStepN_eq (inl : FuncId → List AV → List (List (Option (List AV))) → (AV → List (List (Option (List AV))) → Option β) → Option β) (d : Nat) (ev : Code → (Ex → St → Option β) → St → Option β) :
    evStep P call inl m d ev = evStepN P call inl m d ev := by
  funext c k σ
  cases c with
  | seq a b => show ev a (seqK ev a b k) σ = ev a (seqN ev a b k) σ; rw [seqN_eq]
  | loop a => unfold evStep evStepN; simp only [hold_eq, loopCN_eq]
  | _ => rfl
theorem evNN_eq (inl : FuncId → List AV → List (List (Option (List AV))) → (AV → List (List (Option (List AV))) → Option β) → Option β) (d j : Nat) :
    evN P call inl m d j = evNN P call inl m d j := by
  induction j with
  | zero => rfl
  | succ j ih =>
    show evStep P call inl m d (evN P call inl m d j) = evStepN P call inl m d (evNN P call inl m d j)
    rw [evStepN_eq, ih]
theorem evFStepN_eq (inl : FuncId → List AV → List (List (Option (List AV))) → (AV → List (List (Option (List AV))) → Option β) → Option β) :
    evFStep P K call m inl = evFStepN P K call m inl := by
  funext f args mem k
  unfold evFStep evFStepN
  simp only [evNN_eq]
  rfl
theorem evFN_eq (dp : Nat) : (evF P K call m dp : FuncId → List AV → List (List (Option (List AV))) → (AV → List (List (Option (List AV))) → Option β) → Option β) = evFN P K call m dp := by
  induction dp with
  | zero => rfl
  | succ n ih =>
    show hooked K (evFStep P K call m (evF P K call m n)) = hooked K (evFStepN P K call m (evFN P K call m n))
    rw [evFStepN_eq, ih]
end
theorem evTopN_eq (P : Program) (K : Cfg) (call : FuncId → List CV → Option CV) (m : Nat) (inl : FuncId → List AV → List (List (Option (List AV))) → (AV → List (List (Option (List AV))) → Option CV) → Option CV)
    (f : FuncId) (args : List AV) : evTop P K call m inl f args = evTopN P K call m inl f args := by
  unfold evTop evTopN evFOwn
  rw [evFStepN_eq]
  simp only [evNN_eq]
  rfl
theorem callN_eq (P : Program) (K : Cfg) (lib : FuncId → Option (List CV → Option CV)) (n : Nat) : callF P K lib n = callN P K lib n := by
  induction n with
  | zero => funext f args; unfold callF; rfl
  | succ n ih =>
    funext f args
    unfold callF
    show _ = (match lib f with
      | some s => s args
      | none => evTopN P K (callN P K lib n) n (evFN P K (callN P K lib n) n 9) f (args.map .val))
    rw [ih, evTopN_eq, evFN_eq]
    rfl
end Go.Am
