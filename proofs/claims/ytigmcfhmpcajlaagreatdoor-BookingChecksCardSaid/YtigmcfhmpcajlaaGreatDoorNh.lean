/- The evaluation without the held joins: the same, and the kernel can run it on given data. Conditions: none. -/
import Derived.Test.YtigmcfhmpcajlaaGreatDoorAm
set_option linter.unusedSimpArgs false
namespace Go.Am
noncomputable def seqN {β : Type} (ev : Code → (Ex → St → Option β) → St → Option β) (a b : Code) (k : Ex → St → Option β) (e : Ex) (σ : St) : Option β :=
 match e with
 | .normal => ev b k (tidy a σ)
 | e => k e σ
noncomputable def Qm6 {β : Type} (d : Nat) (ts bs : List Nat) (next : St → Option β) (k : Ex → St → Option β) (e : Ex) (σ : St) : Option β :=
 match e with
 | .normal => next (clear d ts bs σ)
 | e => k e σ
noncomputable def Qp6 {β : Type} (ev : Code → (Ex → St → Option β) → St → Option β) (d : Nat) (ts bs : List Nat) (a : Code) (k : Ex → St → Option β) (n : Nat) : St → Option β :=
 Nat.rec (fun _ => none) (fun _ ih => ev a (Qm6 d ts bs ih k)) n
noncomputable def QnU {β : Type} (D : Nat) (next : List (List (Option (List AV))) → Option β) (k : Ex → List (List (Option (List AV))) → Option β) (e : Ex) (σ : St) : Option β :=
 match e with
 | .normal => next (QcE D σ.mem)
 | .exit id => k (.exit id) (QcE D σ.mem)
 | .ret => k .ret (QcE D σ.mem)
noncomputable def Qla {β : Type} (ev1 : Code → (Ex → St → Option β) → St → Option β) (D : Nat) (body : Code) (next : List (List (Option (List AV))) → Option β) (k : Ex → List (List (Option (List AV))) → Option β) (e : Ex) (σ : St) : Option β :=
 match e with
 | .normal => ev1 body (QnU D next k) σ
 | _ => none
noncomputable def Qn9 {β : Type} (ev1 : Code → (Ex → St → Option β) → St → Option β) (D : Nat) (asg body : Code) (ps : List Nat) (tm : List AV) (K : Cfg) (items : List (List CV)) (k : Ex → List (List (Option (List AV))) → Option β) (n : Nat) :
  Nat → List (List (Option (List AV))) → Option β :=
 Nat.rec (fun _ _ => none) (fun _ ih i mem => bif decide (i < items.length) then
   optO items[i]? fun x => lits ps.length x fun x => (ev1 asg (Qla ev1 D body (ih (i + 1)) k) { tmps := Qdy tm ps x, mem := mem ++ [List.replicate tm.length none], K := K })
  else k .normal mem) n
noncomputable def QiL {β : Type} (P : Program) (call : FuncId → List CV → Option CV)
  (inl : FuncId → List AV → List (List (Option (List AV))) → (AV → List (List (Option (List AV))) → Option β) → Option β)
  (m d : Nat) (rg : Bool) (ev ev1 : Code → (Ex → St → Option β) → St → Option β) (c : Code) (k : Ex → St → Option β) (σ : St) : Option β :=
 match c with
 | .skip => k .normal σ
 | .region _ ops draw =>
  match draw with
  | false => opsK P call inl d ops.toList ops.toList (k .normal) σ
  | true => chkO (Qck 0 ops.toList) (QbB P call inl d (Region.before ops).toList ops.toList ops.toList 0 [] (k .normal) σ)
 | .seq a b => ev a (seqN ev a b k) σ
 | .cond c a b => optO (Qkj σ c) fun t => bif t then ev a (Qeh a b k) σ else ev b (Qeh a b k) σ
 | .block id a => ev a (Qao id k) σ
 | .loop a =>
  let ts := Qak a ++ anys σ (Qco a)
  let bs := Qjk σ d (Qc8 a)
  Qp6 ev d ts bs a k m (clear d ts bs σ)
 | .exit id => k (.exit id) σ
 | .scope a => ev a k σ
 | .label _ => k .normal σ
 | .ret => k .ret σ
 | .rangeFunc g ps asg body => match rg with
  | true => optO (QhG d σ g) fun q => optO (σ.K.iter q.1) fun it => optO (it (q.2.map (·.2))) fun items => chkO (items.all (·.length == ps.size)) <|
    let tm := σ.tmps.map fun v => v.copy.scrub (capP q.2)
    Qn9 ev1 (d + 1) asg body ps.toList tm σ.K items (Qca k tm σ.K) m 0 (Qbq (capP q.2) 0 σ.mem)
  | false => none
 | _ => none
noncomputable def evGN {β : Type} (P : Program) (call : FuncId → List CV → Option CV)
  (inl : FuncId → List AV → List (List (Option (List AV))) → (AV → List (List (Option (List AV))) → Option β) → Option β)
  (m j : Nat) : Nat → Bool → Code → (Ex → St → Option β) → St → Option β :=
 Nat.rec (fun _ _ _ _ _ => none) (fun _ ih d rg => QiL P call inl m d rg (ih d rg) (ih (d + 1) false)) j
noncomputable def evNN {β : Type} (P : Program) (call : FuncId → List CV → Option CV)
  (inl : FuncId → List AV → List (List (Option (List AV))) → (AV → List (List (Option (List AV))) → Option β) → Option β)
  (m d j : Nat) : Code → (Ex → St → Option β) → St → Option β := evGN P call inl m j d true
noncomputable def Qhh {β : Type} (P : Program) (K : Cfg) (call : FuncId → List CV → Option CV) (m : Nat)
  (inl : FuncId → List AV → List (List (Option (List AV))) → (AV → List (List (Option (List AV))) → Option β) → Option β)
  (f : FuncId) (args : List AV) (mem : List (List (Option (List AV)))) (k : AV → List (List (Option (List AV))) → Option β) : Option β :=
  match P.funcs[f]? with
  | some fn => match fn.body with
   | some c => evNN P call inl m mem.length 1000 c (QiX P (K.lift f) fn.results.toList mem.length k)
     { tmps := args ++ List.replicate (fn.ntmps - args.length) .any, mem := mem ++ [List.replicate fn.ntmps none], K := K }
   | none => none
  | none => none
noncomputable def evFN {β : Type} (P : Program) (K : Cfg) (call : FuncId → List CV → Option CV) (m dp : Nat) : FuncId → List AV → List (List (Option (List AV))) →
  (AV → List (List (Option (List AV))) → Option β) → Option β :=
 Nat.rec (fun _ _ _ _ => none) (fun _ ih => Qb0 K (Qhh P K call m ih)) dp
noncomputable def QmQ (P : Program) (K : Cfg) (call : FuncId → List CV → Option CV) (m : Nat)
  (inl : FuncId → List AV → List (List (Option (List AV))) → (AV → List (List (Option (List AV))) → Option CV) → Option CV)
  (f : FuncId) (args : List AV) : Option CV :=
 match K.own f with
 | none => Qhh P K call m inl f args [] (outK (Qaf P f))
 | some e => match Qaf P f with
  | none => match P.funcs[f]? with
   | some fn => match fn.body with
    | some c => evNN P call inl m 0 1000 c (QmD fn.results.toList e)
      { tmps := args ++ List.replicate (fn.ntmps - args.length) .any, mem := [List.replicate fn.ntmps none], K := K }
    | none => none
   | none => none
  | some _ => none
noncomputable def QdU (P : Program) (K : Cfg) (lib : FuncId → Option (List CV → Option CV)) (n : Nat) : FuncId → List CV → Option CV :=
 Nat.rec (fun _ _ => none) (fun n ih f args => match lib f with
  | some s => s args
  | none => QmQ P K ih n (evFN P K ih n 9) f (args.map .val)) n
theorem QtQ {β : Type} (ev : Code → (Ex → St → Option β) → St → Option β) (a b : Code) (k : Ex → St → Option β) : seqK ev a b k = seqN ev a b k := by
 funext e σ
 cases e with
 | normal => unfold seqK seqN; cases Qnz a b <;> simp only [Qae]
 | _ => rfl
theorem Qr4 {β : Type} (d : Nat) (ts bs : List Nat) (next : St → Option β) (k : Ex → St → Option β) : QcV d ts bs next k = Qm6 d ts bs next k := by
 funext e σ
 cases e with
 | normal => unfold QcV Qm6; simp only [Qae]
 | _ => rfl
theorem QsE {β : Type} (ev : Code → (Ex → St → Option β) → St → Option β) (d : Nat) (ts bs : List Nat) (a : Code) (k : Ex → St → Option β) (n : Nat) : QaC ev d ts bs a k n = Qp6 ev d ts bs a k n := by
 induction n with
 | zero => rfl
 | succ n ih =>
  show ev a (QcV d ts bs (QaC ev d ts bs a k n) k) = ev a (Qm6 d ts bs (Qp6 ev d ts bs a k n) k)
  rw [Qr4, ih]
section
variable {β : Type} (P : Program) (K : Cfg) (call : FuncId → List CV → Option CV) (m : Nat)
theorem QrH (ev1 : Code → (Ex → St → Option β) → St → Option β) (D : Nat) (asg body : Code) (ps : List Nat) (tm : List AV) (K : Cfg) (items : List (List CV)) (k : Ex → List (List (Option (List AV))) → Option β) (n : Nat) :
  Qbo ev1 D asg body ps tm K items k n = Qn9 ev1 D asg body ps tm K items k n := by
 induction n with
 | zero => rfl
 | succ n ih =>
  funext i mem
  show (bif decide (i < items.length) then optO items[i]? fun x => lits ps.length x fun x => (ev1 asg (Qgy ev1 D body (Qbo ev1 D asg body ps tm K items k n (i + 1)) k) { tmps := Qdy tm ps x, mem := mem ++ [List.replicate tm.length none], K := K }) else k .normal mem) =
   (bif decide (i < items.length) then optO items[i]? fun x => lits ps.length x fun x => (ev1 asg (Qla ev1 D body (Qn9 ev1 D asg body ps tm K items k n (i + 1)) k) { tmps := Qdy tm ps x, mem := mem ++ [List.replicate tm.length none], K := K }) else k .normal mem)
  have hB : ∀ next, QhE D next k = QnU D next k := fun next => by
   funext e σ
   cases e with
   | normal => unfold QhE QnU; simp only [Qae]
   | _ => rfl
  have hA : ∀ next, Qgy ev1 D body next k = Qla ev1 D body next k := fun next => by
   funext e σ
   cases e with
   | normal => unfold Qgy Qla; rw [hB]
   | _ => rfl
  rw [hA, ih]
theorem QrA (inl : FuncId → List AV → List (List (Option (List AV))) → (AV → List (List (Option (List AV))) → Option β) → Option β) (d : Nat) (rg : Bool) (ev ev1 : Code → (Ex → St → Option β) → St → Option β) :
  Qdo P call inl m d rg ev ev1 = QiL P call inl m d rg ev ev1 := by
 funext c k σ
 cases c with
 | seq a b => show ev a (seqK ev a b k) σ = ev a (seqN ev a b k) σ; rw [QtQ]
 | loop a => unfold Qdo QiL; simp only [Qae, QsE]
 | rangeFunc g ps asg body => unfold Qdo QiL; simp only [Qae, QrH]; cases rg <;> rfl
 | _ => rfl
theorem Qt4 (inl : FuncId → List AV → List (List (Option (List AV))) → (AV → List (List (Option (List AV))) → Option β) → Option β) (j : Nat) :
  evG P call inl m j = evGN P call inl m j := by
 induction j with
 | zero => rfl
 | succ j ih =>
  funext d rg
  show Qdo P call inl m d rg (evG P call inl m j d rg) (evG P call inl m j (d + 1) false) = QiL P call inl m d rg (evGN P call inl m j d rg) (evGN P call inl m j (d + 1) false)
  rw [QrA, ih]
theorem Qrl (inl : FuncId → List AV → List (List (Option (List AV))) → (AV → List (List (Option (List AV))) → Option β) → Option β) (d j : Nat) :
  evN P call inl m d j = evNN P call inl m d j := by
 unfold evN evNN
 rw [Qt4]
theorem QlQ (inl : FuncId → List AV → List (List (Option (List AV))) → (AV → List (List (Option (List AV))) → Option β) → Option β) :
  Qbk P K call m inl = Qhh P K call m inl := by
 funext f args mem k
 unfold Qbk Qhh
 simp only [Qrl]
 rfl
theorem Quk (dp : Nat) : (evF P K call m dp : FuncId → List AV → List (List (Option (List AV))) → (AV → List (List (Option (List AV))) → Option β) → Option β) = evFN P K call m dp := by
 induction dp with
 | zero => rfl
 | succ n ih =>
  show Qb0 K (Qbk P K call m (evF P K call m n)) = Qb0 K (Qhh P K call m (evFN P K call m n))
  rw [QlQ, ih]
end
theorem Qsa (P : Program) (K : Cfg) (call : FuncId → List CV → Option CV) (m : Nat) (inl : FuncId → List AV → List (List (Option (List AV))) → (AV → List (List (Option (List AV))) → Option CV) → Option CV)
  (f : FuncId) (args : List AV) : Qjg P K call m inl f args = QmQ P K call m inl f args := by
 unfold Qjg QmQ Qj9
 rw [QlQ]
 simp only [Qrl]
 rfl
theorem Qtm (P : Program) (K : Cfg) (lib : FuncId → Option (List CV → Option CV)) (n : Nat) : Qcr P K lib n = QdU P K lib n := by
 induction n with
 | zero => funext f args; unfold Qcr; rfl
 | succ n ih =>
  funext f args
  unfold Qcr
  show _ = (match lib f with
   | some s => s args
   | none => QmQ P K (QdU P K lib n) n (evFN P K (QdU P K lib n) n 9) f (args.map .val))
  rw [ih, Qsa, Quk]
  rfl
end Go.Am
