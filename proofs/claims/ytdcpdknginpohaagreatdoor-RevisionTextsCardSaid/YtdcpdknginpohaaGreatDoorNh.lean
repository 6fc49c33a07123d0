/- The evaluation without the held joins: the same, and the kernel can run it on given data. Conditions: none. -/
import Derived.Test.YtdcpdknginpohaaGreatDoorAm
set_option linter.unusedSimpArgs false
namespace Go.Am
noncomputable def seqN {β : Type} (ev : Code → (Ex → St → Option β) → St → Option β) (a b : Code) (k : Ex → St → Option β) (e : Ex) (σ : St) : Option β :=
 match e with
 | .normal => ev b k (tidy a σ)
 | e => k e σ
noncomputable def Qps {β : Type} (d : Nat) (ts bs : List Nat) (next : St → Option β) (k : Ex → St → Option β) (e : Ex) (σ : St) : Option β :=
 match e with
 | .normal => next (clear d ts bs σ)
 | e => k e σ
noncomputable def Qsk {β : Type} (ev : Code → (Ex → St → Option β) → St → Option β) (d : Nat) (ts bs : List Nat) (a : Code) (k : Ex → St → Option β) (n : Nat) : St → Option β :=
 Nat.rec (fun _ => none) (fun _ ih => ev a (Qps d ts bs ih k)) n
noncomputable def Qqm {β : Type} (D : Nat) (next : List (List (Option (List AV))) → Option β) (k : Ex → List (List (Option (List AV))) → Option β) (e : Ex) (σ : St) : Option β :=
 match e with
 | .normal => next (Qdp D σ.mem)
 | .exit id => k (.exit id) (Qdp D σ.mem)
 | .ret => k .ret (Qdp D σ.mem)
noncomputable def Qna {β : Type} (ev1 : Code → (Ex → St → Option β) → St → Option β) (D : Nat) (body : Code) (next : List (List (Option (List AV))) → Option β) (k : Ex → List (List (Option (List AV))) → Option β) (e : Ex) (σ : St) : Option β :=
 match e with
 | .normal => ev1 body (Qqm D next k) σ
 | _ => none
noncomputable def QqF {β : Type} (ev1 : Code → (Ex → St → Option β) → St → Option β) (D : Nat) (asg body : Code) (ps : List Nat) (tm : List AV) (K : Cfg) (items : List (List CV)) (k : Ex → List (List (Option (List AV))) → Option β) (n : Nat) :
  Nat → List (List (Option (List AV))) → Option β :=
 Nat.rec (fun _ _ => none) (fun _ ih i mem => bif decide (i < items.length) then
   optO items[i]? fun x => lits ps.length x fun x => (ev1 asg (Qna ev1 D body (ih (i + 1)) k) { tmps := Qej tm ps x, mem := mem ++ [List.replicate tm.length none], K := K })
  else k .normal mem) n
noncomputable def Qko {β : Type} (P : Program) (call : FuncId → List CV → Option CV)
  (inl : FuncId → List AV → List (List (Option (List AV))) → (AV → List (List (Option (List AV))) → Option β) → Option β)
  (m d : Nat) (rg : Bool) (ev ev1 : Code → (Ex → St → Option β) → St → Option β) (c : Code) (k : Ex → St → Option β) (σ : St) : Option β :=
 match c with
 | .skip => k .normal σ
 | .region _ ops draw =>
  match draw with
  | false => opsK P call inl d ops.toList ops.toList (k .normal) σ
  | true => chkO (Qc2 0 ops.toList) (Qca P call inl d (Region.before ops).toList ops.toList ops.toList 0 [] (k .normal) σ)
 | .seq a b => ev a (seqN ev a b k) σ
 | .cond c a b => optO (Qmh σ c) fun t => bif t then ev a (Qem a b k) σ else ev b (Qem a b k) σ
 | .block id a => ev a (Qat id k) σ
 | .loop a =>
  let ts := Qaj a ++ anys σ (Qc7 a)
  let bs := Qlr σ d (QdK a)
  Qsk ev d ts bs a k m (clear d ts bs σ)
 | .exit id => k (.exit id) σ
 | .scope a => ev a k σ
 | .label _ => k .normal σ
 | .ret => k .ret σ
 | .rangeFunc g ps asg body => match rg with
  | true => optO (Qja d σ g) fun q => optO (σ.K.iter q.1) fun it => optO (it (q.2.map (·.2))) fun items => chkO (items.all (·.length == ps.size)) <|
    let tm := σ.tmps.map fun v => v.copy.scrub (capP q.2)
    QqF ev1 (d + 1) asg body ps.toList tm σ.K items (QcA k tm σ.K) m 0 (QbT (capP q.2) 0 σ.mem)
  | false => none
 | _ => none
noncomputable def evGN {β : Type} (P : Program) (call : FuncId → List CV → Option CV)
  (inl : FuncId → List AV → List (List (Option (List AV))) → (AV → List (List (Option (List AV))) → Option β) → Option β)
  (m j : Nat) : Nat → Bool → Code → (Ex → St → Option β) → St → Option β :=
 Nat.rec (fun _ _ _ _ _ => none) (fun _ ih d rg => Qko P call inl m d rg (ih d rg) (ih (d + 1) false)) j
noncomputable def evNN {β : Type} (P : Program) (call : FuncId → List CV → Option CV)
  (inl : FuncId → List AV → List (List (Option (List AV))) → (AV → List (List (Option (List AV))) → Option β) → Option β)
  (m d j : Nat) : Code → (Ex → St → Option β) → St → Option β := evGN P call inl m j d true
noncomputable def Qjf {β : Type} (P : Program) (K : Cfg) (call : FuncId → List CV → Option CV) (m : Nat)
  (inl : FuncId → List AV → List (List (Option (List AV))) → (AV → List (List (Option (List AV))) → Option β) → Option β)
  (f : FuncId) (args : List AV) (mem : List (List (Option (List AV)))) (k : AV → List (List (Option (List AV))) → Option β) : Option β :=
  match P.funcs[f]? with
  | some fn => match fn.body with
   | some c => evNN P call inl m mem.length 1000 c (Qlv P (K.lift f) fn.results.toList mem.length k)
     { tmps := args ++ List.replicate (fn.ntmps - args.length) .any, mem := mem ++ [List.replicate fn.ntmps none], K := K }
   | none => none
  | none => none
noncomputable def evFN {β : Type} (P : Program) (K : Cfg) (call : FuncId → List CV → Option CV) (m dp : Nat) : FuncId → List AV → List (List (Option (List AV))) →
  (AV → List (List (Option (List AV))) → Option β) → Option β :=
 Nat.rec (fun _ _ _ _ => none) (fun _ ih => Qcx K (Qjf P K call m ih)) dp
noncomputable def Qo2 (P : Program) (K : Cfg) (call : FuncId → List CV → Option CV) (m : Nat)
  (inl : FuncId → List AV → List (List (Option (List AV))) → (AV → List (List (Option (List AV))) → Option CV) → Option CV)
  (f : FuncId) (args : List AV) : Option CV :=
 match K.own f with
 | none => Qjf P K call m inl f args [] (outK (Qad P f))
 | some e => match Qad P f with
  | none => match P.funcs[f]? with
   | some fn => match fn.body with
    | some c => evNN P call inl m 0 1000 c (QiU fn.results.toList e)
      { tmps := args ++ List.replicate (fn.ntmps - args.length) .any, mem := [List.replicate fn.ntmps none], K := K }
    | none => none
   | none => none
  | some _ => none
noncomputable def QrY (P : Program) (K : Cfg) (lib : FuncId → Option (List CV → Option CV)) (n : Nat) : FuncId → List CV → Option CV :=
 Nat.rec (fun _ _ => none) (fun n ih f args => match lib f with
  | some s => s args
  | none => Qo2 P K ih n (evFN P K ih n 9) f (args.map .val)) n
theorem Qx8 {β : Type} (ev : Code → (Ex → St → Option β) → St → Option β) (a b : Code) (k : Ex → St → Option β) : seqK ev a b k = seqN ev a b k := by
 funext e σ
 cases e with
 | normal => unfold seqK seqN; cases Qr1 a b <;> simp only [Qab]
 | _ => rfl
theorem Qv0 {β : Type} (d : Nat) (ts bs : List Nat) (next : St → Option β) (k : Ex → St → Option β) : Qed d ts bs next k = Qps d ts bs next k := by
 funext e σ
 cases e with
 | normal => unfold Qed Qps; simp only [Qab]
 | _ => rfl
theorem Qwl {β : Type} (ev : Code → (Ex → St → Option β) → St → Option β) (d : Nat) (ts bs : List Nat) (a : Code) (k : Ex → St → Option β) (n : Nat) : QaB ev d ts bs a k n = Qsk ev d ts bs a k n := by
 induction n with
 | zero => rfl
 | succ n ih =>
  show ev a (Qed d ts bs (QaB ev d ts bs a k n) k) = ev a (Qps d ts bs (Qsk ev d ts bs a k n) k)
  rw [Qv0, ih]
section
variable {β : Type} (P : Program) (K : Cfg) (call : FuncId → List CV → Option CV) (m : Nat)
theorem QvA (ev1 : Code → (Ex → St → Option β) → St → Option β) (D : Nat) (asg body : Code) (ps : List Nat) (tm : List AV) (K : Cfg) (items : List (List CV)) (k : Ex → List (List (Option (List AV))) → Option β) (n : Nat) :
  QbJ ev1 D asg body ps tm K items k n = QqF ev1 D asg body ps tm K items k n := by
 induction n with
 | zero => rfl
 | succ n ih =>
  funext i mem
  show (bif decide (i < items.length) then optO items[i]? fun x => lits ps.length x fun x => (ev1 asg (QhR ev1 D body (QbJ ev1 D asg body ps tm K items k n (i + 1)) k) { tmps := Qej tm ps x, mem := mem ++ [List.replicate tm.length none], K := K }) else k .normal mem) =
   (bif decide (i < items.length) then optO items[i]? fun x => lits ps.length x fun x => (ev1 asg (Qna ev1 D body (QqF ev1 D asg body ps tm K items k n (i + 1)) k) { tmps := Qej tm ps x, mem := mem ++ [List.replicate tm.length none], K := K }) else k .normal mem)
  have hB : ∀ next, Qjh D next k = Qqm D next k := fun next => by
   funext e σ
   cases e with
   | normal => unfold Qjh Qqm; simp only [Qab]
   | _ => rfl
  have hA : ∀ next, QhR ev1 D body next k = Qna ev1 D body next k := fun next => by
   funext e σ
   cases e with
   | normal => unfold QhR Qna; rw [hB]
   | _ => rfl
  rw [hA, ih]
theorem Qu7 (inl : FuncId → List AV → List (List (Option (List AV))) → (AV → List (List (Option (List AV))) → Option β) → Option β) (d : Nat) (rg : Bool) (ev ev1 : Code → (Ex → St → Option β) → St → Option β) :
  Qd0 P call inl m d rg ev ev1 = Qko P call inl m d rg ev ev1 := by
 funext c k σ
 cases c with
 | seq a b => show ev a (seqK ev a b k) σ = ev a (seqN ev a b k) σ; rw [Qx8]
 | loop a => unfold Qd0 Qko; simp only [Qab, Qwl]
 | rangeFunc g ps asg body => unfold Qd0 Qko; simp only [Qab, QvA]; cases rg <;> rfl
 | _ => rfl
theorem QxX (inl : FuncId → List AV → List (List (Option (List AV))) → (AV → List (List (Option (List AV))) → Option β) → Option β) (j : Nat) :
  evG P call inl m j = evGN P call inl m j := by
 induction j with
 | zero => rfl
 | succ j ih =>
  funext d rg
  show Qd0 P call inl m d rg (evG P call inl m j d rg) (evG P call inl m j (d + 1) false) = Qko P call inl m d rg (evGN P call inl m j d rg) (evGN P call inl m j (d + 1) false)
  rw [Qu7, ih]
theorem Quy (inl : FuncId → List AV → List (List (Option (List AV))) → (AV → List (List (Option (List AV))) → Option β) → Option β) (d j : Nat) :
  evN P call inl m d j = evNN P call inl m d j := by
 unfold evN evNN
 rw [QxX]
theorem QnW (inl : FuncId → List AV → List (List (Option (List AV))) → (AV → List (List (Option (List AV))) → Option β) → Option β) :
  QbG P K call m inl = Qjf P K call m inl := by
 funext f args mem k
 unfold QbG Qjf
 simp only [Quy]
 rfl
theorem QxU (dp : Nat) : (evF P K call m dp : FuncId → List AV → List (List (Option (List AV))) → (AV → List (List (Option (List AV))) → Option β) → Option β) = evFN P K call m dp := by
 induction dp with
 | zero => rfl
 | succ n ih =>
  show Qcx K (QbG P K call m (evF P K call m n)) = Qcx K (Qjf P K call m (evFN P K call m n))
  rw [QnW, ih]
end
theorem Qv6 (P : Program) (K : Cfg) (call : FuncId → List CV → Option CV) (m : Nat) (inl : FuncId → List AV → List (List (Option (List AV))) → (AV → List (List (Option (List AV))) → Option CV) → Option CV)
  (f : FuncId) (args : List AV) : Qk5 P K call m inl f args = Qo2 P K call m inl f args := by
 unfold Qk5 Qo2 Qmm
 rw [QnW]
 simp only [Quy]
 rfl
theorem QwE (P : Program) (K : Cfg) (lib : FuncId → Option (List CV → Option CV)) (n : Nat) : Qda P K lib n = QrY P K lib n := by
 induction n with
 | zero => funext f args; unfold Qda; rfl
 | succ n ih =>
  funext f args
  unfold Qda
  show _ = (match lib f with
   | some s => s args
   | none => Qo2 P K (QrY P K lib n) n (evFN P K (QrY P K lib n) n 9) f (args.map .val))
  rw [ih, Qv6, QxU]
  rfl
end Go.Am
