/- The evaluation without the held joins: the same, and the kernel can run it on given data. Conditions: none. -/
import Derived.Test.YtbdclhadjcfadaaGreatDoorAm
set_option linter.unusedSimpArgs false
namespace Go.Am
noncomputable def seqN {β : Type} (ev : Code → (Ex → St → Option β) → St → Option β) (a b : Code) (k : Ex → St → Option β) (e : Ex) (σ : St) : Option β :=
 match e with
 | .normal => ev b k (tidy a σ)
 | e => k e σ
noncomputable def Qng {β : Type} (d : Nat) (ts bs : List Nat) (next : St → Option β) (k : Ex → St → Option β) (e : Ex) (σ : St) : Option β :=
 match e with
 | .normal => next (clear d ts bs σ)
 | e => k e σ
noncomputable def Qri {β : Type} (ev : Code → (Ex → St → Option β) → St → Option β) (d : Nat) (ts bs : List Nat) (a : Code) (k : Ex → St → Option β) (n : Nat) : St → Option β :=
 Nat.rec (fun _ => none) (fun _ ih => ev a (Qng d ts bs ih k)) n
noncomputable def Qor {β : Type} (D : Nat) (next : List (List (Option (List AV))) → Option β) (k : Ex → List (List (Option (List AV))) → Option β) (e : Ex) (σ : St) : Option β :=
 match e with
 | .normal => next (QcJ D σ.mem)
 | .exit id => k (.exit id) (QcJ D σ.mem)
 | .ret => k .ret (QcJ D σ.mem)
noncomputable def Qlz {β : Type} (ev1 : Code → (Ex → St → Option β) → St → Option β) (D : Nat) (body : Code) (next : List (List (Option (List AV))) → Option β) (k : Ex → List (List (Option (List AV))) → Option β) (e : Ex) (σ : St) : Option β :=
 match e with
 | .normal => ev1 body (Qor D next k) σ
 | _ => none
noncomputable def Qoh {β : Type} (ev1 : Code → (Ex → St → Option β) → St → Option β) (D : Nat) (asg body : Code) (ps : List Nat) (tm : List AV) (K : Cfg) (items : List (List CV)) (k : Ex → List (List (Option (List AV))) → Option β) (n : Nat) :
  Nat → List (List (Option (List AV))) → Option β :=
 Nat.rec (fun _ _ => none) (fun _ ih i mem => bif decide (i < items.length) then
   optO items[i]? fun x => lits ps.length x fun x => (ev1 asg (Qlz ev1 D body (ih (i + 1)) k) { tmps := QdW tm ps x, mem := mem ++ [List.replicate tm.length none], K := K })
  else k .normal mem) n
noncomputable def Qi8 {β : Type} (P : Program) (call : FuncId → List CV → Option CV)
  (inl : FuncId → List AV → List (List (Option (List AV))) → (AV → List (List (Option (List AV))) → Option β) → Option β)
  (m d : Nat) (rg : Bool) (ev ev1 : Code → (Ex → St → Option β) → St → Option β) (c : Code) (k : Ex → St → Option β) (σ : St) : Option β :=
 match c with
 | .skip => k .normal σ
 | .region _ ops draw =>
  match draw with
  | false => match QlA σ ops.toList with
   | false => opsK P call inl d ops.toList ops.toList (k .normal) σ
   | true => inl panF [] [] fun _ _ => none
  | true => chkO (Qci 0 ops.toList) (Qcr P call inl d (Region.before ops).toList ops.toList ops.toList 0 [] (k .normal) σ)
 | .seq a b => ev a (seqN ev a b k) σ
 | .cond c a b => optO (Qlh σ c) fun t => bif t then ev a (QaU a b k) σ else ev b (QaU a b k) σ
 | .block id a => ev a (Qan id k) σ
 | .loop a =>
  let ts := Qal a ++ anys σ (QcH a)
  let bs := Qj1 σ d (Qdv a)
  Qri ev d ts bs a k m (clear d ts bs σ)
 | .exit id => k (.exit id) σ
 | .scope a => ev a k σ
 | .label _ => k .normal σ
 | .ret => k .ret σ
 | .rangeFunc g ps asg body => match rg with
  | true => chkO σ.K.pan.isNone <| optO (Qjl d σ g) fun q => optO (σ.K.iter q.1) fun it => optO (it (q.2.map (·.2))) fun items => chkO (items.all (·.length == ps.size)) <|
    let tm := σ.tmps.map fun v => v.copy.scrub (capP q.2)
    Qoh ev1 (d + 1) asg body ps.toList tm σ.K items (Qco k tm σ.K) m 0 (Qbp (capP q.2) 0 σ.mem)
  | false => none
 | _ => none
noncomputable def evGN {β : Type} (P : Program) (call : FuncId → List CV → Option CV)
  (inl : FuncId → List AV → List (List (Option (List AV))) → (AV → List (List (Option (List AV))) → Option β) → Option β)
  (m j : Nat) : Nat → Bool → Code → (Ex → St → Option β) → St → Option β :=
 Nat.rec (fun _ _ _ _ _ => none) (fun _ ih d rg => Qi8 P call inl m d rg (ih d rg) (ih (d + 1) false)) j
noncomputable def evNN {β : Type} (P : Program) (call : FuncId → List CV → Option CV)
  (inl : FuncId → List AV → List (List (Option (List AV))) → (AV → List (List (Option (List AV))) → Option β) → Option β)
  (m d j : Nat) : Code → (Ex → St → Option β) → St → Option β := evGN P call inl m j d true
noncomputable def QhQ {β : Type} (P : Program) (K : Cfg) (call : FuncId → List CV → Option CV) (m : Nat)
  (inl : FuncId → List AV → List (List (Option (List AV))) → (AV → List (List (Option (List AV))) → Option β) → Option β)
  (f : FuncId) (args : List AV) (mem : List (List (Option (List AV)))) (k : AV → List (List (Option (List AV))) → Option β) : Option β :=
  match P.funcs[f]? with
  | some fn => match fn.body with
   | some c => evNN P call inl m mem.length 1000 c (Qjx P (K.lift f) fn.results.toList mem.length k)
     { tmps := args ++ List.replicate (fn.ntmps - args.length) .any, mem := mem ++ [List.replicate fn.ntmps none], K := K }
   | none => none
  | none => none
noncomputable def evFN {β : Type} (P : Program) (K : Cfg) (call : FuncId → List CV → Option CV) (m dp : Nat) : FuncId → List AV → List (List (Option (List AV))) →
  (AV → List (List (Option (List AV))) → Option β) → Option β :=
 Nat.rec (fun _ _ _ _ => none) (fun _ ih => Qbh K (QhQ P K call m ih)) dp
noncomputable def Qnh (P : Program) (K : Cfg) (call : FuncId → List CV → Option CV) (m : Nat)
  (inl : FuncId → List AV → List (List (Option (List AV))) → (AV → List (List (Option (List AV))) → Option CV) → Option CV)
  (f : FuncId) (args : List AV) : Option CV :=
 match K.own f with
 | none => QhQ P K call m inl f args [] (outK (Qak P f))
 | some e => match Qak P f with
  | none => match P.funcs[f]? with
   | some fn => match fn.body with
    | some c => evNN P call inl m 0 1000 c (QnT fn.results.toList e)
      { tmps := args ++ List.replicate (fn.ntmps - args.length) .any, mem := [List.replicate fn.ntmps none], K := K }
    | none => none
   | none => none
  | some _ => none
noncomputable def QnG (P : Program) (K : Cfg) (lib : FuncId → Option (List CV → Option CV)) (n : Nat) : FuncId → List CV → Option CV :=
 Nat.rec (fun _ _ => none) (fun n ih f args => match lib f with
  | some s => s args
  | none => Qnh P K ih n (evFN P K ih n 9) f (args.map .val)) n
theorem QvM {β : Type} (ev : Code → (Ex → St → Option β) → St → Option β) (a b : Code) (k : Ex → St → Option β) : seqK ev a b k = seqN ev a b k := by
 funext e σ
 cases e with
 | normal => unfold seqK seqN; cases QpW a b <;> simp only [Qaf]
 | _ => rfl
theorem Qtj {β : Type} (d : Nat) (ts bs : List Nat) (next : St → Option β) (k : Ex → St → Option β) : QeB d ts bs next k = Qng d ts bs next k := by
 funext e σ
 cases e with
 | normal => unfold QeB Qng; simp only [Qaf]
 | _ => rfl
theorem Qtl {β : Type} (ev : Code → (Ex → St → Option β) → St → Option β) (d : Nat) (ts bs : List Nat) (a : Code) (k : Ex → St → Option β) (n : Nat) : QaC ev d ts bs a k n = Qri ev d ts bs a k n := by
 induction n with
 | zero => rfl
 | succ n ih =>
  show ev a (QeB d ts bs (QaC ev d ts bs a k n) k) = ev a (Qng d ts bs (Qri ev d ts bs a k n) k)
  rw [Qtj, ih]
section
variable {β : Type} (P : Program) (K : Cfg) (call : FuncId → List CV → Option CV) (m : Nat)
theorem Qsn (ev1 : Code → (Ex → St → Option β) → St → Option β) (D : Nat) (asg body : Code) (ps : List Nat) (tm : List AV) (K : Cfg) (items : List (List CV)) (k : Ex → List (List (Option (List AV))) → Option β) (n : Nat) :
  Qbk ev1 D asg body ps tm K items k n = Qoh ev1 D asg body ps tm K items k n := by
 induction n with
 | zero => rfl
 | succ n ih =>
  funext i mem
  show (bif decide (i < items.length) then optO items[i]? fun x => lits ps.length x fun x => (ev1 asg (QgS ev1 D body (Qbk ev1 D asg body ps tm K items k n (i + 1)) k) { tmps := QdW tm ps x, mem := mem ++ [List.replicate tm.length none], K := K }) else k .normal mem) =
   (bif decide (i < items.length) then optO items[i]? fun x => lits ps.length x fun x => (ev1 asg (Qlz ev1 D body (Qoh ev1 D asg body ps tm K items k n (i + 1)) k) { tmps := QdW tm ps x, mem := mem ++ [List.replicate tm.length none], K := K }) else k .normal mem)
  have hB : ∀ next, QhV D next k = Qor D next k := fun next => by
   funext e σ
   cases e with
   | normal => unfold QhV Qor; simp only [Qaf]
   | _ => rfl
  have hA : ∀ next, QgS ev1 D body next k = Qlz ev1 D body next k := fun next => by
   funext e σ
   cases e with
   | normal => unfold QgS Qlz; rw [hB]
   | _ => rfl
  rw [hA, ih]
theorem Qs3 (inl : FuncId → List AV → List (List (Option (List AV))) → (AV → List (List (Option (List AV))) → Option β) → Option β) (d : Nat) (rg : Bool) (ev ev1 : Code → (Ex → St → Option β) → St → Option β) :
  QbY P call inl m d rg ev ev1 = Qi8 P call inl m d rg ev ev1 := by
 funext c k σ
 cases c with
 | seq a b => show ev a (seqK ev a b k) σ = ev a (seqN ev a b k) σ; rw [QvM]
 | loop a => unfold QbY Qi8; simp only [Qaf, Qtl]
 | rangeFunc g ps asg body => unfold QbY Qi8; simp only [Qaf, Qsn]; cases rg <;> rfl
 | _ => rfl
theorem Qv0 (inl : FuncId → List AV → List (List (Option (List AV))) → (AV → List (List (Option (List AV))) → Option β) → Option β) (j : Nat) :
  evG P call inl m j = evGN P call inl m j := by
 induction j with
 | zero => rfl
 | succ j ih =>
  funext d rg
  show QbY P call inl m d rg (evG P call inl m j d rg) (evG P call inl m j (d + 1) false) = Qi8 P call inl m d rg (evGN P call inl m j d rg) (evGN P call inl m j (d + 1) false)
  rw [Qs3, ih]
theorem Qr4 (inl : FuncId → List AV → List (List (Option (List AV))) → (AV → List (List (Option (List AV))) → Option β) → Option β) (d j : Nat) :
  evN P call inl m d j = evNN P call inl m d j := by
 unfold evN evNN
 rw [Qv0]
theorem Qme (inl : FuncId → List AV → List (List (Option (List AV))) → (AV → List (List (Option (List AV))) → Option β) → Option β) :
  QaM P K call m inl = QhQ P K call m inl := by
 funext f args mem k
 unfold QaM QhQ
 simp only [Qr4]
 rfl
theorem Qr0 (dp : Nat) : (evF P K call m dp : FuncId → List AV → List (List (Option (List AV))) → (AV → List (List (Option (List AV))) → Option β) → Option β) = evFN P K call m dp := by
 induction dp with
 | zero => rfl
 | succ n ih =>
  show Qbh K (QaM P K call m (evF P K call m n)) = Qbh K (QhQ P K call m (evFN P K call m n))
  rw [Qme, ih]
end
theorem QtQ (P : Program) (K : Cfg) (call : FuncId → List CV → Option CV) (m : Nat) (inl : FuncId → List AV → List (List (Option (List AV))) → (AV → List (List (Option (List AV))) → Option CV) → Option CV)
  (f : FuncId) (args : List AV) : Qix P K call m inl f args = Qnh P K call m inl f args := by
 unfold Qix Qnh QkR
 rw [Qme]
 simp only [Qr4]
 rfl
theorem QqW (P : Program) (K : Cfg) (lib : FuncId → Option (List CV → Option CV)) (n : Nat) : Qbm P K lib n = QnG P K lib n := by
 induction n with
 | zero => funext f args; unfold Qbm; rfl
 | succ n ih =>
  funext f args
  unfold Qbm
  show _ = (match lib f with
   | some s => s args
   | none => Qnh P K (QnG P K lib n) n (evFN P K (QnG P K lib n) n 9) f (args.map .val))
  rw [ih, QtQ, Qr0]
  rfl
end Go.Am
