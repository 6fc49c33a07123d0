/- The evaluation without the held joins: the same, and the kernel can run it on given data. Conditions: none. -/
import Derived.Test.YtigmcfhmpcajlaaGreatDoorAm
set_option linter.unusedSimpArgs false
namespace Go.Am
noncomputable def seqN {β:Type} (ev:Code→(Ex→St→Option β)→St→Option β) (a b:Code) (k:Ex→St→Option β) (e:Ex) (σ:St):Option β:=
 match e with
 | .normal=>ev b k (tidy a σ)
 |e=>k e σ
noncomputable def Qqo {β:Type} (d:Nat) (ts bs:List Nat) (next:St→Option β) (k:Ex→St→Option β) (e:Ex) (σ:St):Option β:=
 match e with
 | .normal=>next (clear d ts bs σ)
 |e=>k e σ
noncomputable def Qtq {β:Type} (ev:Code→(Ex→St→Option β)→St→Option β) (d:Nat) (ts bs:List Nat) (a:Code) (k:Ex→St→Option β) (n:Nat):St→Option β:=
 Nat.rec (fun _=>none) (fun _ ih=>ev a (Qqo d ts bs ih k)) n
noncomputable def Qq1 {β:Type} (D:Nat) (next:List (List (Option (List AV)))→Option β) (k:Ex→List (List (Option (List AV)))→Option β) (e:Ex) (σ:St):Option β:=
 match e with
 | .normal=>next (Qdc D σ.mem)
 | .exit id=>k (.exit id) (Qdc D σ.mem)
 | .ret=>k .ret (Qdc D σ.mem)
noncomputable def QnX {β:Type} (ev1:Code→(Ex→St→Option β)→St→Option β) (D:Nat) (body:Code) (next:List (List (Option (List AV)))→Option β) (k:Ex→List (List (Option (List AV)))→Option β) (e:Ex) (σ:St):Option β:=
 match e with
 | .normal=>ev1 body (Qq1 D next k) σ
 |_=>none
noncomputable def QrA {β:Type} (ev1:Code→(Ex→St→Option β)→St→Option β) (D:Nat) (asg body:Code) (ps:List Nat) (tm:List AV) (K:Cfg) (items:List (List CV)) (k:Ex→List (List (Option (List AV)))→Option β) (n:Nat):
  Nat→List (List (Option (List AV)))→Option β:=
 Nat.rec (fun _ _=>none) (fun _ ih i mem=>bif decide (i<items.length) then
   optO items[i]? fun x=>lits ps.length x fun x=>(ev1 asg (QnX ev1 D body (ih (i+1)) k) {tmps:=Qey tm ps x,mem:=mem++ [List.replicate tm.length none],K:=K})
  else k .normal mem) n
noncomputable def QkZ {β:Type} (P:Program) (call:FuncId→List CV→Option CV)
  (inl:FuncId→List AV→List (List (Option (List AV)))→(AV→List (List (Option (List AV)))→Option β)→Option β)
  (m d:Nat) (rg:Bool) (ev ev1:Code→(Ex→St→Option β)→St→Option β) (c:Code) (k:Ex→St→Option β) (σ:St):Option β:=
 match c with
 | .skip=>k .normal σ
 | .region _ ops draw=>
  match draw with
  |false=>match QnM σ ops.toList with
   |false=>opsK P call inl d ops.toList ops.toList (k .normal) σ
   |true=>inl panF [] [] fun _ _=>none
  |true=>chkO (QcN 0 ops.toList) (QcX P call inl d (Region.before ops).toList ops.toList ops.toList 0 [] (k .normal) σ)
 | .seq a b=>ev a (seqN ev a b k) σ
 | .cond c a b=>optO (Qnc σ c) fun t=>bif t then ev a (QeA a b k) σ else ev b (QeA a b k) σ
 | .block id a=>ev a (Qam id k) σ
 | .loop a=>
  let ts:=Qak a++anys σ (Qdh a)
  let bs:=QlX σ d (Qd1 a)
  Qtq ev d ts bs a k m (clear d ts bs σ)
 | .exit id=>k (.exit id) σ
 | .scope a=>ev a k σ
 | .label _=>k .normal σ
 | .ret=>k .ret σ
 | .rangeFunc g ps asg body=>match rg with
  | true=>chkO σ.K.pan.isNone<|optO (Qlo d σ g) fun q=>optO (σ.K.iter q.1) fun it=>optO (it (q.2.map (·.2))) fun items=>chkO (items.all (·.length==ps.size))<|
    let tm:=σ.tmps.map fun v=>v.copy.scrub (capP q.2)
    QrA ev1 (d+1) asg body ps.toList tm σ.K items (QcS k tm σ.K) m 0 (QbD (capP q.2) 0 σ.mem)
  |false=>none
 |_=>none
noncomputable def evGN {β:Type} (P:Program) (call:FuncId→List CV→Option CV)
  (inl:FuncId→List AV→List (List (Option (List AV)))→(AV→List (List (Option (List AV)))→Option β)→Option β)
  (m j:Nat):Nat→Bool→Code→(Ex→St→Option β)→St→Option β:=
 Nat.rec (fun _ _ _ _ _=>none) (fun _ ih d rg=>QkZ P call inl m d rg (ih d rg) (ih (d+1) false)) j
noncomputable def evNN {β:Type} (P:Program) (call:FuncId→List CV→Option CV)
  (inl:FuncId→List AV→List (List (Option (List AV)))→(AV→List (List (Option (List AV)))→Option β)→Option β)
  (m d j:Nat):Code→(Ex→St→Option β)→St→Option β:=evGN P call inl m j d true
noncomputable def Qj2 {β:Type} (P:Program) (K:Cfg) (call:FuncId→List CV→Option CV) (m:Nat)
  (inl:FuncId→List AV→List (List (Option (List AV)))→(AV→List (List (Option (List AV)))→Option β)→Option β)
  (f:FuncId) (args:List AV) (mem:List (List (Option (List AV)))) (k:AV→List (List (Option (List AV)))→Option β):Option β:=
  match P.funcs[f]? with
  |some fn=>match fn.body with
   | some c=>evNN P call inl m mem.length 1000 c (QlD P (K.lift f) fn.results.toList mem.length k)
     {tmps:=args++List.replicate (fn.ntmps-args.length) .any,mem:=mem++ [List.replicate fn.ntmps none],K:=K}
   |none=>none
  |none=>none
noncomputable def evFN {β:Type} (P:Program) (K:Cfg) (call:FuncId→List CV→Option CV) (m dp:Nat):FuncId→List AV→List (List (Option (List AV)))→
  (AV→List (List (Option (List AV)))→Option β)→Option β:=
 Nat.rec (fun _ _ _ _=>none) (fun _ ih=>Qbl K (Qj2 P K call m ih)) dp
noncomputable def Qqx (P:Program) (K:Cfg) (call:FuncId→List CV→Option CV) (m:Nat)
  (inl:FuncId→List AV→List (List (Option (List AV)))→(AV→List (List (Option (List AV)))→Option CV)→Option CV)
  (f:FuncId) (args:List AV):Option CV:=
 match K.own f with
 |none=>Qj2 P K call m inl f args [] (outK (Qae P f))
 |some e=>match Qae P f with
  |none=>match P.funcs[f]? with
   |some fn=>match fn.body with
    | some c=>evNN P call inl m 0 1000 c (Qqf fn.results.toList e)
      {tmps:=args++List.replicate (fn.ntmps-args.length) .any,mem:= [List.replicate fn.ntmps none],K:=K}
    |none=>none
   |none=>none
  |some _=>none
noncomputable def Qfg (P:Program) (K:Cfg) (lib:FuncId→Option (List CV→Option CV)) (n:Nat):FuncId→List CV→Option CV:=
 Nat.rec (fun _ _=>none) (fun n ih f args=>match lib f with
  |some s=>s args
  |none=>Qqx P K ih n (evFN P K ih n 9) f (args.map .val)) n
theorem Qzp {β:Type} (ev:Code→(Ex→St→Option β)→St→Option β) (a b:Code) (k:Ex→St→Option β):seqK ev a b k=seqN ev a b k:=by
 funext e σ
 cases e with
 |normal=>unfold seqK seqN;cases (QsS a b||(Qe5 σ.K 1000002 a||Qe5 σ.K 1000005 a))<;>simp only [Qah]
 |_=>rfl
theorem Qwo {β:Type} (d:Nat) (ts bs:List Nat) (next:St→Option β) (k:Ex→St→Option β):Qcz d ts bs next k=Qqo d ts bs next k:=by
 funext e σ
 cases e with
 |normal=>unfold Qcz Qqo;simp only [Qah]
 |_=>rfl
theorem Qxm {β:Type} (ev:Code→(Ex→St→Option β)→St→Option β) (d:Nat) (ts bs:List Nat) (a:Code) (k:Ex→St→Option β) (n:Nat):Qax ev d ts bs a k n=Qtq ev d ts bs a k n:=by
 induction n with
 |zero=>rfl
 |succ n ih=>
  show ev a (Qcz d ts bs (Qax ev d ts bs a k n) k)=ev a (Qqo d ts bs (Qtq ev d ts bs a k n) k)
  rw [Qwo,ih]
section
variable {β:Type} (P:Program) (K:Cfg) (call:FuncId→List CV→Option CV) (m:Nat)
theorem QvO (ev1:Code→(Ex→St→Option β)→St→Option β) (D:Nat) (asg body:Code) (ps:List Nat) (tm:List AV) (K:Cfg) (items:List (List CV)) (k:Ex→List (List (Option (List AV)))→Option β) (n:Nat):
  Qbv ev1 D asg body ps tm K items k n=QrA ev1 D asg body ps tm K items k n:=by
 induction n with
 |zero=>rfl
 |succ n ih=>
  funext i mem
  show (bif decide (i<items.length) then optO items[i]? fun x=>lits ps.length x fun x=>(ev1 asg (Qit ev1 D body (Qbv ev1 D asg body ps tm K items k n (i+1)) k) {tmps:=Qey tm ps x,mem:=mem++ [List.replicate tm.length none],K:=K}) else k .normal mem)=
   (bif decide (i<items.length) then optO items[i]? fun x=>lits ps.length x fun x=>(ev1 asg (QnX ev1 D body (QrA ev1 D asg body ps tm K items k n (i+1)) k) {tmps:=Qey tm ps x,mem:=mem++ [List.replicate tm.length none],K:=K}) else k .normal mem)
  have hB:∀next,Qjs D next k=Qq1 D next k:=fun next=>by
   funext e σ
   cases e with
   |normal=>unfold Qjs Qq1;simp only [Qah]
   |_=>rfl
  have hA:∀next,Qit ev1 D body next k=QnX ev1 D body next k:=fun next=>by
   funext e σ
   cases e with
   |normal=>unfold Qit QnX;rw [hB]
   |_=>rfl
  rw [hA,ih]
theorem QvP (inl:FuncId→List AV→List (List (Option (List AV)))→(AV→List (List (Option (List AV)))→Option β)→Option β) (d:Nat) (rg:Bool) (ev ev1:Code→(Ex→St→Option β)→St→Option β):
  Qco P call inl m d rg ev ev1=QkZ P call inl m d rg ev ev1:=by
 funext c k σ
 cases c with
 |seq a b=>show ev a (seqK ev a b k) σ=ev a (seqN ev a b k) σ;rw [Qzp]
 |loop a=>unfold Qco QkZ;simp only [Qah,Qxm]
 |rangeFunc g ps asg body=>unfold Qco QkZ;simp only [Qah,QvO];cases rg<;>rfl
 |_=>rfl
theorem Qzr (inl:FuncId→List AV→List (List (Option (List AV)))→(AV→List (List (Option (List AV)))→Option β)→Option β) (j:Nat):
  evG P call inl m j=evGN P call inl m j:=by
 induction j with
 |zero=>rfl
 |succ j ih=>
  funext d rg
  show Qco P call inl m d rg (evG P call inl m j d rg) (evG P call inl m j (d+1) false)=QkZ P call inl m d rg (evGN P call inl m j d rg) (evGN P call inl m j (d+1) false)
  rw [QvP,ih]
theorem Qu5 (inl:FuncId→List AV→List (List (Option (List AV)))→(AV→List (List (Option (List AV)))→Option β)→Option β) (d j:Nat):
  evN P call inl m d j=evNN P call inl m d j:=by
 unfold evN evNN
 rw [Qzr]
theorem Qoo (inl:FuncId→List AV→List (List (Option (List AV)))→(AV→List (List (Option (List AV)))→Option β)→Option β):
  QaW P K call m inl=Qj2 P K call m inl:=by
 funext f args mem k
 unfold QaW Qj2
 simp only [Qu5]
 rfl
theorem Qy9 (dp:Nat):(evF P K call m dp:FuncId→List AV→List (List (Option (List AV)))→(AV→List (List (Option (List AV)))→Option β)→Option β)=evFN P K call m dp:=by
 induction dp with
 |zero=>rfl
 |succ n ih=>
  show Qbl K (QaW P K call m (evF P K call m n))=Qbl K (Qj2 P K call m (evFN P K call m n))
  rw [Qoo,ih]
end
theorem Qw7 (P:Program) (K:Cfg) (call:FuncId→List CV→Option CV) (m:Nat) (inl:FuncId→List AV→List (List (Option (List AV)))→(AV→List (List (Option (List AV)))→Option CV)→Option CV)
  (f:FuncId) (args:List AV):QfI P K call m inl f args=Qqx P K call m inl f args:=by
 unfold QfI Qqx Qin
 rw [Qoo]
 simp only [Qu5]
 rfl
theorem QxS (P:Program) (K:Cfg) (lib:FuncId→Option (List CV→Option CV)) (n:Nat):Qcu P K lib n=Qfg P K lib n:=by
 induction n with
 |zero=>funext f args;unfold Qcu;rfl
 |succ n ih=>
  funext f args
  unfold Qcu
  show _=(match lib f with
   |some s=>s args
   |none=>Qqx P K (Qfg P K lib n) n (evFN P K (Qfg P K lib n) n 9) f (args.map .val))
  rw [ih,Qw7,Qy9]
  rfl
end Go.Am
