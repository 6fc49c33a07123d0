/- The abstract machine: an evaluator over the translated code whose values are plain data. Conditions: none; definitions only. -/
import Derived.Calls
namespace Go.Am
inductive CV where
 |int (k:IntKind) (n:Int)
 |bool (b:Bool)
 |str (s:List UInt8)
 |list (isnil:Bool) (l:List (List CV))
 |agg (cs:List CV)
 |tup (vs:List CV)
 |fn (f:FuncId)
 |nilfn
 |nilptr
 |nilif
 |err
inductive AV where
 |any
 |undef
 |val (v:CV)
 |lst (own isnil:Bool) (e:TypeId) (l:List (List CV))
 |ptr (d s off:Nat)
 |cptr (c:List CV) (off:Nat)
 |clo (f:FuncId) (caps:List AV)
 |agg (cs:List AV)
 |tup (vs:List AV)
 |siter (s:List UInt8) (pos:Nat)
 |bld (T:TypeId)
 |row (e:TypeId) (l:List (List CV))
 |rsl (e:TypeId) (d s off len cap:Nat)
 |rptr (e:TypeId) (d s i o:Nat)
 |mpp (d s:Nat)
structure Cfg where
 gl:Nat→Option (List CV)
 hook:FuncId→Option (List AV→List (List (Option (List AV)))→Option (List (List CV)×(List UInt8→AV×List (List (Option (List AV))))))
 own:FuncId→Option TypeId:=fun _=>none
 inl:FuncId→Bool:=fun _=>false
 iter:FuncId→Option (List (List CV)→Option (List (List CV))):=fun _=>none
 lift:FuncId→Bool:=fun _=>false
 row:TypeId→Nat→Nat→Bool:=fun _ _ _=>false
 pan:Option TypeId:=none
def mapE:TypeId:=900000001
def panF:FuncId:=1000000000
structure St where
 tmps:List AV
 mem:List (List (Option (List AV)))
 K:Cfg
def nthD {α:Type} (dflt:α):List α→Nat→α
 | [],_=>dflt
 |x::xs,n=>match n with
  |0=>x
  |n+1=>nthD dflt xs n
def setN {α:Type}:List α→Nat→α→List α
 | [],_,_=> []
 |x::xs,n,y=>match n with
  |0=>y::xs
  |n+1=>x::setN xs n y
inductive Loc where
 |tmp (i:Nat)
 |cell (d s o:Nat)
 |box (d s:Nat)
 |glob (g:Nat)
 |own (f:FuncId)
 |row (e:TypeId) (s n:Nat)
def box? (m:List (List (Option (List AV)))) (d s:Nat):Option (List AV):=nthD none (nthD [] m d) s
def Qbm (m:List (List (Option (List AV)))) (d s o:Nat):AV:=
 match box? m d s with
 |some c=>nthD .any c o
 |none=> .any
def QaI (m:List (List (Option (List AV)))) (d s:Nat) (c:List AV):List (List (Option (List AV))):=
 setN m d (setN (nthD [] m d) s (some c))
def Qaz (c:List AV):Bool:=
 match c with
 | [v]=>match v with
  | .row _ _=>true
  |_=>false
 |_=>false
def wr (c:List AV) (o:Nat) (v:AV):List AV:=match Qaz c||Qaz [v] with|true=>c|false=>setN c o v
def setCell (m:List (List (Option (List AV)))) (d s o:Nat) (v:AV):List (List (Option (List AV))):=
 match box? m d s with
 |some c=>QaI m d s (wr c o v)
 |none=>m
def QcB (c:List AV):Nat:=match Qaz c with|true=>0|false=>c.length
def QbV (m:List (List (Option (List AV)))) (d s:Nat):AV:=
 match box? m d s with
 |some [.row e l]=> .row e l
 |_=> .any
def St.get (σ:St):Loc→AV
 | .tmp i=>nthD .any σ.tmps i
 | .cell d s o=>Qbm σ.mem d s o
 | .box d s=>QbV σ.mem d s
 | .glob g=>match σ.K.gl g with
  |some c=> .cptr c 0
  |none=> .any
 | .own f=>match σ.K.own f with
  |some e=> .bld e
  |none=> .any
 | .row e s n=>match σ.K.row e s n with
  |true=> .bld e
  |false=> .any
def St.has (σ:St):Loc→Bool
 | .cell d s o=>match box? σ.mem d s with
  |some c=>decide (o<QcB c)
  |none=>false
 |_=>true
mutual
def AV.hasPtr (p:Nat→Nat→Bool):AV→Bool
 | .ptr d s _=>p d s
 | .rsl _ d s _ _ _=>p d s
 | .rptr _ d s _ _=>p d s
 | .mpp d s=>p d s
 | .agg l=>AV.hasPtrs p l
 | .tup l=>AV.hasPtrs p l
 | .clo _ l=>AV.hasPtrs p l
 |_=>false
def AV.hasPtrs (p:Nat→Nat→Bool):List AV→Bool
 | []=>false
 |x::r=>x.hasPtr p||AV.hasPtrs p r
end
def AV.scrub (p:Nat→Nat→Bool) (v:AV):AV:=match v.hasPtr p with|true=> .any|false=>v
def Qaw (p:Nat→Nat→Bool) (m:List (List (Option (List AV)))):List (List (Option (List AV))):=
 m.map fun l=>l.map fun b=>match b with|some c=>some (c.map (AV.scrub p))|none=>none
def atP (d s d' s':Nat):Bool:=d'==d&&s'==s
inductive W where
 |tmp (i:Nat) (v:AV)
 |cell (d s o:Nat) (v:AV)
 |box (d s:Nat) (c:List AV)
 |grow (d s:Nat) (c:List AV)
def W.apply (σ:St):W→St
 | .tmp i v=>{σ with tmps:=setN σ.tmps i v}
 | .cell d s o v=>{σ with mem:=setCell σ.mem d s o v}
 | .box d s c=>{σ with mem:=QaI σ.mem d s c}
 | .grow d s c=>{σ with tmps:=σ.tmps.map (AV.scrub (atP d s)),mem:=QaI (Qaw (atP d s) σ.mem) d s c}
def Qau (σ:St):List W→St
 | []=>σ
 |x::r=>Qau (x.apply σ) r
inductive M (α:Type):Type 1 where
 |ret (a:α)
 |get (l:Loc) (k:AV→M α)
 |free (d s:Nat) (k:M α)
 |chk (b:Bool) (k:M α)
 |br (b:Bool) (t e:M α)
 |opt {β:Type} (o:Option β) (k:β→M α)
 |call (f:FuncId) (args:List CV) (k:CV→M α)
 |fail
def M.bind {α β:Type}:M α→(α→M β)→M β
 | .ret a,f=>f a
 | .get l k,f=> .get l fun v=>(k v).bind f
 | .free d s k,f=> .free d s (k.bind f)
 | .chk b k,f=> .chk b (k.bind f)
 | .br b t e,f=> .br b (t.bind f) (e.bind f)
 | .opt o k,f=> .opt o fun x=>(k x).bind f
 | .call g a k,f=> .call g a fun v=>(k v).bind f
 | .fail,_=> .fail
instance:Monad M where
 pure:=M.ret
 bind:=M.bind
def chkO {β:Type} (b:Bool) (k:Option β):Option β:=bif b then k else none
def optO {α β:Type} (o:Option α) (k:α→Option β):Option β:=match o with|some x=>k x|none=>none
def M.exec {α β:Type} (call:FuncId→List CV→Option CV) (σ:St):M α→List Loc→(α→List Loc→Option β)→Option β
 | .ret a,acc,k=>k a acc
 | .get l f,acc,k=>chkO (σ.has l) ((f (σ.get l)).exec call σ (l::acc) k)
 | .free d s m,acc,k=>chkO ((box? σ.mem d s).isNone&&decide (s<(nthD [] σ.mem d).length)) (m.exec call σ (.box d s::acc) k)
 | .chk b m,acc,k=>chkO b (m.exec call σ acc k)
 | .br b t e,acc,k=>bif b then t.exec call σ acc k else e.exec call σ acc k
 | .opt o f,acc,k=>optO o fun x=>(f x).exec call σ acc k
 | .call g a f,acc,k=>optO (call g a) fun v=>(f v).exec call σ acc k
 | .fail,_,_=>none
def CV.asI (k:IntKind):CV→Option Int
 | .int k' n=>if k'=k then some n else none
 |_=>none
def CV.asN:CV→Option Int
 | .int _ n=>some n
 |_=>none
def CV.asB:CV→Option Bool
 | .bool b=>some b
 |_=>none
def CV.asS:CV→Option (List UInt8)
 | .str s=>some s
 |_=>none
def CV.asL:CV→Option (Bool×List (List CV))
 | .list n l=>some (n,l)
 |_=>none
def CV.asA:CV→Option (List CV)
 | .agg c=>some c
 |_=>none
def CV.asT:CV→Option (List CV)
 | .tup c=>some c
 |_=>none
def CV.asE:CV→Option Bool
 | .nilif=>some true
 | .err=>some false
 |_=>none
def CV.asNF:CV→Option Bool
 | .nilfn=>some true
 | .fn _=>some false
 |_=>none
def CV.asF:CV→Option FuncId
 | .fn f=>some f
 |_=>none
def AV.cv:AV→M CV
 | .val v=> .ret v
 | .lst _ n _ l=> .ret (.list n l)
 |_=> .fail
def AV.copy:AV→AV
 | .lst true n _ l=> .val (.list n l)
 | .siter _ _=> .any
 | .bld _=> .any
 |v=>v
def AV.shown:AV→AV
 | .siter _ _=> .any
 | .bld _=> .any
 |v=>v
def AV.owns:AV→Bool
 | .lst true _ _ _=>true
 | .siter _ _=>true
 | .bld _=>true
 |_=>false
def AV.isOwn:AV→Bool
 | .lst true _ _ _=>true
 |_=>false
def CV.ofValue:Value→Option CV
 | .bool b=>some (.bool b)
 | .int k n=>some (.int k n)
 | .string s=>some (.str s.data.toList)
 | .slice none 0 0=>some (.list true [])
 | .pointer none=>some .nilptr
 | .nilFunc=>some .nilfn
 | .nilIface=>some .nilif
 | .func (.func f) first captured=>if first.size=0∧captured.size=0 then some (.fn f) else none
 |_=>none
def CV.ofValues:List Value→Option (List CV)
 | []=>some []
 |v::r=>match CV.ofValue v,CV.ofValues r with
  |some x,some xs=>some (x::xs)
  |_,_=>none
def AV.ofConst (v:Value):AV:=
 match v with
 | .agg cs=>match CV.ofValues cs.toList with|some xs=> .val (.agg xs)|none=> .any
 | .tuple cs=>match CV.ofValues cs.toList with|some xs=> .val (.tup xs)|none=> .any
 |_=>match CV.ofValue v with|some x=> .val x|none=> .any
section ops
variable (P:Program) (d:Nat)
def QtA (t:TypeId):Option TypeId:=
 match P.underlying t with
 |some (.slice e)=>some e
 |_=>none
def zeroCells:(fuel:Nat)→TypeId→Option (List AV)
 |0,_=>none
 |fuel+1,t=>
  match P.underlying t with
  |some .bool=>some [.val (.bool false)]
  |some (.int k)=>some [.val (.int k 0)]
  |some .string=>some [.val (.str [])]
  |some (.slice e)=>some [.lst true true e []]
  |some (.pointer _)=>some [.val .nilptr]
  |some (.func ..)=>some [.val .nilfn]
  |some (.interface _)=>some [.val .nilif]
  |some (.struct fs)=>fs.toList.foldr (fun f acc=>match zeroCells fuel f.type,acc with|some a,some b=>some (a++b)|_,_=>none) (some [])
  |some (.array n e)=>match zeroCells fuel e with
   |some z=>if n≤64 then some ((List.replicate n z).flatten) else none
   |none=>none
  |_=>none
def QtS:AV→Value→Bool
 | .val (.bool b), .bool false=> !b
 | .val (.int k n), .int k' m=>k==k'&&n==m
 | .val (.str s), .string b=>s.isEmpty&&b.size==0
 | .lst _ true _ [], .slice none 0 0=>true
 | .val .nilptr, .pointer none=>true
 | .val .nilfn, .nilFunc=>true
 | .val .nilif, .nilIface=>true
 |_,_=>false
def QfT:List AV→List Value→Bool
 | [], []=>true
 |a::as,v::vs=>QtS a v&&QfT as vs
 |_,_=>false
def QdM (t:TypeId):Option (List AV):=
 match zeroCells P 8 t,P.info? t with
 |some cs,some i=>match i.zero with
  |some z=>if QfT cs z.cells.toList&&z.cells.size==i.size then some cs else none
  |none=>none
 |_,_=>none
def Qa0 (t:TypeId):Bool:=
 match P.underlying t with
 |some (.struct _)|some (.array _ _)=>true
 |_=>false
def opd:Operand→M AV
 | .tmp t=> .get (.tmp t) fun v=> .ret v.shown
 | .const v=> .ret (AV.ofConst v)
 | .func f=> .ret (.val (.fn f))
 | .global g=> .get (.glob g) .ret
def opdT (t:TypeId) (x:Operand):M AV:=
 match x with
 | .const (.slice none 0 0)=>match QtA P t with
  |some e=> .ret (.lst true true e [])
  |none=>opd x
 |_=>opd x
def QwQ (ops:List Oper) (s:Nat):Bool:=
 match ops with
 | [_,o]=>match o.op with
  | .assign (.tmp t)=>t==s
  |_=>false
 |_=>false
def QtH (ops:List Oper) (s:Nat):Bool:=
 QwQ ops s||ops.any fun o=>match o.op with
  | .call {callee:= .builtin .append,args, .. }=>match args.toList with
   | .tmp t::_=>t==s
   |_=>false
  |_=>false
def put (o:Oper) (v:AV):List W:=
 match o.dst with
 |some t=> [.tmp t v]
 |none=> []
def handOn (o:Oper) (x:Operand) (v:AV):List W:=
 match x with
 | .tmp t=>if v.isOwn&&o.dst !=some t then .tmp t v.copy::put o v else put o v.shown
 |_=>put o v.shown
def Qt2 (op:BinOp) (k:IntKind) (a b:Int):M CV:=
 match op with
 | .add=> .ret (.int k (k.wrap (a+b)))
 | .sub=> .ret (.int k (k.wrap (a-b)))
 | .mul=> .ret (.int k (k.wrap (a*b)))
 | .quo=> .chk (b !=0) (.ret (.int k (k.wrap (a.tdiv b))))
 | .rem=> .chk (b !=0) (.ret (.int k (a.tmod b)))
 | .eql=> .ret (.bool (a==b))
 | .neq=> .ret (.bool (a !=b))
 | .lss=> .ret (.bool (decide (a<b)))
 | .leq=> .ret (.bool (decide (a≤b)))
 | .gtr=> .ret (.bool (decide (a>b)))
 | .geq=> .ret (.bool (decide (a≥b)))
 | .and=> .ret (.int k (k.wrap ((BitVec.ofInt k.bits a&&&BitVec.ofInt k.bits b).toNat)))
 | .or=> .ret (.int k (k.wrap ((BitVec.ofInt k.bits a|||BitVec.ofInt k.bits b).toNat)))
 | .xor=> .ret (.int k (k.wrap ((BitVec.ofInt k.bits a^^^BitVec.ofInt k.bits b).toNat)))
 | .andNot=> .ret (.int k (k.wrap ((BitVec.ofInt k.bits a&&&~~~BitVec.ofInt k.bits b).toNat)))
 |_=> .fail
def Qt3 (op:BinOp) (a b:List UInt8):M CV:=
 match op with
 | .add=> .chk (decide (a.length+b.length≤9223372036854775807)) (.ret (.str (a++b)))
 | .eql=> .ret (.bool (a==b))
 | .neq=> .ret (.bool (!(a==b)))
 | .lss=> .ret (.bool (Op.bytesLess a b))
 | .leq=> .ret (.bool (Op.bytesLess a b||a==b))
 | .gtr=> .ret (.bool (!(Op.bytesLess a b||a==b)))
 | .geq=> .ret (.bool (!Op.bytesLess a b))
 |_=> .fail
def Qlb (c:List CV):(off n:Nat)→M (List CV)
 |_,0=> .ret []
 |off,n+1=> .opt c[off]? fun x=>(Qlb c (off+1) n).bind fun r=> .ret (x::r)
def eqOp (op:BinOp) (b:Bool):M CV:=
 match op with
 | .eql=> .ret (.bool b)
 | .neq=> .ret (.bool !b)
 |_=> .fail
def Qd6 (rec:TypeId→Option (List TypeDesc)):List Field→List TypeDesc→Option (List TypeDesc)
 | [],acc=>some acc
 |f::r,acc=>match rec f.type with
  |some ts=>match f.name != "_" &&f.offset==acc.length&&P.cellsOf f.type==ts.length with
   |true=>Qd6 rec r (acc++ts)
   |false=>none
  |none=>none
def Qf1:Nat→TypeId→Option (List TypeDesc)
 |0,_=>none
 |n+1,t=>match P.underlying t with
  |some .bool=>some [.bool]
  |some (.int k)=>some [.int k]
  |some .string=>some [.string]
  |some (.struct fs)=>match P.stoodInHeld t with
   |false=>Qd6 P (Qf1 n) fs.toList []
   |true=>none
  |_=>none
def Qv4 (t:TypeId):Option (List TypeDesc):=
 match P.eqGuardType P.depth t with
 |false=>Qf1 P 8 t
 |true=>none
def QdN:List TypeDesc→List CV→List CV→M Bool
 | [],_,_=> .ret true
 |t::ts,x::xs,y::ys=>do
  let h←match t with
   | .int k=> .opt (x.asI k) fun a=> .opt (y.asI k) fun b=> .ret (a==b)
   | .string=> .opt x.asS fun a=> .opt y.asS fun b=> .ret (a==b)
   | .bool=> .opt x.asB fun a=> .opt y.asB fun b=> .ret (a==b)
   |_=> .fail
  let r←QdN ts xs ys
  .ret (h&&r)
 |_,_,_=> .fail
def QrH (op:BinOp) (k:IntKind) (a b:Int):M CV:=
 match op with
 | .shl=> .chk (decide (0≤b)) (.ret (.int k (k.wrap (a*2^(min b.toNat k.bits)))))
 | .shr=> .chk (decide (0≤b)) (.ret (.int k (a.fdiv (2^(min b.toNat k.bits)))))
 |_=> .fail
def binM (lit:Bool) (op:BinOp) (t u:TypeId) (x y:AV):M CV:=
 match P.underlying t with
 |some (.int k)=>do
  let a←x.cv
  let b←y.cv
  match op with
  | .shl| .shr=>match P.underlying u with
   |some (.int k')=> .opt (a.asI k) fun a=> .opt (b.asI k') fun b=>QrH op k a b
   |_=> .fail
  |_=> .opt (a.asI k) fun a=> .opt (b.asI k) fun b=>Qt2 op k a b
 |some .string=>do
  let a←x.cv
  let b←y.cv
  .opt a.asS fun a=> .opt b.asS fun b=>Qt3 op a b
 |some .bool=>do
  let a←x.cv
  let b←y.cv
  .opt a.asB fun a=> .opt b.asB fun b=>eqOp op (a==b)
 |some (.slice _)=>do
  let a←x.cv
  let b←y.cv
  .opt a.asL fun p=> .opt b.asL fun q=> .chk (q.1||p.1) (eqOp op (q.1&&p.1))
 |some (.pointer _)=>match x,y with
  | .val .nilptr, .val .nilptr=>eqOp op true
  | .ptr .., .val .nilptr| .val .nilptr, .ptr .. =>eqOp op false
  | .cptr .., .val .nilptr| .val .nilptr, .cptr .. =>eqOp op false
  |_,_=> .fail
 |some (.func ..)=>match x,y with
  | .val a, .val b=> .opt a.asNF fun p=> .opt b.asNF fun q=> .chk (q||p) (eqOp op (q&&p))
  | .clo .., .val .nilfn| .val .nilfn, .clo .. =>eqOp op false
  |_,_=> .fail
 |some (.interface _)=>match lit with
  |true=>do
   let a←x.cv
   let b←y.cv
   .opt a.asE fun p=> .opt b.asE fun q=> .chk (q||p) (eqOp op (q&&p))
  |false=> .fail
 |some (.struct _)=>match Qv4 P t with
  |some ts=>do
   let a←x.cv
   let b←y.cv
   .opt a.asA fun a=> .opt b.asA fun b=>(Qlb a 0 ts.length).bind fun a=>(Qlb b 0 ts.length).bind fun b=>do
    let r←QdN ts a b
    eqOp op r
  |none=> .fail
 |_=> .fail
def _root_.Go.Operand.isConst:Operand→Bool
 | .const _=>true
 |_=>false
def unM (op:UnOp) (t:TypeId) (x:AV):M CV:=
 match op,P.underlying t with
 | .not,some .bool=>do let a←x.cv; .opt a.asB fun a=> .ret (.bool !a)
 | .neg,some (.int k)=>do let a←x.cv; .opt (a.asI k) fun a=> .ret (.int k (k.wrap (0-a)))
 |_,_=> .fail
def QbF:List AV→Option (List CV)
 | []=>some []
 |x::r=>match x with
  | .val v=>(QbF r).map (v:: ·)
  | .lst _ n _ l=>(QbF r).map (.list n l:: ·)
  |_=>none
def QfG (cs:List AV):AV:=
 match QbF cs with
 |some v=> .val (.agg v)
 |none=> .agg (cs.map AV.copy)
def nths (c:List CV):(off n:Nat)→M (List AV)
 |_,0=> .ret []
 |off,n+1=> .opt c[off]? fun x=>(nths c (off+1) n).bind fun r=> .ret (.val x::r)
def CV.isCell:CV→Bool
 | .agg _| .tup _=>false
 |_=>true
def AV.isCell:AV→Bool
 | .val c=>c.isCell
 | .any| .undef| .agg _| .tup _| .siter _ _| .bld _| .row _ _| .mpp _ _=>false
 |_=>true
def Qgb (agg:Bool) (n:Nat) (v:AV):M (List AV):=
 match agg with
 |false=> .chk (n==1&&v.isCell) (.ret [v])
 |true=>match v with
  | .val v=> .opt v.asA fun c=> .chk (c.length==n) (nths c 0 n)
  | .agg c=> .chk (c.length==n) (.ret c)
  |_=> .fail
def QhG (d' s:Nat):(off n:Nat)→M (List AV)
 |_,0=> .ret []
 |off,n+1=> .get (.cell d' s off) fun v=>(QhG d' s (off+1) n).bind fun r=> .ret (v::r)
def QcA (d' s:Nat):(off:Nat)→List AV→List W
 |_, []=> []
 |off,v::r=> .cell d' s off v::QcA d' s (off+1) r
def QcI:(cs:List AV)→(off:Nat)→List AV→List AV
 |cs,_, []=>cs
 |cs,off,v::r=>QcI (setN cs off v) (off+1) r
def QnN (t:TypeId) (f:Nat):Option (Nat×TypeId):=
 match P.underlying t with
 |some (.struct fs)=>(fs[f]?).map fun x=>(x.offset,x.type)
 |_=>none
def Qxo (agg:Bool) (n:Nat) (v:AV):M (List CV):=(Qgb agg n v).bind fun cs=> .opt (QbF cs) .ret
def atL (l:List (List CV)) (i:Int):Option (List CV):=if 0≤i then l[i.toNat]? else none
def atS (s:List UInt8) (i:Int):Option UInt8:=if 0≤i then s[i.toNat]? else none
def rowM (e:TypeId) (d s:Nat):M (List (List CV)):= .chk (e !=mapE) (.get (.box d s) fun v=>
 match v with
 | .row e' l=> .chk (e'==e) (.ret l)
 |_=> .fail)
def mapM (d s:Nat):M (List (List CV)):= .get (.box d s) fun v=>
 match v with
 | .row e' l=> .chk (e'==mapE) (.ret l)
 |_=> .fail
def QjE (l:List (List CV)) (k:List UInt8):Bool:=l.any fun c=>match c with
 | [.str s]=>s==k
 |_=>false
def QsW (t:TypeId):Option TypeId:=
 match P.underlying t with
 |some (.map kt et)=>match P.underlying kt with
  |some .string=>some et
  |_=>none
 |_=>none
def QvG (t:TypeId):Bool:=
 match P.info? t with
 |some i=>match i.zero with
  |some (.bool b)=> !b
  |_=>false
 |none=>false
def QbI:(cs:List CV)→(off:Nat)→List CV→List CV
 |cs,_, []=>cs
 |cs,off,v::r=>QbI (setN cs off v) (off+1) r
def Qh5 (l:List (List CV)) (at_:Nat) (new:List (List CV)):List (List CV):=l.take at_++new++l.drop (at_+new.length)
def Qyn (o:Oper) (ops:List Oper) (t:TypeId) (a:AV):M (List W):=
 .chk (P.underlying t).isSome (match a with
  | .ptr d' s off=>
   match Qa0 P t with
   |true=>(QhG d' s off (P.cellsOf t)).bind fun cs=> .ret (put o (QfG cs))
   |false=> .get (.cell d' s off) fun v=>
    match (o.dst.elim false (QtH ops))&&v.isOwn with
    |true=> .ret (.cell d' s off v.copy::put o v)
    |false=> .ret (put o v.copy)
  | .cptr c off=>
   match Qa0 P t with
   |true=>(nths c off (P.cellsOf t)).bind fun cs=> .ret (put o (QfG cs))
   |false=> .opt c[off]? fun x=> .ret (put o (.val x))
  | .rptr e d' s i off=>(rowM e d' s).bind fun l=> .opt l[i]? fun c=>
   match Qa0 P t with
   |true=>(nths c off (P.cellsOf t)).bind fun cs=> .ret (put o (QfG cs))
   |false=> .opt c[off]? fun x=> .ret (put o (.val x))
  |_=> .fail)
def QpQ (t:TypeId) (parts:List Nat):List (Nat×TypeId):=
 match P.underlying t with
 |some (.struct fs)=>(fs.toList.zipIdx).filterMap fun (f,i)=>match parts.contains i,P.underlying f.type with
  |false,some (.slice e)=>some (f.offset,e)
  |_,_=>none
 |_=> []
def Qg9 (ops:List Oper) (x:Operand):List (Nat×TypeId):=
 match x with
 | .tmp s=>match ops.find? (fun o=>o.dst==some s) with
  |some o=>match o.op with
   | .build t parts=>QpQ P t (parts.toList.map (·.1))
   |_=> []
  |none=> []
 |_=> []
def QpE:AV→Bool
 | .val (.list true [])=>true
 |_=>false
def setZ:List (Nat×TypeId)→List AV→List AV
 | [],cs=>cs
 |(i,e)::r,cs=>setZ r (setN cs i (.lst true true e []))
def Qxc (ops:List Oper) (t:TypeId) (x:Operand) (a v:AV):M (List W):=
 .chk (P.underlying t).isSome (match a with
  | .ptr d' s off=>(Qgb (Qa0 P t) (P.cellsOf t) v).bind fun cs=>(QhG d' s off (P.cellsOf t)).bind fun _=>
   .chk ((Qg9 P ops x).all fun z=>QpE (nthD .any cs z.1)) (match x with
   | .tmp s'=>match v.isOwn with
    |true=> .ret (.tmp s' v.copy::QcA d' s off (setZ (Qg9 P ops x) cs))
    |false=> .ret (QcA d' s off (setZ (Qg9 P ops x) cs))
   |_=> .ret (QcA d' s off (setZ (Qg9 P ops x) cs)))
  | .rptr e d' s i off=>(rowM e d' s).bind fun l=>(Qgb (Qa0 P t) (P.cellsOf t) v).bind fun cs=> .opt (QbF cs) fun cs=> .opt l[i]? fun c=>
   .chk (decide (off+cs.length≤c.length)) (.ret [.box d' s [.row e (setN l i (QbI c off cs))]])
  |_=> .fail)
def Qv8 (ops:List Oper) (o:Oper) (t:TypeId) (x:Operand):M (List (Nat×TypeId)):= .get (.row t (2000000+1000*o.dst.getD 0+(match x with| .tmp u=>u|_=>999)) (ops.length+100*(ops.filter fun q=>match q.op with| .alloc _=>true|_=>false).length)) fun v=>match v with
 | .bld _=> .ret (QpQ P t [])
 |_=> .ret []
def Qlp (v:Option AV) (dflt hi:Int):M Int:=
 match v with
 |none=> .ret dflt
 |some v=>v.cv.bind fun x=> .opt x.asN fun n=> .chk (decide (0≤n∧n≤hi)) (.ret n)
def Qle (len cap:Int) (l h m:Option AV):M (Int×Int):=
 (Qlp m cap cap).bind fun m=>(Qlp h len m).bind fun h=>(Qlp l 0 h).bind fun l=> .ret (l,h)
def oopd:Option Operand→M (Option AV)
 |none=> .ret none
 |some x=>do let v←opd x; .ret (some v)
def QwP (e:TypeId) (d s off len cap:Nat) (l h m:Option AV):M AV:=
 (Qle len cap l h m).bind fun q=>match m with
  |none=> .ret (.rsl e d s (off+q.1.toNat) (q.2.toNat-q.1.toNat) (cap-q.1.toNat))
  |some mv=>mv.cv.bind fun mv=> .opt mv.asN fun mm=> .ret (.rsl e d s (off+q.1.toNat) (q.2.toNat-q.1.toNat) (mm.toNat-q.1.toNat))
def Qxk (t:TypeId) (x:AV) (l h m:Option AV):M AV:=
 match x with
 | .rsl e d s off len cap=>match P.underlying t with
  |some (.slice e')=> .chk (e'==e) (.chk (P.cellsOf e !=0) (.chk (!m.isSome||h.isSome) (QwP e d s off len cap l h m)))
  |_=> .fail
 |_=>match P.underlying t with
 | some .string=>x.cv.bind fun a=> .chk m.isNone (.opt a.asS fun s=>(Qle s.length s.length l h none).bind fun q=>
   .ret (.val (.str ((s.take q.2.toNat).drop q.1.toNat))))
 | some (.slice e)=>x.cv.bind fun a=> .opt a.asL fun p=> .chk (P.cellsOf e !=0) (.chk (!m.isSome||h.isSome) (.chk (p.2.all (·.length==P.cellsOf e))
   ((Qle p.2.length p.2.length l h m).bind fun q=>match m with
     |none=> .ret (.val (.list p.1 ((p.2.take q.2.toNat).drop q.1.toNat)))
     |some mv=>mv.cv.bind fun mv=> .opt mv.asN fun mm=> .chk (mm==q.2) (.ret (.lst false p.1 e ((p.2.take q.2.toNat).drop q.1.toNat))))))
 |_=> .fail
def room (n bytes:Nat):Bool:=decide (n*bytes≤140737488355328)
def srcM (u:TypeId) (x:AV):M (List (List CV)):=
 match P.underlying u with
 |some .string=>x.cv.bind fun a=> .opt a.asS fun b=> .ret (b.map fun c=> [CV.int .u8 c.toNat])
 |some (.slice _)=>x.cv.bind fun a=> .opt a.asL fun q=> .ret q.2
 |_=> .fail
def Qhm (own n:Bool) (e:TypeId) (l new:List (List CV)):AV:=
 match own with
 |true=> .lst true (n&&new.isEmpty) e (l++new)
 |false=> .val (.list (n&&new.isEmpty) (l++new))
def QpL (e:TypeId) (s:AV):M AV:=
 match s with
 | .val c=> .opt c.asL fun p=> .br p.1 (.chk p.2.isEmpty (.ret (.lst true true e []))) .fail
 |v=> .ret v
def srcR (u:TypeId) (x:AV):M (List (List CV)):=
 match x with
 | .rsl e d s off len _=>match P.underlying u with
  |some (.slice e')=> .chk (e'==e) ((rowM e d s).bind fun l=> .chk (decide (off+len≤l.length)) (.ret ((l.drop off).take len)))
  |_=> .fail
 |_=>srcM P u x
def target (ops:List Oper) (s:Nat):Nat:=
 match ops.find? (fun o=>match o.op with| .assign (.tmp t)=>t==s|_=>false) with
 |some o=>o.dst.getD s
 |none=>s
def Qfo {α:Type} (ops:List Oper) (e:TypeId) (s:Nat) (t f:M α):M α:= .get (.row e s ops.length) fun v=>match v with
 | .bld _=>t
 |_=>f
def Qyq (d:Nat) (ops:List Oper) (o:Oper) (e:TypeId) (d' s' off len cap:Nat) (new:List (List CV)):M (List W):=
 Qfo ops e (o.dst.getD 0)
  (.chk (d'==d&&s'==target ops (o.dst.getD 0)&&off==0) ((rowM e d' s').bind fun l=> .chk (decide (len=l.length)) (.chk (!new.isEmpty) (.chk (new.all (·.length==P.cellsOf e)) (.chk (room (len+new.length) (P.bytesOf e))
   (.ret (.grow d' s' [.row e (l++new)]::put o (.rsl e d' s' 0 (len+new.length) (len+new.length)))))))))
  ((rowM e d' s').bind fun l=> .chk (decide (off+len+new.length≤l.length)&&decide (len+new.length≤cap)) (.chk (new.all (·.length==P.cellsOf e))
    (.ret (.box d' s' [.row e (Qh5 l (off+len) new)]::put o (.rsl e d' s' off (len+new.length) cap)))))
def QqT (x:Operand) (s:AV):List W:=
 match x with
 | .tmp i=> [.tmp i s.copy]
 |_=> []
def Qyz (d:Nat) (ops:List Oper) (o:Oper) (e:TypeId) (x:Operand) (s0 s:AV) (new:List (List CV)):M (List W):=
 match s with
 | .lst own n e' l=> .chk (e !=mapE&&e'==e&&decide (0<P.cellsOf e)&&decide (0<P.bytesOf e)&&(QdM P e).isSome&&(n|| !own)&&l.isEmpty) (.chk (new.all (·.length==P.cellsOf e)) (.chk (room new.length (P.bytesOf e))
  (.br new.isEmpty (.ret (QqT x s0++put o (.val (.list n []))))
   (.free d (target ops (o.dst.getD 0)) (.ret (QqT x s0++ .box d (target ops (o.dst.getD 0)) [.row e new]::put o (.rsl e d (target ops (o.dst.getD 0)) 0 new.length new.length)))))))
 |_=> .fail
def Qrt (d:Nat) (ops:List Oper) (o:Oper) (t u:TypeId) (x:Operand) (s z:AV) (dflt:M (List W)):M (List W):=
 match P.underlying t,P.underlying u with
 |some (.slice e),some (.slice _)=>match s with
  | .rsl e' d' s' off len cap=> .chk (e'==e&&decide (0<P.cellsOf e)&&decide (0<P.bytesOf e)&&(QdM P e).isSome) ((srcR P u z).bind fun new=>Qyq P d ops o e d' s' off len cap new)
  |_=>Qfo ops e (o.dst.getD 0) ((srcR P u z).bind fun new=>(QpL e s).bind fun s'=>Qyz P d ops o e x s s' new) dflt
 |_,_=>dflt
def Qyj (s:Nat):Operand→Bool
 | .tmp t=>t==s
 |_=>false
def Qv5 (ops:List Oper):Operand→Bool
 | .tmp s=>ops.any fun o=>o.dst==some s&&match o.op with
  | .buildSlice _ len _=>decide (0<len)
  |_=>false
 |_=>false
def QwF (ops:List Oper) (dst:Option Nat):Bool:=
 match dst with
 |some s=>ops.any fun o=>match o.op with
  | .store _ _ y=>Qyj s y
  |_=>false
 |none=>false
def Qpg (ops:List Oper) (o:Oper):Bool:=
 match o.op with
 | .build _ parts=>(parts.toList.any fun p=>Qv5 ops p.2)&&QwF ops o.dst
 |_=>false
def Qzh (ops:List Oper) (dst:Option Nat):Bool:=
 match dst with
 |some s=>ops.any fun b=>Qpg ops b&&match b.op with
  | .build _ parts=>parts.toList.any fun p=>Qyj s p.2
  |_=>false
 |none=>false
def Qvc (ops:List Oper) (y:Operand) (t u:TypeId) (s x:AV):M AV:=
 match P.underlying t with
 |some (.slice e)=>(srcM P u x).bind fun new=>(QpL e s).bind fun s=>
  match s with
  | .lst own n e' l=> .chk (e'==e&&decide (0<P.cellsOf e)&&decide (0<P.bytesOf e)&&(QdM P e).isSome) (.chk (new.all (·.length==P.cellsOf e)) (.chk (room (l.length+new.length) (P.bytesOf e)) (match Qv5 ops y&& !own with
   |true=>Qfo ops e 1000000 (.chk (!new.isEmpty) (.ret (.lst true false e (l++new)))) (.ret (Qhm own n e l new))
   |false=> .ret (Qhm own n e l new))))
  |_=> .fail
 |_=> .fail
def lenM (t:TypeId) (v:AV):M CV:=
 match v with
 | .rsl _ _ _ _ len _=>match P.underlying t with
  |some (.slice _)=> .ret (.int .i64 len)
  |_=> .fail
 |_=>v.cv.bind fun v=>match P.underlying t with
  |some .string=> .opt v.asS fun s=> .ret (.int .i64 s.length)
  |some (.slice _)=> .opt v.asL fun p=> .ret (.int .i64 p.2.length)
  |_=> .fail
def Qyo (o:Oper) (e' u:TypeId) (v z:AV):M (List W):=
 match v with
 | .rsl e d s off len _=> .chk (e'==e&&P.cellsOf e !=0) ((srcR P u z).bind fun new=>(rowM e d s).bind fun l=> .chk (decide (off+len≤l.length)) (.chk (new.all (·.length==P.cellsOf e))
   (.ret (.box d s [.row e (Qh5 l off (new.take (min len new.length)))]::put o (.val (.int .i64 (min len new.length:Nat)))))))
 |_=> .fail
def QwD (e':TypeId) (v:AV):M (List W):=
 match v with
 | .rsl e d s off len _=> .chk (e'==e&&P.cellsOf e !=0) (.opt ((QdM P e).bind QbF) fun z=>(rowM e d s).bind fun l=> .chk (decide (off+len≤l.length))
   (.ret [.box d s [.row e (Qh5 l off (List.replicate len z))]]))
 |_=> .fail
def Qjw (d:Nat) (ops:List Oper) (o:Oper) (b:Builtin) (argTypes:List TypeId) (args:List Operand):M (List W):=
 match b,args,argTypes with
 | .len, [x],t::ts=> .chk ts.isEmpty ((opd x).bind fun v=>(lenM P t v).bind fun c=> .ret (put o (.val c)))
 | .append, [x,y], [t,u]=> .chk o.dst.isSome ((opdT P t x).bind fun s=>(opd y).bind fun z=>Qrt P d ops o t u x s z ((Qvc P ops y t u s z).bind fun r=>
  match x with
  | .tmp i=> .ret (.tmp i s.copy::put o r)
  |_=> .ret (put o r)))
 | .copy, [x,y], [t,u]=>(opd x).bind fun v=>(opd y).bind fun z=>match P.underlying t,P.underlying u with
  |some (.slice e),some (.slice _)=>Qyo P o e u v z
  |_,_=> .fail
 | .clear, [x], [t]=> .chk o.dst.isNone ((opd x).bind fun v=>match P.underlying t with
  |some (.slice e)=>QwD P e v
  |_=> .fail)
 | .min, [x,y],t::_=>match P.underlying t with
  |some (.int k)=>do
   let a←opd x
   let b←opd y
   let a←a.cv
   let b←b.cv
   .opt (a.asI k) fun a=> .opt (b.asI k) fun b=> .ret (put o (.val (.int k (if b<a then b else a))))
  |_=> .fail
 | .max, [x,y],t::_=>match P.underlying t with
  |some (.int k)=>do
   let a←opd x
   let b←opd y
   let a←a.cv
   let b←b.cv
   .opt (a.asI k) fun a=> .opt (b.asI k) fun b=> .ret (put o (.val (.int k (if b>a then b else a))))
  |_=> .fail
 |_,_,_=> .fail
def opds:List Operand→M (List AV)
 | []=> .ret []
 |x::r=>do
  let v←opd x
  let vs←opds r
  .ret (v::vs)
def AV.cvs:List AV→M (List CV)
 | []=> .ret []
 |x::r=>do
  let v←x.cv
  let vs←AV.cvs r
  .ret (v::vs)
def bytesOf:List (List CV)→Option (List UInt8)
 | []=>some []
 |c::l=>match c with
  | [.int .u8 n]=>if 0≤n∧n<256 then (bytesOf l).map (UInt8.ofNat n.toNat:: ·) else none
  |_=>none
def Qyk (s t:TypeId) (x:AV):M AV:=
 match P.underlying s,P.underlying t with
 |some (.int k),some (.int k')=>do let a←x.cv; .opt (a.asI k) fun n=> .ret (.val (.int k' (k'.wrap n)))
 |some (.int k),some .string=>do let a←x.cv; .opt (a.asI k) fun n=> .ret (.val (.str (Utf8.encode n).data.toList))
 |some .string,some .string=>do let a←x.cv; .opt a.asS fun s=> .ret (.val (.str s))
 |some (.slice e),some .string=>match P.underlying e with
  |some (.int .u8)=>do
   let a←x.cv
   .opt a.asL fun p=> .opt (bytesOf p.2) fun b=> .ret (.val (.str b))
  |_=> .fail
 |some .string,some (.slice e)=>match P.underlying e with
  |some (.int .u8)=>do let a←x.cv; .opt a.asS fun b=> .chk (decide (b.length≤9223372036854775807)) (.ret (.val (.list false (b.map fun c=> [.int .u8 c.toNat]))))
  |_=> .fail
 |_,_=> .fail
def partAt (t:TypeId) (i:Nat):Option (Nat×TypeId):=
 match P.underlying t with
 |some (.struct fs)=>(fs[i]?).map fun f=>(f.offset,f.type)
 |some (.array _ e)=>some (i*P.cellsOf e,e)
 |_=>none
def QpV (t:TypeId):Bool:=
 match P.underlying t with
 |some (.struct fs)=>fs.toList.all fun f=>(P.underlying f.type).isSome
 |some (.array _ e)=>(P.underlying e).isSome
 |_=>false
def QmX (t:TypeId) (cs:List AV):List (Nat×Operand)→M (List AV)
 | []=> .ret cs
 | (i,x)::r=> .opt (partAt P t i) fun q=>(opdT P q.2 x).bind fun v=>(Qgb (Qa0 P q.2) (P.cellsOf q.2) v).bind fun vs=>
   .chk (decide (q.1+P.cellsOf q.2≤cs.length)) (QmX t (QcI cs q.1 vs) r)
def QnB (e:TypeId) (l:List (List CV)):List (Nat×Operand)→M (List (List CV))
 | []=> .ret l
 | (i,x)::r=>(opd x).bind fun v=>(Qxo (Qa0 P e) (P.cellsOf e) v).bind fun c=>
   .chk (decide (i<l.length)) (QnB e (setN l i c) r)
def Qae (P:Program) (f:FuncId):Option TypeId:=
 match P.funcs[f]? with
 |some fn=>match fn.body with
  |some (.seq _ (.seq (.region _ ops _) .ret))=>match ops.toList with
   | [_,_,_,_,_,o,_]=>match o.op with
    | .slice t _ _ (some _) (some _)=>QtA P t
    |_=>none
   |_=>none
  |_=>none
 |none=>none
def Qye (o:Oper) (f:FuncId) (t:Option TypeId) (r:CV):M (List W):=
 match t with
 |none=> .get (.own f) fun v=>match v with
  | .bld e=> .opt r.asL fun p=> .ret (put o (.lst true p.1 e p.2))
  |_=> .ret (put o (.val r))
 |some e=> .opt r.asL fun p=> .ret (put o (.lst false p.1 e p.2))
def Qyu (t:TypeId):Bool:=
 match P.info? t with
 |some i=>match i.desc with
  | .named n _=>n== "strings.Builder"
  |_=>false
 |none=>false
def Qzd (ops:List Oper) (o:Oper) (len:Nat):Option Nat:=
 match len with
 |0=>(ops.find? fun q=>match q.op with| .call {callee:= .builtin .append,args, .. }=>(match args.toList with| .tmp t::_=>o.dst==some t|_=>false)|_=>false).map fun q=>q.dst.getD 0
 |_=>none
def opM (ops:List Oper) (o:Oper):M (List W):=
 match o.op with
 | .move x=>do
  let v←opdT P o.type x
  match o.dst.elim false (QtH ops) with
  |true=> .ret (handOn o x v)
  |false=> .ret (put o v.copy)
 | .assign x=>do
  let v←opdT P o.type x
  .ret (handOn o x v)
 | .pick c a b=>do
  let c←opd c
  let c←c.cv
  let a←opd a
  let b←opd b
  .opt c.asB fun t=> .br t (.ret (put o a.copy)) (.ret (put o b.copy))
 | .alloc t=> .opt (QdM P t) fun cs=>match o.dst with
  |some s=> .free d s (.ret (.box d s cs:: .tmp s (.ptr d s 0)::(match Qyu P t,cs with
   |true, .val .nilptr::_=> [.cell d s 0 (.bld t)]
   |_,_=> [])))
  |none=> .fail
 | .box t x=>do
  let v←opdT P t x
  let cs←Qgb (Qa0 P t) (P.cellsOf t) v
  let zs←Qv8 P ops o t x
  .chk (zs.all fun z=>QpE (nthD .any (cs.map AV.copy) z.1)) (match o.dst with
  |some s=> .free d s (.ret [.box d s (setZ zs (cs.map AV.copy)), .tmp s (.ptr d s 0)])
  |none=> .fail)
 | .build t parts=> .chk (QpV P t) (.opt (QdM P t) fun z=>(QmX P t z parts.toList).bind fun cs=>match Qpg ops o with
  |true=>Qfo ops t 1000000 (.ret (put o (.agg (cs.map AV.copy)))) (.ret (put o (QfG cs)))
  |false=> .ret (put o (QfG cs)))
 | .buildSlice t len parts=>match P.underlying t with
  |some (.slice e)=> .chk (decide (len*P.cellsOf e≤1024)) (.chk (P.cellsOf e !=0) (.opt ((QdM P e).bind QbF) fun z=>(QnB P e (List.replicate len z) parts.toList).bind fun l=>
   match Qzd ops o len with
   |some u=>Qfo ops e u (.ret (put o (.lst false false e l))) (.ret (put o (.lst true false e l)))
   |none=>match Qzh ops o.dst with
    |true=>Qfo ops e 1000000 (.ret (put o (.lst false false e l))) (.ret (put o (.lst true false e l)))
    |false=> .ret (put o (.lst true false e l))))
  |_=> .fail
 | .load t a=>do
  let a←opd a
  Qyn P o ops t a
 | .store t a x=> .chk o.dst.isNone (do
  let a←opd a
  let v←opdT P t x
  Qxc P ops t x a v)
 | .nilCheck x=>do
  let v←opd x
  match v with
  | .ptr .. | .cptr .. | .clo .. | .rptr .. => .ret (put o v)
  | .val c=> .opt c.asF fun f=> .ret (put o (.val (.fn f)))
  |_=> .fail
 | .binOp op t x y u=>do
  let a←opd x
  let b←opd y
  let r←binM P (x.isConst||y.isConst) op t u a b
  .ret (put o (.val r))
 | .unOp op t x=>do
  let a←opd x
  let r←unM P op t a
  .ret (put o (.val r))
 | .convert s t x=>do
  let a←opd x
  let r←Qyk P s t a
  .ret (put o r.copy)
 | .slice t x l h m=>do
  let a←opd x
  let l←oopd l
  let h←oopd h
  let m←oopd m
  let r←Qxk P t a l h m
  .ret (put o r)
 | .fieldAddr t x f=>do
  let a←opd x
  .opt (QnN P t f) fun p=> .chk (P.cellsOf p.2 !=0) (match a with
   | .ptr d' s off=> .ret (put o (.ptr d' s (off+p.1)))
   | .cptr c off=> .ret (put o (.cptr c (off+p.1)))
   | .rptr e d' s i off=> .ret (put o (.rptr e d' s i (off+p.1)))
   |_=> .fail)
 | .field t x f=>do
  let a←opd x
  .opt (QnN P t f) fun p=> .chk (P.underlying p.2).isSome ((Qgb true (P.cellsOf t) a).bind fun cs=>
   match Qa0 P p.2 with
   |true=> .ret (put o (QfG ((cs.drop p.1).take (P.cellsOf p.2))))
   |false=> .chk (decide (p.1<cs.length)) (.ret (put o (nthD .any cs p.1).copy)))
 | .indexAddr t x i=>do
  let a←opd x
  let i←opd i
  let i←i.cv
  match P.underlying t with
  |some (.slice e)=>match a with
   | .rsl e' d' s off len _=> .chk (e'==e) (.opt i.asN fun i=> .chk (decide (0≤i)&&decide (i<(len:Int))) (.chk (P.cellsOf e !=0) (.ret (put o (.rptr e d' s (off+i.toNat) 0)))))
   |_=>do
    let a←a.cv
    .opt a.asL fun p=> .opt i.asN fun i=> .opt (atL p.2 i) fun c=> .chk (c.length==P.cellsOf e) (.chk (P.cellsOf e !=0) (.ret (put o (.cptr c 0))))
  |some (.array n e)=>match a with
   | .cptr c off=> .opt i.asN fun i=> .chk (decide (0≤i)&&decide (i<(n:Int))) (.chk (P.cellsOf e !=0) (.ret (put o (.cptr c (off+i.toNat*P.cellsOf e)))))
   |_=> .fail
  |_=> .fail
 | .range t x=>do
  let a←opd x
  let a←a.cv
  match P.underlying t with
  |some .string=> .opt a.asS fun s=> .ret (put o (.siter s 0))
  |_=> .fail
 | .next x str=>match x,str with
  | .tmp t,true=> .chk (o.dst !=some t) (.get (.tmp t) fun v=>match v with
   | .siter s pos=> .br (decide (pos<s.length))
     (.ret (.tmp t (.siter s (pos+(Utf8.decode ⟨s.toArray⟩ pos).2))::put o (.val (.tup [.bool true, .int .i64 pos, .int .i32 (Utf8.decode ⟨s.toArray⟩ pos).1]))))
     (.ret (put o (.val (.tup [.bool false]))))
   |_=> .fail)
  |_,_=> .fail
 | .makeMap _ none=>match o.dst with
  |some s=> .free d s (.ret [.box d s [.row mapE []], .tmp s (.mpp d s)])
  |none=> .fail
 | .mapUpdate t m k x=> .chk o.dst.isNone (do
  let m←opd m
  let k←opd k
  let k←k.cv
  let x←opd x
  let x←x.cv
  .opt (QsW P t) fun _=> .opt k.asS fun k=> .opt x.asB fun b=> .chk b (match m with
   | .mpp d' s=>(mapM d' s).bind fun l=> .ret [.box d' s [.row mapE (l++ [[.str k]])]]
   |_=> .fail))
 | .lookup t m k ok=>do
  let m←opd m
  let k←opd k
  let k←k.cv
  .opt (QsW P t) fun e=> .chk (QvG P e&& !ok) (.opt k.asS fun k=>match m with
   | .mpp d' s=>(mapM d' s).bind fun l=> .ret (put o (.val (.bool (QjE l k))))
   |_=> .fail)
 | .index t x i=>do
  let a←opd x
  let i←opd i
  let a←a.cv
  let i←i.cv
  match P.underlying t with
  |some .string=> .opt a.asS fun s=> .opt i.asN fun i=> .opt (atS s i) fun c=> .ret (put o (.val (.int .u8 c.toNat)))
  |_=> .fail
 | .extract x i=>do
  let v←opd x
  match v with
  | .val v=> .opt v.asT fun vs=> .opt vs[i]? fun x=> .ret (put o (.val x))
  | .tup vs=> .chk (decide (i<vs.length)) (.ret (put o (nthD .any vs i)))
  |_=> .fail
 | .makeSlice t l c=>do
  let l←opd l
  let c←opd c
  let l←l.cv
  let c←c.cv
  match P.underlying t with
  |some (.slice e)=> .opt (l.asI .i64) fun l=> .opt (c.asI .i64) fun c=> .chk (decide (0≤l)&&decide (l≤c)&&decide (c*P.bytesOf e≤140737488355328)&&decide (c≤140737488355328)) (.chk (P.cellsOf e !=0) (.opt ((QdM P e).bind QbF) fun z=>
   match o.dst with
   |some s=>Qfo ops e s (.chk (e !=mapE&&decide (l=c)) (.free d (target ops s) (.ret [.box d (target ops s) [.row e (List.replicate l.toNat z)], .tmp s (.rsl e d (target ops s) 0 l.toNat l.toNat)]))) (.ret (put o (.lst true false e (List.replicate l.toNat z))))
   |none=> .ret (put o (.lst true false e (List.replicate l.toNat z)))))
  |_=> .fail
 | .makeFunc fn first captured=>match fn,first.toList with
  | .func f, []=>do
   let cs←opds captured.toList
   match cs with
   | []=> .ret (put o (.val (.fn f)))
   |_=> .ret (put o (.clo f (cs.map AV.copy)))
  |_,_=> .fail
 | .call c=>match c.callee with
  | .builtin b=>Qjw P d ops o b c.argTypes.toList c.args.toList
  | .value f=>do
   let f←opd f
   let vs←opds c.args.toList
   let cs←AV.cvs vs
   match f with
   | .val v=> .opt v.asF fun f=> .call f cs fun r=>Qye o f (Qae P f) r
   |_=> .fail
  |_=> .fail
 |_=> .fail
def AV.plain:AV→Bool
 | .val _=>true
 | .lst .. =>true
 |_=>false
def Qa2 (σ:St) (o:Oper):Option (FuncId×List AV):=
 match o.op with
 | .call {callee:= .value f,args, .. }=>
  let ev (x:Operand):AV:=match x with
   | .tmp t=>(σ.get (.tmp t)).copy
   | .const v=>AV.ofConst v
   | .func f=> .val (.fn f)
   | .global _=> .any
  match ev f with
  | .clo g caps=>some (g,args.toList.map ev++caps)
  | .val v=>let vs:=args.toList.map ev
   v.asF.bind fun g=>if vs.all AV.plain&&((σ.K.hook g).isNone&& !σ.K.inl g) then none else some (g,vs)
  |_=>none
 |_=>none
end ops
def Loc.hit:Loc→W→Bool
 | .tmp i, .tmp j _=>i==j
 | .cell d s o, .cell d' s' o' _=>d==d'&&s==s'&&o==o'
 | .cell d s _, .box d' s' _=>d==d'&&s==s'
 | .box d s, .box d' s' _=>d==d'&&s==s'
 |_, .grow .. =>true
 |_,_=>false
def W.clash:W→W→Bool
 | .tmp i _, .tmp j _=>i==j
 | .cell d s o _, .cell d' s' o' _=>d==d'&&s==s'&&o==o'
 | .cell d s _ _, .box d' s' _=>d==d'&&s==s'
 | .box d s _, .cell d' s' _ _=>d==d'&&s==s'
 | .box d s _, .box d' s' _=>d==d'&&s==s'
 | .grow ..,_=>true
 |_, .grow .. =>true
 |_,_=>false
structure Did where
 reads:List Loc
 writes:List W
def Did.conflict (a b:Did):Bool:=
 a.writes.any (fun w=>b.reads.any (·.hit w)||b.writes.any (·.clash w))||b.writes.any (fun w=>a.reads.any (·.hit w))
def Qgk (before:List Nat) (n:Nat):List Did→Bool
 | []=>true
 |x::r=>
  let bx:=nthD 0 before (n-1)
  ((r.zipIdx).all fun (y,k)=>bx.testBit (n-2-k)|| !x.conflict y)&&Qgk before (n-1) r
mutual
def AV.ptrs:AV→List (Nat×Nat)
 | .ptr d s _=> [(d,s)]
 | .rsl _ d s _ _ _=> [(d,s)]
 | .rptr _ d s _ _=> [(d,s)]
 | .mpp d s=> [(d,s)]
 | .agg l=>AV.ptrsL l
 | .tup l=>AV.ptrsL l
 | .clo _ l=>AV.ptrsL l
 |_=> []
def AV.ptrsL:List AV→List (Nat×Nat)
 | []=> []
 |x::r=>x.ptrs++AV.ptrsL r
end
def Qlm (m:List (List (Option (List AV)))):List (Nat×Nat)→List (Nat×Nat)→List (Nat×Nat)
 |S, []=>S
 |S,q::r=>Qlm m (match S.contains q||(box? m q.1 q.2).isNone with|true=>S|false=>S++ [q]) r
def Qu8 (m:List (List (Option (List AV)))) (S:List (Nat×Nat)):List (Nat×Nat):=
 S.flatMap fun q=>match box? m q.1 q.2 with|some c=>AV.ptrsL c|none=> []
def Qkt (m:List (List (Option (List AV)))) (vs:List AV):List (Nat×Nat):=
 let S:=Qlm m [] (AV.ptrsL vs)
 let S:=Qlm m S (Qu8 m S)
 Qlm m S (Qu8 m S)
def QbL (S:List (Nat×Nat)) (d s:Nat):Bool:= !(S.contains (d,s))
def Qiz (p:Nat→Nat→Bool) (d:Nat):Nat→List (Option (List AV))→List (Option (List AV))
 |_, []=> []
 |s,b::r=>(match p d s with|true=>none|false=>b.map fun c=>c.map (AV.scrub p))::Qiz p d (s+1) r
def QbD (p:Nat→Nat→Bool):Nat→List (List (Option (List AV)))→List (List (Option (List AV)))
 |_, []=> []
 |d,f::r=>Qiz p d 0 f::QbD p (d+1) r
def Qlh:List (Option (List AV))→List (Option (List AV))→Bool
 | [], []=>true
 |a::r,b::s=>(a.isNone==b.isNone)&&Qlh r s
 |_,_=>false
def QgF:List (List (Option (List AV)))→List (List (Option (List AV)))→Bool
 | [], []=>true
 |a::r,b::s=>Qlh a b&&QgF r s
 |_,_=>false
def Qtz:AV→AV→Bool
 | .val (.int k n), .val (.int k' n')=>decide (k=k')&&decide (n=n')
 | .val (.bool a), .val (.bool b)=>decide (a=b)
 | .val (.str a), .val (.str b)=>decide (a=b)
 | .val .nilptr, .val .nilptr=>true
 | .val .nilfn, .val .nilfn=>true
 | .ptr d s o, .ptr d' s' o'=>decide (d=d')&&decide (s=s')&&decide (o=o')
 |_,_=>false
def QhF:List AV→List AV→Bool
 | [], []=>true
 |a::r,b::s=>Qtz a b&&QhF r s
 |_,_=>false
def Qdw (fl:Bool) (m m':List (List (Option (List AV)))):List (Nat×Nat)→List W
 | []=> []
 |q::r=>(match box? m' q.1 q.2 with
  |some c=>(match box? m q.1 q.2 with
   |some c0=>match !fl&&QhF c0 c with|true=> []|false=> [.box q.1 q.2 c]
   |none=> [])
  |none=> [])++Qdw fl m m' r
def QnZ (m:List (List (Option (List AV)))) (S:List (Nat×Nat)):List Loc:=
 S.flatMap fun q=> .box q.1 q.2::(match box? m q.1 q.2 with|some c=>(List.range (c.length+1)).map fun i=> .cell q.1 q.2 i|none=> [])
section eval
variable {β:Type} (P:Program) (call:FuncId→List CV→Option CV)
variable (inl:FuncId→List AV→List (List (Option (List AV)))→(AV→List (List (Option (List AV)))→Option β)→Option β)
def Qj0 (σ:St) (ops:List Oper) (o:Oper) (run skip:St→Option β):Option β:=
 match o.guard with
 |none=>run σ
 |some (j,want)=>match (ops[j]?).bind (·.dst) with
  |some t=>match nthD .any σ.tmps t with
   | .val v=>optO v.asB fun b=>match want with
    |true=>bif b then run {σ with tmps:=setN σ.tmps t (.val (.bool true))} else skip {σ with tmps:=setN σ.tmps t (.val (.bool false))}
    |false=>bif b then skip {σ with tmps:=setN σ.tmps t (.val (.bool true))} else run {σ with tmps:=setN σ.tmps t (.val (.bool false))}
   | .undef=>skip σ
   |_=>none
  |none=>none
def Qbg (ops:List Oper) (o:Oper):List Loc:=
 match o.guard with
 |none=> []
 |some (j,_)=>match (ops[j]?).bind (·.dst) with
  |some t=> [.tmp t]
  |none=> []
def Qxl:Operand→Option Loc
 | .tmp t=>some (.tmp t)
 |_=>none
def Qdb (o:Oper):List Loc:=
 match o.op with
 | .call {callee:= .value f,args, .. }=>(f::args.toList).filterMap Qxl
 |_=> []
def backIn (σ:St) (o:Oper) (v:AV) (mem:List (List (Option (List AV)))):St:=
 {tmps:=(match o.dst with|some t=>setN σ.tmps t v|none=>σ.tmps),mem,K:=σ.K}
def inlK (o:Oper) (σ:St) (k:St→Option β) (v:AV) (mem:List (List (Option (List AV)))):Option β:=k (backIn σ o v mem)
def QsV (K:Cfg):Bool:=K.pan.isSome||K.row 0 1000004 0
def QlN (ops:List Oper) (o:Oper) (σ:St) (S:List (Nat×Nat)) (v:AV) (m':List (List (Option (List AV)))):Did:=
 ⟨.glob 0::(Qdb o++Qbg ops o++QnZ σ.mem S),Qdw (QsV σ.K) σ.mem m' S++put o v⟩
def inlD (ops:List Oper) (o:Oper) (did:Did→St→Option β) (σ:St) (S:List (Nat×Nat)) (v:AV) (m':List (List (Option (List AV)))):Option β:=
 chkO (QgF (QbD (QbL S) 0 σ.mem) m') (did (QlN ops o σ S v m') (Qau σ (QlN ops o σ S v m').writes))
def inlR (ops:List Oper) (o:Oper) (did:Did→St→Option β) (f:FuncId) (vs:List AV) (σ:St) (S:List (Nat×Nat)):Option β:=
 chkO (!AV.hasPtrs (QbL S) vs) (inl f vs (QbD (QbL S) 0 σ.mem) (inlD ops o did σ S))
def runK (d:Nat) (ops:List Oper) (o:Oper) (pre:Bool) (did:Did→St→Option β) (k:St→Option β) (σ:St):Option β:=
 match Qa2 σ o with
 |some (f,vs)=>match pre with
  |true=>inl f vs σ.mem (inlK o σ k)
  |false=>inlR inl ops o did f vs σ (Qkt σ.mem vs)
 |none=>(opM P d ops o).exec call σ (Qdb o++Qbg ops o) fun w rs=>did ⟨rs,w⟩ (Qau σ w)
def QvK (ops:List Oper) (o:Oper) (did:Did→St→Option β) (σ:St):Option β:=
 did ⟨Qbg ops o,put o .undef⟩ (Qau σ (put o .undef))
def Qdi (d:Nat) (σ:St) (ops:List Oper) (o:Oper) (pre:Bool) (did:Did→St→Option β) (k:St→Option β):Option β:=
 Qj0 σ ops o (runK P call inl d ops o pre did k) (QvK ops o did)
def QnR (k:St→Option β) (_:Did) (σ:St):Option β:=k σ
def QyD (d:Nat) (ops:List Oper) (o:Oper) (rest:(St→Option β)→St→Option β) (k:St→Option β) (σ:St):Option β:=
 Qdi P call inl d σ ops o true (QnR (rest k)) (rest k)
def QzT (k:St→Option β) (σ:St):Option β:=k σ
noncomputable def opsK (d:Nat) (ops:List Oper) (l:List Oper):(St→Option β)→St→Option β:=
 List.rec QzT (fun o _ ih=>QyD P call inl d ops o ih) l
def QhN (before:List Nat) (i n:Nat):Bool:=
 (List.range i).all (fun j=>(nthD 0 before i).testBit j)&&(List.range (n-1-i)).all (fun j=>(nthD 0 before (i+1+j)).testBit i)
def Qve (before:List Nat) (n:Nat) (ds:List Did) (k:St→Option β) (σ:St):Option β:=chkO (Qgk before n ds) (k σ)
def QrF (rest:Nat→List Did→(St→Option β)→St→Option β) (i:Nat) (ds:List Did) (k:St→Option β) (x:Did) (σ:St):Option β:=
 rest (i+1) (x::ds) k σ
def Qde (before:List Nat) (i:Nat):Nat→List Oper→List (Nat×Oper)
 |_, []=> []
 |j,o::r=>match decide (i<j)&& !((nthD 0 before j).testBit i) with
  |true=>(j,o)::Qde before i (j+1) r
  |false=>Qde before i (j+1) r
def Qid (d:Nat) (ops:List Oper):List (Nat×Oper)→St→List (Nat×Did)→(List (Nat×Did)→Option β)→Option β
 | [],_,acc,k=>k acc
 |q::r,σ,acc,k=>chkO (q.2.guard.isNone&&(Qa2 σ q.2).isNone) ((opM P d ops q.2).exec call σ (Qdb q.2++Qbg ops q.2) fun w rs=>Qid d ops r (Qau σ w) ((q.1,⟨rs,w⟩)::acc) k)
def Qk3 (before:List Nat):List (Nat×Did)→Bool
 | []=>true
 |x::r=>(r.all fun y=>(nthD 0 before x.1).testBit y.1|| !x.2.conflict y.2)&&Qk3 before r
def Qez:Nat→List Did→List (Nat×Did)
 |_, []=> []
 |i,x::r=>(i-1,x)::Qez (i-1) r
def QfB (ops:List Oper) (o:Oper) (σ:St) (vs:List AV):Did:=⟨.glob 0::(Qdb o++Qbg ops o++QnZ σ.mem (Qkt σ.mem vs)), []⟩
def QgJ (d:Nat) (before:List Nat) (ops:List Oper) (o:Oper) (i:Nat) (ds:List Did) (σ:St) (x:Option β):Option β:=
 match σ.K.pan with
 |none=>x
 |some _=>match Qa2 σ o with
  |none=>x
  |some (_,vs)=>chkO (o.guard.isNone&&(AV.hasPtrs (QbL (Qkt σ.mem vs)) vs==false)) (Qid P call d ops (Qde before i 0 ops) σ [] fun E=>chkO (Qk3 before (E++(i,QfB ops o σ vs)::Qez i ds)) x)
def QxE (d:Nat) (before:List Nat) (ops:List Oper) (o:Oper) (rest:Nat→List Did→(St→Option β)→St→Option β)
  (i:Nat) (ds:List Did) (k:St→Option β) (σ:St):Option β:=
 QgJ P call d before ops o i ds σ (Qdi P call inl d σ ops o (QhN before i ops.length&&Qgk before i ds) (QrF rest i ds k) (rest (i+1) [] k))
def QyX (before:List Nat) (n _:Nat) (ds:List Did) (k:St→Option β) (σ:St):Option β:=Qve before n ds k σ
noncomputable def QcX (d:Nat) (before:List Nat) (ops:List Oper) (l:List Oper):(i:Nat)→List Did→(St→Option β)→St→Option β:=
 List.rec (QyX before ops.length) (fun o _ ih=>QxE P call inl d before ops o ih) l
end eval
def QcN:Nat→List Oper→Bool
 |_, []=>true
 |i,o::r=>o.after.toList.all (fun e=>decide (e.on<i)|| !Region.binds .any e)&&QcN (i+1) r
inductive Ex where
 |normal|exit (id:Nat)|ret
def QnS:List Oper→List Nat
 | []=> []
 |o::r=>match o.op with
  | .assign _=>QnS r
  |_=>match o.dst with
   |some t=>t::QnS r
   |none=>QnS r
def Qfe:Code→List Nat
 | .region _ ops _=>QnS ops.toList
 | .seq a b=>Qfe a++Qfe b
 | .cond _ a b=>Qfe a++Qfe b
 | .block _ a=>Qfe a
 | .loop a=>Qfe a
 | .scope a=>Qfe a
 |_=> []
def QlQ:Code→List Oper
 | .seq a _=>QlQ a
 | .block _ a=>QlQ a
 | .scope a=>QlQ a
 | .region _ ops _=>ops.toList
 |_=> []
def heads (c:Code):List Nat:=
 match QlQ c with
 |o::_=>match o.op with
  | .binOp _ _ (.tmp x) _ _=> [x]
  |_=> []
 | []=> []
def Qak (c:Code):List Nat:=(Qfe c).filter fun t=> !(heads c).contains t
def Qke:List Oper→List Nat
 | []=> []
 |o::r=>match o.op with
  | .assign _=>match o.dst with
   |some t=>t::Qke r
   |none=>Qke r
  |_=>Qke r
def QlV:List Oper→List Nat
 | []=> []
 |o::r=>match o.op with
  | .alloc _| .box .. =>match o.dst with
   |some t=>t::QlV r
   |none=>QlV r
  |_=>QlV r
def Qdh:Code→List Nat
 | .region _ ops _=>Qke ops.toList
 | .seq a b=>Qdh a++Qdh b
 | .cond _ a b=>Qdh a++Qdh b
 | .block _ a=>Qdh a
 | .loop a=>Qdh a
 | .scope a=>Qdh a
 |_=> []
def Qd1:Code→List Nat
 | .region _ ops _=>QlV ops.toList
 | .seq a b=>Qd1 a++Qd1 b
 | .cond _ a b=>Qd1 a++Qd1 b
 | .block _ a=>Qd1 a
 | .loop a=>Qd1 a
 | .scope a=>Qd1 a
 |_=> []
def Qg4:List AV→List Nat→List AV
 |l, []=>l
 |l,t::r=>Qg4 (setN l t .any) r
def QmS:List (Option (List AV))→List Nat→List (Option (List AV))
 |l, []=>l
 |l,t::r=>QmS (setN l t none) r
def clear (d:Nat) (ts bs:List Nat) (σ:St):St:=
 match bs with
 | []=>{σ with tmps:=Qg4 σ.tmps ts}
 |_=>
  let p:Nat→Nat→Bool:=fun d' s=>d'==d&&bs.contains s
  {tmps:=(Qg4 σ.tmps ts).map (AV.scrub p),mem:=Qaw p (setN σ.mem d (QmS (nthD [] σ.mem d) bs)),K:=σ.K}
def Qvh (l:List Oper):Bool:=
 (l.any fun o=>match o.op with| .call c=>(match c.callee with| .value (.tmp _)=>o.type==0|_=>false)|_=>false)&& !(l.any fun o=>match o.op with| .alloc _=>true| .box .. =>true| .makeFunc .. =>true|_=>false)
def Qs8:Code→Bool
 | .seq _ b=>Qs8 b
 | .cond .. | .block .. | .loop _| .scope _| .rangeFunc .. =>true
 | .region _ ops _=>Qvh ops.toList
 |_=>false
def anys (σ:St) (l:List Nat):List Nat:=l.filter fun t=>match nthD .any σ.tmps t with| .any=>true|_=>false
def QlX (σ:St) (d:Nat) (l:List Nat):List Nat:=l.filter fun t=>(box? σ.mem d t).isNone
noncomputable def Qys (α:Type):{f:α→α//∀x,f x=x}:=Classical.choice ⟨⟨fun x=>x,fun _=>rfl⟩⟩
noncomputable def hold {α:Type} (x:α):α:=(Qys α).1 x
theorem Qah {α:Type} (x:α):hold x=x:=(Qys α).2 x
def Qe3:Code→Nat
 | .region _ ops _=>ops.toList.length
 | .seq a b=>Qe3 a+Qe3 b
 | .cond _ a b=>5+Qe3 a+Qe3 b
 | .block _ a=>Qe3 a
 | .loop a=>50+Qe3 a
 | .rangeFunc _ _ a b=>50+Qe3 a+Qe3 b
 | .scope a=>Qe3 a
 |_=>0
def Qkw (i:Nat):Code→Nat
 | .seq a b=>Qkw i a+Qkw i b
 | .cond _ a b=>Qkw i a+Qkw i b
 | .block _ a=>Qkw i a
 | .loop a=>Qkw i a
 | .scope a=>Qkw i a
 | .exit j=>if j=i then 1 else 0
 |_=>0
def QhX:Code→Nat
 | .skip=>1
 | .region _ ops _=>match Qvh ops.toList with|true=>2|false=>1
 | .label _=>1
 | .seq a b=>min 2 (QhX a*QhX b)
 | .cond _ a b=>min 2 (QhX a+QhX b)
 | .block i a=>min 2 (QhX a+Qkw i a)
 | .scope a=>QhX a
 |_=>0
def QhK:Code→Bool
 | .seq a b=>QhK a||QhK b
 | .cond _ a b=>QhK a||QhK b
 | .block _ a=>QhK a
 | .loop _=>true
 | .rangeFunc .. =>true
 | .scope a=>QhK a
 |_=>false
def QsS (a b:Code):Bool:=QhK a||(decide (2≤QhX a)&&decide (12<Qe3 b))
def Qe5 (K:Cfg) (s:Nat):Code→Bool
 | .seq _ b=>Qe5 K s b
 | .region _ ops _=>ops.toList.any fun o=>match o.op with| .call c=>(match c.callee with| .value (.func f)=>K.row f s 0|_=>false)|_=>false
 |_=>false
def Qfz:Code→Bool
 | .seq a b=>Qfz a||Qfz b
 | .cond _ a b=>Qfz a||Qfz b
 | .block _ a=>Qfz a
 | .loop a=>Qfz a
 | .rangeFunc .. =>true
 | .scope a=>Qfz a
 |_=>false
def QvN (n:Nat) (f:List (Option (List AV))):List (Option (List AV)):=match (f.drop n).all (fun b=>b.isNone) with
 |true=>f.take n
 |false=>f
def Qj5 (n:Nat):List (List (Option (List AV)))→List (List (Option (List AV)))
 | []=> []
 |f::r=>match r with
  | []=> [QvN n f]
  |g::r=>f::Qj5 n (g::r)
def trimTop (a:Code) (σ:St):St:=match Qfz a with
 |true=>{tmps:=σ.tmps,mem:=Qj5 σ.tmps.length σ.mem,K:=σ.K}
 |false=>σ
def tidy (a:Code) (σ:St):St:=trimTop a (match Qs8 a||Qe5 σ.K 1000002 a with|true=>clear 0 (Qfe a) [] σ|false=>σ)
noncomputable def seqK {β:Type} (ev:Code→(Ex→St→Option β)→St→Option β) (a b:Code) (k:Ex→St→Option β) (e:Ex) (σ:St):Option β:=
 match e with
 | .normal=>match QsS a b||(Qe5 σ.K 1000002 a||Qe5 σ.K 1000005 a) with
  |true=>hold (ev b k (tidy a σ))
  |false=>ev b k (tidy a σ)
 |e=>k e σ
def QeA {β:Type} (a b:Code) (k:Ex→St→Option β) (e:Ex) (σ:St):Option β:=k e (clear 0 (Qfe a++Qfe b) [] σ)
def Qam {β:Type} (id:Nat) (k:Ex→St→Option β) (e:Ex) (σ:St):Option β:=
 match e with
 | .exit id'=>if id'=id then k .normal σ else k e σ
 |e=>k e σ
noncomputable def Qcz {β:Type} (d:Nat) (ts bs:List Nat) (next:St→Option β) (k:Ex→St→Option β) (e:Ex) (σ:St):Option β:=
 match e with
 | .normal=>hold (next (clear d ts bs σ))
 |e=>k e σ
noncomputable def Qax {β:Type} (ev:Code→(Ex→St→Option β)→St→Option β) (d:Nat) (ts bs:List Nat) (a:Code) (k:Ex→St→Option β) (n:Nat):St→Option β:=
 Nat.rec (fun _=>none) (fun _ ih=>ev a (Qcz d ts bs ih k)) n
def Qnc (σ:St):Operand→Option Bool
 | .tmp t=>match nthD .any σ.tmps t with
  | .val v=>v.asB
  |_=>none
 | .const (.bool b)=>some b
 |_=>none
def QhH (d:Nat) (m:List (List (Option (List AV)))):List AV→Option (List ((Nat×Nat)×List CV))
 | []=>some []
 |x::r=>match x with
  | .ptr d' s o=>match d'==d&&o==0,box? m d' s with
   |true,some c=>match QbF c,QhH d m r with
    |some v,some l=>match (l.map (·.1)).contains (d',s) with
     |false=>some (((d',s),v)::l)
     |true=>none
    |_,_=>none
   |_,_=>none
  |_=>none
def Qlo (d:Nat) (σ:St):Operand→Option (FuncId×List ((Nat×Nat)×List CV))
 | .tmp t=>match nthD .any σ.tmps t with
  | .clo f caps=>(QhH d σ.mem caps).map fun l=>(f,l)
  |_=>none
 |_=>none
def capP (l:List ((Nat×Nat)×List CV)) (d s:Nat):Bool:=(l.map (·.1)).contains (d,s)
def Qey:List AV→List Nat→List CV→List AV
 |t,p::ps,c::cs=>Qey (setN t p (.val c)) ps cs
 |t,_,_=>t
def lits {β:Type}:Nat→List CV→(List CV→Option β)→Option β
 |0,_,k=>k []
 |n+1,x,k=>optO x.head? fun c=>lits n x.tail fun r=>k (c::r)
def Qdc (D:Nat) (m:List (List (Option (List AV)))):List (List (Option (List AV))):=Qaw (fun d' _=>d'==D) (m.take D)
noncomputable def Qjs {β:Type} (D:Nat) (next:List (List (Option (List AV)))→Option β) (k:Ex→List (List (Option (List AV)))→Option β) (e:Ex) (σ:St):Option β:=
 match e with
 | .normal=>hold (next (Qdc D σ.mem))
 | .exit id=>k (.exit id) (Qdc D σ.mem)
 | .ret=>k .ret (Qdc D σ.mem)
noncomputable def Qit {β:Type} (ev1:Code→(Ex→St→Option β)→St→Option β) (D:Nat) (body:Code) (next:List (List (Option (List AV)))→Option β) (k:Ex→List (List (Option (List AV)))→Option β) (e:Ex) (σ:St):Option β:=
 match e with
 | .normal=>ev1 body (Qjs D next k) σ
 |_=>none
noncomputable def Qbv {β:Type} (ev1:Code→(Ex→St→Option β)→St→Option β) (D:Nat) (asg body:Code) (ps:List Nat) (tm:List AV) (K:Cfg) (items:List (List CV)) (k:Ex→List (List (Option (List AV)))→Option β) (n:Nat):
  Nat→List (List (Option (List AV)))→Option β:=
 Nat.rec (fun _ _=>none) (fun _ ih i mem=>bif decide (i<items.length) then
   optO items[i]? fun x=>lits ps.length x fun x=>(ev1 asg (Qit ev1 D body (ih (i+1)) k) {tmps:=Qey tm ps x,mem:=mem++ [List.replicate tm.length none],K:=K})
  else k .normal mem) n
def QcS {β:Type} (k:Ex→St→Option β) (tm:List AV) (K:Cfg) (e:Ex) (mem:List (List (Option (List AV)))):Option β:=k e {tmps:=tm,mem:=mem,K:=K}
def QqM:List Oper→Option (TypeId×Nat×Nat)
 | [a,b,c]=>match a.op,b.op,c.op with
  | .build t parts, .makeInterface t' (.tmp x), .panic (.tmp y)=>match parts.size==0&&t==t'&&a.dst==some x&&b.dst==some y&&a.guard.isNone&&b.guard.isNone&&c.guard.isNone with
   |true=>some (t,x,y)
   |false=>none
  |_,_,_=>none
 |_=>none
def QnM (σ:St) (ops:List Oper):Bool:=
 match σ.K.pan with
 |none=>false
 |some t=>match QqM ops with
  |some q=>q.1==t&&decide (q.2.1<σ.tmps.length)&&decide (q.2.2<σ.tmps.length)
  |none=>false
noncomputable def Qco {β:Type} (P:Program) (call:FuncId→List CV→Option CV)
  (inl:FuncId→List AV→List (List (Option (List AV)))→(AV→List (List (Option (List AV)))→Option β)→Option β)
  (m d:Nat) (rg:Bool) (ev ev1:Code→(Ex→St→Option β)→St→Option β) (c:Code) (k:Ex→St→Option β) (σ:St):Option β:=
 match c with
 | .skip=>k .normal σ
 | .region _ ops draw=>
  match draw with
  |false=>match QnM σ ops.toList with
   |false=>opsK P call inl d ops.toList ops.toList (k .normal) σ
   |true=>inl panF [] [] fun _ _=>none
  |true=>chkO (QcN 0 ops.toList) (QcX P call inl d (Region.before ops).toList ops.toList ops.toList 0 [] (k .normal) σ)
 | .seq a b=>ev a (seqK ev a b k) σ
 | .cond c a b=>optO (Qnc σ c) fun t=>bif t then ev a (QeA a b k) σ else ev b (QeA a b k) σ
 | .block id a=>ev a (Qam id k) σ
 | .loop a=>
  let ts:=Qak a++anys σ (Qdh a)
  let bs:=QlX σ d (Qd1 a)
  hold (Qax ev d ts bs a k m (clear d ts bs σ))
 | .exit id=>k (.exit id) σ
 | .scope a=>ev a k σ
 | .label _=>k .normal σ
 | .ret=>k .ret σ
 | .rangeFunc g ps asg body=>match rg with
  | true=>chkO σ.K.pan.isNone<|optO (Qlo d σ g) fun q=>optO (σ.K.iter q.1) fun it=>optO (it (q.2.map (·.2))) fun items=>chkO (items.all (·.length==ps.size))<|
    let tm:=σ.tmps.map fun v=>v.copy.scrub (capP q.2)
    hold (Qbv ev1 (d+1) asg body ps.toList tm σ.K items (QcS k tm σ.K) m 0 (QbD (capP q.2) 0 σ.mem))
  |false=>none
 |_=>none
noncomputable def evG {β:Type} (P:Program) (call:FuncId→List CV→Option CV)
  (inl:FuncId→List AV→List (List (Option (List AV)))→(AV→List (List (Option (List AV)))→Option β)→Option β)
  (m j:Nat):Nat→Bool→Code→(Ex→St→Option β)→St→Option β:=
 Nat.rec (fun _ _ _ _ _=>none) (fun _ ih d rg=>Qco P call inl m d rg (ih d rg) (ih (d+1) false)) j
noncomputable def evN {β:Type} (P:Program) (call:FuncId→List CV→Option CV)
  (inl:FuncId→List AV→List (List (Option (List AV)))→(AV→List (List (Option (List AV)))→Option β)→Option β)
  (m d j:Nat):Code→(Ex→St→Option β)→St→Option β:=evG P call inl m j d true
def Qei (P:Program) (σ:St):List ResultVar→Option (List AV)
 | []=>some []
 |r::rs=>match Qei P σ rs with
  |none=>none
  |some vs=>match r with
   | .tmp t=>some (nthD .any σ.tmps t::vs)
   | .cell a t=>match nthD .any σ.tmps a with
    | .ptr d s off=>
     match (P.underlying t).isSome&&(List.range (P.cellsOf t)).all (fun i=>σ.has (.cell d s (off+i))) with
     |false=>none
     |true=>match Qa0 P t with
      |false=>match σ.has (.cell d s off) with
       |true=>some (Qbm σ.mem d s off::vs)
       |false=>none
      |true=>some (QfG (((List.range (P.cellsOf t)).map fun i=>Qbm σ.mem d s (off+i)))::vs)
    |_=>none
def Qje (vs:List AV):AV:=
 match vs with
 | [v]=>v
 |vs=>match QbF vs with
  |some cs=> .val (.tup cs)
  |none=> .tup (vs.map AV.copy)
def Qvs (vs:List AV):AV:=
 match QbF vs with
 |some cs=> .val (.tup cs)
 |none=> .tup (vs.map AV.copy)
mutual
def frz {β:Type} (m:List (List (Option (List AV)))) (d:Nat):AV→(AV→Option β)→Option β
 | .rsl e d' s off len cap,k=>match d'==d with
  |true=>match QbV m d' s with
   | .row e' l=>chkO (e' !=mapE&&e'==e&&decide (off+len≤l.length)) (k (.val (.list false ((l.drop off).take len))))
   |_=>k .any
  |false=>k (.rsl e d' s off len cap)
 | .agg cs,k=>frzL m d cs fun cs=>k (QfG cs)
 | .tup cs,k=>frzL m d cs fun cs=>k (Qvs cs)
 | .any,k=>k .any
 | .undef,k=>k .undef
 | .val v,k=>k (.val v)
 | .lst a b c e,k=>k (.lst a b c e)
 | .ptr d s o,k=>k (.ptr d s o)
 | .cptr c o,k=>k (.cptr c o)
 | .clo f l,k=>k (.clo f l)
 | .siter s p,k=>k (.siter s p)
 | .bld t,k=>k (.bld t)
 | .row e l,k=>k (.row e l)
 | .rptr e d s i o,k=>k (.rptr e d s i o)
 | .mpp d s,k=>k (.mpp d s)
def frzL {β:Type} (m:List (List (Option (List AV)))) (d:Nat):List AV→(List AV→Option β)→Option β
 | [],k=>k []
 |v::r,k=>frz m d v fun v=>frzL m d r fun r=>k (v::r)
end
def retK {β:Type} (P:Program) (rs:List ResultVar) (d:Nat) (k:AV→List (List (Option (List AV)))→Option β) (e:Ex) (σ:St):Option β:=
 match e with
 | .exit _=>none
 |_=>optO (Qei P σ rs) fun vs=>frz σ.mem d (Qje vs).copy fun v=>k (v.copy.scrub fun d' _=>d'==d) (Qaw (fun d' _=>d'==d) (σ.mem.take d))
def Qa7:Nat→List (Option (List AV))→List Nat
 |_, []=> []
 |i,b::r=>match b with
  |some _=>i::Qa7 (i+1) r
  |none=>Qa7 (i+1) r
def Qef (s:Nat):Nat→List Nat→Option Nat
 |_, []=>none
 |i,x::r=>match x==s with
  |true=>some i
  |false=>Qef s (i+1) r
def renP (d base:Nat) (L:List Nat) (d' s:Nat):Option (Nat×Nat):=
 match d'==d with
 |true=>(Qef s 0 L).map fun i=>(d-1,base+i)
 |false=>some (d',s)
mutual
def AV.ren (ρ:Nat→Nat→Option (Nat×Nat)):AV→AV
 | .ptr d s o=>match ρ d s with
  |some q=> .ptr q.1 q.2 o
  |none=> .any
 | .agg l=> .agg (AV.renL ρ l)
 | .tup l=> .tup (AV.renL ρ l)
 | .clo f l=> .clo f (AV.renL ρ l)
 | .any=> .any
 | .undef=> .undef
 | .val v=> .val v
 | .lst a b c e=> .lst a b c e
 | .cptr c o=> .cptr c o
 | .siter s p=> .siter s p
 | .bld t=> .bld t
 | .row e l=> .row e l
 | .rsl e d s off len cap=>match ρ d s with
  |some q=> .rsl e q.1 q.2 off len cap
  |none=> .any
 | .rptr e d s i o=>match ρ d s with
  |some q=> .rptr e q.1 q.2 i o
  |none=> .any
 | .mpp d s=>match ρ d s with
  |some q=> .mpp q.1 q.2
  |none=> .any
def AV.renL (ρ:Nat→Nat→Option (Nat×Nat)):List AV→List AV
 | []=> []
 |x::r=>x.ren ρ::AV.renL ρ r
end
def Qhe:Nat→List (List (Option (List AV)))→List (Option (List AV))→List (List (Option (List AV)))
 |_, [],_=> []
 |0,f::r,l=>(f++l)::r
 |d+1,f::r,l=>f::Qhe d r l
def QnF (ρ:Nat→Nat→Option (Nat×Nat)) (m:List (List (Option (List AV)))):List (List (Option (List AV))):=
 m.map fun f=>f.map fun b=>match b with|some c=>some (AV.renL ρ c)|none=>none
def Qjg (d:Nat) (m:List (List (Option (List AV)))) (L:List Nat):List (List (Option (List AV))):=
 QnF (renP d (nthD [] m (d-1)).length L) (Qhe (d-1) (m.take d) (L.map fun s=>nthD none (nthD [] m d) s))
def Qwl (d:Nat):AV→Bool
 | .val _=>true
 | .lst _ _ _ _=>true
 | .any=>true
 | .undef=>true
 | .cptr _ _=>true
 | .siter _ _=>true
 | .bld _=>true
 | .row _ _=>true
 | .ptr d' _ _=> !(d'==d)
 | .rsl _ d' _ _ _ _=> !(d'==d)
 | .rptr _ d' _ _ _=> !(d'==d)
 | .mpp d' _=> !(d'==d)
 |_=>false
def Qyg (d:Nat) (f:List (Option (List AV))):Bool:=f.all fun b=>match b with
 |some c=>c.all (Qwl d)
 |none=>true
def Qes (d:Nat) (m:List (List (Option (List AV)))) (L:List Nat):List (List (Option (List AV))):=
 (Qhe (d-1) (m.take d) (L.map fun s=>nthD none (nthD [] m d) s)).map fun f=>match Qyg d f with
  |true=>f
  |false=>f.map fun b=>match b with|some c=>some (AV.renL (renP d (nthD [] m (d-1)).length L) c)|none=>none
theorem Qwt {d base:Nat} {L:List Nat} {x:AV} (h:Qwl d x=true):x.ren (renP d base L)=x:=by
 have key:∀d' s,(!(d'==d))=true→renP d base L d' s=some (d',s):=fun d' s q=>by
  have q:(d'==d)=false:=by simpa using q
  unfold renP;rw [q]
 cases x with
 |ptr d' s o=>rw [AV.ren,key d' s h]
 |rsl e d' s a b c=>rw [AV.ren,key d' s h]
 |rptr e d' s a b=>rw [AV.ren,key d' s h]
 |agg l=>cases h
 |tup l=>cases h
 |clo f l=>cases h
 |mpp d' s=>rw [AV.ren,key d' s h]
 |_=>rw [AV.ren]
theorem Qw9 {d base:Nat} {L:List Nat}:∀{c:List AV},c.all (Qwl d)=true→AV.renL (renP d base L) c=c
 | [],_=>by rw [AV.renL]
 |x::c,h=>by
  simp only [List.all_cons,Bool.and_eq_true] at h
  rw [AV.renL,Qwt h.1,Qw9 h.2]
theorem Qnk (d:Nat) (m:List (List (Option (List AV)))) (L:List Nat):Qes d m L=Qjg d m L:=by
 unfold Qes Qjg QnF
 refine List.map_congr_left fun f _=> ?_
 cases hf:Qyg d f with
 |false=>rfl
 |true=>
  have h2:∀b∈f,(match b with|some c=>some (AV.renL (renP d (nthD [] m (d-1)).length L) c)|none=>none)=b:=fun b hb=>by
   have:=List.all_eq_true.1 hf b hb
   cases b with
   |none=>rfl
   |some c=>exact congrArg some (Qw9 this)
  exact ((List.map_congr_left h2).trans (List.map_id' f)).symm
def retL {β:Type} (P:Program) (rs:List ResultVar) (d:Nat) (k:AV→List (List (Option (List AV)))→Option β) (e:Ex) (σ:St):Option β:=
 match e with
 | .exit _=>none
 |_=>match d with
  |0=>none
  |d+1=>optO (Qei P σ rs) fun vs=>
   k ((Qje vs).copy.ren (renP (d+1) (nthD [] σ.mem d).length (Qa7 0 (nthD [] σ.mem (d+1))))) (Qes (d+1) σ.mem (Qa7 0 (nthD [] σ.mem (d+1))))
def QlD {β:Type} (P:Program) (lift:Bool) (rs:List ResultVar) (d:Nat) (k:AV→List (List (Option (List AV)))→Option β):Ex→St→Option β:=
 match lift with
 |true=>retL P rs d k
 |false=>retK P rs d k
def QrB (T0:TypeId) (vs:List AV) (mem:List (List (Option (List AV)))):Option (List (List CV)×(List UInt8→AV×List (List (Option (List AV))))):=
 match vs with
 | [.ptr d s 0]=>match box? mem d s with
  |some [.bld T,_]=>match T==T0 with
   |true=>some ([],fun _=>(.val (.tup []),mem))
   |false=>none
  |_=>none
 |_=>none
def Qo1 (e0:TypeId) (vs:List AV) (mem:List (List (Option (List AV)))):Option (List (List CV)×(List UInt8→AV×List (List (Option (List AV))))):=
 match vs with
 | [.ptr d s 0]=>match box? mem d s with
  |some [.bld _, .lst true n e l]=>match e==e0 with
   |true=>some (l,fun b=>(.val (.str b),setCell mem d s 1 (.val (.list n l))))
   |false=>none
  |_=>none
 |_=>none
noncomputable def QaW {β:Type} (P:Program) (K:Cfg) (call:FuncId→List CV→Option CV) (m:Nat)
  (inl:FuncId→List AV→List (List (Option (List AV)))→(AV→List (List (Option (List AV)))→Option β)→Option β)
  (f:FuncId) (args:List AV) (mem:List (List (Option (List AV)))) (k:AV→List (List (Option (List AV)))→Option β):Option β:=
  match P.funcs[f]? with
  |some fn=>match fn.body with
   | some c=>evN P call inl m mem.length 1000 c (QlD P (K.lift f) fn.results.toList mem.length k)
     {tmps:=args++List.replicate (fn.ntmps-args.length) .any,mem:=mem++ [List.replicate fn.ntmps none],K:=K}
   |none=>none
  |none=>none
def Qbl {β:Type} (K:Cfg) (inl:FuncId→List AV→List (List (Option (List AV)))→(AV→List (List (Option (List AV)))→Option β)→Option β)
  (f:FuncId) (args:List AV) (mem:List (List (Option (List AV)))) (k:AV→List (List (Option (List AV)))→Option β):Option β:=
 match K.hook f with
 |some g=>optO (g args mem) fun p=>optO (bytesOf p.1) fun b=>k (p.2 b).1 (p.2 b).2
 |none=>inl f args mem k
noncomputable def evF {β:Type} (P:Program) (K:Cfg) (call:FuncId→List CV→Option CV) (m dp:Nat):FuncId→List AV→List (List (Option (List AV)))→
  (AV→List (List (Option (List AV)))→Option β)→Option β:=
 Nat.rec (fun _ _ _ _=>none) (fun _ ih=>Qbl K (QaW P K call m ih)) dp
def AV.out:AV→Option CV
 | .val v=>some v
 | .lst _ n _ l=>some (.list n l)
 |_=>none
def AV.outT (t:Option TypeId) (v:AV):Option CV:=
 match t with
 |none=>v.out
 |some e=>match v with
  | .lst false n e' l=>match e'==e with
   |true=>some (.list n l)
   |false=>none
  |_=>none
def outK (t:Option TypeId) (v:AV) (_:List (List (Option (List AV)))):Option CV:=v.outT t
def Qqf (rs:List ResultVar) (e:TypeId) (x:Ex) (σ:St):Option CV:=
 match x with
 | .exit _=>none
 |_=>match rs with
  | [.tmp t]=>match nthD .any σ.tmps t with
   | .lst true n e' l=>chkO (e'==e) (some (.list n l))
   |_=>none
  |_=>none
noncomputable def Qin (P:Program) (K:Cfg) (call:FuncId→List CV→Option CV) (m:Nat)
  (inl:FuncId→List AV→List (List (Option (List AV)))→(AV→List (List (Option (List AV)))→Option CV)→Option CV)
  (f:FuncId) (args:List AV) (e:TypeId):Option CV:=
  match P.funcs[f]? with
  |some fn=>match fn.body with
   | some c=>evN P call inl m 0 1000 c (Qqf fn.results.toList e)
     {tmps:=args++List.replicate (fn.ntmps-args.length) .any,mem:= [List.replicate fn.ntmps none],K:=K}
   |none=>none
  |none=>none
noncomputable def QfI (P:Program) (K:Cfg) (call:FuncId→List CV→Option CV) (m:Nat)
  (inl:FuncId→List AV→List (List (Option (List AV)))→(AV→List (List (Option (List AV)))→Option CV)→Option CV)
  (f:FuncId) (args:List AV):Option CV:=
 match K.own f with
 |none=>QaW P K call m inl f args [] (outK (Qae P f))
 |some e=>match Qae P f with
  |none=>Qin P K call m inl f args e
  |some _=>none
noncomputable def Qcu (P:Program) (K:Cfg) (lib:FuncId→Option (List CV→Option CV)):Nat→FuncId→List CV→Option CV
 |0,_,_=>none
 |n+1,f,args=>
  match lib f with
  |some s=>s args
  |none=>QfI P K (Qcu P K lib n) n (evF P K (Qcu P K lib n) n 9) f (args.map .val)
def QzO (P:Program) (f:FuncId):Code:=match P.funcs[f]? with
 |some fn=>match fn.body with
  |some c=>c
  |none=> .skip
 |none=> .skip
def QwV (P:Program) (f:FuncId):List ResultVar:=match P.funcs[f]? with
 |some fn=>fn.results.toList
 |none=> []
def sub:Code→List Nat→Code
 |c, []=>c
 | .seq a b,i::r=>sub (if i=0 then a else b) r
 | .cond _ a b,i::r=>sub (if i=0 then a else b) r
 | .block _ a,_::r=>sub a r
 | .loop a,_::r=>sub a r
 | .scope a,_::r=>sub a r
 | .rangeFunc _ _ a b,i::r=>sub (if i=0 then a else b) r
 |c,_=>c
def Qc3:Code→List Oper
 | .region _ ops _=>ops.toList
 |_=> []
def opAt (l:List Oper) (i:Nat):Oper:=nthD {dst:=none,op:= .alloc 0,type:=0,pos:= "",after:= #[],guard:=none} l i
def sets {α:Type}:List α→List (Nat×α)→List α
 |l, []=>l
 |l,(i,v)::r=>sets (setN l i v) r
def fr (n:Nat) (l:List (Nat×AV)):List AV:=sets (List.replicate n .any) l
def bx (n:Nat) (l:List (Nat×Option (List AV))):List (Option (List AV)):=sets (List.replicate n none) l
end Go.Am
