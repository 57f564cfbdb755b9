
import Derived.RangeFuncLeaves
import Derived.RangeFuncCalls
import Derived.KernelRfl
import Derived.Laws.AppendOwn
import Derived.OrdersIn
import Derived.Below
import Derived.IntWalk
import Derived.Laws.MakeOwn
set_option linter.unusedSimpArgs false
set_option linter.unusedVariables false
set_option linter.unusedSectionVars false

namespace Go.Proofs.YtfakoboiahbhaaaGreat.Ab
open Go
inductive h9 where
 | shared | full | own (z:Nat) | uniq (z:Nat)
 deriving DecidableEq
inductive I where
 | junk
 | bool (b:Bool)
 | int (k:IntKind) (n:Int)
 | eu
 | ptr (id off:Nat)
 | bT (cells:List I)
 | ax (cells:List I) (len:Nat) (c:h9)
 | ref (id off len:Nat) (cap:Option Nat) (sz:Nat)
 | func (f:FuncId) (first captured:List I)
 | yield (id:Nat)
 | map (id:Nat)
 | agg (cs:List I)
 | tuple (vs:List I)
 | str (s:ByteArray)
 | raw (cells:List I) (len z:Nat)
 | cf (id gid len z:Nat)
 | dg
 deriving Inhabited
structure cq where
 cx:List Bool:=[]
 mode:Nat:=0
structure c' where
 bad:Bool:=false
 ops:List (List cq):=[]
 hW:List (Nat×List Bool):=[]
 iG:List (Nat×List Bool):=[]
inductive au where
 | dead
 | cells (l:List I)
 | loop (st:LoopState) (cB:Option Code) (fn:FuncId) (tmps:List I) (params:List Nat) (assign body:Code) (jg:c')
 | map (es:List (Nat×I×I)) (clock:Nat)
 | iter (m since:Nat) (seen:List Nat) (jV:Nat)
 | grow (l:List I) (gid z:Nat)
structure a8 where
 T:List I
 H:List au
inductive cC where
 | normal | exit (id:Nat) | ret
inductive eZ where
 | fn (f:FuncId)
 | yield (l:Nat)
abbrev cc:=eZ→List I→List au→Nat→Option (I×List au)
def I.view:I→I
 | .ax c n (.own _)=>.ax c n .shared
 | .ax c n (.uniq _)=>.ax c n .shared
 | .raw _ _ _=>.junk
 | .cf id _ len z=>.ref id 0 len none z
 | v=>v
def I.gS:I→I
 | .ax c n .full=>.ax c n .shared
 | v=>v
def I.cm:I→I
 | .ax c n .full=>.ax c n .shared
 | .agg cs=>.agg (cs.map I.gS)
 | .tuple cs=>.tuple (cs.map I.gS)
 | v=>v
def cl:Nat→I→Bool
 | 0,_=>false
 | d+1,v=>match v with
   | .ax cells _ _=>cells.all (cl d)
   | .bT cells=>cells.all (cl d)
   | .agg cs=>cs.all (cl d)
   | .tuple cs=>cs.all (cl d)
   | .func _ a b=>a.all (cl d) && b.all (cl d)
   | .bool _ | .int _ _ | .str _ | .eu=>true
   | _=>false
def I.plain:I→Bool
 | .ax _ _ (.own _)=>false
 | .ax _ _ (.uniq _)=>false
 | .raw _ _ _=>false
 | .cf _ _ _ _=>false
 | _=>true
def I.cP:I→Bool
 | .ax _ _ (.uniq _)=>false
 | _=>true
def I.settle:I→I
 | .ax c n (.uniq z)=>.ax c n (.own z)
 | v=>v
def I.cells:I→Option (List I)
 | .agg cs=>some cs
 | .junk=>none
 | .tuple _=>none
 | .raw _ _ _=>none
 | v=>some [v]
def hg:Value→I
 | .bool b=>.bool b
 | .int k n=>.int k n
 | .pointer none=>.eu
 | .string s=>.str s
 | .slice none 0 0=>.ax [] 0 .full
 | _=>.junk
noncomputable section
def c1 (T:List I) (t:Nat):I :=
 @List.rec I (fun _=>Nat→I) (fun _=>.junk) (fun h _ a9 n=>@Nat.rec (fun _=>I) h (fun m _=>a9 m) n) T t
def gK (T:List I) (t:Nat) (v:I):List I :=
 @List.rec I (fun _=>Nat→List I) (fun _=>[]) (fun h xm a9 n=>@Nat.rec (fun _=>List I) (v::xm) (fun m _=>h::a9 m) n) T t
theorem fR (T:List I):∀ t,c1 T t=T.getD t .junk:=by
 induction T with
 | nil=>intro t;rfl
 | cons h xm a9=>intro t;cases t with
   | zero=>rfl
   | succ n=>exact a9 n
theorem gL (T:List I) (v:I):∀ t,gK T t v=T.set t v:=by
 induction T with
 | nil=>intro t;rfl
 | cons h xm a9=>intro t;cases t with
   | zero=>rfl
   | succ n=>exact congrArg (h::·) (a9 n)
def aA (T:List I):Operand→I
 | .tmp t=>c1 T t
 | .const v=>hg v
 | .func f=>.func f [] []
 | .global _=>.junk
def fL (T:List I) (t:Nat):I→List I
 | .ax c n (.uniq z)=>gK T t (.ax c n (.own z))
 | _=>T
def rd:List I→List Bool→List Operand→List I×List I
 | T,_,[]=>([],T)
 | T,ts,.tmp t::rest =>
   match ts.headD false with
   | true=>let r:=rd (gK T t .junk) ts.tail rest;(c1 T t::r.1,r.2)
   | false=>let r:=rd (fL T t (c1 T t)) ts.tail rest;((c1 T t).view::r.1,r.2)
 | T,ts,x::rest=>let r:=rd T ts.tail rest;(aA T x::r.1,r.2)
def eL:List Bool→List I→List I
 | b::bs,v::vs=>(match b with | true=>v | false=>.junk)::eL bs vs
 | [],vs=>vs
 | _,[]=>[]
def ld (id:Nat):List (Nat×List Bool)→Option (List Bool)
 | []=>none
 | (i,k)::r=>match Nat.beq i id with | true=>some k | false=>ld id r
def eS (lY:List (Nat×List Bool)) (id:Nat) (s:a8):a8 :=
 match ld id lY with
 | some k=>⟨eL k s.T,s.H⟩
 | none=>s
def opsOf (o:Oper):List Operand :=
 match o.op with
 | .call { callee:=.value f,args,.. }=>f::args.toList
 | .call { args,.. }=>args.toList
 | op=>op.operands.toList
def tmpsOf (xs:List Operand):List Nat:=xs.filterMap fun x=>match x with | .tmp t=>some t | _=>none
def cX:List Bool→List Operand→List Nat
 | _,[]=>[]
 | ts,.tmp t::rest=>match ts.headD false with
   | true=>t::cX ts.tail rest
   | false=>cX ts.tail rest
 | ts,_::rest=>cX ts.tail rest
def oA (ops:Array Oper) (o:Oper):List Nat:=match o.guard with
 | some (j,_)=>((ops[j]?).bind (·.dst)).toList
 | none=>[]
def eW (ops:Array Oper) (o:Oper):List Nat:=oA ops o++tmpsOf (opsOf o)
def jj (xs ys:List Nat):Bool:=xs.all fun x=>!(ys.contains x)
def da (o:Oper) (mode:Nat):Nat:=match o.op with
 | .load _ _=>if mode=0 then 1 else if mode=2 then 2 else if mode=3 then 0 else if mode=5 then 2 else 5
 | .box _ _=>if mode=0 then 6 else 0
 | .alloc _=>6
 | .makeSlice _ _ _=>if mode=0 then 2 else 0
 | .store _ _ _ | .makeMap _ _ | .mapUpdate _ _ _ _ | .lookup _ _ _ _ | .range _ _ | .entry _=>2
 | .move _ | .assign _=>if mode=0 then 0 else 2
 | .call c=>match c.callee with
   | .builtin b=>match b with
     | .append=>if mode=0 then 1 else 2
     | .len | .cap | .min | .max=>1
     | _=>2
   | .value _=>if mode=0 then 3 else if mode=3 then 0 else if mode=4 then 3 else if mode=6 then 3 else 2
   | .invoke _ _=>2
 | _=>0
def calm (o:Oper) (mode:Nat):Bool:=match o.op with
 | .move _ | .assign _=>mode == 0
 | _=>true
def b0 (a b:Nat):Bool:=a == 0 || b == 0 || ((a == 1 || a == 3) && (b == 1 || b == 3)) || (a == 1 && b == 5) || (a == 5 && b == 1) || (a == 1 && b == 6)
def ks (bC:Oper) (c8:Nat) (bO:Oper):Bool:=match bC.op,bO.op with
 | .load _ _,.mapUpdate _ _ _ _=>c8 == 0
 | _,_=>false
def indep (ops:Array Oper) (bC:Oper) (aB:cq) (bO:Oper) (aF:cq):Bool :=
 jj bC.dst.toList (eW ops bO) && jj bO.dst.toList (eW ops bC) && jj bC.dst.toList bO.dst.toList &&
 jj (cX aB.cx (opsOf bC)) (eW ops bO) && jj (cX aF.cx (opsOf bO)) (eW ops bC) &&
 calm bC aB.mode && calm bO aF.mode && (b0 (da bC aB.mode) (da bO aF.mode) || ks bC aB.mode bO)
def pE (ms:List Nat) (o:Oper):Nat:=o.after.toList.foldl (fun m e=>if Region.binds .any e then m ||| (ms.getD e.on 0 ||| 1 <<< e.on) else m) 0
def ku:List Oper→List Nat→List Nat
 | [],ms=>ms
 | o::r,ms=>ku r (ms++[pE ms o])
def zf (ops:Array Oper) (as:List cq) (ms:List Nat):Bool :=
 (List.range ops.size).all fun j=>match ops[j]? with
  | none=>true
  | some fa=>(ms.getD j 0 == pE ms fa) && fa.after.toList.all (fun e=>!Region.binds .any e || Nat.blt e.on j) &&
    (List.range j).all fun i=>match ops[i]? with
     | none=>true
     | some gE=>(ms.getD j 0).testBit i || indep ops gE (as.getD i {}) fa (as.getD j {})
def mI (ops:Array Oper) (as:List cq):Bool:=zf ops as (ku ops.toList [])
def codeOk (A:c'):Code→Bool
 | .region id ops draw=>!draw || mI ops (A.ops.getD id [])
 | .seq a b=>codeOk A a && codeOk A b
 | .cond _ a b=>codeOk A a && codeOk A b
 | .block _ c=>codeOk A c
 | .loop c=>codeOk A c
 | .scope c=>codeOk A c
 | .rangeFunc _ _ a b=>codeOk A a && codeOk A b
 | _=>true
section
variable (P:Program)
def bQ (t:TypeId):Option Nat:=(P.info? t).map (·.size)
def dz (t:TypeId):Bool:=match P.underlying t with | some (.struct _) | some (.array _ _)=>true | _=>false
def zeroCells (t:TypeId):Option (List I):=((P.info? t).bind (·.zero)).bind fun v=>match v.cells.toList.all (·.oneCell') with | true=>some (v.cells.toList.map hg) | false=>none
def je (op:BinOp) (k:IntKind) (a b:Int):Option I :=
 match op with
 | .add=>some (.int k (k.wrap (a+b)))
 | .sub=>some (.int k (k.wrap (a-b)))
 | .mul=>some (.int k (k.wrap (a*b)))
 | .quo=>if b=0 then none else some (.int k (k.wrap (a.tdiv b)))
 | .rem=>if b=0 then none else some (.int k (a.tmod b))
 | .eql=>some (.bool (a == b))
 | .neq=>some (.bool (a != b))
 | .lss=>some (.bool (decide (a<b)))
 | .leq=>some (.bool (decide (a≤b)))
 | .gtr=>some (.bool (decide (a > b)))
 | .geq=>some (.bool (decide (a≥b)))
 | .and=>some (.int k (k.wrap (BitVec.ofInt k.bits a &&& BitVec.ofInt k.bits b).toNat))
 | .or=>some (.int k (k.wrap (BitVec.ofInt k.bits a ||| BitVec.ofInt k.bits b).toNat))
 | .xor=>some (.int k (k.wrap (BitVec.ofInt k.bits a ^^^ BitVec.ofInt k.bits b).toNat))
 | .andNot=>some (.int k (k.wrap (BitVec.ofInt k.bits a &&& ~~~ (BitVec.ofInt k.bits b)).toNat))
 | _=>none
def hf (op:BinOp) (k:IntKind) (a b:Int):Option I :=
 if b<0 then none else
 match op with
 | .shl=>some (.int k (k.wrap (a*2 ^ (min b.toNat k.bits))))
 | .shr=>some (.int k (a.fdiv (2 ^ (min b.toNat k.bits))))
 | _=>none
def dC:List I→List I→Option Bool
 | [],[]=>some true
 | .int k a::r,.int k' b::r'=>if k=k' then (dC r r').map fun e=>(a == b) && e else none
 | _,_=>none
def gB:List Field→Nat→Bool
 | [],_=>true
 | f :: fs, n => (f.offset == n) && (f.name != "_") && (match P.underlying f.type, bQ P f.type with | some (.int _), some 1 => true | _, _ => false) && gB fs (n + 1)
def fe (op:BinOp) (t:TypeId) (x y:I):Option I :=
 match x,y with
 | .int k a,.int k' b =>
   match op with
   | .shl=>hf .shl k a b
   | .shr=>hf .shr k a b
   | op=>if k=k' then je op k a b else none
 | .bool a,.bool b =>
   match P.underlying t,op with
   | some .bool,.eql=>some (.bool (a == b))
   | some .bool,.neq=>some (.bool (!(a == b)))
   | _,_=>none
 | .agg xs,.agg ys =>
   match P.underlying t with
   | some (.array len e) =>
     match P.underlying e,bQ P e with
     | some (.int _),some 1 =>
       if xs.length=len∧ys.length=len∧P.eqGuardType P.depth t=false then
        match op with
        | .eql=>(dC xs ys).map fun e=>.bool e
        | .neq=>(dC xs ys).map fun e=>.bool !e
        | _=>none
       else none
     | _,_=>none
   | some (.struct fs) =>
     if gB P fs.toList 0=true∧P.stoodInHeld t=false∧xs.length=fs.size∧ys.length=fs.size∧P.eqGuardType P.depth t=false then
      match op with
      | .eql=>(dC xs ys).map fun e=>.bool e
      | .neq=>(dC xs ys).map fun e=>.bool !e
      | _=>none
     else none
   | _=>none
 | _,_=>none
def j2 (op:UnOp):I→Option I
 | .bool b=>match op with | .not=>some (.bool !b) | _=>none
 | .int k n=>match op with | .neg=>some (.int k (k.wrap (-n))) | _=>none
 | _=>none
def setCells:Nat→List I→List I→List I
 | _,[],cs=>cs
 | off,v::vs,cs=>setCells (off+1) vs (cs.set off v)
def gl (place:Nat→Option (Nat×Nat)):List I→List (Nat×I)→Option (List I)
 | cs,[]=>some cs
 | cs,(i,v)::rest =>
   match place i with
   | some (off,size)=>match v.cells with
     | some vc=>if vc.length=size∧off+size≤cs.length then gl place (setCells off vc cs) rest else none
     | none=>none
   | none=>none
def eU:Nat→List I→List I
 | 0,_=>[]
 | n+1,z=>z++eU n z
def kY (t:TypeId) (parts:List (Nat×I)):Option I :=
 match zeroCells P t,P.underlying t with
 | some z,some (.struct fs)=>match fs.toList.all (fun f=>(bQ P f.type).isSome) with
   | true=>(gl (fun i=>(fs[i]?).bind fun f=>(bQ P f.type).map fun s=>(f.offset,s)) z parts).map .agg
   | false=>none
 | some z,some (.array _ e)=>(bQ P e).bind fun s=>(gl (fun i=>some (i*s,s)) z parts).map .agg
 | _,_=>none
def ic (t:TypeId) (len:Nat) (parts:List (Nat×I)):Option (List I×Nat) :=
 match P.underlying t with
 | some (.slice e) =>
   match bQ P e,zeroCells P e with
   | some s,some z=>if 0<s∧z.length=s∧len*s≤16777216 then (gl (fun i=>some (i*s,s)) (eU len z) parts).map fun cs=>(cs,s) else none
   | _,_=>none
 | _=>none
def gQ (i:Int) (len:Nat):Option Nat:=if 0≤i∧i<len then some i.toNat else none
def hK (t:TypeId) (x i:I):Option I :=
 match P.underlying t,x,i with
 | some (.slice e),.ax cells len _,.int _ n=>(bQ P e).bind fun s=>(gQ n len).map fun j=>.bT (cells.drop (j*s))
 | some (.slice e),.ref id off len _ _,.int _ n=>(bQ P e).bind fun s=>(gQ n len).map fun j=>.ptr id (off+j*s)
 | some (.array len e),.ptr id off,.int _ n=>(bQ P e).bind fun s=>(gQ n len).map fun j=>.ptr id (off+j*s)
 | some (.array len e),.bT cells,.int _ n=>(bQ P e).bind fun s=>(gQ n len).map fun j=>.bT (cells.drop (j*s))
 | _,_,_=>none
def jf (t:TypeId) (x:I) (f:Nat):Option I :=
 match P.underlying t,x with
 | some (.struct fs),.ptr id off=>(fs[f]?).bind fun g=>(bQ P g.type).bind fun s=>if s=0 then none else some (.ptr id (off+g.offset))
 | some (.struct fs),.bT cells=>(fs[f]?).bind fun g=>(bQ P g.type).bind fun s=>if s=0 then none else some (.bT (cells.drop g.offset))
 | _,_=>none
def ie (t:TypeId) (cs:List I) (off:Nat):Option I :=
 match dz P t with
 | true=>(bQ P t).bind fun s=>if off+s≤cs.length then some (.agg ((cs.drop off).take s)) else none
 | false=>match P.underlying t with
   | some _=>cs[off]?
   | none=>none
def mA (t:TypeId) (x:I) (f:Nat):Option I :=
 match P.underlying t,x with
 | some (.struct fs),.agg cs=>(fs[f]?).bind fun g=>ie P g.type cs g.offset
 | _,_=>none
def n7 (t:TypeId) (x i:I):Option I :=
 match P.underlying t,x,i with
 | some (.array len e),.agg cs,.int _ n=>(bQ P e).bind fun s=>(gQ n len).bind fun j=>ie P e cs (j*s)
 | some .string,.str b,.int _ n=>if 0≤n then (b[n.toNat]?).map fun x=>.int .u8 x.toNat else none
 | _,_,_=>none
def cE (x:Option I) (Be Dd:Nat):Option Nat :=
 match x with
 | none=>some Be
 | some (.int _ n)=>if 0≤n∧n≤Dd then some n.toNat else none
 | _=>none
def eO (t:TypeId) (x:I) (lo hi gC:Option I):Option I :=
 match P.underlying t,x with
 | some (.slice e),.ax cells len c =>
   (bQ P e).bind fun s =>
   match gC,hi with
   | none,_ =>
     (cE hi len len).bind fun h=>(cE lo 0 h).bind fun l =>
     some (.ax ((cells.drop (l*s)).take ((h-l)*s)) (h-l) (if c=.full∧h=len then .full else .shared))
   | some _,some _ =>
     (cE gC len len).bind fun m=>(cE hi m m).bind fun h=>(cE lo 0 h).bind fun l =>
     some (.ax ((cells.drop (l*s)).take ((h-l)*s)) (h-l) (if h=m then .full else .shared))
   | some _,none=>none
 | some (.slice e),.ref id off len cap sz =>
   (bQ P e).bind fun s=>if s≠sz then none else
   match gC,hi with
   | none,_ =>
     (cE hi len len).bind fun h=>(cE lo 0 h).bind fun l =>
     if l<len then some (.ref id (off+l*s) (h-l) (cap.map (·-l)) sz) else some (.ax [] 0 .shared)
   | some _,some _ =>
     (cE gC len len).bind fun m=>(cE hi m m).bind fun h=>(cE lo 0 h).bind fun l =>
     if m=l then (if l=0 then some (.ref id off (h-l) (some (m-l)) sz) else none) else some (.ref id (off+l*s) (h-l) (some (m-l)) sz)
   | some _,none=>none
 | some (.array n e),.ptr id off =>
   (bQ P e).bind fun s =>
   match gC with
   | none=>(cE hi n n).bind fun h=>(cE lo 0 h).bind fun l =>
     if n=l then none else some (.ref id (off+l*s) (h-l) (some (n-l)) s)
   | some _=>none
 | _,_=>none
def rowOf (H:List au):I→Option (List I)
 | .ax cells _ _=>some cells
 | .ref id off len _ sz=>match H[id]? with
   | some (.cells l)=>if off+len*sz≤l.length then some (((l.drop off).take (len*sz)).map I.view) else none
   | _=>none
 | _=>none
def lenOf:I→Option Nat
 | .ax _ len _=>some len
 | .ref _ _ len _ _=>some len
 | _=>none
def fo (n bytes:Nat):Bool:=Nat.ble (n*bytes) 140737488355328 && Nat.ble 1 bytes
def appended (H:List au) (x:I):Option (Nat×List I) :=
 match lenOf x,rowOf H x with
 | some m,some row=>some (m,row)
 | _,_=>none
def e0 (H:List au) (t de:TypeId) (s x:I):Option I :=
 match P.underlying t with
 | some (.slice e) =>
   match bQ P e,(P.info? e).map (·.bytes),(zeroCells P e) with
   | some sz,some bytes,some z =>
     match Nat.beq t de with
     | true =>
       match appended H x with
       | some (m,new) =>
         if new.length=m*sz∧0<sz∧z.length=sz∧fo m bytes then
          match s with
          | .ax cells len c =>
            match c with
            | .shared=>if m=0 then some s else none
            | .full=>if m=0 then (if len=0 then some (.ax [] 0 (.uniq sz)) else some s)
              else if fo (len+m) bytes∧cells.length=len*sz then some (.ax (cells++new) (len+m) (.uniq sz)) else none
            | .own z=>if z=sz∧fo (len+m) bytes then some (.ax (cells++new) (len+m) (.own z)) else none
            | .uniq z=>if z=sz∧fo (len+m) bytes then some (.ax (cells++new) (len+m) (.uniq z)) else none
          | .ref id off len (some cap) nR =>
            if cap=len∧nR=sz∧0<m then (rowOf H (.ref id off len (some cap) nR)).bind fun fH=>if fo (len+m) bytes then some (.ax (fH++new) (len+m) (.uniq sz)) else none
            else none
          | _=>none
         else none
       | none=>none
     | false =>
       match P.underlying de,x,s with
       | some (.int _),.int .i64 n,.ax [] 0 .full =>
         if 0<n∧fo n.toNat bytes∧0<sz∧z.length=sz then some (.ax (eU n.toNat z) n.toNat (.uniq sz)) else none
       | _,_,_=>none
   | _,_,_=>none
 | _=>none
def ek (t:TypeId) (cs:List I) (off:Nat):Option I :=
 match dz P t with
 | true=>(bQ P t).bind fun s=>if off+s≤cs.length then some (.agg (((cs.drop off).take s).map I.view)) else none
 | false=>match P.underlying t with
   | some _=>(cs[off]?).map I.view
   | none=>none
def dI (H:List au) (t:TypeId) (a:I):Option I :=
 match a with
 | .ptr id off=>match H[id]? with
   | some (.cells l)=>ek P t l off
   | some (.grow l _ _)=>ek P t l off
   | _=>none
 | .bT cells=>ek P t cells 0
 | _=>none
def g4 (lo:Nat) (H:List au) (id:Nat) (f:List I→Option (List I)):Option (List au) :=
 if lo≤id then match H[id]? with
  | some (.cells l)=>(f l).map fun l'=>H.set id (.cells l')
  | _=>none
 else none
def g5 (lo:Nat) (H:List au) (id:Nat) (f:List I→Option (List I)):Option (List au) :=
 if lo≤id then match H[id]? with
  | some (.cells l)=>(f l).map fun l'=>H.set id (.cells l')
  | some (.grow l g z)=>(f l).map fun l'=>H.set id (.grow l' g z)
  | _=>none
 else none
def ig (lo:Nat) (H:List au) (t:TypeId) (a v:I):Option (List au) :=
 match a,bQ P t with
 | .ptr id off,some s=>match v.cells with
   | some vc=>g5 lo H id fun l=>if vc.length=s∧off+s≤l.length then some (setCells off (vc.map I.settle) l) else none
   | none=>none
 | _,_=>none
def iX (t:TypeId) (n:Nat):Option (List I×Nat) :=
 match P.underlying t with
 | some (.slice e)=>match bQ P e,zeroCells P e,(P.info? e).map (·.bytes) with
   | some s,some z,some bytes=>if z.length=s∧0<s∧fo n bytes then some (eU n z,s) else none
   | _,_,_=>none
 | _=>none
def kx:List I→Int→Option Int
 | [],a=>some a
 | .int _ b::r,a=>kx r (if b<a then b else a)
 | _::_,_=>none
def kv:List I→Int→Option Int
 | [],a=>some a
 | .int _ b::r,a=>kv r (if b > a then b else a)
 | _::_,_=>none
def nq:List I→Option I
 | .int k a::r=>(kx r a).map (.int k)
 | _=>none
def np:List I→Option I
 | .int k a::r=>(kv r a).map (.int k)
 | _=>none
def gU (cap:Option Nat) (n:Nat):h9:=match cap with | some c=>if c=n then .full else .shared | none=>.shared
def dY (f:I→Option I):List I→Option (List I)
 | []=>some []
 | x::xs=>match f x with
   | some y=>(dY f xs).map (y::·)
   | none=>none
def mapM (f:I→Option I):List (Nat×I×I)→Option (List (Nat×I×I))
 | []=>some []
 | (i,k,v)::xs=>match f k,f v with
   | some k',some bu=>(mapM f xs).map ((i,k',bu)::·)
   | _,_=>none
def bK (H:List au) (lo id0 n:Nat):Nat→I→Option I
 | 0,_=>none
 | d+1,A5 =>
   match A5 with
   | .ax cells len c=>(dY (bK H lo id0 n d) cells).map fun cs=>.ax cs len c
   | .bT cells=>(dY (bK H lo id0 n d) cells).map .bT
   | .agg cs=>(dY (bK H lo id0 n d) cs).map .agg
   | .tuple cs=>(dY (bK H lo id0 n d) cs).map .tuple
   | .func f a b=>match dY (bK H lo id0 n d) a,dY (bK H lo id0 n d) b with
     | some a,some b=>some (.func f a b)
     | _,_=>none
   | .ptr id off=>if id<lo then some (.ptr id off) else if id=id0 then some (.ptr n off) else
     match H[id]? with
     | some (.cells l)=>(dY (bK H lo id0 n d) ((l.drop off).map I.view)).map .bT
     | _=>none
   | .ref id off len cap sz=>if id<lo then some (.ref id off len cap sz) else if id=id0 then some (.ref n off len cap sz) else
     match rowOf H (.ref id off len cap sz) with
     | some row=>(dY (bK H lo id0 n d) row).map fun cs=>.ax cs len (gU cap len)
     | none=>none
   | .yield id=>if id<lo then some (.yield id) else none
   | .map id=>if id<lo then some (.map id) else if id=id0 then some (.map n) else none
   | .raw _ _ _=>none
   | .cf _ _ _ _=>none
   | v=>some v
def fq (parts:List (Nat×Operand)) (vs:List I):List (Nat×I):=(parts.map (·.1)).zip vs
def dd (vs:List I) (i:Nat):Option Operand→Option I
 | none=>none
 | some _=>vs[i]?
def pJ:List I→Option I
 | [.bool c,a,b]=>some (match c with | true=>a | false=>b)
 | _=>none
def nv:List I→Option I
 | [.ptr id off]=>some (.ptr id off)
 | [.bT cells]=>some (.bT cells)
 | _=>none
def fW (f:I→I→Option I):List I→Option I
 | [x,y]=>f x y
 | _=>none
def eT (f:I→Option I):List I→Option I
 | [x]=>f x
 | _=>none
def kZ (src dst:TypeId):I→Option I
 | .int _ n=>match P.underlying src,P.underlying dst with | some _,some (.int k)=>some (.int k (k.wrap n)) | _,_=>none
 | _=>none
def l8 (fn:Fn) (n m:Nat) (vs:List I):Option I :=
 match fn with
 | .func f=>if vs.length=n+m then some (.func f (vs.take n) (vs.drop n)) else none
 | _=>none
def ec (t:TypeId) (l h m:Option Operand):List I→Option I
 | x::vs =>
   let i1:=match l with | some _=>1 | none=>0
   let i2:=match h with | some _=>i1+1 | none=>i1
   match x,l,h,m with
   | .ax cells len (.uniq z),none,h,none =>
     match P.underlying t with
     | some (.slice e)=>(bQ P e).bind fun _=>(cE (dd vs 0 h) len len).map fun n=>.ax (cells.take (n*z)) n (.uniq z)
     | _=>none
   | .ax cells len (.own z),some lo,none,none =>
     match P.underlying t with
     | some (.slice e)=>(bQ P e).bind fun s=>if s=z then (cE (dd vs 0 (some lo)) 0 len).map fun l=>.ax (cells.drop (l*z)) (len-l) (.own z) else none
     | _=>none
   | .cf id gid len z,none,h,none =>
     match P.underlying t with
     | some (.slice e)=>(bQ P e).bind fun _=>(cE (dd vs 0 h) len len).map fun n=>.cf id gid n z
     | _=>none
   | x,l,h,m=>eO P t x.view (dd vs 0 l) (dd vs i1 h) (dd vs i2 m)
 | []=>none
def mz (i:Nat):I→Option I
 | .tuple ws=>ws[i]?
 | _=>none
def iE:Operand→Bool
 | .const (.slice none 0 0)=>true
 | _=>false
def my (op:BinOp) (t:TypeId) (x:I):Option I :=
 match P.underlying t with
 | some (.slice _) =>
   match x with
   | .ax _ (_+1) _ | .ref ..=>match op with
     | .eql=>some (.bool false)
     | .neq=>some (.bool true)
     | _=>none
   | .ax [] 0 _=>match op with
     | .eql | .neq=>some .dg
     | _=>none
   | _=>none
 | _=>none
def cv (o:Oper) (vs:List I):Option I :=
 match o.op with
 | .pick _ _ _=>pJ vs
 | .build t parts=>kY P t (fq parts.toList vs)
 | .buildSlice t len parts=>(ic P t len (fq parts.toList vs)).map fun r=>.ax r.1 len (.uniq r.2)
 | .nilCheck _=>nv vs
 | .binOp op t _ y _=>match iE y with
   | true=>match vs with
     | [x,_]=>my P op t x
     | _=>none
   | false=>fW (fe P op t) vs
 | .unOp op _ _=>eT (j2 op) vs
 | .convert src dst _=>eT (kZ P src dst) vs
 | .makeFunc fn first captured=>l8 fn first.size captured.size vs
 | .slice t _ l h m=>ec P t l h m vs
 | .fieldAddr t _ f=>eT (fun x=>jf P t x f) vs
 | .field t _ f=>(eT (fun x=>mA P t x f) vs).map I.view
 | .indexAddr t _ _=>fW (hK P t) vs
 | .index t _ _=>(fW (n7 P t) vs).map I.view
 | .extract _ i=>(eT (mz i) vs).map I.view
 | _=>none
def dE (o:Oper):Bool :=
 match o.op with
 | .move _ | .assign _ | .store _ _ _ | .box _ _ | .call _ | .slice _ _ _ _ _=>true
 | _=>false
def x0 (lo:Nat):I→Option Nat
 | .ptr id _=>if lo≤id then some id else none
 | .ref id _ _ _ _=>if lo≤id then some id else none
 | .map id=>if lo≤id then some id else none
 | _=>none
def Bl (lo:Nat):I→Option Nat
 | .tuple vs=>vs.findSome? (x0 lo)
 | v=>x0 lo v
def jU (H:List au):I→I
 | .ref id off len cap sz=>match rowOf H (.ref id off len cap sz) with
   | some row=>.ax row len .shared
   | none=>.ref id off len cap sz
 | v=>v
def hz (H:List au):I→I
 | .ptr id off=>match H[id]? with
   | some (.cells l)=>.bT (((l.drop off).map I.view).map (jU H))
   | _=>.ptr id off
 | .ref id off len cap sz=>jU H (.ref id off len cap sz)
 | v=>v
def h6 (H:List au):I→I
 | .ptr id off=>hz H (.ptr id off)
 | .ref id off len cap sz=>hz H (.ref id off len cap sz)
 | .func f a b=>.func f (a.map (hz H)) (b.map (hz H))
 | v=>v
def gJ:I→Bool
 | .bool _ | .int _ _ | .str _=>true
 | _=>false
def f':I→Bool
 | .bool _ | .int _ _ | .str _=>true
 | .tuple vs=>vs.all gJ
 | .ax cells _ (.uniq _)=>cells.all gJ
 | _=>false
def eP (C:cc) (lo mode:Nat) (b1:eZ) (args:List I) (H:List au):Option (I×List au) :=
 match mode with
 | 0=>(C b1 args H H.length).bind fun r=>(bK r.2 H.length r.2.length 0 8 r.1).map fun v=>(v,H)
 | 1=>C b1 args H lo
 | 3=>match b1,args.all (cl 8) with
   | .fn _,true=>(C b1 (args.map I.cm) [] 0).bind fun r=>(bK r.2 0 r.2.length 0 8 r.1).map fun v=>(v.cm,H)
   | _,_=>none
 | 6=>match b1,(args.map (h6 H)).all (cl 8) with
   | .fn _,true=>(C b1 ((args.map (h6 H)).map I.cm) [] 0).bind fun r=>(bK r.2 0 r.2.length 0 8 r.1).bind fun v=>match f' v with
     | true=>some (v.cm,H)
     | false=>none
   | _,_=>none
 | 7=>match b1,args with
   | .fn _,[.ptr id 0]=>if lo≤id then match H[id]? with
     | some (.cells l)=>match cl 8 (.bT (l.map I.view)) with
       | true=>(C b1 [(I.bT (l.map I.view)).cm] [] 0).bind fun r=>(bK r.2 0 r.2.length 0 8 r.1).map fun v=>(v.cm,H.set id .dead)
       | false=>none
     | _=>none else none
   | _,_=>none
 | 4=>(C b1 (args.map I.cm) H H.length).bind fun r=>(bK r.2 H.length r.2.length 0 8 r.1).map fun v=>(v.cm,H)
 | _=>(C b1 args H H.length).bind fun r =>
   match Bl H.length r.1 with
   | none=>(bK r.2 H.length r.2.length 0 8 r.1).map fun v=>(v,H)
   | some id0 =>
     match r.2[id0]? with
     | some (.cells l)=>if H.length≤id0 then
       match dY (bK r.2 H.length id0 H.length 8) l,bK r.2 H.length id0 H.length 8 r.1 with
       | some l',some v=>some (v,H++[.cells l'])
       | _,_=>none
       else none
     | some (.map es clock)=>if H.length≤id0 then
       match mapM (bK r.2 H.length id0 H.length 8) es,bK r.2 H.length id0 H.length 8 r.1 with
       | some es',some v=>some (v,H++[.map es' clock])
       | _,_=>none
       else none
     | _=>none
def j5 (C:cc) (lo mode:Nat) (f:I) (args:List I) (H:List au):Option (I×List au) :=
 match f with
 | .func k first cap=>eP C lo mode (.fn k) (first++args++cap) H
 | .yield l=>eP C lo mode (.yield l) args H
 | _=>none
abbrev Out:=Option (I×List au)
def eK (lo mode:Nat) (t:TypeId) (x:Operand) (H:List au):List I→Out
 | [v] =>
   match mode with
   | 0=>match iE x,P.underlying t with
     | true,some (.slice e)=>(bQ P e).map fun z=>(.ax [] 0 (.uniq z),H)
     | _,_=>some (v,H)
   | 1=>match v with
     | .ax cells len (.uniq z)=>if len=0 then some (v,H) else some (.ref H.length 0 len none z,H++[.cells cells])
     | .ax [] 0 .full=>some (v,H)
     | .ref ..=>some (v,H)
     | _=>none
   | 4=>match v with
     | .cf id gid n z=>if lo≤id then match H[id]? with
       | some (.grow l g cQ)=>if g=gid∧cQ=z∧n*z≤l.length∧(l.take (n*z)).all I.plain=true then some (.ax (l.take (n*z)) n (.uniq z),H.set id .dead) else none
       | _=>none else none
     | _=>some (v,H)
   | _=>match v with
     | .ref id _ _ cap _=>if lo≤id then (rowOf H v).bind fun row=>(lenOf v).map fun n =>
       (.ax row n (gU cap n),H.set id .dead) else none
     | .cf id gid n z=>if lo≤id then match H[id]? with
       | some (.grow l g cQ)=>if l.length=n*z then some (.ax (l.map I.view) n .shared,H.set id .dead) else none
       | _=>none else none
     | _=>some (v.view,H)
 | _=>none
def dF (lo mode:Nat) (t:TypeId) (H:List au):List I→Out
 | [a] =>
   match mode with
   | 0=>(dI P H t a).map (·,H)
   | 3=>match a with
     | .bT cells=>(ek P t cells 0).map (·,H)
     | _=>none
   | 5=>match P.underlying t,a with
     | some (.slice _),.ptr id off=>match H[id]? with
       | some (.cells l)=>match l[off]? with
         | some (.cf i g n z)=>some (.cf i g n z,H)
         | some (.ax [] 0 .full)=>some (.ax [] 0 .full,H)
         | _=>none
       | _=>none
     | _,_=>none
   | _=>match P.underlying t,a with
     | some (.slice _),.ptr id off=>if lo≤id then match H[id]? with
       | some (.cells l)=>match l[off]? with
         | some (.ax c n (.own z))=>some (.ax c n (.own z),H.set id (.cells (l.set off (.ax c n .shared))))
         | some (.raw c n z)=>if mode=2 then (if n=0 then none else some (.ref H.length 0 n none z,H.set id (.cells (l.set off (.ref H.length 0 n none z)))++[.cells c]))
           else some (.ax c n (.uniq z),H.set id (.cells (l.set off .junk)))
         | some v=>some (v.view,H)
         | _=>none
       | some (.grow l g cQ)=>match l[off]? with
         | some (.ax c n (.own z))=>some (.ax c n (.own z),H.set id (.grow (l.set off (.ax c n .shared)) g cQ))
         | some (.ax c n .full)=>some (.ax c n .full,H)
         | _=>none
       | _=>none else none
     | _,_=>none
 | _=>none
def k0 (lo:Nat) (H:List au) (t:TypeId) (a v:I):Option (List au) :=
 match a,v,bQ P t with
 | .ptr id off,.ax c n (.uniq z),some 1=>if c.all gJ=true∧n≠0 then g4 lo H id fun l=>if off<l.length then some (l.set off (.raw c n z)) else none else none
 | _,_,_=>none
def hs (lo mode:Nat) (t:TypeId) (H:List au):List I→Out
 | [a,v]=>match mode with
   | 0=>(ig P lo H t a v).map fun H'=>(.junk,H')
   | _=>(k0 P lo H t a v).map fun H'=>(.junk,H')
 | _=>none
def gF (mode:Nat) (H:List au):List I→Out
 | [v]=>match mode with
   | 0=>v.cells.map fun vc=>(.ptr H.length 0,H++[.cells (vc.map I.settle)])
   | _=>match v.cells with
     | some vc=>match vc.all I.plain with
       | true=>some (.bT vc,H)
       | false=>none
     | none=>none
 | _=>none
def kA (mode:Nat) (t:TypeId) (H:List au):Out :=
 match mode with
 | 0=>(zeroCells P t).map fun z=>(.ptr H.length 0,H++[.cells z])
 | _=>match zeroCells P t,P.underlying t with
   | some [.ax [] 0 .full],some (.slice e)=>(bQ P e).map fun s=>(.ptr H.length 0,H++[.cells [.ax [] 0 (.own s)]])
   | _,_=>none
def jI (mode:Nat) (t:TypeId) (H:List au):List I→Out
 | [.int _ n,.int _ c] =>
   if 0≤n∧n≤c then
    match mode with
    | 0=>(iX P t c.toNat).map fun r=>(.ref H.length 0 n.toNat (some c.toNat) r.2,H++[.cells r.1])
    | _=>if n=c∧0≤n then (iX P t c.toNat).map fun r=>(.ax r.1 n.toNat (.uniq r.2),H) else none
   else none
 | _=>none
def kp (t:TypeId):Bool:=match P.underlying t with
 | some (.int _)=>true
 | some (.struct fs)=>gB P fs.toList 0 && !P.stoodInHeld t
 | _=>false
def gv:I→I→Option Bool
 | .int k a,.int k' b=>if k=k' then some (a == b) else none
 | .agg xs,.agg ys=>dC xs ys
 | _,_=>none
def isKey (t:TypeId) (k:I):Bool:=match P.underlying t,k with
 | some (.int q),.int fK _=>q == fK
 | some (.struct fs),.agg cs=>cs.length == fs.size
 | _,_=>false
def fy (k:I):List (Nat×I×I)→Nat→Option (Option Nat)
 | [],_=>some none
 | (_,k',_)::r,i=>match gv k k' with
   | some true=>some (some i)
   | some false=>fy k r (i+1)
   | none=>none
def jD (t:TypeId):Option (TypeId×TypeId):=match P.underlying t with
 | some (.map k e)=>match kp P k with | true=>some (k,e) | false=>none
 | _=>none
def n1 (t:TypeId):Option I:=((P.info? t).bind (·.zero)).bind fun v=>match v with
 | .agg cs=>match cs.toList.all (·.oneCell') with | true=>some (.agg (cs.toList.map hg)) | false=>none
 | v=>some (hg v)
def kD (t:TypeId) (r:Option Operand) (H:List au):Out :=
 match r,P.underlying t with
 | none,some (.map _ _)=>some (.map H.length,H++[.map [] 0])
 | _,_=>none
def iN (lo:Nat) (t:TypeId) (H:List au):List I→Out
 | [.map id,k,v]=>match jD P t with
   | some (dW,_)=>match isKey P dW k with
     | true=>if lo≤id then match H[id]? with
       | some (.map es clock)=>match fy k es 0 with
         | some (some i)=>some (.junk,H.set id (.map (es.modify i fun e=>(e.1,k,v)) clock))
         | some none=>some (.junk,H.set id (.map (es++[(clock,k,v)]) (clock+1)))
         | none=>none
       | _=>none else none
     | false=>none
   | none=>none
 | _=>none
def h0 (t:TypeId) (ok:Bool) (H:List au):List I→Out
 | [.map id,k]=>match jD P t with
   | some (dW,ik)=>match isKey P dW k,H[id]? with
     | true,some (.map es _)=>match fy k es 0 with
       | some r =>
         (match r.bind fun i=>es[i]? with | some e=>some e.2.2 | none=>n1 P ik).map fun v =>
          (if ok then .tuple [v,.bool r.isSome] else v,H)
       | none=>none
     | _,_=>none
   | none=>none
 | _=>none
def hr (lo:Nat) (ts:Array TypeId) (H:List au):List I→Out
 | [.map id,k]=>match (ts[0]?).bind (jD P) with
   | some (dW,_)=>match isKey P dW k with
     | true=>if lo≤id then match H[id]? with
       | some (.map es clock)=>match fy k es 0 with
         | some (some i)=>some (.tuple [],H.set id (.map (es.eraseIdx i) clock))
         | some none=>some (.tuple [],H)
         | none=>none
       | _=>none else none
     | false=>none
   | none=>none
 | _=>none
def kE (t:TypeId) (H:List au):List I→Out
 | [.map id]=>match P.underlying t,H[id]? with
   | some (.map _ _),some (.map _ clock)=>some (.ptr H.length 0,H++[.iter id clock [] clock])
   | _,_=>none
 | _=>none
def kC (H:List au):List I→Out
 | [.ptr r 0]=>match H[r]? with
   | some (.iter m _ seen jV)=>match seen.getLast?,H[m]? with
     | some ga,some (.map es clock)=>if clock=jV then match es.find? (fun e=>e.1 == ga) with
       | some e=>some (.tuple [e.2.1,e.2.2],H)
       | none=>none else none
     | _,_=>none
   | _=>none
 | _=>none
def iF (t:Option TypeId):Bool:=match t.bind P.underlying with | some (.slice _)=>true | _=>false
def g8 (ts:Array TypeId) (H:List au):List I→Out
 | [x]=>match x with
   | .ax _ n _=>match iF P ts[0]? with | true=>some (.int .i64 n,H) | false=>none
   | .ref _ _ n _ _=>match iF P ts[0]? with | true=>some (.int .i64 n,H) | false=>none
   | .map id=>match (ts[0]?).bind P.underlying,H[id]? with | some (.map _ _),some (.map es _)=>some (.int .i64 es.length,H) | _,_=>none
   | _=>match (ts[0]?).bind P.underlying with | some (.array n _)=>some (.int .i64 n,H) | _=>none
 | _=>none
def jG (ts:Array TypeId) (H:List au):List I→Out
 | [.ax _ n .full]=>match iF P ts[0]? with | true=>some (.int .i64 n,H) | false=>none
 | [.ref _ _ _ (some n) _]=>match iF P ts[0]? with | true=>some (.int .i64 n,H) | false=>none
 | _=>none
def jH (lo:Nat) (ts:Array TypeId) (H:List au):List I→Out
 | [.ref id off len _ sz,x]=>match (ts[0]?).bind P.underlying with
   | some (.slice e)=>match bQ P e,lenOf x,rowOf H x with
     | some s,some m,some row=>if s=sz∧row.length=m*sz then
       (g4 lo H id fun l=>if off+len*sz≤l.length then some (setCells off (row.take (min m len*sz)) l) else none).map fun H'=>(.int .i64 (min m len:Nat),H') else none
     | _,_,_=>none
   | _=>none
 | _=>none
def kB (lo:Nat) (ts:Array TypeId) (H:List au):List I→Out
 | [.ref id off len _ sz]=>match (ts[0]?).bind P.underlying with
   | some (.slice e)=>match bQ P e,zeroCells P e with
     | some s,some z=>if s=sz∧z.length=s∧0<s then
       (g5 lo H id fun l=>if off+len*sz≤l.length then some (setCells off (eU len z) l) else none).map fun H'=>(.tuple [],H') else none
     | _,_=>none
   | _=>none
 | [.ax [] 0 _]=>match iF P ts[0]? with | true=>some (.tuple [],H) | false=>none
 | _=>none
def iL (ts:Array TypeId) (H:List au):List I→Out
 | [s,x]=>match ts.toList with
   | [t,de]=>(e0 P H t de s x).map (·,H)
   | _=>none
 | _=>none
def hZ (lo:Nat) (ts:Array TypeId) (H:List au):List I→Out
 | [s,x]=>match ts.toList with
   | [t,de]=>match s with
     | .ax _ _ _=>match e0 P H t de s x with
       | some (.ax cells n (.uniq z))=>if n=0 then none else some (.cf H.length (H.length+1) n z,H++[.grow cells (H.length+1) z,.dead])
       | _=>none
     | .cf id gid len z=>if lo≤id then match P.underlying t,H[id]? with
       | some (.slice e),some (.grow l g cQ)=>match bQ P e,(P.info? e).map (·.bytes),zeroCells P e,appended H x with
         | some sz,some bytes,some gd,some (m,new) =>
           if t=de∧g=gid∧cQ=z∧z=sz∧l.length=len*z∧new.length=m*sz∧0<sz∧0<m∧gd.length=sz∧fo m bytes=true∧fo (len+m) bytes=true then
            some (.cf H.length (H.length+1) (len+m) z,H.set id .dead++[.grow (l++new) (H.length+1) z,.dead])
           else none
         | _,_,_,_=>none
       | _,_=>none else none
     | _=>none
   | _=>none
 | _=>none
def iR (lo:Nat) (H:List au):List I→List au
 | .cf id _ len z::_=>match H[id]? with
   | some (.grow l g cQ)=>match Nat.blt (len*z) l.length && Nat.ble lo id with
     | true=>H.set id (.grow (l.take (len*z)) g cQ)
     | false=>H
   | _=>H
 | _=>H
def iM (lo:Nat) (ts:Array TypeId) (H:List au) (vs:List I):Out:=hZ P lo ts (iR lo H vs) vs
def en (lo:Nat) (b:Builtin) (ts:Array TypeId) (H:List au) (vs:List I):Out :=
 match b with
 | .append=>iL P ts H vs
 | .len=>g8 P ts H vs
 | .cap=>jG P ts H vs
 | .copy=>jH P lo ts H vs
 | .clear=>kB P lo ts H vs
 | .delete=>hr P lo ts H vs
 | .min=>(nq vs).map (·,H)
 | .max=>(np vs).map (·,H)
 | _=>none
def hq (C:cc) (lo mode:Nat) (H:List au):List I→Out
 | f::args=>j5 C lo mode f args H
 | []=>none
def a6 (C:cc) (lo:Nat) (o:Oper) (mode:Nat) (vs:List I) (H:List au):Out :=
 match o.op with
 | .move x=>eK P lo mode o.type x H vs
 | .assign x=>eK P lo mode o.type x H vs
 | .load t _=>dF P lo mode t H vs
 | .store t _ _=>hs P lo mode t H vs
 | .box _ _=>gF mode H vs
 | .alloc t=>kA P mode t H
 | .buildSlice t len parts=>match mode with
   | 0=>(cv P o vs).map (·,H)
   | _=>(ic P t len (fq parts.toList vs)).map fun r=>(.ax r.1 len .full,H)
 | .makeSlice t _ _=>jI P mode t H vs
 | .makeMap t r=>kD P t r H
 | .mapUpdate t _ _ _=>iN P lo t H vs
 | .lookup t _ _ ok=>h0 P t ok H vs
 | .range t _=>kE P t H vs
 | .entry _=>kC H vs
 | .call c=>match c.callee with
   | .builtin b=>match b with
     | .append=>match mode with
       | 0=>en P lo b c.argTypes H vs
       | _=>iM P lo c.argTypes H vs
     | _=>en P lo b c.argTypes H vs
   | .value _=>hq C lo mode H vs
   | .invoke _ _=>none
 | _=>(cv P o vs).map (·,H)
def put (T:List I):Option Tmp→I→List I
 | some d,v=>gK T d v
 | none,_=>T
def inPlace (o:Oper) (mode:Nat) (T:List I) (v:I):List I :=
 match mode with
 | 0=>T
 | 4=>T
 | _=>match o.op with
   | .move (.tmp t) | .assign (.tmp t)=>gK T t v.view
   | _=>T
def execOp (C:cc) (lo:Nat) (o:Oper) (an:cq) (s:a8):Option a8 :=
 let r:=rd s.T an.cx (opsOf o)
 let vs:=match dE o with | true=>r.1 | false=>r.1.map I.view
 (a6 P C lo o an.mode vs s.H).map fun x=>⟨put (inPlace o an.mode r.2 x.1) o.dst x.1,x.2⟩
def eo (ops:Array Oper) (o:Oper) (T:List I):Option Bool :=
 match o.guard with
 | none=>some true
 | some (j,want)=>match (ops[j]?).bind (·.dst) with
   | some d=>match c1 T d with
     | .bool b=>some (b == want)
     | .tuple []=>some false
     | _=>none
   | none=>none
def eC (C:cc) (lo:Nat) (ops:Array Oper):List Oper→List cq→a8→Option a8
 | [],_,s=>some s
 | o::rest,as,s =>
   match eo ops o s.T with
   | some true=>(execOp P C lo o (as.headD {}) s).bind (eC C lo ops rest as.tail)
   | some false=>eC C lo ops rest as.tail ⟨put s.T o.dst (.tuple []),s.H⟩
   | none=>none
def hX (f:a8→Option (cC×a8)):Nat→a8→Option (cC×a8)
 | 0,_=>none
 | n+1,s=>match f s with
   | some (.normal,aI)=>hX f n aI
   | r=>r
def inLoop (H:List au):Option Nat→Bool
 | none=>true
 | some l=>match H[l]? with
   | some (.loop ..)=>true
   | _=>false
def exec (A:c') (C:cc) (fn:FuncId) (lo d:Nat) (rl:Option Nat):Code→Nat→a8→Option (cC×a8)
 | .skip,_,s=>some (.normal,s)
 | .region id ops _,_,s=>(eC P C lo ops ops.toList (A.ops.getD id []) (eS A.iG id s)).map fun aI=>(.normal,aI)
 | .seq a b,a1,s=>match exec A C fn lo d rl a a1 s with
   | some (.normal,aI)=>exec A C fn lo d rl b a1 aI
   | r=>r
 | .cond c a b,a1,s=>match aA s.T c with
   | .bool true=>exec A C fn lo d rl a a1 s
   | .bool false=>exec A C fn lo d rl b a1 s
   | _=>none
 | .block id body,_,s=>match exec A C fn lo d rl body id s with
   | some (.exit bA,aI)=>if bA=id then some (.normal,aI) else some (.exit bA,aI)
   | r=>r
 | .loop body,a1,s=>hX (fun aI=>exec A C fn lo d rl body a1 (eS A.hW a1 aI)) d s
 | .exit id,_,s=>some (.exit id,s)
 | .ret,_,s=>some (.ret,s)
 | .scope body,a1,s=>exec A C fn lo d rl body a1 s
 | .label _,_,s=>some (.normal,s)
 | .rangeFunc f params assign body,_,s =>
   match inLoop s.H rl,aA s.T f with
   | true,.func k first cap =>
     match C (.fn k) (first++[.yield s.H.length]++cap) (s.H++[.loop .ready none fn (s.T.map I.view) params.toList assign body A]) lo with
     | some (_,H')=>match H'[s.H.length]? with
       | some (.loop st cB _ _ _ _ _ _) =>
         if st=.busy then none else
         match cB with
         | none=>some (.normal,⟨s.T.map I.settle,H'.set s.H.length .dead⟩)
         | some .ret=>some (.ret,⟨s.T.map I.settle,H'.set s.H.length .dead⟩)
         | some (.exit id)=>some (.exit id,⟨s.T.map I.settle,H'.set s.H.length .dead⟩)
         | _=>none
       | _=>none
     | none=>none
   | _,_=>none
 | _,_,_=>none
def fb (H:List au) (T:List I):List ResultVar→Option (List I)
 | []=>some []
 | .tmp t::r=>(fb H T r).map (c1 T t::·)
 | .cell a t::r=>match dI P H t (c1 T a),fb H T r with
   | some v,some vs=>some (v::vs)
   | _,_=>none
def g9:List I→I
 | [v]=>v
 | vs=>.tuple (vs.map I.view)
def hc:List Nat→List I→List I→Option (List I)
 | [],[],T=>some T
 | p::bk,v::vs,T=>hc bk vs (gK T p v)
 | _,_,_=>none
def fO (A:FuncId→c') (tab:cc):Nat→cc
 | 0,_,_,_,_=>none
 | d+1,.fn k,args,H,lo =>
   match tab (.fn k) args H lo with
   | some r=>some r
   | none =>
   match (A k).bad with
   | true=>none
   | false =>
   match P.funcs[k]? with
   | some f=>match f.body with
     | some c =>
       match exec P (A k) (fO A tab d) k lo d none c 0 ⟨args++List.replicate (f.ntmps-args.length) .junk,H⟩ with
       | some (.normal,s) | some (.ret,s)=>(fb P s.H s.T f.results.toList).map fun vs=>(g9 vs,s.H)
       | _=>none
     | none=>none
   | none=>none
 | d+1,.yield l,args,H,lo =>
   if l<lo then none else
   match H[l]? with
   | some (.loop .ready _ fn T params assign body an) =>
     match hc params args T with
     | some bb =>
       match exec P an (fO A tab d) fn lo d (some l) assign 0 ⟨bb,H⟩ with
       | some (.normal,s) =>
         match s.H[l]? with
         | some (.loop .ready cB fn T params assign k4 ih) =>
           match exec P an (fO A tab d) fn lo d (some l) body 0 ⟨s.T,s.H.set l (.loop .busy cB fn T params assign k4 ih)⟩ with
           | some (e,s2) =>
             match s2.H[l]? with
             | some (.loop .busy _ fn T params assign k4 ih) =>
               match e with
               | .normal=>some (.bool true,s2.H.set l (.loop .ready none fn T params assign k4 ih))
               | .ret=>some (.bool false,s2.H.set l (.loop .done (some .ret) fn T params assign k4 ih))
               | .exit id=>some (.bool false,s2.H.set l (.loop .done (some (.exit id)) fn T params assign k4 ih))
             | _=>none
           | none=>none
         | _=>none
       | _=>none
     | none=>none
   | _=>none
end
end
end Go.Proofs.YtfakoboiahbhaaaGreat.Ab


namespace Go.Proofs.YtfakoboiahbhaaaGreat.Ab
open Go
inductive aG where
 | slot (i:Nat)
 | arg (i:Nat)
 | res
 | obj (id:Nat)
 | cell (id j:Nat)
 | mark
 deriving DecidableEq
inductive Rel (J:List Nat) (S:Nat→Nat→Prop) (w:World):I→Value→Prop
 | junk (v:Value):Rel J S w .junk v
 | bool (b:Bool):Rel J S w (.bool b) (.bool b)
 | dg (b:Bool):Rel J S w .dg (.bool b)
 | int (k:IntKind) (n:Int):Rel J S w (.int k n) (.int k n)
 | str (s:ByteArray):Rel J S w (.str s) (.string s)
 | eu:Rel J S w .eu (.pointer none)
 | ptr (id off b:Nat) (h:J[id]?=some b):Rel J S w (.ptr id off) (.pointer (some ⟨b,off,none⟩))
 | bT (cells:List I) (b o:Nat) (f:Nat→Value)
   (h:∀ (j:Nat) (u:I),cells[j]?=some u→S b (o+j)∧w.cell? ⟨b,o+j,none⟩=some (f j)∧u.plain=true∧(f j).oneCell'=true)
   (aj:∀ (j:Nat) (u:I),cells[j]?=some u→Rel J S w u (f j)):Rel J S w (.bT cells) (.pointer (some ⟨b,o,none⟩))
 | b2 (c:h9) (a:Option Addr):Rel J S w (.ax [] 0 c) (.slice a 0 0)
 | ax (cells:List I) (len:Nat) (c:h9) (b o cap:Nat) (f:Nat→Value)
   (ak:c=.full→cap=len) (hle:len≤cap) (hu:∀ z,c≠.uniq z)
   (h:∀ (j:Nat) (u:I),cells[j]?=some u→S b (o+j)∧w.cell? ⟨b,o+j,none⟩=some (f j)∧u.plain=true∧(f j).oneCell'=true)
   (aj:∀ (j:Nat) (u:I),cells[j]?=some u→Rel J S w u (f j)):Rel J S w (.ax cells len c) (.slice (some ⟨b,o,none⟩) len cap)
 | cH (cells:List I) (len z b o cap:Nat):Rel J S w (.ax cells len (.uniq z)) (.slice (some ⟨b,o,none⟩) len cap)
 | raw (cells:List I) (len z b o cap:Nat):Rel J S w (.raw cells len z) (.slice (some ⟨b,o,none⟩) len cap)
 | ref (id off len:Nat) (c:Option Nat) (sz b cap:Nat) (h:J[id]?=some b) (ak:∀ n,c=some n→cap=n) (hle:len≤cap) :
   Rel J S w (.ref id off len c sz) (.slice (some ⟨b,off,none⟩) len cap)
 | cf (id gid len z b cap:Nat) (h:J[id]?=some b) (aK:J[gid]?=some cap) (hle:len≤cap):Rel J S w (.cf id gid len z) (.slice (some ⟨b,0,none⟩) len cap)
 | func (f:FuncId) (as bs:List I) (vs ws:Array Value) (ad:vs.size=as.length) (af:ws.size=bs.length)
   (bP:∀ u∈as,u.plain=true) (b4:∀ u∈bs,u.plain=true)
   (aR:∀ (j:Nat) (u:I) (v:Value),as[j]?=some u→vs[j]?=some v→Rel J S w u v)
   (r2:∀ (j:Nat) (u:I) (v:Value),bs[j]?=some u→ws[j]?=some v→Rel J S w u v):Rel J S w (.func f as bs) (.func (.func f) vs ws)
 | yield (id b:Nat) (h:J[id]?=some b):Rel J S w (.yield id) (.func (.yield b) #[] #[])
 | map (id b:Nat) (h:J[id]?=some b):Rel J S w (.map id) (.map (some b))
 | agg (as:List I) (vs:Array Value) (h:vs.size=as.length) (p:∀ u∈as,u.plain=true) (one:∀ v∈vs.toList,v.oneCell'=true)
   (r:∀ (j:Nat) (u:I) (v:Value),as[j]?=some u→vs[j]?=some v→Rel J S w u v):Rel J S w (.agg as) (.agg vs)
 | tuple (as:List I) (vs:Array Value) (h:vs.size=as.length) (p:∀ u∈as,u.plain=true)
   (r:∀ (j:Nat) (u:I) (v:Value),as[j]?=some u→vs[j]?=some v→Rel J S w u v):Rel J S w (.tuple as) (.tuple vs)
def aV (U:Nat→Option aG) (J:List Nat) (S:Nat→Nat→Prop) (w:World) (l:aG):I→Value→Prop
 | .ax cells len (.own z),.slice (some a) _ cap=>(len=0∧cap=0∧cells=[]) ∨
   (U a.block=some l∧True∧a.spot=none∧len≤cap∧cap≤maxLen∧0<z∧cells.length=len*z ∧
    (∃ cur e,w.heap[a.block]?=some (.cells cur e (0,0))∧cur.size=a.off+cap*z)∧∀ o,a.off+cells.length≤o→¬ S a.block o)
 | .ax cells len (.uniq z),.slice (some a) _ cap=>(len=0∧cap=0∧cells=[]) ∨
   (U a.block=some l∧a.off=0∧len≤cap∧cap≤maxLen∧0<z∧cells.length=len*z ∧
    (∃ cur e,w.heap[a.block]?=some (.cells cur e (0,0))∧cur.size=cap*z ∧
     ∀ (j:Nat) (u:I) (v:Value),cells[j]?=some u→cur[j]?=some v→u.plain=true∧v.oneCell'=true∧Rel J S w u v)∧∀ o,¬ S a.block o)
 | .raw cells len z,.slice (some a) _ cap =>
   U a.block=some l∧a.off=0∧len≤cap∧cap≤maxLen∧0<z∧cells.length=len*z∧cells.all gJ=true ∧
     (∃ cur e,w.heap[a.block]?=some (.cells cur e (0,0))∧cur.size=cap*z ∧
      ∀ (j:Nat) (u:I) (v:Value),cells[j]?=some u→cur[j]?=some v→v.oneCell'=true∧Rel J S w u v)∧∀ o,¬ S a.block o
 | _,_=>True
structure bj (U:Nat→Option aG) (S:Nat→Nat→Prop) (w:World) (ay:Nat→Option aG) (S':Nat→Nat→Prop) (w':World):Prop where
 os:w'.os=w.os
 tape:w'.tape=w.tape
 output:w'.output=w.output
 size:w.heap.size≤w'.heap.size
 cG:∀ b,b<w.heap.size→U b=none→w'.heap[b]?=w.heap[b]?
 set:∀ b o,S b o→S' b o∧w'.cell? ⟨b,o,none⟩=w.cell? ⟨b,o,none⟩
 fresh:∀ b o,S' b o→S b o∨U b≠none∨w.heap.size≤b
 own:∀ b,ay b≠none→U b≠none∨w.heap.size≤b
theorem bj.refl (U:Nat→Option aG) (S:Nat→Nat→Prop) (w:World):bj U S w U S w :=
 ⟨rfl,rfl,rfl,Nat.le_refl _,fun _ _ _=>rfl,fun _ _ h=>⟨h,rfl⟩,fun _ _ h=>.inl h,fun _ h=>.inl h⟩
theorem bj.trans {U b5 bo:Nat→Option aG} {S a5 bI:Nat→Nat→Prop} {w bE bS:World} (h:bj U S w b5 a5 bE) (k:bj b5 a5 bE bo bI bS) :
  bj U S w bo bI bS where
 os:=k.os.trans h.os
 tape:=k.tape.trans h.tape
 output:=k.output.trans h.output
 size:=Nat.le_trans h.size k.size
 cG b ag aP:=by
  have ad:b5 b=none:=by
   cases hw:b5 b with
   | none=>rfl
   | some l =>
     rcases h.own b (by simp [hw]) with af | af
     ·exact absurd aP af
     ·omega
  rw [k.cG b (Nat.lt_of_lt_of_le ag h.size) ad,h.cG b ag aP]
 set b o ai:=by
  obtain ⟨ad,af⟩:=h.set b o ai;obtain ⟨aL,aQ⟩:=k.set b o ad;exact ⟨aL,aQ.trans af⟩
 fresh b o ai:=by
  rcases k.fresh b o ai with ad | ad | ad
  ·exact h.fresh b o ad
  ·rcases h.own b ad with af | af
   ·exact .inr (.inl af)
   ·exact .inr (.inr af)
  ·exact .inr (.inr (Nat.le_trans h.size ad))
 own b ag:=by
  rcases k.own b ag with ad | ad
  ·exact h.own b ad
  ·exact .inr (Nat.le_trans h.size ad)
def Ext (J bZ:List Nat):Prop:=∀ (i b:Nat),J[i]?=some b→bZ[i]?=some b
theorem Ext.refl (J:List Nat):Ext J J:=fun _ _ h=>h
theorem Ext.trans {a b c:List Nat} (h:Ext a b) (k:Ext b c):Ext a c:=fun i x al=>k i x (h i x al)
theorem Ext.append (a b:List Nat):Ext a (a++b):=fun i x al=>by
 rw [List.getElem?_append_left (List.getElem?_eq_some_iff.1 al).1];exact al
theorem Rel.mono {J bZ:List Nat} {S S':Nat→Nat→Prop} {w w':World} (bL:Ext J bZ)
  (cg:∀ b o,S b o→S' b o∧w'.cell? ⟨b,o,none⟩=w.cell? ⟨b,o,none⟩) {u:I} {v:Value} (h:Rel J S w u v):Rel bZ S' w' u v:=by
 induction h with
 | junk v=>exact .junk v
 | bool b=>exact .bool b
 | dg b=>exact .dg b
 | int k n=>exact .int k n
 | str s=>exact .str s
 | eu=>exact .eu
 | ptr id off b h=>exact .ptr id off b (bL _ _ h)
 | bT cells b o f h aj a9 =>
   exact .bT cells b o f (fun j u az=>let ⟨ad,af,aH⟩:=h j u az;⟨(cg _ _ ad).1,(cg _ _ ad).2.trans af,aH⟩) a9
 | b2 c a=>exact .b2 c a
 | ax cells len c b o cap f ak hle hu h aj a9 =>
   exact .ax cells len c b o cap f ak hle hu (fun j u az=>let ⟨ad,af,aH⟩:=h j u az;⟨(cg _ _ ad).1,(cg _ _ ad).2.trans af,aH⟩) a9
 | cH cells len z b o cap=>exact .cH cells len z b o cap
 | raw cells len z b o cap=>exact .raw cells len z b o cap
 | ref id off len c sz b cap h ak hle=>exact .ref id off len c sz b cap (bL _ _ h) ak hle
 | cf id gid len z b cap h aK hle=>exact .cf id gid len z b cap (bL _ _ h) (bL _ _ aK) hle
 | func f as bs vs ws ad af bP b4 aR r2 i1 i2=>exact .func f as bs vs ws ad af bP b4 i1 i2
 | yield id b h=>exact .yield id b (bL _ _ h)
 | map id b h=>exact .map id b (bL _ _ h)
 | agg as vs h p one r a9=>exact .agg as vs h p one a9
 | tuple as vs h p r a9=>exact .tuple as vs h p a9
theorem aV.mono {U ay:Nat→Option aG} {J bZ:List Nat} {S S':Nat→Nat→Prop} {w w':World} {l l':aG} (bL:Ext J bZ)
  (cg:∀ b o,S b o→S' b o∧w'.cell? ⟨b,o,none⟩=w.cell? ⟨b,o,none⟩)
  (fV:∀ b,U b=some l→ay b=some l'∧w'.heap[b]?=w.heap[b]?∧∀ o,S' b o→S b o) {u:I} {v:Value} (h:aV U J S w l u v) :
  aV ay bZ S' w' l' u v:=by
 unfold aV at h ⊢;split at h
 ·rcases h with h | ⟨ad,af,aH,bh,bM,bU,cM,⟨cur,e,cN,cR⟩,dq⟩
  ·exact .inl h
  ·obtain ⟨aL,aQ,ch⟩:=fV _ ad;exact .inr ⟨aL,af,aH,bh,bM,bU,cM,⟨cur,e,aQ.trans cN,cR⟩,fun o ar ai=>dq o ar (ch o ai)⟩
 ·rcases h with h | ⟨ad,aT,bh,bM,bU,cM,⟨cur,e,cN,cR,dq⟩,fg⟩
  ·exact .inl h
  ·obtain ⟨aL,aQ,ch⟩:=fV _ ad;exact .inr ⟨aL,aT,bh,bM,bU,cM,⟨cur,e,aQ.trans cN,cR,fun j u v hu ae=>⟨(dq j u v hu ae).1,(dq j u v hu ae).2.1,((dq j u v hu ae).2.2).mono bL cg⟩⟩,fun o ai=>fg o (ch o ai)⟩
 ·obtain ⟨ad,aT,bh,bM,bU,cM,ai,⟨cur,e,cN,cR,dq⟩,fg⟩:=h;obtain ⟨aL,aQ,ch⟩:=fV _ ad;exact ⟨aL,aT,bh,bM,bU,cM,ai,⟨cur,e,aQ.trans cN,cR,fun j u v hu ae=>⟨(dq j u v hu ae).1,((dq j u v hu ae).2).mono bL cg⟩⟩,fun o ai=>fg o (ch o ai)⟩
 ·trivial
theorem aV.b3 {U:Nat→Option aG} {J:List Nat} {S:Nat→Nat→Prop} {w:World} {l:aG} {u:I} {v:Value} (h:u.plain=true):aV U J S w l u v:=by
 unfold aV;split <;> first | trivial | simp [I.plain] at h
def gj (U:Nat→Option aG) (J:List Nat) (S:Nat→Nat→Prop) (w:World) (id:Nat):au→Prop
 | .dead=>True
 | .cells l=>∃ b cur e,J[id]?=some b∧U b=some (.obj id)∧w.heap[b]?=some (.cells cur e (0,0))∧l.length≤cur.size∧(∀ o,¬ S b o) ∧
   ∀ (j:Nat) (u:I) (v:Value),l[j]?=some u→cur[j]?=some v→u.cP=true∧v.oneCell'=true∧Rel J S w u v∧aV U J S w (.cell id j) u v
 | .loop st cB fn T params assign body jg=>codeOk jg assign=true∧codeOk jg body=true∧∃ b L,J[id]?=some b∧U b=some (.obj id)∧w.heap[b]?=some (.loop L)∧L.state=st∧L.pending=cB∧True ∧
   L.tmps.size=T.length∧(∀ (i:Nat) (u:I) (v:Value),T[i]?=some u→L.tmps[i]?=some v→u.plain=true∧Rel J S w u v)∧L.params.toList=params∧L.assign=assign∧L.body=body
 | .map es clock=>∃ b bx,J[id]?=some b∧U b=some (.obj id)∧w.heap[b]?=some (.map bx clock)∧bx.size=es.length∧(∀ o,¬ S b o) ∧
   ∀ (j i:Nat) (k v:I) (x:MapEntry),es[j]?=some (i,k,v)→bx[j]?=some x→x.born=i∧k.plain=true∧Rel J S w k x.key∧v.plain=true∧Rel J S w v x.val
 | .grow l gid z=>∃ b cur e,J[id]?=some b∧U b=some (.obj id)∧w.heap[b]?=some (.cells cur e (0,0))∧l.length≤cur.size∧(∀ o,¬ S b o) ∧
   (∀ (j:Nat) (u:I) (v:Value),l[j]?=some u→cur[j]?=some v→u.cP=true∧v.oneCell'=true∧Rel J S w u v∧aV U J S w (.cell id j) u v) ∧
   ∃ cap,J[gid]?=some cap∧cap≤maxLen∧0<z∧cur.size=cap*z
 | .iter m since seen jV=>∃ b d_,J[id]?=some b∧U b=some (.obj id)∧J[m]?=some d_∧w.heap[b]?=some (.mapIter (some d_) since seen.toArray jV)∧(∀ o,¬ S b o)
structure aJ (B:Nat) (U:Nat→Option aG) (J:List Nat) (S:Nat→Nat→Prop) (w:World) (H:List au):Prop where
 cA:J.length=H.length
 obj:∀ (id:Nat) (o:au),H[id]?=some o→gj U J S w id o
 b':∀ b o,S b o→∃ v,w.cell? ⟨b,o,none⟩=some v
 base:∀ b l,U b=some l→B≤b∧b<w.heap.size
 cV:B≤w.heap.size
structure a7 (bB:Nat→aG) (U:Nat→Option aG) (J:List Nat) (S:Nat→Nat→Prop) (w:World) (T:List I) (bd:List Value):Prop where
 len:T.length=bd.length
 rel:∀ (i:Nat) (u:I) (v:Value),T[i]?=some u→bd[i]?=some v→Rel J S w u v
 own:∀ (i:Nat) (u:I) (v:Value),T[i]?=some u→bd[i]?=some v→aV U J S w (bB i) u v
theorem Ac {J bZ:List Nat} {S S':Nat→Nat→Prop} {w w':World} {u:I} {v:Value} (h:gJ u=true) (aj:Rel J S w u v):Rel bZ S' w' u v:=by
 cases aj <;> simp [gJ] at h <;> constructor
theorem Ed {u:I} (h:gJ u=true):u.plain=true:=by
 cases u <;> simp [gJ] at h <;> rfl
theorem DD {U:Nat→Option aG} {J:List Nat} {S:Nat→Nat→Prop} {w:World} {l:aG} {c:List I} {n z:Nat} {v:Value} (aj:Rel J S w (.raw c n z) v) (ar:aV U J S w l (.raw c n z) v) :
  Rel J S w (.ax c n (.uniq z)) v∧aV U J S w l (.ax c n (.uniq z)) v:=by
 cases aj with
 | raw _ _ _ b o cap =>
   obtain ⟨ad,aT,bh,bM,bU,cM,ai,⟨cur,e,cN,cR,dq⟩,fg⟩:=ar;rw [List.all_eq_true] at ai;exact ⟨.cH _ _ _ _ _ _,.inr ⟨ad,aT,bh,bM,bU,cM,⟨cur,e,cN,cR,fun j u v hu ae=>⟨Ed (ai u (List.mem_of_getElem? hu)),dq j u v hu ae⟩⟩,fg⟩⟩
theorem E6 {U:Nat→Option aG} {J:List Nat} {S:Nat→Nat→Prop} {w:World} {l:aG} {c:List I} {n z:Nat} {v:Value} (aP:n≠0) (ai:c.all gJ=true) (aj:Rel J S w (.ax c n (.uniq z)) v) (ar:aV U J S w l (.ax c n (.uniq z)) v) :
  Rel J S w (.raw c n z) v∧aV U J S w l (.raw c n z) v:=by
 cases aj with
 | b2 _ a=>exact absurd rfl aP
 | ax _ _ _ b o cap f ak hle hu h aj=>exact absurd rfl (hu z)
 | cH _ _ _ b o cap =>
   rcases ar with ⟨h,_,_⟩ | ⟨ad,aT,bh,bM,bU,cM,⟨cur,e,cN,cR,dq⟩,fg⟩
   ·exact absurd h aP
   ·exact ⟨.raw _ _ _ _ _ _,ad,aT,bh,bM,bU,cM,ai,⟨cur,e,cN,cR,fun j u v hu ae=>(dq j u v hu ae).2⟩,fg⟩
theorem l2 {w:World} {b o:Nat} {v:Value} (h:w.cell? ⟨b,o,none⟩=some v):b<w.heap.size:=World.block_lt_of_cell? w ⟨b,o,none⟩ h
end Go.Proofs.YtfakoboiahbhaaaGreat.Ab


namespace Go.Proofs.YtfakoboiahbhaaaGreat.Ab
open Go
structure ep (U:Nat→Option aG) (S:Nat→Nat→Prop) (ay:Nat→Option aG) (S':Nat→Nat→Prop):Prop where
 set:∀ b o,S b o→S' b o
 fresh:∀ b o,S' b o→S b o∨∃ i,U b=some (.slot i)
 cG:∀ b l,U b=some l→(∀ i,l≠.slot i)→ay b=some l
 none:∀ b,U b=none→ay b=none
 slot:∀ b i,ay b=some (.slot i)→U b=some (.slot i)
theorem ep.refl (U:Nat→Option aG) (S:Nat→Nat→Prop):ep U S U S :=
 ⟨fun _ _ h=>h,fun _ _ h=>.inl h,fun _ _ h _=>h,fun _ h=>h,fun _ _ h=>h⟩
theorem ep.trans {U b5 bo:Nat→Option aG} {S a5 bI:Nat→Nat→Prop} (h:ep U S b5 a5) (k:ep b5 a5 bo bI):ep U S bo bI where
 set b o ai:=k.set b o (h.set b o ai)
 fresh b o ai:=by
  rcases k.fresh b o ai with ad | ⟨i,ad⟩
  ·exact h.fresh b o ad
  ·exact .inr ⟨i,h.slot b i ad⟩
 cG b l aq aP:=k.cG b l (h.cG b l aq aP) aP
 none b ag:=k.none b (h.none b ag)
 slot b i ag:=h.slot b i (k.slot b i ag)
theorem ep.aA {U ay:Nat→Option aG} {S S':Nat→Nat→Prop} (h:ep U S ay S') (w:World):bj U S w ay S' w where
 os:=rfl
 tape:=rfl
 output:=rfl
 size:=Nat.le_refl _
 cG _ _ _:=rfl
 set b o ai:=⟨h.set b o ai,rfl⟩
 fresh b o ai:=by
  rcases h.fresh b o ai with ad | ⟨i,ad⟩
  ·exact .inl ad
  ·exact .inr (.inl (by simp [ad]))
 own b ag:=by
  refine .inl fun aT=>ag (h.none b aT)
theorem aV.gs {U ay:Nat→Option aG} {S S':Nat→Nat→Prop} (g:ep U S ay S') {J:List Nat} {w:World} {l:aG} (aq:∀ i,l≠.slot i) {u:I} {v:Value}
  (h:aV U J S w l u v):aV ay J S' w l u v:=by
 refine h.mono (Ext.refl J) (fun b o ai=>⟨g.set b o ai,rfl⟩) fun b ag=>⟨g.cG b l ag aq,rfl,fun o ai=>?_⟩;rcases g.fresh b o ai with ad | ⟨i,ad⟩
 ·exact ad
 ·rw [ag] at ad;cases ad;exact absurd rfl (aq i)
theorem Rel.gs {U ay:Nat→Option aG} {S S':Nat→Nat→Prop} (g:ep U S ay S') {J:List Nat} {w:World} {u:I} {v:Value} (h:Rel J S w u v):Rel J S' w u v :=
 h.mono (Ext.refl J) fun b o ai=>⟨g.set b o ai,rfl⟩
theorem gj.gs {U ay:Nat→Option aG} {S S':Nat→Nat→Prop} (g:ep U S ay S') {J:List Nat} {w:World} {id:Nat} {o:au} (h:gj U J S w id o):gj ay J S' w id o:=by
 have cg:∀ b bA,U b=some (.obj bA)→∀ o,S' b o→S b o:=fun b bA ag o ai=>by
  rcases g.fresh b o ai with ad | ⟨i,ad⟩
  ·exact ad
  ·rw [ag] at ad;cases ad
 cases o with
 | dead=>trivial
 | cells l =>
   obtain ⟨b,cur,e,ad,af,aH,bh,bM,bU⟩:=h
   exact ⟨b,cur,e,ad,g.cG b _ af (by simp),aH,bh,fun o ai=>bM o (cg b id af o ai),fun j u v hu ae =>
    let ⟨aB,jd,aF,aS⟩:=bU j u v hu ae;⟨aB,jd,aF.gs g,aS.gs g (by simp)⟩⟩
 | grow l gid z =>
   obtain ⟨b,cur,e,ad,af,aH,bh,bM,bU,cM⟩:=h
   exact ⟨b,cur,e,ad,g.cG b _ af (by simp),aH,bh,fun o ai=>bM o (cg b id af o ai),fun j u v hu ae =>
    let ⟨aB,jd,aF,aS⟩:=bU j u v hu ae;⟨aB,jd,aF.gs g,aS.gs g (by simp)⟩,cM⟩
 | loop st cB fn T params assign body jg =>
   obtain ⟨al,aZ,b,L,ad,af,aH,bh,bM,bU,cM,cN,cR⟩:=h;exact ⟨al,aZ,b,L,ad,g.cG b _ af (by simp),aH,bh,bM,bU,cM,fun i u v hu ae=>⟨(cN i u v hu ae).1,(cN i u v hu ae).2.gs g⟩,cR⟩
 | map es clock =>
   obtain ⟨b,bx,ad,af,aH,bh,bM,bU⟩:=h
   exact ⟨b,bx,ad,g.cG b _ af (by simp),aH,bh,fun o ai=>bM o (cg b id af o ai),fun j i k v x hu ae =>
    let ⟨aB,aF,aS,bp,bf⟩:=bU j i k v x hu ae;⟨aB,aF,aS.gs g,bp,bf.gs g⟩⟩
 | iter m s e t =>
   obtain ⟨b,d_,ad,af,aH,bh,bM⟩:=h;exact ⟨b,d_,ad,g.cG b _ af (by simp),aH,bh,fun o ai=>bM o (cg b id af o ai)⟩
theorem aJ.gs {B:Nat} {U ay:Nat→Option aG} {S S':Nat→Nat→Prop} (g:ep U S ay S') {J:List Nat} {w:World} {H:List au} (h:aJ B U J S w H)
  (hw:∀ b o,S' b o→∃ v,w.cell? ⟨b,o,none⟩=some v):aJ B ay J S' w H where
 cA:=h.cA
 obj id o ar:=(h.obj id o ar).gs g
 b':=hw
 base b l aq:=by
  cases ag:U b with
  | none=>rw [g.none b ag] at aq;cases aq
  | some l'=>exact h.base b l' ag
 cV:=h.cV
theorem k1 (J:List Nat) (S:Nat→Nat→Prop) (w:World) (v:Value):Rel J S w (hg v) v:=by
 unfold hg;split
 ·exact .bool _
 ·exact .int _ _
 ·exact .eu
 ·exact .str _
 ·exact .b2 _ _
 ·exact .junk _
theorem mB (v:Value):(hg v).plain=true:=by
 unfold hg;split <;> rfl
theorem I.c_ (u:I):u.view.plain=true:=by
 unfold I.view;split <;> first | rfl | skip
 rename_i ad af aH bh;unfold I.plain;split
 ·exact absurd rfl (ad _ _ _)
 ·exact absurd rfl (af _ _ _)
 ·exact absurd rfl (aH _ _ _)
 ·exact absurd rfl (bh _ _ _ _)
 ·rfl
theorem I.fX {u:I} (h:u.plain=true):u.cP=true:=by
 unfold I.plain at h;unfold I.cP;split at h <;> simp_all
theorem I.jZ {u:I} (h:u.plain=true):u.view=u:=by
 unfold I.view;split <;> simp_all [I.plain]
theorem Rel.view {J:List Nat} {S:Nat→Nat→Prop} {w:World} {u:I} {v:Value} (h:Rel J S w u v) (aP:u.cP=true):Rel J S w u.view v:=by
 cases h with
 | b2 c a=>cases c <;> simp [I.view] <;> exact .b2 _ _
 | ax cells len c b o cap f ak hle hu h aj =>
   cases c with
   | shared=>exact .ax cells len .shared b o cap f ak hle hu h aj
   | full=>exact .ax cells len .full b o cap f ak hle hu h aj
   | own z=>exact .ax cells len .shared b o cap f (by simp) hle (by simp) h aj
   | uniq z=>exact absurd rfl (hu z)
 | cH=>simp [I.cP] at aP
 | raw=>exact .junk _
 | cf id gid len z b cap h aK hle=>exact .ref id 0 len none z b cap h (by simp) hle
 | junk v=>exact .junk v
 | bool b=>exact .bool b
 | dg b=>exact .dg b
 | int k n=>exact .int k n
 | str s=>exact .str s
 | eu=>exact .eu
 | ptr id off b h=>exact .ptr id off b h
 | bT cells b o f h aj=>exact .bT cells b o f h aj
 | ref id off len c sz b cap h ak hle=>exact .ref id off len c sz b cap h ak hle
 | func f as bs vs ws ad af bP b4 aR r2=>exact .func f as bs vs ws ad af bP b4 aR r2
 | yield id b h=>exact .yield id b h
 | map id b h=>exact .map id b h
 | agg as vs h p one r=>exact .agg as vs h p one r
 | tuple as vs h p r=>exact .tuple as vs h p r
section
variable {B:Nat} {J:List Nat} {w:World} {H:List au}
theorem a7.gs {bB:Nat→aG} (aq:∀ i k,bB i≠.slot k) {U ay:Nat→Option aG} {S S':Nat→Nat→Prop} (g:ep U S ay S') {T:List I} {bd:List Value} (h:a7 bB U J S w T bd) :
  a7 bB ay J S' w T bd :=
 ⟨h.len,fun i u v hu ae=>(h.rel i u v hu ae).gs g,fun i u v hu ae=>(h.own i u v hu ae).gs g (aq i)⟩
theorem E1 {U:Nat→Option aG} {S:Nat→Nat→Prop} {T:List I} {bd:List Value} (l:aG) (aq:∀ i,l≠.slot i)
  (bW:a7 .slot U J S w T bd) (ah:aJ B U J S w H) (t:Nat) :
  ∃ ay,ep U S ay S∧a7 .slot ay J S w (T.set t .junk) bd∧aJ B ay J S w H ∧
    Rel J S w (T.getD t .junk) (bd.getD t undef)∧aV ay J S w l (T.getD t .junk) (bd.getD t undef):=by
 classical
 refine ⟨fun b=>if U b=some (.slot t) then some l else U b,?_,?_,?_,?_,?_⟩
 ·refine ⟨fun _ _ h=>h,fun _ _ h=>.inl h,fun b l' h aP=>?_,fun b h=>?_,fun b i h=>?_⟩
  ·have:U b≠some (.slot t):=by rw [h];intro e;cases e;exact aP t rfl
   simp only [this,if_false];exact h
  ·simp [h]
  ·split at h
   ·cases h;exact absurd rfl (aq i)
   ·exact h
 ·refine ⟨by simpa using bW.len,fun i u v hu ae=>?_,fun i u v hu ae=>?_⟩
  ·rw [List.getElem?_set] at hu;split at hu
   ·split at hu
    ·cases hu;exact .junk _
    ·cases hu
   ·exact bW.rel i u v hu ae
  ·rw [List.getElem?_set] at hu;split at hu
   ·split at hu
    ·cases hu;exact aV.b3 rfl
    ·cases hu
   ·rename_i bY;refine (bW.own i u v hu ae).mono (Ext.refl J) (fun b o ai=>⟨ai,rfl⟩) fun b ag=>⟨?_,rfl,fun o ai=>ai⟩
    have:U b≠some (.slot t):=by rw [ag];intro e;cases e;exact bY rfl
    simp only [this,if_false];exact ag
 ·refine ah.gs ⟨fun _ _ h=>h,fun _ _ h=>.inl h,fun b l' h aP=>?_,fun b h=>?_,fun b i h=>?_⟩ ah.b'
  ·have:U b≠some (.slot t):=by rw [h];intro e;cases e;exact aP t rfl
   simp only [this,if_false];exact h
  ·simp [h]
  ·split at h
   ·cases h;exact absurd rfl (aq i)
   ·exact h
 ·cases hu:T[t]? with
  | none=>rw [List.getD_eq_getElem?_getD,hu];exact .junk _
  | some u =>
    have aY:=(List.getElem?_eq_some_iff.1 hu).1;have ae:bd[t]?=some (bd[t]'(bW.len ▸ aY)):=List.getElem?_eq_getElem _;rw [List.getD_eq_getElem?_getD,hu,List.getD_eq_getElem?_getD,ae];exact bW.rel t _ _ hu ae
 ·cases hu:T[t]? with
  | none=>rw [List.getD_eq_getElem?_getD,hu];exact aV.b3 rfl
  | some u =>
    have aY:=(List.getElem?_eq_some_iff.1 hu).1;have ae:bd[t]?=some (bd[t]'(bW.len ▸ aY)):=List.getElem?_eq_getElem _;rw [List.getD_eq_getElem?_getD,hu,List.getD_eq_getElem?_getD,ae];refine (bW.own t _ _ hu ae).mono (Ext.refl J) (fun b o ai=>⟨ai,rfl⟩) fun b ag=>⟨?_,rfl,fun o ai=>ai⟩;simp [ag]
theorem jT {U:Nat→Option aG} {S:Nat→Nat→Prop} {l:aG} {cells:List I} {len z:Nat} {v:Value} (ah:aJ B U J S w H)
  (aj:Rel J S w (.ax cells len (.uniq z)) v) (ar:aV U J S w l (.ax cells len (.uniq z)) v) :
  ∃ S':Nat→Nat→Prop,(∀ b o,S b o→S' b o)∧(∀ b o,S' b o→S b o∨U b=some l)∧(∀ b o,S' b o→∃ v,w.cell? ⟨b,o,none⟩=some v) ∧
    Rel J S' w (.ax cells len .shared) v∧Rel J S' w (.ax cells len (.own z)) v∧aV U J S' w l (.ax cells len (.own z)) v:=by
 cases aj with
 | b2 c a=>exact ⟨S,fun _ _ h=>h,fun _ _ h=>.inl h,ah.b',.b2 _ _,.b2 _ _,by cases a <;> first | trivial | exact .inl ⟨rfl,rfl,rfl⟩⟩
 | ax cells len c b o cap f ak hle b8 h yp=>exact absurd rfl (b8 z)
 | cH cells len z b o cap =>
   rcases ar with ⟨rfl,rfl,rfl⟩ | ⟨ad,aT,af,aH,bh,bM,⟨cur,e,bU,cM,cN⟩,cR⟩
   ·refine ⟨S,fun _ _ h=>h,fun _ _ h=>.inl h,ah.b',?_,?_,.inl ⟨rfl,rfl,rfl⟩⟩
    ·exact .ax [] 0 .shared b o 0 (fun _=>undef) (by simp) (Nat.le_refl _) (by simp) (by simp) (by simp)
    ·exact .ax [] 0 (.own z) b o 0 (fun _=>undef) (by simp) (Nat.le_refl _) (by simp) (by simp) (by simp)
   ·simp only at aT;subst aT;(have jq:cells.length≤cur.size:=by rw [cM,bM];exact Nat.mul_le_mul_right _ af);have bw:∀ j,w.cell? ⟨b,j,none⟩=cur[j]?:=fun j=>by
     unfold World.cell?;simp only at bU;rw [bU];simp
    have aK:∀ ao o,S ao o→(S ao o∨(ao=b∧o<cells.length)):=fun _ _ h=>.inl h;have B7:∀ {u:I} {v:Value},Rel J S w u v→Rel J (fun ao o=>S ao o∨(ao=b∧o<cells.length)) w u v:=fun h=>h.mono (Ext.refl J) fun b o ai=>⟨aK b o ai,rfl⟩;have xI:∀ (j:Nat) (u:I),cells[j]?=some u→(S b (0+j)∨(b=b∧0+j<cells.length))∧w.cell? ⟨b,0+j,none⟩=some (cur.getD j undef)∧u.plain=true∧(cur.getD j undef).oneCell'=true:=by
     intro j u az;have o2:=(List.getElem?_eq_some_iff.1 az).1;have c2:cur[j]?=some (cur[j]'(by omega)):=Array.getElem?_eq_getElem _;refine ⟨.inr ⟨rfl,by omega⟩,?_,(cN j u _ az c2).1,?_⟩
     ·rw [Nat.zero_add,bw,c2];simp [Array.getD,show j<cur.size by omega]
     ·have:=(cN j u _ az c2).2.1;simpa [Array.getD,show j<cur.size by omega] using this
    have zy:∀ (j:Nat) (u:I),cells[j]?=some u→Rel J (fun ao o=>S ao o∨(ao=b∧o<cells.length)) w u (cur.getD j undef):=by
     intro j u az;have o2:=(List.getElem?_eq_some_iff.1 az).1;have c2:cur[j]?=some (cur[j]'(by omega)):=Array.getElem?_eq_getElem _;have:=B7 (cN j u _ az c2).2.2;simpa [Array.getD,show j<cur.size by omega] using this
    refine ⟨fun ao o=>S ao o∨(ao=b∧o<cells.length),aK,?_,?_,?_,?_,?_⟩
    ·rintro ao o (h | ⟨rfl,h⟩)
     ·exact .inl h
     ·exact .inr ad
    ·rintro ao o (h | ⟨rfl,h⟩)
     ·exact ah.b' ao o h
     ·exact ⟨cur[o]'(by omega),by rw [bw];exact Array.getElem?_eq_getElem _⟩
    ·exact .ax cells len .shared b 0 cap (fun j=>cur.getD j undef) (by simp) af (by simp) xI zy
    ·exact .ax cells len (.own z) b 0 cap (fun j=>cur.getD j undef) (by simp) af (by simp) xI zy
    ·refine .inr ⟨ad,trivial,rfl,af,aH,bh,bM,⟨cur,e,bU,by simpa using cM⟩,fun o ar ai=>?_⟩;simp only [Nat.zero_add] at ar;rcases ai with ai | ⟨_,ai⟩
     ·exact cR o ai
     ·omega
theorem Ei {U:Nat→Option aG} {S:Nat→Nat→Prop} {T:List I} {bd:List Value}
  (bW:a7 .slot U J S w T bd) (ah:aJ B U J S w H) (t:Nat) (cells:List I) (len z:Nat) (hu:T[t]?=some (.ax cells len (.uniq z))) :
  ∃ S',ep U S U S'∧a7 .slot U J S' w (T.set t (.ax cells len (.own z))) bd∧aJ B U J S' w H ∧
    Rel J S' w (.ax cells len .shared) (bd.getD t undef):=by
 have aY:=(List.getElem?_eq_some_iff.1 hu).1;have ae:bd[t]?=some (bd[t]'(bW.len ▸ aY)):=List.getElem?_eq_getElem _;have aj:=bW.rel t _ _ hu ae;have ar:=bW.own t _ _ hu ae;rw [List.getD_eq_getElem?_getD,ae];simp only [Option.getD_some];generalize bd[t]'(bW.len ▸ aY)=v at ae aj ar;obtain ⟨S',aL,aQ,hw,aR,r2,ew⟩:=jT ah aj ar;have aK:ep U S U S':=⟨aL,fun b o h=>(aQ b o h).imp id fun h=>⟨t,h⟩,fun _ _ h _=>h,fun _ h=>h,fun _ _ h=>h⟩;have Cx:∀ b i,i≠t→U b=some (.slot i)→∀ o,S' b o→S b o:=fun b i hi ag o ai=>by
  rcases aQ b o ai with h | h
  ·exact h
  ·rw [ag] at h;cases h;exact absurd rfl hi
 refine ⟨S',aK,⟨by simpa using bW.len,fun i bH bu b8 bc=>?_,fun i bH bu b8 bc=>?_⟩,ah.gs aK hw,aR⟩
 ·rw [List.getElem?_set] at b8;split at b8
  ·rename_i heq;subst heq;cases b8;rw [ae] at bc;cases bc;exact r2
  ·exact (bW.rel i _ _ b8 bc).gs aK
 ·rw [List.getElem?_set] at b8;split at b8
  ·rename_i heq;subst heq;cases b8;rw [ae] at bc;cases bc;exact ew
  ·rename_i bY;exact (bW.own i _ _ b8 bc).mono (Ext.refl J) (fun b o ai=>⟨aK.set b o ai,rfl⟩) fun b ag=>⟨ag,rfl,fun o ai=>Cx b i (fun e=>bY e.symm) ag o ai⟩
theorem a7.cons {bB:Nat→aG} {U:Nat→Option aG} {S:Nat→Nat→Prop} {u:I} {v:Value} {T:List I} {bd:List Value} (ad:Rel J S w u v) (af:aV U J S w (bB 0) u v)
  (h:a7 (fun i=>bB (i+1)) U J S w T bd):a7 bB U J S w (u::T) (v::bd):=by
 refine ⟨by simp [h.len],fun i bH bu hu ae=>?_,fun i bH bu hu ae=>?_⟩
 ·cases i with
  | zero=>simp at hu ae;subst hu ae;exact ad
  | succ i=>exact h.rel i bH bu (by simpa using hu) (by simpa using ae)
 ·cases i with
  | zero=>simp at hu ae;subst hu ae;exact af
  | succ i=>exact h.own i bH bu (by simpa using hu) (by simpa using ae)
theorem a7.nil {bB:Nat→aG} {U:Nat→Option aG} {S:Nat→Nat→Prop}:a7 bB U J S w [] []:=⟨rfl,by simp,by simp⟩
theorem DF (a:Act):∀ (ops:List Operand) (ts:List Bool) (T:List I) (k:Nat) (U:Nat→Option aG) (S:Nat→Nat→Prop),
  a7 .slot U J S w T a.tmps.toList→aJ B U J S w H →
  ∃ ay S',ep U S ay S'∧a7 .slot ay J S' w (rd T ts ops).2 a.tmps.toList∧aJ B ay J S' w H∧a7 (fun i=>.arg (k+i)) ay J S' w (rd T ts ops).1 (ops.map a.eval):=by
 intro ops
 induction ops with
 | nil=>intro ts T k U S bW ah;exact ⟨U,S,ep.refl _ _,by simpa [rd] using bW,ah,by simpa [rd] using a7.nil⟩
 | cons x rest a9 =>
   intro ts T k U S bW ah;have easy:∀ u:I,Rel J S w u (a.eval x)→u.plain=true→(rd T ts (x::rest))=(u::(rd T ts.tail rest).1,(rd T ts.tail rest).2) →
     ∃ ay S',ep U S ay S'∧a7 .slot ay J S' w (rd T ts (x::rest)).2 a.tmps.toList∧aJ B ay J S' w H ∧
       a7 (fun i=>.arg (k+i)) ay J S' w (rd T ts (x::rest)).1 ((x::rest).map a.eval):=by
    intro u hu aD he;obtain ⟨ay,S',g,lk,b_,ae⟩:=a9 ts.tail T (k+1) U S bW ah;rw [he];refine ⟨ay,S',g,lk,b_,?_⟩;refine a7.cons (hu.gs g) (aV.b3 aD) ?_;simpa [Nat.add_assoc,Nat.add_comm 1] using ae
   cases x with
   | const v =>
     exact easy (hg v) (k1 J S w v) (mB v) rfl
   | func f=>exact easy (.func f [] []) (.func f [] [] #[] #[] rfl rfl (by simp) (by simp) (by simp) (by simp)) rfl rfl
   | global g=>exact easy .junk (.junk _) rfl rfl
   | tmp t =>
     (have jr:a.eval (.tmp t)=a.tmps.toList.getD t undef:=by simp [Act.eval,Array.getD_eq_getD_getElem?]);cases aw:ts.headD false with
     | true =>
       obtain ⟨b5,cn,j',bV,di,jv⟩:=E1 (.arg k) (by simp) bW ah t;obtain ⟨ay,S',g,lk,b_,ae⟩:=a9 ts.tail (T.set t .junk) (k+1) b5 S j' bV;have he:rd T ts (.tmp t::rest)=(T.getD t .junk::(rd (T.set t .junk) ts.tail rest).1,(rd (T.set t .junk) ts.tail rest).2):=by
        simp only [rd,aw,gL,fR]
       rw [he];refine ⟨ay,S',cn.trans g,lk,b_,?_⟩;refine a7.cons ?_ ?_ ?_
       ·rw [jr];exact di.gs g
       ·rw [jr];exact jv.gs g (by simp)
       ·simpa [Nat.add_assoc,Nat.add_comm 1] using ae
     | false =>
       have he:rd T ts (.tmp t::rest)=((T.getD t .junk).view::(rd (fL T t (T.getD t .junk)) ts.tail rest).1,(rd (fL T t (T.getD t .junk)) ts.tail rest).2):=by
        simp only [rd,aw,fR]
       by_cases bl:∃ cells len z,T[t]?=some (.ax cells len (.uniq z))
       ·obtain ⟨cells,len,z,bl⟩:=bl;obtain ⟨a5,cn,j',bV,di⟩:=Ei bW ah t cells len z bl;obtain ⟨ay,S',g,lk,b_,ae⟩:=a9 ts.tail (T.set t (.ax cells len (.own z))) (k+1) U a5 j' bV;(have aK:T.getD t .junk=.ax cells len (.uniq z):=by rw [List.getD_eq_getElem?_getD,bl];rfl);rw [he,aK];simp only [fL,gL,I.view];refine ⟨ay,S',cn.trans g,lk,b_,?_⟩;refine a7.cons ?_ (aV.b3 rfl) ?_
        ·rw [jr];exact di.gs g
        ·simpa [Nat.add_assoc,Nat.add_comm 1] using ae
       ·have pa:(T.getD t .junk).cP=true:=by
         rw [List.getD_eq_getElem?_getD];cases hu:T[t]? with
         | none=>rfl
         | some u =>
           simp only [Option.getD_some];unfold I.cP;split
           ·exact absurd ⟨_,_,_,hu⟩ bl
           ·rfl
        have eb:fL T t (T.getD t .junk)=T:=by
         unfold fL;split
         ·rename_i h;rw [h] at pa;simp [I.cP] at pa
         ·rfl
        have aj:Rel J S w (T.getD t .junk) (a.eval (.tmp t)):=by
         rw [jr];cases hu:T[t]? with
         | none=>rw [List.getD_eq_getElem?_getD,hu];exact .junk _
         | some u =>
           have aY:=(List.getElem?_eq_some_iff.1 hu).1;have ae:a.tmps.toList[t]?=some (a.tmps.toList[t]'(bW.len ▸ aY)):=List.getElem?_eq_getElem _;rw [List.getD_eq_getElem?_getD,hu,List.getD_eq_getElem?_getD,ae];exact bW.rel t _ _ hu ae
        refine easy (T.getD t .junk).view (aj.view pa) (I.c_ _) ?_;rw [he,eb]
end
end Go.Proofs.YtfakoboiahbhaaaGreat.Ab


namespace Go.Proofs.YtfakoboiahbhaaaGreat.Ab
open Go
section
variable {P:Program} {B:Nat} {J:List Nat} {w:World} {H:List au} {U:Nat→Option aG} {S:Nat→Nat→Prop}
def a0 (B:Nat) (U:Nat→Option aG) (J:List Nat) (S:Nat→Nat→Prop) (w:World) (H':List au) (r:I) (v:Value) (w':World):Prop :=
 ∃ ay bZ S',Ext J bZ∧bj U S w ay S' w'∧aJ B ay bZ S' w' H'∧Rel bZ S' w' r v∧aV ay bZ S' w' .res r v
theorem a0.same (ah:aJ B U J S w H) {r:I} {v:Value} (aj:Rel J S w r v) (aD:r.plain=true):a0 B U J S w H r v w :=
 ⟨U,J,S,Ext.refl J,bj.refl _ _ _,ah,aj,aV.b3 aD⟩
theorem aJ.settle (ah:aJ B U J S w H) {S':Nat→Nat→Prop} (ad:∀ b o,S b o→S' b o)
  (af:∀ b o,S' b o→S b o∨∃ l,U b=some l∧(∀ id,l≠.obj id)∧∀ id j,l≠.cell id j) (aH:∀ b o,S' b o→∃ v,w.cell? ⟨b,o,none⟩=some v):aJ B U J S' w H:=by
 have hm:∀ {u:I} {v:Value},Rel J S w u v→Rel J S' w u v:=fun h=>h.mono (Ext.refl J) fun b o ai=>⟨ad b o ai,rfl⟩;refine ⟨ah.cA,fun id o ar=>?_,aH,ah.base,ah.cV⟩;have h:=ah.obj id o ar;cases o with
 | dead=>trivial
 | cells l =>
   obtain ⟨b,cur,e,aB,aF,aS,bp,bf,bg⟩:=h;refine ⟨b,cur,e,aB,aF,aS,bp,fun o ai=>?_,fun j u v hu ae=>?_⟩
   ·rcases af b o ai with h | ⟨l,h,b9,_⟩
    ·exact bf o h
    ·rw [aF] at h;cases h;exact b9 id rfl
   ·obtain ⟨a',c0,bm,bt⟩:=bg j u v hu ae;refine ⟨a',c0,hm bm,bt.mono (Ext.refl J) (fun b o ai=>⟨ad b o ai,rfl⟩) fun b ag=>⟨ag,rfl,fun o ai=>?_⟩⟩;rcases af b o ai with h | ⟨l,h,_,cj⟩
    ·exact h
    ·rw [ag] at h;cases h;exact absurd rfl (cj id j)
 | grow l gid z =>
   obtain ⟨b,cur,e,aB,aF,aS,bp,bf,bg,cY⟩:=h;refine ⟨b,cur,e,aB,aF,aS,bp,fun o ai=>?_,fun j u v hu ae=>?_,cY⟩
   ·rcases af b o ai with h | ⟨l,h,b9,_⟩
    ·exact bf o h
    ·rw [aF] at h;cases h;exact b9 id rfl
   ·obtain ⟨a',c0,bm,bt⟩:=bg j u v hu ae;refine ⟨a',c0,hm bm,bt.mono (Ext.refl J) (fun b o ai=>⟨ad b o ai,rfl⟩) fun b ag=>⟨ag,rfl,fun o ai=>?_⟩⟩;rcases af b o ai with h | ⟨l,h,_,cj⟩
    ·exact h
    ·rw [ag] at h;cases h;exact absurd rfl (cj id j)
 | loop st cB fn T params assign body jg =>
   obtain ⟨al,aZ,b,L,aB,aF,aS,bp,bf,bg,cY,c4,dv⟩:=h;exact ⟨al,aZ,b,L,aB,aF,aS,bp,bf,bg,cY,fun i u v hu ae=>⟨(c4 i u v hu ae).1,hm (c4 i u v hu ae).2⟩,dv⟩
 | map es clock =>
   obtain ⟨b,bx,aB,aF,aS,bp,bf,bg⟩:=h;refine ⟨b,bx,aB,aF,aS,bp,fun o ai=>?_,fun j i k v x hu ae=>?_⟩
   ·rcases af b o ai with h | ⟨l,h,b9,_⟩
    ·exact bf o h
    ·rw [aF] at h;cases h;exact b9 id rfl
   ·obtain ⟨a',bm,bt,b6,dQ⟩:=bg j i k v x hu ae;exact ⟨a',bm,hm bt,b6,hm dQ⟩
 | iter m s e t =>
   obtain ⟨b,d_,aB,aF,aS,bp,bf⟩:=h;refine ⟨b,d_,aB,aF,aS,bp,fun o ai=>?_⟩;rcases af b o ai with h | ⟨l,h,b9,_⟩
   ·exact bf o h
   ·rw [aF] at h;cases h;exact b9 id rfl
theorem bj.settle {S':Nat→Nat→Prop} (ad:∀ b o,S b o→S' b o) (af:∀ b o,S' b o→S b o∨∃ l,U b=some l):bj U S w U S' w :=
 ⟨rfl,rfl,rfl,Nat.le_refl _,fun _ _ _=>rfl,fun b o h=>⟨ad b o h,rfl⟩,fun b o h=>(af b o h).imp id fun ⟨l,aq⟩=>.inl (by simp [aq]),fun _ h=>.inl h⟩
theorem a7.gN {bB:Nat→aG} {u:I} {T:List I} {bd:List Value} (h:a7 bB U J S w (u::T) bd) :
  ∃ v hB,bd=v::hB∧Rel J S w u v∧aV U J S w (bB 0) u v∧a7 (fun i=>bB (i+1)) U J S w T hB:=by
 cases bd with
 | nil=>exact absurd h.len (by simp)
 | cons v hB =>
   exact ⟨v,hB,rfl,h.rel 0 u v rfl rfl,h.own 0 u v rfl rfl,by simpa using h.len,fun i bH bu hu ae=>h.rel (i+1) bH bu (by simpa using hu) (by simpa using ae),
    fun i bH bu hu ae=>h.own (i+1) bH bu (by simpa using hu) (by simpa using ae)⟩
theorem Eh:∀ (T:List I) (bd:List Value) (bB:Nat→aG) (S:Nat→Nat→Prop),(∀ i j,bB i=bB j→i=j)→(∀ i id,bB i≠.obj id)→(∀ i id j,bB i≠.cell id j) →
  a7 bB U J S w T bd→aJ B U J S w H →
  ∃ S':Nat→Nat→Prop,(∀ b o,S b o→S' b o)∧(∀ b o,S' b o→S b o∨∃ i,U b=some (bB i))∧aJ B U J S' w H∧a7 bB U J S' w (T.map I.view) bd:=by
 intro T
 induction T with
 | nil=>intro bd bB S _ _ _ ae ah;exact ⟨S,fun _ _ h=>h,fun _ _ h=>.inl h,ah,by simpa using ae⟩
 | cons u T a9 =>
   intro bd bB S az b9 cj ae ah;obtain ⟨v,hB,rfl,aj,ar,aw⟩:=ae.gN;have first:∃ a5:Nat→Nat→Prop,(∀ b o,S b o→a5 b o)∧(∀ b o,a5 b o→S b o∨U b=some (bB 0))∧aJ B U J a5 w H∧Rel J a5 w u.view v:=by
    by_cases hu:u.cP=true
    ·exact ⟨S,fun _ _ h=>h,fun _ _ h=>.inl h,ah,aj.view hu⟩
    ·obtain ⟨cells,len,z,rfl⟩:∃ cells len z,u=.ax cells len (.uniq z):=by
      unfold I.cP at hu;split at hu
      ·exact ⟨_,_,_,rfl⟩
      ·simp at hu
     obtain ⟨a5,aL,aQ,ch,aR,_,_⟩:=jT ah aj ar;exact ⟨a5,aL,aQ,ah.settle aL (fun b o h=>(aQ b o h).imp id fun h=>⟨_,h,b9 0,cj 0⟩) ch,aR⟩
   (obtain ⟨a5,aL,aQ,bV,di⟩:=first);have pf:a7 (fun i=>bB (i+1)) U J a5 w T hB:=by
    refine ⟨aw.len,fun i bH bu hu ae=>(aw.rel i bH bu hu ae).mono (Ext.refl J) fun b o ai=>⟨aL b o ai,rfl⟩,fun i bH bu hu ae=>?_⟩;refine (aw.own i bH bu hu ae).mono (Ext.refl J) (fun b o ai=>⟨aL b o ai,rfl⟩) fun b ag=>⟨ag,rfl,fun o ai=>?_⟩;rcases aQ b o ai with h | h
    ·exact h
    ·rw [ag] at h;injection h with h;exact absurd (az _ _ h) (by omega)
   obtain ⟨S',dj,dc,b_,bc⟩:=a9 hB (fun i=>bB (i+1)) a5 (fun i j h=>by have:=az _ _ h;omega) (fun i=>b9 (i+1)) (fun i=>cj (i+1)) pf bV;refine ⟨S',fun b o h=>dj b o (aL b o h),fun b o h=>?_,b_,?_⟩
   ·rcases dc b o h with h | ⟨i,h⟩
    ·exact (aQ b o h).imp id fun h=>⟨0,h⟩
    ·exact .inr ⟨i+1,h⟩
   ·exact a7.cons (di.mono (Ext.refl J) fun b o ai=>⟨dj b o ai,rfl⟩) (aV.b3 (I.c_ _)) bc
theorem Rel.c6 {k:IntKind} {n:Int} {v:Value} (h:Rel J S w (.int k n) v):v=.int k n:=by cases h;rfl
theorem Rel.hM {b:Bool} {v:Value} (h:Rel J S w (.bool b) v):v=.bool b:=by cases h;rfl
theorem Rel.AX {v:Value} (h:Rel J S w .dg v):∃ b,v=.bool b:=by cases h;exact ⟨_,rfl⟩
def eY (P:Program) (o:Oper) (aU:Operand→Value) (J:List Nat) (S:Nat→Nat→Prop) (w:World) (r:I):Prop :=
 ∃ v,(Go.execOp aU o).run P w=.ok (.value v) w∧Rel J S w r v
theorem y1 {o:Oper} {aU:Operand→Value} {c a b:Operand} (ar:o.op=.pick c a b) {x:Bool} {fp gb:I} (ad:Rel J S w (.bool x) (aU c))
  (af:Rel J S w fp (aU a)) (aH:Rel J S w gb (aU b)):eY P o aU J S w (match x with | true=>fp | false=>gb):=by
 have e:=ad.hM;cases x with
 | true=>exact ⟨aU a,by simp [Go.execOp,ar,e,asBool],af⟩
 | false=>exact ⟨aU b,by simp [Go.execOp,ar,e,asBool],aH⟩
theorem Da {o:Oper} {aU:Operand→Value} {x:Operand} (ar:o.op=.nilCheck x) {id off:Nat} (ad:Rel J S w (.ptr id off) (aU x)) :
  eY P o aU J S w (.ptr id off):=by
 refine ⟨aU x,?_,ad⟩;generalize al:aU x=cy at ad ⊢;cases ad with
 | ptr id off b h=>simp [Go.execOp,ar,al]
theorem Db {o:Oper} {aU:Operand→Value} {x:Operand} (ar:o.op=.nilCheck x) {cells:List I} (ad:Rel J S w (.bT cells) (aU x)) :
  eY P o aU J S w (.bT cells):=by
 generalize ae:aU x=v at ad;have af:=ad;cases ad with
 | bT _ b cK f h aj=>exact ⟨.pointer (some ⟨b,cK,none⟩),by simp [Go.execOp,ar,ae],af⟩
theorem Dc {o:Oper} {aU:Operand→Value} {op:UnOp} {t:TypeId} {x:Operand} (ar:o.op=.unOp op t x) {u r:I} (aj:j2 op u=some r) (ad:Rel J S w u (aU x)) :
  eY P o aU J S w r:=by
 unfold j2 at aj;split at aj
 ·have e:=ad.hM;cases op <;> simp at aj;subst aj;exact ⟨_,by simp [Go.execOp,ar,e,Op.unary],.bool _⟩
 ·have e:=ad.c6;cases op <;> simp at aj;subst aj;exact ⟨_,by simp [Go.execOp,ar,e,Op.unary,Op.intArith],.int _ _⟩
 ·simp at aj
theorem C4 {o:Oper} {aU:Operand→Value} {s d:TypeId} {x:Operand} (ar:o.op=.convert s d x) {u r:I} (aj:kZ P s d u=some r) (ad:Rel J S w u (aU x)):eY P o aU J S w r:=by
 unfold kZ at aj;split at aj
 ·have e:=ad.c6;split at aj
  ·rename_i ds k BJ av;simp at aj;subst aj;refine ⟨_,?_,.int _ _⟩;simp only [Go.execOp,ar,e,convert,Sem.run_bind,run_underlying BJ,run_underlying av,Result.andThen_ok];cases ds <;> simp [Conv.intToInt]
  ·simp at aj
 ·simp at aj
theorem C9 {o:Oper} {aU:Operand→Value} {fn:Fn} {first captured:Array Operand} (ar:o.op=.makeFunc fn first captured) {us:List I} {r:I}
  (aj:l8 fn first.size captured.size us=some r) {bB:Nat→aG} (ae:a7 bB U J S w us ((first++captured).toList.map aU)) (aD:∀ u∈us,u.plain=true) :
  eY P o aU J S w r:=by
 unfold l8 at aj;split at aj
 ·rename_i f;split at aj
  ·rename_i aq;simp at aj;subst aj;refine ⟨.func (.func f) (first.map aU) (captured.map aU),by simp [Go.execOp,ar,Instr.makeFunc],.func f _ _ _ _ ?_ ?_ ?_ ?_ ?_ ?_⟩
   ·simp;omega
   ·simp;omega
   ·exact fun u hu=>aD u (List.mem_of_mem_take hu)
   ·exact fun u hu=>aD u (List.mem_of_mem_drop hu)
   ·intro j u v hu bc;refine ae.rel j u v ?_ ?_
    ·rw [List.getElem?_take] at hu;split at hu <;> simp_all
    ·simp only [Array.getElem?_map,Option.map_eq_some_iff] at bc;obtain ⟨x,al,rfl⟩:=bc;have:=(Array.getElem?_eq_some_iff.1 al).1;rw [Array.getElem?_eq_getElem this] at al;cases al;simp [List.getElem?_append_left,this]
   ·intro j u v hu bc;refine ae.rel (first.size+j) u v ?_ ?_
    ·simpa [List.getElem?_drop] using hu
    ·simp only [Array.getElem?_map,Option.map_eq_some_iff] at bc;obtain ⟨x,al,rfl⟩:=bc;simp [List.getElem?_append_right,al]
  ·simp at aj
 ·simp at aj
theorem C6 {o:Oper} {aU:Operand→Value} {x:Operand} {i:Nat} (ar:o.op=.extract x i) {u r:I} (aj:mz i u=some r) (ad:Rel J S w u (aU x)) :
  eY P o aU J S w r.view:=by
 unfold mz at aj;generalize al:aU x=cy at ad;split at aj
 ·cases ad with
  | tuple as vs h p mh =>
    have aY:=(List.getElem?_eq_some_iff.1 aj).1;have ae:vs[i]?=some (vs[i]'(by omega)):=Array.getElem?_eq_getElem _;have aD:r.plain=true:=p r (List.mem_of_getElem? aj);refine ⟨vs[i]'(by omega),?_,?_⟩
    ·simp [Go.execOp,ar,al,Instr.extract,ae]
    ·rw [I.jZ aD];exact mh i _ _ aj ae
 ·simp at aj
theorem D4 {op:BinOp} {t:TypeId} {x y:Operand} {k k':IntKind} {a b:Int}:(eqGuard op t x y (.int k a) (.int k' b)).run P w=.ok () w:=by
 unfold eqGuard;split <;> simp
theorem D3 {op:BinOp} {t:TypeId} {k k':IntKind} {a b:Int} {r:I} (aj:fe P op t (.int k a) (.int k' b)=some r) :
  ∃ v,(Go.binOp op t (.int k a) (.int k' b)).run P w=.ok v w∧Rel J S w r v:=by
 have Ej:∀ l6,(l6=.shl∨l6=.shr)→hf l6 k a b=some r→∃ v,(Op.shift l6 k a k' b).run P w=.ok v w∧Rel J S w r v:=by
  intro l6 aC h;unfold hf at h;split at h
  ·simp at h
  ·rename_i ag;rcases aC with rfl | rfl <;> simp at h <;> subst h
   ·exact ⟨_,by simp [Op.shift,ag],.int _ _⟩
   ·exact ⟨_,by simp [Op.shift,ag],.int _ _⟩
 have A1:k=k'→je op k a b=some r→∃ v,(Go.binOp op t (.int k a) (.int k' b)).run P w=.ok v w∧Rel J S w r v:=by
  rintro rfl h;cases op <;> simp only [je,Option.some.injEq,reduceCtorEq] at h
  case quo =>
   split at h
   ·simp at h
   ·rename_i ag;simp at h;subst h;exact ⟨_,by simp [Go.binOp,Op.intDiv,ag],.int _ _⟩
  case rem =>
   split at h
   ·simp at h
   ·rename_i ag;simp at h;subst h;exact ⟨_,by simp [Go.binOp,Op.intDiv,ag],.int _ _⟩
  all_goals subst h
  all_goals first
   | (refine ⟨_,?_,.bool _⟩;simp [Go.binOp,Op.intCmp];done)
   | (refine ⟨_,?_,.int _ _⟩;simp [Go.binOp,Op.intArith];done)
   | (refine ⟨_,?_,.int _ _⟩;simp [Go.binOp,Op.intBits];done)
 unfold fe at aj;cases op <;> simp only at aj <;> first
  | (obtain ⟨v,ad,af⟩:=Ej _ (by simp) aj;exact ⟨v,by simpa [Go.binOp] using ad,af⟩)
  | (split at aj
     ·exact A1 ‹_› aj
     ·simp at aj)
theorem C3 {o:Oper} {aU:Operand→Value} {op:BinOp} {t h8:TypeId} {x y:Operand} (ar:o.op=.binOp op t x y h8) {k k':IntKind} {a b:Int} {r:I}
  (aj:fe P op t (.int k a) (.int k' b)=some r) (ad:Rel J S w (.int k a) (aU x)) (af:Rel J S w (.int k' b) (aU y)):eY P o aU J S w r:=by
 obtain ⟨v,ae,b7⟩:=D3 (P:=P) (w:=w) (J:=J) (S:=S) (t:=t) aj;refine ⟨v,?_,b7⟩;simp only [Go.execOp,ar,ad.c6,af.c6,Sem.run_bind,D4,ae,Result.andThen_ok,Sem.run_pure]
theorem mn {t:TypeId} {s:Nat} (h:bQ P t=some s):∃ i,P.info? t=some i∧i.size=s:=by
 simp only [bQ,Option.map_eq_some_iff] at h;exact h
theorem run_sizeOf {t:TypeId} {s:Nat} (h:bQ P t=some s):(sizeOf t).run P w=.ok s w:=by
 obtain ⟨i,hi,rfl⟩:=mn h;simp [sizeOf,typeInfo,hi]
theorem gI {t:TypeId} {d:TypeDesc} (h:P.underlying t=some d):(isAgg t).run P w=.ok (dz P t) w:=by
 simp only [isAgg,dz,h,Sem.run_bind,run_underlying h,Result.andThen_ok];cases d <;> simp
theorem k8 {i:Int} {len j:Nat} (h:gQ i len=some j):0≤i∧i<len∧j=i.toNat:=by
 unfold gQ at h;split at h
 ·simp at h;exact ⟨by omega,by omega,h.symm⟩
 ·simp at h
theorem add_lit (b o n:Nat):(⟨b,o,none⟩:Addr).add n=⟨b,o+n,none⟩:=by
 unfold Addr.add;split <;> simp_all
theorem Rel.drop {cells:List I} {b o:Nat} {f:Nat→Value} (n:Nat)
  (h:∀ (j:Nat) (u:I),cells[j]?=some u→S b (o+j)∧w.cell? ⟨b,o+j,none⟩=some (f j)∧u.plain=true∧(f j).oneCell'=true)
  (aj:∀ (j:Nat) (u:I),cells[j]?=some u→Rel J S w u (f j)):Rel J S w (.bT (cells.drop n)) (.pointer (some ⟨b,o+n,none⟩)):=by
 refine .bT _ b (o+n) (fun j=>f (n+j)) (fun j u hu=>?_) (fun j u hu=>?_)
 ·rw [List.getElem?_drop] at hu;have:=h (n+j) u hu
  rwa [show o+n+j=o+(n+j) by omega]
 ·rw [List.getElem?_drop] at hu;exact aj (n+j) u hu
theorem C' {o:Oper} {aU:Operand→Value} {t:TypeId} {x i:Operand} (ar:o.op=.indexAddr t x i) {fp gb r:I} (aj:hK P t fp gb=some r)
  (ad:Rel J S w fp (aU x)) (af:Rel J S w gb (aU i)) (aP:fp.cP=true):eY P o aU J S w r:=by
 unfold hK at aj;generalize al:aU x=cy at ad;split at aj
 ·rename_i a2;simp only [Option.bind_eq_some_iff,Option.map_eq_some_iff] at aj;obtain ⟨s,ai,j,az,rfl⟩:=aj;obtain ⟨dj,dc,rfl⟩:=k8 az;have e:=af.c6;cases ad with
  | b2 c a=>exact absurd dc (by simp;omega)
  | cH=>simp [I.cP] at aP
  | ax cells len c b jF cap f ak hle hu h fk =>
    refine ⟨_,?_,Rel.drop _ h fk⟩;simp [Go.execOp,ar,al,e,Instr.indexAt,asIntOf,run_underlying a2,dj,dc,run_sizeOf ai,add_lit]
 ·rename_i a2;simp only [Option.bind_eq_some_iff,Option.map_eq_some_iff] at aj;obtain ⟨s,ai,j,az,rfl⟩:=aj;obtain ⟨dj,dc,rfl⟩:=k8 az;have e:=af.c6;cases ad with
  | ref id off len c sz b cap h ak hle =>
    refine ⟨_,?_,.ptr _ _ b h⟩;simp [Go.execOp,ar,al,e,Instr.indexAt,asIntOf,run_underlying a2,dj,dc,run_sizeOf ai,add_lit]
 ·rename_i a2;simp only [Option.bind_eq_some_iff,Option.map_eq_some_iff] at aj;obtain ⟨s,ai,j,az,rfl⟩:=aj;obtain ⟨dj,dc,rfl⟩:=k8 az;have e:=af.c6;cases ad with
  | ptr id off b h =>
    refine ⟨_,?_,.ptr _ _ b h⟩;simp [Go.execOp,ar,al,e,Instr.indexAt,asIntOf,Instr.sureAddr,run_underlying a2,dj,dc,run_sizeOf ai,add_lit]
 ·rename_i a2;simp only [Option.bind_eq_some_iff,Option.map_eq_some_iff] at aj;obtain ⟨s,ai,j,az,rfl⟩:=aj;obtain ⟨dj,dc,rfl⟩:=k8 az;have e:=af.c6;cases ad with
  | bT cells b jF f h fk =>
    refine ⟨_,?_,Rel.drop _ h fk⟩;simp [Go.execOp,ar,al,e,Instr.indexAt,asIntOf,Instr.sureAddr,run_underlying a2,dj,dc,run_sizeOf ai,add_lit]
 ·simp at aj
theorem z6 {b o s:Nat} {g:Field} (ai:bQ P g.type=some s) (aT:s≠0):(fieldPlace ⟨b,o,none⟩ g).run P w=.ok ⟨b,o+g.offset,none⟩ w:=by
 simp [fieldPlace,run_sizeOf ai,aT,add_lit]
theorem C8 {o:Oper} {aU:Operand→Value} {t:TypeId} {x:Operand} {lb:Nat} (ar:o.op=.fieldAddr t x lb) {u r:I} (aj:jf P t u lb=some r)
  (ad:Rel J S w u (aU x)):eY P o aU J S w r:=by
 unfold jf at aj;generalize al:aU x=cy at ad;split at aj
 ·rename_i a2;simp only [Option.bind_eq_some_iff] at aj;obtain ⟨g,aK,s,ai,aj⟩:=aj;split at aj
  ·simp at aj
  ·rename_i aT;simp at aj;subst aj;cases ad with
   | ptr id off b h =>
     refine ⟨_,?_,.ptr _ _ b h⟩;simp [Go.execOp,ar,al,Instr.fieldAt,Instr.sureAddr,run_underlying a2,aK,z6 ai aT]
 ·rename_i a2;simp only [Option.bind_eq_some_iff] at aj;obtain ⟨g,aK,s,ai,aj⟩:=aj;split at aj
  ·simp at aj
  ·rename_i aT;simp at aj;subst aj;cases ad with
   | bT cells b jF f h fk =>
     refine ⟨_,?_,Rel.drop _ h fk⟩;simp [Go.execOp,ar,al,Instr.fieldAt,Instr.sureAddr,run_underlying a2,aK,z6 ai aT]
 ·simp at aj
theorem yF {t:TypeId} (h:dz P t=true):∃ d,P.underlying t=some d:=by
 unfold dz at h;split at h <;> first | exact ⟨_,by assumption⟩ | simp at h
theorem z' {t:TypeId} {as:List I} {vs:Array Value} {off:Nat} {r:I} (aj:ie P t as off=some r) (aq:vs.size=as.length)
  (aD:∀ u∈as,u.plain=true) (eg:∀ v∈vs.toList,v.oneCell'=true) (b7:∀ (j:Nat) (u:I) (v:Value),as[j]?=some u→vs[j]?=some v→Rel J S w u v) :
  ∃ v,(part t vs off).run P w=.ok v w∧Rel J S w r v∧r.plain=true:=by
 unfold ie at aj;cases cI:dz P t with
 | true =>
   obtain ⟨d,a2⟩:=yF cI;rw [cI] at aj;simp only [Option.bind_eq_some_iff] at aj;obtain ⟨s,ai,aj⟩:=aj;split at aj
   ·rename_i hle;simp at aj;subst aj;refine ⟨.agg (vs.extract off (off+s)),by simp [part,gI a2,cI,run_sizeOf ai],.agg _ _ ?_ ?_ ?_ ?_,rfl⟩
    ·simp;omega
    ·exact fun u hu=>aD u (List.mem_of_mem_drop (List.mem_of_mem_take hu))
    ·exact fun v ae=>eg v (by rw [Array.toList_extract] at ae;exact List.mem_of_mem_drop (List.mem_of_mem_take ae))
    ·intro j u v hu ae;rw [List.getElem?_take] at hu;split at hu
     ·rw [List.getElem?_drop] at hu;rw [Array.getElem?_extract] at ae;split at ae
      ·exact b7 _ u v hu ae
      ·simp at ae
     ·simp at hu
   ·simp at aj
 | false =>
   rw [cI] at aj;simp only at aj;split at aj
   ·rename_i d a2;have aY:=(List.getElem?_eq_some_iff.1 aj).1;have ae:vs[off]?=some (vs[off]'(by omega)):=Array.getElem?_eq_getElem _;exact ⟨_,by simp [part,gI a2,cI,ae],b7 off _ _ aj ae,aD r (List.mem_of_getElem? aj)⟩
   ·simp at aj
theorem C7 {o:Oper} {aU:Operand→Value} {t:TypeId} {x:Operand} {lb:Nat} (ar:o.op=.field t x lb) {u r:I} (aj:mA P t u lb=some r)
  (ad:Rel J S w u (aU x)):eY P o aU J S w r.view:=by
 unfold mA at aj;generalize al:aU x=cy at ad;split at aj
 ·rename_i a2;simp only [Option.bind_eq_some_iff] at aj;obtain ⟨g,aK,aj⟩:=aj;cases ad with
  | agg as vs h p one mh =>
    obtain ⟨v,ae,b7,hT⟩:=z' (w:=w) aj h p one mh;refine ⟨v,?_,by rw [I.jZ hT];exact b7⟩;simp [Go.execOp,ar,al,Instr.field,run_underlying a2,aK,asAgg,ae]
 ·simp at aj
theorem C_ {o:Oper} {aU:Operand→Value} {t:TypeId} {x i:Operand} (ar:o.op=.index t x i) {fp gb r:I} (aj:n7 P t fp gb=some r)
  (ad:Rel J S w fp (aU x)) (af:Rel J S w gb (aU i)):eY P o aU J S w r.view:=by
 unfold n7 at aj;generalize al:aU x=cy at ad;split at aj
 ·rename_i a2;simp only [Option.bind_eq_some_iff] at aj;obtain ⟨s,ai,j,az,aj⟩:=aj;obtain ⟨dj,dc,rfl⟩:=k8 az;have e:=af.c6;cases ad with
  | agg as vs h p one mh =>
    obtain ⟨v,ae,b7,hT⟩:=z' (w:=w) aj h p one mh;refine ⟨v,?_,by rw [I.jZ hT];exact b7⟩;simp [Go.execOp,ar,al,e,Instr.index,asIntOf,run_underlying a2,dj,dc,run_sizeOf ai,ae]
 ·rename_i b k n a2;have e:=af.c6;split at aj
  ·rename_i aT;simp only [Option.map_eq_some_iff] at aj;obtain ⟨y,aZ,rfl⟩:=aj;cases ad with
   | str b =>
     refine ⟨_,?_,.int _ _⟩;simp [Go.execOp,ar,al,e,Instr.index,asIntOf,run_underlying a2,aT,aZ]
  ·simp at aj
 ·simp at aj
theorem D6 {t e:TypeId} (d:Nat) (aw:P.underlying t=some (.slice e)) (a:Addr) (len cap:Nat) :
  (Op.equalIn (d+1) t (.slice (some a) len cap) (.slice none 0 0)).run P w=.ok false w:=by
 rw [Op.equalIn];simp [run_underlying aw]
theorem nI {t e:TypeId} (aw:P.underlying t=some (.slice e)) (a:Addr) (len cap:Nat) :
  (Op.equal t (.slice (some a) len cap) (.slice none 0 0)).run P w=.ok false w:=D6 9999 aw a len cap
theorem run_equalIn_bool {t:TypeId} (d:Nat) (aw:P.underlying t=some .bool) (a b:Bool):(Op.equalIn (d+1) t (.bool a) (.bool b)).run P w=.ok (a == b) w:=by
 rw [Op.equalIn];simp [run_underlying aw]
theorem run_equal_bool {t:TypeId} (aw:P.underlying t=some .bool) (a b:Bool):(Op.equal t (.bool a) (.bool b)).run P w=.ok (a == b) w:=run_equalIn_bool 9999 aw a b
theorem D7 {t e:TypeId} (d:Nat) (aw:P.underlying t=some (.slice e)) (len cap:Nat) :
  (Op.equalIn (d+1) t (.slice none len cap) (.slice none 0 0)).run P w=.ok true w:=by
 rw [Op.equalIn];simp [run_underlying aw]
theorem z5 {t e:TypeId} (aw:P.underlying t=some (.slice e)) (len cap:Nat) :
  (Op.equal t (.slice none len cap) (.slice none 0 0)).run P w=.ok true w:=D7 9999 aw len cap
theorem C5 {o:Oper} {aU:Operand→Value} {op:BinOp} {t h8:TypeId} {x y:Operand} (ar:o.op=.binOp op t x y h8) (aZ:iE y=true) {u r:I}
  (aj:my P op t u=some r) (ad:Rel J S w u (aU x)) (eF:∀ v,aU (.const v)=v):eY P o aU J S w r:=by
 have CB:y=.const (.slice none 0 0):=by
  unfold iE at aZ;split at aZ
  ·rfl
  ·simp at aZ
 subst CB;generalize al:aU x=cy at ad;unfold my at aj;split at aj
 ·rename_i e aw;have ai:((∃ b jF len cap,cy=.slice (some ⟨b,jF,none⟩) len cap)∧((op=.eql∧r=.bool false)∨(op=.neq∧r=.bool true))) ∨
    ((∃ a len cap,cy=.slice a len cap)∧(op=.eql∨op=.neq)∧r=.dg):=by
   split at aj
   ·refine .inl ⟨?_,by split at aj <;> simp_all⟩;cases ad with
    | ax cells len c b jF cap f ak hle hu h fk=>exact ⟨_,_,_,_,rfl⟩
    | cH=>exact ⟨_,_,_,_,rfl⟩
   ·refine .inl ⟨?_,by split at aj <;> simp_all⟩;cases ad with
    | ref id off len c sz b cap h ak hle=>exact ⟨_,_,_,_,rfl⟩
   ·refine .inr ⟨?_,by split at aj <;> simp_all⟩;cases ad with
    | b2 c a=>exact ⟨_,_,_,rfl⟩
    | ax cells len c b jF cap f ak hle hu h fk=>exact ⟨_,_,_,rfl⟩
    | cH=>exact ⟨_,_,_,rfl⟩
   ·simp at aj
  rcases ai with ⟨⟨b,jF,len,cap,rfl⟩,⟨rfl,rfl⟩ | ⟨rfl,rfl⟩⟩ | ⟨⟨a,len,cap,rfl⟩,aC,rfl⟩
  ·exact ⟨.bool false,by simp [Go.execOp,ar,al,eF,eqGuard,Go.binOp,nI aw],.bool _⟩
  ·exact ⟨.bool true,by simp [Go.execOp,ar,al,eF,eqGuard,Go.binOp,nI aw],.bool _⟩
  ·rcases aC with rfl | rfl
   ·cases a with
    | none=>exact ⟨.bool true,by simp [Go.execOp,ar,al,eF,eqGuard,Go.binOp,z5 aw],.dg _⟩
    | some a=>exact ⟨.bool false,by simp [Go.execOp,ar,al,eF,eqGuard,Go.binOp,nI aw],.dg _⟩
   ·cases a with
    | none=>exact ⟨.bool false,by simp [Go.execOp,ar,al,eF,eqGuard,Go.binOp,z5 aw],.dg _⟩
    | some a=>exact ⟨.bool true,by simp [Go.execOp,ar,al,eF,eqGuard,Go.binOp,nI aw],.dg _⟩
 ·simp at aj
theorem C2 {o:Oper} {aU:Operand→Value} {op:BinOp} {t h8:TypeId} {x y:Operand} (ar:o.op=.binOp op t x y h8) {a b:Bool} {r:I}
  (aj:fe P op t (.bool a) (.bool b)=some r) (ad:Rel J S w (.bool a) (aU x)) (af:Rel J S w (.bool b) (aU y)):eY P o aU J S w r:=by
 simp only [fe] at aj;have e1:=ad.hM;have cd:=af.hM;split at aj
 ·rename_i aw;simp at aj;subst aj;exact ⟨_,by simp [Go.execOp,ar,e1,cd,eqGuard,Go.binOp,run_equal_bool aw],.bool _⟩
 ·rename_i aw;simp at aj;subst aj;exact ⟨_,by simp [Go.execOp,ar,e1,cd,eqGuard,Go.binOp,run_equal_bool aw],.bool _⟩
 ·simp at aj
theorem mJ {x y:I} {xs ys:List I} {e:Bool} (h:dC (x::xs) (y::ys)=some e) :
  ∃ k a b cL,x=.int k a∧y=.int k b∧dC xs ys=some cL∧e=((a == b) && cL):=by
 cases x <;> cases y <;> simp only [dC,reduceCtorEq] at h;split at h
 ·rename_i av;subst av;simp only [Option.map_eq_some_iff] at h;obtain ⟨cL,ad,af⟩:=h;exact ⟨_,_,_,cL,rfl,rfl,ad,af.symm⟩
 ·simp at h
theorem D2 {e:TypeId} {c7:IntKind} (d:Nat) (he:P.underlying e=some (.int c7)) (ai:dz P e=false):∀ (xs ys:List I) (vs ws:List Value) (off:Nat) (eq:Bool),
  dC xs ys=some eq→a7 (fun _=>.res) U J S w xs vs→a7 (fun _=>.res) U J S w ys ws→∀ (V W:Array Value),(∀ j,vs[j]?=V[off+j]?)→(∀ j,ws[j]?=W[off+j]?) →
  (forIn (List.range' off xs.length) ((none,()):Option Bool×PUnit) (fun i (_:Option Bool×PUnit)=>(do
    let a ←part e V i
    let b ←part e W i
    let c ←Op.equalIn (d+1) e a b
    if c=false then pure (ForInStep.done (some false,())) else pure (ForInStep.yield (none,())):Sem (ForInStep (Option Bool×PUnit))))).run P w =
   .ok (if eq then none else some false,()) w:=by
 intro xs
 induction xs with
 | nil=>intro ys vs ws off eq h _ _ V W _ _;cases ys <;> simp [dC] at h;subst h;simp
 | cons x xs a9 =>
   intro ys vs ws off eq h ae hw V W jm ln;cases ys with
   | nil=>cases x <;> simp [dC] at h
   | cons y ys =>
     obtain ⟨k,a,b,cL,rfl,rfl,a4,rfl⟩:=mJ h;obtain ⟨v,dk,rfl,aR,_,bc⟩:=ae.gN;obtain ⟨w',xq,rfl,r2,_,lO⟩:=hw.gN;have e1:=aR.c6;have cd:=r2.c6;subst e1 cd;(have bP:V[off]?=some (.int k a):=by have:=jm 0;simpa using this.symm);(have b4:W[off]?=some (.int k b):=by have:=ln 0;simpa using this.symm);have pr:=a9 ys dk xq (off+1) cL a4 bc lO V W (fun j=>by have:=jm (j+1);simpa [Nat.add_assoc,Nat.add_comm 1] using this) (fun j=>by have:=ln (j+1);simpa [Nat.add_assoc,Nat.add_comm 1] using this);(have aW:(part e V off).run P w=.ok (.int k a) w:=by simp [part,gI he,ai,bP]);(have aX:(part e W off).run P w=.ok (.int k b) w:=by simp [part,gI he,ai,b4]);(have cw:(Op.equalIn (d+1) e (.int k a) (.int k b)).run P w=.ok (a == b) w:=by rw [Op.equalIn];simp [run_underlying he]);simp only [List.length_cons,List.range'_succ,List.forIn_cons,Sem.run_bind,aW,aX,cw,Result.andThen_ok];by_cases jn:a=b
     ·subst jn;simpa using pr
     ·simp [jn]
theorem D5 {t e:TypeId} {len:Nat} {c7:IntKind} (d:Nat) (aw:P.underlying t=some (.array len e)) (he:P.underlying e=some (.int c7)) (gy:bQ P e=some 1)
  {xs ys:List I} {V W:Array Value} {eq:Bool} (al:xs.length=len) (h:dC xs ys=some eq) (aR:Rel J S w (.agg xs) (.agg V)) (r2:Rel J S w (.agg ys) (.agg W)) :
  (Op.equalIn (d+2) t (.agg V) (.agg W)).run P w=.ok eq w:=by
 have cI:dz P e=false:=by unfold dz;rw [he]
 rw [Op.equalIn];simp only [run_underlying aw,run_sizeOf gy,Sem.run_bind,Result.andThen_ok];cases aR with
 | agg xs V ae bP bC aW =>
   cases r2 with
   | agg ys W hw b4 bO aX =>
     have:=D2 (U:=fun _=>none) (P:=P) (w:=w) (J:=J) (S:=S) d he cI xs ys V.toList W.toList 0 eq h ⟨by simp [ae],fun i u v a b=>aW i u v a (by simpa using b),fun i u v a _=>aV.b3 (bP u (List.mem_of_getElem? a))⟩
      ⟨by simp [hw],fun i u v a b=>aX i u v a (by simpa using b),fun i u v a _=>aV.b3 (b4 u (List.mem_of_getElem? a))⟩ V W (by simp) (by simp)
     rw [al] at this;simp [this];cases eq <;> simp
theorem yD {f:Field} {fs:List Field} {n:Nat} (h:gB P (f::fs) n=true) :
  f.offset = n ∧ f.name ≠ "_" ∧ (∃ k, P.underlying f.type = some (.int k)) ∧ bQ P f.type = some 1 ∧ dz P f.type = false ∧ gB P fs (n + 1) = true := by
 simp only [gB,Bool.and_eq_true,beq_iff_eq,bne_iff_ne] at h;obtain ⟨⟨⟨ad,af⟩,aH⟩,bh⟩:=h;split at aH
 ·rename_i k hu ai;exact ⟨ad,af,⟨k,hu⟩,ai,by unfold dz;rw [hu],bh⟩
 ·simp at aH
theorem D9 (d:Nat):∀ (fs:List Field) (xs ys:List I) (vs ws:List Value) (off:Nat) (eq:Bool),gB P fs off=true→xs.length=fs.length→ys.length=fs.length →
  dC xs ys=some eq→a7 (fun _=>.res) U J S w xs vs→a7 (fun _=>.res) U J S w ys ws→∀ (V W:Array Value),(∀ j,vs[j]?=V[off+j]?)→(∀ j,ws[j]?=W[off+j]?) →
  (forIn fs ((none,()):Option Bool×PUnit) (fun f (_:Option Bool×PUnit) =>
    if f.name = "_" then pure (ForInStep.yield (none, ())) else (do
    let a ←part f.type V f.offset
    let b ←part f.type W f.offset
    let c ←Op.equalIn (d+1) f.type a b
    if c=false then pure (ForInStep.done (some false,())) else pure (ForInStep.yield (none,())):Sem (ForInStep (Option Bool×PUnit))))).run P w =
   .ok (if eq then none else some false,()) w:=by
 intro fs
 induction fs with
 | nil =>
   intro xs ys vs ws off eq _ al aZ h _ _ V W _ _;obtain rfl:=List.length_eq_zero_iff.1 al;obtain rfl:=List.length_eq_zero_iff.1 aZ;simp [dC] at h;subst h;simp
 | cons f fs a9 =>
   intro xs ys vs ws off eq aN al aZ h ae hw V W jm ln;cases xs with
   | nil=>simp at al
   | cons x xs =>
     cases ys with
     | nil=>simp at aZ
     | cons y ys =>
       obtain ⟨k,a,b,cL,rfl,rfl,a4,rfl⟩:=mJ h;obtain ⟨v,dk,rfl,aR,_,bc⟩:=ae.gN;obtain ⟨w',xq,rfl,r2,_,lO⟩:=hw.gN;obtain ⟨f1,f2,⟨c7,f3⟩,f4,f5,f6⟩:=yD aN;have e1:=aR.c6;have cd:=r2.c6;subst e1 cd;(have bP:V[off]?=some (.int k a):=by have:=jm 0;simpa using this.symm);(have b4:W[off]?=some (.int k b):=by have:=ln 0;simpa using this.symm);have pr:=a9 xs ys dk xq (off+1) cL f6 (by simpa using al) (by simpa using aZ) a4 bc lO V W (fun j=>by have:=jm (j+1);simpa [Nat.add_assoc,Nat.add_comm 1] using this) (fun j=>by have:=ln (j+1);simpa [Nat.add_assoc,Nat.add_comm 1] using this);(have aW:(part f.type V f.offset).run P w=.ok (.int k a) w:=by simp [part,gI f3,f5,f1,bP]);(have aX:(part f.type W f.offset).run P w=.ok (.int k b) w:=by simp [part,gI f3,f5,f1,b4]);(have cw:(Op.equalIn (d+1) f.type (.int k a) (.int k b)).run P w=.ok (a == b) w:=by rw [Op.equalIn];simp [run_underlying f3]);simp only [List.forIn_cons,f2,if_false,Sem.run_bind,aW,aX,cw,Result.andThen_ok];by_cases jn:a=b
       ·subst jn;simpa using pr
       ·simp [jn]
theorem run_equalIn_struct {t:TypeId} {fs:Array Field} (d:Nat) (aw:P.underlying t=some (.struct fs)) (aN:gB P fs.toList 0=true) (hU:P.stoodInHeld t=false)
  {xs ys:List I} {V W:Array Value} {eq:Bool} (al:xs.length=fs.size) (aZ:ys.length=fs.size) (h:dC xs ys=some eq) (aR:Rel J S w (.agg xs) (.agg V)) (r2:Rel J S w (.agg ys) (.agg W)) :
  (Op.equalIn (d+2) t (.agg V) (.agg W)).run P w=.ok eq w:=by
 rw [Op.equalIn];cases aR with
 | agg xs V ae bP bC aW =>
   cases r2 with
   | agg ys W hw b4 bO aX =>
     have:=D9 (U:=fun _=>none) (P:=P) (w:=w) (J:=J) (S:=S) d fs.toList xs ys V.toList W.toList 0 eq aN (by simpa using al) (by simpa using aZ) h ⟨by simp [ae],fun i u v a b=>aW i u v a (by simpa using b),fun i u v a _=>aV.b3 (bP u (List.mem_of_getElem? a))⟩
      ⟨by simp [hw],fun i u v a b=>aX i u v a (by simpa using b),fun i u v a _=>aV.b3 (b4 u (List.mem_of_getElem? a))⟩ V W (by simp) (by simp)
     simp only [run_underlying aw,Sem.run_bind,Result.andThen_ok,program,Sem.run,hU];rw [Array.forIn_toList] at this;simp [this];cases eq <;> simp
theorem C1 {o:Oper} {aU:Operand→Value} {op:BinOp} {t h8:TypeId} {x y:Operand} (ar:o.op=.binOp op t x y h8) {xs ys:List I} {r:I}
  (aj:fe P op t (.agg xs) (.agg ys)=some r) (ad:Rel J S w (.agg xs) (aU x)) (af:Rel J S w (.agg ys) (aU y)):eY P o aU J S w r:=by
 simp only [fe] at aj;split at aj
 ·rename_i len e aw;split at aj
  ·rename_i c7 he gy;split at aj
   ·rename_i ak;obtain ⟨al,aZ,aK⟩:=ak;generalize fU:aU x=cy at ad;generalize lN:aU y=xp at af;(have e1:∃ V,cy=.agg V:=by cases ad with | agg as vs=>exact ⟨_,rfl⟩);(have cd:∃ V,xp=.agg V:=by cases af with | agg as vs=>exact ⟨_,rfl⟩);obtain ⟨V,rfl⟩:=e1;obtain ⟨W,rfl⟩:=cd;have key:∀ eq,dC xs ys=some eq→(Op.equal t (.agg V) (.agg W)).run P w=.ok eq w:=fun eq h=>D5 9998 aw he gy al h ad af;split at aj
    ·simp only [Option.map_eq_some_iff] at aj;obtain ⟨eq,h,rfl⟩:=aj;exact ⟨.bool eq,by simp [Go.execOp,ar,fU,lN,eqGuard,aK,Go.binOp,key eq h,program,Sem.run],.bool _⟩
    ·simp only [Option.map_eq_some_iff] at aj;obtain ⟨eq,h,rfl⟩:=aj;exact ⟨.bool (!eq),by simp [Go.execOp,ar,fU,lN,eqGuard,aK,Go.binOp,key eq h,program,Sem.run],.bool _⟩
    ·simp at aj
   ·simp at aj
  ·simp at aj
 ·rename_i fs aw;split at aj
  ·rename_i ak;obtain ⟨aN,hU,al,aZ,aK⟩:=ak;generalize fU:aU x=cy at ad;generalize lN:aU y=xp at af;(have e1:∃ V,cy=.agg V:=by cases ad with | agg as vs=>exact ⟨_,rfl⟩);(have cd:∃ V,xp=.agg V:=by cases af with | agg as vs=>exact ⟨_,rfl⟩);obtain ⟨V,rfl⟩:=e1;obtain ⟨W,rfl⟩:=cd;have key:∀ eq,dC xs ys=some eq→(Op.equal t (.agg V) (.agg W)).run P w=.ok eq w:=fun eq h=>run_equalIn_struct 9998 aw aN hU al aZ h ad af;split at aj
   ·simp only [Option.map_eq_some_iff] at aj;obtain ⟨eq,h,rfl⟩:=aj;exact ⟨.bool eq,by simp [Go.execOp,ar,fU,lN,eqGuard,aK,Go.binOp,key eq h,program,Sem.run],.bool _⟩
   ·simp only [Option.map_eq_some_iff] at aj;obtain ⟨eq,h,rfl⟩:=aj;exact ⟨.bool (!eq),by simp [Go.execOp,ar,fU,lN,eqGuard,aK,Go.binOp,key eq h,program,Sem.run],.bool _⟩
   ·simp at aj
  ·simp at aj
 ·simp at aj
end
end Go.Proofs.YtfakoboiahbhaaaGreat.Ab


namespace Go.Proofs.YtfakoboiahbhaaaGreat.Ab
open Go
section
variable {P:Program} {B:Nat} {J:List Nat} {w:World} {H:List au} {U:Nat→Option aG} {S:Nat→Nat→Prop}
def eB (J:List Nat) (S:Nat→Nat→Prop) (w:World):Option I→Option Value→Prop
 | none,none=>True
 | some u,some v=>Rel J S w u v
 | _,_=>False
theorem mi {x:Option I} {v:Option Value} {d y xr r:Nat} (h:cE x d y=some r) (al:eB J S w x v) (aZ:y≤xr) :
  (∃ k n,v=some (.int k n)∧x.isSome∧(∀ code,(Instr.sliceBound (.int k n) xr code).run P w=.ok r w)∧r≤y)∨(v=none∧x=none∧r=d):=by
 unfold cE at h;split at h
 ·cases v with
  | none=>simp at h;exact .inr ⟨rfl,rfl,h.symm⟩
  | some v=>simp [eB] at al
 ·cases v with
  | none=>simp [eB] at al
  | some v =>
    have e:=Rel.c6 al;subst e;split at h
    ·rename_i ag;simp at h;subst h;refine .inl ⟨_,_,rfl,rfl,fun code=>?_,by omega⟩;have ad:=ag.1;have af:_≤(xr:Int):=Int.le_trans ag.2 (Int.ofNat_le.2 aZ);simp [Instr.sliceBound,asIntOf,ad,af]
    ·simp at h
 ·simp at h
theorem hy {lo hi:Option I} {lo' hi':Option Value} {isS:Bool} {len cap h l:Nat} (bJ:cE hi len len=some h) (aq:cE lo 0 h=some l) (hle:len≤cap)
  (aR:eB J S w lo lo') (r2:eB J S w hi hi'):(Instr.sliceBounds isS len cap lo' hi' none).run P w=.ok (l,h,cap) w∧l≤h∧h≤len:=by
 rcases mi (P:=P) bJ r2 hle with ⟨k,n,rfl,_,q,ag⟩ | ⟨rfl,_,rfl⟩ <;> rcases mi (P:=P) aq aR (Nat.le_refl _) with ⟨k',iJ,rfl,_,fK,bq⟩ | ⟨rfl,_,rfl⟩ <;>
  refine ⟨?_,by omega,by omega⟩ <;> simp [Instr.sliceBounds, *]
theorem p3 {lo hi gC:Option I} {lo' hi' iI:Option Value} {isS:Bool} {len cap m h l:Nat} (hm:cE gC len len=some m) (B8:gC.isSome) (BW:hi.isSome)
  (bJ:cE hi m m=some h) (aq:cE lo 0 h=some l) (hle:len≤cap)
  (aR:eB J S w lo lo') (r2:eB J S w hi hi') (ew:eB J S w gC iI):(Instr.sliceBounds isS len cap lo' hi' iI).run P w=.ok (l,h,m) w∧l≤h∧h≤m∧m≤len:=by
 rcases mi (P:=P) hm ew hle with ⟨k,n,rfl,_,q,ag⟩ | ⟨rfl,rfl,_⟩
 ·rcases mi (P:=P) bJ r2 (Nat.le_refl _) with ⟨aQ,cj,rfl,_,aX,fi⟩ | ⟨rfl,rfl,_⟩
  ·rcases mi (P:=P) aq aR (Nat.le_refl _) with ⟨k',iJ,rfl,_,fK,bq⟩ | ⟨rfl,_,rfl⟩ <;>
    refine ⟨?_,by omega,by omega,by omega⟩ <;> simp [Instr.sliceBounds, *]
  ·simp at BW
 ·simp at B8
theorem Rel.sub {cells:List I} {b o cap' n k:Nat} {f:Nat→Value} (d:Nat) (dP:h9) (ak:dP=.full→cap'=n) (hle:n≤cap') (hu:∀ z,dP≠.uniq z)
  (h:∀ (j:Nat) (u:I),cells[j]?=some u→S b (o+j)∧w.cell? ⟨b,o+j,none⟩=some (f j)∧u.plain=true∧(f j).oneCell'=true)
  (aj:∀ (j:Nat) (u:I),cells[j]?=some u→Rel J S w u (f j)):Rel J S w (.ax ((cells.drop d).take k) n dP) (.slice (some ⟨b,o+d,none⟩) n cap'):=by
 refine .ax _ n dP b (o+d) cap' (fun j=>f (d+j)) ak hle hu (fun j u b8=>?_) (fun j u b8=>?_)
 ·rw [List.getElem?_take] at b8;split at b8
  ·rw [List.getElem?_drop] at b8;have:=h (d+j) u b8
   rwa [show o+d+j=o+(d+j) by omega]
  ·simp at b8
 ·rw [List.getElem?_take] at b8;split at b8
  ·rw [List.getElem?_drop] at b8;exact aj (d+j) u b8
  ·simp at b8
theorem Rel.empty (c:h9) (hu:∀ z,c≠.uniq z) (b o cap:Nat) (ak:c=.full→cap=0):Rel J S w (.ax [] 0 c) (.slice (some ⟨b,o,none⟩) 0 cap) :=
 .ax [] 0 c b o cap (fun _=>undef) ak (Nat.zero_le _) hu (by simp) (by simp)
theorem D8 {t:TypeId} {u r:I} {x:Value} {lo hi gC:Option I} {lo' hi' iI:Option Value} (aj:eO P t u lo hi gC=some r) (aD:u.plain=true)
  (ad:Rel J S w u x) (aR:eB J S w lo lo') (r2:eB J S w hi hi') (ew:eB J S w gC iI) :
  ∃ v,(Instr.sliceAt t x lo' hi' iI).run P w=.ok v w∧Rel J S w r v∧r.plain=true:=by
 unfold eO at aj;split at aj
 ·rename_i e cells len c a2;simp only [Option.bind_eq_some_iff] at aj;obtain ⟨s,ai,aj⟩:=aj;have pl:∀ (cs:List I) (n:Nat) (p:Prop) [Decidable p],(I.ax cs n (if p then .full else .shared)).plain=true:=fun cs n p _=>by split <;> rfl
  have oV:∀ (p:Prop) [Decidable p] (z:Nat),(if p then h9.full else h9.shared)≠.uniq z:=fun p _ z=>by split <;> simp
  split at aj
  ·simp only [Option.bind_eq_some_iff] at aj;obtain ⟨h,bJ,l,aq,aj⟩:=aj;simp at aj;subst aj;cases iI with
   | some _=>simp [eB] at ew
   | none =>
   cases ad with
   | b2 c a =>
     obtain ⟨q,aW,aX⟩:=hy (P:=P) (isS:=true) (cap:=0) bJ aq (by omega) aR r2;(obtain rfl:h=0:=by omega);(obtain rfl:l=0:=by omega);exact ⟨.slice a 0 0,by cases a <;> simp [Instr.sliceAt,Instr.slice,run_underlying a2,q,run_sizeOf ai,Addr.add],by simpa using .b2 _ _,pl _ _ _⟩
   | cH=>simp [I.plain] at aD
   | ax cells len c b o cap f ak hle hu bw b7 =>
     obtain ⟨q,aW,aX⟩:=hy (P:=P) (isS:=true) (cap:=cap) bJ aq hle aR r2;refine ⟨_,by simp [Instr.sliceAt,Instr.slice,run_underlying a2,q,run_sizeOf ai];rfl,?_,pl _ _ _⟩;by_cases ef:cap=l
     ·(obtain rfl:h=l:=by omega);simp only [ef,if_true,Nat.sub_self,Nat.zero_mul,List.take_zero];exact Rel.empty _ (oV _) _ _ _ (by simp)
     ·simp only [ef,if_false,add_lit];refine Rel.sub _ _ (fun he=>?_) (by omega) (oV _) bw b7;split at he
      ·rename_i hO;rw [ak hO.1,hO.2]
      ·simp at he
  ·rename_i FE FA;simp only [Option.bind_eq_some_iff] at aj;obtain ⟨m,hm,h,bJ,l,aq,aj⟩:=aj;simp at aj;subst aj;cases ad with
   | b2 c a =>
     obtain ⟨q,aW,aX,cw⟩:=p3 (P:=P) (isS:=true) (cap:=0) hm rfl rfl bJ aq (by omega) aR r2 ew;(obtain rfl:m=0:=by omega);(obtain rfl:h=0:=by omega);(obtain rfl:l=0:=by omega);exact ⟨.slice a 0 0,by cases a <;> simp [Instr.sliceAt,Instr.slice,run_underlying a2,q,run_sizeOf ai,Addr.add],by simpa using .b2 _ _,pl _ _ _⟩
   | cH=>simp [I.plain] at aD
   | ax cells len c b o cap f ak hle hu bw b7 =>
     obtain ⟨q,aW,aX,cw⟩:=p3 (P:=P) (isS:=true) (cap:=cap) hm rfl rfl bJ aq hle aR r2 ew;refine ⟨_,by simp [Instr.sliceAt,Instr.slice,run_underlying a2,q,run_sizeOf ai];rfl,?_,pl _ _ _⟩;by_cases ef:m=l
     ·(obtain rfl:h=l:=by omega);simp only [ef,if_true,Nat.sub_self,Nat.zero_mul,List.take_zero];exact Rel.empty _ (by simp) _ _ _ (by simp)
     ·simp only [ef,if_false,add_lit];refine Rel.sub _ _ (fun he=>?_) (by omega) (oV _) bw b7;split at he
      ·rename_i hO;rw [hO]
      ·simp at he
  ·simp at aj
 ·rename_i e id off len cap sz a2;simp only [Option.bind_eq_some_iff] at aj;obtain ⟨s,ai,aj⟩:=aj;split at aj
  ·simp at aj
  ·rename_i bR;(obtain rfl:s=sz:=by simpa using bR);split at aj
   ·simp only [Option.bind_eq_some_iff] at aj;obtain ⟨h,bJ,l,aq,aj⟩:=aj;cases iI with
    | some _=>simp [eB] at ew
    | none =>
    cases ad with
    | ref id off len c sz b cap' ag ak hle =>
      obtain ⟨q,aW,aX⟩:=hy (P:=P) (isS:=true) (cap:=cap') bJ aq hle aR r2;split at aj
      ·rename_i FB;simp at aj;subst aj
       have:cap'≠l:=by omega
       refine ⟨_,by simp [Instr.sliceAt,Instr.slice,run_underlying a2,q,run_sizeOf ai,this,add_lit];rfl,.ref _ _ _ _ _ b _ ag (fun n aP=>?_) (by omega),rfl⟩;simp only [Option.map_eq_some_iff] at aP;obtain ⟨c0,BB,rfl⟩:=aP;rw [ak c0 BB]
      ·simp at aj;subst aj;(obtain rfl:h=l:=by omega);refine ⟨_,by simp [Instr.sliceAt,Instr.slice,run_underlying a2,q,run_sizeOf ai];rfl,?_,rfl⟩;split
       ·exact Rel.empty _ (by simp) _ _ _ (by simp)
       ·simp only [add_lit];exact Rel.empty _ (by simp) _ _ _ (by simp)
   ·simp only [Option.bind_eq_some_iff] at aj;obtain ⟨m,hm,h,bJ,l,aq,aj⟩:=aj;cases ad with
    | ref id off len c sz b cap' ag ak hle =>
      obtain ⟨q,aW,aX,cw⟩:=p3 (P:=P) (isS:=true) (cap:=cap') hm rfl rfl bJ aq hle aR r2 ew;split at aj
      ·rename_i ef;split at aj
       ·rename_i js;simp at aj;subst aj;refine ⟨_,by simp [Instr.sliceAt,Instr.slice,run_underlying a2,q,run_sizeOf ai,ef];rfl,.ref _ _ _ _ _ b _ ag (fun n aP=>by simpa [ef] using aP) (by omega),rfl⟩
       ·simp at aj
      ·rename_i ef;simp at aj;subst aj;exact ⟨_,by simp [Instr.sliceAt,Instr.slice,run_underlying a2,q,run_sizeOf ai,ef,add_lit];rfl,.ref _ _ _ _ _ b _ ag (fun n aP=>by simpa using aP) (by omega),rfl⟩
   ·simp at aj
 ·rename_i n e id off a2;simp only [Option.bind_eq_some_iff] at aj;obtain ⟨s,ai,aj⟩:=aj;split at aj
  ·simp only [Option.bind_eq_some_iff] at aj;obtain ⟨h,bJ,l,aq,aj⟩:=aj;cases iI with
   | some _=>simp [eB] at ew
   | none =>
   cases ad with
   | ptr id off b ag =>
     obtain ⟨q,aW,aX⟩:=hy (P:=P) (isS:=false) (cap:=n) bJ aq (Nat.le_refl _) aR r2;split at aj
     ·simp at aj
     ·rename_i ef;simp at aj;subst aj;exact ⟨_,by simp [Instr.sliceAt,Instr.sureAddr,run_underlying a2,q,run_sizeOf ai,ef,add_lit];rfl,.ref _ _ _ _ _ b _ ag (fun n aP=>by simpa using aP) (by omega),rfl⟩
  ·simp at aj
 ·simp at aj
end
end Go.Proofs.YtfakoboiahbhaaaGreat.Ab


namespace Go.Proofs.YtfakoboiahbhaaaGreat.Ab
open Go
section
variable {P:Program} {B:Nat} {J:List Nat} {w:World} {H:List au} {U:Nat→Option aG} {S:Nat→Nat→Prop}
theorem gj.frame {ay:Nat→Option aG} {bZ:List Nat} {S':Nat→Nat→Prop} {w':World} (bL:Ext J bZ)
  (cg:∀ b o,S b o→S' b o∧w'.cell? ⟨b,o,none⟩=w.cell? ⟨b,o,none⟩) {id:Nat}
  (av:∀ b l,U b=some l→(l=.obj id∨∃ j,l=.cell id j)→ay b=some l∧w'.heap[b]?=w.heap[b]?∧∀ o,S' b o→S b o)
  {o:au} (h:gj U J S w id o):gj ay bZ S' w' id o:=by
 cases o with
 | dead=>trivial
 | cells l =>
   obtain ⟨b,cur,e,aB,aF,aS,bp,bf,bg⟩:=h;obtain ⟨aL,aQ,ch⟩:=av b _ aF (.inl rfl);refine ⟨b,cur,e,bL _ _ aB,aL,aQ.trans aS,bp,fun o ai=>bf o (ch o ai),fun j u v hu ae=>?_⟩;obtain ⟨a',c0,bm,bt⟩:=bg j u v hu ae;exact ⟨a',c0,bm.mono bL cg,bt.mono bL cg fun b ag=>av b _ ag (.inr ⟨j,rfl⟩)⟩
 | grow l gid z =>
   obtain ⟨b,cur,e,aB,aF,aS,bp,bf,bg,cap,cY,c4⟩:=h;obtain ⟨aL,aQ,ch⟩:=av b _ aF (.inl rfl);refine ⟨b,cur,e,bL _ _ aB,aL,aQ.trans aS,bp,fun o ai=>bf o (ch o ai),fun j u v hu ae=>?_,cap,bL _ _ cY,c4⟩;obtain ⟨a',c0,bm,bt⟩:=bg j u v hu ae;exact ⟨a',c0,bm.mono bL cg,bt.mono bL cg fun b ag=>av b _ ag (.inr ⟨j,rfl⟩)⟩
 | loop st cB fn T params assign body jg =>
   obtain ⟨al,aZ,b,L,aB,aF,aS,bp,bf,bg,cY,c4,dv⟩:=h;obtain ⟨aL,aQ,ch⟩:=av b _ aF (.inl rfl);exact ⟨al,aZ,b,L,bL _ _ aB,aL,aQ.trans aS,bp,bf,bg,cY,fun i u v hu ae=>⟨(c4 i u v hu ae).1,(c4 i u v hu ae).2.mono bL cg⟩,dv⟩
 | map es clock =>
   obtain ⟨b,bx,aB,aF,aS,bp,bf,bg⟩:=h;obtain ⟨aL,aQ,ch⟩:=av b _ aF (.inl rfl)
   exact ⟨b,bx,bL _ _ aB,aL,aQ.trans aS,bp,fun o ai=>bf o (ch o ai),fun j i k v x hu ae =>
    let ⟨a',bm,bt,b6,dQ⟩:=bg j i k v x hu ae;⟨a',bm,bt.mono bL cg,b6,dQ.mono bL cg⟩⟩
 | iter m s e t =>
   obtain ⟨b,d_,aB,aF,aS,bp,bf⟩:=h;obtain ⟨aL,aQ,ch⟩:=av b _ aF (.inl rfl);exact ⟨b,d_,bL _ _ aB,aL,bL _ _ aS,aQ.trans bp,fun o ai=>bf o (ch o ai)⟩
theorem aJ.frame {ay:Nat→Option aG} {S':Nat→Nat→Prop} {w':World} (ah:aJ B U J S w H) (aA:bj U S w ay S' w')
  (av:∀ b l,U b=some l→((∃ id,l=.obj id)∨∃ id j,l=.cell id j)→ay b=some l∧w'.heap[b]?=w.heap[b]?∧∀ o,S' b o→S b o)
  (aH:∀ b o,S' b o→∃ v,w'.cell? ⟨b,o,none⟩=some v) (bh:∀ b l,ay b=some l→B≤b∧b<w'.heap.size):aJ B ay J S' w' H :=
 ⟨ah.cA,fun id o ar=>(ah.obj id o ar).frame (Ext.refl J) aA.set (fun b l ag aq=>av b l ag (by
  rcases aq with rfl | ⟨j,rfl⟩
  ·exact .inl ⟨id,rfl⟩
  ·exact .inr ⟨id,j,rfl⟩)),aH,bh,Nat.le_trans ah.cV aA.size⟩
theorem aJ.push (ah:aJ B U J S w H) (n:Nat) {o:au} (ar:gj U (J++[n]) S w H.length o):aJ B U (J++[n]) S w (H++[o]) where
 cA:=by simp [ah.cA]
 obj id cK h:=by
  rcases Nat.lt_trichotomy id H.length with aY | rfl | Fz
  ·rw [List.getElem?_append_left aY] at h;exact (ah.obj id cK h).frame (Ext.append J [n]) (fun b o ai=>⟨ai,rfl⟩) fun b l ag _=>⟨ag,rfl,fun o ai=>ai⟩
  ·simp at h;subst h;exact ar
  ·rw [List.getElem?_append_right (by omega)] at h
   have:id-H.length≠0:=by omega
   obtain ⟨k,av⟩:=Nat.exists_eq_succ_of_ne_zero this;rw [av] at h;simp at h
 b':=ah.b'
 base:=ah.base
 cV:=ah.cV
theorem aJ.nU (ah:aJ B U J S w H) {id:Nat} {l:List I} {g z:Nat} (aE:H[id]?=some (.grow l g z)):aJ B U J S w (H.set id (.cells l)):=by
 refine ⟨by simpa using ah.cA,fun bA o ar=>?_,ah.b',ah.base,ah.cV⟩;by_cases cr:bA=id
 ·subst cr;rw [List.getElem?_set_self (List.getElem?_eq_some_iff.1 aE).1] at ar;cases ar;obtain ⟨b,cur,e,aB,aF,aS,bp,bf,bg,_⟩:=ah.obj bA _ aE;exact ⟨b,cur,e,aB,aF,aS,bp,bf,bg⟩
 ·rw [List.getElem?_set_ne (Ne.symm cr)] at ar;exact ah.obj bA o ar
theorem aJ.pP (ah:aJ B U J S w H) {id:Nat} {l:List I} {g z b cap:Nat} {cur:Array Value} {e:TypeId} (aE:H[id]?=some (.cells l)) (ag:J[id]?=some b) (aK:J[g]?=some cap)
  (hm:cap≤maxLen) (bn:0<z) (ak:w.heap[b]?=some (.cells cur e (0,0))) (ai:cur.size=cap*z):aJ B U J S w (H.set id (.grow l g z)):=by
 refine ⟨by simpa using ah.cA,fun bA o ar=>?_,ah.b',ah.base,ah.cV⟩;by_cases cr:bA=id
 ·subst cr;rw [List.getElem?_set_self (List.getElem?_eq_some_iff.1 aE).1] at ar;cases ar;obtain ⟨ao,cur',cL,aB,aF,aS,bp,bf,bg⟩:=ah.obj bA _ aE;rw [ag] at aB;cases aB;rw [ak] at aS;cases aS;exact ⟨b,cur,e,ag,aF,ak,bp,bf,bg,cap,aK,hm,bn,ai⟩
 ·rw [List.getElem?_set_ne (Ne.symm cr)] at ar;exact ah.obj bA o ar
def lay (U:Nat→Option aG) (n:Nat) (l:aG):Nat→Option aG:=fun b=>if b=n then some l else U b
theorem oc (o:Obj) {b i:Nat} (ag:b<w.heap.size):(w.alloc o).cell? ⟨b,i,none⟩=w.cell? ⟨b,i,none⟩:=by
 have:(w.alloc o).heap[b]?=w.heap[b]?:=heap_alloc_old w o b ag
 unfold World.cell?;simp only [this]
theorem j6 (ah:aJ B U J S w H) (o:Obj) (l:aG):bj U S w (lay U w.heap.size l) S (w.alloc o) where
 os:=rfl
 tape:=rfl
 output:=rfl
 size:=by simp
 cG b ag _:=heap_alloc_old w o b ag
 set b cK ai:=⟨ai,by obtain ⟨v,ae⟩:=ah.b' b cK ai;exact oc o (l2 ae)⟩
 fresh _ _ ai:=.inl ai
 own b ag:=by
  unfold lay at ag;split at ag
  ·rename_i h;exact .inr (by omega)
  ·exact .inl ag
theorem m8 (ah:aJ B U J S w H) (o:Obj) (l:aG):aJ B (lay U w.heap.size l) J S (w.alloc o) H:=by
 have aA:=j6 ah o l;refine ah.frame aA (fun b l' ag _=>?_) (fun b cK ai=>?_) (fun b l' ag=>?_)
 ·have:=(ah.base b l' ag).2;exact ⟨by simp [lay,show b≠w.heap.size by omega,ag],heap_alloc_old w o b this,fun o ai=>ai⟩
 ·obtain ⟨v,ae⟩:=ah.b' b cK ai;exact ⟨v,((aA.set b cK ai).2).trans ae⟩
 ·unfold lay at ag;split at ag
  ·rename_i h;subst h;exact ⟨ah.cV,by simp⟩
  ·have:=ah.base b l' ag;exact ⟨this.1,by simp;omega⟩
theorem k_ (U:Nat→Option aG) (S:Nat→Nat→Prop) (w:World):bj U S w U S w.drew :=
 ⟨rfl,rfl,rfl,Nat.le_refl _,fun _ _ _=>rfl,fun _ _ h=>⟨h,rfl⟩,fun _ _ h=>.inl h,fun _ h=>.inl h⟩
theorem m9 (ah:aJ B U J S w H):aJ B U J S w.drew H :=
 ah.frame (k_ U S w) (fun _ _ ag _=>⟨ag,rfl,fun _ h=>h⟩) ah.b' ah.base
theorem l4 (ah:aJ B U J S w H) (o:Nat):¬ S w.heap.size o:=fun ai=>by
 obtain ⟨v,ae⟩:=ah.b' _ o ai;exact absurd (l2 ae) (Nat.lt_irrefl _)
structure cZ (J:List Nat) (S:Nat→Nat→Prop) (w:World) (cs:List I) (vs:List Value):Prop where
 len:cs.length=vs.length
 rel:∀ (j:Nat) (u:I) (v:Value),cs[j]?=some u→vs[j]?=some v→u.plain=true∧v.oneCell'=true∧Rel J S w u v
theorem cZ.mono {bZ:List Nat} {S':Nat→Nat→Prop} {w':World} {cs:List I} {vs:List Value} (h:cZ J S w cs vs) (bL:Ext J bZ)
  (cg:∀ b o,S b o→S' b o∧w'.cell? ⟨b,o,none⟩=w.cell? ⟨b,o,none⟩):cZ bZ S' w' cs vs :=
 ⟨h.len,fun j u v hu ae=>let ⟨a,b,c⟩:=h.rel j u v hu ae;⟨a,b,c.mono bL cg⟩⟩
theorem cZ.append {a b:List I} {c d:List Value} (h:cZ J S w a c) (k:cZ J S w b d):cZ J S w (a++b) (c++d):=by
 refine ⟨by simp [h.len,k.len],fun j u v hu ae=>?_⟩;rcases Nat.lt_or_ge j a.length with az | az
 ·rw [List.getElem?_append_left az] at hu;rw [List.getElem?_append_left (h.len ▸ az)] at ae;exact h.rel j u v hu ae
 ·rw [List.getElem?_append_right az] at hu;rw [List.getElem?_append_right (h.len ▸ az),←h.len] at ae;exact k.rel _ u v hu ae
theorem ns (ah:aJ B U J S w H) {cs:List I} {vs:List Value} (ak:cZ J S w cs vs) (spare:List Value) (e:TypeId) (len cap z:Nat) (bn:0<z) (aq:cs.length=len*z)
  (oN:len≤cap) (hm:cap≤maxLen) (ai:vs.length+spare.length=cap*z) :
  a0 B U J S w H (.ax cs len (.uniq z)) (.slice (some ⟨w.heap.size,0,none⟩) len cap) (w.alloc (.cells (vs++spare).toArray e)):=by
 have aA:=j6 ah (.cells (vs++spare).toArray e) .res;refine ⟨_,J,S,Ext.refl J,aA,m8 ah _ .res,.cH _ _ _ _ _ _,.inr ⟨by simp [lay],rfl,oN,hm,bn,aq,⟨_,e,heap_alloc_new w _,by simp [ai],fun j u v hu ae=>?_⟩,l4 ah⟩⟩;have az:j<vs.length:=ak.len ▸ (List.getElem?_eq_some_iff.1 hu).1;have bc:vs[j]?=some v:=by simpa [List.getElem?_append_left az] using ae
 obtain ⟨a,b,c⟩:=ak.rel j u v hu bc;exact ⟨a,b,c.mono (Ext.refl J) aA.set⟩
end
end Go.Proofs.YtfakoboiahbhaaaGreat.Ab


namespace Go.Proofs.YtfakoboiahbhaaaGreat.Ab
open Go
section
variable {P:Program} {B:Nat} {J:List Nat} {w:World} {H:List au} {U:Nat→Option aG} {S:Nat→Nat→Prop}
theorem z7 {t:TypeId} {cs:List I} {b base off:Nat} {g:Nat→Value} {r:I}
  (ak:∀ (j:Nat) (u:I),cs[j]?=some u→w.cell? ⟨b,base+j,none⟩=some (g j)∧(g j).oneCell'=true∧Rel J S w u.view (g j)) (aj:ek P t cs off=some r) :
  ∃ v,(loadVar t ⟨b,base+off,none⟩).run P w=.ok v w∧Rel J S w r v∧r.plain=true:=by
 unfold ek at aj;cases cI:dz P t with
 | true =>
   obtain ⟨d,a2⟩:=yF cI;rw [cI] at aj;simp only [Option.bind_eq_some_iff] at aj;obtain ⟨s,ai,aj⟩:=aj;split at aj
   ·rename_i hle;simp only [Option.some.injEq] at aj;subst aj;have bw:∀ j,j<s→w.cell? ((⟨b,base+off,none⟩:Addr).add j)=some (g (off+j)):=fun j az=>by
     (have aY:off+j<cs.length:=by omega);rw [add_lit,Nat.add_assoc];exact (ak (off+j) _ (List.getElem?_eq_getElem aY)).1
    have aq:=run_loadCells (P:=P) (w:=w) ⟨b,base+off,none⟩ s (fun j=>g (off+j)) bw;refine ⟨_,by simp only [loadVar,Sem.run_bind,gI a2,cI,Result.andThen_ok,if_true,run_sizeOf ai,aq];rfl,.agg _ _ ?_ ?_ ?_ ?_,rfl⟩
    ·simp;omega
    ·intro u hu;obtain ⟨x,_,rfl⟩:=List.mem_map.1 hu;exact I.c_ x
    ·intro v ae;obtain ⟨j,az,rfl⟩:=List.mem_map.1 ae;have az:=List.mem_range.1 az;(have aY:off+j<cs.length:=by omega);exact (ak (off+j) _ (List.getElem?_eq_getElem aY)).2.1
    ·intro j u v hu ae;simp only [List.getElem?_map,Option.map_eq_some_iff] at hu;obtain ⟨x,al,rfl⟩:=hu;rw [List.getElem?_take] at al;split at al
     ·rename_i az;rw [List.getElem?_drop] at al;simp [az] at ae;subst ae;exact (ak (off+j) x al).2.2
     ·simp at al
   ·simp at aj
 | false =>
   rw [cI] at aj;simp only at aj;split at aj
   ·rename_i d a2;simp only [Option.map_eq_some_iff] at aj;obtain ⟨u,hu,rfl⟩:=aj;obtain ⟨ad,af,aH⟩:=ak off u hu;exact ⟨g off,by simp [loadVar,gI a2,cI,load,Sem.run,ad],aH,I.c_ u⟩
   ·simp at aj
theorem kL (ah:aJ B U J S w H) {t:TypeId} {a r:I} {v:Value} (aj:dI P H t a=some r) (ad:Rel J S w a v) :
  ∃ x,(Instr.loadAt t v).run P w=.ok x w∧Rel J S w r x∧r.plain=true:=by
 unfold dI at aj;split at aj
 ·rename_i id off
  have key:∀ l:List I,(∃ b cur e,J[id]?=some b∧U b=some (.obj id)∧w.heap[b]?=some (.cells cur e (0,0))∧l.length≤cur.size∧(∀ o,¬ S b o) ∧
    ∀ (j:Nat) (u:I) (v:Value),l[j]?=some u→cur[j]?=some v→u.cP=true∧v.oneCell'=true∧Rel J S w u v∧aV U J S w (.cell id j) u v)→ek P t l off=some r →
    ∃ x,(Instr.loadAt t v).run P w=.ok x w∧Rel J S w r x∧r.plain=true:=by
   rintro l ⟨b,cur,e,aB,aF,aS,bp,bf,bg⟩ aj;cases ad with
   | ptr id off ao ag =>
     rw [aB] at ag;cases ag;have facts:∀ (j:Nat) (u:I),l[j]?=some u→w.cell? ⟨b,0+j,none⟩=some (cur.getD j undef)∧(cur.getD j undef).oneCell'=true∧Rel J S w u.view (cur.getD j undef):=by
      intro j u hu;(have az:j<cur.size:=by have:=(List.getElem?_eq_some_iff.1 hu).1;omega);have c2:cur[j]?=some cur[j]:=Array.getElem?_eq_getElem _;obtain ⟨a',c0,bm,_⟩:=bg j u _ hu c2;(have aK:cur.getD j undef=cur[j]:=by simp [Array.getD,az]);rw [aK];exact ⟨by rw [cell_of_row w b _ cur e (0,0) aS,Nat.zero_add,c2],c0,bm.view a'⟩
     obtain ⟨x,al,b7⟩:=z7 facts aj;rw [Nat.zero_add] at al;exact ⟨x,by simp [Instr.loadAt,Instr.sureAddr,al],b7⟩
  split at aj
  ·rename_i l aE;exact key l (ah.obj id _ aE) aj
  ·rename_i l g z aE;obtain ⟨b,cur,e,aB,aF,aS,bp,bf,bg,_⟩:=ah.obj id _ aE;exact key l ⟨b,cur,e,aB,aF,aS,bp,bf,bg⟩ aj
  ·simp at aj
 ·cases ad with
  | bT cells b o f h fk =>
    obtain ⟨x,al,b7⟩:=z7 (J:=J) (S:=S) (w:=w) (b:=b) (base:=o) (g:=f) (fun j u hu=>⟨(h j u hu).2.1,(h j u hu).2.2.2,(fk j u hu).view (I.fX (h j u hu).2.2.1)⟩) aj;rw [Nat.add_zero] at al;exact ⟨x,by simp [Instr.loadAt,Instr.sureAddr,al],b7⟩
 ·simp at aj
theorem xJ (ah:aJ B U J S w H) {l:aG} (b9:∀ id,l≠.obj id) (cj:∀ id j,l≠.cell id j) {u:I} {v:Value} {vc:List I} (ak:u.cells=some vc) (aj:Rel J S w u v) (ar:aV U J S w l u v) :
  ∃ S':Nat→Nat→Prop,(∀ b o,S b o→S' b o)∧(∀ b o,S' b o→S b o∨U b=some l)∧aJ B U J S' w H∧v.cells.size=vc.length ∧
    (∀ x∈v.cells.toList,x.oneCell'=true) ∧
    ∀ (j:Nat) (bH:I) (bu:Value),(vc.map I.settle)[j]?=some bH→v.cells[j]?=some bu→bH.cP=true∧Rel J S' w bH bu∧(bH.plain=true∨(j=0∧vc=[u]∧aV U J S' w l bH bu)):=by
 have single:vc=[u]→v.cells=#[v]→v.oneCell'=true→∃ S':Nat→Nat→Prop,(∀ b o,S b o→S' b o)∧(∀ b o,S' b o→S b o∨U b=some l)∧aJ B U J S' w H∧v.cells.size=vc.length ∧
   (∀ x∈v.cells.toList,x.oneCell'=true) ∧
   ∀ (j:Nat) (bH:I) (bu:Value),(vc.map I.settle)[j]?=some bH→v.cells[j]?=some bu→bH.cP=true∧Rel J S' w bH bu∧(bH.plain=true∨(j=0∧vc=[u]∧aV U J S' w l bH bu)):=by
  intro fE ae ad;subst fE;rw [ae];by_cases hu:u.cP=true
  ·refine ⟨S,fun _ _ h=>h,fun _ _ h=>.inl h,ah,rfl,by simp [ad],fun j bH bu az d'=>?_⟩;have ai:u.settle=u:=by
    unfold I.settle;split
    ·simp [I.cP] at hu
    ·rfl
   cases j with
   | zero=>simp [ai] at az d';subst az d';exact ⟨hu,aj,.inr ⟨rfl,rfl,ar⟩⟩
   | succ j=>simp at az
  ·obtain ⟨cells,len,z,rfl⟩:∃ cells len z,u=.ax cells len (.uniq z):=by
    unfold I.cP at hu;split at hu
    ·exact ⟨_,_,_,rfl⟩
    ·simp at hu
   obtain ⟨a5,aL,aQ,ch,_,r2,ew⟩:=jT ah aj ar;refine ⟨a5,aL,aQ,ah.settle aL (fun b o h=>(aQ b o h).imp id fun h=>⟨_,h,b9,cj⟩) ch,rfl,by simp [ad],fun j bH bu az d'=>?_⟩;cases j with
   | zero=>simp [I.settle] at az d';subst az d';exact ⟨rfl,r2,.inr ⟨rfl,rfl,ew⟩⟩
   | succ j=>simp at az
 cases aj with
 | agg as vs h p one r =>
   simp [I.cells] at ak;subst ak;refine ⟨S,fun _ _ h=>h,fun _ _ h=>.inl h,ah,h,one,fun j bH bu az d'=>?_⟩;simp only [List.getElem?_map,Option.map_eq_some_iff] at az;obtain ⟨x,al,rfl⟩:=az;have aD:=p x (List.mem_of_getElem? al);have ai:x.settle=x:=by
    unfold I.settle;split
    ·simp [I.plain] at aD
    ·rfl
   rw [ai];exact ⟨I.fX aD,r j x bu al d',.inl aD⟩
 | junk v=>simp [I.cells] at ak
 | tuple as vs h p r=>simp [I.cells] at ak
 | raw=>simp [I.cells] at ak
 | _=>simp [I.cells] at ak;exact single ak.symm rfl rfl
theorem Ext.last (ah:aJ B U J S w H) (n:Nat):(J++[n])[H.length]?=some n:=by rw [←ah.cA];simp
theorem nr (ah:aJ B U J S w H) (l:aG) (b9:∀ id,l≠.obj id) (cj:∀ id j,l≠.cell id j) {cs:List I} {vs:Array Value} (e:TypeId) (hlen:cs.length≤vs.size)
  (ak:∀ (j:Nat) (u:I) (v:Value),cs[j]?=some u→vs[j]?=some v→u.cP=true∧v.oneCell'=true∧Rel J S w u v∧(u.plain=true∨(j=0∧aV U J S w l u v))) :
  ∃ ay,bj U S w ay S (w.alloc (.cells vs e))∧aJ B ay (J++[w.heap.size]) S (w.alloc (.cells vs e)) (H++[.cells cs]):=by
 classical
 let ay:Nat→Option aG:=fun b=>if b=w.heap.size then some (.obj H.length) else if U b=some l then some (.cell H.length 0) else U b
 have bY:∀ b l',U b=some l'→b≠w.heap.size:=fun b l' h=>by have:=(ah.base b l' h).2;omega
 have aA:bj U S w ay S (w.alloc (.cells vs e)):=by
  have fP:=j6 ah (.cells vs e) (.obj H.length);refine ⟨fP.os,fP.tape,fP.output,fP.size,fP.cG,fP.set,fP.fresh,fun b ag=>?_⟩;by_cases h:b=w.heap.size
  ·exact .inr (by omega)
  ·refine .inl fun aT=>ag ?_;simp [ay,h,aT]
 have bV:aJ B ay J S (w.alloc (.cells vs e)) H:=by
  refine ah.frame aA (fun b l' ag aq=>?_) (fun b o ai=>?_) (fun b l' ag=>?_)
  ·have h:=bY b l' ag;(have dr:l'≠l:=by rcases aq with ⟨id,rfl⟩ | ⟨id,j,rfl⟩ <;> intro e <;> first | exact b9 _ e.symm | exact cj _ _ e.symm);refine ⟨?_,heap_alloc_old w _ b (ah.base b l' ag).2,fun o ai=>ai⟩;simp [ay,h,ag,dr]
  ·obtain ⟨v,ae⟩:=ah.b' b o ai;exact ⟨v,((aA.set b o ai).2).trans ae⟩
  ·by_cases h:b=w.heap.size
   ·subst h;exact ⟨ah.cV,by simp⟩
   ·have:∃ ct,U b=some ct:=by
     cases aT:U b with
     | none=>simp [ay,h,aT] at ag
     | some ct=>exact ⟨ct,rfl⟩
    obtain ⟨ct,aT⟩:=this;have:=ah.base b ct aT;exact ⟨this.1,by simp;omega⟩
 refine ⟨ay,aA,bV.push w.heap.size ⟨w.heap.size,vs,e,Ext.last ah _,by simp [ay],heap_alloc_new w _,hlen,l4 ah,fun j u v hu ae=>?_⟩⟩;obtain ⟨a',bm,bt,b6⟩:=ak j u v hu ae;refine ⟨a',bm,bt.mono (Ext.append J _) aA.set,?_⟩;rcases b6 with b6 | ⟨rfl,b6⟩
 ·exact aV.b3 b6
 ·refine b6.mono (Ext.append J _) aA.set fun b ag=>⟨?_,heap_alloc_old w _ b (ah.base b l ag).2,fun o ai=>ai⟩;simp [ay,bY b l ag,ag]
theorem Et (ah:aJ B U J S w H) {l:aG} (b9:∀ id,l≠.obj id) (cj:∀ id j,l≠.cell id j) {u:I} {v:Value} {vc:List I} (ak:u.cells=some vc) (aj:Rel J S w u v) (ar:aV U J S w l u v) (e:TypeId) :
  ∃ x w',(Instr.box e v).run P w=.ok x w'∧a0 B U J S w (H++[.cells (vc.map I.settle)]) (.ptr H.length 0) x w':=by
 obtain ⟨S',aL,aQ,b_,bR,eg,dJ⟩:=xJ ah b9 cj ak aj ar
 obtain ⟨ay,aA,lh⟩:=nr (cs:=vc.map I.settle) (vs:=v.cells) b_ l b9 cj e (by simp [bR]) (fun j bH bu hu ae=>by
  obtain ⟨aB,aF,aS⟩:=dJ j bH bu hu ae
  exact ⟨aB,eg bu (by simpa using Array.mem_of_getElem? ae),aF,aS.imp id fun ⟨x,_,y⟩=>⟨x,y⟩⟩)
 refine ⟨.pointer (some ⟨w.heap.size,0,none⟩),w.alloc (.cells v.cells e),?_,ay,_,S',Ext.append J _,(bj.settle aL (fun b o h=>(aQ b o h).imp id fun h=>⟨_,h⟩)).trans aA,lh,
  .ptr _ _ _ (Ext.last ah _),aV.b3 rfl⟩
 simp [Instr.box,newVar,newRow,newObj,Sem.run,World.alloc_eq]
theorem Eu (ah:aJ B U J S w H) {u:I} {v:Value} {vc:List I} (ak:u.cells=some vc) (aD:vc.all I.plain=true) (aj:Rel J S w u v) (e:TypeId) :
  ∃ x w',(Instr.box e v).run P w=.ok x w'∧a0 B U J S w H (.bT vc) x w':=by
 rw [List.all_eq_true] at aD;have BD:v.cells.size=vc.length∧(∀ x∈v.cells.toList,x.oneCell'=true)∧∀ (j:Nat) (bH:I) (bu:Value),vc[j]?=some bH→v.cells[j]?=some bu→Rel J S w bH bu:=by
  have single:vc=[u]→v.cells=#[v]→v.oneCell'=true→v.cells.size=vc.length∧(∀ x∈v.cells.toList,x.oneCell'=true)∧∀ (j:Nat) (bH:I) (bu:Value),vc[j]?=some bH→v.cells[j]?=some bu→Rel J S w bH bu:=by
   intro fE ae ad;subst fE;rw [ae];refine ⟨rfl,by simp [ad],fun j bH bu az d'=>?_⟩;cases j with
   | zero=>simp at az d';subst az d';exact aj
   | succ j=>simp at az
  cases aj with
  | agg as vs h p one r =>
    simp [I.cells] at ak;subst ak;exact ⟨h,one,r⟩
  | junk v=>simp [I.cells] at ak
  | tuple as vs h p r=>simp [I.cells] at ak
  | raw=>simp [I.cells] at ak
  | _=>simp [I.cells] at ak;exact single ak.symm rfl rfl
 obtain ⟨bR,eg,dJ⟩:=BD
 let S':Nat→Nat→Prop:=fun b o=>S b o∨(b=w.heap.size∧o<vc.length)
 have hnew:(w.alloc (.cells v.cells e)).heap[w.heap.size]?=some (.cells v.cells e (0,0)):=heap_alloc_new w _;have bw:∀ o,(w.alloc (.cells v.cells e)).cell? ⟨w.heap.size,o,none⟩=v.cells[o]?:=fun o=>cell_of_row _ _ o v.cells e (0,0) hnew;have hold:∀ b o,S b o→(w.alloc (.cells v.cells e)).cell? ⟨b,o,none⟩=w.cell? ⟨b,o,none⟩:=fun b o ai=>by
  obtain ⟨x,al⟩:=ah.b' b o ai;exact oc _ (l2 al)
 have aA:bj U S w U S' (w.alloc (.cells v.cells e)):=by
  refine ⟨rfl,rfl,rfl,by simp,fun b ag _=>heap_alloc_old w _ b ag,fun b o ai=>⟨.inl ai,hold b o ai⟩,fun b o ai=>?_,fun b ag=>.inl ag⟩;rcases ai with ai | ⟨rfl,_⟩
  ·exact .inl ai
  ·exact .inr (.inr (Nat.le_refl _))
 refine ⟨.pointer (some ⟨w.heap.size,0,none⟩),w.alloc (.cells v.cells e),by simp [Instr.box,newVar,newRow,newObj,Sem.run,World.alloc_eq],U,J,S',Ext.refl J,aA,ah.frame aA (fun b l ag _=>?_) (fun b o ai=>?_) (fun b l ag=>?_),
  .bT _ _ _ (fun j=>v.cells.getD j undef) (fun j bH az=>?_) (fun j bH az=>?_),aV.b3 rfl⟩
 ·have aY:=(ah.base b l ag).2;exact ⟨ag,heap_alloc_old w _ b aY,fun o ai=>ai.resolve_right fun h=>by omega⟩
 ·rcases ai with ai | ⟨rfl,ar⟩
  ·obtain ⟨x,al⟩:=ah.b' b o ai;exact ⟨x,(hold b o ai).trans al⟩
  ·exact ⟨_,(bw o).trans (Array.getElem?_eq_getElem (by omega))⟩
 ·have:=ah.base b l ag;exact ⟨this.1,by simp;omega⟩
 ·have aY:=(List.getElem?_eq_some_iff.1 az).1;have d':v.cells[j]?=some (v.cells.getD j undef):=by simp [Array.getD,bR,aY]
  rw [Nat.zero_add];exact ⟨.inr ⟨rfl,aY⟩,(bw j).trans d',aD bH (List.mem_of_getElem? az),eg _ (by simpa using Array.mem_of_getElem? d')⟩
 ·have aY:=(List.getElem?_eq_some_iff.1 az).1;have d':v.cells[j]?=some (v.cells.getD j undef):=by simp [Array.getD,bR,aY]
  exact (dJ j bH _ az d').mono (Ext.refl J) aA.set
theorem Fj {t:TypeId} {z:List I} (h:zeroCells P t=some z):∃ i v,P.info? t=some i∧i.zero=some v∧z=v.cells.toList.map hg∧∀ x∈v.cells.toList,x.oneCell'=true:=by
 simp only [zeroCells,Option.bind_eq_some_iff] at h;obtain ⟨v,⟨i,hi,ae⟩,h⟩:=h;split at h
 ·rename_i dJ;simp at h;exact ⟨i,v,hi,ae,h.symm,List.all_eq_true.1 dJ⟩
 ·simp at h
theorem hE {t:TypeId} {z:List I} (h:zeroCells P t=some z):∃ i v,P.info? t=some i∧i.zero=some v∧cZ J S w z v.cells.toList:=by
 obtain ⟨i,v,hi,ae,rfl,eg⟩:=Fj h;refine ⟨i,v,hi,ae,by simp,fun j u bu hu bc=>?_⟩;simp only [List.getElem?_map,bc,Option.map_some,Option.some.injEq] at hu;subst hu;exact ⟨mB _,eg bu (List.mem_of_getElem? bc),k1 _ _ _ _⟩
theorem jQ {t:TypeId} {i:TypeInfo} {v:Value} (hi:P.info? t=some i) (ae:i.zero=some v):(zeroValue t).run P w=.ok v w:=by
 simp [zeroValue,typeInfo,hi,ae]
theorem Eo (ah:aJ B U J S w H) {t:TypeId} {z:List I} (bn:zeroCells P t=some z) (fH:Value) :
  ∃ x w',(Instr.alloc t true fH).run P w=.ok x w'∧a0 B U J S w (H++[.cells z]) (.ptr H.length 0) x w':=by
 obtain ⟨i,v,hi,ae,ak⟩:=hE (J:=J) (S:=S) (w:=w) bn
 obtain ⟨ay,aA,b_⟩:=nr (cs:=z) (vs:=v.cells) ah .res (by simp) (by simp) t (by have:=ak.len;simp at this;omega) (fun j u bu hu bc=>by
  obtain ⟨a,b,c⟩:=ak.rel j u bu hu (by simpa using bc)
  exact ⟨I.fX a,b,c,.inl a⟩)
 refine ⟨.pointer (some ⟨w.heap.size,0,none⟩),w.alloc (.cells v.cells t),?_,ay,_,S,Ext.append J _,aA,b_,.ptr _ _ _ (Ext.last ah _),aV.b3 rfl⟩;cases fH <;> simp [Instr.alloc,jQ hi ae,newVar,newRow,newObj,Sem.run,World.alloc_eq]
theorem Ep (ah:aJ B U J S w H) {t:TypeId} {s:Nat} (bn:zeroCells P t=some [.ax [] 0 .full]) (fH:Value) :
  ∃ x w',(Instr.alloc t true fH).run P w=.ok x w'∧a0 B U J S w (H++[.cells [.ax [] 0 (.own s)]]) (.ptr H.length 0) x w':=by
 obtain ⟨i,v,hi,ae,ak⟩:=hE (J:=J) (S:=S) (w:=w) bn
 obtain ⟨ay,aA,b_⟩:=nr (cs:=[.ax [] 0 (.own s)]) (vs:=v.cells) ah .res (by simp) (by simp) t (by have:=ak.len;simp at this;simp;omega) (fun j u bu hu bc=>by
  cases j with
  | succ j=>simp at hu
  | zero =>
    simp at hu;subst hu;obtain ⟨a,b,c⟩:=ak.rel 0 _ bu rfl (by simpa using bc);refine ⟨rfl,b,?_,.inr ⟨rfl,?_⟩⟩
    ·cases c with
     | b2 _ a=>exact .b2 _ a
     | ax _ _ _ br o cap f ak hle hu h aj=>exact .ax _ _ _ br o cap f (fun h=>by cases h) hle (fun z h=>by cases h) h aj
    ·cases c with
     | b2 _ a=>cases a with
       | none=>trivial
       | some a=>exact .inl ⟨rfl,rfl,rfl⟩
     | ax _ _ _ b o cap f ak hle hu h aj=>exact .inl ⟨rfl,ak rfl,rfl⟩)
 refine ⟨.pointer (some ⟨w.heap.size,0,none⟩),w.alloc (.cells v.cells t),?_,ay,_,S,Ext.append J _,aA,b_,.ptr _ _ _ (Ext.last ah _),aV.b3 rfl⟩;cases fH <;> simp [Instr.alloc,jQ hi ae,newVar,newRow,newObj,Sem.run,World.alloc_eq]
theorem h3 (z:List I):∀ n,(eU n z).length=n*z.length
 | 0=>by simp [eU]
 | n+1=>by simp [eU,h3 z n,Nat.succ_mul,Nat.add_comm]
theorem zC (z:List I):∀ (n j:Nat),j<n*z.length→(eU n z)[j]?=z[j % z.length]?
 | 0,j,h=>by simp at h
 | n+1,j,h=>by
   simp only [eU];rcases Nat.lt_or_ge j z.length with az | az
   ·rw [List.getElem?_append_left az,Nat.mod_eq_of_lt az]
   ·rw [List.getElem?_append_right az,zC z n _ (by rw [Nat.succ_mul] at h;omega),Nat.mod_eq_sub_mod az]
theorem mr {z:List I} {gd:Array Value} (h:cZ J S w z gd.toList) (bn:0<z.length) (n:Nat) :
  cZ J S w (eU n z) ((Array.range (n*z.length)).map (fun i=>gd[i % gd.size]!)).toList:=by
 have aq:z.length=gd.size:=by simpa using h.len
 refine ⟨by simp [h3],fun j u v hu ae=>?_⟩;have az:j<n*z.length:=by have:=(List.getElem?_eq_some_iff.1 hu).1;rwa [h3] at this
 rw [zC z n j az] at hu;have hm:j % z.length<z.length:=Nat.mod_lt _ bn;refine h.rel (j % z.length) u v hu ?_;simp [az] at ae;rw [←aq] at ae;have mZ:j % z.length<gd.size:=aq ▸ hm;rw [getElem!_pos gd _ mZ] at ae;simp [mZ,ae]
theorem h4 {n bytes:Nat} (h:fo n bytes=true):n*bytes≤140737488355328∧1≤bytes:=by
 simpa [fo] using h
theorem EH (ah:aJ B U J S w H) {t:TypeId} {n c:Int} {k k':IntKind} {z:List I} {sz:Nat} (aT:0≤n) (iA:n≤c) (bn:iX P t c.toNat=some (z,sz)) :
  ∃ x w',(Instr.makeSlice t (.int k n) (.int k' c)).run P w=.ok x w'∧a0 B U J S w (H++[.cells z]) (.ref H.length 0 n.toNat (some c.toNat) sz) x w':=by
 unfold iX at bn;split at bn
 ·rename_i e he;split at bn
  ·rename_i s kU bytes ai pn ag;split at bn
   ·rename_i ak;obtain ⟨jo,hO,oL⟩:=ak;simp only [Option.some.injEq,Prod.mk.injEq] at bn;obtain ⟨rfl,rfl⟩:=bn;obtain ⟨i,v,hi,ae,et⟩:=hE (J:=J) (S:=S) (w:=w) pn;simp only [hi,Option.map_some,Option.some.injEq] at ag;subst ag;obtain ⟨aR,r2⟩:=h4 oL;have fF:=mr et (by omega) c.toNat;have oO:c.toNat≤140737488355328:=Nat.le_trans (Nat.le_mul_of_pos_right _ r2) aR;(have ei:kU.length=v.cells.size:=by simpa using et.len);(have bR:i.size=s:=by obtain ⟨nc,hi',h⟩:=mn ai;rw [hi] at hi';cases hi';exact h);have lp:(i.bytes:Int)*c≤281474976710656:=by
     have:(i.bytes:Int)*c=((c.toNat*i.bytes:Nat):Int):=by rw [Int.natCast_mul,Int.toNat_of_nonneg (by omega),Int.mul_comm]
     rw [this];omega
    have dT:=run_make (P:=P) w t e i v he hi ae k k' n c aT iA lp (by omega);have o6:(madeCells v.cells (c.toNat*i.size)).toList=((Array.range (c.toNat*kU.length)).map (fun i=>v.cells[i % v.cells.size]!)).toList:=by
     rw [bR,←jo];rfl
    rw [←o6] at fF
    obtain ⟨ay,aA,b_⟩:=nr (cs:=eU c.toNat kU) (vs:=madeCells v.cells (c.toNat*i.size)) ah .res (by simp) (by simp) e (by have:=fF.len;simp at this ⊢;omega) (fun j u bu hu bc=>by
     obtain ⟨a,b,c⟩:=fF.rel j u bu hu (by simpa using bc)
     exact ⟨I.fX a,b,c,.inl a⟩)
    exact ⟨_,_,dT,ay,_,S,Ext.append J _,aA,b_,.ref _ _ _ _ _ _ _ (Ext.last ah _) (fun m hm=>by simpa using hm) (by omega),aV.b3 rfl⟩
   ·simp at bn
  ·simp at bn
 ·simp at bn
theorem EI (ah:aJ B U J S w H) {t:TypeId} {c:Int} {k k':IntKind} {z:List I} {sz:Nat} (aT:0≤c) (bn:iX P t c.toNat=some (z,sz)) :
  ∃ x w',(Instr.makeSlice t (.int k c) (.int k' c)).run P w=.ok x w'∧a0 B U J S w H (.ax z c.toNat (.uniq sz)) x w':=by
 unfold iX at bn;split at bn
 ·rename_i e he;split at bn
  ·rename_i s kU bytes ai pn ag;split at bn
   ·rename_i ak;obtain ⟨jo,hO,oL⟩:=ak;simp only [Option.some.injEq,Prod.mk.injEq] at bn;obtain ⟨rfl,rfl⟩:=bn;obtain ⟨i,v,hi,ae,et⟩:=hE (J:=J) (S:=S) (w:=w) pn;simp only [hi,Option.map_some,Option.some.injEq] at ag;subst ag;obtain ⟨aR,r2⟩:=h4 oL;have fF:=mr et (by omega) c.toNat;have oO:c.toNat≤140737488355328:=Nat.le_trans (Nat.le_mul_of_pos_right _ r2) aR;(have ei:kU.length=v.cells.size:=by simpa using et.len);(have bR:i.size=s:=by obtain ⟨nc,hi',h⟩:=mn ai;rw [hi] at hi';cases hi';exact h);have lp:(i.bytes:Int)*c≤281474976710656:=by
     have:(i.bytes:Int)*c=((c.toNat*i.bytes:Nat):Int):=by rw [Int.natCast_mul,Int.toNat_of_nonneg (by omega),Int.mul_comm]
     rw [this];omega
    have dT:=run_make (P:=P) w t e i v he hi ae k k' c c (by omega) (Int.le_refl _) lp (by omega);have o6:(madeCells v.cells (c.toNat*i.size)).toList=((Array.range (c.toNat*kU.length)).map (fun i=>v.cells[i % v.cells.size]!)).toList:=by
     rw [bR,←jo];rfl
    rw [←o6] at fF;have iB:=ns ah fF [] e c.toNat c.toNat s hO (by rw [h3,jo]) (Nat.le_refl _) (by simp only [maxLen];omega) (by rw [←fF.len,h3,jo];simp);simp only [List.append_nil,Array.toArray_toList] at iB;exact ⟨_,_,dT,iB⟩
   ·simp at bn
  ·simp at bn
 ·simp at bn
end
end Go.Proofs.YtfakoboiahbhaaaGreat.Ab


namespace Go.Proofs.YtfakoboiahbhaaaGreat.Ab
open Go
section
variable {P:Program} {B:Nat} {J:List Nat} {w:World} {H:List au} {U:Nat→Option aG} {S:Nat→Nat→Prop}
theorem ml:∀ (vs:List I) (off:Nat) (cs:List I),(setCells off vs cs).length=cs.length
 | [],_,_=>rfl
 | v::vs,off,cs=>by simp [setCells,ml vs]
theorem nM:∀ (vs:List I) (off:Nat) (cs:List I) (j:Nat),off+vs.length≤cs.length →
  (setCells off vs cs)[j]?=if off≤j∧j<off+vs.length then vs[j-off]? else cs[j]?
 | [],off,cs,j,_=>by simp [setCells];omega
 | v::vs,off,cs,j,h=>by
   simp only [List.length_cons] at h;rw [setCells,nM vs (off+1) _ j (by simp;omega)];by_cases ad:j=off
   ·subst ad
    have:¬ (j+1≤j∧j<j+1+vs.length):=by omega
    rw [if_neg this,if_pos (by simp)];simp [show j<cs.length by omega]
   ·by_cases af:off+1≤j∧j<off+1+vs.length
    ·rw [if_pos af,if_pos (by simp;omega)];obtain ⟨k,rfl⟩:∃ k,j=off+1+k:=⟨j-(off+1),by omega⟩;rw [show off+1+k-off=k+1 by omega,show off+1+k-(off+1)=k by omega];simp
    ·rw [if_neg af,if_neg (by simp;omega)];rw [List.getElem?_set_ne (fun e=>ad e.symm)]
theorem jR (cur vs:List Value) (off j:Nat) (h:off+vs.length≤cur.length) :
  (cur.take off++vs++cur.drop (off+vs.length))[j]?=if off≤j∧j<off+vs.length then vs[j-off]? else cur[j]?:=by
 have aw:(cur.take off).length=off:=by simp;omega
 by_cases ad:j<off
 ·rw [if_neg (by omega),List.append_assoc,List.getElem?_append_left (by omega),List.getElem?_take,if_pos ad]
 ·by_cases af:j<off+vs.length
  ·rw [if_pos ⟨by omega,af⟩,List.append_assoc,List.getElem?_append_right (by omega),aw,List.getElem?_append_left (by omega)]
  ·rw [if_neg (by omega),List.getElem?_append_right (by simp;omega)];simp only [List.length_append,aw,List.getElem?_drop];congr 1;omega
theorem pI (ah:aJ B U J S w H) {id:Nat} {l l':List I} (aE:H[id]?=some (.cells l)) {b:Nat} {cur cur':Array Value} {e:TypeId} (aB:J[id]?=some b) (aF:U b=some (.obj id))
  (aS:w.heap[b]?=some (.cells cur e (0,0))) (bf:∀ o,¬ S b o) (L:aG) (b9:∀ id,L≠.obj id) (cj:∀ id j,L≠.cell id j) (aq:l'.length≤cur'.size) (yH:Nat)
  (ak:∀ (j:Nat) (u:I) (v:Value),l'[j]?=some u→cur'[j]?=some v→u.cP=true∧v.oneCell'=true∧Rel J S w u v ∧
   (u.plain=true∨aV U J S w (.cell id j) u v∨(j=yH∧aV U J S w L u v))) :
  ∃ ay,bj U S w ay S (w.setRow b cur')∧aJ B ay J S (w.setRow b cur') (H.set id (.cells l')):=by
 classical
 let ay:Nat→Option aG:=fun ao=>if U ao=some L then some (.cell id yH) else U ao
 have bw:∀ ao o,ao≠b→(w.setRow b cur').cell? ⟨ao,o,none⟩=w.cell? ⟨ao,o,none⟩:=fun ao o h=>by
  unfold World.cell?;simp only [setRow_other w b ao cur' h]
 have hj:∀ ao o,S ao o→ao≠b:=fun ao o ai e=>bf o (e ▸ ai);have x3:L≠.obj id:=b9 id;have o3:∀ ao ct,U ao=some ct→ct≠L→ay ao=some ct:=fun ao ct h aP=>by
  have:¬ U ao=some L:=by rw [h];intro e;cases e;exact aP rfl
  simp [ay,h,aP]
 have bR:(w.setRow b cur').heap.size=w.heap.size:=by simp [World.setRow]
 have aA:bj U S w ay S (w.setRow b cur'):=by
  refine ⟨rfl,rfl,rfl,by omega,fun ao bq aP=>setRow_other w b ao cur' (fun e=>by subst e;rw [aF] at aP;cases aP),fun ao o ai=>⟨ai,bw ao o (hj ao o ai)⟩,fun ao o ai=>.inl ai,fun ao bq=>?_⟩;refine .inl fun aT=>bq ?_;simp [ay,aT]
 refine ⟨ay,aA,by simpa using ah.cA,fun bA o ar=>?_,fun ao o ai=>?_,fun ao ct bq=>?_,by rw [bR];exact ah.cV⟩
 ·by_cases gX:bA=id
  ·subst gX;rw [List.getElem?_set_self (List.getElem?_eq_some_iff.1 aE).1] at ar;cases ar;refine ⟨b,cur',e,aB,o3 b _ aF (fun e=>x3 e.symm),setRow_heap w b cur cur' e (0,0) aS,aq,bf,fun j u v hu ae=>?_⟩;obtain ⟨a',bm,bt,b6⟩:=ak j u v hu ae;refine ⟨a',bm,bt.mono (Ext.refl J) aA.set,?_⟩;rcases b6 with b6 | b6 | ⟨rfl,b6⟩
   ·exact aV.b3 b6
   ·exact b6.mono (Ext.refl J) aA.set fun ao bq=>⟨o3 ao _ bq (fun e=>cj _ _ e.symm),setRow_other w b ao cur' (fun e=>by subst e;rw [aF] at bq;cases bq),fun o ai=>ai⟩
   ·exact b6.mono (Ext.refl J) aA.set fun ao bq=>⟨by simp [ay,bq],setRow_other w b ao cur' (fun e=>by subst e;rw [aF] at bq;cases bq;exact x3 rfl),fun o ai=>ai⟩
  ·rw [List.getElem?_set_ne (fun e=>gX e.symm)] at ar;refine (ah.obj bA o ar).frame (Ext.refl J) aA.set fun ao ct bq js=>?_;have bY:ao≠b:=fun e=>by
    subst e;rw [aF] at bq;cases bq;rcases js with h | ⟨j,h⟩
    ·cases h;exact gX rfl
    ·cases h
   exact ⟨o3 ao ct bq (by rcases js with rfl | ⟨j,rfl⟩ <;> intro e <;> first | exact b9 _ e.symm | exact cj _ _ e.symm),setRow_other w b ao cur' bY,fun o ai=>ai⟩
 ·obtain ⟨v,ae⟩:=ah.b' ao o ai;exact ⟨v,(bw ao o (hj ao o ai)).trans ae⟩
 ·rw [bR];by_cases h:U ao=some L
  ·exact ah.base ao L h
  ·simp only [ay,h,if_false] at bq;exact ah.base ao ct bq
theorem ER (ah:aJ B U J S w H) {l:aG} (b9:∀ id,l≠.obj id) (cj:∀ id j,l≠.cell id j) {lo:Nat} {t:TypeId} {a u:I} {x v:Value} {H':List au} (h:ig P lo H t a u=some H')
  (cu:Rel J S w a x) (aj:Rel J S w u v) (ar:aV U J S w l u v) (y:Value) :
  ∃ w',(Instr.storeAt t x v).run P w=.ok () w'∧a0 B U J S w H' .junk y w':=by
 have key:∀ {H H':List au} (_:aJ B U J S w H) {id off s:Nat} (_:bQ P t=some s) {vc:List I} (_:u.cells=some vc) {ll l':List I} (_:H[id]?=some (.cells ll))
   (_:(if vc.length=s∧off+s≤ll.length then some (setCells off (vc.map I.settle) ll) else none)=some l') (_:Rel J S w (.ptr id off) x) (_:H'=H.set id (.cells l')),
   ∃ w' b cur,(Instr.storeAt t x v).run P w=.ok () w'∧a0 B U J S w H' .junk y w'∧J[id]?=some b∧(∃ e,w.heap[b]?=some (.cells cur e (0,0)))∧∃ cur' e,w'.heap[b]?=some (.cells cur' e (0,0))∧cur'.size=cur.size:=by
  intro H H' ah id off s ai vc fE ll l' aE dr cu b_;subst b_
  ·
     split at dr
     ·rename_i gW;obtain ⟨a',bm⟩:=gW;simp only [Option.some.injEq] at dr;subst dr;obtain ⟨S',aL,aQ,b_,bR,eg,dJ⟩:=xJ ah b9 cj fE aj ar;obtain ⟨b,cur,e,aB,aF,aS,bp,bf,bg⟩:=b_.obj id _ aE;cases cu with
      | ptr id off ao ag =>
        rw [aB] at ag;cases ag;have cF:=run_storeCells_at P b off e v.cells.toList 0 cur w aS (by simp [bR];omega) eg;simp only [Nat.add_zero] at cF;obtain ⟨ay,aA,lh⟩:=pI (cur':=(cur.toList.take off++v.cells.toList++cur.toList.drop (off+v.cells.toList.length)).toArray) (l':=setCells off (vc.map I.settle) ll) b_ aE aB aF aS bf l b9 cj
         (by simp [ml,bR];omega) off (fun j bH bu hu ae=>by
          rw [nM _ _ _ _ (by simp;omega)] at hu;(have ae:(cur.toList.take off++v.cells.toList++cur.toList.drop (off+v.cells.toList.length))[j]?=some bu:=by simpa using ae);rw [jR _ _ _ _ (by simp [bR];omega)] at ae;simp only [List.length_map,Array.length_toList,bR] at hu ae;split at hu
          ·rename_i az;rw [if_pos az] at ae;obtain ⟨d1,d2,d3⟩:=dJ (j-off) bH bu hu (by simpa using ae);refine ⟨d1,eg bu (List.mem_of_getElem? ae),d2,?_⟩;rcases d3 with d3 | ⟨d3,_,d4⟩
           ·exact .inl d3
           ·exact .inr (.inr ⟨by omega,d4⟩)
          ·rename_i az;rw [if_neg az] at ae;obtain ⟨d1,d0,d2,d3⟩:=bg j bH bu hu (by simpa using ae)
           exact ⟨d1,d0,d2,.inr (.inl d3)⟩)
        refine ⟨_,b,cur,?_,⟨ay,J,S',Ext.refl J,(bj.settle aL (fun b o h=>(aQ b o h).imp (fun h=>h) fun h=>⟨_,h⟩)).trans aA,lh,.junk y,aV.b3 rfl⟩,aB,⟨e,aS⟩,_,e,setRow_heap w b cur _ e (0,0) aS,?_⟩
        ·simp only [Instr.storeAt,Instr.sureAddr,storeVar,Sem.run_bind,Sem.run_pure,Result.andThen_ok,run_sizeOf ai];rw [if_neg (by rw [bR,a'];simp)];exact cF
        ·simp [bR];omega
     ·simp at dr
 unfold ig at h;split at h
 ·rename_i id off s ai;split at h
  ·rename_i vc fE;unfold g5 at h;split at h
   ·split at h
    ·rename_i lo' ll aE;simp only [Option.map_eq_some_iff] at h;obtain ⟨l',dr,rfl⟩:=h;obtain ⟨w',_,_,aW,aX,_⟩:=key ah ai fE aE dr cu rfl;exact ⟨w',aW,aX⟩
    ·rename_i lo' ll g z aE;simp only [Option.map_eq_some_iff] at h;obtain ⟨l',dr,rfl⟩:=h;have aY:=(List.getElem?_eq_some_iff.1 aE).1;obtain ⟨b,cur,e,aB,aF,aS,bp,bf,bg,cap,cY,c4,dv,fu⟩:=ah.obj id _ aE;obtain ⟨w',ao,Bd,aW,⟨ay,bZ,S',bP,b4,ev,fI⟩,cw,⟨fP,dG⟩,cur',cL,mc,pN⟩:=key (ah.nU aE) ai fE (ll:=ll) (by rw [List.getElem?_set_self aY]) dr cu rfl;rw [aB] at cw;cases cw;rw [aS] at dG;cases dG;have aK:=ev.pP (g:=g) (z:=z) (by rw [List.getElem?_set_self (by simpa using aY)]) (bP _ _ aB) (bP _ _ cY) c4 dv mc (by rw [pN,fu]);rw [List.set_set,List.set_set] at aK;exact ⟨w',aW,ay,bZ,S',bP,b4,aK,fI⟩
    ·simp at h
   ·simp at h
  ·simp at h
 ·simp at h
theorem ES (ah:aJ B U J S w H) {l:aG} (b9:∀ id,l≠.obj id) (cj:∀ id j,l≠.cell id j) {lo:Nat} {t:TypeId} {a u:I} {x v:Value} {H':List au} (h:k0 P lo H t a u=some H')
  (cu:Rel J S w a x) (aj:Rel J S w u v) (ar:aV U J S w l u v) (y:Value) :
  ∃ w',(Instr.storeAt t x v).run P w=.ok () w'∧a0 B U J S w H' .junk y w':=by
 unfold k0 at h;split at h
 ·rename_i id off c n z ai;split at h
  ·rename_i ak;obtain ⟨aR,r2⟩:=E6 ak.2 ak.1 aj ar;unfold g4 at h;split at h
   ·split at h
    ·rename_i lo' ll aE;simp only [Option.map_eq_some_iff] at h;obtain ⟨l',dr,rfl⟩:=h;split at dr
     ·rename_i cS;simp only [Option.some.injEq] at dr;subst dr;obtain ⟨b,cur,e,aB,aF,aS,bp,bf,bg⟩:=ah.obj id _ aE;cases cu with
      | ptr id off ao ag =>
        rw [aB] at ag;cases ag;(have eg:∃ b o cap,v=.slice (some ⟨b,o,none⟩) n cap:=by cases aR with | raw _ _ _ b o cap=>exact ⟨b,o,cap,rfl⟩);(have dV:v.cells=#[v]∧v.oneCell'=true:=by obtain ⟨b,o,cap,rfl⟩:=eg;exact ⟨rfl,rfl⟩);have cF:=run_storeCells_at P b off e v.cells.toList 0 cur w aS (by rw [dV.1];simp;omega) (by rw [dV.1];simp [dV.2]);simp only [Nat.add_zero,dV.1] at cF;obtain ⟨ay,aA,lh⟩:=pI (cur':=(cur.toList.take off++[v]++cur.toList.drop (off+1)).toArray) (l':=ll.set off (.raw c n z)) ah aE aB aF aS bf l b9 cj
         (by simp;omega) off (fun j bH bu hu ae=>by
          (have ae:(cur.toList.take off++[v]++cur.toList.drop (off+1))[j]?=some bu:=by simpa using ae);have dt:=jR cur.toList [v] off j (by simp;omega);simp only [List.length_singleton] at dt;rw [dt] at ae;by_cases az:off=j
          ·subst az;rw [List.getElem?_set_self cS] at hu;cases hu;rw [if_pos ⟨by omega,by omega⟩] at ae;simp at ae;subst ae;exact ⟨rfl,dV.2,aR,.inr (.inr ⟨rfl,r2⟩)⟩
          ·rw [List.getElem?_set_ne az] at hu;rw [if_neg (by omega)] at ae;obtain ⟨d1,d0,d2,d3⟩:=bg j bH bu hu (by simpa using ae)
           exact ⟨d1,d0,d2,.inr (.inl d3)⟩)
        refine ⟨_,?_,ay,J,S,Ext.refl J,aA,lh,.junk y,aV.b3 rfl⟩;simp only [Instr.storeAt,Instr.sureAddr,storeVar,Sem.run_bind,Sem.run_pure,Result.andThen_ok,run_sizeOf ai];rw [if_neg (by rw [dV.1];simp),dV.1];exact cF
     ·simp at dr
    ·simp at h
   ·simp at h
  ·simp at h
 ·simp at h
theorem h2 (ah:aJ B U J S w H) {l:aG} (b9:∀ id,l≠.obj id) (cj:∀ id j,l≠.cell id j) {u:I} {v:Value} (aj:Rel J S w u v) (ar:aV U J S w l u v) :
  a0 B U J S w H u v w:=by
 classical
 let ay:Nat→Option aG:=fun b=>if U b=some l then some .res else U b
 have aA:bj U S w ay S w:=⟨rfl,rfl,rfl,Nat.le_refl _,fun _ _ _=>rfl,fun _ _ h=>⟨h,rfl⟩,fun _ _ h=>.inl h,fun b ag=>.inl fun aT=>ag (by simp [ay,aT])⟩;refine ⟨ay,J,S,Ext.refl J,aA,ah.frame aA (fun b l' ag aq=>?_) ah.b' (fun b l' ag=>?_),aj,ar.mono (Ext.refl J) aA.set fun b ag=>⟨by simp [ay,ag],rfl,fun _ h=>h⟩⟩
 ·have bY:l'≠l:=by rcases aq with ⟨id,rfl⟩ | ⟨id,j,rfl⟩ <;> intro e <;> first | exact b9 _ e.symm | exact cj _ _ e.symm
  exact ⟨by simp [ay,ag,bY],rfl,fun _ h=>h⟩
 ·by_cases h:U b=some l
  ·exact ah.base b l h
  ·simp only [ay,h,if_false] at ag;exact ah.base b l' ag
theorem zk (ah:aJ B U J S w H) {l:aG} (b9:∀ id,l≠.obj id) (cj:∀ id j,l≠.cell id j) {cells:List I} {len z:Nat} (aT:len≠0) {v:Value}
  (aj:Rel J S w (.ax cells len (.uniq z)) v) (ar:aV U J S w l (.ax cells len (.uniq z)) v) :
  a0 B U J S w (H++[.cells cells]) (.ref H.length 0 len none z) v w:=by
 classical
 cases aj with
 | b2 c a=>exact absurd rfl aT
 | ax cells len c b o cap f ak hle hu h fk=>exact absurd rfl (hu z)
 | cH cells len z b o cap =>
   rcases ar with ⟨rfl,_,_⟩ | ⟨ad,ar,af,aH,bh,bM,⟨cur,e,bU,cM,cN⟩,cR⟩
   ·exact absurd rfl aT
   ·simp only at ad bU cR ar;subst ar
    let ay:Nat→Option aG:=fun ao=>if ao=b then some (.obj H.length) else U ao
    have aA:bj U S w ay S w:=⟨rfl,rfl,rfl,Nat.le_refl _,fun _ _ _=>rfl,fun _ _ h=>⟨h,rfl⟩,fun _ _ h=>.inl h,fun ao ag=>by
     by_cases dx:ao=b
     ·subst dx;exact .inl (by simp [ad])
     ·simp only [ay,dx,if_false] at ag;exact .inl ag⟩
    have bV:aJ B ay J S w H:=by
     refine ah.frame aA (fun ao l' ag aq=>?_) ah.b' (fun ao l' ag=>?_)
     ·have bY:ao≠b:=fun e=>by
       subst e;rw [ad] at ag;cases ag;rcases aq with ⟨id,h⟩ | ⟨id,j,h⟩
       ·exact b9 _ h
       ·exact cj _ _ h
      exact ⟨by simp [ay,bY,ag],rfl,fun _ h=>h⟩
     ·by_cases dx:ao=b
      ·subst dx;exact ah.base _ l ad
      ·simp only [ay,dx,if_false] at ag;exact ah.base ao l' ag
    refine ⟨ay,_,S,Ext.append J [b],aA,bV.push b ⟨b,cur,e,Ext.last ah _,by simp [ay],bU,by rw [cM,bM];exact Nat.mul_le_mul_right _ af,cR,fun j u v hu ae=>?_⟩,
     .ref _ _ _ _ _ b _ (Ext.last ah _) (by simp) af,aV.b3 rfl⟩
    obtain ⟨a',bm,bt⟩:=cN j u v hu ae;exact ⟨I.fX a',bm,bt.mono (Ext.append J _) aA.set,aV.b3 a'⟩
theorem p2 (ah:aJ B U J S w H) {u:I} {v:Value} {row:List I} (h:rowOf H u=some row) (aj:Rel J S w u v) (aP:u.cP=true) :
  (row=[]∧∃ a c,v=.slice a 0 c)∨∃ b o n c vs,v=.slice (some ⟨b,o,none⟩) n c∧cZ J S w row vs∧(∀ j x,vs[j]?=some x→w.cell? ⟨b,o+j,none⟩=some x):=by
 unfold rowOf at h;split at h
 ·rename_i cells len c;simp at h;subst h;cases aj with
  | b2 c a=>exact .inl ⟨rfl,a,_,rfl⟩
  | cH=>simp [I.cP] at aP
  | ax _ _ _ b o cap f ak hle hu bw b7 =>
    refine .inr ⟨b,o,len,cap,(List.range cells.length).map f,rfl,⟨by simp,fun j u v b8 bc=>?_⟩,fun j x al=>?_⟩
    ·have az:=(List.getElem?_eq_some_iff.1 b8).1;simp [az] at bc;subst bc;exact ⟨(bw j u b8).2.2.1,(bw j u b8).2.2.2,b7 j u b8⟩
    ·simp only [List.getElem?_map,Option.map_eq_some_iff] at al;obtain ⟨k,av,rfl⟩:=al;(have az:j<cells.length:=by have:=(List.getElem?_eq_some_iff.1 av).1;simpa using this);simp [az] at av;subst av;exact (bw j _ (List.getElem?_eq_getElem az)).2.1
 ·rename_i id off len cap sz;split at h
  ·rename_i l aE;split at h
   ·rename_i hle;simp only [Option.some.injEq] at h;subst h;obtain ⟨b,cur,e,aB,aF,aS,bp,bf,bg⟩:=ah.obj id _ aE;cases aj with
    | ref id off len c sz ao cap' ag ak B3 =>
      rw [aB] at ag;cases ag;refine .inr ⟨b,off,len,cap',(cur.toList.drop off).take (len*sz),rfl,⟨by simp;omega,fun j u v b8 bc=>?_⟩,fun j x al=>?_⟩
      ·simp only [List.getElem?_map,Option.map_eq_some_iff] at b8;obtain ⟨y,aZ,rfl⟩:=b8;rw [List.getElem?_take] at aZ bc;split at aZ
       ·rename_i az;rw [if_pos az] at bc;rw [List.getElem?_drop] at aZ bc;obtain ⟨d1,d0,d2,_⟩:=bg (off+j) y v aZ (by simpa using bc);exact ⟨I.c_ y,d0,d2.view d1⟩
       ·simp at aZ
      ·rw [List.getElem?_take] at al;split at al
       ·rw [List.getElem?_drop] at al;rw [cell_of_row w b _ cur e (0,0) aS];simpa using al
       ·simp at al
   ·simp at h
  ·simp at h
 ·simp at h
theorem l0 {u:I} {v:Value} {n:Nat} (h:lenOf u=some n) (aj:Rel J S w u v):∃ a c,v=.slice a n c:=by
 unfold lenOf at h;split at h
 ·simp at h;subst h;cases aj with
  | b2 c a=>exact ⟨_,_,rfl⟩
  | ax=>exact ⟨_,_,rfl⟩
  | cH=>exact ⟨_,_,rfl⟩
 ·simp at h;subst h;cases aj with
  | ref=>exact ⟨_,_,rfl⟩
 ·simp at h
end
end Go.Proofs.YtfakoboiahbhaaaGreat.Ab


namespace Go.Proofs.YtfakoboiahbhaaaGreat.Ab
open Go
section
variable {P:Program} {B:Nat} {J:List Nat} {w:World} {H:List au} {U:Nat→Option aG} {S:Nat→Nat→Prop}
theorem a0.after {b5:Nat→Option aG} {cT:List Nat} {a5:Nat→Nat→Prop} {bE:World} (bL:Ext J cT) (aA:bj U S w b5 a5 bE) {H':List au} {r:I} {v:Value} {w':World} (h:a0 B b5 cT a5 bE H' r v w'):a0 B U J S w H' r v w':=by
 obtain ⟨ay,bZ,S',a,b,c,d,e⟩:=h;exact ⟨ay,bZ,S',bL.trans a,aA.trans b,c,d,e⟩
theorem a0.settle {cells:List I} {len z:Nat} {v:Value} {w':World} {H':List au} (h:a0 B U J S w H' (.ax cells len (.uniq z)) v w'):a0 B U J S w H' (.ax cells len (.own z)) v w':=by
 obtain ⟨ay,bZ,S',a,b,c,d,e⟩:=h;obtain ⟨a5,aL,aQ,ch,aR,r2,ew⟩:=jT c d e;exact ⟨ay,bZ,a5,a,b.trans (bj.settle aL fun b o h=>(aQ b o h).imp (fun h=>h) fun h=>⟨_,h⟩),c.settle aL (fun b o h=>(aQ b o h).imp (fun h=>h) fun h=>⟨_,h,by simp,by simp⟩) ch,r2,ew⟩
theorem z1 (t ty e:TypeId) (i:TypeInfo) (aw:P.underlying t=some (.slice e)) (hi:P.info? e=some i) (base:Option Addr) (ez hb:Nat) (hle:ez≤hb) (a:Option Addr) (c:Nat) :
  (Builtin.append_ #[t,t] ty #[.slice base ez hb,.slice a 0 c]).run P w=.ok (.slice base ez hb) w:=by
 cases a <;> cases base <;> simp [Builtin.append_,run_underlying aw,sizeOf,typeInfo,hi,Builtin.lenOf,hle,Builtin.firstCells,loadCells,loadCellsFrom,storeCells]
theorem z0 (w:World) (t ty e:TypeId) (i:TypeInfo) (aw:P.underlying t=some (.slice e)) (hi:P.info? e=some i)
  (g ez hb:Nat) (cur:Array Value) (ce:TypeId) (aK:w.heap[g]?=some (.cells cur ce (0,0)))
  (a:Addr) (m c:Nat) (news:List Value) (aq:news.length=m*i.size) (o':∀ j u,news[j]?=some u→w.cell? (a.add j)=some u) (ad:∀ u∈news,u.oneCell'=true)
  (eh:ez+m≤hb) (dy:ez*i.size+news.length≤cur.size) :
  (Builtin.append_ #[t,t] ty #[.slice (some ⟨g,0,none⟩) ez hb,.slice (some a) m c]).run P w =
   .ok (.slice (some ⟨g,0,none⟩) (ez+m) hb) (w.setRow g (cur.toList.take (ez*i.size)++news++cur.toList.drop (ez*i.size+news.length)).toArray):=by
 have aN:=run_firstCells_some (P:=P) w i.size m a m c news aq o';have cF:=run_storeCells_at P g (ez*i.size) ce news 0 cur w aK (by simpa using dy) ad;simp only [Nat.add_zero] at cF;simp [Builtin.append_,run_underlying aw,sizeOf,typeInfo,hi,Builtin.lenOf,eh,aN,Addr.add_lit,cF]
theorem DZ (w:World) (t ty e:TypeId) (i:TypeInfo) (aw:P.underlying t=some (.slice e)) (hi:P.info? e=some i)
  (g k ez hb:Nat) (cur:Array Value) (ce:TypeId) (aK:w.heap[g]?=some (.cells cur ce (0,0)))
  (a:Addr) (m c:Nat) (news:List Value) (aq:news.length=m*i.size) (o':∀ j u,news[j]?=some u→w.cell? (a.add j)=some u) (ad:∀ u∈news,u.oneCell'=true)
  (eh:ez+m≤hb) (dy:k+ez*i.size+news.length≤cur.size) :
  (Builtin.append_ #[t,t] ty #[.slice (some ⟨g,k,none⟩) ez hb,.slice (some a) m c]).run P w =
   .ok (.slice (some ⟨g,k,none⟩) (ez+m) hb) (w.setRow g (cur.toList.take (k+ez*i.size)++news++cur.toList.drop (k+ez*i.size+news.length)).toArray):=by
 have aN:=run_firstCells_some (P:=P) w i.size m a m c news aq o';have cF:=run_storeCells_at P g (k+ez*i.size) ce news 0 cur w aK (by simpa using dy) ad;simp only [Nat.add_zero] at cF;simp [Builtin.append_,run_underlying aw,sizeOf,typeInfo,hi,Builtin.lenOf,eh,aN,Addr.add_lit,cF]
section grow
variable {t ty e:TypeId} {i:TypeInfo} {z:Value} {F6:List I}
theorem hL (ah:aJ B U J S w H) (aw:P.underlying t=some (.slice e)) (hi:P.info? e=some i) (bn:i.zero=some z) (ei:z.cells.size=i.size) (bR:0<i.size)
  (v:Value) (len cap:Nat) (iK:List Value) (ae:((∃ a,v=.slice a 0 0)∧len=0∧cap=0∧iK=[])∨∃ b o,v=.slice (some ⟨b,o,none⟩) len cap∧∀ j x,iK[j]?=some x→w.cell? ⟨b,o+j,none⟩=some x)
  {cs:List I} (gx:cZ J S w cs iK) (fD:cs.length=len*i.size)
  {ao cK m c:Nat} {new:List I} {news:List Value} (hnew:cZ J S w new news) (bw:∀ j x,news[j]?=some x→w.cell? ⟨ao,cK+j,none⟩=some x) (cW:new.length=m*i.size)
  (hm:0<m) (mW:cap<len+m) (eh:(len+m)*i.bytes≤140737488355328) (eQ:1≤i.bytes) :
  ∃ x w',(Builtin.append_ #[t,t] ty #[v,.slice (some ⟨ao,cK,none⟩) m c]).run P w=.ok x w'∧a0 B U J S w H (.ax (cs++new) (len+m) (.uniq i.size)) x w':=by
 have B4:len+m≤140737488355328:=Nat.le_trans (Nat.le_mul_of_pos_right _ eQ) eh;have ef:len+m≤maxLen:=by simp only [maxLen];omega
 have eE:news.length=m*i.size:=hnew.len ▸ cW;have yl:iK.length=len*i.size:=gx.len ▸ fD;have kb:∀ j x,news[j]?=some x→w.cell? ((⟨ao,cK,none⟩:Addr).add j)=some x:=fun j x h=>by rw [add_lit];exact bw j x h
 have fin:∀ e3:Nat,e3=grownCap w (len+m) cap e →
   a0 B U J S w H (.ax (cs++new) (len+m) (.uniq i.size)) (.slice (some ⟨w.heap.size,0,none⟩) (len+m) e3)
    (w.drew.alloc (.cells (iK.toArray++news.toArray++Builtin.zeroCells z.cells (e3-(len+m))) e)):=by
  rintro e3 rfl;have e5:=grownCap_ge w (len+m) cap e;have hle:=grownCap_le_maxLen w (len+m) cap e ef;generalize grownCap w (len+m) cap e=e3 at e5 hle;have aA:=k_ U S w;have h:=ns (m9 ah) ((gx.append hnew).mono (Ext.refl J) aA.set) (Builtin.zeroCells z.cells (e3-(len+m))).toList e (len+m) e3 i.size bR
   (by rw [List.length_append,fD,cW,Nat.add_mul]) e5 hle (by
    rw [List.length_append,yl,eE,←Nat.add_mul,Array.length_toList,size_zeroCells,ei,←Nat.add_mul];congr 1;omega)
  have he:(iK++news++(Builtin.zeroCells z.cells (e3-(len+m))).toList).toArray=iK.toArray++news.toArray++Builtin.zeroCells z.cells (e3-(len+m)):=by
   apply Array.ext';simp
  rw [he] at h;exact a0.after (Ext.refl J) aA h
 rcases ae with ⟨⟨jd,rfl⟩,rfl,rfl,rfl⟩ | ⟨b,o,rfl,hold⟩
 ·cases jd with
  | none =>
    have aj:=run_append_nil (P:=P) w t ty e i z aw hi bn ⟨ao,cK,none⟩ m c news eE kb hm (by omega) (by rw [Nat.zero_add] at eh;omega);have f:=fin _ rfl;refine ⟨_,_,aj,?_⟩;simpa using f
  | some k2 =>
    have aj:=run_append_grow (P:=P) w t ty e i z aw hi bn k2 0 0 [] (by simp) (by simp) ⟨ao,cK,none⟩ m c news eE kb mW (by omega) (growslice_fits mW eh);exact ⟨_,_,aj,fin _ rfl⟩
 ·have aj:=run_append_grow (P:=P) w t ty e i z aw hi bn ⟨b,o,none⟩ len cap iK yl (fun j x h=>by rw [add_lit];exact hold j x h) ⟨ao,cK,none⟩ m c news eE kb mW (by omega) (growslice_fits mW eh);exact ⟨_,_,aj,fin _ rfl⟩
theorem AZ (ah:aJ B U J S w H) (aw:P.underlying t=some (.slice e)) (hi:P.info? e=some i) (bR:0<i.size) {l:aG} (b9:∀ id,l≠.obj id) (cj:∀ id j,l≠.cell id j)
  {cells:List I} {len b cap:Nat} {cur:Array Value} {ce:TypeId} (bC:U b=some l) (ky:cap≤maxLen) (hY:cells.length=len*i.size)
  (g6:w.heap[b]?=some (.cells cur ce (0,0))) (gD:cur.size=cap*i.size) (jE:∀ (j:Nat) (u:I) (v:Value),cells[j]?=some u→cur[j]?=some v→u.plain=true∧v.oneCell'=true∧Rel J S w u v)
  (g7:∀ o,¬ S b o)
  {ao cK m c:Nat} {new:List I} {news:List Value} (hnew:cZ J S w new news) (bw:∀ j x,news[j]?=some x→w.cell? ⟨ao,cK+j,none⟩=some x) (cW:new.length=m*i.size) (dy:len+m≤cap) :
  ∃ x w',(Builtin.append_ #[t,t] ty #[.slice (some ⟨b,0,none⟩) len cap,.slice (some ⟨ao,cK,none⟩) m c]).run P w=.ok x w'∧a0 B U J S w H (.ax (cells++new) (len+m) (.uniq i.size)) x w':=by
 classical
 have eE:news.length=m*i.size:=hnew.len ▸ cW;have jq:(len+m)*i.size≤cap*i.size:=Nat.mul_le_mul_right _ dy;rw [Nat.add_mul] at jq;have eg:∀ u∈news,u.oneCell'=true:=fun u hu=>by
  obtain ⟨j,az⟩:=List.mem_iff_getElem?.1 hu;have aY:=(List.getElem?_eq_some_iff.1 az).1;exact (hnew.rel j _ u (List.getElem?_eq_getElem (hnew.len ▸ aY)) az).2.1
 have aj:=z0 w t ty e i aw hi b len cap cur ce g6 ⟨ao,cK,none⟩ m c news eE (fun j x h=>by rw [add_lit];exact bw j x h) eg dy (by rw [gD];omega)
 let cur':Array Value:=(cur.toList.take (len*i.size)++news++cur.toList.drop (len*i.size+news.length)).toArray
 have mR:∀ br o,br≠b→(w.setRow b cur').cell? ⟨br,o,none⟩=w.cell? ⟨br,o,none⟩:=fun br o h=>by
  unfold World.cell?;simp only [setRow_other w b br cur' h]
 let ay:Nat→Option aG:=fun br=>if br=b then some .res else U br
 have kk:(w.setRow b cur').heap.size=w.heap.size:=by simp [World.setRow]
 have aA:bj U S w ay S (w.setRow b cur'):=by
  refine ⟨rfl,rfl,rfl,by omega,fun br ag aP=>setRow_other w b br cur' (fun e=>by subst e;rw [bC] at aP;cases aP),fun br o ai=>⟨ai,mR br o (fun e=>g7 o (e ▸ ai))⟩,fun _ _ ai=>.inl ai,fun br ag=>?_⟩;by_cases h:br=b
  ·subst h;exact .inl (by simp [bC])
  ·simp only [ay,h,if_false] at ag;exact .inl ag
 refine ⟨_,_,aj,ay,J,S,Ext.refl J,aA,ah.frame aA (fun br l' ag aq=>?_) (fun br o ai=>?_) (fun br l' ag=>?_),.cH _ _ _ _ _ _,.inr ⟨by simp [ay],rfl,dy,ky,bR,by rw [List.length_append,hY,cW,Nat.add_mul],⟨cur',ce,setRow_heap w b cur cur' ce (0,0) g6,?_,fun j u v hu ae=>?_⟩,g7⟩⟩
 ·have bY:br≠b:=fun e=>by
   subst e;rw [bC] at ag;cases ag;rcases aq with ⟨id,h⟩ | ⟨id,j,h⟩
   ·exact b9 _ h
   ·exact cj _ _ h
  exact ⟨by simp [ay,bY,ag],setRow_other w b br cur' bY,fun _ h=>h⟩
 ·obtain ⟨v,ae⟩:=ah.b' br o ai;exact ⟨v,(mR br o (fun e=>g7 o (e ▸ ai))).trans ae⟩
 ·rw [kk];by_cases h:br=b
  ·subst h;exact ah.base _ l bC
  ·simp only [ay,h,if_false] at ag;exact ah.base br l' ag
 ·have ad:cur.toList.length=cap*i.size:=by simp [gD]
  show (List.toArray _).size=_;rw [List.size_toArray,List.length_append,List.length_append,List.length_take,List.length_drop,ad,eE,Nat.min_eq_left (by omega)];omega
 ·have ae:(cur.toList.take (len*i.size)++news++cur.toList.drop (len*i.size+news.length))[j]?=some v:=by simpa [cur'] using ae
  have ad:cur.toList.length=cap*i.size:=by simp [gD]
  rw [jR _ _ _ _ (by rw [ad];omega)] at ae;by_cases az:j<cells.length
  ·rw [List.getElem?_append_left az] at hu;rw [if_neg (by omega)] at ae;obtain ⟨a',bm,bt⟩:=jE j u v hu (by simpa using ae);exact ⟨a',bm,bt.mono (Ext.refl J) aA.set⟩
  ·rw [List.getElem?_append_right (by omega)] at hu;have mY:=(List.getElem?_eq_some_iff.1 hu).1;rw [if_pos ⟨by omega,by rw [eE,←cW];omega⟩] at ae;rw [hY] at hu;obtain ⟨a',bm,bt⟩:=hnew.rel _ u v hu ae;exact ⟨a',bm,bt.mono (Ext.refl J) aA.set⟩
theorem AY (ah:aJ B U J S w H) (aw:P.underlying t=some (.slice e)) (hi:P.info? e=some i) (bR:0<i.size) {l:aG} (b9:∀ id,l≠.obj id) (cj:∀ id j,l≠.cell id j)
  {cells:List I} {len b k cap:Nat} {cur:Array Value} {ce:TypeId} {f:Nat→Value} (bC:U b=some l) (ky:cap≤maxLen) (hY:cells.length=len*i.size)
  (g6:w.heap[b]?=some (.cells cur ce (0,0))) (gD:cur.size=k+cap*i.size)
  (h:∀ (j:Nat) (u:I),cells[j]?=some u→S b (k+j)∧w.cell? ⟨b,k+j,none⟩=some (f j)∧u.plain=true∧(f j).oneCell'=true)
  (aj:∀ (j:Nat) (u:I),cells[j]?=some u→Rel J S w u (f j)) (g7:∀ o,k+cells.length≤o→¬ S b o)
  {ao cK m c:Nat} {new:List I} {news:List Value} (hnew:cZ J S w new news) (bw:∀ j x,news[j]?=some x→w.cell? ⟨ao,cK+j,none⟩=some x) (cW:new.length=m*i.size) (dy:len+m≤cap) :
  ∃ x w',(Builtin.append_ #[t,t] ty #[.slice (some ⟨b,k,none⟩) len cap,.slice (some ⟨ao,cK,none⟩) m c]).run P w=.ok x w'∧a0 B U J S w H (.ax (cells++new) (len+m) (.own i.size)) x w':=by
 classical
 have eE:news.length=m*i.size:=hnew.len ▸ cW;have jq:(len+m)*i.size≤cap*i.size:=Nat.mul_le_mul_right _ dy;rw [Nat.add_mul] at jq;have eg:∀ u∈news,u.oneCell'=true:=fun u hu=>by
  obtain ⟨j,az⟩:=List.mem_iff_getElem?.1 hu;have aY:=(List.getElem?_eq_some_iff.1 az).1;exact (hnew.rel j _ u (List.getElem?_eq_getElem (hnew.len ▸ aY)) az).2.1
 have dT:=DZ w t ty e i aw hi b k len cap cur ce g6 ⟨ao,cK,none⟩ m c news eE (fun j x h=>by rw [add_lit];exact bw j x h) eg dy (by rw [gD];omega)
 let cur':Array Value:=(cur.toList.take (k+len*i.size)++news++cur.toList.drop (k+len*i.size+news.length)).toArray
 have oQ:∀ j:Nat,cur'[j]?=if k+len*i.size≤j∧j<k+len*i.size+news.length then news[j-(k+len*i.size)]? else cur[j]?:=fun j=>by
  have ad:cur.toList.length=k+cap*i.size:=by simp [gD]
  have:=jR cur.toList news (k+len*i.size) j (by rw [ad];omega);simpa [cur'] using this
 have kb:∀ j,(w.setRow b cur').cell? ⟨b,j,none⟩=cur'[j]?:=fun j=>cell_of_row _ b j cur' ce (0,0) (setRow_heap w b cur cur' ce (0,0) g6);have fB:∀ j,w.cell? ⟨b,j,none⟩=cur[j]?:=fun j=>cell_of_row _ b j cur ce (0,0) g6;have mR:∀ br o,br≠b→(w.setRow b cur').cell? ⟨br,o,none⟩=w.cell? ⟨br,o,none⟩:=fun br o h=>by
  unfold World.cell?;simp only [setRow_other w b br cur' h]
 let ay:Nat→Option aG:=fun br=>if br=b then some .res else U br
 let S':Nat→Nat→Prop:=fun br o=>S br o∨(br=b∧k+cells.length≤o∧o<k+cells.length+new.length)
 have kk:(w.setRow b cur').heap.size=w.heap.size:=by simp [World.setRow]
 have cg:∀ br o,S br o→(w.setRow b cur').cell? ⟨br,o,none⟩=w.cell? ⟨br,o,none⟩:=fun br o ai=>by
  by_cases ag:br=b
  ·subst ag;have ar:o<k+cells.length:=by
    rcases Nat.lt_or_ge o (k+cells.length) with h | h
    ·exact h
    ·exact absurd ai (g7 o h)
   rw [kb,oQ,if_neg (by omega),fB]
  ·exact mR br o ag
 have aA:bj U S w ay S' (w.setRow b cur'):=by
  refine ⟨rfl,rfl,rfl,by omega,fun br ag aP=>setRow_other w b br cur' (fun e=>by subst e;rw [bC] at aP;cases aP),fun br o ai=>⟨.inl ai,cg br o ai⟩,fun br o ai=>?_,fun br ag=>?_⟩
  ·rcases ai with ai | ⟨rfl,_⟩
   ·exact .inl ai
   ·exact .inr (.inl (by simp [bC]))
  ·by_cases h:br=b
   ·subst h;exact .inl (by simp [bC])
   ·simp only [ay,h,if_false] at ag;exact .inl ag
 have o_:∀ (j:Nat) (u:I),(cells++new)[j]?=some u→S' b (k+j)∧(w.setRow b cur').cell? ⟨b,k+j,none⟩=some (cur'.getD (k+j) undef)∧u.plain=true∧(cur'.getD (k+j) undef).oneCell'=true∧Rel J S' (w.setRow b cur') u (cur'.getD (k+j) undef):=by
  intro j u hu;rw [kb];by_cases az:j<cells.length
  ·rw [List.getElem?_append_left az] at hu;obtain ⟨ad,af,aH,bh⟩:=h j u hu;rw [fB] at af;(have ak:cur'[k+j]?=some (f j):=by rw [oQ,if_neg (by omega),af]);(have aK:cur'.getD (k+j) undef=f j:=by rw [Array.getD_eq_getD_getElem?,ak];rfl);rw [aK];exact ⟨.inl ad,ak,aH,bh,(aj j u hu).mono (Ext.refl J) aA.set⟩
  ·rw [List.getElem?_append_right (by omega)] at hu;have mY:=(List.getElem?_eq_some_iff.1 hu).1;have lz:j-cells.length<news.length:=hnew.len ▸ mY;have ak:cur'[k+j]?=some (news[j-cells.length]):=by
    rw [oQ,if_pos ⟨by omega,by omega⟩,←hY,Nat.add_sub_add_left];exact List.getElem?_eq_getElem lz
   (have aK:cur'.getD (k+j) undef=news[j-cells.length]:=by rw [Array.getD_eq_getD_getElem?,ak];rfl);obtain ⟨a',bm,bt⟩:=hnew.rel _ u _ hu (List.getElem?_eq_getElem lz);rw [aK];exact ⟨.inr ⟨rfl,by omega,by omega⟩,ak,a',bm,bt.mono (Ext.refl J) aA.set⟩
 refine ⟨_,_,dT,ay,J,S',Ext.refl J,aA,ah.frame aA (fun br l' ag aq=>?_) (fun br o ai=>?_) (fun br l' ag=>?_),
  .ax _ _ _ b k cap (fun j=>cur'.getD (k+j) undef) (by simp) dy (by simp) (fun j u hu=>let ⟨aB,aF,aS,bp,_⟩:=o_ j u hu;⟨aB,aF,aS,bp⟩) (fun j u hu=>(o_ j u hu).2.2.2.2),
  .inr ⟨by simp [ay],trivial,rfl,dy,ky,bR,by rw [List.length_append,hY,cW,Nat.add_mul],⟨cur',ce,setRow_heap w b cur cur' ce (0,0) g6,?_⟩,fun o ar ai=>?_⟩⟩
 ·have bY:br≠b:=fun e=>by
   subst e;rw [bC] at ag;cases ag;rcases aq with ⟨id,h⟩ | ⟨id,j,h⟩
   ·exact b9 _ h
   ·exact cj _ _ h
  refine ⟨by simp [ay,bY,ag],setRow_other w b br cur' bY,fun o ai=>?_⟩;rcases ai with ai | ⟨h,_⟩
  ·exact ai
  ·exact absurd h bY
 ·rcases ai with ai | ⟨rfl,ad,af⟩
  ·obtain ⟨v,ae⟩:=ah.b' br o ai;exact ⟨v,(cg br o ai).trans ae⟩
  ·obtain ⟨u,hu⟩:∃ u,(cells++new)[o-k]?=some u:=⟨_,List.getElem?_eq_getElem (by simp;omega)⟩;have:=(o_ (o-k) u hu).2.1;rw [Nat.add_sub_cancel' (by omega)] at this;exact ⟨_,this⟩
 ·rw [kk];by_cases h:br=b
  ·subst h;exact ah.base _ l bC
  ·simp only [ay,h,if_false] at ag;exact ah.base br l' ag
 ·have ad:cur.toList.length=k+cap*i.size:=by simp [gD]
  show (List.toArray _).size=k+cap*i.size;rw [List.size_toArray,List.length_append,List.length_append,List.length_take,List.length_drop,ad,eE,Nat.min_eq_left (by omega)];omega
 ·simp only [List.length_append] at ar;rcases ai with ai | ⟨_,ad,af⟩
  ·exact g7 o (by omega) ai
  ·omega
end grow
theorem xy (ah:aJ B U J S w H) {x:I} {cy:Value} {m:Nat} {new:List I} (h:appended H x=some (m,new)) (aj:Rel J S w x cy) (aP:x.cP=true) :
  (new=[]∧∃ a c,cy=.slice a m c)∨∃ b o c vs,cy=.slice (some ⟨b,o,none⟩) m c∧cZ J S w new vs∧(∀ j y,vs[j]?=some y→w.cell? ⟨b,o+j,none⟩=some y):=by
 unfold appended at h;split at h
 ·rename_i g3 row hm cO;simp only [Option.some.injEq,Prod.mk.injEq] at h;obtain ⟨rfl,rfl⟩:=h;obtain ⟨a,c,ae⟩:=l0 hm aj;rcases p2 ah cO aj aP with ⟨ad,n,dP,af⟩ | ⟨b,o,n,dP,vs,af,aH,bh⟩
  ·rw [af] at ae;cases ae;exact .inl ⟨ad,_,_,af⟩
  ·rw [af] at ae;cases ae;exact .inr ⟨b,o,_,vs,af,aH,bh⟩
 ·simp at h
end
end Go.Proofs.YtfakoboiahbhaaaGreat.Ab


namespace Go.Proofs.YtfakoboiahbhaaaGreat.Ab
open Go
section
variable {P:Program} {B:Nat} {J:List Nat} {w:World} {H:List au} {U:Nat→Option aG} {S:Nat→Nat→Prop}
theorem l1 (ah:aJ B U J S w H) {l:aG} (b9:∀ id,l≠.obj id) (cj:∀ id j,l≠.cell id j) {u:I} {v:Value} (aj:Rel J S w u v) (ar:aV U J S w l u v) :
  ∃ S':Nat→Nat→Prop,(∀ b o,S b o→S' b o)∧(∀ b o,S' b o→S b o∨U b=some l)∧aJ B U J S' w H∧Rel J S' w u.view v:=by
 by_cases hu:u.cP=true
 ·exact ⟨S,fun _ _ h=>h,fun _ _ h=>.inl h,ah,aj.view hu⟩
 ·obtain ⟨cells,len,z,rfl⟩:∃ cells len z,u=.ax cells len (.uniq z):=by
   unfold I.cP at hu;split at hu
   ·exact ⟨_,_,_,rfl⟩
   ·simp at hu
  obtain ⟨a5,aL,aQ,ch,aR,_,_⟩:=jT ah aj ar;exact ⟨a5,aL,aQ,ah.settle aL (fun b o h=>(aQ b o h).imp (fun h=>h) fun h=>⟨_,h,b9,cj⟩) ch,aR⟩
theorem xA {u:I} {r:Nat×List I} (h:appended H u=some r):appended H u.view=some r:=by
 cases u <;> try exact h
 ·rename_i cells len c;cases c <;> exact h
 ·simp [appended,lenOf] at h
theorem D1 (t de ty e:TypeId) (i:TypeInfo) (z:Value) (c7:IntKind) (aw:P.underlying t=some (.slice e)) (pk:P.underlying de=some (.int c7)) (hi:P.info? e=some i) (bn:i.zero=some z)
  (base:Option Addr) (n:Int) (aT:0<n) (ag:n.toNat*i.bytes≤140737488355328) (eQ:1≤i.bytes) (bR:0<i.size) :
  (Builtin.append_ #[t,de] ty #[.slice base 0 0,.int .i64 n]).run P w =
   .ok (.slice (some ⟨w.heap.size,0,none⟩) n.toNat (grownCap w n.toNat 0 e)) (w.drew.alloc (.cells (Builtin.zeroCells z.cells n.toNat++Builtin.zeroCells z.cells (grownCap w n.toNat 0 e-n.toNat)) e)):=by
 have aP:n.toNat≤140737488355328:=Nat.le_trans (Nat.le_mul_of_pos_right _ eQ) ag;have bE:IntKind.i64.wrap n=n:=IntWalk.i64_in _ (by omega);have kg:n*(i.bytes:Int)=((n.toNat*i.bytes:Nat):Int):=by rw [Int.natCast_mul,Int.toNat_of_nonneg (by omega)]
 have oN:Builtin.nextslicecap n.toNat 0=n.toNat:=by unfold Builtin.nextslicecap;rw [if_pos (by omega)]
 have ad:¬ n<0:=by omega
 have af:¬ ((281474976710656:Int)<n*i.bytes):=by rw [kg];omega
 have bh:¬ (281474976710656<n.toNat*i.bytes):=by omega
 have bM:¬ (9223372036854775807<max n 0):=by omega
 have bU:n.toNat*i.size≠0:=by have:0<n.toNat:=by omega
                              have:=Nat.mul_pos this bR;omega
 have cM:¬ n≤0:=by omega
 cases base <;> simp [Builtin.append_,run_underlying aw,run_underlying pk,sizeOf,typeInfo,hi,asInt,asIntOf,bE,ad,af,cM,bM,bh,bU,Builtin.lenOf,Builtin.firstCells,loadCells,loadCellsFrom,oN,zeroValue,bn,grownCap,Question.forced,newRow]
theorem Aj (ah:aJ B U J S w H) {t de:TypeId} (ty:TypeId) {u x r:I} {v cy:Value} {ct dA:aG} (b9:∀ id,ct≠.obj id) (cj:∀ id j,ct≠.cell id j) (c8:∀ id,dA≠.obj id) (c9:∀ id j,dA≠.cell id j) (bY:ct≠dA)
  (h:e0 P H t de u x=some r) (aj:Rel J S w u v) (ar:aV U J S w ct u v) (ea:Rel J S w x cy) (hS:aV U J S w dA x cy) :
  ∃ y w',(Builtin.append_ #[t,de] ty #[v,cy]).run P w=.ok y w'∧a0 B U J S w H r y w':=by
 obtain ⟨a5,aL,aQ,bV,jz⟩:=l1 ah c8 c9 ea hS;have c5:bj U S w U a5 w:=bj.settle aL fun b o h=>(aQ b o h).imp (fun h=>h) fun h=>⟨_,h⟩;have di:Rel J a5 w u v:=aj.mono (Ext.refl J) c5.set
 have jv:aV U J a5 w ct u v:=ar.mono (Ext.refl J) c5.set fun b ag=>⟨ag,rfl,fun o ai=>by
  rcases aQ b o ai with h | h
  ·exact h
  ·rw [ag] at h;cases h;exact absurd rfl bY⟩
 suffices ai:∃ y w',(Builtin.append_ #[t,de] ty #[v,cy]).run P w=.ok y w'∧a0 B U J a5 w H r y w' by
  obtain ⟨y,w',a,b⟩:=ai;exact ⟨y,w',a,a0.after (Ext.refl J) c5 b⟩
 clear aj ar ea hS c5 aL aQ ah;unfold e0 at h;split at h
 ·rename_i e aw;split at h
  ·rename_i sz bytes z ai ag bn;obtain ⟨i,hi,rfl⟩:=mn ai;simp only [hi,Option.map_some,Option.some.injEq] at ag;subst ag;obtain ⟨nc,dm,hi',ej,fC⟩:=hE (J:=J) (S:=a5) (w:=w) bn;rw [hi] at hi';cases hi';(have km:z.length=dm.cells.size:=by simpa using fC.len);split at h
   ·rename_i mQ;obtain rfl:t=de:=Nat.eq_of_beq_eq_true mQ;split at h
    ·rename_i m new eD;replace eD:=xA eD;split at h
     ·rename_i ak;obtain ⟨cW,bR,ei,yv⟩:=ak;(have gA:dm.cells.size=i.size:=by omega);obtain ⟨FF,FG⟩:=h4 yv;have al:=xy bV eD jz (I.fX (I.c_ x));have zero:m=0→∀ base len cap,v=.slice base len cap→len≤cap→(Builtin.append_ #[t,t] ty #[v,cy]).run P w=.ok v w:=by
       rintro rfl base len cap rfl hle;rcases al with ⟨_,jd,c,rfl⟩ | ⟨b,o,c,vs,rfl,_,_⟩
       ·exact z1 (P:=P) (w:=w) t ty e i aw hi base len cap hle jd c
       ·exact z1 (P:=P) (w:=w) t ty e i aw hi base len cap hle _ c
      have nQ:0<m→∃ b o c vs,cy=.slice (some ⟨b,o,none⟩) m c∧cZ J a5 w new vs∧(∀ j y,vs[j]?=some y→w.cell? ⟨b,o+j,none⟩=some y):=by
       intro hm;rcases al with ⟨aT,_,c,rfl⟩ | h
       ·rw [aT] at cW;simp at cW;have:=Nat.mul_pos hm bR;omega
       ·exact h
      split at h
      ·rename_i cells len c;split at h
       ·
        split at h
        ·rename_i hm;cases h;have ae:∃ base cap,v=.slice base len cap∧len≤cap:=by
          cases di with
          | b2=>exact ⟨_,_,rfl,Nat.le_refl _⟩
          | ax _ _ _ b o cap f _ hle=>exact ⟨_,_,rfl,hle⟩
         obtain ⟨base,cap,ae,hle⟩:=ae;exact ⟨v,w,zero hm base len cap ae hle,a0.same bV di rfl⟩
        ·simp at h
       ·
        have ae:((∃ a,v=.slice a 0 0)∧len=0∧cells=[])∨∃ b o,∃ f:Nat→Value,v=.slice (some ⟨b,o,none⟩) len len ∧
          (∀ (j:Nat) (u:I),cells[j]?=some u→a5 b (o+j)∧w.cell? ⟨b,o+j,none⟩=some (f j)∧u.plain=true∧(f j).oneCell'=true)∧(∀ (j:Nat) (u:I),cells[j]?=some u→Rel J a5 w u (f j)):=by
         cases di with
         | b2 _ a=>exact .inl ⟨⟨a,rfl⟩,rfl,rfl⟩
         | ax _ _ _ b o cap f ak hle hu bw b7=>exact .inr ⟨b,o,f,by rw [ak rfl],bw,b7⟩
        split at h
        ·rename_i hm;split at h
         ·rename_i aT;cases h;subst aT;rcases ae with ⟨⟨a,ae⟩,_,_⟩ | ⟨b,o,f,ae,_,_⟩
          ·exact ⟨v,w,zero hm _ _ _ ae (Nat.le_refl _),U,J,a5,Ext.refl J,bj.refl _ _ _,bV,ae ▸ .b2 _ _,by rw [ae];cases a <;> first | trivial | exact .inl ⟨rfl,rfl,rfl⟩⟩
          ·exact ⟨v,w,zero hm _ _ _ ae (Nat.le_refl _),U,J,a5,Ext.refl J,bj.refl _ _ _,bV,ae ▸ .cH _ _ _ _ _ _,by rw [ae];exact .inl ⟨rfl,rfl,rfl⟩⟩
         ·cases h;rcases ae with ⟨⟨a,ae⟩,rfl,_⟩ | ⟨b,o,f,ae,_,_⟩
          ·exact ⟨v,w,zero hm _ _ _ ae (Nat.le_refl _),a0.same bV di rfl⟩
          ·exact ⟨v,w,zero hm _ _ _ ae (Nat.le_refl _),a0.same bV di rfl⟩
        ·rename_i hm;split at h
         ·rename_i gW;obtain ⟨eh,dh⟩:=gW;cases h;obtain ⟨aW,aX⟩:=h4 eh;obtain ⟨ao,cK,dP,vs,rfl,hnew,bw⟩:=nQ (by omega);rcases ae with ⟨ae,rfl,rfl⟩ | ⟨b,o,f,ae,fB,lI⟩
          ·exact hL bV aw hi ej gA bR v 0 0 [] (.inl ⟨ae,rfl,rfl,rfl⟩) ⟨rfl,by simp⟩ (by simp) hnew bw cW (by omega) (by omega) aW aX
          ·refine hL bV aw hi ej gA bR v len len ((List.range cells.length).map f) (.inr ⟨b,o,ae,fun j y aZ=>?_⟩) ⟨by simp,fun j bH bu b8 bc=>?_⟩ dh hnew bw cW (by omega) (by omega) aW aX
           ·simp only [List.getElem?_map,Option.map_eq_some_iff] at aZ;obtain ⟨k,av,rfl⟩:=aZ;(have az:j<cells.length:=by have:=(List.getElem?_eq_some_iff.1 av).1;simpa using this);simp [az] at av;subst av;exact (fB j _ (List.getElem?_eq_getElem az)).2.1
           ·have az:=(List.getElem?_eq_some_iff.1 b8).1;simp [az] at bc;subst bc;exact ⟨(fB j bH b8).2.2.1,(fB j bH b8).2.2.2,lI j bH b8⟩
         ·simp at h
       ·
        rename_i cQ;split at h
        ·rename_i gW;obtain ⟨rfl,eh⟩:=gW;cases h;obtain ⟨aW,aX⟩:=h4 eh;by_cases hm:m=0
         ·have o9:new=[]:=List.eq_nil_of_length_eq_zero (by rw [cW,hm];simp);have ae:∃ base cap,v=.slice base len cap∧len≤cap:=by
           cases di with
           | b2=>exact ⟨_,_,rfl,Nat.le_refl _⟩
           | ax _ _ _ b o cap f _ hle=>exact ⟨_,_,rfl,hle⟩
          obtain ⟨base,cap,ae,hle⟩:=ae;refine ⟨v,w,zero hm base len cap ae hle,?_⟩;rw [o9,hm,List.append_nil,Nat.add_zero];exact h2 bV b9 cj di jv
         ·have hm:0<m:=Nat.pos_of_ne_zero hm;obtain ⟨ao,cK,dP,vs,rfl,hnew,bw⟩:=nQ hm;cases di with
          | b2 _ a =>
            obtain ⟨y,w',aB,aF⟩:=hL (ty:=ty) bV aw hi ej gA bR (.slice a 0 0) 0 0 [] (.inl ⟨⟨a,rfl⟩,rfl,rfl,rfl⟩) (cs:=[]) ⟨rfl,by simp⟩ (by simp) hnew bw cW hm (by omega) aW aX;exact ⟨y,w',aB,aF.settle⟩
          | ax _ _ _ b o cap f ak hle hu fB lI =>
            have gx:cZ J a5 w cells ((List.range cells.length).map f):=⟨by simp,fun j bH bu b8 bc=>by
             have az:=(List.getElem?_eq_some_iff.1 b8).1;simp [az] at bc;subst bc
             exact ⟨(fB j bH b8).2.2.1,(fB j bH b8).2.2.2,lI j bH b8⟩⟩
            have dh:∀ j y,((List.range cells.length).map f)[j]?=some y→w.cell? ⟨b,o+j,none⟩=some y:=fun j y aZ=>by
             simp only [List.getElem?_map,Option.map_eq_some_iff] at aZ;obtain ⟨k,av,rfl⟩:=aZ;(have az:j<cells.length:=by have:=(List.getElem?_eq_some_iff.1 av).1;simpa using this);simp [az] at av;subst av;exact (fB j _ (List.getElem?_eq_getElem az)).2.1
            have yi:cells.length=len*i.size→cap<len+m→_:=fun aq aK =>
             hL (ty:=ty) (c:=dP) bV aw hi ej gA bR (.slice (some ⟨b,o,none⟩) len cap) len cap _ (.inr ⟨b,o,rfl,dh⟩) gx aq hnew bw cW hm aK aW aX
            rcases jv with ⟨aT,ad,af⟩ | ⟨bP,b4,_,ev,fI,_,kH,⟨cur,ce,kI,l_⟩,ma⟩
            ·obtain ⟨y,w',aB,aF⟩:=yi (by rw [af,aT];simp) (by omega);exact ⟨y,w',aB,aF.settle⟩
            ·simp only at bP kI l_ ma;by_cases dy:len+m≤cap
             ·exact AY bV aw hi bR b9 cj bP fI kH kI l_ fB lI ma hnew bw cW dy
             ·obtain ⟨y,w',aB,aF⟩:=yi kH (by omega);exact ⟨y,w',aB,aF.settle⟩
        ·simp at h
       ·
        rename_i cQ;split at h
        ·rename_i gW;obtain ⟨rfl,eh⟩:=gW;cases h;obtain ⟨aW,aX⟩:=h4 eh;by_cases hm:m=0
         ·have o9:new=[]:=List.eq_nil_of_length_eq_zero (by rw [cW,hm];simp);have ae:∃ base cap,v=.slice base len cap∧len≤cap:=by
           cases di with
           | b2=>exact ⟨_,_,rfl,Nat.le_refl _⟩
           | ax _ _ _ b o cap f _ hle=>exact ⟨_,_,rfl,hle⟩
           | cH _ _ _ b o cap =>
             refine ⟨_,_,rfl,?_⟩;rcases jv with ⟨aT,ad,af⟩ | ⟨_,_,h,_⟩
             ·omega
             ·exact h
          obtain ⟨base,cap,ae,hle⟩:=ae;refine ⟨v,w,zero hm base len cap ae hle,?_⟩;rw [o9,hm,List.append_nil,Nat.add_zero];exact h2 bV b9 cj di jv
         ·have hm:0<m:=Nat.pos_of_ne_zero hm;obtain ⟨ao,cK,dP,vs,rfl,hnew,bw⟩:=nQ hm;cases di with
          | b2 _ a =>
            exact hL (ty:=ty) bV aw hi ej gA bR (.slice a 0 0) 0 0 [] (.inl ⟨⟨a,rfl⟩,rfl,rfl,rfl⟩) (cs:=[]) ⟨rfl,by simp⟩ (by simp) hnew bw cW hm (by omega) aW aX
          | ax _ _ _ b o cap f ak hle hu fB lI=>exact absurd rfl (hu _)
          | cH _ _ _ b o cap =>
            rcases jv with ⟨aT,ad,af⟩ | ⟨bP,b4,ev,fI,_,kH,⟨cur,ce,kI,l_,ze⟩,ma⟩
            ·refine hL (ty:=ty) bV aw hi ej gA bR (.slice (some ⟨b,o,none⟩) len cap) len cap [] (.inr ⟨b,o,rfl,by simp⟩) ?_ (by rw [af,aT];simp) hnew bw cW hm (by omega) aW aX;rw [af];exact ⟨rfl,by simp⟩
            ·simp only at bP b4 kI ma;subst b4;(have jq:cells.length≤cur.size:=by rw [l_,kH];exact Nat.mul_le_mul_right _ ev);by_cases dy:len+m≤cap
             ·exact AZ bV aw hi bR b9 cj bP fI kH kI l_ ze ma hnew bw cW dy
             ·refine hL (ty:=ty) bV aw hi ej gA bR (.slice (some ⟨b,0,none⟩) len cap) len cap (cur.toList.take cells.length) (.inr ⟨b,0,rfl,fun j y aZ=>?_⟩) ⟨by simp;omega,fun j bH bu b8 bc=>?_⟩ kH hnew bw cW hm (by omega) aW aX
              ·rw [List.getElem?_take] at aZ;split at aZ
               ·rw [Nat.zero_add,cell_of_row w b _ cur ce (0,0) kI];simpa using aZ
               ·simp at aZ
              ·rw [List.getElem?_take] at bc;split at bc
               ·exact ze j bH bu b8 (by simpa using bc)
               ·simp at bc
        ·simp at h
      ·
       rename_i id off len cap nR;split at h
       ·rename_i gW;obtain ⟨rfl,rfl,hm⟩:=gW;simp only [Option.bind_eq_some_iff] at h;obtain ⟨fH,hold,h⟩:=h;split at h
        ·rename_i eh;cases h;obtain ⟨aW,aX⟩:=h4 eh;obtain ⟨ao,cK,dP,vs,rfl,hnew,bw⟩:=nQ hm;have fD:fH.length=cap*i.size:=by
          simp only [rowOf] at hold;split at hold
          ·split at hold
           ·simp at hold;rw [←hold];simp;omega
           ·simp at hold
          ·simp at hold
         have fE:∃ b o,v=.slice (some ⟨b,o,none⟩) cap cap:=by
          cases di with
          | ref _ _ _ _ _ b cap' _ ak _=>exact ⟨b,off,by rw [ak cap rfl]⟩
         obtain ⟨dp,FP,fT⟩:=fE;rcases p2 bV hold di rfl with ⟨Cr,n,c,ae⟩ | ⟨b,o,n,c,dk,ae,gx,fB⟩
         ·rw [ae] at fT;cases fT;subst Cr;exact hL bV aw hi ej gA bR v _ _ [] (.inl ⟨⟨_,ae⟩,rfl,rfl,rfl⟩) ⟨rfl,by simp⟩ fD hnew bw cW hm (by omega) aW aX
         ·rw [ae] at fT;simp only [Value.slice.injEq,Option.some.injEq,Addr.mk.injEq] at fT;obtain ⟨⟨rfl,rfl,_⟩,rfl,rfl⟩:=fT;exact hL bV aw hi ej gA bR v _ _ dk (.inr ⟨b,o,ae,fB⟩) gx fD hnew bw cW hm (by omega) aW aX
        ·simp at h
       ·simp at h
      ·simp at h
     ·simp at h
    ·simp at h
   ·
    split at h
    ·rename_i c7 n pk;split at h
     ·rename_i ak;obtain ⟨aT,eh,bR,ei⟩:=ak;cases h;obtain ⟨aW,aX⟩:=h4 eh;have fU:cy=.int .i64 n:=Rel.c6 jz;have ae:∃ base,v=.slice base 0 0:=by
       cases di with
       | b2=>exact ⟨_,rfl⟩
       | ax _ _ _ b o cap f ak _=>exact ⟨_,by rw [ak rfl]⟩
      obtain ⟨base,rfl⟩:=ae;subst fU;have aj:=D1 (P:=P) (w:=w) t de ty e i dm c7 aw pk hi ej base n aT aW aX bR;have e5:=grownCap_ge w n.toNat 0 e;have aP:n.toNat≤140737488355328:=Nat.le_trans (Nat.le_mul_of_pos_right _ aX) aW;have hle:=grownCap_le_maxLen w n.toNat 0 e (by simp only [maxLen];omega);generalize grownCap w n.toNat 0 e=e3 at e5 hle aj;have aA:=k_ U a5 w;have fF:=(mr fC (by omega) n.toNat).mono (Ext.refl J) aA.set
      have iB:=ns (m9 bV) fF (Builtin.zeroCells dm.cells (e3-n.toNat)).toList e n.toNat e3 i.size bR (by rw [h3,ei]) e5 hle (by
       rw [←fF.len,h3,ei,Array.length_toList,size_zeroCells,←km,ei,←Nat.add_mul];congr 1;omega)
      refine ⟨_,_,aj,a0.after (Ext.refl J) aA ?_⟩;have he:(((Array.range (n.toNat*z.length)).map (fun i=>dm.cells[i % dm.cells.size]!)).toList++(Builtin.zeroCells dm.cells (e3-n.toNat)).toList).toArray =
        Builtin.zeroCells dm.cells n.toNat++Builtin.zeroCells dm.cells (e3-n.toNat):=by
       apply Array.ext';simp [Builtin.zeroCells,km]
      rw [he] at iB;exact iB
     ·simp at h
    ·simp at h
  ·simp at h
 ·simp at h
theorem zj (ah:aJ B U J S w H) {id:Nat} {l:List I} {b z:Nat} {cur:Array Value} (aE:id<H.length) (aF:U b=some (.obj id)) (bf:∀ o,¬ S b o)
  (bg:∀ (j:Nat) (u:I) (v:Value),l[j]?=some u→cur[j]?=some v→u.cP=true∧v.oneCell'=true∧Rel J S w u v∧aV U J S w (.cell id j) u v)
  {bE:World} {nb cap1 py:Nat} {ji:Array Value} {e1:TypeId} (ar:bE.os=w.os) (aw:bE.tape=w.tape) (Cg:bE.output=w.output) (kk:w.heap.size≤bE.heap.size)
  (hold:∀ ao,ao<w.heap.size→ao≠b→bE.heap[ao]?=w.heap[ao]?) (kg:nb=b∨nb=w.heap.size) (Ca:nb<bE.heap.size) (jo:bE.heap[nb]?=some (.cells ji e1 (0,0)))
  (gy:ji.size=cap1*z) (hm:cap1≤maxLen) (bn:0<z) {new:List I} {news:List Value} (hnew:cZ J S w new news) (dy:l.length+new.length≤ji.size)
  (BT:∀ j,j<l.length→ji[j]?=cur[j]?) (BU:∀ (j:Nat) (v:Value),news[j]?=some v→ji[l.length+j]?=some v) (hlen:py≤cap1) :
  a0 B U J S w (H.set id .dead++[.grow (l++new) (H.length+1) z,.dead]) (.cf H.length (H.length+1) py z) (.slice (some ⟨nb,0,none⟩) py cap1) bE:=by
 classical
 let ay:Nat→Option aG:=fun ao=>if ao=nb then some (.obj H.length) else if ao=b then none else match U ao with
  | some (.cell i j)=>if i=id then some (.cell H.length j) else some (.cell i j)
  | o=>o
 have aY:∀ ao l',U ao=some l'→ao<w.heap.size:=fun ao l' h=>(ah.base ao l' h).2;have yj:∀ ao l',U ao=some l'→ao≠b→ao≠nb:=fun ao l' h ag e=>by
  subst e;rcases kg with e | e
  ·exact ag e
  ·have:=aY _ _ h;omega
 have hj:∀ ao o,S ao o→ao≠b:=fun ao o ai e=>bf o (e ▸ ai);have bw:∀ ao o,S ao o→bE.cell? ⟨ao,o,none⟩=w.cell? ⟨ao,o,none⟩:=fun ao o ai=>by
  obtain ⟨v,ae⟩:=ah.b' ao o ai;unfold World.cell?;simp only [hold ao (l2 ae) (hj ao o ai)]
 have m4:∀ ao,ay ao≠none→U ao≠none∨w.heap.size≤ao:=fun ao ag=>by
  by_cases ad:ao=nb
  ·rcases kg with e | e
   ·exact .inl (by rw [ad,e,aF];simp)
   ·exact .inr (by omega)
  ·refine .inl fun aT=>ag ?_;by_cases af:ao=b
   ·simp only [ay,ad,af,if_false,if_true];rw [if_neg (by rw [←af];exact ad)]
   ·simp only [ay,ad,af,if_false,aT]
 have aA:bj U S w ay S bE:=⟨ar,aw,Cg,kk,fun ao ag aP=>hold ao ag (fun e=>by subst e;rw [aF] at aP;cases aP),fun ao o ai=>⟨ai,bw ao o ai⟩,fun _ _ h=>.inl h,m4⟩;have lA:(J++[nb,cap1])[H.length]?=some nb:=by rw [←ah.cA];simp
 have lB:(J++[nb,cap1])[H.length+1]?=some cap1:=by rw [←ah.cA];simp
 refine ⟨ay,J++[nb,cap1],S,Ext.append J _,aA,⟨by simp [ah.cA],fun bA o h=>?_,fun ao o ai=>?_,fun ao l' ag=>?_,Nat.le_trans ah.cV kk⟩,.cf _ _ _ _ nb cap1 lA lB hlen,trivial⟩
 ·rcases Nat.lt_trichotomy bA H.length with aq | rfl | aq
  ·rw [List.getElem?_append_left (by simpa using aq)] at h;by_cases cr:bA=id
   ·subst cr;rw [List.getElem?_set_self aq] at h;cases h;trivial
   ·rw [List.getElem?_set_ne (Ne.symm cr)] at h;refine (ah.obj bA o h).frame (Ext.append J _) aA.set fun ao l' ag dr=>?_;have bY:ao≠b:=fun e=>by
     subst e;rw [aF] at ag;cases ag;rcases dr with h | ⟨j,h⟩
     ·cases h;exact cr rfl
     ·cases h
    refine ⟨?_,hold ao (aY _ _ ag) bY,fun _ h=>h⟩;simp only [ay,yj ao l' ag bY,bY,if_false,ag];rcases dr with rfl | ⟨j,rfl⟩
    ·rfl
    ·simp [cr]
  ·rw [List.getElem?_append_right (by simp)] at h;simp only [List.length_set,Nat.sub_self,List.getElem?_cons_zero,Option.some.injEq] at h;subst h;refine ⟨nb,ji,e1,lA,by simp [ay],jo,by rw [List.length_append];exact dy,?_,fun j u v hu ae=>?_,cap1,lB,hm,bn,gy⟩
   ·rcases kg with rfl | rfl
    ·exact bf
    ·exact l4 ah
   ·by_cases az:j<l.length
    ·rw [List.getElem?_append_left az] at hu;rw [BT j az] at ae;obtain ⟨a',bm,bt,b6⟩:=bg j u v hu ae;refine ⟨a',bm,bt.mono (Ext.append J _) aA.set,b6.mono (Ext.append J _) aA.set fun ao ag=>?_⟩;(have bY:ao≠b:=fun e=>by subst e;rw [aF] at ag;cases ag);refine ⟨?_,hold ao (aY _ _ ag) bY,fun _ h=>h⟩;simp only [ay,yj ao _ ag bY,bY,if_false,ag,if_true]
    ·rw [List.getElem?_append_right (by omega)] at hu;have mY:=(List.getElem?_eq_some_iff.1 hu).1;have lz:j-l.length<news.length:=hnew.len ▸ mY;have bc:=BU (j-l.length) _ (List.getElem?_eq_getElem lz);rw [show l.length+(j-l.length)=j by omega,ae] at bc;obtain ⟨a',bm,bt⟩:=hnew.rel _ u v hu (by rw [List.getElem?_eq_getElem lz,bc]);exact ⟨I.fX a',bm,bt.mono (Ext.append J _) aA.set,aV.b3 a'⟩
  ·rw [List.getElem?_append_right (by simp;omega)] at h;rw [List.length_set] at h;obtain ⟨k,av⟩:∃ k,bA-H.length=k+1:=⟨bA-H.length-1,by omega⟩;rw [av] at h;cases k with
   | zero=>simp at h;subst h;trivial
   | succ k=>simp at h
 ·obtain ⟨v,ae⟩:=ah.b' ao o ai;exact ⟨v,(bw ao o ai).trans ae⟩
 ·by_cases ad:ao=nb
  ·rw [ad];refine ⟨?_,Ca⟩;rcases kg with e | e
   ·rw [e];exact (ah.base b _ aF).1
   ·rw [e];exact ah.cV
  ·have:∃ ct,U ao=some ct:=by
    rcases m4 ao (by rw [ag];simp) with h | h
    ·cases aT:U ao with
     | none=>exact absurd aT h
     | some ct=>exact ⟨ct,rfl⟩
    ·exfalso;by_cases af:ao=b
     ·have:=aY b _ aF;omega
     ·have aT:U ao=none:=by
       cases aT:U ao with
       | none=>rfl
       | some ct=>have:=aY ao _ aT;omega
      simp [ay,ad,af,aT] at ag
   obtain ⟨ct,aT⟩:=this;have:=ah.base ao ct aT;exact ⟨this.1,by omega⟩
theorem Dx (ah:aJ B U J S w H) {l:aG} (b9:∀ id,l≠.obj id) (cj:∀ id j,l≠.cell id j) {cells:List I} {len z:Nat} (aT:len≠0) {v:Value}
  (aj:Rel J S w (.ax cells len (.uniq z)) v) (ar:aV U J S w l (.ax cells len (.uniq z)) v) :
  a0 B U J S w (H++[.grow cells (H.length+1) z,.dead]) (.cf H.length (H.length+1) len z) v w:=by
 classical
 cases aj with
 | b2 c a=>exact absurd rfl aT
 | ax cells len c b o cap f ak hle hu h fk=>exact absurd rfl (hu z)
 | cH cells len z b o cap =>
   rcases ar with ⟨rfl,_,_⟩ | ⟨ad,ar,af,aH,bh,bM,⟨cur,e,bU,cM,cN⟩,cR⟩
   ·exact absurd rfl aT
   ·simp only at ad bU cR ar;subst ar
    let ay:Nat→Option aG:=fun ao=>if ao=b then some (.obj H.length) else U ao
    have aA:bj U S w ay S w:=⟨rfl,rfl,rfl,Nat.le_refl _,fun _ _ _=>rfl,fun _ _ h=>⟨h,rfl⟩,fun _ _ h=>.inl h,fun ao ag=>by
     by_cases dx:ao=b
     ·subst dx;exact .inl (by simp [ad])
     ·simp only [ay,dx,if_false] at ag;exact .inl ag⟩
    have bV:aJ B ay J S w H:=by
     refine ah.frame aA (fun ao l' ag aq=>?_) ah.b' (fun ao l' ag=>?_)
     ·have bY:ao≠b:=fun e=>by
       subst e;rw [ad] at ag;cases ag;rcases aq with ⟨id,h⟩ | ⟨id,j,h⟩
       ·exact b9 _ h
       ·exact cj _ _ h
      exact ⟨by simp [ay,bY,ag],rfl,fun _ h=>h⟩
     ·by_cases dx:ao=b
      ·subst dx;exact ah.base _ l ad
      ·simp only [ay,dx,if_false] at ag;exact ah.base ao l' ag
    have ck:=(bV.push cap (o:=.dead) trivial);(have lA:(J++[b,cap])[H.length]?=some b:=by rw [←ah.cA];simp);(have lB:(J++[b,cap])[H.length+1]?=some cap:=by rw [←ah.cA];simp);refine ⟨ay,J++[b,cap],S,Ext.append J _,aA,⟨by simp [ah.cA],fun bA o bJ=>?_,ah.b',bV.base,ah.cV⟩,.cf _ _ _ _ b cap lA lB af,trivial⟩;rcases Nat.lt_trichotomy bA H.length with aq | rfl | aq
    ·rw [List.getElem?_append_left aq] at bJ;exact (bV.obj bA o bJ).frame (Ext.append J _) (fun b o ai=>⟨ai,rfl⟩) fun b l ag _=>⟨ag,rfl,fun o ai=>ai⟩
    ·rw [List.getElem?_append_right (Nat.le_refl _)] at bJ;simp only [Nat.sub_self,List.getElem?_cons_zero,Option.some.injEq] at bJ;subst bJ;refine ⟨b,cur,e,lA,by simp [ay],bU,by rw [cM,bM];exact Nat.mul_le_mul_right _ af,cR,fun j u v hu ae=>?_,cap,lB,aH,bh,cM⟩;obtain ⟨a',bm,bt⟩:=cN j u v hu ae;exact ⟨I.fX a',bm,bt.mono (Ext.append J _) aA.set,aV.b3 a'⟩
    ·rw [List.getElem?_append_right (by omega)] at bJ;obtain ⟨k,av⟩:∃ k,bA-H.length=k+1:=⟨bA-H.length-1,by omega⟩;rw [av] at bJ;cases k with
     | zero=>simp at bJ;subst bJ;trivial
     | succ k=>simp at bJ
theorem Es (ah:aJ B U J S w H) {lo:Nat} {ts:Array TypeId} (ty:TypeId) {u x r:I} {v cy:Value} {ct dA:aG} (b9:∀ id,ct≠.obj id) (cj:∀ id j,ct≠.cell id j) (c8:∀ id,dA≠.obj id) (c9:∀ id j,dA≠.cell id j) (bY:ct≠dA)
  {H':List au} (h:hZ P lo ts H [u,x]=some (r,H')) (aj:Rel J S w u v) (ar:aV U J S w ct u v) (ea:Rel J S w x cy) (hS:aV U J S w dA x cy) :
  ∃ y w',(Builtin.append_ ts ty #[v,cy]).run P w=.ok y w'∧a0 B U J S w H' r y w':=by
 unfold hZ at h;simp only at h;split at h
 ·rename_i t de g0;obtain rfl:ts=#[t,de]:=by rw [←Array.toArray_toList (xs:=ts),g0]
  split at h
  ·
   rename_i s c n gu;split at h
   ·rename_i cells iJ z eD;split at h
    ·simp at h
    ·rename_i aP;simp only [Option.some.injEq,Prod.mk.injEq] at h;obtain ⟨rfl,rfl⟩:=h;obtain ⟨y,w',aW,bo,ca,bI,bP,b4,ev,fI,l9⟩:=Aj ah ty b9 cj c8 c9 bY eD aj ar ea hS;have q:=Dx ev (l:=.res) (by simp) (by simp) aP fI l9;exact ⟨y,w',aW,a0.after bP b4 q⟩
   ·simp at h
  ·
   rename_i s id gid len z;split at h
   ·split at h
    ·rename_i e l g cQ aw aE;split at h
     ·rename_i sz bytes gd m new bR ag bn eD;split at h
      ·rename_i ak;obtain ⟨rfl,rfl,rfl,rfl,aq,cW,aT,hm,ei,yv,eh⟩:=ak;simp only [Option.some.injEq,Prod.mk.injEq] at h;obtain ⟨rfl,rfl⟩:=h;obtain ⟨i,hi,rfl⟩:=mn bR;simp only [hi,Option.map_some,Option.some.injEq] at ag;subst ag;obtain ⟨a5,aL,aQ,bV,jz⟩:=l1 ah c8 c9 ea hS;have c5:bj U S w U a5 w:=bj.settle aL fun b o h=>(aQ b o h).imp (fun h=>h) fun h=>⟨_,h⟩;obtain ⟨nc,dm,hi',ej,fC⟩:=hE (J:=J) (S:=a5) (w:=w) bn;rw [hi] at hi';cases hi';(have km:gd.length=dm.cells.size:=by simpa using fC.len);(have gA:dm.cells.size=i.size:=by omega);obtain ⟨aW,aX⟩:=h4 eh;replace eD:=xA eD;have aY:=(List.getElem?_eq_some_iff.1 aE).1;obtain ⟨ao,cK,dP,vs,rfl,hnew,bw⟩:∃ b o c vs,cy=.slice (some ⟨b,o,none⟩) m c∧cZ J a5 w new vs∧(∀ j y,vs[j]?=some y→w.cell? ⟨b,o+j,none⟩=some y):=by
        rcases xy bV eD jz (I.fX (I.c_ x)) with ⟨ad,_,c,rfl⟩ | h
        ·rw [ad] at cW;simp at cW;have:=Nat.mul_pos hm aT;omega
        ·exact h
       have eE:vs.length=m*i.size:=hnew.len ▸ cW;obtain ⟨b,cur,ce,aB,aF,aS,bp,bf,bg,cap,cY,c4,dv,fu⟩:=bV.obj id _ aE;cases aj with
       | cf _ _ _ _ dp Fs iu ya hle =>
         rw [aB] at iu;cases iu;rw [cY] at ya;cases ya;have eg:∀ u∈vs,u.oneCell'=true:=fun u hu=>by
          obtain ⟨j,az⟩:=List.mem_iff_getElem?.1 hu;have aY:=(List.getElem?_eq_some_iff.1 az).1;exact (hnew.rel j _ u (List.getElem?_eq_getElem (hnew.len ▸ aY)) az).2.1
         have Bz:b<w.heap.size:=(Array.getElem?_eq_some_iff.1 aS).1
         suffices ai:∃ y w',(Builtin.append_ #[t,t] ty #[.slice (some ⟨b,0,none⟩) len cap,.slice (some ⟨ao,cK,none⟩) m dP]).run P w=.ok y w'∧a0 B U J a5 w (H.set id .dead++[.grow (l++new) (H.length+1) i.size,.dead]) (.cf H.length (H.length+1) (len+m) i.size) y w' by
          obtain ⟨y,w',bP,b4⟩:=ai;exact ⟨y,w',bP,a0.after (Ext.refl J) c5 b4⟩
         by_cases dy:len+m≤cap
         ·have jq:(len+m)*i.size≤cap*i.size:=Nat.mul_le_mul_right _ dy;rw [Nat.add_mul] at jq;have aj:=z0 (P:=P) w t ty e i aw hi b len cap cur ce aS ⟨ao,cK,none⟩ m dP vs eE (fun j x h=>by rw [add_lit];exact bw j x h) eg dy (by rw [fu];omega);(have ad:cur.toList.length=cap*i.size:=by simp [fu]);refine ⟨_,_,aj,?_⟩;refine zj bV aY aF bf bg (nb:=b) (cap1:=cap) (e1:=ce) (hnew:=hnew) (by exact rfl) (by exact rfl) (by exact rfl) (by simp [World.setRow]) (fun br _ eQ=>by exact setRow_other w b br _ eQ) (.inl rfl) (by simpa [World.setRow] using Bz) (by exact setRow_heap w b cur _ ce (0,0) aS) ?_ c4 dv ?_ (fun j az=>?_) (fun j v az=>?_) dy
          ·rw [List.size_toArray,List.length_append,List.length_append,List.length_take,List.length_drop,ad,eE,Nat.min_eq_left (by omega)];omega
          ·rw [List.size_toArray,List.length_append,List.length_append,List.length_take,List.length_drop,ad,eE,Nat.min_eq_left (by omega),aq,cW];omega
          ·have:=jR cur.toList vs (len*i.size) j (by rw [ad];omega);rw [if_neg (by omega)] at this;simpa using this
          ·have o2:=(List.getElem?_eq_some_iff.1 az).1;have:=jR cur.toList vs (len*i.size) (l.length+j) (by rw [ad];omega);rw [if_pos ⟨by omega,by omega⟩,aq,show len*i.size+j-len*i.size=j by omega,az] at this;rw [aq];simpa using this
         ·have B4:len+m≤140737488355328:=Nat.le_trans (Nat.le_mul_of_pos_right _ aX) aW;(have ef:len+m≤maxLen:=by simp only [maxLen];omega);have dh:len*i.size≤cap*i.size:=Nat.mul_le_mul_right _ hle;have fD:(cur.toList.take (len*i.size)).length=len*i.size:=by rw [List.length_take];simp;omega
          have aj:=run_append_grow (P:=P) w t ty e i dm aw hi ej ⟨b,0,none⟩ len cap (cur.toList.take (len*i.size)) fD (fun j x h=>by
           rw [List.getElem?_take] at h;split at h
           ·rw [add_lit,Nat.zero_add,cell_of_row w b _ cur ce (0,0) aS];simpa using h
           ·simp at h) ⟨ao,cK,none⟩ m dP vs eE (fun j x h=>by rw [add_lit];exact bw j x h) (by omega) (by omega) (growslice_fits (by omega) aW)
          have e5:=grownCap_ge w (len+m) cap e;have ye:=grownCap_le_maxLen w (len+m) cap e ef;generalize grownCap w (len+m) cap e=e3 at e5 ye aj;refine ⟨_,_,aj,?_⟩;refine zj bV aY aF bf bg (nb:=w.heap.size) (cap1:=e3) (e1:=e) (hnew:=hnew) (by exact rfl) (by exact rfl) (by exact rfl) (by simp) (fun br eQ _=>by exact heap_alloc_old w.drew _ br eQ) (.inr rfl) (by simp) (by exact heap_alloc_new w.drew _) ?_ ye dv ?_ (fun j az=>?_) (fun j v az=>?_) e5
          ·simp only [Array.size_append,List.size_toArray,fD,eE,size_zeroCells,gA];rw [←Nat.add_mul,←Nat.add_mul];congr 1;omega
          ·simp only [Array.size_append,List.size_toArray,fD,eE,size_zeroCells,gA,aq,cW];omega
          ·rw [aq] at az;rw [Array.getElem?_append_left (by simp only [Array.size_append,List.size_toArray,fD];omega),Array.getElem?_append_left (by simp only [List.size_toArray,fD];omega)];simp [az]
          ·have o2:=(List.getElem?_eq_some_iff.1 az).1;rw [aq,Array.getElem?_append_left (by simp only [Array.size_append,List.size_toArray,fD];omega),Array.getElem?_append_right (by simp only [List.size_toArray,fD];omega)];simp only [List.size_toArray,fD,show len*i.size+j-len*i.size=j by omega];simpa using az
      ·simp at h
     ·simp at h
    ·simp at h
   ·simp at h
  ·simp at h
 ·simp at h
theorem El (ah:aJ B U J S w H) (lo:Nat) (vs:List I):aJ B U J S w (iR lo H vs):=by
 unfold iR;split
 ·rename_i id _ len z _;split
  ·rename_i l g cQ aE;split
   ·refine ⟨by simpa using ah.cA,fun bA o ar=>?_,ah.b',ah.base,ah.cV⟩;by_cases cr:bA=id
    ·subst cr;rw [List.getElem?_set_self (List.getElem?_eq_some_iff.1 aE).1] at ar;cases ar;obtain ⟨b,cur,e,aB,aF,aS,bp,bf,bg,cY⟩:=ah.obj bA _ aE;refine ⟨b,cur,e,aB,aF,aS,Nat.le_trans (by rw [List.length_take];omega) bp,bf,fun j u v hu ae=>?_,cY⟩;rw [List.getElem?_take] at hu;split at hu
     ·exact bg j u v hu ae
     ·simp at hu
    ·rw [List.getElem?_set_ne (Ne.symm cr)] at ar;exact ah.obj bA o ar
   ·exact ah
  ·exact ah
 ·exact ah
theorem Er (ah:aJ B U J S w H) {lo:Nat} {ts:Array TypeId} (ty:TypeId) {u x r:I} {v cy:Value} {ct dA:aG} (b9:∀ id,ct≠.obj id) (cj:∀ id j,ct≠.cell id j) (c8:∀ id,dA≠.obj id) (c9:∀ id j,dA≠.cell id j) (bY:ct≠dA)
  {H':List au} (h:iM P lo ts H [u,x]=some (r,H')) (aj:Rel J S w u v) (ar:aV U J S w ct u v) (ea:Rel J S w x cy) (hS:aV U J S w dA x cy) :
  ∃ y w',(Builtin.append_ ts ty #[v,cy]).run P w=.ok y w'∧a0 B U J S w H' r y w' :=
 Es (El ah lo [u,x]) ty b9 cj c8 c9 bY h aj ar ea hS
end
end Go.Proofs.YtfakoboiahbhaaaGreat.Ab


namespace Go.Proofs.YtfakoboiahbhaaaGreat.Ab
open Go
section
variable {P:Program} {B:Nat} {J:List Nat} {w:World} {H:List au} {U:Nat→Option aG} {S:Nat→Nat→Prop}
theorem lT {ts:Array TypeId} (h:iF P ts[0]?=true):∃ t e,ts[0]?=some t∧P.underlying t=some (.slice e):=by
 unfold iF at h;split at h
 ·rename_i e he;simp only [Option.bind_eq_some_iff] at he;obtain ⟨t,ad,af⟩:=he;exact ⟨t,e,ad,af⟩
 ·simp at h
theorem EC (ah:aJ B U J S w H) {ts:Array TypeId} (ty:TypeId) {u r:I} {H':List au} {v:Value} (h:g8 P ts H [u]=some (r,H')) (aj:Rel J S w u v) :
  ∃ y,(Builtin.len_ ts ty #[v]).run P w=.ok y w∧a0 B U J S w H' r y w:=by
 simp only [g8] at h;split at h
 ·split at h
  ·rename_i ai;obtain ⟨t,e,aw,he⟩:=lT ai;simp only [Option.some.injEq,Prod.mk.injEq] at h;obtain ⟨rfl,rfl⟩:=h;have ae:∃ a c,v=.slice a _ c:=l0 (n:=_) rfl aj;obtain ⟨a,c,rfl⟩:=ae;exact ⟨_,by simp [Builtin.len_,aw,run_underlying he,goInt],a0.same ah (.int _ _) rfl⟩
  ·simp at h
 ·split at h
  ·rename_i ai;obtain ⟨t,e,aw,he⟩:=lT ai;simp only [Option.some.injEq,Prod.mk.injEq] at h;obtain ⟨rfl,rfl⟩:=h;have ae:∃ a c,v=.slice a _ c:=l0 (n:=_) rfl aj;obtain ⟨a,c,rfl⟩:=ae;exact ⟨_,by simp [Builtin.len_,aw,run_underlying he,goInt],a0.same ah (.int _ _) rfl⟩
  ·simp at h
 ·split at h
  ·rename_i _ _ aw aE;simp only [Option.bind_eq_some_iff] at aw;obtain ⟨t,aw,he⟩:=aw;simp only [Option.some.injEq,Prod.mk.injEq] at h;obtain ⟨rfl,rfl⟩:=h;obtain ⟨b,bx,aB,aF,aS,bp,bf,bg⟩:=ah.obj _ _ aE;cases aj with
   | map _ ao k =>
     rw [aB] at k;cases k;exact ⟨_,by simp [Builtin.len_,aw,run_underlying he,goInt,getObj,Sem.run,aS,bp],a0.same ah (.int _ _) rfl⟩
  ·simp at h
 ·split at h
  ·rename_i n e he;simp only [Option.bind_eq_some_iff] at he;obtain ⟨t,aw,he⟩:=he;simp only [Option.some.injEq,Prod.mk.injEq] at h;obtain ⟨rfl,rfl⟩:=h;exact ⟨_,by simp [Builtin.len_,aw,run_underlying he,goInt],a0.same ah (.int _ _) rfl⟩
  ·simp at h
theorem Ex (ah:aJ B U J S w H) {ts:Array TypeId} (ty:TypeId) {u r:I} {H':List au} {v:Value} (h:jG P ts H [u]=some (r,H')) (aj:Rel J S w u v) :
  ∃ y,(Builtin.cap_ ts ty #[v]).run P w=.ok y w∧a0 B U J S w H' r y w:=by
 unfold jG at h;split at h
 ·rename_i cs n heq;simp only [List.cons.injEq,and_true] at heq;subst heq;split at h
  ·rename_i ai;obtain ⟨t,e,aw,he⟩:=lT ai;simp only [Option.some.injEq,Prod.mk.injEq] at h;obtain ⟨rfl,rfl⟩:=h;have ae:∃ a,v=.slice a n n:=by
    cases aj with
    | b2=>exact ⟨_,rfl⟩
    | ax _ _ _ b o cap f ak=>exact ⟨_,by rw [ak rfl]⟩
   obtain ⟨a,rfl⟩:=ae;exact ⟨_,by simp [Builtin.cap_,aw,run_underlying he,goInt],a0.same ah (.int _ _) rfl⟩
  ·simp at h
 ·rename_i id off len n sz heq;simp only [List.cons.injEq,and_true] at heq;subst heq;split at h
  ·rename_i ai;obtain ⟨t,e,aw,he⟩:=lT ai;simp only [Option.some.injEq,Prod.mk.injEq] at h;obtain ⟨rfl,rfl⟩:=h;have ae:∃ a,v=.slice a len n:=by
    cases aj with
    | ref _ _ _ _ _ b cap _ ak=>exact ⟨_,by rw [ak n rfl]⟩
   obtain ⟨a,rfl⟩:=ae;exact ⟨_,by simp [Builtin.cap_,aw,run_underlying he,goInt],a0.same ah (.int _ _) rfl⟩
  ·simp at h
 ·simp at h
theorem z_ {k:IntKind}:∀ (us:List I) (a n:Int) (vs:List Value) (bB:Nat→aG),kx us a=some n→a7 bB U J S w us vs→(vs.foldlM Builtin.min2 (.int k a)).run P w=.ok (.int k n) w
 | [],a,n,vs,bB,h,ae=>by
   cases vs with
   | cons=>exact absurd ae.len (by simp)
   | nil=>simp only [kx,Option.some.injEq] at h;subst h;rfl
 | u::us,a,n,vs,bB,h,ae=>by
   obtain ⟨v1,t1,rfl,aR,_,dt⟩:=ae.gN;unfold kx at h;split at h
   ·rename_i heq;simp at heq
   ·rename_i k' b r _ heq;simp only [List.cons.injEq] at heq;obtain ⟨rfl,rfl⟩:=heq;have e1:=aR.c6;subst e1;simp only [List.foldlM_cons,Builtin.min2,pure_bind];exact z_ _ _ _ _ _ h dt
   ·cases h
theorem z9 {k:IntKind}:∀ (us:List I) (a n:Int) (vs:List Value) (bB:Nat→aG),kv us a=some n→a7 bB U J S w us vs→(vs.foldlM Builtin.max2 (.int k a)).run P w=.ok (.int k n) w
 | [],a,n,vs,bB,h,ae=>by
   cases vs with
   | cons=>exact absurd ae.len (by simp)
   | nil=>simp only [kv,Option.some.injEq] at h;subst h;rfl
 | u::us,a,n,vs,bB,h,ae=>by
   obtain ⟨v1,t1,rfl,aR,_,dt⟩:=ae.gN;unfold kv at h;split at h
   ·rename_i heq;simp at heq
   ·rename_i k' b r _ heq;simp only [List.cons.injEq] at heq;obtain ⟨rfl,rfl⟩:=heq;have e1:=aR.c6;subst e1;simp only [List.foldlM_cons,Builtin.max2,pure_bind];exact z9 _ _ _ _ _ h dt
   ·cases h
theorem EL {us:List I} {r:I} (ts:Array TypeId) (ty:TypeId) {bB:Nat→aG} {vs:List Value} (h:nq us=some r) (ae:a7 bB U J S w us vs) :
  ∃ y,(Builtin.min_ ts ty vs.toArray).run P w=.ok y w∧Rel J S w r y∧r.plain=true:=by
 unfold nq at h;split at h
 ·simp only [Option.map_eq_some_iff] at h;obtain ⟨n,h,rfl⟩:=h;obtain ⟨v1,t1,rfl,aR,_,dt⟩:=ae.gN;have e1:=aR.c6;subst e1;exact ⟨_,by simp only [Builtin.min_];exact z_ _ _ _ _ _ h dt,.int _ _,rfl⟩
 ·simp at h
theorem EK {us:List I} {r:I} (ts:Array TypeId) (ty:TypeId) {bB:Nat→aG} {vs:List Value} (h:np us=some r) (ae:a7 bB U J S w us vs) :
  ∃ y,(Builtin.max_ ts ty vs.toArray).run P w=.ok y w∧Rel J S w r y∧r.plain=true:=by
 unfold np at h;split at h
 ·simp only [Option.map_eq_some_iff] at h;obtain ⟨n,h,rfl⟩:=h;obtain ⟨v1,t1,rfl,aR,_,dt⟩:=ae.gN;have e1:=aR.c6;subst e1;exact ⟨_,by simp only [Builtin.max_];exact z9 _ _ _ _ _ h dt,.int _ _,rfl⟩
 ·simp at h
theorem AG (ah:aJ B U J S w H) {lo id off len sz n:Nat} {H':List au} {cs:List I} {vs:List Value} (et:cZ J S w cs vs) (dh:cs.length=n) (aP:n≤len*sz)
  (h:g4 lo H id (fun l=>if off+len*sz≤l.length then some (setCells off cs l) else none)=some H') {b:Nat} (ag:J[id]?=some b) :
  ∃ w',(storeCells ⟨b,off,none⟩ vs).run P w=.ok () w'∧∃ ay,bj U S w ay S w'∧aJ B ay J S w' H'∧∃ cur e cur' cL,w.heap[b]?=some (.cells cur e (0,0))∧w'.heap[b]?=some (.cells cur' cL (0,0))∧cur'.size=cur.size:=by
 unfold g4 at h;split at h
 ·split at h
  ·rename_i ll aE;simp only [Option.map_eq_some_iff] at h;obtain ⟨l',dr,rfl⟩:=h;split at dr
   ·rename_i ak;cases dr;obtain ⟨ao,cur,e,aB,aF,aS,bp,bf,bg⟩:=ah.obj id _ aE;rw [ag] at aB;cases aB;have pj:vs.length=n:=et.len ▸ dh;have eg:∀ u∈vs,u.oneCell'=true:=fun u hu=>by
     obtain ⟨j,az⟩:=List.mem_iff_getElem?.1 hu;have aY:=(List.getElem?_eq_some_iff.1 az).1;exact (et.rel j _ u (List.getElem?_eq_getElem (et.len ▸ aY)) az).2.1
    have cF:=run_storeCells_at P b off e vs 0 cur w aS (by omega) eg;simp only [Nat.add_zero] at cF;obtain ⟨ay,aA,b_⟩:=pI (cur':=(cur.toList.take off++vs++cur.toList.drop (off+vs.length)).toArray) (l':=setCells off cs ll) ah aE ag aF aS bf .res (by simp) (by simp)
     (by simp [ml];omega) 0 (fun j bH bu hu ae=>by
      rw [nM _ _ _ _ (by omega)] at hu;(have ae:(cur.toList.take off++vs++cur.toList.drop (off+vs.length))[j]?=some bu:=by simpa using ae);rw [jR cur.toList vs off j (by have BE:cur.toList.length=cur.size:=Array.length_toList;omega)] at ae;rw [et.len] at hu;split at hu
      ·rename_i az;rw [if_pos az] at ae;obtain ⟨a',bm,bt⟩:=et.rel _ bH bu hu ae;exact ⟨I.fX a',bm,bt,.inl a'⟩
      ·rename_i az;rw [if_neg az] at ae;obtain ⟨d1,d0,d2,d3⟩:=bg j bH bu hu (by simpa using ae)
       exact ⟨d1,d0,d2,.inr (.inl d3)⟩)
    exact ⟨_,cF,ay,aA,b_,cur,e,_,e,aS,setRow_heap w b cur _ e (0,0) aS,by have BE:cur.toList.length=cur.size:=Array.length_toList;simp;omega⟩
   ·simp at dr
  ·simp at h
 ·simp at h
theorem AF (ah:aJ B U J S w H) {lo id off len sz n:Nat} {H':List au} {cs:List I} {vs:List Value} (et:cZ J S w cs vs) (dh:cs.length=n) (aP:n≤len*sz)
  (h:g4 lo H id (fun l=>if off+len*sz≤l.length then some (setCells off cs l) else none)=some H') {b:Nat} (ag:J[id]?=some b) :
  ∃ w',(storeCells ⟨b,off,none⟩ vs).run P w=.ok () w'∧∃ ay,bj U S w ay S w'∧aJ B ay J S w' H':=by
 obtain ⟨w',ad,ay,af,aH,_⟩:=AG (P:=P) ah et dh aP h ag;exact ⟨w',ad,ay,af,aH⟩
theorem Fe (ah:aJ B U J S w H) {lo id off len sz n:Nat} {H':List au} {cs:List I} {vs:List Value} (et:cZ J S w cs vs) (dh:cs.length=n) (aP:n≤len*sz)
  (h:g5 lo H id (fun l=>if off+len*sz≤l.length then some (setCells off cs l) else none)=some H') {b:Nat} (ag:J[id]?=some b) :
  ∃ w',(storeCells ⟨b,off,none⟩ vs).run P w=.ok () w'∧∃ ay,bj U S w ay S w'∧aJ B ay J S w' H':=by
 unfold g5 at h;split at h
 ·rename_i bF;split at h
  ·rename_i ll aE;exact AF (P:=P) (lo:=lo) ah et dh aP (by unfold g4;rw [if_pos bF,aE];exact h) ag
  ·rename_i ll g z aE;simp only [Option.map_eq_some_iff] at h;obtain ⟨l',dr,rfl⟩:=h;have aY:=(List.getElem?_eq_some_iff.1 aE).1;obtain ⟨dp,cur,e,aB,aF,aS,bp,bf,bg,cap,cY,c4,dv,fu⟩:=ah.obj id _ aE;rw [ag] at aB;cases aB
   obtain ⟨w',aW,ay,aX,cw,Bd,fP,ji,e1,dG,mc,pN⟩:=AG (P:=P) (lo:=lo) (id:=id) (H':=(H.set id (.cells ll)).set id (.cells l')) (ah.nU aE) et dh aP (by
    unfold g4;rw [if_pos bF,List.getElem?_set_self aY];exact congrArg (Option.map _) dr) ag
   rw [aS] at dG;cases dG;have aK:=cw.pP (g:=g) (z:=z) (by rw [List.getElem?_set_self (by simpa using aY)]) ag cY c4 dv mc (by rw [pN,fu]);rw [List.set_set,List.set_set] at aK;exact ⟨w',aW,ay,aX,aK⟩
  ·simp at h
 ·simp at h
theorem Ez (ah:aJ B U J S w H) {lo:Nat} {ts:Array TypeId} (ty:TypeId) {u x r:I} {H':List au} {v cy:Value} {dA:aG} (c8:∀ id,dA≠.obj id) (c9:∀ id j,dA≠.cell id j)
  (h:jH P lo ts H [u,x]=some (r,H')) (aj:Rel J S w u v) (ea:Rel J S w x cy) (hS:aV U J S w dA x cy) :
  ∃ y w',(Builtin.copy_ ts ty #[v,cy]).run P w=.ok y w'∧a0 B U J S w H' r y w':=by
 obtain ⟨a5,aL,aQ,bV,jz⟩:=l1 ah c8 c9 ea hS;have c5:bj U S w U a5 w:=bj.settle aL fun b o h=>(aQ b o h).imp (fun h=>h) fun h=>⟨_,h⟩;unfold jH at h;split at h
 ·rename_i id off len cap sz nX heq;simp only [List.cons.injEq,and_true] at heq;obtain ⟨rfl,rfl⟩:=heq;split at h
  ·rename_i e he;simp only [Option.bind_eq_some_iff] at he;obtain ⟨t,aw,he⟩:=he;split at h
   ·rename_i s m row ai hm cO;split at h
    ·rename_i ak;obtain ⟨rfl,Cq⟩:=ak;simp only [Option.map_eq_some_iff] at h;obtain ⟨a3,hw,h⟩:=h;simp only [Prod.mk.injEq] at h;obtain ⟨rfl,rfl⟩:=h;have B9:lenOf x.view=some m:=by
      cases x <;> try exact hm
      ·rename_i c;cases c <;> exact hm
      ·simp [lenOf] at hm
     have m_:rowOf H x.view=some row:=by
      cases x <;> try exact cO
      ·rename_i c;cases c <;> exact cO
      ·simp [rowOf] at cO
     have hT:=I.fX (I.c_ x);cases aj with
     | ref _ _ _ _ _ b cap' ag BC hle =>
       obtain ⟨a,c,fU⟩:=l0 B9 jz;have Ct:∃ vs,cZ J a5 w row vs∧∀ n,n≤m→(Builtin.firstCells s n cy).run P w=.ok (vs.take (n*s)).toArray w:=by
        rcases p2 bV m_ jz hT with ⟨aT,n,dP,ae⟩ | ⟨cU,bO,n,dP,vs,ae,gx,bw⟩
        ·refine ⟨[],⟨by simp [aT],by simp [aT]⟩,fun iJ aP=>?_⟩;(have FC:m=0:=by rw [ae] at fU;cases fU;rfl);rw [ae];(obtain rfl:iJ=0:=by omega);cases n <;> simp [Builtin.firstCells,loadCells,loadCellsFrom]
        ·refine ⟨vs,gx,fun iJ aP=>?_⟩;rw [ae] at fU ⊢;cases fU;have pj:vs.length=m*s:=gx.len ▸ Cq;have B3:iJ*s≤m*s:=Nat.mul_le_mul_right _ aP
         exact run_firstCells_some (P:=P) w s iJ ⟨cU,bO,none⟩ m c (vs.take (iJ*s)) (by simp;omega) (fun j y aZ=>by
          rw [List.getElem?_take] at aZ;split at aZ
          ·rw [add_lit];exact bw j y aZ
          ·simp at aZ)
       obtain ⟨vs,gx,BN⟩:=Ct;have FD:min m len*s≤m*s:=Nat.mul_le_mul_right _ (Nat.min_le_left _ _)
       have BH:cZ J a5 w (row.take (min m len*s)) (vs.take (min m len*s)):=⟨by simp [gx.len],fun j bH bu b8 bc=>by
        rw [List.getElem?_take] at b8 bc;split at b8
        ·rename_i az;rw [if_pos az] at bc;exact gx.rel j bH bu b8 bc
        ·simp at b8⟩
       obtain ⟨w',cF,ay,aA,b_⟩:=AF (P:=P) (n:=min m len*s) bV BH (by simp;omega) (Nat.mul_le_mul_right _ (Nat.min_le_right _ _)) hw ag;refine ⟨.int .i64 (min m len:Nat),w',?_,ay,J,a5,Ext.refl J,c5.trans aA,b_,.int _ _,aV.b3 rfl⟩;subst fU;have aN:=BN (min m len) (Nat.min_le_left _ _);simp only [Builtin.copy_,aw,List.getElem?_toArray,List.getElem?_cons_zero,List.getElem?_cons_succ,Sem.run_bind,run_underlying he,Result.andThen_ok,Builtin.lenOf,Sem.run_pure,run_sizeOf ai];rw [show Nat.min m len=min m len from rfl,aN];simp [cF,goInt]
    ·simp at h
   ·simp at h
  ·simp at h
 ·simp at h
theorem Ey (ah:aJ B U J S w H) {lo:Nat} {ts:Array TypeId} (ty:TypeId) {u r:I} {H':List au} {v:Value} (h:kB P lo ts H [u]=some (r,H')) (aj:Rel J S w u v) :
  ∃ y w',(Builtin.clear_ ts ty #[v]).run P w=.ok y w'∧a0 B U J S w H' r y w':=by
 have done:∀ {a3:List au},aJ B U J S w a3→a0 B U J S w a3 (.tuple []) (.tuple #[]) w:=fun ck=>a0.same ck (.tuple [] #[] rfl (by simp) (by simp)) rfl;unfold kB at h;split at h
 ·rename_i id off len cap sz heq;simp only [List.cons.injEq,and_true] at heq;subst heq;split at h
  ·rename_i e he;simp only [Option.bind_eq_some_iff] at he;obtain ⟨t,aw,he⟩:=he;split at h
   ·rename_i s z ai bn;split at h
    ·rename_i ak;obtain ⟨rfl,ei,bR⟩:=ak;simp only [Option.map_eq_some_iff,Prod.mk.injEq] at h;obtain ⟨a3,hw,rfl,rfl⟩:=h;obtain ⟨i,dm,hi,ej,fC⟩:=hE (J:=J) (S:=S) (w:=w) bn;have fF:=mr fC (by omega) len;cases aj with
     | ref _ _ _ _ _ b cap' ag BC hle =>
       obtain ⟨w',cF,ay,aA,b_⟩:=Fe (P:=P) (n:=len*s) ah fF (by rw [h3,ei]) (Nat.le_refl _) hw ag;(have km:z.length=dm.cells.size:=by simpa using fC.len);have heq:(Builtin.zeroCells dm.cells len).toList=((Array.range (len*z.length)).map (fun i=>dm.cells[i % dm.cells.size]!)).toList:=by
        simp [Builtin.zeroCells,km]
       rw [←heq] at cF;cases len with
       | zero =>
         have lO:w'=w:=by
          (have aT:(Builtin.zeroCells dm.cells 0).toList=[]:=by simp [Builtin.zeroCells]);rw [aT] at cF;simp [storeCells] at cF;exact cF.symm
         subst lO;refine ⟨.tuple #[],w',by simp [Builtin.clear_,aw,run_underlying he],ay,J,S,Ext.refl J,aA,b_,.tuple [] #[] rfl (by simp) (by simp),aV.b3 rfl⟩
       | succ n =>
         refine ⟨.tuple #[],w',?_,ay,J,S,Ext.refl J,aA,b_,.tuple [] #[] rfl (by simp) (by simp),aV.b3 rfl⟩;simp [Builtin.clear_,aw,run_underlying he,jQ hi ej,cF]
    ·simp at h
   ·simp at h
  ·simp at h
 ·rename_i c heq;simp only [List.cons.injEq,and_true] at heq;subst heq;split at h
  ·rename_i ai;obtain ⟨t,e,aw,he⟩:=lT ai;simp only [Option.some.injEq,Prod.mk.injEq] at h;obtain ⟨rfl,rfl⟩:=h;have ae:∃ a c,v=.slice a 0 c:=l0 (n:=0) rfl aj;obtain ⟨a,c,rfl⟩:=ae;refine ⟨.tuple #[],w,?_,done ah⟩;cases a <;> simp [Builtin.clear_,aw,run_underlying he]
  ·simp at h
 ·simp at h
theorem xZ (off:Nat):∀ (xs:List Value) (k:Nat) (cells:Array Value) (j:Nat),off+k+xs.length≤cells.size →
  ((xs.zipIdx k).foldl (fun cs (x:Value×Nat)=>cs.setIfInBounds (off+x.2) x.1) cells)[j]?=if off+k≤j∧j<off+k+xs.length then xs[j-(off+k)]? else cells[j]?
 | [],k,cells,j,_=>by simp;omega
 | x::xs,k,cells,j,h=>by
   simp only [List.length_cons] at h;simp only [List.zipIdx_cons,List.foldl_cons];rw [xZ off xs (k+1) _ j (by simp;omega)];by_cases ad:j=off+k
   ·subst ad;rw [if_neg (by omega),if_pos (by simp)];simp [show off+k<cells.size by omega]
   ·by_cases af:off+(k+1)≤j∧j<off+(k+1)+xs.length
    ·rw [if_pos af,if_pos (by simp;omega)];obtain ⟨m,rfl⟩:∃ m,j=off+(k+1)+m:=⟨j-(off+(k+1)),by omega⟩;rw [show off+(k+1)+m-(off+(k+1))=m by omega,show off+(k+1)+m-(off+k)=m+1 by omega];simp
    ·rw [if_neg af,if_neg (by simp;omega),Array.getElem?_setIfInBounds_ne (by omega)]
theorem Dt {u:I} {v:Value} {vc:List I} (ak:u.cells=some vc) (aj:Rel J S w u v) (aD:u.plain=true):cZ J S w vc v.cells.toList:=by
 have single:vc=[u]→v.cells=#[v]→v.oneCell'=true→cZ J S w vc v.cells.toList:=by
  intro ad af aH;subst ad;rw [af];refine ⟨rfl,fun j bH bu hu ae=>?_⟩;cases j with
  | zero=>simp at hu ae;subst hu ae;exact ⟨aD,aH,aj⟩
  | succ j=>simp at hu
 cases aj with
 | agg as vs h p one r =>
   simp [I.cells] at ak;subst ak;exact ⟨by simpa [Value.cells] using h.symm,fun j bH bu hu ae=>⟨p bH (List.mem_of_getElem? hu),one bu (List.mem_of_getElem? ae),r j bH bu hu (by simpa [Value.cells] using ae)⟩⟩
 | junk v=>simp [I.cells] at ak
 | tuple as vs h p r=>simp [I.cells] at ak
 | raw=>simp [I.cells] at ak
 | _=>simp [I.cells] at ak;exact single ak.symm rfl rfl
theorem mO {place:Nat→Option (Nat×Nat)}:∀ (parts:List (Nat×I)) (parts':List (Nat×Value)) (cs c3:List I) (vs:Array Value),
  parts.map (·.1)=parts'.map (·.1)→(∀ (j:Nat) (x:Nat×I) (y:Nat×Value),parts[j]?=some x→parts'[j]?=some y→x.2.plain=true∧Rel J S w x.2 y.2) →
  gl place cs parts=some c3→cZ J S w cs vs.toList→∃ dk,Instr.fill place vs parts'=some dk∧cZ J S w c3 dk.toList
 | [],parts',cs,c3,vs,hi,_,h,ak=>by
   cases parts' with
   | nil=>simp [gl] at h;subst h;exact ⟨vs,rfl,ak⟩
   | cons=>simp at hi
 | (i,u)::parts,parts',cs,c3,vs,hi,b7,h,ak=>by
   cases parts' with
   | nil=>simp at hi
   | cons y parts' =>
     obtain ⟨nc,v⟩:=y;simp only [List.map_cons,List.cons.injEq] at hi;obtain ⟨rfl,hi⟩:=hi;obtain ⟨aD,aj⟩:=b7 0 (i,u) (i,v) rfl rfl;simp only [gl] at h;split at h
     ·rename_i off size hT;split at h
      ·rename_i vc fE;split at h
       ·rename_i gW;obtain ⟨bR,hle⟩:=gW;have et:=Dt fE aj aD;(have pj:v.cells.size=size:=by have:=et.len;simp at this;omega);(have dh:vs.size=cs.length:=by have:=ak.len;simp at this;omega);have bD:cZ J S w (setCells off vc cs) (v.cells.zipIdx.foldl (fun cs (x:Value×Nat)=>cs.setIfInBounds (off+x.2) x.1) vs).toList:=by
         refine ⟨?_,fun j bH bu hu ae=>?_⟩
         ·rw [ml];have oT:∀ (l:List (Value×Nat)) (a:Array Value),(l.foldl (fun cs (x:Value×Nat)=>cs.setIfInBounds (off+x.2) x.1) a).size=a.size:=by
           intro l;induction l with
           | nil=>intro a;rfl
           | cons x l a9=>intro a;simp [a9]
          have:=oT v.cells.zipIdx.toList vs;simp only [Array.length_toList];rw [←dh,←this,←Array.foldl_toList]
         ·rw [nM _ _ _ _ (by omega)] at hu;have aK:=xZ off v.cells.toList 0 vs j (by simp;omega);(have dt:(v.cells.zipIdx.foldl (fun cs (x:Value×Nat)=>cs.setIfInBounds (off+x.2) x.1) vs)[j]?=some bu:=by simpa using ae);rw [←Array.foldl_toList,Array.toList_zipIdx] at dt;rw [aK] at dt;simp only [Nat.add_zero,Array.length_toList,pj] at dt;rw [bR] at hu;split at hu
          ·rename_i az;rw [if_pos az] at dt;exact et.rel _ bH bu hu dt
          ·rename_i az;rw [if_neg az] at dt;exact ak.rel j bH bu hu (by simpa using dt)
        obtain ⟨dk,ad,af⟩:=mO parts parts' (setCells off vc cs) c3 _ hi (fun j x y al aZ=>b7 (j+1) x y (by simpa using al) (by simpa using aZ)) h bD;exact ⟨dk,by simp only [Instr.fill,hT];rw [if_neg (by simp;omega)];exact ad,af⟩
       ·simp at h
      ·simp at h
     ·simp at h
end
end Go.Proofs.YtfakoboiahbhaaaGreat.Ab


namespace Go.Proofs.YtfakoboiahbhaaaGreat.Ab
open Go
section
variable {P:Program} {B:Nat} {J:List Nat} {w:World} {H:List au} {U:Nat→Option aG} {S:Nat→Nat→Prop}
theorem z8 {α β:Type} (g:α→Sem β) (h:α→β):∀ (l:List α),(∀ x∈l,∀ w,(g x).run P w=.ok (h x) w)→∀ w,(l.mapM g).run P w=.ok (l.map h) w
 | [],_,w=>by simp
 | x::l,al,w=>by
   rw [List.mapM_cons];simp [al x (by simp),z8 g h l (fun y aZ=>al y (by simp [aZ]))]
theorem Ev {t:TypeId} {parts:List (Nat×I)} {parts':Array (Nat×Value)} {r:I} (h:kY P t parts=some r) (hi:parts.map (·.1)=parts'.toList.map (·.1))
  (b7:∀ (j:Nat) (x:Nat×I) (y:Nat×Value),parts[j]?=some x→parts'.toList[j]?=some y→x.2.plain=true∧Rel J S w x.2 y.2) :
  ∃ v,(Instr.build t parts').run P w=.ok v w∧Rel J S w r v∧r.plain=true:=by
 have fin:∀ {c3:List I} {dk:Array Value},cZ J S w c3 dk.toList→Rel J S w (.agg c3) (.agg dk):=fun {c3 dk} h =>
  .agg _ _ (by simpa using h.len.symm) (fun u hu=>by
   obtain ⟨j,az⟩:=List.mem_iff_getElem?.1 hu;have aY:=(List.getElem?_eq_some_iff.1 az).1;exact (h.rel j u _ az (List.getElem?_eq_getElem (h.len ▸ aY))).1) (fun v ae=>by
   obtain ⟨j,az⟩:=List.mem_iff_getElem?.1 ae;have aY:=(List.getElem?_eq_some_iff.1 az).1
   exact (h.rel j _ v (List.getElem?_eq_getElem (h.len ▸ aY)) az).2.1) (fun j u v hu ae=>(h.rel j u v hu (by simpa using ae)).2.2)
 unfold kY at h;split at h
 ·rename_i z fs bn a2;obtain ⟨i,dm,hi',ej,fC⟩:=hE (J:=J) (S:=S) (w:=w) bn;split at h
  ·rename_i dJ;simp only [Option.map_eq_some_iff] at h;obtain ⟨c3,aN,rfl⟩:=h;obtain ⟨dk,ad,af⟩:=mO parts parts'.toList z c3 dm.cells hi b7 aN fC;have x5:∀ f∈fs.toList,∃ s,bQ P f.type=some s:=fun f aN=>by
    have:=List.all_eq_true.1 dJ f aN;exact Option.isSome_iff_exists.1 this
   have hm:=z8 (P:=P) (fun f:Field=>Prod.mk f.offset <$> sizeOf f.type) (fun f:Field=>(f.offset,(bQ P f.type).getD 0)) fs.toList (fun f aN w=>by
    obtain ⟨s,ai⟩:=x5 f aN;simp [run_sizeOf ai,ai]) w
   have hT:(fun (i:Nat)=>(fs.map (fun f:Field=>(f.offset,(bQ P f.type).getD 0)))[i]?)=(fun (i:Nat)=>(fs[i]?).bind fun f:Field=>(bQ P f.type).map fun s=>(f.offset,s)):=by
    funext i;rw [Array.getElem?_map];cases BM:fs[i]? with
    | none=>rfl
    | some f =>
      obtain ⟨s,ai⟩:=x5 f (by simpa using Array.mem_of_getElem? BM);simp [ai]
   refine ⟨.agg dk,?_,fin af,rfl⟩;rw [←hT] at ad;simp only [Array.getElem?_map] at ad;simp [Instr.build,jQ hi' ej,run_underlying a2,Array.mapM_eq_mapM_toList,hm,ad]
  ·simp at h
 ·rename_i z n e bn a2;obtain ⟨i,dm,hi',ej,fC⟩:=hE (J:=J) (S:=S) (w:=w) bn;simp only [Option.bind_eq_some_iff,Option.map_eq_some_iff] at h;obtain ⟨s,ai,c3,aN,rfl⟩:=h;obtain ⟨dk,ad,af⟩:=mO parts parts'.toList z c3 dm.cells hi b7 aN fC;refine ⟨.agg dk,?_,fin af,rfl⟩;simp [Instr.build,jQ hi' ej,run_underlying a2,run_sizeOf ai,ad]
 ·simp at h
theorem Ak (ah:aJ B U J S w H) {t:TypeId} {len:Nat} {parts:List (Nat×I)} {parts':Array (Nat×Value)} {cs:List I} {s:Nat} (h:ic P t len parts=some (cs,s))
  (hi:parts.map (·.1)=parts'.toList.map (·.1))
  (b7:∀ (j:Nat) (x:Nat×I) (y:Nat×Value),parts[j]?=some x→parts'.toList[j]?=some y→x.2.plain=true∧Rel J S w x.2 y.2) :
  ∃ b w',(Instr.buildSlice t len parts').run P w=.ok (.slice (some ⟨b,0,none⟩) len len) w'∧a0 B U J S w H (.ax cs len (.uniq s)) (.slice (some ⟨b,0,none⟩) len len) w':=by
 unfold ic at h;split at h
 ·rename_i e a2;split at h
  ·rename_i aI z ai bn;split at h
   ·rename_i ak;obtain ⟨ad,af,aH⟩:=ak;simp only [Option.map_eq_some_iff,Prod.mk.injEq] at h;obtain ⟨c3,aN,rfl,rfl⟩:=h;obtain ⟨i,dm,hi',ej,fC⟩:=hE (J:=J) (S:=S) (w:=w) bn;have fF:=mr fC (by omega) len;(have km:z.length=dm.cells.size:=by simpa using fC.len);obtain ⟨dk,aW,aX⟩:=mO parts parts'.toList (eU len z) c3 ((Array.range (len*z.length)).map (fun i=>dm.cells[i % dm.cells.size]!)) hi b7 aN fF;have oT:∀ (place:Nat→Option (Nat×Nat)) (parts:List (Nat×I)) (a b:List I),gl place a parts=some b→b.length=a.length:=by
     intro place parts
     induction parts with
     | nil=>intro a b h;simp [gl] at h;rw [h]
     | cons x parts a9 =>
       intro a b h;obtain ⟨i,u⟩:=x;simp only [gl] at h;split at h
       ·split at h
        ·split at h
         ·rw [a9 _ _ h,ml]
         ·simp at h
        ·simp at h
       ·simp at h
    have dh:c3.length=len*aI:=by rw [oT _ _ _ _ aN,h3,af]
    have iB:=ns ah aX [] e len len aI ad dh (Nat.le_refl _) (by
     have:len≤len*aI:=Nat.le_mul_of_pos_right _ ad
     simp only [maxLen];omega) (by rw [←aX.len,dh];simp)
    refine ⟨_,_,?_,iB⟩;simp only [List.append_nil,Array.toArray_toList];rw [af] at aW;(have lp:¬ (16777216<len*aI):=by omega);by_cases aT:len*aI=0
    ·obtain rfl:len=0:=by
      rcases Nat.mul_eq_zero.1 aT with h | h
      ·exact h
      ·omega
     (have DC:Instr.fill (fun i=>some (i*aI,aI)) #[] parts'.toList=some dk:=by simpa [show Array.range 0=#[] from rfl] using aW);simp [Instr.buildSlice,run_underlying a2,run_sizeOf ai,show Array.range 0=#[] from rfl,DC,newRow,newObj,Sem.run,World.alloc_eq]
    ·simp [Instr.buildSlice,run_underlying a2,run_sizeOf ai,aT,lp,jQ hi' ej,aW,newRow,newObj,Sem.run,World.alloc_eq]
   ·simp at h
  ·simp at h
 ·simp at h
end
end Go.Proofs.YtfakoboiahbhaaaGreat.Ab
