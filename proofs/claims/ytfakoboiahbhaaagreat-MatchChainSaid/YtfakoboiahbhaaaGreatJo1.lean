
import Derived.RangeFuncLeaves
import Derived.RangeFuncCalls
import Derived.KernelRfl
import Derived.Laws.AppendOwn
import Derived.OrdersIn
import Derived.Below
import Derived.IntWalk
import Derived.Laws.MakeOwn
set_option linter.unusedSimpArgs false
set_option linter.unusedVariables false
set_option linter.unusedSectionVars false

namespace Go.Proofs.YtfakoboiahbhaaaGreat.Ab
open Go
inductive Cap where
 | shared | full | own (z:Nat) | uniq (z:Nat)
 deriving DecidableEq
inductive AV where
 | junk
 | bool (b:Bool)
 | int (k:IntKind) (n:Int)
 | nilp
 | ptr (id off:Nat)
 | lptr (cells:List AV)
 | lst (cells:List AV) (len:Nat) (c:Cap)
 | ref (id off len:Nat) (cap:Option Nat) (sz:Nat)
 | func (f:FuncId) (first captured:List AV)
 | yield (id:Nat)
 | map (id:Nat)
 | agg (cs:List AV)
 | tuple (vs:List AV)
 | str (s:ByteArray)
 | raw (cells:List AV) (len z:Nat)
 | gref (id gid len z:Nat)
 deriving Inhabited
structure OpAnn where
 takes:List Bool:=[]
 mode:Nat:=0
structure FAnn where
 bad:Bool:=false
 ops:List (List OpAnn):=[]
 keepL:List (Nat×List Bool):=[]
 keepR:List (Nat×List Bool):=[]
inductive AObj where
 | dead
 | cells (l:List AV)
 | loop (st:LoopState) (pend:Option Code) (fn:FuncId) (tmps:List AV) (params:List Nat) (assign body:Code) (ann:FAnn)
 | map (es:List (Nat×AV×AV)) (clock:Nat)
 | iter (m since:Nat) (seen:List Nat) (stepped:Nat)
 | grow (l:List AV) (gid z:Nat)
structure St where
 T:List AV
 H:List AObj
inductive Ex where
 | normal | exit (id:Nat) | ret
inductive Tgt where
 | fn (f:FuncId)
 | yield (l:Nat)
abbrev CallFn:=Tgt→List AV→List AObj→Nat→Option (AV×List AObj)
def AV.view:AV→AV
 | .lst c n (.own _)=>.lst c n .shared
 | .lst c n (.uniq _)=>.lst c n .shared
 | .raw _ _ _=>.junk
 | .gref id _ len z=>.ref id 0 len none z
 | v=>v
def AV.dim0:AV→AV
 | .lst c n .full=>.lst c n .shared
 | v=>v
def AV.dim:AV→AV
 | .lst c n .full=>.lst c n .shared
 | .agg cs=>.agg (cs.map AV.dim0)
 | .tuple cs=>.tuple (cs.map AV.dim0)
 | v=>v
def pureD:Nat→AV→Bool
 | 0,_=>false
 | d+1,v=>match v with
   | .lst cells _ _=>cells.all (pureD d)
   | .lptr cells=>cells.all (pureD d)
   | .agg cs=>cs.all (pureD d)
   | .tuple cs=>cs.all (pureD d)
   | .func _ a b=>a.all (pureD d) && b.all (pureD d)
   | .bool _ | .int _ _ | .str _ | .nilp=>true
   | _=>false
def AV.plain:AV→Bool
 | .lst _ _ (.own _)=>false
 | .lst _ _ (.uniq _)=>false
 | .raw _ _ _=>false
 | .gref _ _ _ _=>false
 | _=>true
def AV.noUniq:AV→Bool
 | .lst _ _ (.uniq _)=>false
 | _=>true
def AV.settle:AV→AV
 | .lst c n (.uniq z)=>.lst c n (.own z)
 | v=>v
def AV.cells:AV→Option (List AV)
 | .agg cs=>some cs
 | .junk=>none
 | .tuple _=>none
 | .raw _ _ _=>none
 | v=>some [v]
def absVal:Value→AV
 | .bool b=>.bool b
 | .int k n=>.int k n
 | .pointer none=>.nilp
 | .string s=>.str s
 | .slice none 0 0=>.lst [] 0 .full
 | _=>.junk
noncomputable section
def getT (T:List AV) (t:Nat):AV :=
 @List.rec AV (fun _=>Nat→AV) (fun _=>.junk) (fun h _ ih n=>@Nat.rec (fun _=>AV) h (fun m _=>ih m) n) T t
def setT (T:List AV) (t:Nat) (v:AV):List AV :=
 @List.rec AV (fun _=>Nat→List AV) (fun _=>[]) (fun h tl ih n=>@Nat.rec (fun _=>List AV) (v::tl) (fun m _=>h::ih m) n) T t
theorem getT_eq (T:List AV):∀ t,getT T t=T.getD t .junk:=by
 induction T with
 | nil=>intro t;rfl
 | cons h tl ih=>intro t;cases t with
   | zero=>rfl
   | succ n=>exact ih n
theorem setT_eq (T:List AV) (v:AV):∀ t,setT T t v=T.set t v:=by
 induction T with
 | nil=>intro t;rfl
 | cons h tl ih=>intro t;cases t with
   | zero=>rfl
   | succ n=>exact congrArg (h::·) (ih n)
def ev (T:List AV):Operand→AV
 | .tmp t=>getT T t
 | .const v=>absVal v
 | .func f=>.func f [] []
 | .global _=>.junk
def settleAt (T:List AV) (t:Nat):AV→List AV
 | .lst c n (.uniq z)=>setT T t (.lst c n (.own z))
 | _=>T
def rd:List AV→List Bool→List Operand→List AV×List AV
 | T,_,[]=>([],T)
 | T,ts,.tmp t::rest =>
   match ts.headD false with
   | true=>let r:=rd (setT T t .junk) ts.tail rest;(getT T t::r.1,r.2)
   | false=>let r:=rd (settleAt T t (getT T t)) ts.tail rest;((getT T t).view::r.1,r.2)
 | T,ts,x::rest=>let r:=rd T ts.tail rest;(ev T x::r.1,r.2)
def zipKeep:List Bool→List AV→List AV
 | b::bs,v::vs=>(match b with | true=>v | false=>.junk)::zipKeep bs vs
 | [],vs=>vs
 | _,[]=>[]
def findKeep (id:Nat):List (Nat×List Bool)→Option (List Bool)
 | []=>none
 | (i,k)::r=>match Nat.beq i id with | true=>some k | false=>findKeep id r
def keepSt (ks:List (Nat×List Bool)) (id:Nat) (s:St):St :=
 match findKeep id ks with
 | some k=>⟨zipKeep k s.T,s.H⟩
 | none=>s
def opsOf (o:Oper):List Operand :=
 match o.op with
 | .call { callee:=.value f,args,.. }=>f::args.toList
 | .call { args,.. }=>args.toList
 | op=>op.operands.toList
def tmpsOf (xs:List Operand):List Nat:=xs.filterMap fun x=>match x with | .tmp t=>some t | _=>none
def takenIn:List Bool→List Operand→List Nat
 | _,[]=>[]
 | ts,.tmp t::rest=>match ts.headD false with
   | true=>t::takenIn ts.tail rest
   | false=>takenIn ts.tail rest
 | ts,_::rest=>takenIn ts.tail rest
def gtmp (ops:Array Oper) (o:Oper):List Nat:=match o.guard with
 | some (j,_)=>((ops[j]?).bind (·.dst)).toList
 | none=>[]
def rtmps (ops:Array Oper) (o:Oper):List Nat:=gtmp ops o++tmpsOf (opsOf o)
def disj (xs ys:List Nat):Bool:=xs.all fun x=>!(ys.contains x)
def hclass (o:Oper) (mode:Nat):Nat:=match o.op with
 | .load _ _=>if mode=0 then 1 else if mode=2 then 2 else if mode=3 then 0 else if mode=5 then 2 else 5
 | .box _ _=>if mode=0 then 6 else 0
 | .alloc _=>6
 | .makeSlice _ _ _=>if mode=0 then 2 else 0
 | .store _ _ _ | .makeMap _ _ | .mapUpdate _ _ _ _ | .lookup _ _ _ _ | .range _ _ | .entry _=>2
 | .move _ | .assign _=>if mode=0 then 0 else 2
 | .call c=>match c.callee with
   | .builtin b=>match b with
     | .append=>if mode=0 then 1 else 2
     | .len | .cap | .min | .max=>1
     | _=>2
   | .value _=>if mode=0 then 3 else if mode=3 then 0 else if mode=4 then 3 else if mode=6 then 3 else 2
   | .invoke _ _=>2
 | _=>0
def calm (o:Oper) (mode:Nat):Bool:=match o.op with
 | .move _ | .assign _=>mode == 0
 | _=>true
def hok (a b:Nat):Bool:=a == 0 || b == 0 || ((a == 1 || a == 3) && (b == 1 || b == 3)) || (a == 1 && b == 5) || (a == 5 && b == 1) || (a == 1 && b == 6)
def ldMap (o1:Oper) (m1:Nat) (o2:Oper):Bool:=match o1.op,o2.op with
 | .load _ _,.mapUpdate _ _ _ _=>m1 == 0
 | _,_=>false
def indep (ops:Array Oper) (o1:Oper) (a1:OpAnn) (o2:Oper) (a2:OpAnn):Bool :=
 disj o1.dst.toList (rtmps ops o2) && disj o2.dst.toList (rtmps ops o1) && disj o1.dst.toList o2.dst.toList &&
 disj (takenIn a1.takes (opsOf o1)) (rtmps ops o2) && disj (takenIn a2.takes (opsOf o2)) (rtmps ops o1) &&
 calm o1 a1.mode && calm o2 a2.mode && (hok (hclass o1 a1.mode) (hclass o2 a2.mode) || ldMap o1 a1.mode o2)
def maskOf (ms:List Nat) (o:Oper):Nat:=o.after.toList.foldl (fun m e=>if Region.binds .any e then m ||| (ms.getD e.on 0 ||| 1 <<< e.on) else m) 0
def masks:List Oper→List Nat→List Nat
 | [],ms=>ms
 | o::r,ms=>masks r (ms++[maskOf ms o])
def pairsOk (ops:Array Oper) (as:List OpAnn) (ms:List Nat):Bool :=
 (List.range ops.size).all fun j=>match ops[j]? with
  | none=>true
  | some oj=>(ms.getD j 0 == maskOf ms oj) && oj.after.toList.all (fun e=>!Region.binds .any e || Nat.blt e.on j) &&
    (List.range j).all fun i=>match ops[i]? with
     | none=>true
     | some oi=>(ms.getD j 0).testBit i || indep ops oi (as.getD i {}) oj (as.getD j {})
def drawOk (ops:Array Oper) (as:List OpAnn):Bool:=pairsOk ops as (masks ops.toList [])
def codeOk (A:FAnn):Code→Bool
 | .region id ops draw=>!draw || drawOk ops (A.ops.getD id [])
 | .seq a b=>codeOk A a && codeOk A b
 | .cond _ a b=>codeOk A a && codeOk A b
 | .block _ c=>codeOk A c
 | .loop c=>codeOk A c
 | .scope c=>codeOk A c
 | .rangeFunc _ _ a b=>codeOk A a && codeOk A b
 | _=>true
section
variable (P:Program)
def szOf (t:TypeId):Option Nat:=(P.info? t).map (·.size)
def isAggT (t:TypeId):Bool:=match P.underlying t with | some (.struct _) | some (.array _ _)=>true | _=>false
def zeroCells (t:TypeId):Option (List AV):=((P.info? t).bind (·.zero)).bind fun v=>match v.cells.toList.all (·.oneCell') with | true=>some (v.cells.toList.map absVal) | false=>none
def aArith (op:BinOp) (k:IntKind) (a b:Int):Option AV :=
 match op with
 | .add=>some (.int k (k.wrap (a+b)))
 | .sub=>some (.int k (k.wrap (a-b)))
 | .mul=>some (.int k (k.wrap (a*b)))
 | .quo=>if b=0 then none else some (.int k (k.wrap (a.tdiv b)))
 | .rem=>if b=0 then none else some (.int k (a.tmod b))
 | .eql=>some (.bool (a == b))
 | .neq=>some (.bool (a != b))
 | .lss=>some (.bool (decide (a<b)))
 | .leq=>some (.bool (decide (a≤b)))
 | .gtr=>some (.bool (decide (a > b)))
 | .geq=>some (.bool (decide (a≥b)))
 | .and=>some (.int k (k.wrap (BitVec.ofInt k.bits a &&& BitVec.ofInt k.bits b).toNat))
 | .or=>some (.int k (k.wrap (BitVec.ofInt k.bits a ||| BitVec.ofInt k.bits b).toNat))
 | .xor=>some (.int k (k.wrap (BitVec.ofInt k.bits a ^^^ BitVec.ofInt k.bits b).toNat))
 | .andNot=>some (.int k (k.wrap (BitVec.ofInt k.bits a &&& ~~~ (BitVec.ofInt k.bits b)).toNat))
 | _=>none
def aShift (op:BinOp) (k:IntKind) (a b:Int):Option AV :=
 if b<0 then none else
 match op with
 | .shl=>some (.int k (k.wrap (a*2 ^ (min b.toNat k.bits))))
 | .shr=>some (.int k (a.fdiv (2 ^ (min b.toNat k.bits))))
 | _=>none
def eqInts:List AV→List AV→Option Bool
 | [],[]=>some true
 | .int k a::r,.int k' b::r'=>if k=k' then (eqInts r r').map fun e=>(a == b) && e else none
 | _,_=>none
def intFields:List Field→Nat→Bool
 | [],_=>true
 | f :: fs, n => (f.offset == n) && (f.name != "_") && (match P.underlying f.type, szOf P f.type with | some (.int _), some 1 => true | _, _ => false) && intFields fs (n + 1)
def aBin (op:BinOp) (t:TypeId) (x y:AV):Option AV :=
 match x,y with
 | .int k a,.int k' b =>
   match op with
   | .shl=>aShift .shl k a b
   | .shr=>aShift .shr k a b
   | op=>if k=k' then aArith op k a b else none
 | .bool a,.bool b =>
   match P.underlying t,op with
   | some .bool,.eql=>some (.bool (a == b))
   | some .bool,.neq=>some (.bool (!(a == b)))
   | _,_=>none
 | .agg xs,.agg ys =>
   match P.underlying t with
   | some (.array len e) =>
     match P.underlying e,szOf P e with
     | some (.int _),some 1 =>
       if xs.length=len∧ys.length=len∧P.eqGuardType P.depth t=false then
        match op with
        | .eql=>(eqInts xs ys).map fun e=>.bool e
        | .neq=>(eqInts xs ys).map fun e=>.bool !e
        | _=>none
       else none
     | _,_=>none
   | some (.struct fs) =>
     if intFields P fs.toList 0=true∧P.stoodInHeld t=false∧xs.length=fs.size∧ys.length=fs.size∧P.eqGuardType P.depth t=false then
      match op with
      | .eql=>(eqInts xs ys).map fun e=>.bool e
      | .neq=>(eqInts xs ys).map fun e=>.bool !e
      | _=>none
     else none
   | _=>none
 | _,_=>none
def aUn (op:UnOp):AV→Option AV
 | .bool b=>match op with | .not=>some (.bool !b) | _=>none
 | .int k n=>match op with | .neg=>some (.int k (k.wrap (-n))) | _=>none
 | _=>none
def setCells:Nat→List AV→List AV→List AV
 | _,[],cs=>cs
 | off,v::vs,cs=>setCells (off+1) vs (cs.set off v)
def aFill (place:Nat→Option (Nat×Nat)):List AV→List (Nat×AV)→Option (List AV)
 | cs,[]=>some cs
 | cs,(i,v)::rest =>
   match place i with
   | some (off,size)=>match v.cells with
     | some vc=>if vc.length=size∧off+size≤cs.length then aFill place (setCells off vc cs) rest else none
     | none=>none
   | none=>none
def repl:Nat→List AV→List AV
 | 0,_=>[]
 | n+1,z=>z++repl n z
def aBuild (t:TypeId) (parts:List (Nat×AV)):Option AV :=
 match zeroCells P t,P.underlying t with
 | some z,some (.struct fs)=>match fs.toList.all (fun f=>(szOf P f.type).isSome) with
   | true=>(aFill (fun i=>(fs[i]?).bind fun f=>(szOf P f.type).map fun s=>(f.offset,s)) z parts).map .agg
   | false=>none
 | some z,some (.array _ e)=>(szOf P e).bind fun s=>(aFill (fun i=>some (i*s,s)) z parts).map .agg
 | _,_=>none
def aBuildCells (t:TypeId) (len:Nat) (parts:List (Nat×AV)):Option (List AV×Nat) :=
 match P.underlying t with
 | some (.slice e) =>
   match szOf P e,zeroCells P e with
   | some s,some z=>if 0<s∧z.length=s∧len*s≤16777216 then (aFill (fun i=>some (i*s,s)) (repl len z) parts).map fun cs=>(cs,s) else none
   | _,_=>none
 | _=>none
def chkIdx (i:Int) (len:Nat):Option Nat:=if 0≤i∧i<len then some i.toNat else none
def aIndexAddr (t:TypeId) (x i:AV):Option AV :=
 match P.underlying t,x,i with
 | some (.slice e),.lst cells len _,.int _ n=>(szOf P e).bind fun s=>(chkIdx n len).map fun j=>.lptr (cells.drop (j*s))
 | some (.slice e),.ref id off len _ _,.int _ n=>(szOf P e).bind fun s=>(chkIdx n len).map fun j=>.ptr id (off+j*s)
 | some (.array len e),.ptr id off,.int _ n=>(szOf P e).bind fun s=>(chkIdx n len).map fun j=>.ptr id (off+j*s)
 | some (.array len e),.lptr cells,.int _ n=>(szOf P e).bind fun s=>(chkIdx n len).map fun j=>.lptr (cells.drop (j*s))
 | _,_,_=>none
def aFieldAddr (t:TypeId) (x:AV) (f:Nat):Option AV :=
 match P.underlying t,x with
 | some (.struct fs),.ptr id off=>(fs[f]?).bind fun g=>(szOf P g.type).bind fun s=>if s=0 then none else some (.ptr id (off+g.offset))
 | some (.struct fs),.lptr cells=>(fs[f]?).bind fun g=>(szOf P g.type).bind fun s=>if s=0 then none else some (.lptr (cells.drop g.offset))
 | _,_=>none
def aPart (t:TypeId) (cs:List AV) (off:Nat):Option AV :=
 match isAggT P t with
 | true=>(szOf P t).bind fun s=>if off+s≤cs.length then some (.agg ((cs.drop off).take s)) else none
 | false=>match P.underlying t with
   | some _=>cs[off]?
   | none=>none
def aField (t:TypeId) (x:AV) (f:Nat):Option AV :=
 match P.underlying t,x with
 | some (.struct fs),.agg cs=>(fs[f]?).bind fun g=>aPart P g.type cs g.offset
 | _,_=>none
def aIndex (t:TypeId) (x i:AV):Option AV :=
 match P.underlying t,x,i with
 | some (.array len e),.agg cs,.int _ n=>(szOf P e).bind fun s=>(chkIdx n len).bind fun j=>aPart P e cs (j*s)
 | some .string,.str b,.int _ n=>if 0≤n then (b[n.toNat]?).map fun x=>.int .u8 x.toNat else none
 | _,_,_=>none
def aBound (x:Option AV) (dflt most:Nat):Option Nat :=
 match x with
 | none=>some dflt
 | some (.int _ n)=>if 0≤n∧n≤most then some n.toNat else none
 | _=>none
def aSlice (t:TypeId) (x:AV) (lo hi mx:Option AV):Option AV :=
 match P.underlying t,x with
 | some (.slice e),.lst cells len c =>
   (szOf P e).bind fun s =>
   match mx,hi with
   | none,_ =>
     (aBound hi len len).bind fun h=>(aBound lo 0 h).bind fun l =>
     some (.lst ((cells.drop (l*s)).take ((h-l)*s)) (h-l) (if c=.full∧h=len then .full else .shared))
   | some _,some _ =>
     (aBound mx len len).bind fun m=>(aBound hi m m).bind fun h=>(aBound lo 0 h).bind fun l =>
     some (.lst ((cells.drop (l*s)).take ((h-l)*s)) (h-l) (if h=m then .full else .shared))
   | some _,none=>none
 | some (.slice e),.ref id off len cap sz =>
   (szOf P e).bind fun s=>if s≠sz then none else
   match mx,hi with
   | none,_ =>
     (aBound hi len len).bind fun h=>(aBound lo 0 h).bind fun l =>
     if l<len then some (.ref id (off+l*s) (h-l) (cap.map (·-l)) sz) else some (.lst [] 0 .shared)
   | some _,some _ =>
     (aBound mx len len).bind fun m=>(aBound hi m m).bind fun h=>(aBound lo 0 h).bind fun l =>
     if m=l then (if l=0 then some (.ref id off (h-l) (some (m-l)) sz) else none) else some (.ref id (off+l*s) (h-l) (some (m-l)) sz)
   | some _,none=>none
 | some (.array n e),.ptr id off =>
   (szOf P e).bind fun s =>
   match mx with
   | none=>(aBound hi n n).bind fun h=>(aBound lo 0 h).bind fun l =>
     if n=l then none else some (.ref id (off+l*s) (h-l) (some (n-l)) s)
   | some _=>none
 | _,_=>none
def rowOf (H:List AObj):AV→Option (List AV)
 | .lst cells _ _=>some cells
 | .ref id off len _ sz=>match H[id]? with
   | some (.cells l)=>if off+len*sz≤l.length then some (((l.drop off).take (len*sz)).map AV.view) else none
   | _=>none
 | _=>none
def lenOf:AV→Option Nat
 | .lst _ len _=>some len
 | .ref _ _ len _ _=>some len
 | _=>none
def roomOk (n bytes:Nat):Bool:=Nat.ble (n*bytes) 140737488355328 && Nat.ble 1 bytes
def appended (H:List AObj) (x:AV):Option (Nat×List AV) :=
 match lenOf x,rowOf H x with
 | some m,some row=>some (m,row)
 | _,_=>none
def aAppend (H:List AObj) (t xt:TypeId) (s x:AV):Option AV :=
 match P.underlying t with
 | some (.slice e) =>
   match szOf P e,(P.info? e).map (·.bytes),(zeroCells P e) with
   | some sz,some bytes,some z =>
     match Nat.beq t xt with
     | true =>
       match appended H x with
       | some (m,new) =>
         if new.length=m*sz∧0<sz∧z.length=sz∧roomOk m bytes then
          match s with
          | .lst cells len c =>
            match c with
            | .shared=>if m=0 then some s else none
            | .full=>if m=0 then (if len=0 then some (.lst [] 0 (.uniq sz)) else some s)
              else if roomOk (len+m) bytes∧cells.length=len*sz then some (.lst (cells++new) (len+m) (.uniq sz)) else none
            | .own z=>if z=sz∧roomOk (len+m) bytes then some (.lst (cells++new) (len+m) (.own z)) else none
            | .uniq z=>if z=sz∧roomOk (len+m) bytes then some (.lst (cells++new) (len+m) (.uniq z)) else none
          | .ref id off len (some cap) sz' =>
            if cap=len∧sz'=sz∧0<m then (rowOf H (.ref id off len (some cap) sz')).bind fun old=>if roomOk (len+m) bytes then some (.lst (old++new) (len+m) (.uniq sz)) else none
            else none
          | _=>none
         else none
       | none=>none
     | false =>
       match P.underlying xt,x,s with
       | some (.int _),.int .i64 n,.lst [] 0 .full =>
         if 0<n∧roomOk n.toNat bytes∧0<sz∧z.length=sz then some (.lst (repl n.toNat z) n.toNat (.uniq sz)) else none
       | _,_,_=>none
   | _,_,_=>none
 | _=>none
def ldPart (t:TypeId) (cs:List AV) (off:Nat):Option AV :=
 match isAggT P t with
 | true=>(szOf P t).bind fun s=>if off+s≤cs.length then some (.agg (((cs.drop off).take s).map AV.view)) else none
 | false=>match P.underlying t with
   | some _=>(cs[off]?).map AV.view
   | none=>none
def aLoad (H:List AObj) (t:TypeId) (a:AV):Option AV :=
 match a with
 | .ptr id off=>match H[id]? with
   | some (.cells l)=>ldPart P t l off
   | some (.grow l _ _)=>ldPart P t l off
   | _=>none
 | .lptr cells=>ldPart P t cells 0
 | _=>none
def mutObj (lo:Nat) (H:List AObj) (id:Nat) (f:List AV→Option (List AV)):Option (List AObj) :=
 if lo≤id then match H[id]? with
  | some (.cells l)=>(f l).map fun l'=>H.set id (.cells l')
  | _=>none
 else none
def mutObjG (lo:Nat) (H:List AObj) (id:Nat) (f:List AV→Option (List AV)):Option (List AObj) :=
 if lo≤id then match H[id]? with
  | some (.cells l)=>(f l).map fun l'=>H.set id (.cells l')
  | some (.grow l g z)=>(f l).map fun l'=>H.set id (.grow l' g z)
  | _=>none
 else none
def aStore (lo:Nat) (H:List AObj) (t:TypeId) (a v:AV):Option (List AObj) :=
 match a,szOf P t with
 | .ptr id off,some s=>match v.cells with
   | some vc=>mutObjG lo H id fun l=>if vc.length=s∧off+s≤l.length then some (setCells off (vc.map AV.settle) l) else none
   | none=>none
 | _,_=>none
def zeroRun (t:TypeId) (n:Nat):Option (List AV×Nat) :=
 match P.underlying t with
 | some (.slice e)=>match szOf P e,zeroCells P e,(P.info? e).map (·.bytes) with
   | some s,some z,some bytes=>if z.length=s∧0<s∧roomOk n bytes then some (repl n z,s) else none
   | _,_,_=>none
 | _=>none
def minAcc:List AV→Int→Option Int
 | [],a=>some a
 | .int _ b::r,a=>minAcc r (if b<a then b else a)
 | _::_,_=>none
def maxAcc:List AV→Int→Option Int
 | [],a=>some a
 | .int _ b::r,a=>maxAcc r (if b > a then b else a)
 | _::_,_=>none
def minInt:List AV→Option AV
 | .int k a::r=>(minAcc r a).map (.int k)
 | _=>none
def maxInt:List AV→Option AV
 | .int k a::r=>(maxAcc r a).map (.int k)
 | _=>none
def frzCap (cap:Option Nat) (n:Nat):Cap:=match cap with | some c=>if c=n then .full else .shared | none=>.shared
def mapO (f:AV→Option AV):List AV→Option (List AV)
 | []=>some []
 | x::xs=>match f x with
   | some y=>(mapO f xs).map (y::·)
   | none=>none
def mapM (f:AV→Option AV):List (Nat×AV×AV)→Option (List (Nat×AV×AV))
 | []=>some []
 | (i,k,v)::xs=>match f k,f v with
   | some k',some v'=>(mapM f xs).map ((i,k',v')::·)
   | _,_=>none
def frz (H:List AObj) (lo id0 n:Nat):Nat→AV→Option AV
 | 0,_=>none
 | d+1,av =>
   match av with
   | .lst cells len c=>(mapO (frz H lo id0 n d) cells).map fun cs=>.lst cs len c
   | .lptr cells=>(mapO (frz H lo id0 n d) cells).map .lptr
   | .agg cs=>(mapO (frz H lo id0 n d) cs).map .agg
   | .tuple cs=>(mapO (frz H lo id0 n d) cs).map .tuple
   | .func f a b=>match mapO (frz H lo id0 n d) a,mapO (frz H lo id0 n d) b with
     | some a,some b=>some (.func f a b)
     | _,_=>none
   | .ptr id off=>if id<lo then some (.ptr id off) else if id=id0 then some (.ptr n off) else
     match H[id]? with
     | some (.cells l)=>(mapO (frz H lo id0 n d) ((l.drop off).map AV.view)).map .lptr
     | _=>none
   | .ref id off len cap sz=>if id<lo then some (.ref id off len cap sz) else if id=id0 then some (.ref n off len cap sz) else
     match rowOf H (.ref id off len cap sz) with
     | some row=>(mapO (frz H lo id0 n d) row).map fun cs=>.lst cs len (frzCap cap len)
     | none=>none
   | .yield id=>if id<lo then some (.yield id) else none
   | .map id=>if id<lo then some (.map id) else if id=id0 then some (.map n) else none
   | .raw _ _ _=>none
   | .gref _ _ _ _=>none
   | v=>some v
def zipParts (parts:List (Nat×Operand)) (vs:List AV):List (Nat×AV):=(parts.map (·.1)).zip vs
def optAt (vs:List AV) (i:Nat):Option Operand→Option AV
 | none=>none
 | some _=>vs[i]?
def opPick:List AV→Option AV
 | [.bool c,a,b]=>some (match c with | true=>a | false=>b)
 | _=>none
def opNil:List AV→Option AV
 | [.ptr id off]=>some (.ptr id off)
 | [.lptr cells]=>some (.lptr cells)
 | _=>none
def op2of (f:AV→AV→Option AV):List AV→Option AV
 | [x,y]=>f x y
 | _=>none
def op1of (f:AV→Option AV):List AV→Option AV
 | [x]=>f x
 | _=>none
def aConv (src dst:TypeId):AV→Option AV
 | .int _ n=>match P.underlying src,P.underlying dst with | some _,some (.int k)=>some (.int k (k.wrap n)) | _,_=>none
 | _=>none
def opMakeFunc (fn:Fn) (n m:Nat) (vs:List AV):Option AV :=
 match fn with
 | .func f=>if vs.length=n+m then some (.func f (vs.take n) (vs.drop n)) else none
 | _=>none
def opSlice (t:TypeId) (l h m:Option Operand):List AV→Option AV
 | x::vs =>
   let i1:=match l with | some _=>1 | none=>0
   let i2:=match h with | some _=>i1+1 | none=>i1
   match x,l,h,m with
   | .lst cells len (.uniq z),none,h,none =>
     match P.underlying t with
     | some (.slice e)=>(szOf P e).bind fun _=>(aBound (optAt vs 0 h) len len).map fun n=>.lst (cells.take (n*z)) n (.uniq z)
     | _=>none
   | .lst cells len (.own z),some lo,none,none =>
     match P.underlying t with
     | some (.slice e)=>(szOf P e).bind fun s=>if s=z then (aBound (optAt vs 0 (some lo)) 0 len).map fun l=>.lst (cells.drop (l*z)) (len-l) (.own z) else none
     | _=>none
   | .gref id gid len z,none,h,none =>
     match P.underlying t with
     | some (.slice e)=>(szOf P e).bind fun _=>(aBound (optAt vs 0 h) len len).map fun n=>.gref id gid n z
     | _=>none
   | x,l,h,m=>aSlice P t x.view (optAt vs 0 l) (optAt vs i1 h) (optAt vs i2 m)
 | []=>none
def aExtract (i:Nat):AV→Option AV
 | .tuple ws=>ws[i]?
 | _=>none
def isNilSlice:Operand→Bool
 | .const (.slice none 0 0)=>true
 | _=>false
def aEqNil (op:BinOp) (t:TypeId) (x:AV):Option AV :=
 match P.underlying t with
 | some (.slice _) =>
   match x with
   | .lst _ (_+1) _ | .ref ..=>match op with
     | .eql=>some (.bool false)
     | .neq=>some (.bool true)
     | _=>none
   | _=>none
 | _=>none
def op0 (o:Oper) (vs:List AV):Option AV :=
 match o.op with
 | .pick _ _ _=>opPick vs
 | .build t parts=>aBuild P t (zipParts parts.toList vs)
 | .buildSlice t len parts=>(aBuildCells P t len (zipParts parts.toList vs)).map fun r=>.lst r.1 len (.uniq r.2)
 | .nilCheck _=>opNil vs
 | .binOp op t _ y _=>match isNilSlice y with
   | true=>match vs with
     | [x,_]=>aEqNil P op t x
     | _=>none
   | false=>op2of (aBin P op t) vs
 | .unOp op _ _=>op1of (aUn op) vs
 | .convert src dst _=>op1of (aConv P src dst) vs
 | .makeFunc fn first captured=>opMakeFunc fn first.size captured.size vs
 | .slice t _ l h m=>opSlice P t l h m vs
 | .fieldAddr t _ f=>op1of (fun x=>aFieldAddr P t x f) vs
 | .field t _ f=>(op1of (fun x=>aField P t x f) vs).map AV.view
 | .indexAddr t _ _=>op2of (aIndexAddr P t) vs
 | .index t _ _=>(op2of (aIndex P t) vs).map AV.view
 | .extract _ i=>(op1of (aExtract i) vs).map AV.view
 | _=>none
def isLinear (o:Oper):Bool :=
 match o.op with
 | .move _ | .assign _ | .store _ _ _ | .box _ _ | .call _ | .slice _ _ _ _ _=>true
 | _=>false
def freshOf (lo:Nat):AV→Option Nat
 | .ptr id _=>if lo≤id then some id else none
 | .ref id _ _ _ _=>if lo≤id then some id else none
 | .map id=>if lo≤id then some id else none
 | _=>none
def freshIn (lo:Nat):AV→Option Nat
 | .tuple vs=>vs.findSome? (freshOf lo)
 | v=>freshOf lo v
def shzR (H:List AObj):AV→AV
 | .ref id off len cap sz=>match rowOf H (.ref id off len cap sz) with
   | some row=>.lst row len .shared
   | none=>.ref id off len cap sz
 | v=>v
def shz0 (H:List AObj):AV→AV
 | .ptr id off=>match H[id]? with
   | some (.cells l)=>.lptr (((l.drop off).map AV.view).map (shzR H))
   | _=>.ptr id off
 | .ref id off len cap sz=>shzR H (.ref id off len cap sz)
 | v=>v
def shz (H:List AObj):AV→AV
 | .ptr id off=>shz0 H (.ptr id off)
 | .ref id off len cap sz=>shz0 H (.ref id off len cap sz)
 | .func f a b=>.func f (a.map (shz0 H)) (b.map (shz0 H))
 | v=>v
def scal0:AV→Bool
 | .bool _ | .int _ _ | .str _=>true
 | _=>false
def scal:AV→Bool
 | .bool _ | .int _ _ | .str _=>true
 | .tuple vs=>vs.all scal0
 | .lst cells _ (.uniq _)=>cells.all scal0
 | _=>false
def callTo (C:CallFn) (lo mode:Nat) (tgt:Tgt) (args:List AV) (H:List AObj):Option (AV×List AObj) :=
 match mode with
 | 0=>(C tgt args H H.length).bind fun r=>(frz r.2 H.length r.2.length 0 8 r.1).map fun v=>(v,H)
 | 1=>C tgt args H lo
 | 3=>match tgt,args.all (pureD 8) with
   | .fn _,true=>(C tgt (args.map AV.dim) [] 0).bind fun r=>(frz r.2 0 r.2.length 0 8 r.1).map fun v=>(v.dim,H)
   | _,_=>none
 | 6=>match tgt,(args.map (shz H)).all (pureD 8) with
   | .fn _,true=>(C tgt ((args.map (shz H)).map AV.dim) [] 0).bind fun r=>(frz r.2 0 r.2.length 0 8 r.1).bind fun v=>match scal v with
     | true=>some (v.dim,H)
     | false=>none
   | _,_=>none
 | 7=>match tgt,args with
   | .fn _,[.ptr id 0]=>if lo≤id then match H[id]? with
     | some (.cells l)=>match pureD 8 (.lptr (l.map AV.view)) with
       | true=>(C tgt [(AV.lptr (l.map AV.view)).dim] [] 0).bind fun r=>(frz r.2 0 r.2.length 0 8 r.1).map fun v=>(v.dim,H.set id .dead)
       | false=>none
     | _=>none else none
   | _,_=>none
 | 4=>(C tgt (args.map AV.dim) H H.length).bind fun r=>(frz r.2 H.length r.2.length 0 8 r.1).map fun v=>(v.dim,H)
 | _=>(C tgt args H H.length).bind fun r =>
   match freshIn H.length r.1 with
   | none=>(frz r.2 H.length r.2.length 0 8 r.1).map fun v=>(v,H)
   | some id0 =>
     match r.2[id0]? with
     | some (.cells l)=>if H.length≤id0 then
       match mapO (frz r.2 H.length id0 H.length 8) l,frz r.2 H.length id0 H.length 8 r.1 with
       | some l',some v=>some (v,H++[.cells l'])
       | _,_=>none
       else none
     | some (.map es clock)=>if H.length≤id0 then
       match mapM (frz r.2 H.length id0 H.length 8) es,frz r.2 H.length id0 H.length 8 r.1 with
       | some es',some v=>some (v,H++[.map es' clock])
       | _,_=>none
       else none
     | _=>none
def doCall (C:CallFn) (lo mode:Nat) (f:AV) (args:List AV) (H:List AObj):Option (AV×List AObj) :=
 match f with
 | .func k first cap=>callTo C lo mode (.fn k) (first++args++cap) H
 | .yield l=>callTo C lo mode (.yield l) args H
 | _=>none
abbrev Out:=Option (AV×List AObj)
def opMove (lo mode:Nat) (t:TypeId) (x:Operand) (H:List AObj):List AV→Out
 | [v] =>
   match mode with
   | 0=>match isNilSlice x,P.underlying t with
     | true,some (.slice e)=>(szOf P e).map fun z=>(.lst [] 0 (.uniq z),H)
     | _,_=>some (v,H)
   | 1=>match v with
     | .lst cells len (.uniq z)=>if len=0 then some (v,H) else some (.ref H.length 0 len none z,H++[.cells cells])
     | .lst [] 0 .full=>some (v,H)
     | .ref ..=>some (v,H)
     | _=>none
   | 4=>match v with
     | .gref id gid n z=>if lo≤id then match H[id]? with
       | some (.grow l g z')=>if g=gid∧z'=z∧n*z≤l.length∧(l.take (n*z)).all AV.plain=true then some (.lst (l.take (n*z)) n (.uniq z),H.set id .dead) else none
       | _=>none else none
     | _=>some (v,H)
   | _=>match v with
     | .ref id _ _ cap _=>if lo≤id then (rowOf H v).bind fun row=>(lenOf v).map fun n =>
       (.lst row n (frzCap cap n),H.set id .dead) else none
     | .gref id gid n z=>if lo≤id then match H[id]? with
       | some (.grow l g z')=>if l.length=n*z then some (.lst (l.map AV.view) n .shared,H.set id .dead) else none
       | _=>none else none
     | _=>some (v.view,H)
 | _=>none
def opLoad (lo mode:Nat) (t:TypeId) (H:List AObj):List AV→Out
 | [a] =>
   match mode with
   | 0=>(aLoad P H t a).map (·,H)
   | 3=>match a with
     | .lptr cells=>(ldPart P t cells 0).map (·,H)
     | _=>none
   | 5=>match P.underlying t,a with
     | some (.slice _),.ptr id off=>match H[id]? with
       | some (.cells l)=>match l[off]? with
         | some (.gref i g n z)=>some (.gref i g n z,H)
         | some (.lst [] 0 .full)=>some (.lst [] 0 .full,H)
         | _=>none
       | _=>none
     | _,_=>none
   | _=>match P.underlying t,a with
     | some (.slice _),.ptr id off=>if lo≤id then match H[id]? with
       | some (.cells l)=>match l[off]? with
         | some (.lst c n (.own z))=>some (.lst c n (.own z),H.set id (.cells (l.set off (.lst c n .shared))))
         | some (.raw c n z)=>if mode=2 then (if n=0 then none else some (.ref H.length 0 n none z,H.set id (.cells (l.set off (.ref H.length 0 n none z)))++[.cells c]))
           else some (.lst c n (.uniq z),H.set id (.cells (l.set off .junk)))
         | some v=>some (v.view,H)
         | _=>none
       | some (.grow l g z')=>match l[off]? with
         | some (.lst c n (.own z))=>some (.lst c n (.own z),H.set id (.grow (l.set off (.lst c n .shared)) g z'))
         | some (.lst c n .full)=>some (.lst c n .full,H)
         | _=>none
       | _=>none else none
     | _,_=>none
 | _=>none
def aStoreR (lo:Nat) (H:List AObj) (t:TypeId) (a v:AV):Option (List AObj) :=
 match a,v,szOf P t with
 | .ptr id off,.lst c n (.uniq z),some 1=>if c.all scal0=true∧n≠0 then mutObj lo H id fun l=>if off<l.length then some (l.set off (.raw c n z)) else none else none
 | _,_,_=>none
def opStore (lo mode:Nat) (t:TypeId) (H:List AObj):List AV→Out
 | [a,v]=>match mode with
   | 0=>(aStore P lo H t a v).map fun H'=>(.junk,H')
   | _=>(aStoreR P lo H t a v).map fun H'=>(.junk,H')
 | _=>none
def opBox (mode:Nat) (H:List AObj):List AV→Out
 | [v]=>match mode with
   | 0=>v.cells.map fun vc=>(.ptr H.length 0,H++[.cells (vc.map AV.settle)])
   | _=>match v.cells with
     | some vc=>match vc.all AV.plain with
       | true=>some (.lptr vc,H)
       | false=>none
     | none=>none
 | _=>none
def opAlloc (mode:Nat) (t:TypeId) (H:List AObj):Out :=
 match mode with
 | 0=>(zeroCells P t).map fun z=>(.ptr H.length 0,H++[.cells z])
 | _=>match zeroCells P t,P.underlying t with
   | some [.lst [] 0 .full],some (.slice e)=>(szOf P e).map fun s=>(.ptr H.length 0,H++[.cells [.lst [] 0 (.own s)]])
   | _,_=>none
def opMakeSlice (mode:Nat) (t:TypeId) (H:List AObj):List AV→Out
 | [.int _ n,.int _ c] =>
   if 0≤n∧n≤c then
    match mode with
    | 0=>(zeroRun P t c.toNat).map fun r=>(.ref H.length 0 n.toNat (some c.toNat) r.2,H++[.cells r.1])
    | _=>if n=c∧0≤n then (zeroRun P t c.toNat).map fun r=>(.lst r.1 n.toNat (.uniq r.2),H) else none
   else none
 | _=>none
def keyOk (t:TypeId):Bool:=match P.underlying t with
 | some (.int _)=>true
 | some (.struct fs)=>intFields P fs.toList 0 && !P.stoodInHeld t
 | _=>false
def eqKey:AV→AV→Option Bool
 | .int k a,.int k' b=>if k=k' then some (a == b) else none
 | .agg xs,.agg ys=>eqInts xs ys
 | _,_=>none
def isKey (t:TypeId) (k:AV):Bool:=match P.underlying t,k with
 | some (.int q),.int q' _=>q == q'
 | some (.struct fs),.agg cs=>cs.length == fs.size
 | _,_=>false
def findK (k:AV):List (Nat×AV×AV)→Nat→Option (Option Nat)
 | [],_=>some none
 | (_,k',_)::r,i=>match eqKey k k' with
   | some true=>some (some i)
   | some false=>findK k r (i+1)
   | none=>none
def mapTy (t:TypeId):Option (TypeId×TypeId):=match P.underlying t with
 | some (.map k e)=>match keyOk P k with | true=>some (k,e) | false=>none
 | _=>none
def zeroAV (t:TypeId):Option AV:=((P.info? t).bind (·.zero)).bind fun v=>match v with
 | .agg cs=>match cs.toList.all (·.oneCell') with | true=>some (.agg (cs.toList.map absVal)) | false=>none
 | v=>some (absVal v)
def opMakeMap (t:TypeId) (r:Option Operand) (H:List AObj):Out :=
 match r,P.underlying t with
 | none,some (.map _ _)=>some (.map H.length,H++[.map [] 0])
 | _,_=>none
def opMapUpdate (lo:Nat) (t:TypeId) (H:List AObj):List AV→Out
 | [.map id,k,v]=>match mapTy P t with
   | some (kt,_)=>match isKey P kt k with
     | true=>if lo≤id then match H[id]? with
       | some (.map es clock)=>match findK k es 0 with
         | some (some i)=>some (.junk,H.set id (.map (es.modify i fun e=>(e.1,k,v)) clock))
         | some none=>some (.junk,H.set id (.map (es++[(clock,k,v)]) (clock+1)))
         | none=>none
       | _=>none else none
     | false=>none
   | none=>none
 | _=>none
def opLookup (t:TypeId) (ok:Bool) (H:List AObj):List AV→Out
 | [.map id,k]=>match mapTy P t with
   | some (kt,et)=>match isKey P kt k,H[id]? with
     | true,some (.map es _)=>match findK k es 0 with
       | some r =>
         (match r.bind fun i=>es[i]? with | some e=>some e.2.2 | none=>zeroAV P et).map fun v =>
          (if ok then .tuple [v,.bool r.isSome] else v,H)
       | none=>none
     | _,_=>none
   | none=>none
 | _=>none
def opDelete (lo:Nat) (ts:Array TypeId) (H:List AObj):List AV→Out
 | [.map id,k]=>match (ts[0]?).bind (mapTy P) with
   | some (kt,_)=>match isKey P kt k with
     | true=>if lo≤id then match H[id]? with
       | some (.map es clock)=>match findK k es 0 with
         | some (some i)=>some (.tuple [],H.set id (.map (es.eraseIdx i) clock))
         | some none=>some (.tuple [],H)
         | none=>none
       | _=>none else none
     | false=>none
   | none=>none
 | _=>none
def opRange (t:TypeId) (H:List AObj):List AV→Out
 | [.map id]=>match P.underlying t,H[id]? with
   | some (.map _ _),some (.map _ clock)=>some (.ptr H.length 0,H++[.iter id clock [] clock])
   | _,_=>none
 | _=>none
def opEntry (H:List AObj):List AV→Out
 | [.ptr r 0]=>match H[r]? with
   | some (.iter m _ seen stepped)=>match seen.getLast?,H[m]? with
     | some stamp,some (.map es clock)=>if clock=stepped then match es.find? (fun e=>e.1 == stamp) with
       | some e=>some (.tuple [e.2.1,e.2.2],H)
       | none=>none else none
     | _,_=>none
   | _=>none
 | _=>none
def isSliceT (t:Option TypeId):Bool:=match t.bind P.underlying with | some (.slice _)=>true | _=>false
def opLen (ts:Array TypeId) (H:List AObj):List AV→Out
 | [x]=>match x with
   | .lst _ n _=>match isSliceT P ts[0]? with | true=>some (.int .i64 n,H) | false=>none
   | .ref _ _ n _ _=>match isSliceT P ts[0]? with | true=>some (.int .i64 n,H) | false=>none
   | .map id=>match (ts[0]?).bind P.underlying,H[id]? with | some (.map _ _),some (.map es _)=>some (.int .i64 es.length,H) | _,_=>none
   | _=>match (ts[0]?).bind P.underlying with | some (.array n _)=>some (.int .i64 n,H) | _=>none
 | _=>none
def opCap (ts:Array TypeId) (H:List AObj):List AV→Out
 | [.lst _ n .full]=>match isSliceT P ts[0]? with | true=>some (.int .i64 n,H) | false=>none
 | [.ref _ _ _ (some n) _]=>match isSliceT P ts[0]? with | true=>some (.int .i64 n,H) | false=>none
 | _=>none
def opCopy (lo:Nat) (ts:Array TypeId) (H:List AObj):List AV→Out
 | [.ref id off len _ sz,x]=>match (ts[0]?).bind P.underlying with
   | some (.slice e)=>match szOf P e,lenOf x,rowOf H x with
     | some s,some m,some row=>if s=sz∧row.length=m*sz then
       (mutObj lo H id fun l=>if off+len*sz≤l.length then some (setCells off (row.take (min m len*sz)) l) else none).map fun H'=>(.int .i64 (min m len:Nat),H') else none
     | _,_,_=>none
   | _=>none
 | _=>none
def opClear (lo:Nat) (ts:Array TypeId) (H:List AObj):List AV→Out
 | [.ref id off len _ sz]=>match (ts[0]?).bind P.underlying with
   | some (.slice e)=>match szOf P e,zeroCells P e with
     | some s,some z=>if s=sz∧z.length=s∧0<s then
       (mutObjG lo H id fun l=>if off+len*sz≤l.length then some (setCells off (repl len z) l) else none).map fun H'=>(.tuple [],H') else none
     | _,_=>none
   | _=>none
 | [.lst [] 0 _]=>match isSliceT P ts[0]? with | true=>some (.tuple [],H) | false=>none
 | _=>none
def opAppend (ts:Array TypeId) (H:List AObj):List AV→Out
 | [s,x]=>match ts.toList with
   | [t,xt]=>(aAppend P H t xt s x).map (·,H)
   | _=>none
 | _=>none
def opAppendO0 (lo:Nat) (ts:Array TypeId) (H:List AObj):List AV→Out
 | [s,x]=>match ts.toList with
   | [t,xt]=>match s with
     | .lst _ _ _=>match aAppend P H t xt s x with
       | some (.lst cells n (.uniq z))=>if n=0 then none else some (.gref H.length (H.length+1) n z,H++[.grow cells (H.length+1) z,.dead])
       | _=>none
     | .gref id gid len z=>if lo≤id then match P.underlying t,H[id]? with
       | some (.slice e),some (.grow l g z')=>match szOf P e,(P.info? e).map (·.bytes),zeroCells P e,appended H x with
         | some sz,some bytes,some zs,some (m,new) =>
           if t=xt∧g=gid∧z'=z∧z=sz∧l.length=len*z∧new.length=m*sz∧0<sz∧0<m∧zs.length=sz∧roomOk m bytes=true∧roomOk (len+m) bytes=true then
            some (.gref H.length (H.length+1) (len+m) z,H.set id .dead++[.grow (l++new) (H.length+1) z,.dead])
           else none
         | _,_,_,_=>none
       | _,_=>none else none
     | _=>none
   | _=>none
 | _=>none
def shrinkO (lo:Nat) (H:List AObj):List AV→List AObj
 | .gref id _ len z::_=>match H[id]? with
   | some (.grow l g z')=>match Nat.blt (len*z) l.length && Nat.ble lo id with
     | true=>H.set id (.grow (l.take (len*z)) g z')
     | false=>H
   | _=>H
 | _=>H
def opAppendO (lo:Nat) (ts:Array TypeId) (H:List AObj) (vs:List AV):Out:=opAppendO0 P lo ts (shrinkO lo H vs) vs
def opBuiltin (lo:Nat) (b:Builtin) (ts:Array TypeId) (H:List AObj) (vs:List AV):Out :=
 match b with
 | .append=>opAppend P ts H vs
 | .len=>opLen P ts H vs
 | .cap=>opCap P ts H vs
 | .copy=>opCopy P lo ts H vs
 | .clear=>opClear P lo ts H vs
 | .delete=>opDelete P lo ts H vs
 | .min=>(minInt vs).map (·,H)
 | .max=>(maxInt vs).map (·,H)
 | _=>none
def opCall (C:CallFn) (lo mode:Nat) (H:List AObj):List AV→Out
 | f::args=>doCall C lo mode f args H
 | []=>none
def opAll (C:CallFn) (lo:Nat) (o:Oper) (mode:Nat) (vs:List AV) (H:List AObj):Out :=
 match o.op with
 | .move x=>opMove P lo mode o.type x H vs
 | .assign x=>opMove P lo mode o.type x H vs
 | .load t _=>opLoad P lo mode t H vs
 | .store t _ _=>opStore P lo mode t H vs
 | .box _ _=>opBox mode H vs
 | .alloc t=>opAlloc P mode t H
 | .buildSlice t len parts=>match mode with
   | 0=>(op0 P o vs).map (·,H)
   | _=>(aBuildCells P t len (zipParts parts.toList vs)).map fun r=>(.lst r.1 len .full,H)
 | .makeSlice t _ _=>opMakeSlice P mode t H vs
 | .makeMap t r=>opMakeMap P t r H
 | .mapUpdate t _ _ _=>opMapUpdate P lo t H vs
 | .lookup t _ _ ok=>opLookup P t ok H vs
 | .range t _=>opRange P t H vs
 | .entry _=>opEntry H vs
 | .call c=>match c.callee with
   | .builtin b=>match b with
     | .append=>match mode with
       | 0=>opBuiltin P lo b c.argTypes H vs
       | _=>opAppendO P lo c.argTypes H vs
     | _=>opBuiltin P lo b c.argTypes H vs
   | .value _=>opCall C lo mode H vs
   | .invoke _ _=>none
 | _=>(op0 P o vs).map (·,H)
def put (T:List AV):Option Tmp→AV→List AV
 | some d,v=>setT T d v
 | none,_=>T
def inPlace (o:Oper) (mode:Nat) (T:List AV) (v:AV):List AV :=
 match mode with
 | 0=>T
 | 4=>T
 | _=>match o.op with
   | .move (.tmp t) | .assign (.tmp t)=>setT T t v.view
   | _=>T
def execOp (C:CallFn) (lo:Nat) (o:Oper) (an:OpAnn) (s:St):Option St :=
 let r:=rd s.T an.takes (opsOf o)
 let vs:=match isLinear o with | true=>r.1 | false=>r.1.map AV.view
 (opAll P C lo o an.mode vs s.H).map fun x=>⟨put (inPlace o an.mode r.2 x.1) o.dst x.1,x.2⟩
def wantedA (ops:Array Oper) (o:Oper) (T:List AV):Option Bool :=
 match o.guard with
 | none=>some true
 | some (j,want)=>match (ops[j]?).bind (·.dst) with
   | some d=>match getT T d with
     | .bool b=>some (b == want)
     | .tuple []=>some false
     | _=>none
   | none=>none
def execOps (C:CallFn) (lo:Nat) (ops:Array Oper):List Oper→List OpAnn→St→Option St
 | [],_,s=>some s
 | o::rest,as,s =>
   match wantedA ops o s.T with
   | some true=>(execOp P C lo o (as.headD {}) s).bind (execOps C lo ops rest as.tail)
   | some false=>execOps C lo ops rest as.tail ⟨put s.T o.dst (.tuple []),s.H⟩
   | none=>none
def loopN (f:St→Option (Ex×St)):Nat→St→Option (Ex×St)
 | 0,_=>none
 | n+1,s=>match f s with
   | some (.normal,s')=>loopN f n s'
   | r=>r
def inLoop (H:List AObj):Option Nat→Bool
 | none=>true
 | some l=>match H[l]? with
   | some (.loop ..)=>true
   | _=>false
def exec (A:FAnn) (C:CallFn) (fn:FuncId) (lo d:Nat) (rl:Option Nat):Code→Nat→St→Option (Ex×St)
 | .skip,_,s=>some (.normal,s)
 | .region id ops _,_,s=>(execOps P C lo ops ops.toList (A.ops.getD id []) (keepSt A.keepR id s)).map fun s'=>(.normal,s')
 | .seq a b,bid,s=>match exec A C fn lo d rl a bid s with
   | some (.normal,s')=>exec A C fn lo d rl b bid s'
   | r=>r
 | .cond c a b,bid,s=>match ev s.T c with
   | .bool true=>exec A C fn lo d rl a bid s
   | .bool false=>exec A C fn lo d rl b bid s
   | _=>none
 | .block id body,_,s=>match exec A C fn lo d rl body id s with
   | some (.exit id',s')=>if id'=id then some (.normal,s') else some (.exit id',s')
   | r=>r
 | .loop body,bid,s=>loopN (fun s'=>exec A C fn lo d rl body bid (keepSt A.keepL bid s')) d s
 | .exit id,_,s=>some (.exit id,s)
 | .ret,_,s=>some (.ret,s)
 | .scope body,bid,s=>exec A C fn lo d rl body bid s
 | .label _,_,s=>some (.normal,s)
 | .rangeFunc f params assign body,_,s =>
   match inLoop s.H rl,ev s.T f with
   | true,.func k first cap =>
     match C (.fn k) (first++[.yield s.H.length]++cap) (s.H++[.loop .ready none fn (s.T.map AV.view) params.toList assign body A]) lo with
     | some (_,H')=>match H'[s.H.length]? with
       | some (.loop st pend _ _ _ _ _ _) =>
         if st=.busy then none else
         match pend with
         | none=>some (.normal,⟨s.T.map AV.settle,H'.set s.H.length .dead⟩)
         | some .ret=>some (.ret,⟨s.T.map AV.settle,H'.set s.H.length .dead⟩)
         | some (.exit id)=>some (.exit id,⟨s.T.map AV.settle,H'.set s.H.length .dead⟩)
         | _=>none
       | _=>none
     | none=>none
   | _,_=>none
 | _,_,_=>none
def readResults (H:List AObj) (T:List AV):List ResultVar→Option (List AV)
 | []=>some []
 | .tmp t::r=>(readResults H T r).map (getT T t::·)
 | .cell a t::r=>match aLoad P H t (getT T a),readResults H T r with
   | some v,some vs=>some (v::vs)
   | _,_=>none
def packResults:List AV→AV
 | [v]=>v
 | vs=>.tuple (vs.map AV.view)
def setParams:List Nat→List AV→List AV→Option (List AV)
 | [],[],T=>some T
 | p::ps,v::vs,T=>setParams ps vs (setT T p v)
 | _,_,_=>none
def callF (A:FuncId→FAnn) (tab:CallFn):Nat→CallFn
 | 0,_,_,_,_=>none
 | d+1,.fn k,args,H,lo =>
   match tab (.fn k) args H lo with
   | some r=>some r
   | none =>
   match (A k).bad with
   | true=>none
   | false =>
   match P.funcs[k]? with
   | some f=>match f.body with
     | some c =>
       match exec P (A k) (callF A tab d) k lo d none c 0 ⟨args++List.replicate (f.ntmps-args.length) .junk,H⟩ with
       | some (.normal,s) | some (.ret,s)=>(readResults P s.H s.T f.results.toList).map fun vs=>(packResults vs,s.H)
       | _=>none
     | none=>none
   | none=>none
 | d+1,.yield l,args,H,lo =>
   if l<lo then none else
   match H[l]? with
   | some (.loop .ready _ fn T params assign body an) =>
     match setParams params args T with
     | some T' =>
       match exec P an (callF A tab d) fn lo d (some l) assign 0 ⟨T',H⟩ with
       | some (.normal,s) =>
         match s.H[l]? with
         | some (.loop .ready pend fn T params assign body' an') =>
           match exec P an (callF A tab d) fn lo d (some l) body 0 ⟨s.T,s.H.set l (.loop .busy pend fn T params assign body' an')⟩ with
           | some (e,s2) =>
             match s2.H[l]? with
             | some (.loop .busy _ fn T params assign body' an') =>
               match e with
               | .normal=>some (.bool true,s2.H.set l (.loop .ready none fn T params assign body' an'))
               | .ret=>some (.bool false,s2.H.set l (.loop .done (some .ret) fn T params assign body' an'))
               | .exit id=>some (.bool false,s2.H.set l (.loop .done (some (.exit id)) fn T params assign body' an'))
             | _=>none
           | none=>none
         | _=>none
       | _=>none
     | none=>none
   | _=>none
end
end
end Go.Proofs.YtfakoboiahbhaaaGreat.Ab


namespace Go.Proofs.YtfakoboiahbhaaaGreat.Ab
open Go
inductive Lab where
 | slot (i:Nat)
 | arg (i:Nat)
 | res
 | obj (id:Nat)
 | cell (id j:Nat)
 | mark
 deriving DecidableEq
inductive Rel (κ:List Nat) (S:Nat→Nat→Prop) (w:World):AV→Value→Prop
 | junk (v:Value):Rel κ S w .junk v
 | bool (b:Bool):Rel κ S w (.bool b) (.bool b)
 | int (k:IntKind) (n:Int):Rel κ S w (.int k n) (.int k n)
 | str (s:ByteArray):Rel κ S w (.str s) (.string s)
 | nilp:Rel κ S w .nilp (.pointer none)
 | ptr (id off b:Nat) (h:κ[id]?=some b):Rel κ S w (.ptr id off) (.pointer (some ⟨b,off,none⟩))
 | lptr (cells:List AV) (b o:Nat) (f:Nat→Value)
   (h:∀ (j:Nat) (u:AV),cells[j]?=some u→S b (o+j)∧w.cell? ⟨b,o+j,none⟩=some (f j)∧u.plain=true∧(f j).oneCell'=true)
   (hr:∀ (j:Nat) (u:AV),cells[j]?=some u→Rel κ S w u (f j)):Rel κ S w (.lptr cells) (.pointer (some ⟨b,o,none⟩))
 | lnil (c:Cap) (a:Option Addr):Rel κ S w (.lst [] 0 c) (.slice a 0 0)
 | lst (cells:List AV) (len:Nat) (c:Cap) (b o cap:Nat) (f:Nat→Value)
   (hc:c=.full→cap=len) (hle:len≤cap) (hu:∀ z,c≠.uniq z)
   (h:∀ (j:Nat) (u:AV),cells[j]?=some u→S b (o+j)∧w.cell? ⟨b,o+j,none⟩=some (f j)∧u.plain=true∧(f j).oneCell'=true)
   (hr:∀ (j:Nat) (u:AV),cells[j]?=some u→Rel κ S w u (f j)):Rel κ S w (.lst cells len c) (.slice (some ⟨b,o,none⟩) len cap)
 | luniq (cells:List AV) (len z b o cap:Nat):Rel κ S w (.lst cells len (.uniq z)) (.slice (some ⟨b,o,none⟩) len cap)
 | raw (cells:List AV) (len z b o cap:Nat):Rel κ S w (.raw cells len z) (.slice (some ⟨b,o,none⟩) len cap)
 | ref (id off len:Nat) (c:Option Nat) (sz b cap:Nat) (h:κ[id]?=some b) (hc:∀ n,c=some n→cap=n) (hle:len≤cap) :
   Rel κ S w (.ref id off len c sz) (.slice (some ⟨b,off,none⟩) len cap)
 | gref (id gid len z b cap:Nat) (h:κ[id]?=some b) (hg:κ[gid]?=some cap) (hle:len≤cap):Rel κ S w (.gref id gid len z) (.slice (some ⟨b,0,none⟩) len cap)
 | func (f:FuncId) (as bs:List AV) (vs ws:Array Value) (h1:vs.size=as.length) (h2:ws.size=bs.length)
   (p1:∀ u∈as,u.plain=true) (p2:∀ u∈bs,u.plain=true)
   (r1:∀ (j:Nat) (u:AV) (v:Value),as[j]?=some u→vs[j]?=some v→Rel κ S w u v)
   (r2:∀ (j:Nat) (u:AV) (v:Value),bs[j]?=some u→ws[j]?=some v→Rel κ S w u v):Rel κ S w (.func f as bs) (.func (.func f) vs ws)
 | yield (id b:Nat) (h:κ[id]?=some b):Rel κ S w (.yield id) (.func (.yield b) #[] #[])
 | map (id b:Nat) (h:κ[id]?=some b):Rel κ S w (.map id) (.map (some b))
 | agg (as:List AV) (vs:Array Value) (h:vs.size=as.length) (p:∀ u∈as,u.plain=true) (one:∀ v∈vs.toList,v.oneCell'=true)
   (r:∀ (j:Nat) (u:AV) (v:Value),as[j]?=some u→vs[j]?=some v→Rel κ S w u v):Rel κ S w (.agg as) (.agg vs)
 | tuple (as:List AV) (vs:Array Value) (h:vs.size=as.length) (p:∀ u∈as,u.plain=true)
   (r:∀ (j:Nat) (u:AV) (v:Value),as[j]?=some u→vs[j]?=some v→Rel κ S w u v):Rel κ S w (.tuple as) (.tuple vs)
def OwnAt (ω:Nat→Option Lab) (κ:List Nat) (S:Nat→Nat→Prop) (w:World) (l:Lab):AV→Value→Prop
 | .lst cells len (.own z),.slice (some a) _ cap=>(len=0∧cap=0∧cells=[]) ∨
   (ω a.block=some l∧True∧a.spot=none∧len≤cap∧cap≤maxLen∧0<z∧cells.length=len*z ∧
    (∃ cur e,w.heap[a.block]?=some (.cells cur e (0,0))∧cur.size=a.off+cap*z)∧∀ o,a.off+cells.length≤o→¬ S a.block o)
 | .lst cells len (.uniq z),.slice (some a) _ cap=>(len=0∧cap=0∧cells=[]) ∨
   (ω a.block=some l∧a.off=0∧len≤cap∧cap≤maxLen∧0<z∧cells.length=len*z ∧
    (∃ cur e,w.heap[a.block]?=some (.cells cur e (0,0))∧cur.size=cap*z ∧
     ∀ (j:Nat) (u:AV) (v:Value),cells[j]?=some u→cur[j]?=some v→u.plain=true∧v.oneCell'=true∧Rel κ S w u v)∧∀ o,¬ S a.block o)
 | .raw cells len z,.slice (some a) _ cap =>
   ω a.block=some l∧a.off=0∧len≤cap∧cap≤maxLen∧0<z∧cells.length=len*z∧cells.all scal0=true ∧
     (∃ cur e,w.heap[a.block]?=some (.cells cur e (0,0))∧cur.size=cap*z ∧
      ∀ (j:Nat) (u:AV) (v:Value),cells[j]?=some u→cur[j]?=some v→v.oneCell'=true∧Rel κ S w u v)∧∀ o,¬ S a.block o
 | _,_=>True
structure Ev (ω:Nat→Option Lab) (S:Nat→Nat→Prop) (w:World) (ω':Nat→Option Lab) (S':Nat→Nat→Prop) (w':World):Prop where
 os:w'.os=w.os
 tape:w'.tape=w.tape
 output:w'.output=w.output
 size:w.heap.size≤w'.heap.size
 keep:∀ b,b<w.heap.size→ω b=none→w'.heap[b]?=w.heap[b]?
 set:∀ b o,S b o→S' b o∧w'.cell? ⟨b,o,none⟩=w.cell? ⟨b,o,none⟩
 fresh:∀ b o,S' b o→S b o∨ω b≠none∨w.heap.size≤b
 own:∀ b,ω' b≠none→ω b≠none∨w.heap.size≤b
theorem Ev.refl (ω:Nat→Option Lab) (S:Nat→Nat→Prop) (w:World):Ev ω S w ω S w :=
 ⟨rfl,rfl,rfl,Nat.le_refl _,fun _ _ _=>rfl,fun _ _ h=>⟨h,rfl⟩,fun _ _ h=>.inl h,fun _ h=>.inl h⟩
theorem Ev.trans {ω ω1 ω2:Nat→Option Lab} {S S1 S2:Nat→Nat→Prop} {w w1 w2:World} (h:Ev ω S w ω1 S1 w1) (k:Ev ω1 S1 w1 ω2 S2 w2) :
  Ev ω S w ω2 S2 w2 where
 os:=k.os.trans h.os
 tape:=k.tape.trans h.tape
 output:=k.output.trans h.output
 size:=Nat.le_trans h.size k.size
 keep b hb hn:=by
  have h1:ω1 b=none:=by
   cases hw:ω1 b with
   | none=>rfl
   | some l =>
     rcases h.own b (by simp [hw]) with h2 | h2
     ·exact absurd hn h2
     ·omega
  rw [k.keep b (Nat.lt_of_lt_of_le hb h.size) h1,h.keep b hb hn]
 set b o hs:=by
  obtain ⟨h1,h2⟩:=h.set b o hs
  obtain ⟨k1,k2⟩:=k.set b o h1
  exact ⟨k1,k2.trans h2⟩
 fresh b o hs:=by
  rcases k.fresh b o hs with h1 | h1 | h1
  ·exact h.fresh b o h1
  ·rcases h.own b h1 with h2 | h2
   ·exact .inr (.inl h2)
   ·exact .inr (.inr h2)
  ·exact .inr (.inr (Nat.le_trans h.size h1))
 own b hb:=by
  rcases k.own b hb with h1 | h1
  ·exact h.own b h1
  ·exact .inr (Nat.le_trans h.size h1)
def Ext (κ κ':List Nat):Prop:=∀ (i b:Nat),κ[i]?=some b→κ'[i]?=some b
theorem Ext.refl (κ:List Nat):Ext κ κ:=fun _ _ h=>h
theorem Ext.trans {a b c:List Nat} (h:Ext a b) (k:Ext b c):Ext a c:=fun i x hx=>k i x (h i x hx)
theorem Ext.append (a b:List Nat):Ext a (a++b):=fun i x hx=>by
 rw [List.getElem?_append_left (List.getElem?_eq_some_iff.1 hx).1];exact hx
theorem Rel.mono {κ κ':List Nat} {S S':Nat→Nat→Prop} {w w':World} (hκ:Ext κ κ')
  (hS:∀ b o,S b o→S' b o∧w'.cell? ⟨b,o,none⟩=w.cell? ⟨b,o,none⟩) {u:AV} {v:Value} (h:Rel κ S w u v):Rel κ' S' w' u v:=by
 induction h with
 | junk v=>exact .junk v
 | bool b=>exact .bool b
 | int k n=>exact .int k n
 | str s=>exact .str s
 | nilp=>exact .nilp
 | ptr id off b h=>exact .ptr id off b (hκ _ _ h)
 | lptr cells b o f h hr ih =>
   exact .lptr cells b o f (fun j u hj=>let ⟨h1,h2,h3⟩:=h j u hj;⟨(hS _ _ h1).1,(hS _ _ h1).2.trans h2,h3⟩) ih
 | lnil c a=>exact .lnil c a
 | lst cells len c b o cap f hc hle hu h hr ih =>
   exact .lst cells len c b o cap f hc hle hu (fun j u hj=>let ⟨h1,h2,h3⟩:=h j u hj;⟨(hS _ _ h1).1,(hS _ _ h1).2.trans h2,h3⟩) ih
 | luniq cells len z b o cap=>exact .luniq cells len z b o cap
 | raw cells len z b o cap=>exact .raw cells len z b o cap
 | ref id off len c sz b cap h hc hle=>exact .ref id off len c sz b cap (hκ _ _ h) hc hle
 | gref id gid len z b cap h hg hle=>exact .gref id gid len z b cap (hκ _ _ h) (hκ _ _ hg) hle
 | func f as bs vs ws h1 h2 p1 p2 r1 r2 i1 i2=>exact .func f as bs vs ws h1 h2 p1 p2 i1 i2
 | yield id b h=>exact .yield id b (hκ _ _ h)
 | map id b h=>exact .map id b (hκ _ _ h)
 | agg as vs h p one r ih=>exact .agg as vs h p one ih
 | tuple as vs h p r ih=>exact .tuple as vs h p ih
theorem OwnAt.mono {ω ω':Nat→Option Lab} {κ κ':List Nat} {S S':Nat→Nat→Prop} {w w':World} {l l':Lab} (hκ:Ext κ κ')
  (hS:∀ b o,S b o→S' b o∧w'.cell? ⟨b,o,none⟩=w.cell? ⟨b,o,none⟩)
  (hω:∀ b,ω b=some l→ω' b=some l'∧w'.heap[b]?=w.heap[b]?∧∀ o,S' b o→S b o) {u:AV} {v:Value} (h:OwnAt ω κ S w l u v) :
  OwnAt ω' κ' S' w' l' u v:=by
 unfold OwnAt at h ⊢
 split at h
 ·rcases h with h | ⟨h1,h2,h3,h4,h5,h6,h7,⟨cur,e,h8,h9⟩,h10⟩
  ·exact .inl h
  ·obtain ⟨k1,k2,k3⟩:=hω _ h1
   exact .inr ⟨k1,h2,h3,h4,h5,h6,h7,⟨cur,e,k2.trans h8,h9⟩,fun o ho hs=>h10 o ho (k3 o hs)⟩
 ·rcases h with h | ⟨h1,h0,h4,h5,h6,h7,⟨cur,e,h8,h9,h10⟩,h11⟩
  ·exact .inl h
  ·obtain ⟨k1,k2,k3⟩:=hω _ h1
   exact .inr ⟨k1,h0,h4,h5,h6,h7,⟨cur,e,k2.trans h8,h9,fun j u v hu hv=>⟨(h10 j u v hu hv).1,(h10 j u v hu hv).2.1,((h10 j u v hu hv).2.2).mono hκ hS⟩⟩,fun o hs=>h11 o (k3 o hs)⟩
 ·obtain ⟨h1,h0,h4,h5,h6,h7,hs,⟨cur,e,h8,h9,h10⟩,h11⟩:=h
  obtain ⟨k1,k2,k3⟩:=hω _ h1
  exact ⟨k1,h0,h4,h5,h6,h7,hs,⟨cur,e,k2.trans h8,h9,fun j u v hu hv=>⟨(h10 j u v hu hv).1,((h10 j u v hu hv).2).mono hκ hS⟩⟩,fun o hs=>h11 o (k3 o hs)⟩
 ·trivial
theorem OwnAt.of_plain {ω:Nat→Option Lab} {κ:List Nat} {S:Nat→Nat→Prop} {w:World} {l:Lab} {u:AV} {v:Value} (h:u.plain=true):OwnAt ω κ S w l u v:=by
 unfold OwnAt
 split <;> first | trivial | simp [AV.plain] at h
def ObjRel (ω:Nat→Option Lab) (κ:List Nat) (S:Nat→Nat→Prop) (w:World) (id:Nat):AObj→Prop
 | .dead=>True
 | .cells l=>∃ b cur e,κ[id]?=some b∧ω b=some (.obj id)∧w.heap[b]?=some (.cells cur e (0,0))∧l.length≤cur.size∧(∀ o,¬ S b o) ∧
   ∀ (j:Nat) (u:AV) (v:Value),l[j]?=some u→cur[j]?=some v→u.noUniq=true∧v.oneCell'=true∧Rel κ S w u v∧OwnAt ω κ S w (.cell id j) u v
 | .loop st pend fn T params assign body ann=>codeOk ann assign=true∧codeOk ann body=true∧∃ b L,κ[id]?=some b∧ω b=some (.obj id)∧w.heap[b]?=some (.loop L)∧L.state=st∧L.pending=pend∧True ∧
   L.tmps.size=T.length∧(∀ (i:Nat) (u:AV) (v:Value),T[i]?=some u→L.tmps[i]?=some v→u.plain=true∧Rel κ S w u v)∧L.params.toList=params∧L.assign=assign∧L.body=body
 | .map es clock=>∃ b ents,κ[id]?=some b∧ω b=some (.obj id)∧w.heap[b]?=some (.map ents clock)∧ents.size=es.length∧(∀ o,¬ S b o) ∧
   ∀ (j i:Nat) (k v:AV) (x:MapEntry),es[j]?=some (i,k,v)→ents[j]?=some x→x.born=i∧k.plain=true∧Rel κ S w k x.key∧v.plain=true∧Rel κ S w v x.val
 | .grow l gid z=>∃ b cur e,κ[id]?=some b∧ω b=some (.obj id)∧w.heap[b]?=some (.cells cur e (0,0))∧l.length≤cur.size∧(∀ o,¬ S b o) ∧
   (∀ (j:Nat) (u:AV) (v:Value),l[j]?=some u→cur[j]?=some v→u.noUniq=true∧v.oneCell'=true∧Rel κ S w u v∧OwnAt ω κ S w (.cell id j) u v) ∧
   ∃ cap,κ[gid]?=some cap∧cap≤maxLen∧0<z∧cur.size=cap*z
 | .iter m since seen stepped=>∃ b bm,κ[id]?=some b∧ω b=some (.obj id)∧κ[m]?=some bm∧w.heap[b]?=some (.mapIter (some bm) since seen.toArray stepped)∧(∀ o,¬ S b o)
structure HRel (B:Nat) (ω:Nat→Option Lab) (κ:List Nat) (S:Nat→Nat→Prop) (w:World) (H:List AObj):Prop where
 klen:κ.length=H.length
 obj:∀ (id:Nat) (o:AObj),H[id]?=some o→ObjRel ω κ S w id o
 swf:∀ b o,S b o→∃ v,w.cell? ⟨b,o,none⟩=some v
 base:∀ b l,ω b=some l→B≤b∧b<w.heap.size
 bsz:B≤w.heap.size
structure VRel (lab:Nat→Lab) (ω:Nat→Option Lab) (κ:List Nat) (S:Nat→Nat→Prop) (w:World) (T:List AV) (tm:List Value):Prop where
 len:T.length=tm.length
 rel:∀ (i:Nat) (u:AV) (v:Value),T[i]?=some u→tm[i]?=some v→Rel κ S w u v
 own:∀ (i:Nat) (u:AV) (v:Value),T[i]?=some u→tm[i]?=some v→OwnAt ω κ S w (lab i) u v
theorem scal0_any {κ κ':List Nat} {S S':Nat→Nat→Prop} {w w':World} {u:AV} {v:Value} (h:scal0 u=true) (hr:Rel κ S w u v):Rel κ' S' w' u v:=by
 cases hr <;> simp [scal0] at h <;> constructor
theorem scal0_plain {u:AV} (h:scal0 u=true):u.plain=true:=by
 cases u <;> simp [scal0] at h <;> rfl
theorem raw_uniq {ω:Nat→Option Lab} {κ:List Nat} {S:Nat→Nat→Prop} {w:World} {l:Lab} {c:List AV} {n z:Nat} {v:Value} (hr:Rel κ S w (.raw c n z) v) (ho:OwnAt ω κ S w l (.raw c n z) v) :
  Rel κ S w (.lst c n (.uniq z)) v∧OwnAt ω κ S w l (.lst c n (.uniq z)) v:=by
 cases hr with
 | raw _ _ _ b o cap =>
   obtain ⟨h1,h0,h4,h5,h6,h7,hs,⟨cur,e,h8,h9,h10⟩,h11⟩:=ho
   rw [List.all_eq_true] at hs
   exact ⟨.luniq _ _ _ _ _ _,.inr ⟨h1,h0,h4,h5,h6,h7,⟨cur,e,h8,h9,fun j u v hu hv=>⟨scal0_plain (hs u (List.mem_of_getElem? hu)),h10 j u v hu hv⟩⟩,h11⟩⟩
theorem uniq_raw {ω:Nat→Option Lab} {κ:List Nat} {S:Nat→Nat→Prop} {w:World} {l:Lab} {c:List AV} {n z:Nat} {v:Value} (hn:n≠0) (hs:c.all scal0=true) (hr:Rel κ S w (.lst c n (.uniq z)) v) (ho:OwnAt ω κ S w l (.lst c n (.uniq z)) v) :
  Rel κ S w (.raw c n z) v∧OwnAt ω κ S w l (.raw c n z) v:=by
 cases hr with
 | lnil _ a=>exact absurd rfl hn
 | lst _ _ _ b o cap f hc hle hu h hr=>exact absurd rfl (hu z)
 | luniq _ _ _ b o cap =>
   rcases ho with ⟨h,_,_⟩ | ⟨h1,h0,h4,h5,h6,h7,⟨cur,e,h8,h9,h10⟩,h11⟩
   ·exact absurd h hn
   ·exact ⟨.raw _ _ _ _ _ _,h1,h0,h4,h5,h6,h7,hs,⟨cur,e,h8,h9,fun j u v hu hv=>(h10 j u v hu hv).2⟩,h11⟩
theorem lt_of_cell {w:World} {b o:Nat} {v:Value} (h:w.cell? ⟨b,o,none⟩=some v):b<w.heap.size:=World.block_lt_of_cell? w ⟨b,o,none⟩ h
end Go.Proofs.YtfakoboiahbhaaaGreat.Ab


namespace Go.Proofs.YtfakoboiahbhaaaGreat.Ab
open Go
structure Gs (ω:Nat→Option Lab) (S:Nat→Nat→Prop) (ω':Nat→Option Lab) (S':Nat→Nat→Prop):Prop where
 set:∀ b o,S b o→S' b o
 fresh:∀ b o,S' b o→S b o∨∃ i,ω b=some (.slot i)
 keep:∀ b l,ω b=some l→(∀ i,l≠.slot i)→ω' b=some l
 none:∀ b,ω b=none→ω' b=none
 slot:∀ b i,ω' b=some (.slot i)→ω b=some (.slot i)
theorem Gs.refl (ω:Nat→Option Lab) (S:Nat→Nat→Prop):Gs ω S ω S :=
 ⟨fun _ _ h=>h,fun _ _ h=>.inl h,fun _ _ h _=>h,fun _ h=>h,fun _ _ h=>h⟩
theorem Gs.trans {ω ω1 ω2:Nat→Option Lab} {S S1 S2:Nat→Nat→Prop} (h:Gs ω S ω1 S1) (k:Gs ω1 S1 ω2 S2):Gs ω S ω2 S2 where
 set b o hs:=k.set b o (h.set b o hs)
 fresh b o hs:=by
  rcases k.fresh b o hs with h1 | ⟨i,h1⟩
  ·exact h.fresh b o h1
  ·exact .inr ⟨i,h.slot b i h1⟩
 keep b l hl hn:=k.keep b l (h.keep b l hl hn) hn
 none b hb:=k.none b (h.none b hb)
 slot b i hb:=h.slot b i (k.slot b i hb)
theorem Gs.ev {ω ω':Nat→Option Lab} {S S':Nat→Nat→Prop} (h:Gs ω S ω' S') (w:World):Ev ω S w ω' S' w where
 os:=rfl
 tape:=rfl
 output:=rfl
 size:=Nat.le_refl _
 keep _ _ _:=rfl
 set b o hs:=⟨h.set b o hs,rfl⟩
 fresh b o hs:=by
  rcases h.fresh b o hs with h1 | ⟨i,h1⟩
  ·exact .inl h1
  ·exact .inr (.inl (by simp [h1]))
 own b hb:=by
  refine .inl fun h0=>hb (h.none b h0)
theorem OwnAt.gs {ω ω':Nat→Option Lab} {S S':Nat→Nat→Prop} (g:Gs ω S ω' S') {κ:List Nat} {w:World} {l:Lab} (hl:∀ i,l≠.slot i) {u:AV} {v:Value}
  (h:OwnAt ω κ S w l u v):OwnAt ω' κ S' w l u v:=by
 refine h.mono (Ext.refl κ) (fun b o hs=>⟨g.set b o hs,rfl⟩) fun b hb=>⟨g.keep b l hb hl,rfl,fun o hs=>?_⟩
 rcases g.fresh b o hs with h1 | ⟨i,h1⟩
 ·exact h1
 ·rw [hb] at h1;cases h1;exact absurd rfl (hl i)
theorem Rel.gs {ω ω':Nat→Option Lab} {S S':Nat→Nat→Prop} (g:Gs ω S ω' S') {κ:List Nat} {w:World} {u:AV} {v:Value} (h:Rel κ S w u v):Rel κ S' w u v :=
 h.mono (Ext.refl κ) fun b o hs=>⟨g.set b o hs,rfl⟩
theorem ObjRel.gs {ω ω':Nat→Option Lab} {S S':Nat→Nat→Prop} (g:Gs ω S ω' S') {κ:List Nat} {w:World} {id:Nat} {o:AObj} (h:ObjRel ω κ S w id o):ObjRel ω' κ S' w id o:=by
 have hS:∀ b id',ω b=some (.obj id')→∀ o,S' b o→S b o:=fun b id' hb o hs=>by
  rcases g.fresh b o hs with h1 | ⟨i,h1⟩
  ·exact h1
  ·rw [hb] at h1;cases h1
 cases o with
 | dead=>trivial
 | cells l =>
   obtain ⟨b,cur,e,h1,h2,h3,h4,h5,h6⟩:=h
   exact ⟨b,cur,e,h1,g.keep b _ h2 (by simp),h3,h4,fun o hs=>h5 o (hS b id h2 o hs),fun j u v hu hv =>
    let ⟨a1,a0,a2,a3⟩:=h6 j u v hu hv;⟨a1,a0,a2.gs g,a3.gs g (by simp)⟩⟩
 | grow l gid z =>
   obtain ⟨b,cur,e,h1,h2,h3,h4,h5,h6,h7⟩:=h
   exact ⟨b,cur,e,h1,g.keep b _ h2 (by simp),h3,h4,fun o hs=>h5 o (hS b id h2 o hs),fun j u v hu hv =>
    let ⟨a1,a0,a2,a3⟩:=h6 j u v hu hv;⟨a1,a0,a2.gs g,a3.gs g (by simp)⟩,h7⟩
 | loop st pend fn T params assign body ann =>
   obtain ⟨hx,hy,b,L,h1,h2,h3,h4,h5,h6,h7,h8,h9⟩:=h
   exact ⟨hx,hy,b,L,h1,g.keep b _ h2 (by simp),h3,h4,h5,h6,h7,fun i u v hu hv=>⟨(h8 i u v hu hv).1,(h8 i u v hu hv).2.gs g⟩,h9⟩
 | map es clock =>
   obtain ⟨b,ents,h1,h2,h3,h4,h5,h6⟩:=h
   exact ⟨b,ents,h1,g.keep b _ h2 (by simp),h3,h4,fun o hs=>h5 o (hS b id h2 o hs),fun j i k v x hu hv =>
    let ⟨a1,a2,a3,a4,a5⟩:=h6 j i k v x hu hv;⟨a1,a2,a3.gs g,a4,a5.gs g⟩⟩
 | iter m s e t =>
   obtain ⟨b,bm,h1,h2,h3,h4,h5⟩:=h
   exact ⟨b,bm,h1,g.keep b _ h2 (by simp),h3,h4,fun o hs=>h5 o (hS b id h2 o hs)⟩
theorem HRel.gs {B:Nat} {ω ω':Nat→Option Lab} {S S':Nat→Nat→Prop} (g:Gs ω S ω' S') {κ:List Nat} {w:World} {H:List AObj} (h:HRel B ω κ S w H)
  (hw:∀ b o,S' b o→∃ v,w.cell? ⟨b,o,none⟩=some v):HRel B ω' κ S' w H where
 klen:=h.klen
 obj id o ho:=(h.obj id o ho).gs g
 swf:=hw
 base b l hl:=by
  cases hb:ω b with
  | none=>rw [g.none b hb] at hl;cases hl
  | some l'=>exact h.base b l' hb
 bsz:=h.bsz
theorem absVal_rel (κ:List Nat) (S:Nat→Nat→Prop) (w:World) (v:Value):Rel κ S w (absVal v) v:=by
 unfold absVal
 split
 ·exact .bool _
 ·exact .int _ _
 ·exact .nilp
 ·exact .str _
 ·exact .lnil _ _
 ·exact .junk _
theorem absVal_plain (v:Value):(absVal v).plain=true:=by
 unfold absVal;split <;> rfl
theorem AV.view_plain (u:AV):u.view.plain=true:=by
 unfold AV.view;split <;> first | rfl | skip
 rename_i h1 h2 h3 h4
 unfold AV.plain;split
 ·exact absurd rfl (h1 _ _ _)
 ·exact absurd rfl (h2 _ _ _)
 ·exact absurd rfl (h3 _ _ _)
 ·exact absurd rfl (h4 _ _ _ _)
 ·rfl
theorem AV.plain_noUniq {u:AV} (h:u.plain=true):u.noUniq=true:=by
 unfold AV.plain at h;unfold AV.noUniq;split at h <;> simp_all
theorem AV.view_of_plain {u:AV} (h:u.plain=true):u.view=u:=by
 unfold AV.view;split <;> simp_all [AV.plain]
theorem Rel.view {κ:List Nat} {S:Nat→Nat→Prop} {w:World} {u:AV} {v:Value} (h:Rel κ S w u v) (hn:u.noUniq=true):Rel κ S w u.view v:=by
 cases h with
 | lnil c a=>cases c <;> simp [AV.view] <;> exact .lnil _ _
 | lst cells len c b o cap f hc hle hu h hr =>
   cases c with
   | shared=>exact .lst cells len .shared b o cap f hc hle hu h hr
   | full=>exact .lst cells len .full b o cap f hc hle hu h hr
   | own z=>exact .lst cells len .shared b o cap f (by simp) hle (by simp) h hr
   | uniq z=>exact absurd rfl (hu z)
 | luniq=>simp [AV.noUniq] at hn
 | raw=>exact .junk _
 | gref id gid len z b cap h hg hle=>exact .ref id 0 len none z b cap h (by simp) hle
 | junk v=>exact .junk v
 | bool b=>exact .bool b
 | int k n=>exact .int k n
 | str s=>exact .str s
 | nilp=>exact .nilp
 | ptr id off b h=>exact .ptr id off b h
 | lptr cells b o f h hr=>exact .lptr cells b o f h hr
 | ref id off len c sz b cap h hc hle=>exact .ref id off len c sz b cap h hc hle
 | func f as bs vs ws h1 h2 p1 p2 r1 r2=>exact .func f as bs vs ws h1 h2 p1 p2 r1 r2
 | yield id b h=>exact .yield id b h
 | map id b h=>exact .map id b h
 | agg as vs h p one r=>exact .agg as vs h p one r
 | tuple as vs h p r=>exact .tuple as vs h p r
section
variable {B:Nat} {κ:List Nat} {w:World} {H:List AObj}
theorem VRel.gs {lab:Nat→Lab} (hl:∀ i k,lab i≠.slot k) {ω ω':Nat→Option Lab} {S S':Nat→Nat→Prop} (g:Gs ω S ω' S') {T:List AV} {tm:List Value} (h:VRel lab ω κ S w T tm) :
  VRel lab ω' κ S' w T tm :=
 ⟨h.len,fun i u v hu hv=>(h.rel i u v hu hv).gs g,fun i u v hu hv=>(h.own i u v hu hv).gs g (hl i)⟩
theorem take_slot {ω:Nat→Option Lab} {S:Nat→Nat→Prop} {T:List AV} {tm:List Value} (l:Lab) (hl:∀ i,l≠.slot i)
  (hT:VRel .slot ω κ S w T tm) (hH:HRel B ω κ S w H) (t:Nat) :
  ∃ ω',Gs ω S ω' S∧VRel .slot ω' κ S w (T.set t .junk) tm∧HRel B ω' κ S w H ∧
    Rel κ S w (T.getD t .junk) (tm.getD t undef)∧OwnAt ω' κ S w l (T.getD t .junk) (tm.getD t undef):=by
 classical
 refine ⟨fun b=>if ω b=some (.slot t) then some l else ω b,?_,?_,?_,?_,?_⟩
 ·refine ⟨fun _ _ h=>h,fun _ _ h=>.inl h,fun b l' h hn=>?_,fun b h=>?_,fun b i h=>?_⟩
  ·have:ω b≠some (.slot t):=by rw [h];intro e;cases e;exact hn t rfl
   simp only [this,if_false];exact h
  ·simp [h]
  ·split at h
   ·cases h;exact absurd rfl (hl i)
   ·exact h
 ·refine ⟨by simpa using hT.len,fun i u v hu hv=>?_,fun i u v hu hv=>?_⟩
  ·rw [List.getElem?_set] at hu
   split at hu
   ·split at hu
    ·cases hu;exact .junk _
    ·cases hu
   ·exact hT.rel i u v hu hv
  ·rw [List.getElem?_set] at hu
   split at hu
   ·split at hu
    ·cases hu;exact OwnAt.of_plain rfl
    ·cases hu
   ·rename_i hne
    refine (hT.own i u v hu hv).mono (Ext.refl κ) (fun b o hs=>⟨hs,rfl⟩) fun b hb=>⟨?_,rfl,fun o hs=>hs⟩
    have:ω b≠some (.slot t):=by rw [hb];intro e;cases e;exact hne rfl
    simp only [this,if_false];exact hb
 ·refine hH.gs ⟨fun _ _ h=>h,fun _ _ h=>.inl h,fun b l' h hn=>?_,fun b h=>?_,fun b i h=>?_⟩ hH.swf
  ·have:ω b≠some (.slot t):=by rw [h];intro e;cases e;exact hn t rfl
   simp only [this,if_false];exact h
  ·simp [h]
  ·split at h
   ·cases h;exact absurd rfl (hl i)
   ·exact h
 ·cases hu:T[t]? with
  | none=>rw [List.getD_eq_getElem?_getD,hu];exact .junk _
  | some u =>
    have hlt:=(List.getElem?_eq_some_iff.1 hu).1
    have hv:tm[t]?=some (tm[t]'(hT.len ▸ hlt)):=List.getElem?_eq_getElem _
    rw [List.getD_eq_getElem?_getD,hu,List.getD_eq_getElem?_getD,hv]
    exact hT.rel t _ _ hu hv
 ·cases hu:T[t]? with
  | none=>rw [List.getD_eq_getElem?_getD,hu];exact OwnAt.of_plain rfl
  | some u =>
    have hlt:=(List.getElem?_eq_some_iff.1 hu).1
    have hv:tm[t]?=some (tm[t]'(hT.len ▸ hlt)):=List.getElem?_eq_getElem _
    rw [List.getD_eq_getElem?_getD,hu,List.getD_eq_getElem?_getD,hv]
    refine (hT.own t _ _ hu hv).mono (Ext.refl κ) (fun b o hs=>⟨hs,rfl⟩) fun b hb=>⟨?_,rfl,fun o hs=>hs⟩
    simp [hb]
theorem settle_main {ω:Nat→Option Lab} {S:Nat→Nat→Prop} {l:Lab} {cells:List AV} {len z:Nat} {v:Value} (hH:HRel B ω κ S w H)
  (hr:Rel κ S w (.lst cells len (.uniq z)) v) (ho:OwnAt ω κ S w l (.lst cells len (.uniq z)) v) :
  ∃ S':Nat→Nat→Prop,(∀ b o,S b o→S' b o)∧(∀ b o,S' b o→S b o∨ω b=some l)∧(∀ b o,S' b o→∃ v,w.cell? ⟨b,o,none⟩=some v) ∧
    Rel κ S' w (.lst cells len .shared) v∧Rel κ S' w (.lst cells len (.own z)) v∧OwnAt ω κ S' w l (.lst cells len (.own z)) v:=by
 cases hr with
 | lnil c a=>exact ⟨S,fun _ _ h=>h,fun _ _ h=>.inl h,hH.swf,.lnil _ _,.lnil _ _,by cases a <;> first | trivial | exact .inl ⟨rfl,rfl,rfl⟩⟩
 | lst cells len c b o cap f hc hle hu' h hr'=>exact absurd rfl (hu' z)
 | luniq cells len z b o cap =>
   rcases ho with ⟨rfl,rfl,rfl⟩ | ⟨h1,h0,h2,h3,h4,h5,⟨cur,e,h6,h7,h8⟩,h9⟩
   ·refine ⟨S,fun _ _ h=>h,fun _ _ h=>.inl h,hH.swf,?_,?_,.inl ⟨rfl,rfl,rfl⟩⟩
    ·exact .lst [] 0 .shared b o 0 (fun _=>undef) (by simp) (Nat.le_refl _) (by simp) (by simp) (by simp)
    ·exact .lst [] 0 (.own z) b o 0 (fun _=>undef) (by simp) (Nat.le_refl _) (by simp) (by simp) (by simp)
   ·simp only at h0
    subst h0
    have hcs:cells.length≤cur.size:=by rw [h7,h5];exact Nat.mul_le_mul_right _ h2
    have hcell:∀ j,w.cell? ⟨b,j,none⟩=cur[j]?:=fun j=>by
     unfold World.cell?;simp only at h6;rw [h6];simp
    have hg:∀ b' o,S b' o→(S b' o∨(b'=b∧o<cells.length)):=fun _ _ h=>.inl h
    have hmono:∀ {u:AV} {v:Value},Rel κ S w u v→Rel κ (fun b' o=>S b' o∨(b'=b∧o<cells.length)) w u v:=fun h=>h.mono (Ext.refl κ) fun b o hs=>⟨hg b o hs,rfl⟩
    have cellsOk:∀ (j:Nat) (u:AV),cells[j]?=some u→(S b (0+j)∨(b=b∧0+j<cells.length))∧w.cell? ⟨b,0+j,none⟩=some (cur.getD j undef)∧u.plain=true∧(cur.getD j undef).oneCell'=true:=by
     intro j u hj
     have hjl:=(List.getElem?_eq_some_iff.1 hj).1
     have hcj:cur[j]?=some (cur[j]'(by omega)):=Array.getElem?_eq_getElem _
     refine ⟨.inr ⟨rfl,by omega⟩,?_,(h8 j u _ hj hcj).1,?_⟩
     ·rw [Nat.zero_add,hcell,hcj];simp [Array.getD,show j<cur.size by omega]
     ·have:=(h8 j u _ hj hcj).2.1;simpa [Array.getD,show j<cur.size by omega] using this
    have relOk:∀ (j:Nat) (u:AV),cells[j]?=some u→Rel κ (fun b' o=>S b' o∨(b'=b∧o<cells.length)) w u (cur.getD j undef):=by
     intro j u hj
     have hjl:=(List.getElem?_eq_some_iff.1 hj).1
     have hcj:cur[j]?=some (cur[j]'(by omega)):=Array.getElem?_eq_getElem _
     have:=hmono (h8 j u _ hj hcj).2.2
     simpa [Array.getD,show j<cur.size by omega] using this
    refine ⟨fun b' o=>S b' o∨(b'=b∧o<cells.length),hg,?_,?_,?_,?_,?_⟩
    ·rintro b' o (h | ⟨rfl,h⟩)
     ·exact .inl h
     ·exact .inr h1
    ·rintro b' o (h | ⟨rfl,h⟩)
     ·exact hH.swf b' o h
     ·exact ⟨cur[o]'(by omega),by rw [hcell];exact Array.getElem?_eq_getElem _⟩
    ·exact .lst cells len .shared b 0 cap (fun j=>cur.getD j undef) (by simp) h2 (by simp) cellsOk relOk
    ·exact .lst cells len (.own z) b 0 cap (fun j=>cur.getD j undef) (by simp) h2 (by simp) cellsOk relOk
    ·refine .inr ⟨h1,trivial,rfl,h2,h3,h4,h5,⟨cur,e,h6,by simpa using h7⟩,fun o ho hs=>?_⟩
     simp only [Nat.zero_add] at ho
     rcases hs with hs | ⟨_,hs⟩
     ·exact h9 o hs
     ·omega
theorem settle_slot {ω:Nat→Option Lab} {S:Nat→Nat→Prop} {T:List AV} {tm:List Value}
  (hT:VRel .slot ω κ S w T tm) (hH:HRel B ω κ S w H) (t:Nat) (cells:List AV) (len z:Nat) (hu:T[t]?=some (.lst cells len (.uniq z))) :
  ∃ S',Gs ω S ω S'∧VRel .slot ω κ S' w (T.set t (.lst cells len (.own z))) tm∧HRel B ω κ S' w H ∧
    Rel κ S' w (.lst cells len .shared) (tm.getD t undef):=by
 have hlt:=(List.getElem?_eq_some_iff.1 hu).1
 have hv:tm[t]?=some (tm[t]'(hT.len ▸ hlt)):=List.getElem?_eq_getElem _
 have hr:=hT.rel t _ _ hu hv
 have ho:=hT.own t _ _ hu hv
 rw [List.getD_eq_getElem?_getD,hv]
 simp only [Option.getD_some]
 generalize tm[t]'(hT.len ▸ hlt)=v at hv hr ho
 obtain ⟨S',k1,k2,hw,r1,r2,r3⟩:=settle_main hH hr ho
 have hg:Gs ω S ω S':=⟨k1,fun b o h=>(k2 b o h).imp id fun h=>⟨t,h⟩,fun _ _ h _=>h,fun _ h=>h,fun _ _ h=>h⟩
 have hsl:∀ b i,i≠t→ω b=some (.slot i)→∀ o,S' b o→S b o:=fun b i hi hb o hs=>by
  rcases k2 b o hs with h | h
  ·exact h
  ·rw [hb] at h;cases h;exact absurd rfl hi
 refine ⟨S',hg,⟨by simpa using hT.len,fun i u' v' hu' hv'=>?_,fun i u' v' hu' hv'=>?_⟩,hH.gs hg hw,r1⟩
 ·rw [List.getElem?_set] at hu'
  split at hu'
  ·rename_i heq
   subst heq
   cases hu';rw [hv] at hv';cases hv';exact r2
  ·exact (hT.rel i _ _ hu' hv').gs hg
 ·rw [List.getElem?_set] at hu'
  split at hu'
  ·rename_i heq
   subst heq
   cases hu';rw [hv] at hv';cases hv';exact r3
  ·rename_i hne
   exact (hT.own i _ _ hu' hv').mono (Ext.refl κ) (fun b o hs=>⟨hg.set b o hs,rfl⟩) fun b hb=>⟨hb,rfl,fun o hs=>hsl b i (fun e=>hne e.symm) hb o hs⟩
theorem VRel.cons {lab:Nat→Lab} {ω:Nat→Option Lab} {S:Nat→Nat→Prop} {u:AV} {v:Value} {T:List AV} {tm:List Value} (h1:Rel κ S w u v) (h2:OwnAt ω κ S w (lab 0) u v)
  (h:VRel (fun i=>lab (i+1)) ω κ S w T tm):VRel lab ω κ S w (u::T) (v::tm):=by
 refine ⟨by simp [h.len],fun i u' v' hu hv=>?_,fun i u' v' hu hv=>?_⟩
 ·cases i with
  | zero=>simp at hu hv;subst hu hv;exact h1
  | succ i=>exact h.rel i u' v' (by simpa using hu) (by simpa using hv)
 ·cases i with
  | zero=>simp at hu hv;subst hu hv;exact h2
  | succ i=>exact h.own i u' v' (by simpa using hu) (by simpa using hv)
theorem VRel.nil {lab:Nat→Lab} {ω:Nat→Option Lab} {S:Nat→Nat→Prop}:VRel lab ω κ S w [] []:=⟨rfl,by simp,by simp⟩
theorem rd_sim (a:Act):∀ (ops:List Operand) (ts:List Bool) (T:List AV) (k:Nat) (ω:Nat→Option Lab) (S:Nat→Nat→Prop),
  VRel .slot ω κ S w T a.tmps.toList→HRel B ω κ S w H →
  ∃ ω' S',Gs ω S ω' S'∧VRel .slot ω' κ S' w (rd T ts ops).2 a.tmps.toList∧HRel B ω' κ S' w H∧VRel (fun i=>.arg (k+i)) ω' κ S' w (rd T ts ops).1 (ops.map a.eval):=by
 intro ops
 induction ops with
 | nil=>intro ts T k ω S hT hH;exact ⟨ω,S,Gs.refl _ _,by simpa [rd] using hT,hH,by simpa [rd] using VRel.nil⟩
 | cons x rest ih =>
   intro ts T k ω S hT hH
   have easy:∀ u:AV,Rel κ S w u (a.eval x)→u.plain=true→(rd T ts (x::rest))=(u::(rd T ts.tail rest).1,(rd T ts.tail rest).2) →
     ∃ ω' S',Gs ω S ω' S'∧VRel .slot ω' κ S' w (rd T ts (x::rest)).2 a.tmps.toList∧HRel B ω' κ S' w H ∧
       VRel (fun i=>.arg (k+i)) ω' κ S' w (rd T ts (x::rest)).1 ((x::rest).map a.eval):=by
    intro u hu hp he
    obtain ⟨ω',S',g,hT',hH',hv⟩:=ih ts.tail T (k+1) ω S hT hH
    rw [he]
    refine ⟨ω',S',g,hT',hH',?_⟩
    refine VRel.cons (hu.gs g) (OwnAt.of_plain hp) ?_
    simpa [Nat.add_assoc,Nat.add_comm 1] using hv
   cases x with
   | const v =>
     exact easy (absVal v) (absVal_rel κ S w v) (absVal_plain v) rfl
   | func f=>exact easy (.func f [] []) (.func f [] [] #[] #[] rfl rfl (by simp) (by simp) (by simp) (by simp)) rfl rfl
   | global g=>exact easy .junk (.junk _) rfl rfl
   | tmp t =>
     have hget:a.eval (.tmp t)=a.tmps.toList.getD t undef:=by simp [Act.eval,Array.getD_eq_getD_getElem?]
     cases ht:ts.headD false with
     | true =>
       obtain ⟨ω1,g1,hT1,hH1,hr1,ho1⟩:=take_slot (.arg k) (by simp) hT hH t
       obtain ⟨ω',S',g,hT',hH',hv⟩:=ih ts.tail (T.set t .junk) (k+1) ω1 S hT1 hH1
       have he:rd T ts (.tmp t::rest)=(T.getD t .junk::(rd (T.set t .junk) ts.tail rest).1,(rd (T.set t .junk) ts.tail rest).2):=by
        simp only [rd,ht,setT_eq,getT_eq]
       rw [he]
       refine ⟨ω',S',g1.trans g,hT',hH',?_⟩
       refine VRel.cons ?_ ?_ ?_
       ·rw [hget];exact hr1.gs g
       ·rw [hget];exact ho1.gs g (by simp)
       ·simpa [Nat.add_assoc,Nat.add_comm 1] using hv
     | false =>
       have he:rd T ts (.tmp t::rest)=((T.getD t .junk).view::(rd (settleAt T t (T.getD t .junk)) ts.tail rest).1,(rd (settleAt T t (T.getD t .junk)) ts.tail rest).2):=by
        simp only [rd,ht,getT_eq]
       by_cases hq:∃ cells len z,T[t]?=some (.lst cells len (.uniq z))
       ·obtain ⟨cells,len,z,hq⟩:=hq
        obtain ⟨S1,g1,hT1,hH1,hr1⟩:=settle_slot hT hH t cells len z hq
        obtain ⟨ω',S',g,hT',hH',hv⟩:=ih ts.tail (T.set t (.lst cells len (.own z))) (k+1) ω S1 hT1 hH1
        have hg:T.getD t .junk=.lst cells len (.uniq z):=by rw [List.getD_eq_getElem?_getD,hq];rfl
        rw [he,hg]
        simp only [settleAt,setT_eq,AV.view]
        refine ⟨ω',S',g1.trans g,hT',hH',?_⟩
        refine VRel.cons ?_ (OwnAt.of_plain rfl) ?_
        ·rw [hget];exact hr1.gs g
        ·simpa [Nat.add_assoc,Nat.add_comm 1] using hv
       ·have hnu:(T.getD t .junk).noUniq=true:=by
         rw [List.getD_eq_getElem?_getD]
         cases hu:T[t]? with
         | none=>rfl
         | some u =>
           simp only [Option.getD_some]
           unfold AV.noUniq;split
           ·exact absurd ⟨_,_,_,hu⟩ hq
           ·rfl
        have hset:settleAt T t (T.getD t .junk)=T:=by
         unfold settleAt;split
         ·rename_i h;rw [h] at hnu;simp [AV.noUniq] at hnu
         ·rfl
        have hr:Rel κ S w (T.getD t .junk) (a.eval (.tmp t)):=by
         rw [hget]
         cases hu:T[t]? with
         | none=>rw [List.getD_eq_getElem?_getD,hu];exact .junk _
         | some u =>
           have hlt:=(List.getElem?_eq_some_iff.1 hu).1
           have hv:a.tmps.toList[t]?=some (a.tmps.toList[t]'(hT.len ▸ hlt)):=List.getElem?_eq_getElem _
           rw [List.getD_eq_getElem?_getD,hu,List.getD_eq_getElem?_getD,hv]
           exact hT.rel t _ _ hu hv
        refine easy (T.getD t .junk).view (hr.view hnu) (AV.view_plain _) ?_
        rw [he,hset]
end
end Go.Proofs.YtfakoboiahbhaaaGreat.Ab


namespace Go.Proofs.YtfakoboiahbhaaaGreat.Ab
open Go
section
variable {P:Program} {B:Nat} {κ:List Nat} {w:World} {H:List AObj} {ω:Nat→Option Lab} {S:Nat→Nat→Prop}
def Post (B:Nat) (ω:Nat→Option Lab) (κ:List Nat) (S:Nat→Nat→Prop) (w:World) (H':List AObj) (r:AV) (v:Value) (w':World):Prop :=
 ∃ ω' κ' S',Ext κ κ'∧Ev ω S w ω' S' w'∧HRel B ω' κ' S' w' H'∧Rel κ' S' w' r v∧OwnAt ω' κ' S' w' .res r v
theorem Post.same (hH:HRel B ω κ S w H) {r:AV} {v:Value} (hr:Rel κ S w r v) (hp:r.plain=true):Post B ω κ S w H r v w :=
 ⟨ω,κ,S,Ext.refl κ,Ev.refl _ _ _,hH,hr,OwnAt.of_plain hp⟩
theorem HRel.settle (hH:HRel B ω κ S w H) {S':Nat→Nat→Prop} (h1:∀ b o,S b o→S' b o)
  (h2:∀ b o,S' b o→S b o∨∃ l,ω b=some l∧(∀ id,l≠.obj id)∧∀ id j,l≠.cell id j) (h3:∀ b o,S' b o→∃ v,w.cell? ⟨b,o,none⟩=some v):HRel B ω κ S' w H:=by
 have hm:∀ {u:AV} {v:Value},Rel κ S w u v→Rel κ S' w u v:=fun h=>h.mono (Ext.refl κ) fun b o hs=>⟨h1 b o hs,rfl⟩
 refine ⟨hH.klen,fun id o ho=>?_,h3,hH.base,hH.bsz⟩
 have h:=hH.obj id o ho
 cases o with
 | dead=>trivial
 | cells l =>
   obtain ⟨b,cur,e,a1,a2,a3,a4,a5,a6⟩:=h
   refine ⟨b,cur,e,a1,a2,a3,a4,fun o hs=>?_,fun j u v hu hv=>?_⟩
   ·rcases h2 b o hs with h | ⟨l,h,n1,_⟩
    ·exact a5 o h
    ·rw [a2] at h;cases h;exact n1 id rfl
   ·obtain ⟨c1,c0,c2,c3⟩:=a6 j u v hu hv
    refine ⟨c1,c0,hm c2,c3.mono (Ext.refl κ) (fun b o hs=>⟨h1 b o hs,rfl⟩) fun b hb=>⟨hb,rfl,fun o hs=>?_⟩⟩
    rcases h2 b o hs with h | ⟨l,h,_,n2⟩
    ·exact h
    ·rw [hb] at h;cases h;exact absurd rfl (n2 id j)
 | grow l gid z =>
   obtain ⟨b,cur,e,a1,a2,a3,a4,a5,a6,a7⟩:=h
   refine ⟨b,cur,e,a1,a2,a3,a4,fun o hs=>?_,fun j u v hu hv=>?_,a7⟩
   ·rcases h2 b o hs with h | ⟨l,h,n1,_⟩
    ·exact a5 o h
    ·rw [a2] at h;cases h;exact n1 id rfl
   ·obtain ⟨c1,c0,c2,c3⟩:=a6 j u v hu hv
    refine ⟨c1,c0,hm c2,c3.mono (Ext.refl κ) (fun b o hs=>⟨h1 b o hs,rfl⟩) fun b hb=>⟨hb,rfl,fun o hs=>?_⟩⟩
    rcases h2 b o hs with h | ⟨l,h,_,n2⟩
    ·exact h
    ·rw [hb] at h;cases h;exact absurd rfl (n2 id j)
 | loop st pend fn T params assign body ann =>
   obtain ⟨hx,hy,b,L,a1,a2,a3,a4,a5,a6,a7,a8,a9⟩:=h
   exact ⟨hx,hy,b,L,a1,a2,a3,a4,a5,a6,a7,fun i u v hu hv=>⟨(a8 i u v hu hv).1,hm (a8 i u v hu hv).2⟩,a9⟩
 | map es clock =>
   obtain ⟨b,ents,a1,a2,a3,a4,a5,a6⟩:=h
   refine ⟨b,ents,a1,a2,a3,a4,fun o hs=>?_,fun j i k v x hu hv=>?_⟩
   ·rcases h2 b o hs with h | ⟨l,h,n1,_⟩
    ·exact a5 o h
    ·rw [a2] at h;cases h;exact n1 id rfl
   ·obtain ⟨c1,c2,c3,c4,c5⟩:=a6 j i k v x hu hv
    exact ⟨c1,c2,hm c3,c4,hm c5⟩
 | iter m s e t =>
   obtain ⟨b,bm,a1,a2,a3,a4,a5⟩:=h
   refine ⟨b,bm,a1,a2,a3,a4,fun o hs=>?_⟩
   rcases h2 b o hs with h | ⟨l,h,n1,_⟩
   ·exact a5 o h
   ·rw [a2] at h;cases h;exact n1 id rfl
theorem Ev.settle {S':Nat→Nat→Prop} (h1:∀ b o,S b o→S' b o) (h2:∀ b o,S' b o→S b o∨∃ l,ω b=some l):Ev ω S w ω S' w :=
 ⟨rfl,rfl,rfl,Nat.le_refl _,fun _ _ _=>rfl,fun b o h=>⟨h1 b o h,rfl⟩,fun b o h=>(h2 b o h).imp id fun ⟨l,hl⟩=>.inl (by simp [hl]),fun _ h=>.inl h⟩
theorem VRel.uncons {lab:Nat→Lab} {u:AV} {T:List AV} {tm:List Value} (h:VRel lab ω κ S w (u::T) tm) :
  ∃ v tm',tm=v::tm'∧Rel κ S w u v∧OwnAt ω κ S w (lab 0) u v∧VRel (fun i=>lab (i+1)) ω κ S w T tm':=by
 cases tm with
 | nil=>exact absurd h.len (by simp)
 | cons v tm' =>
   exact ⟨v,tm',rfl,h.rel 0 u v rfl rfl,h.own 0 u v rfl rfl,by simpa using h.len,fun i u' v' hu hv=>h.rel (i+1) u' v' (by simpa using hu) (by simpa using hv),
    fun i u' v' hu hv=>h.own (i+1) u' v' (by simpa using hu) (by simpa using hv)⟩
theorem settle_args:∀ (T:List AV) (tm:List Value) (lab:Nat→Lab) (S:Nat→Nat→Prop),(∀ i j,lab i=lab j→i=j)→(∀ i id,lab i≠.obj id)→(∀ i id j,lab i≠.cell id j) →
  VRel lab ω κ S w T tm→HRel B ω κ S w H →
  ∃ S':Nat→Nat→Prop,(∀ b o,S b o→S' b o)∧(∀ b o,S' b o→S b o∨∃ i,ω b=some (lab i))∧HRel B ω κ S' w H∧VRel lab ω κ S' w (T.map AV.view) tm:=by
 intro T
 induction T with
 | nil=>intro tm lab S _ _ _ hv hH;exact ⟨S,fun _ _ h=>h,fun _ _ h=>.inl h,hH,by simpa using hv⟩
 | cons u T ih =>
   intro tm lab S hj n1 n2 hv hH
   obtain ⟨v,tm',rfl,hr,ho,ht⟩:=hv.uncons
   have first:∃ S1:Nat→Nat→Prop,(∀ b o,S b o→S1 b o)∧(∀ b o,S1 b o→S b o∨ω b=some (lab 0))∧HRel B ω κ S1 w H∧Rel κ S1 w u.view v:=by
    by_cases hu:u.noUniq=true
    ·exact ⟨S,fun _ _ h=>h,fun _ _ h=>.inl h,hH,hr.view hu⟩
    ·obtain ⟨cells,len,z,rfl⟩:∃ cells len z,u=.lst cells len (.uniq z):=by
      unfold AV.noUniq at hu;split at hu
      ·exact ⟨_,_,_,rfl⟩
      ·simp at hu
     obtain ⟨S1,k1,k2,k3,r1,_,_⟩:=settle_main hH hr ho
     exact ⟨S1,k1,k2,hH.settle k1 (fun b o h=>(k2 b o h).imp id fun h=>⟨_,h,n1 0,n2 0⟩) k3,r1⟩
   obtain ⟨S1,k1,k2,hH1,hr1⟩:=first
   have ht1:VRel (fun i=>lab (i+1)) ω κ S1 w T tm':=by
    refine ⟨ht.len,fun i u' v' hu hv=>(ht.rel i u' v' hu hv).mono (Ext.refl κ) fun b o hs=>⟨k1 b o hs,rfl⟩,fun i u' v' hu hv=>?_⟩
    refine (ht.own i u' v' hu hv).mono (Ext.refl κ) (fun b o hs=>⟨k1 b o hs,rfl⟩) fun b hb=>⟨hb,rfl,fun o hs=>?_⟩
    rcases k2 b o hs with h | h
    ·exact h
    ·rw [hb] at h;injection h with h;exact absurd (hj _ _ h) (by omega)
   obtain ⟨S',j1,j2,hH',hv'⟩:=ih tm' (fun i=>lab (i+1)) S1 (fun i j h=>by have:=hj _ _ h;omega) (fun i=>n1 (i+1)) (fun i=>n2 (i+1)) ht1 hH1
   refine ⟨S',fun b o h=>j1 b o (k1 b o h),fun b o h=>?_,hH',?_⟩
   ·rcases j2 b o h with h | ⟨i,h⟩
    ·exact (k2 b o h).imp id fun h=>⟨0,h⟩
    ·exact .inr ⟨i+1,h⟩
   ·exact VRel.cons (hr1.mono (Ext.refl κ) fun b o hs=>⟨j1 b o hs,rfl⟩) (OwnAt.of_plain (AV.view_plain _)) hv'
theorem Rel.int_inv {k:IntKind} {n:Int} {v:Value} (h:Rel κ S w (.int k n) v):v=.int k n:=by cases h;rfl
theorem Rel.bool_inv {b:Bool} {v:Value} (h:Rel κ S w (.bool b) v):v=.bool b:=by cases h;rfl
def Makes (P:Program) (o:Oper) (ρ:Operand→Value) (κ:List Nat) (S:Nat→Nat→Prop) (w:World) (r:AV):Prop :=
 ∃ v,(Go.execOp ρ o).run P w=.ok (.value v) w∧Rel κ S w r v
theorem makes_pick {o:Oper} {ρ:Operand→Value} {c a b:Operand} (ho:o.op=.pick c a b) {x:Bool} {u1 u2:AV} (h1:Rel κ S w (.bool x) (ρ c))
  (h2:Rel κ S w u1 (ρ a)) (h3:Rel κ S w u2 (ρ b)):Makes P o ρ κ S w (match x with | true=>u1 | false=>u2):=by
 have e:=h1.bool_inv
 cases x with
 | true=>exact ⟨ρ a,by simp [Go.execOp,ho,e,asBool],h2⟩
 | false=>exact ⟨ρ b,by simp [Go.execOp,ho,e,asBool],h3⟩
theorem makes_nil {o:Oper} {ρ:Operand→Value} {x:Operand} (ho:o.op=.nilCheck x) {id off:Nat} (h1:Rel κ S w (.ptr id off) (ρ x)) :
  Makes P o ρ κ S w (.ptr id off):=by
 refine ⟨ρ x,?_,h1⟩
 generalize hx:ρ x=vx at h1 ⊢
 cases h1 with
 | ptr id off b h=>simp [Go.execOp,ho,hx]
theorem makes_nil2 {o:Oper} {ρ:Operand→Value} {x:Operand} (ho:o.op=.nilCheck x) {cells:List AV} (h1:Rel κ S w (.lptr cells) (ρ x)) :
  Makes P o ρ κ S w (.lptr cells):=by
 generalize hv:ρ x=v at h1
 have h2:=h1
 cases h1 with
 | lptr _ b o' f h hr=>exact ⟨.pointer (some ⟨b,o',none⟩),by simp [Go.execOp,ho,hv],h2⟩
theorem makes_un {o:Oper} {ρ:Operand→Value} {op:UnOp} {t:TypeId} {x:Operand} (ho:o.op=.unOp op t x) {u r:AV} (hr:aUn op u=some r) (h1:Rel κ S w u (ρ x)) :
  Makes P o ρ κ S w r:=by
 unfold aUn at hr
 split at hr
 ·have e:=h1.bool_inv
  cases op <;> simp at hr
  subst hr
  exact ⟨_,by simp [Go.execOp,ho,e,Op.unary],.bool _⟩
 ·have e:=h1.int_inv
  cases op <;> simp at hr
  subst hr
  exact ⟨_,by simp [Go.execOp,ho,e,Op.unary,Op.intArith],.int _ _⟩
 ·simp at hr
theorem makes_conv {o:Oper} {ρ:Operand→Value} {s d:TypeId} {x:Operand} (ho:o.op=.convert s d x) {u r:AV} (hr:aConv P s d u=some r) (h1:Rel κ S w u (ρ x)):Makes P o ρ κ S w r:=by
 unfold aConv at hr
 split at hr
 ·have e:=h1.int_inv
  split at hr
  ·rename_i ds k hds hk
   simp at hr
   subst hr
   refine ⟨_,?_,.int _ _⟩
   simp only [Go.execOp,ho,e,convert,Sem.run_bind,run_underlying hds,run_underlying hk,Result.andThen_ok]
   cases ds <;> simp [Conv.intToInt]
  ·simp at hr
 ·simp at hr
theorem makes_func {o:Oper} {ρ:Operand→Value} {fn:Fn} {first captured:Array Operand} (ho:o.op=.makeFunc fn first captured) {us:List AV} {r:AV}
  (hr:opMakeFunc fn first.size captured.size us=some r) {lab:Nat→Lab} (hv:VRel lab ω κ S w us ((first++captured).toList.map ρ)) (hp:∀ u∈us,u.plain=true) :
  Makes P o ρ κ S w r:=by
 unfold opMakeFunc at hr
 split at hr
 ·rename_i f
  split at hr
  ·rename_i hl
   simp at hr
   subst hr
   refine ⟨.func (.func f) (first.map ρ) (captured.map ρ),by simp [Go.execOp,ho,Instr.makeFunc],.func f _ _ _ _ ?_ ?_ ?_ ?_ ?_ ?_⟩
   ·simp;omega
   ·simp;omega
   ·exact fun u hu=>hp u (List.mem_of_mem_take hu)
   ·exact fun u hu=>hp u (List.mem_of_mem_drop hu)
   ·intro j u v hu hv'
    refine hv.rel j u v ?_ ?_
    ·rw [List.getElem?_take] at hu;split at hu <;> simp_all
    ·simp only [Array.getElem?_map,Option.map_eq_some_iff] at hv'
     obtain ⟨x,hx,rfl⟩:=hv'
     have:=(Array.getElem?_eq_some_iff.1 hx).1
     rw [Array.getElem?_eq_getElem this] at hx;cases hx;simp [List.getElem?_append_left,this]
   ·intro j u v hu hv'
    refine hv.rel (first.size+j) u v ?_ ?_
    ·simpa [List.getElem?_drop] using hu
    ·simp only [Array.getElem?_map,Option.map_eq_some_iff] at hv'
     obtain ⟨x,hx,rfl⟩:=hv'
     simp [List.getElem?_append_right,hx]
  ·simp at hr
 ·simp at hr
theorem makes_extract {o:Oper} {ρ:Operand→Value} {x:Operand} {i:Nat} (ho:o.op=.extract x i) {u r:AV} (hr:aExtract i u=some r) (h1:Rel κ S w u (ρ x)) :
  Makes P o ρ κ S w r.view:=by
 unfold aExtract at hr
 generalize hx:ρ x=vx at h1
 split at hr
 ·cases h1 with
  | tuple as vs h p rr =>
    have hlt:=(List.getElem?_eq_some_iff.1 hr).1
    have hv:vs[i]?=some (vs[i]'(by omega)):=Array.getElem?_eq_getElem _
    have hp:r.plain=true:=p r (List.mem_of_getElem? hr)
    refine ⟨vs[i]'(by omega),?_,?_⟩
    ·simp [Go.execOp,ho,hx,Instr.extract,hv]
    ·rw [AV.view_of_plain hp];exact rr i _ _ hr hv
 ·simp at hr
theorem run_eqGuard_int {op:BinOp} {t:TypeId} {x y:Operand} {k k':IntKind} {a b:Int}:(eqGuard op t x y (.int k a) (.int k' b)).run P w=.ok () w:=by
 unfold eqGuard;split <;> simp
theorem run_binOp_int {op:BinOp} {t:TypeId} {k k':IntKind} {a b:Int} {r:AV} (hr:aBin P op t (.int k a) (.int k' b)=some r) :
  ∃ v,(Go.binOp op t (.int k a) (.int k' b)).run P w=.ok v w∧Rel κ S w r v:=by
 have sh:∀ op',(op'=.shl∨op'=.shr)→aShift op' k a b=some r→∃ v,(Op.shift op' k a k' b).run P w=.ok v w∧Rel κ S w r v:=by
  intro op' hop h
  unfold aShift at h
  split at h
  ·simp at h
  ·rename_i hb
   rcases hop with rfl | rfl <;> simp at h <;> subst h
   ·exact ⟨_,by simp [Op.shift,hb],.int _ _⟩
   ·exact ⟨_,by simp [Op.shift,hb],.int _ _⟩
 have ar:k=k'→aArith op k a b=some r→∃ v,(Go.binOp op t (.int k a) (.int k' b)).run P w=.ok v w∧Rel κ S w r v:=by
  rintro rfl h
  cases op <;> simp only [aArith,Option.some.injEq,reduceCtorEq] at h
  case quo =>
   split at h
   ·simp at h
   ·rename_i hb;simp at h;subst h;exact ⟨_,by simp [Go.binOp,Op.intDiv,hb],.int _ _⟩
  case rem =>
   split at h
   ·simp at h
   ·rename_i hb;simp at h;subst h;exact ⟨_,by simp [Go.binOp,Op.intDiv,hb],.int _ _⟩
  all_goals subst h
  all_goals first
   | (refine ⟨_,?_,.bool _⟩;simp [Go.binOp,Op.intCmp];done)
   | (refine ⟨_,?_,.int _ _⟩;simp [Go.binOp,Op.intArith];done)
   | (refine ⟨_,?_,.int _ _⟩;simp [Go.binOp,Op.intBits];done)
 unfold aBin at hr
 cases op <;> simp only at hr <;> first
  | (obtain ⟨v,h1,h2⟩:=sh _ (by simp) hr;exact ⟨v,by simpa [Go.binOp] using h1,h2⟩)
  | (split at hr
     ·exact ar ‹_› hr
     ·simp at hr)
theorem makes_bin_int {o:Oper} {ρ:Operand→Value} {op:BinOp} {t yt:TypeId} {x y:Operand} (ho:o.op=.binOp op t x y yt) {k k':IntKind} {a b:Int} {r:AV}
  (hr:aBin P op t (.int k a) (.int k' b)=some r) (h1:Rel κ S w (.int k a) (ρ x)) (h2:Rel κ S w (.int k' b) (ρ y)):Makes P o ρ κ S w r:=by
 obtain ⟨v,hv,hrel⟩:=run_binOp_int (P:=P) (w:=w) (κ:=κ) (S:=S) (t:=t) hr
 refine ⟨v,?_,hrel⟩
 simp only [Go.execOp,ho,h1.int_inv,h2.int_inv,Sem.run_bind,run_eqGuard_int,hv,Result.andThen_ok,Sem.run_pure]
theorem szOf_some {t:TypeId} {s:Nat} (h:szOf P t=some s):∃ i,P.info? t=some i∧i.size=s:=by
 simp only [szOf,Option.map_eq_some_iff] at h;exact h
theorem run_sizeOf {t:TypeId} {s:Nat} (h:szOf P t=some s):(sizeOf t).run P w=.ok s w:=by
 obtain ⟨i,hi,rfl⟩:=szOf_some h
 simp [sizeOf,typeInfo,hi]
theorem run_isAgg {t:TypeId} {d:TypeDesc} (h:P.underlying t=some d):(isAgg t).run P w=.ok (isAggT P t) w:=by
 simp only [isAgg,isAggT,h,Sem.run_bind,run_underlying h,Result.andThen_ok]
 cases d <;> simp
theorem chkIdx_some {i:Int} {len j:Nat} (h:chkIdx i len=some j):0≤i∧i<len∧j=i.toNat:=by
 unfold chkIdx at h;split at h
 ·simp at h;exact ⟨by omega,by omega,h.symm⟩
 ·simp at h
theorem add_lit (b o n:Nat):(⟨b,o,none⟩:Addr).add n=⟨b,o+n,none⟩:=by
 unfold Addr.add;split <;> simp_all
theorem Rel.drop {cells:List AV} {b o:Nat} {f:Nat→Value} (n:Nat)
  (h:∀ (j:Nat) (u:AV),cells[j]?=some u→S b (o+j)∧w.cell? ⟨b,o+j,none⟩=some (f j)∧u.plain=true∧(f j).oneCell'=true)
  (hr:∀ (j:Nat) (u:AV),cells[j]?=some u→Rel κ S w u (f j)):Rel κ S w (.lptr (cells.drop n)) (.pointer (some ⟨b,o+n,none⟩)):=by
 refine .lptr _ b (o+n) (fun j=>f (n+j)) (fun j u hu=>?_) (fun j u hu=>?_)
 ·rw [List.getElem?_drop] at hu
  have:=h (n+j) u hu
  rwa [show o+n+j=o+(n+j) by omega]
 ·rw [List.getElem?_drop] at hu;exact hr (n+j) u hu
theorem makes_indexAddr {o:Oper} {ρ:Operand→Value} {t:TypeId} {x i:Operand} (ho:o.op=.indexAddr t x i) {u1 u2 r:AV} (hr:aIndexAddr P t u1 u2=some r)
  (h1:Rel κ S w u1 (ρ x)) (h2:Rel κ S w u2 (ρ i)) (hn:u1.noUniq=true):Makes P o ρ κ S w r:=by
 unfold aIndexAddr at hr
 generalize hx:ρ x=vx at h1
 split at hr
 ·rename_i hd
  simp only [Option.bind_eq_some_iff,Option.map_eq_some_iff] at hr
  obtain ⟨s,hs,j,hj,rfl⟩:=hr
  obtain ⟨j1,j2,rfl⟩:=chkIdx_some hj
  have e:=h2.int_inv
  cases h1 with
  | lnil c a=>exact absurd j2 (by simp;omega)
  | luniq=>simp [AV.noUniq] at hn
  | lst cells len c b oo cap f hc hle hu h hrr =>
    refine ⟨_,?_,Rel.drop _ h hrr⟩
    simp [Go.execOp,ho,hx,e,Instr.indexAt,asIntOf,run_underlying hd,j1,j2,run_sizeOf hs,add_lit]
 ·rename_i hd
  simp only [Option.bind_eq_some_iff,Option.map_eq_some_iff] at hr
  obtain ⟨s,hs,j,hj,rfl⟩:=hr
  obtain ⟨j1,j2,rfl⟩:=chkIdx_some hj
  have e:=h2.int_inv
  cases h1 with
  | ref id off len c sz b cap h hc hle =>
    refine ⟨_,?_,.ptr _ _ b h⟩
    simp [Go.execOp,ho,hx,e,Instr.indexAt,asIntOf,run_underlying hd,j1,j2,run_sizeOf hs,add_lit]
 ·rename_i hd
  simp only [Option.bind_eq_some_iff,Option.map_eq_some_iff] at hr
  obtain ⟨s,hs,j,hj,rfl⟩:=hr
  obtain ⟨j1,j2,rfl⟩:=chkIdx_some hj
  have e:=h2.int_inv
  cases h1 with
  | ptr id off b h =>
    refine ⟨_,?_,.ptr _ _ b h⟩
    simp [Go.execOp,ho,hx,e,Instr.indexAt,asIntOf,Instr.sureAddr,run_underlying hd,j1,j2,run_sizeOf hs,add_lit]
 ·rename_i hd
  simp only [Option.bind_eq_some_iff,Option.map_eq_some_iff] at hr
  obtain ⟨s,hs,j,hj,rfl⟩:=hr
  obtain ⟨j1,j2,rfl⟩:=chkIdx_some hj
  have e:=h2.int_inv
  cases h1 with
  | lptr cells b oo f h hrr =>
    refine ⟨_,?_,Rel.drop _ h hrr⟩
    simp [Go.execOp,ho,hx,e,Instr.indexAt,asIntOf,Instr.sureAddr,run_underlying hd,j1,j2,run_sizeOf hs,add_lit]
 ·simp at hr
theorem run_fieldPlace {b o s:Nat} {g:Field} (hs:szOf P g.type=some s) (h0:s≠0):(fieldPlace ⟨b,o,none⟩ g).run P w=.ok ⟨b,o+g.offset,none⟩ w:=by
 simp [fieldPlace,run_sizeOf hs,h0,add_lit]
theorem makes_fieldAddr {o:Oper} {ρ:Operand→Value} {t:TypeId} {x:Operand} {fi:Nat} (ho:o.op=.fieldAddr t x fi) {u r:AV} (hr:aFieldAddr P t u fi=some r)
  (h1:Rel κ S w u (ρ x)):Makes P o ρ κ S w r:=by
 unfold aFieldAddr at hr
 generalize hx:ρ x=vx at h1
 split at hr
 ·rename_i hd
  simp only [Option.bind_eq_some_iff] at hr
  obtain ⟨g,hg,s,hs,hr⟩:=hr
  split at hr
  ·simp at hr
  ·rename_i h0
   simp at hr;subst hr
   cases h1 with
   | ptr id off b h =>
     refine ⟨_,?_,.ptr _ _ b h⟩
     simp [Go.execOp,ho,hx,Instr.fieldAt,Instr.sureAddr,run_underlying hd,hg,run_fieldPlace hs h0]
 ·rename_i hd
  simp only [Option.bind_eq_some_iff] at hr
  obtain ⟨g,hg,s,hs,hr⟩:=hr
  split at hr
  ·simp at hr
  ·rename_i h0
   simp at hr;subst hr
   cases h1 with
   | lptr cells b oo f h hrr =>
     refine ⟨_,?_,Rel.drop _ h hrr⟩
     simp [Go.execOp,ho,hx,Instr.fieldAt,Instr.sureAddr,run_underlying hd,hg,run_fieldPlace hs h0]
 ·simp at hr
theorem isAggT_of {t:TypeId} (h:isAggT P t=true):∃ d,P.underlying t=some d:=by
 unfold isAggT at h;split at h <;> first | exact ⟨_,by assumption⟩ | simp at h
theorem run_part {t:TypeId} {as:List AV} {vs:Array Value} {off:Nat} {r:AV} (hr:aPart P t as off=some r) (hl:vs.size=as.length)
  (hp:∀ u∈as,u.plain=true) (hone:∀ v∈vs.toList,v.oneCell'=true) (hrel:∀ (j:Nat) (u:AV) (v:Value),as[j]?=some u→vs[j]?=some v→Rel κ S w u v) :
  ∃ v,(part t vs off).run P w=.ok v w∧Rel κ S w r v∧r.plain=true:=by
 unfold aPart at hr
 cases hag:isAggT P t with
 | true =>
   obtain ⟨d,hd⟩:=isAggT_of hag
   rw [hag] at hr
   simp only [Option.bind_eq_some_iff] at hr
   obtain ⟨s,hs,hr⟩:=hr
   split at hr
   ·rename_i hle
    simp at hr;subst hr
    refine ⟨.agg (vs.extract off (off+s)),by simp [part,run_isAgg hd,hag,run_sizeOf hs],.agg _ _ ?_ ?_ ?_ ?_,rfl⟩
    ·simp;omega
    ·exact fun u hu=>hp u (List.mem_of_mem_drop (List.mem_of_mem_take hu))
    ·exact fun v hv=>hone v (by rw [Array.toList_extract] at hv;exact List.mem_of_mem_drop (List.mem_of_mem_take hv))
    ·intro j u v hu hv
     rw [List.getElem?_take] at hu
     split at hu
     ·rw [List.getElem?_drop] at hu
      rw [Array.getElem?_extract] at hv
      split at hv
      ·exact hrel _ u v hu hv
      ·simp at hv
     ·simp at hu
   ·simp at hr
 | false =>
   rw [hag] at hr
   simp only at hr
   split at hr
   ·rename_i d hd
    have hlt:=(List.getElem?_eq_some_iff.1 hr).1
    have hv:vs[off]?=some (vs[off]'(by omega)):=Array.getElem?_eq_getElem _
    exact ⟨_,by simp [part,run_isAgg hd,hag,hv],hrel off _ _ hr hv,hp r (List.mem_of_getElem? hr)⟩
   ·simp at hr
theorem makes_field {o:Oper} {ρ:Operand→Value} {t:TypeId} {x:Operand} {fi:Nat} (ho:o.op=.field t x fi) {u r:AV} (hr:aField P t u fi=some r)
  (h1:Rel κ S w u (ρ x)):Makes P o ρ κ S w r.view:=by
 unfold aField at hr
 generalize hx:ρ x=vx at h1
 split at hr
 ·rename_i hd
  simp only [Option.bind_eq_some_iff] at hr
  obtain ⟨g,hg,hr⟩:=hr
  cases h1 with
  | agg as vs h p one rr =>
    obtain ⟨v,hv,hrel,hpl⟩:=run_part (w:=w) hr h p one rr
    refine ⟨v,?_,by rw [AV.view_of_plain hpl];exact hrel⟩
    simp [Go.execOp,ho,hx,Instr.field,run_underlying hd,hg,asAgg,hv]
 ·simp at hr
theorem makes_index {o:Oper} {ρ:Operand→Value} {t:TypeId} {x i:Operand} (ho:o.op=.index t x i) {u1 u2 r:AV} (hr:aIndex P t u1 u2=some r)
  (h1:Rel κ S w u1 (ρ x)) (h2:Rel κ S w u2 (ρ i)):Makes P o ρ κ S w r.view:=by
 unfold aIndex at hr
 generalize hx:ρ x=vx at h1
 split at hr
 ·rename_i hd
  simp only [Option.bind_eq_some_iff] at hr
  obtain ⟨s,hs,j,hj,hr⟩:=hr
  obtain ⟨j1,j2,rfl⟩:=chkIdx_some hj
  have e:=h2.int_inv
  cases h1 with
  | agg as vs h p one rr =>
    obtain ⟨v,hv,hrel,hpl⟩:=run_part (w:=w) hr h p one rr
    refine ⟨v,?_,by rw [AV.view_of_plain hpl];exact hrel⟩
    simp [Go.execOp,ho,hx,e,Instr.index,asIntOf,run_underlying hd,j1,j2,run_sizeOf hs,hv]
 ·rename_i b k n hd
  have e:=h2.int_inv
  split at hr
  ·rename_i h0
   simp only [Option.map_eq_some_iff] at hr
   obtain ⟨y,hy,rfl⟩:=hr
   cases h1 with
   | str b =>
     refine ⟨_,?_,.int _ _⟩
     simp [Go.execOp,ho,hx,e,Instr.index,asIntOf,run_underlying hd,h0,hy]
  ·simp at hr
 ·simp at hr
theorem run_equalIn_slice_nil {t e:TypeId} (d:Nat) (ht:P.underlying t=some (.slice e)) (a:Addr) (len cap:Nat) :
  (Op.equalIn (d+1) t (.slice (some a) len cap) (.slice none 0 0)).run P w=.ok false w:=by
 rw [Op.equalIn];simp [run_underlying ht]
theorem run_equal_slice_nil {t e:TypeId} (ht:P.underlying t=some (.slice e)) (a:Addr) (len cap:Nat) :
  (Op.equal t (.slice (some a) len cap) (.slice none 0 0)).run P w=.ok false w:=run_equalIn_slice_nil 9999 ht a len cap
theorem run_equalIn_bool {t:TypeId} (d:Nat) (ht:P.underlying t=some .bool) (a b:Bool):(Op.equalIn (d+1) t (.bool a) (.bool b)).run P w=.ok (a == b) w:=by
 rw [Op.equalIn];simp [run_underlying ht]
theorem run_equal_bool {t:TypeId} (ht:P.underlying t=some .bool) (a b:Bool):(Op.equal t (.bool a) (.bool b)).run P w=.ok (a == b) w:=run_equalIn_bool 9999 ht a b
theorem makes_eqNil {o:Oper} {ρ:Operand→Value} {op:BinOp} {t yt:TypeId} {x y:Operand} (ho:o.op=.binOp op t x y yt) (hy:isNilSlice y=true) {u r:AV}
  (hr:aEqNil P op t u=some r) (h1:Rel κ S w u (ρ x)) (hρ:∀ v,ρ (.const v)=v):Makes P o ρ κ S w r:=by
 have hyc:y=.const (.slice none 0 0):=by
  unfold isNilSlice at hy;split at hy
  ·rfl
  ·simp at hy
 subst hyc
 generalize hx:ρ x=vx at h1
 unfold aEqNil at hr
 split at hr
 ·rename_i e ht
  have hs:(∃ b oo len cap,vx=.slice (some ⟨b,oo,none⟩) len cap)∧((op=.eql∧r=.bool false)∨(op=.neq∧r=.bool true)):=by
   split at hr
   ·refine ⟨?_,by split at hr <;> simp_all⟩
    cases h1 with
    | lst cells len c b oo cap f hc hle hu h hrr=>exact ⟨_,_,_,_,rfl⟩
    | luniq=>exact ⟨_,_,_,_,rfl⟩
   ·refine ⟨?_,by split at hr <;> simp_all⟩
    cases h1 with
    | ref id off len c sz b cap h hc hle=>exact ⟨_,_,_,_,rfl⟩
   ·simp at hr
  obtain ⟨⟨b,oo,len,cap,rfl⟩,⟨rfl,rfl⟩ | ⟨rfl,rfl⟩⟩:=hs
  ·exact ⟨.bool false,by simp [Go.execOp,ho,hx,hρ,eqGuard,Go.binOp,run_equal_slice_nil ht],.bool _⟩
  ·exact ⟨.bool true,by simp [Go.execOp,ho,hx,hρ,eqGuard,Go.binOp,run_equal_slice_nil ht],.bool _⟩
 ·simp at hr
theorem makes_bin_bool {o:Oper} {ρ:Operand→Value} {op:BinOp} {t yt:TypeId} {x y:Operand} (ho:o.op=.binOp op t x y yt) {a b:Bool} {r:AV}
  (hr:aBin P op t (.bool a) (.bool b)=some r) (h1:Rel κ S w (.bool a) (ρ x)) (h2:Rel κ S w (.bool b) (ρ y)):Makes P o ρ κ S w r:=by
 simp only [aBin] at hr
 have e1:=h1.bool_inv
 have e2:=h2.bool_inv
 split at hr
 ·rename_i ht
  simp at hr;subst hr
  exact ⟨_,by simp [Go.execOp,ho,e1,e2,eqGuard,Go.binOp,run_equal_bool ht],.bool _⟩
 ·rename_i ht
  simp at hr;subst hr
  exact ⟨_,by simp [Go.execOp,ho,e1,e2,eqGuard,Go.binOp,run_equal_bool ht],.bool _⟩
 ·simp at hr
theorem eqInts_cons {x y:AV} {xs ys:List AV} {e:Bool} (h:eqInts (x::xs) (y::ys)=some e) :
  ∃ k a b e',x=.int k a∧y=.int k b∧eqInts xs ys=some e'∧e=((a == b) && e'):=by
 cases x <;> cases y <;> simp only [eqInts,reduceCtorEq] at h
 split at h
 ·rename_i hk
  subst hk
  simp only [Option.map_eq_some_iff] at h
  obtain ⟨e',h1,h2⟩:=h
  exact ⟨_,_,_,e',rfl,rfl,h1,h2.symm⟩
 ·simp at h
theorem run_arrayEq_loop {e:TypeId} {k0:IntKind} (d:Nat) (he:P.underlying e=some (.int k0)) (hs:isAggT P e=false):∀ (xs ys:List AV) (vs ws:List Value) (off:Nat) (eq:Bool),
  eqInts xs ys=some eq→VRel (fun _=>.res) ω κ S w xs vs→VRel (fun _=>.res) ω κ S w ys ws→∀ (V W:Array Value),(∀ j,vs[j]?=V[off+j]?)→(∀ j,ws[j]?=W[off+j]?) →
  (forIn (List.range' off xs.length) ((none,()):Option Bool×PUnit) (fun i (_:Option Bool×PUnit)=>(do
    let a ←part e V i
    let b ←part e W i
    let c ←Op.equalIn (d+1) e a b
    if c=false then pure (ForInStep.done (some false,())) else pure (ForInStep.yield (none,())):Sem (ForInStep (Option Bool×PUnit))))).run P w =
   .ok (if eq then none else some false,()) w:=by
 intro xs
 induction xs with
 | nil=>intro ys vs ws off eq h _ _ V W _ _;cases ys <;> simp [eqInts] at h;subst h;simp
 | cons x xs ih =>
   intro ys vs ws off eq h hv hw V W hV hW
   cases ys with
   | nil=>cases x <;> simp [eqInts] at h
   | cons y ys =>
     obtain ⟨k,a,b,e',rfl,rfl,h',rfl⟩:=eqInts_cons h
     obtain ⟨v,vs',rfl,r1,_,hv'⟩:=hv.uncons
     obtain ⟨w',ws',rfl,r2,_,hw'⟩:=hw.uncons
     have e1:=r1.int_inv
     have e2:=r2.int_inv
     subst e1 e2
     have p1:V[off]?=some (.int k a):=by have:=hV 0;simpa using this.symm
     have p2:W[off]?=some (.int k b):=by have:=hW 0;simpa using this.symm
     have ih':=ih ys vs' ws' (off+1) e' h' hv' hw' V W (fun j=>by have:=hV (j+1);simpa [Nat.add_assoc,Nat.add_comm 1] using this) (fun j=>by have:=hW (j+1);simpa [Nat.add_assoc,Nat.add_comm 1] using this)
     have q1:(part e V off).run P w=.ok (.int k a) w:=by simp [part,run_isAgg he,hs,p1]
     have q2:(part e W off).run P w=.ok (.int k b) w:=by simp [part,run_isAgg he,hs,p2]
     have q3:(Op.equalIn (d+1) e (.int k a) (.int k b)).run P w=.ok (a == b) w:=by rw [Op.equalIn];simp [run_underlying he]
     simp only [List.length_cons,List.range'_succ,List.forIn_cons,Sem.run_bind,q1,q2,q3,Result.andThen_ok]
     by_cases hab:a=b
     ·subst hab
      simpa using ih'
     ·simp [hab]
theorem run_equalIn_arr {t e:TypeId} {len:Nat} {k0:IntKind} (d:Nat) (ht:P.underlying t=some (.array len e)) (he:P.underlying e=some (.int k0)) (hs1:szOf P e=some 1)
  {xs ys:List AV} {V W:Array Value} {eq:Bool} (hx:xs.length=len) (h:eqInts xs ys=some eq) (r1:Rel κ S w (.agg xs) (.agg V)) (r2:Rel κ S w (.agg ys) (.agg W)) :
  (Op.equalIn (d+2) t (.agg V) (.agg W)).run P w=.ok eq w:=by
 have hag:isAggT P e=false:=by unfold isAggT;rw [he]
 rw [Op.equalIn]
 simp only [run_underlying ht,run_sizeOf hs1,Sem.run_bind,Result.andThen_ok]
 cases r1 with
 | agg xs V hv p1 o1 q1 =>
   cases r2 with
   | agg ys W hw p2 o2 q2 =>
     have:=run_arrayEq_loop (ω:=fun _=>none) (P:=P) (w:=w) (κ:=κ) (S:=S) d he hag xs ys V.toList W.toList 0 eq h ⟨by simp [hv],fun i u v a b=>q1 i u v a (by simpa using b),fun i u v a _=>OwnAt.of_plain (p1 u (List.mem_of_getElem? a))⟩
      ⟨by simp [hw],fun i u v a b=>q2 i u v a (by simpa using b),fun i u v a _=>OwnAt.of_plain (p2 u (List.mem_of_getElem? a))⟩ V W (by simp) (by simp)
     rw [hx] at this
     simp [this]
     cases eq <;> simp
theorem intFields_cons {f:Field} {fs:List Field} {n:Nat} (h:intFields P (f::fs) n=true) :
  f.offset = n ∧ f.name ≠ "_" ∧ (∃ k, P.underlying f.type = some (.int k)) ∧ szOf P f.type = some 1 ∧ isAggT P f.type = false ∧ intFields P fs (n + 1) = true := by
 simp only [intFields,Bool.and_eq_true,beq_iff_eq,bne_iff_ne] at h
 obtain ⟨⟨⟨h1,h2⟩,h3⟩,h4⟩:=h
 split at h3
 ·rename_i k hu hs
  exact ⟨h1,h2,⟨k,hu⟩,hs,by unfold isAggT;rw [hu],h4⟩
 ·simp at h3
theorem run_structEq_loop (d:Nat):∀ (fs:List Field) (xs ys:List AV) (vs ws:List Value) (off:Nat) (eq:Bool),intFields P fs off=true→xs.length=fs.length→ys.length=fs.length →
  eqInts xs ys=some eq→VRel (fun _=>.res) ω κ S w xs vs→VRel (fun _=>.res) ω κ S w ys ws→∀ (V W:Array Value),(∀ j,vs[j]?=V[off+j]?)→(∀ j,ws[j]?=W[off+j]?) →
  (forIn fs ((none,()):Option Bool×PUnit) (fun f (_:Option Bool×PUnit) =>
    if f.name = "_" then pure (ForInStep.yield (none, ())) else (do
    let a ←part f.type V f.offset
    let b ←part f.type W f.offset
    let c ←Op.equalIn (d+1) f.type a b
    if c=false then pure (ForInStep.done (some false,())) else pure (ForInStep.yield (none,())):Sem (ForInStep (Option Bool×PUnit))))).run P w =
   .ok (if eq then none else some false,()) w:=by
 intro fs
 induction fs with
 | nil =>
   intro xs ys vs ws off eq _ hx hy h _ _ V W _ _
   obtain rfl:=List.length_eq_zero_iff.1 hx
   obtain rfl:=List.length_eq_zero_iff.1 hy
   simp [eqInts] at h;subst h;simp
 | cons f fs ih =>
   intro xs ys vs ws off eq hf hx hy h hv hw V W hV hW
   cases xs with
   | nil=>simp at hx
   | cons x xs =>
     cases ys with
     | nil=>simp at hy
     | cons y ys =>
       obtain ⟨k,a,b,e',rfl,rfl,h',rfl⟩:=eqInts_cons h
       obtain ⟨v,vs',rfl,r1,_,hv'⟩:=hv.uncons
       obtain ⟨w',ws',rfl,r2,_,hw'⟩:=hw.uncons
       obtain ⟨f1,f2,⟨k0,f3⟩,f4,f5,f6⟩:=intFields_cons hf
       have e1:=r1.int_inv
       have e2:=r2.int_inv
       subst e1 e2
       have p1:V[off]?=some (.int k a):=by have:=hV 0;simpa using this.symm
       have p2:W[off]?=some (.int k b):=by have:=hW 0;simpa using this.symm
       have ih':=ih xs ys vs' ws' (off+1) e' f6 (by simpa using hx) (by simpa using hy) h' hv' hw' V W (fun j=>by have:=hV (j+1);simpa [Nat.add_assoc,Nat.add_comm 1] using this) (fun j=>by have:=hW (j+1);simpa [Nat.add_assoc,Nat.add_comm 1] using this)
       have q1:(part f.type V f.offset).run P w=.ok (.int k a) w:=by simp [part,run_isAgg f3,f5,f1,p1]
       have q2:(part f.type W f.offset).run P w=.ok (.int k b) w:=by simp [part,run_isAgg f3,f5,f1,p2]
       have q3:(Op.equalIn (d+1) f.type (.int k a) (.int k b)).run P w=.ok (a == b) w:=by rw [Op.equalIn];simp [run_underlying f3]
       simp only [List.forIn_cons,f2,if_false,Sem.run_bind,q1,q2,q3,Result.andThen_ok]
       by_cases hab:a=b
       ·subst hab
        simpa using ih'
       ·simp [hab]
theorem run_equalIn_struct {t:TypeId} {fs:Array Field} (d:Nat) (ht:P.underlying t=some (.struct fs)) (hf:intFields P fs.toList 0=true) (hsi:P.stoodInHeld t=false)
  {xs ys:List AV} {V W:Array Value} {eq:Bool} (hx:xs.length=fs.size) (hy:ys.length=fs.size) (h:eqInts xs ys=some eq) (r1:Rel κ S w (.agg xs) (.agg V)) (r2:Rel κ S w (.agg ys) (.agg W)) :
  (Op.equalIn (d+2) t (.agg V) (.agg W)).run P w=.ok eq w:=by
 rw [Op.equalIn]
 cases r1 with
 | agg xs V hv p1 o1 q1 =>
   cases r2 with
   | agg ys W hw p2 o2 q2 =>
     have:=run_structEq_loop (ω:=fun _=>none) (P:=P) (w:=w) (κ:=κ) (S:=S) d fs.toList xs ys V.toList W.toList 0 eq hf (by simpa using hx) (by simpa using hy) h ⟨by simp [hv],fun i u v a b=>q1 i u v a (by simpa using b),fun i u v a _=>OwnAt.of_plain (p1 u (List.mem_of_getElem? a))⟩
      ⟨by simp [hw],fun i u v a b=>q2 i u v a (by simpa using b),fun i u v a _=>OwnAt.of_plain (p2 u (List.mem_of_getElem? a))⟩ V W (by simp) (by simp)
     simp only [run_underlying ht,Sem.run_bind,Result.andThen_ok,program,Sem.run,hsi]
     rw [Array.forIn_toList] at this
     simp [this]
     cases eq <;> simp
theorem makes_bin_agg {o:Oper} {ρ:Operand→Value} {op:BinOp} {t yt:TypeId} {x y:Operand} (ho:o.op=.binOp op t x y yt) {xs ys:List AV} {r:AV}
  (hr:aBin P op t (.agg xs) (.agg ys)=some r) (h1:Rel κ S w (.agg xs) (ρ x)) (h2:Rel κ S w (.agg ys) (ρ y)):Makes P o ρ κ S w r:=by
 simp only [aBin] at hr
 split at hr
 ·rename_i len e ht
  split at hr
  ·rename_i k0 he hs1
   split at hr
   ·rename_i hc
    obtain ⟨hx,hy,hg⟩:=hc
    generalize hvx:ρ x=vx at h1
    generalize hvy:ρ y=vy at h2
    have e1:∃ V,vx=.agg V:=by cases h1 with | agg as vs=>exact ⟨_,rfl⟩
    have e2:∃ V,vy=.agg V:=by cases h2 with | agg as vs=>exact ⟨_,rfl⟩
    obtain ⟨V,rfl⟩:=e1
    obtain ⟨W,rfl⟩:=e2
    have key:∀ eq,eqInts xs ys=some eq→(Op.equal t (.agg V) (.agg W)).run P w=.ok eq w:=fun eq h=>run_equalIn_arr 9998 ht he hs1 hx h h1 h2
    split at hr
    ·simp only [Option.map_eq_some_iff] at hr
     obtain ⟨eq,h,rfl⟩:=hr
     exact ⟨.bool eq,by simp [Go.execOp,ho,hvx,hvy,eqGuard,hg,Go.binOp,key eq h,program,Sem.run],.bool _⟩
    ·simp only [Option.map_eq_some_iff] at hr
     obtain ⟨eq,h,rfl⟩:=hr
     exact ⟨.bool (!eq),by simp [Go.execOp,ho,hvx,hvy,eqGuard,hg,Go.binOp,key eq h,program,Sem.run],.bool _⟩
    ·simp at hr
   ·simp at hr
  ·simp at hr
 ·rename_i fs ht
  split at hr
  ·rename_i hc
   obtain ⟨hf,hsi,hx,hy,hg⟩:=hc
   generalize hvx:ρ x=vx at h1
   generalize hvy:ρ y=vy at h2
   have e1:∃ V,vx=.agg V:=by cases h1 with | agg as vs=>exact ⟨_,rfl⟩
   have e2:∃ V,vy=.agg V:=by cases h2 with | agg as vs=>exact ⟨_,rfl⟩
   obtain ⟨V,rfl⟩:=e1
   obtain ⟨W,rfl⟩:=e2
   have key:∀ eq,eqInts xs ys=some eq→(Op.equal t (.agg V) (.agg W)).run P w=.ok eq w:=fun eq h=>run_equalIn_struct 9998 ht hf hsi hx hy h h1 h2
   split at hr
   ·simp only [Option.map_eq_some_iff] at hr
    obtain ⟨eq,h,rfl⟩:=hr
    exact ⟨.bool eq,by simp [Go.execOp,ho,hvx,hvy,eqGuard,hg,Go.binOp,key eq h,program,Sem.run],.bool _⟩
   ·simp only [Option.map_eq_some_iff] at hr
    obtain ⟨eq,h,rfl⟩:=hr
    exact ⟨.bool (!eq),by simp [Go.execOp,ho,hvx,hvy,eqGuard,hg,Go.binOp,key eq h,program,Sem.run],.bool _⟩
   ·simp at hr
  ·simp at hr
 ·simp at hr
end
end Go.Proofs.YtfakoboiahbhaaaGreat.Ab


namespace Go.Proofs.YtfakoboiahbhaaaGreat.Ab
open Go
section
variable {P:Program} {B:Nat} {κ:List Nat} {w:World} {H:List AObj} {ω:Nat→Option Lab} {S:Nat→Nat→Prop}
def ORel (κ:List Nat) (S:Nat→Nat→Prop) (w:World):Option AV→Option Value→Prop
 | none,none=>True
 | some u,some v=>Rel κ S w u v
 | _,_=>False
theorem run_bound {x:Option AV} {v:Option Value} {d y y' r:Nat} (h:aBound x d y=some r) (hx:ORel κ S w x v) (hy:y≤y') :
  (∃ k n,v=some (.int k n)∧x.isSome∧(∀ code,(Instr.sliceBound (.int k n) y' code).run P w=.ok r w)∧r≤y)∨(v=none∧x=none∧r=d):=by
 unfold aBound at h
 split at h
 ·cases v with
  | none=>simp at h;exact .inr ⟨rfl,rfl,h.symm⟩
  | some v=>simp [ORel] at hx
 ·cases v with
  | none=>simp [ORel] at hx
  | some v =>
    have e:=Rel.int_inv hx
    subst e
    split at h
    ·rename_i hb
     simp at h
     subst h
     refine .inl ⟨_,_,rfl,rfl,fun code=>?_,by omega⟩
     have h1:=hb.1
     have h2:_≤(y':Int):=Int.le_trans hb.2 (Int.ofNat_le.2 hy)
     simp [Instr.sliceBound,asIntOf,h1,h2]
    ·simp at h
 ·simp at h
theorem run_bounds_none {lo hi:Option AV} {lo' hi':Option Value} {isS:Bool} {len cap h l:Nat} (hh:aBound hi len len=some h) (hl:aBound lo 0 h=some l) (hle:len≤cap)
  (r1:ORel κ S w lo lo') (r2:ORel κ S w hi hi'):(Instr.sliceBounds isS len cap lo' hi' none).run P w=.ok (l,h,cap) w∧l≤h∧h≤len:=by
 rcases run_bound (P:=P) hh r2 hle with ⟨k,n,rfl,_,q,hb⟩ | ⟨rfl,_,rfl⟩ <;> rcases run_bound (P:=P) hl r1 (Nat.le_refl _) with ⟨k',n',rfl,_,q',hb'⟩ | ⟨rfl,_,rfl⟩ <;>
  refine ⟨?_,by omega,by omega⟩ <;> simp [Instr.sliceBounds, *]
theorem run_bounds_max {lo hi mx:Option AV} {lo' hi' mx':Option Value} {isS:Bool} {len cap m h l:Nat} (hm:aBound mx len len=some m) (hms:mx.isSome) (hhs:hi.isSome)
  (hh:aBound hi m m=some h) (hl:aBound lo 0 h=some l) (hle:len≤cap)
  (r1:ORel κ S w lo lo') (r2:ORel κ S w hi hi') (r3:ORel κ S w mx mx'):(Instr.sliceBounds isS len cap lo' hi' mx').run P w=.ok (l,h,m) w∧l≤h∧h≤m∧m≤len:=by
 rcases run_bound (P:=P) hm r3 hle with ⟨k,n,rfl,_,q,hb⟩ | ⟨rfl,rfl,_⟩
 ·rcases run_bound (P:=P) hh r2 (Nat.le_refl _) with ⟨k2,n2,rfl,_,q2,hb2⟩ | ⟨rfl,rfl,_⟩
  ·rcases run_bound (P:=P) hl r1 (Nat.le_refl _) with ⟨k',n',rfl,_,q',hb'⟩ | ⟨rfl,_,rfl⟩ <;>
    refine ⟨?_,by omega,by omega,by omega⟩ <;> simp [Instr.sliceBounds, *]
  ·simp at hhs
 ·simp at hms
theorem Rel.sub {cells:List AV} {b o cap' n k:Nat} {f:Nat→Value} (d:Nat) (c':Cap) (hc:c'=.full→cap'=n) (hle:n≤cap') (hu:∀ z,c'≠.uniq z)
  (h:∀ (j:Nat) (u:AV),cells[j]?=some u→S b (o+j)∧w.cell? ⟨b,o+j,none⟩=some (f j)∧u.plain=true∧(f j).oneCell'=true)
  (hr:∀ (j:Nat) (u:AV),cells[j]?=some u→Rel κ S w u (f j)):Rel κ S w (.lst ((cells.drop d).take k) n c') (.slice (some ⟨b,o+d,none⟩) n cap'):=by
 refine .lst _ n c' b (o+d) cap' (fun j=>f (d+j)) hc hle hu (fun j u hu'=>?_) (fun j u hu'=>?_)
 ·rw [List.getElem?_take] at hu'
  split at hu'
  ·rw [List.getElem?_drop] at hu'
   have:=h (d+j) u hu'
   rwa [show o+d+j=o+(d+j) by omega]
  ·simp at hu'
 ·rw [List.getElem?_take] at hu'
  split at hu'
  ·rw [List.getElem?_drop] at hu';exact hr (d+j) u hu'
  ·simp at hu'
theorem Rel.empty (c:Cap) (hu:∀ z,c≠.uniq z) (b o cap:Nat) (hc:c=.full→cap=0):Rel κ S w (.lst [] 0 c) (.slice (some ⟨b,o,none⟩) 0 cap) :=
 .lst [] 0 c b o cap (fun _=>undef) hc (Nat.zero_le _) hu (by simp) (by simp)
theorem run_slice {t:TypeId} {u r:AV} {x:Value} {lo hi mx:Option AV} {lo' hi' mx':Option Value} (hr:aSlice P t u lo hi mx=some r) (hp:u.plain=true)
  (h1:Rel κ S w u x) (r1:ORel κ S w lo lo') (r2:ORel κ S w hi hi') (r3:ORel κ S w mx mx') :
  ∃ v,(Instr.sliceAt t x lo' hi' mx').run P w=.ok v w∧Rel κ S w r v∧r.plain=true:=by
 unfold aSlice at hr
 split at hr
 ·rename_i e cells len c hd
  simp only [Option.bind_eq_some_iff] at hr
  obtain ⟨s,hs,hr⟩:=hr
  have pl:∀ (cs:List AV) (n:Nat) (p:Prop) [Decidable p],(AV.lst cs n (if p then .full else .shared)).plain=true:=fun cs n p _=>by split <;> rfl
  have hfu:∀ (p:Prop) [Decidable p] (z:Nat),(if p then Cap.full else Cap.shared)≠.uniq z:=fun p _ z=>by split <;> simp
  split at hr
  ·simp only [Option.bind_eq_some_iff] at hr
   obtain ⟨h,hh,l,hl,hr⟩:=hr
   simp at hr;subst hr
   cases mx' with
   | some _=>simp [ORel] at r3
   | none =>
   cases h1 with
   | lnil c a =>
     obtain ⟨q,q1,q2⟩:=run_bounds_none (P:=P) (isS:=true) (cap:=0) hh hl (by omega) r1 r2
     obtain rfl:h=0:=by omega
     obtain rfl:l=0:=by omega
     exact ⟨.slice a 0 0,by cases a <;> simp [Instr.sliceAt,Instr.slice,run_underlying hd,q,run_sizeOf hs,Addr.add],by simpa using .lnil _ _,pl _ _ _⟩
   | luniq=>simp [AV.plain] at hp
   | lst cells len c b o cap f hc hle hu hcell hrel =>
     obtain ⟨q,q1,q2⟩:=run_bounds_none (P:=P) (isS:=true) (cap:=cap) hh hl hle r1 r2
     refine ⟨_,by simp [Instr.sliceAt,Instr.slice,run_underlying hd,q,run_sizeOf hs];rfl,?_,pl _ _ _⟩
     by_cases hml:cap=l
     ·obtain rfl:h=l:=by omega
      simp only [hml,if_true,Nat.sub_self,Nat.zero_mul,List.take_zero]
      exact Rel.empty _ (hfu _) _ _ _ (by simp)
     ·simp only [hml,if_false,add_lit]
      refine Rel.sub _ _ (fun he=>?_) (by omega) (hfu _) hcell hrel
      split at he
      ·rename_i hc2;rw [hc hc2.1,hc2.2]
      ·simp at he
  ·rename_i hmx hhi
   simp only [Option.bind_eq_some_iff] at hr
   obtain ⟨m,hm,h,hh,l,hl,hr⟩:=hr
   simp at hr;subst hr
   cases h1 with
   | lnil c a =>
     obtain ⟨q,q1,q2,q3⟩:=run_bounds_max (P:=P) (isS:=true) (cap:=0) hm rfl rfl hh hl (by omega) r1 r2 r3
     obtain rfl:m=0:=by omega
     obtain rfl:h=0:=by omega
     obtain rfl:l=0:=by omega
     exact ⟨.slice a 0 0,by cases a <;> simp [Instr.sliceAt,Instr.slice,run_underlying hd,q,run_sizeOf hs,Addr.add],by simpa using .lnil _ _,pl _ _ _⟩
   | luniq=>simp [AV.plain] at hp
   | lst cells len c b o cap f hc hle hu hcell hrel =>
     obtain ⟨q,q1,q2,q3⟩:=run_bounds_max (P:=P) (isS:=true) (cap:=cap) hm rfl rfl hh hl hle r1 r2 r3
     refine ⟨_,by simp [Instr.sliceAt,Instr.slice,run_underlying hd,q,run_sizeOf hs];rfl,?_,pl _ _ _⟩
     by_cases hml:m=l
     ·obtain rfl:h=l:=by omega
      simp only [hml,if_true,Nat.sub_self,Nat.zero_mul,List.take_zero]
      exact Rel.empty _ (by simp) _ _ _ (by simp)
     ·simp only [hml,if_false,add_lit]
      refine Rel.sub _ _ (fun he=>?_) (by omega) (hfu _) hcell hrel
      split at he
      ·rename_i hc2;rw [hc2]
      ·simp at he
  ·simp at hr
 ·rename_i e id off len cap sz hd
  simp only [Option.bind_eq_some_iff] at hr
  obtain ⟨s,hs,hr⟩:=hr
  split at hr
  ·simp at hr
  ·rename_i hsz
   obtain rfl:s=sz:=by simpa using hsz
   split at hr
   ·simp only [Option.bind_eq_some_iff] at hr
    obtain ⟨h,hh,l,hl,hr⟩:=hr
    cases mx' with
    | some _=>simp [ORel] at r3
    | none =>
    cases h1 with
    | ref id off len c sz b cap' hb hc hle =>
      obtain ⟨q,q1,q2⟩:=run_bounds_none (P:=P) (isS:=true) (cap:=cap') hh hl hle r1 r2
      split at hr
      ·rename_i hll
       simp at hr;subst hr
       have:cap'≠l:=by omega
       refine ⟨_,by simp [Instr.sliceAt,Instr.slice,run_underlying hd,q,run_sizeOf hs,this,add_lit];rfl,.ref _ _ _ _ _ b _ hb (fun n hn=>?_) (by omega),rfl⟩
       simp only [Option.map_eq_some_iff] at hn
       obtain ⟨c0,hc0,rfl⟩:=hn
       rw [hc c0 hc0]
      ·simp at hr;subst hr
       obtain rfl:h=l:=by omega
       refine ⟨_,by simp [Instr.sliceAt,Instr.slice,run_underlying hd,q,run_sizeOf hs];rfl,?_,rfl⟩
       split
       ·exact Rel.empty _ (by simp) _ _ _ (by simp)
       ·simp only [add_lit];exact Rel.empty _ (by simp) _ _ _ (by simp)
   ·simp only [Option.bind_eq_some_iff] at hr
    obtain ⟨m,hm,h,hh,l,hl,hr⟩:=hr
    cases h1 with
    | ref id off len c sz b cap' hb hc hle =>
      obtain ⟨q,q1,q2,q3⟩:=run_bounds_max (P:=P) (isS:=true) (cap:=cap') hm rfl rfl hh hl hle r1 r2 r3
      split at hr
      ·rename_i hml
       split at hr
       ·rename_i hl0
        simp at hr;subst hr
        refine ⟨_,by simp [Instr.sliceAt,Instr.slice,run_underlying hd,q,run_sizeOf hs,hml];rfl,.ref _ _ _ _ _ b _ hb (fun n hn=>by simpa [hml] using hn) (by omega),rfl⟩
       ·simp at hr
      ·rename_i hml
       simp at hr;subst hr
       exact ⟨_,by simp [Instr.sliceAt,Instr.slice,run_underlying hd,q,run_sizeOf hs,hml,add_lit];rfl,.ref _ _ _ _ _ b _ hb (fun n hn=>by simpa using hn) (by omega),rfl⟩
   ·simp at hr
 ·rename_i n e id off hd
  simp only [Option.bind_eq_some_iff] at hr
  obtain ⟨s,hs,hr⟩:=hr
  split at hr
  ·simp only [Option.bind_eq_some_iff] at hr
   obtain ⟨h,hh,l,hl,hr⟩:=hr
   cases mx' with
   | some _=>simp [ORel] at r3
   | none =>
   cases h1 with
   | ptr id off b hb =>
     obtain ⟨q,q1,q2⟩:=run_bounds_none (P:=P) (isS:=false) (cap:=n) hh hl (Nat.le_refl _) r1 r2
     split at hr
     ·simp at hr
     ·rename_i hml
      simp at hr;subst hr
      exact ⟨_,by simp [Instr.sliceAt,Instr.sureAddr,run_underlying hd,q,run_sizeOf hs,hml,add_lit];rfl,.ref _ _ _ _ _ b _ hb (fun n hn=>by simpa using hn) (by omega),rfl⟩
  ·simp at hr
 ·simp at hr
end
end Go.Proofs.YtfakoboiahbhaaaGreat.Ab


namespace Go.Proofs.YtfakoboiahbhaaaGreat.Ab
open Go
section
variable {P:Program} {B:Nat} {κ:List Nat} {w:World} {H:List AObj} {ω:Nat→Option Lab} {S:Nat→Nat→Prop}
theorem ObjRel.frame {ω':Nat→Option Lab} {κ':List Nat} {S':Nat→Nat→Prop} {w':World} (hκ:Ext κ κ')
  (hS:∀ b o,S b o→S' b o∧w'.cell? ⟨b,o,none⟩=w.cell? ⟨b,o,none⟩) {id:Nat}
  (hk:∀ b l,ω b=some l→(l=.obj id∨∃ j,l=.cell id j)→ω' b=some l∧w'.heap[b]?=w.heap[b]?∧∀ o,S' b o→S b o)
  {o:AObj} (h:ObjRel ω κ S w id o):ObjRel ω' κ' S' w' id o:=by
 cases o with
 | dead=>trivial
 | cells l =>
   obtain ⟨b,cur,e,a1,a2,a3,a4,a5,a6⟩:=h
   obtain ⟨k1,k2,k3⟩:=hk b _ a2 (.inl rfl)
   refine ⟨b,cur,e,hκ _ _ a1,k1,k2.trans a3,a4,fun o hs=>a5 o (k3 o hs),fun j u v hu hv=>?_⟩
   obtain ⟨c1,c0,c2,c3⟩:=a6 j u v hu hv
   exact ⟨c1,c0,c2.mono hκ hS,c3.mono hκ hS fun b hb=>hk b _ hb (.inr ⟨j,rfl⟩)⟩
 | grow l gid z =>
   obtain ⟨b,cur,e,a1,a2,a3,a4,a5,a6,cap,a7,a8⟩:=h
   obtain ⟨k1,k2,k3⟩:=hk b _ a2 (.inl rfl)
   refine ⟨b,cur,e,hκ _ _ a1,k1,k2.trans a3,a4,fun o hs=>a5 o (k3 o hs),fun j u v hu hv=>?_,cap,hκ _ _ a7,a8⟩
   obtain ⟨c1,c0,c2,c3⟩:=a6 j u v hu hv
   exact ⟨c1,c0,c2.mono hκ hS,c3.mono hκ hS fun b hb=>hk b _ hb (.inr ⟨j,rfl⟩)⟩
 | loop st pend fn T params assign body ann =>
   obtain ⟨hx,hy,b,L,a1,a2,a3,a4,a5,a6,a7,a8,a9⟩:=h
   obtain ⟨k1,k2,k3⟩:=hk b _ a2 (.inl rfl)
   exact ⟨hx,hy,b,L,hκ _ _ a1,k1,k2.trans a3,a4,a5,a6,a7,fun i u v hu hv=>⟨(a8 i u v hu hv).1,(a8 i u v hu hv).2.mono hκ hS⟩,a9⟩
 | map es clock =>
   obtain ⟨b,ents,a1,a2,a3,a4,a5,a6⟩:=h
   obtain ⟨k1,k2,k3⟩:=hk b _ a2 (.inl rfl)
   exact ⟨b,ents,hκ _ _ a1,k1,k2.trans a3,a4,fun o hs=>a5 o (k3 o hs),fun j i k v x hu hv =>
    let ⟨c1,c2,c3,c4,c5⟩:=a6 j i k v x hu hv;⟨c1,c2,c3.mono hκ hS,c4,c5.mono hκ hS⟩⟩
 | iter m s e t =>
   obtain ⟨b,bm,a1,a2,a3,a4,a5⟩:=h
   obtain ⟨k1,k2,k3⟩:=hk b _ a2 (.inl rfl)
   exact ⟨b,bm,hκ _ _ a1,k1,hκ _ _ a3,k2.trans a4,fun o hs=>a5 o (k3 o hs)⟩
theorem HRel.frame {ω':Nat→Option Lab} {S':Nat→Nat→Prop} {w':World} (hH:HRel B ω κ S w H) (ev:Ev ω S w ω' S' w')
  (hk:∀ b l,ω b=some l→((∃ id,l=.obj id)∨∃ id j,l=.cell id j)→ω' b=some l∧w'.heap[b]?=w.heap[b]?∧∀ o,S' b o→S b o)
  (h3:∀ b o,S' b o→∃ v,w'.cell? ⟨b,o,none⟩=some v) (h4:∀ b l,ω' b=some l→B≤b∧b<w'.heap.size):HRel B ω' κ S' w' H :=
 ⟨hH.klen,fun id o ho=>(hH.obj id o ho).frame (Ext.refl κ) ev.set (fun b l hb hl=>hk b l hb (by
  rcases hl with rfl | ⟨j,rfl⟩
  ·exact .inl ⟨id,rfl⟩
  ·exact .inr ⟨id,j,rfl⟩)),h3,h4,Nat.le_trans hH.bsz ev.size⟩
theorem HRel.push (hH:HRel B ω κ S w H) (n:Nat) {o:AObj} (ho:ObjRel ω (κ++[n]) S w H.length o):HRel B ω (κ++[n]) S w (H++[o]) where
 klen:=by simp [hH.klen]
 obj id o' h:=by
  rcases Nat.lt_trichotomy id H.length with hlt | rfl | hgt
  ·rw [List.getElem?_append_left hlt] at h
   exact (hH.obj id o' h).frame (Ext.append κ [n]) (fun b o hs=>⟨hs,rfl⟩) fun b l hb _=>⟨hb,rfl,fun o hs=>hs⟩
  ·simp at h;subst h;exact ho
  ·rw [List.getElem?_append_right (by omega)] at h
   have:id-H.length≠0:=by omega
   obtain ⟨k,hk⟩:=Nat.exists_eq_succ_of_ne_zero this
   rw [hk] at h;simp at h
 swf:=hH.swf
 base:=hH.base
 bsz:=hH.bsz
theorem HRel.ungrow (hH:HRel B ω κ S w H) {id:Nat} {l:List AV} {g z:Nat} (hid:H[id]?=some (.grow l g z)):HRel B ω κ S w (H.set id (.cells l)):=by
 refine ⟨by simpa using hH.klen,fun id' o ho=>?_,hH.swf,hH.base,hH.bsz⟩
 by_cases hii:id'=id
 ·subst hii
  rw [List.getElem?_set_self (List.getElem?_eq_some_iff.1 hid).1] at ho
  cases ho
  obtain ⟨b,cur,e,a1,a2,a3,a4,a5,a6,_⟩:=hH.obj id' _ hid
  exact ⟨b,cur,e,a1,a2,a3,a4,a5,a6⟩
 ·rw [List.getElem?_set_ne (Ne.symm hii)] at ho
  exact hH.obj id' o ho
theorem HRel.regrow (hH:HRel B ω κ S w H) {id:Nat} {l:List AV} {g z b cap:Nat} {cur:Array Value} {e:TypeId} (hid:H[id]?=some (.cells l)) (hb:κ[id]?=some b) (hg:κ[g]?=some cap)
  (hm:cap≤maxLen) (hz:0<z) (hc:w.heap[b]?=some (.cells cur e (0,0))) (hs:cur.size=cap*z):HRel B ω κ S w (H.set id (.grow l g z)):=by
 refine ⟨by simpa using hH.klen,fun id' o ho=>?_,hH.swf,hH.base,hH.bsz⟩
 by_cases hii:id'=id
 ·subst hii
  rw [List.getElem?_set_self (List.getElem?_eq_some_iff.1 hid).1] at ho
  cases ho
  obtain ⟨b',cur',e',a1,a2,a3,a4,a5,a6⟩:=hH.obj id' _ hid
  rw [hb] at a1;cases a1
  rw [hc] at a3;cases a3
  exact ⟨b,cur,e,hb,a2,hc,a4,a5,a6,cap,hg,hm,hz,hs⟩
 ·rw [List.getElem?_set_ne (Ne.symm hii)] at ho
  exact hH.obj id' o ho
def lay (ω:Nat→Option Lab) (n:Nat) (l:Lab):Nat→Option Lab:=fun b=>if b=n then some l else ω b
theorem cell_alloc (o:Obj) {b i:Nat} (hb:b<w.heap.size):(w.alloc o).cell? ⟨b,i,none⟩=w.cell? ⟨b,i,none⟩:=by
 have:(w.alloc o).heap[b]?=w.heap[b]?:=heap_alloc_old w o b hb
 unfold World.cell?;simp only [this]
theorem ev_alloc (hH:HRel B ω κ S w H) (o:Obj) (l:Lab):Ev ω S w (lay ω w.heap.size l) S (w.alloc o) where
 os:=rfl
 tape:=rfl
 output:=rfl
 size:=by simp
 keep b hb _:=heap_alloc_old w o b hb
 set b o' hs:=⟨hs,by obtain ⟨v,hv⟩:=hH.swf b o' hs;exact cell_alloc o (lt_of_cell hv)⟩
 fresh _ _ hs:=.inl hs
 own b hb:=by
  unfold lay at hb;split at hb
  ·rename_i h;exact .inr (by omega)
  ·exact .inl hb
theorem hrel_alloc (hH:HRel B ω κ S w H) (o:Obj) (l:Lab):HRel B (lay ω w.heap.size l) κ S (w.alloc o) H:=by
 have ev:=ev_alloc hH o l
 refine hH.frame ev (fun b l' hb _=>?_) (fun b o' hs=>?_) (fun b l' hb=>?_)
 ·have:=(hH.base b l' hb).2
  exact ⟨by simp [lay,show b≠w.heap.size by omega,hb],heap_alloc_old w o b this,fun o hs=>hs⟩
 ·obtain ⟨v,hv⟩:=hH.swf b o' hs
  exact ⟨v,((ev.set b o' hs).2).trans hv⟩
 ·unfold lay at hb;split at hb
  ·rename_i h;subst h;exact ⟨hH.bsz,by simp⟩
  ·have:=hH.base b l' hb;exact ⟨this.1,by simp;omega⟩
theorem drew_ev (ω:Nat→Option Lab) (S:Nat→Nat→Prop) (w:World):Ev ω S w ω S w.drew :=
 ⟨rfl,rfl,rfl,Nat.le_refl _,fun _ _ _=>rfl,fun _ _ h=>⟨h,rfl⟩,fun _ _ h=>.inl h,fun _ h=>.inl h⟩
theorem hrel_drew (hH:HRel B ω κ S w H):HRel B ω κ S w.drew H :=
 hH.frame (drew_ev ω S w) (fun _ _ hb _=>⟨hb,rfl,fun _ h=>h⟩) hH.swf hH.base
theorem no_settled_new (hH:HRel B ω κ S w H) (o:Nat):¬ S w.heap.size o:=fun hs=>by
 obtain ⟨v,hv⟩:=hH.swf _ o hs
 exact absurd (lt_of_cell hv) (Nat.lt_irrefl _)
structure CRel (κ:List Nat) (S:Nat→Nat→Prop) (w:World) (cs:List AV) (vs:List Value):Prop where
 len:cs.length=vs.length
 rel:∀ (j:Nat) (u:AV) (v:Value),cs[j]?=some u→vs[j]?=some v→u.plain=true∧v.oneCell'=true∧Rel κ S w u v
theorem CRel.mono {κ':List Nat} {S':Nat→Nat→Prop} {w':World} {cs:List AV} {vs:List Value} (h:CRel κ S w cs vs) (hκ:Ext κ κ')
  (hS:∀ b o,S b o→S' b o∧w'.cell? ⟨b,o,none⟩=w.cell? ⟨b,o,none⟩):CRel κ' S' w' cs vs :=
 ⟨h.len,fun j u v hu hv=>let ⟨a,b,c⟩:=h.rel j u v hu hv;⟨a,b,c.mono hκ hS⟩⟩
theorem CRel.append {a b:List AV} {c d:List Value} (h:CRel κ S w a c) (k:CRel κ S w b d):CRel κ S w (a++b) (c++d):=by
 refine ⟨by simp [h.len,k.len],fun j u v hu hv=>?_⟩
 rcases Nat.lt_or_ge j a.length with hj | hj
 ·rw [List.getElem?_append_left hj] at hu
  rw [List.getElem?_append_left (h.len ▸ hj)] at hv
  exact h.rel j u v hu hv
 ·rw [List.getElem?_append_right hj] at hu
  rw [List.getElem?_append_right (h.len ▸ hj),←h.len] at hv
  exact k.rel _ u v hu hv
theorem new_row (hH:HRel B ω κ S w H) {cs:List AV} {vs:List Value} (hc:CRel κ S w cs vs) (spare:List Value) (e:TypeId) (len cap z:Nat) (hz:0<z) (hl:cs.length=len*z)
  (hcap:len≤cap) (hm:cap≤maxLen) (hs:vs.length+spare.length=cap*z) :
  Post B ω κ S w H (.lst cs len (.uniq z)) (.slice (some ⟨w.heap.size,0,none⟩) len cap) (w.alloc (.cells (vs++spare).toArray e)):=by
 have ev:=ev_alloc hH (.cells (vs++spare).toArray e) .res
 refine ⟨_,κ,S,Ext.refl κ,ev,hrel_alloc hH _ .res,.luniq _ _ _ _ _ _,.inr ⟨by simp [lay],rfl,hcap,hm,hz,hl,⟨_,e,heap_alloc_new w _,by simp [hs],fun j u v hu hv=>?_⟩,no_settled_new hH⟩⟩
 have hj:j<vs.length:=hc.len ▸ (List.getElem?_eq_some_iff.1 hu).1
 have hv':vs[j]?=some v:=by simpa [List.getElem?_append_left hj] using hv
 obtain ⟨a,b,c⟩:=hc.rel j u v hu hv'
 exact ⟨a,b,c.mono (Ext.refl κ) ev.set⟩
end
end Go.Proofs.YtfakoboiahbhaaaGreat.Ab


namespace Go.Proofs.YtfakoboiahbhaaaGreat.Ab
open Go
section
variable {P:Program} {B:Nat} {κ:List Nat} {w:World} {H:List AObj} {ω:Nat→Option Lab} {S:Nat→Nat→Prop}
theorem run_ld {t:TypeId} {cs:List AV} {b base off:Nat} {g:Nat→Value} {r:AV}
  (hc:∀ (j:Nat) (u:AV),cs[j]?=some u→w.cell? ⟨b,base+j,none⟩=some (g j)∧(g j).oneCell'=true∧Rel κ S w u.view (g j)) (hr:ldPart P t cs off=some r) :
  ∃ v,(loadVar t ⟨b,base+off,none⟩).run P w=.ok v w∧Rel κ S w r v∧r.plain=true:=by
 unfold ldPart at hr
 cases hag:isAggT P t with
 | true =>
   obtain ⟨d,hd⟩:=isAggT_of hag
   rw [hag] at hr
   simp only [Option.bind_eq_some_iff] at hr
   obtain ⟨s,hs,hr⟩:=hr
   split at hr
   ·rename_i hle
    simp only [Option.some.injEq] at hr;subst hr
    have hcell:∀ j,j<s→w.cell? ((⟨b,base+off,none⟩:Addr).add j)=some (g (off+j)):=fun j hj=>by
     have hlt:off+j<cs.length:=by omega
     rw [add_lit,Nat.add_assoc]
     exact (hc (off+j) _ (List.getElem?_eq_getElem hlt)).1
    have hl:=run_loadCells (P:=P) (w:=w) ⟨b,base+off,none⟩ s (fun j=>g (off+j)) hcell
    refine ⟨_,by simp only [loadVar,Sem.run_bind,run_isAgg hd,hag,Result.andThen_ok,if_true,run_sizeOf hs,hl];rfl,.agg _ _ ?_ ?_ ?_ ?_,rfl⟩
    ·simp;omega
    ·intro u hu;obtain ⟨x,_,rfl⟩:=List.mem_map.1 hu;exact AV.view_plain x
    ·intro v hv
     obtain ⟨j,hj,rfl⟩:=List.mem_map.1 hv
     have hj:=List.mem_range.1 hj
     have hlt:off+j<cs.length:=by omega
     exact (hc (off+j) _ (List.getElem?_eq_getElem hlt)).2.1
    ·intro j u v hu hv
     simp only [List.getElem?_map,Option.map_eq_some_iff] at hu
     obtain ⟨x,hx,rfl⟩:=hu
     rw [List.getElem?_take] at hx
     split at hx
     ·rename_i hj
      rw [List.getElem?_drop] at hx
      simp [hj] at hv
      subst hv
      exact (hc (off+j) x hx).2.2
     ·simp at hx
   ·simp at hr
 | false =>
   rw [hag] at hr
   simp only at hr
   split at hr
   ·rename_i d hd
    simp only [Option.map_eq_some_iff] at hr
    obtain ⟨u,hu,rfl⟩:=hr
    obtain ⟨h1,h2,h3⟩:=hc off u hu
    exact ⟨g off,by simp [loadVar,run_isAgg hd,hag,load,Sem.run,h1],h3,AV.view_plain u⟩
   ·simp at hr
theorem run_loadAt (hH:HRel B ω κ S w H) {t:TypeId} {a r:AV} {v:Value} (hr:aLoad P H t a=some r) (h1:Rel κ S w a v) :
  ∃ x,(Instr.loadAt t v).run P w=.ok x w∧Rel κ S w r x∧r.plain=true:=by
 unfold aLoad at hr
 split at hr
 ·rename_i id off
  have key:∀ l:List AV,(∃ b cur e,κ[id]?=some b∧ω b=some (.obj id)∧w.heap[b]?=some (.cells cur e (0,0))∧l.length≤cur.size∧(∀ o,¬ S b o) ∧
    ∀ (j:Nat) (u:AV) (v:Value),l[j]?=some u→cur[j]?=some v→u.noUniq=true∧v.oneCell'=true∧Rel κ S w u v∧OwnAt ω κ S w (.cell id j) u v)→ldPart P t l off=some r →
    ∃ x,(Instr.loadAt t v).run P w=.ok x w∧Rel κ S w r x∧r.plain=true:=by
   rintro l ⟨b,cur,e,a1,a2,a3,a4,a5,a6⟩ hr
   cases h1 with
   | ptr id off b' hb =>
     rw [a1] at hb;cases hb
     have facts:∀ (j:Nat) (u:AV),l[j]?=some u→w.cell? ⟨b,0+j,none⟩=some (cur.getD j undef)∧(cur.getD j undef).oneCell'=true∧Rel κ S w u.view (cur.getD j undef):=by
      intro j u hu
      have hj:j<cur.size:=by have:=(List.getElem?_eq_some_iff.1 hu).1;omega
      have hcj:cur[j]?=some cur[j]:=Array.getElem?_eq_getElem _
      obtain ⟨c1,c0,c2,_⟩:=a6 j u _ hu hcj
      have hg:cur.getD j undef=cur[j]:=by simp [Array.getD,hj]
      rw [hg]
      exact ⟨by rw [cell_of_row w b _ cur e (0,0) a3,Nat.zero_add,hcj],c0,c2.view c1⟩
     obtain ⟨x,hx,hrel⟩:=run_ld facts hr
     rw [Nat.zero_add] at hx
     exact ⟨x,by simp [Instr.loadAt,Instr.sureAddr,hx],hrel⟩
  split at hr
  ·rename_i l hid
   exact key l (hH.obj id _ hid) hr
  ·rename_i l g z hid
   obtain ⟨b,cur,e,a1,a2,a3,a4,a5,a6,_⟩:=hH.obj id _ hid
   exact key l ⟨b,cur,e,a1,a2,a3,a4,a5,a6⟩ hr
  ·simp at hr
 ·cases h1 with
  | lptr cells b o f h hrr =>
    obtain ⟨x,hx,hrel⟩:=run_ld (κ:=κ) (S:=S) (w:=w) (b:=b) (base:=o) (g:=f) (fun j u hu=>⟨(h j u hu).2.1,(h j u hu).2.2.2,(hrr j u hu).view (AV.plain_noUniq (h j u hu).2.2.1)⟩) hr
    rw [Nat.add_zero] at hx
    exact ⟨x,by simp [Instr.loadAt,Instr.sureAddr,hx],hrel⟩
 ·simp at hr
theorem cells_ready (hH:HRel B ω κ S w H) {l:Lab} (n1:∀ id,l≠.obj id) (n2:∀ id j,l≠.cell id j) {u:AV} {v:Value} {vc:List AV} (hc:u.cells=some vc) (hr:Rel κ S w u v) (ho:OwnAt ω κ S w l u v) :
  ∃ S':Nat→Nat→Prop,(∀ b o,S b o→S' b o)∧(∀ b o,S' b o→S b o∨ω b=some l)∧HRel B ω κ S' w H∧v.cells.size=vc.length ∧
    (∀ x∈v.cells.toList,x.oneCell'=true) ∧
    ∀ (j:Nat) (u':AV) (v':Value),(vc.map AV.settle)[j]?=some u'→v.cells[j]?=some v'→u'.noUniq=true∧Rel κ S' w u' v'∧(u'.plain=true∨(j=0∧vc=[u]∧OwnAt ω κ S' w l u' v')):=by
 have single:vc=[u]→v.cells=#[v]→v.oneCell'=true→∃ S':Nat→Nat→Prop,(∀ b o,S b o→S' b o)∧(∀ b o,S' b o→S b o∨ω b=some l)∧HRel B ω κ S' w H∧v.cells.size=vc.length ∧
   (∀ x∈v.cells.toList,x.oneCell'=true) ∧
   ∀ (j:Nat) (u':AV) (v':Value),(vc.map AV.settle)[j]?=some u'→v.cells[j]?=some v'→u'.noUniq=true∧Rel κ S' w u' v'∧(u'.plain=true∨(j=0∧vc=[u]∧OwnAt ω κ S' w l u' v')):=by
  intro hvc hv h1
  subst hvc
  rw [hv]
  by_cases hu:u.noUniq=true
  ·refine ⟨S,fun _ _ h=>h,fun _ _ h=>.inl h,hH,rfl,by simp [h1],fun j u' v' hj hj'=>?_⟩
   have hs:u.settle=u:=by
    unfold AV.settle;split
    ·simp [AV.noUniq] at hu
    ·rfl
   cases j with
   | zero=>simp [hs] at hj hj';subst hj hj';exact ⟨hu,hr,.inr ⟨rfl,rfl,ho⟩⟩
   | succ j=>simp at hj
  ·obtain ⟨cells,len,z,rfl⟩:∃ cells len z,u=.lst cells len (.uniq z):=by
    unfold AV.noUniq at hu;split at hu
    ·exact ⟨_,_,_,rfl⟩
    ·simp at hu
   obtain ⟨S1,k1,k2,k3,_,r2,r3⟩:=settle_main hH hr ho
   refine ⟨S1,k1,k2,hH.settle k1 (fun b o h=>(k2 b o h).imp id fun h=>⟨_,h,n1,n2⟩) k3,rfl,by simp [h1],fun j u' v' hj hj'=>?_⟩
   cases j with
   | zero=>simp [AV.settle] at hj hj';subst hj hj';exact ⟨rfl,r2,.inr ⟨rfl,rfl,r3⟩⟩
   | succ j=>simp at hj
 cases hr with
 | agg as vs h p one r =>
   simp [AV.cells] at hc
   subst hc
   refine ⟨S,fun _ _ h=>h,fun _ _ h=>.inl h,hH,h,one,fun j u' v' hj hj'=>?_⟩
   simp only [List.getElem?_map,Option.map_eq_some_iff] at hj
   obtain ⟨x,hx,rfl⟩:=hj
   have hp:=p x (List.mem_of_getElem? hx)
   have hs:x.settle=x:=by
    unfold AV.settle;split
    ·simp [AV.plain] at hp
    ·rfl
   rw [hs]
   exact ⟨AV.plain_noUniq hp,r j x v' hx hj',.inl hp⟩
 | junk v=>simp [AV.cells] at hc
 | tuple as vs h p r=>simp [AV.cells] at hc
 | raw=>simp [AV.cells] at hc
 | _=>simp [AV.cells] at hc;exact single hc.symm rfl rfl
theorem Ext.last (hH:HRel B ω κ S w H) (n:Nat):(κ++[n])[H.length]?=some n:=by rw [←hH.klen];simp
theorem new_obj (hH:HRel B ω κ S w H) (l:Lab) (n1:∀ id,l≠.obj id) (n2:∀ id j,l≠.cell id j) {cs:List AV} {vs:Array Value} (e:TypeId) (hlen:cs.length≤vs.size)
  (hc:∀ (j:Nat) (u:AV) (v:Value),cs[j]?=some u→vs[j]?=some v→u.noUniq=true∧v.oneCell'=true∧Rel κ S w u v∧(u.plain=true∨(j=0∧OwnAt ω κ S w l u v))) :
  ∃ ω',Ev ω S w ω' S (w.alloc (.cells vs e))∧HRel B ω' (κ++[w.heap.size]) S (w.alloc (.cells vs e)) (H++[.cells cs]):=by
 classical
 let ω':Nat→Option Lab:=fun b=>if b=w.heap.size then some (.obj H.length) else if ω b=some l then some (.cell H.length 0) else ω b
 have hne:∀ b l',ω b=some l'→b≠w.heap.size:=fun b l' h=>by have:=(hH.base b l' h).2;omega
 have ev:Ev ω S w ω' S (w.alloc (.cells vs e)):=by
  have e0:=ev_alloc hH (.cells vs e) (.obj H.length)
  refine ⟨e0.os,e0.tape,e0.output,e0.size,e0.keep,e0.set,e0.fresh,fun b hb=>?_⟩
  by_cases h:b=w.heap.size
  ·exact .inr (by omega)
  ·refine .inl fun h0=>hb ?_
   simp [ω',h,h0]
 have hH1:HRel B ω' κ S (w.alloc (.cells vs e)) H:=by
  refine hH.frame ev (fun b l' hb hl=>?_) (fun b o hs=>?_) (fun b l' hb=>?_)
  ·have h:=hne b l' hb
   have hl':l'≠l:=by rcases hl with ⟨id,rfl⟩ | ⟨id,j,rfl⟩ <;> intro e <;> first | exact n1 _ e.symm | exact n2 _ _ e.symm
   refine ⟨?_,heap_alloc_old w _ b (hH.base b l' hb).2,fun o hs=>hs⟩
   simp [ω',h,hb,hl']
  ·obtain ⟨v,hv⟩:=hH.swf b o hs
   exact ⟨v,((ev.set b o hs).2).trans hv⟩
  ·by_cases h:b=w.heap.size
   ·subst h;exact ⟨hH.bsz,by simp⟩
   ·have:∃ l0,ω b=some l0:=by
     cases h0:ω b with
     | none=>simp [ω',h,h0] at hb
     | some l0=>exact ⟨l0,rfl⟩
    obtain ⟨l0,h0⟩:=this
    have:=hH.base b l0 h0
    exact ⟨this.1,by simp;omega⟩
 refine ⟨ω',ev,hH1.push w.heap.size ⟨w.heap.size,vs,e,Ext.last hH _,by simp [ω'],heap_alloc_new w _,hlen,no_settled_new hH,fun j u v hu hv=>?_⟩⟩
 obtain ⟨c1,c2,c3,c4⟩:=hc j u v hu hv
 refine ⟨c1,c2,c3.mono (Ext.append κ _) ev.set,?_⟩
 rcases c4 with c4 | ⟨rfl,c4⟩
 ·exact OwnAt.of_plain c4
 ·refine c4.mono (Ext.append κ _) ev.set fun b hb=>⟨?_,heap_alloc_old w _ b (hH.base b l hb).2,fun o hs=>hs⟩
  simp [ω',hne b l hb,hb]
theorem sim_box (hH:HRel B ω κ S w H) {l:Lab} (n1:∀ id,l≠.obj id) (n2:∀ id j,l≠.cell id j) {u:AV} {v:Value} {vc:List AV} (hc:u.cells=some vc) (hr:Rel κ S w u v) (ho:OwnAt ω κ S w l u v) (e:TypeId) :
  ∃ x w',(Instr.box e v).run P w=.ok x w'∧Post B ω κ S w (H++[.cells (vc.map AV.settle)]) (.ptr H.length 0) x w':=by
 obtain ⟨S',k1,k2,hH',hsz,hone,hall⟩:=cells_ready hH n1 n2 hc hr ho
 obtain ⟨ω',ev,hH''⟩:=new_obj (cs:=vc.map AV.settle) (vs:=v.cells) hH' l n1 n2 e (by simp [hsz]) (fun j u' v' hu hv=>by
  obtain ⟨a1,a2,a3⟩:=hall j u' v' hu hv
  exact ⟨a1,hone v' (by simpa using Array.mem_of_getElem? hv),a2,a3.imp id fun ⟨x,_,y⟩=>⟨x,y⟩⟩)
 refine ⟨.pointer (some ⟨w.heap.size,0,none⟩),w.alloc (.cells v.cells e),?_,ω',_,S',Ext.append κ _,(Ev.settle k1 (fun b o h=>(k2 b o h).imp id fun h=>⟨_,h⟩)).trans ev,hH'',
  .ptr _ _ _ (Ext.last hH _),OwnAt.of_plain rfl⟩
 simp [Instr.box,newVar,newRow,newObj,Sem.run,World.alloc_eq]
theorem sim_boxF (hH:HRel B ω κ S w H) {u:AV} {v:Value} {vc:List AV} (hc:u.cells=some vc) (hp:vc.all AV.plain=true) (hr:Rel κ S w u v) (e:TypeId) :
  ∃ x w',(Instr.box e v).run P w=.ok x w'∧Post B ω κ S w H (.lptr vc) x w':=by
 rw [List.all_eq_true] at hp
 have hcells:v.cells.size=vc.length∧(∀ x∈v.cells.toList,x.oneCell'=true)∧∀ (j:Nat) (u':AV) (v':Value),vc[j]?=some u'→v.cells[j]?=some v'→Rel κ S w u' v':=by
  have single:vc=[u]→v.cells=#[v]→v.oneCell'=true→v.cells.size=vc.length∧(∀ x∈v.cells.toList,x.oneCell'=true)∧∀ (j:Nat) (u':AV) (v':Value),vc[j]?=some u'→v.cells[j]?=some v'→Rel κ S w u' v':=by
   intro hvc hv h1
   subst hvc
   rw [hv]
   refine ⟨rfl,by simp [h1],fun j u' v' hj hj'=>?_⟩
   cases j with
   | zero=>simp at hj hj';subst hj hj';exact hr
   | succ j=>simp at hj
  cases hr with
  | agg as vs h p one r =>
    simp [AV.cells] at hc
    subst hc
    exact ⟨h,one,r⟩
  | junk v=>simp [AV.cells] at hc
  | tuple as vs h p r=>simp [AV.cells] at hc
  | raw=>simp [AV.cells] at hc
  | _=>simp [AV.cells] at hc;exact single hc.symm rfl rfl
 obtain ⟨hsz,hone,hall⟩:=hcells
 let S':Nat→Nat→Prop:=fun b o=>S b o∨(b=w.heap.size∧o<vc.length)
 have hnew:(w.alloc (.cells v.cells e)).heap[w.heap.size]?=some (.cells v.cells e (0,0)):=heap_alloc_new w _
 have hcell:∀ o,(w.alloc (.cells v.cells e)).cell? ⟨w.heap.size,o,none⟩=v.cells[o]?:=fun o=>cell_of_row _ _ o v.cells e (0,0) hnew
 have hold:∀ b o,S b o→(w.alloc (.cells v.cells e)).cell? ⟨b,o,none⟩=w.cell? ⟨b,o,none⟩:=fun b o hs=>by
  obtain ⟨x,hx⟩:=hH.swf b o hs;exact cell_alloc _ (lt_of_cell hx)
 have ev:Ev ω S w ω S' (w.alloc (.cells v.cells e)):=by
  refine ⟨rfl,rfl,rfl,by simp,fun b hb _=>heap_alloc_old w _ b hb,fun b o hs=>⟨.inl hs,hold b o hs⟩,fun b o hs=>?_,fun b hb=>.inl hb⟩
  rcases hs with hs | ⟨rfl,_⟩
  ·exact .inl hs
  ·exact .inr (.inr (Nat.le_refl _))
 refine ⟨.pointer (some ⟨w.heap.size,0,none⟩),w.alloc (.cells v.cells e),by simp [Instr.box,newVar,newRow,newObj,Sem.run,World.alloc_eq],ω,κ,S',Ext.refl κ,ev,hH.frame ev (fun b l hb _=>?_) (fun b o hs=>?_) (fun b l hb=>?_),
  .lptr _ _ _ (fun j=>v.cells.getD j undef) (fun j u' hj=>?_) (fun j u' hj=>?_),OwnAt.of_plain rfl⟩
 ·have hlt:=(hH.base b l hb).2
  exact ⟨hb,heap_alloc_old w _ b hlt,fun o hs=>hs.resolve_right fun h=>by omega⟩
 ·rcases hs with hs | ⟨rfl,ho⟩
  ·obtain ⟨x,hx⟩:=hH.swf b o hs
   exact ⟨x,(hold b o hs).trans hx⟩
  ·exact ⟨_,(hcell o).trans (Array.getElem?_eq_getElem (by omega))⟩
 ·have:=hH.base b l hb
  exact ⟨this.1,by simp;omega⟩
 ·have hlt:=(List.getElem?_eq_some_iff.1 hj).1
  have hj':v.cells[j]?=some (v.cells.getD j undef):=by simp [Array.getD,hsz,hlt]
  rw [Nat.zero_add]
  exact ⟨.inr ⟨rfl,hlt⟩,(hcell j).trans hj',hp u' (List.mem_of_getElem? hj),hone _ (by simpa using Array.mem_of_getElem? hj')⟩
 ·have hlt:=(List.getElem?_eq_some_iff.1 hj).1
  have hj':v.cells[j]?=some (v.cells.getD j undef):=by simp [Array.getD,hsz,hlt]
  exact (hall j u' _ hj hj').mono (Ext.refl κ) ev.set
theorem zeroCells_some {t:TypeId} {z:List AV} (h:zeroCells P t=some z):∃ i v,P.info? t=some i∧i.zero=some v∧z=v.cells.toList.map absVal∧∀ x∈v.cells.toList,x.oneCell'=true:=by
 simp only [zeroCells,Option.bind_eq_some_iff] at h
 obtain ⟨v,⟨i,hi,hv⟩,h⟩:=h
 split at h
 ·rename_i hall
  simp at h
  exact ⟨i,v,hi,hv,h.symm,List.all_eq_true.1 hall⟩
 ·simp at h
theorem zeroCells_rel {t:TypeId} {z:List AV} (h:zeroCells P t=some z):∃ i v,P.info? t=some i∧i.zero=some v∧CRel κ S w z v.cells.toList:=by
 obtain ⟨i,v,hi,hv,rfl,hone⟩:=zeroCells_some h
 refine ⟨i,v,hi,hv,by simp,fun j u v' hu hv'=>?_⟩
 simp only [List.getElem?_map,hv',Option.map_some,Option.some.injEq] at hu
 subst hu
 exact ⟨absVal_plain _,hone v' (List.mem_of_getElem? hv'),absVal_rel _ _ _ _⟩
theorem run_zeroValue {t:TypeId} {i:TypeInfo} {v:Value} (hi:P.info? t=some i) (hv:i.zero=some v):(zeroValue t).run P w=.ok v w:=by
 simp [zeroValue,typeInfo,hi,hv]
theorem sim_alloc (hH:HRel B ω κ S w H) {t:TypeId} {z:List AV} (hz:zeroCells P t=some z) (old:Value) :
  ∃ x w',(Instr.alloc t true old).run P w=.ok x w'∧Post B ω κ S w (H++[.cells z]) (.ptr H.length 0) x w':=by
 obtain ⟨i,v,hi,hv,hc⟩:=zeroCells_rel (κ:=κ) (S:=S) (w:=w) hz
 obtain ⟨ω',ev,hH'⟩:=new_obj (cs:=z) (vs:=v.cells) hH .res (by simp) (by simp) t (by have:=hc.len;simp at this;omega) (fun j u v' hu hv'=>by
  obtain ⟨a,b,c⟩:=hc.rel j u v' hu (by simpa using hv')
  exact ⟨AV.plain_noUniq a,b,c,.inl a⟩)
 refine ⟨.pointer (some ⟨w.heap.size,0,none⟩),w.alloc (.cells v.cells t),?_,ω',_,S,Ext.append κ _,ev,hH',.ptr _ _ _ (Ext.last hH _),OwnAt.of_plain rfl⟩
 cases old <;> simp [Instr.alloc,run_zeroValue hi hv,newVar,newRow,newObj,Sem.run,World.alloc_eq]
theorem sim_allocO (hH:HRel B ω κ S w H) {t:TypeId} {s:Nat} (hz:zeroCells P t=some [.lst [] 0 .full]) (old:Value) :
  ∃ x w',(Instr.alloc t true old).run P w=.ok x w'∧Post B ω κ S w (H++[.cells [.lst [] 0 (.own s)]]) (.ptr H.length 0) x w':=by
 obtain ⟨i,v,hi,hv,hc⟩:=zeroCells_rel (κ:=κ) (S:=S) (w:=w) hz
 obtain ⟨ω',ev,hH'⟩:=new_obj (cs:=[.lst [] 0 (.own s)]) (vs:=v.cells) hH .res (by simp) (by simp) t (by have:=hc.len;simp at this;simp;omega) (fun j u v' hu hv'=>by
  cases j with
  | succ j=>simp at hu
  | zero =>
    simp at hu;subst hu
    obtain ⟨a,b,c⟩:=hc.rel 0 _ v' rfl (by simpa using hv')
    refine ⟨rfl,b,?_,.inr ⟨rfl,?_⟩⟩
    ·cases c with
     | lnil _ a=>exact .lnil _ a
     | lst _ _ _ b1 o cap f hc hle hu h hr=>exact .lst _ _ _ b1 o cap f (fun h=>by cases h) hle (fun z h=>by cases h) h hr
    ·cases c with
     | lnil _ a=>cases a with
       | none=>trivial
       | some a=>exact .inl ⟨rfl,rfl,rfl⟩
     | lst _ _ _ b o cap f hc hle hu h hr=>exact .inl ⟨rfl,hc rfl,rfl⟩)
 refine ⟨.pointer (some ⟨w.heap.size,0,none⟩),w.alloc (.cells v.cells t),?_,ω',_,S,Ext.append κ _,ev,hH',.ptr _ _ _ (Ext.last hH _),OwnAt.of_plain rfl⟩
 cases old <;> simp [Instr.alloc,run_zeroValue hi hv,newVar,newRow,newObj,Sem.run,World.alloc_eq]
theorem repl_len (z:List AV):∀ n,(repl n z).length=n*z.length
 | 0=>by simp [repl]
 | n+1=>by simp [repl,repl_len z n,Nat.succ_mul,Nat.add_comm]
theorem repl_get (z:List AV):∀ (n j:Nat),j<n*z.length→(repl n z)[j]?=z[j % z.length]?
 | 0,j,h=>by simp at h
 | n+1,j,h=>by
   simp only [repl]
   rcases Nat.lt_or_ge j z.length with hj | hj
   ·rw [List.getElem?_append_left hj,Nat.mod_eq_of_lt hj]
   ·rw [List.getElem?_append_right hj,repl_get z n _ (by rw [Nat.succ_mul] at h;omega),Nat.mod_eq_sub_mod hj]
theorem zeros_rel {z:List AV} {zs:Array Value} (h:CRel κ S w z zs.toList) (hz:0<z.length) (n:Nat) :
  CRel κ S w (repl n z) ((Array.range (n*z.length)).map (fun i=>zs[i % zs.size]!)).toList:=by
 have hl:z.length=zs.size:=by simpa using h.len
 refine ⟨by simp [repl_len],fun j u v hu hv=>?_⟩
 have hj:j<n*z.length:=by have:=(List.getElem?_eq_some_iff.1 hu).1;rwa [repl_len] at this
 rw [repl_get z n j hj] at hu
 have hm:j % z.length<z.length:=Nat.mod_lt _ hz
 refine h.rel (j % z.length) u v hu ?_
 simp [hj] at hv
 rw [←hl] at hv
 have hm':j % z.length<zs.size:=hl ▸ hm
 rw [getElem!_pos zs _ hm'] at hv
 simp [hm',hv]
theorem roomOk_le {n bytes:Nat} (h:roomOk n bytes=true):n*bytes≤140737488355328∧1≤bytes:=by
 simpa [roomOk] using h
theorem sim_makeSlice (hH:HRel B ω κ S w H) {t:TypeId} {n c:Int} {k k':IntKind} {z:List AV} {sz:Nat} (h0:0≤n) (hnc:n≤c) (hz:zeroRun P t c.toNat=some (z,sz)) :
  ∃ x w',(Instr.makeSlice t (.int k n) (.int k' c)).run P w=.ok x w'∧Post B ω κ S w (H++[.cells z]) (.ref H.length 0 n.toNat (some c.toNat) sz) x w':=by
 unfold zeroRun at hz
 split at hz
 ·rename_i e he
  split at hz
  ·rename_i s z0 bytes hs hz0 hb
   split at hz
   ·rename_i hc
    obtain ⟨hc1,hc2,hc3⟩:=hc
    simp only [Option.some.injEq,Prod.mk.injEq] at hz
    obtain ⟨rfl,rfl⟩:=hz
    obtain ⟨i,v,hi,hv,hcr⟩:=zeroCells_rel (κ:=κ) (S:=S) (w:=w) hz0
    simp only [hi,Option.map_some,Option.some.injEq] at hb
    subst hb
    obtain ⟨r1,r2⟩:=roomOk_le hc3
    have hzr:=zeros_rel hcr (by omega) c.toNat
    have hcb:c.toNat≤140737488355328:=Nat.le_trans (Nat.le_mul_of_pos_right _ r2) r1
    have hzl:z0.length=v.cells.size:=by simpa using hcr.len
    have hsz:i.size=s:=by obtain ⟨i',hi',h⟩:=szOf_some hs;rw [hi] at hi';cases hi';exact h
    have hbig:(i.bytes:Int)*c≤281474976710656:=by
     have:(i.bytes:Int)*c=((c.toNat*i.bytes:Nat):Int):=by rw [Int.natCast_mul,Int.toNat_of_nonneg (by omega),Int.mul_comm]
     rw [this];omega
    have hrun:=run_make (P:=P) w t e i v he hi hv k k' n c h0 hnc hbig (by omega)
    have hmade:(madeCells v.cells (c.toNat*i.size)).toList=((Array.range (c.toNat*z0.length)).map (fun i=>v.cells[i % v.cells.size]!)).toList:=by
     rw [hsz,←hc1];rfl
    rw [←hmade] at hzr
    obtain ⟨ω',ev,hH'⟩:=new_obj (cs:=repl c.toNat z0) (vs:=madeCells v.cells (c.toNat*i.size)) hH .res (by simp) (by simp) e (by have:=hzr.len;simp at this ⊢;omega) (fun j u v' hu hv'=>by
     obtain ⟨a,b,c⟩:=hzr.rel j u v' hu (by simpa using hv')
     exact ⟨AV.plain_noUniq a,b,c,.inl a⟩)
    exact ⟨_,_,hrun,ω',_,S,Ext.append κ _,ev,hH',.ref _ _ _ _ _ _ _ (Ext.last hH _) (fun m hm=>by simpa using hm) (by omega),OwnAt.of_plain rfl⟩
   ·simp at hz
  ·simp at hz
 ·simp at hz
theorem sim_makeSliceU (hH:HRel B ω κ S w H) {t:TypeId} {c:Int} {k k':IntKind} {z:List AV} {sz:Nat} (h0:0≤c) (hz:zeroRun P t c.toNat=some (z,sz)) :
  ∃ x w',(Instr.makeSlice t (.int k c) (.int k' c)).run P w=.ok x w'∧Post B ω κ S w H (.lst z c.toNat (.uniq sz)) x w':=by
 unfold zeroRun at hz
 split at hz
 ·rename_i e he
  split at hz
  ·rename_i s z0 bytes hs hz0 hb
   split at hz
   ·rename_i hc
    obtain ⟨hc1,hc2,hc3⟩:=hc
    simp only [Option.some.injEq,Prod.mk.injEq] at hz
    obtain ⟨rfl,rfl⟩:=hz
    obtain ⟨i,v,hi,hv,hcr⟩:=zeroCells_rel (κ:=κ) (S:=S) (w:=w) hz0
    simp only [hi,Option.map_some,Option.some.injEq] at hb
    subst hb
    obtain ⟨r1,r2⟩:=roomOk_le hc3
    have hzr:=zeros_rel hcr (by omega) c.toNat
    have hcb:c.toNat≤140737488355328:=Nat.le_trans (Nat.le_mul_of_pos_right _ r2) r1
    have hzl:z0.length=v.cells.size:=by simpa using hcr.len
    have hsz:i.size=s:=by obtain ⟨i',hi',h⟩:=szOf_some hs;rw [hi] at hi';cases hi';exact h
    have hbig:(i.bytes:Int)*c≤281474976710656:=by
     have:(i.bytes:Int)*c=((c.toNat*i.bytes:Nat):Int):=by rw [Int.natCast_mul,Int.toNat_of_nonneg (by omega),Int.mul_comm]
     rw [this];omega
    have hrun:=run_make (P:=P) w t e i v he hi hv k k' c c (by omega) (Int.le_refl _) hbig (by omega)
    have hmade:(madeCells v.cells (c.toNat*i.size)).toList=((Array.range (c.toNat*z0.length)).map (fun i=>v.cells[i % v.cells.size]!)).toList:=by
     rw [hsz,←hc1];rfl
    rw [←hmade] at hzr
    have hnr:=new_row hH hzr [] e c.toNat c.toNat s hc2 (by rw [repl_len,hc1]) (Nat.le_refl _) (by simp only [maxLen];omega) (by rw [←hzr.len,repl_len,hc1];simp)
    simp only [List.append_nil,Array.toArray_toList] at hnr
    exact ⟨_,_,hrun,hnr⟩
   ·simp at hz
  ·simp at hz
 ·simp at hz
end
end Go.Proofs.YtfakoboiahbhaaaGreat.Ab


namespace Go.Proofs.YtfakoboiahbhaaaGreat.Ab
open Go
section
variable {P:Program} {B:Nat} {κ:List Nat} {w:World} {H:List AObj} {ω:Nat→Option Lab} {S:Nat→Nat→Prop}
theorem setCells_len:∀ (vs:List AV) (off:Nat) (cs:List AV),(setCells off vs cs).length=cs.length
 | [],_,_=>rfl
 | v::vs,off,cs=>by simp [setCells,setCells_len vs]
theorem setCells_get:∀ (vs:List AV) (off:Nat) (cs:List AV) (j:Nat),off+vs.length≤cs.length →
  (setCells off vs cs)[j]?=if off≤j∧j<off+vs.length then vs[j-off]? else cs[j]?
 | [],off,cs,j,_=>by simp [setCells];omega
 | v::vs,off,cs,j,h=>by
   simp only [List.length_cons] at h
   rw [setCells,setCells_get vs (off+1) _ j (by simp;omega)]
   by_cases h1:j=off
   ·subst h1
    have:¬ (j+1≤j∧j<j+1+vs.length):=by omega
    rw [if_neg this,if_pos (by simp)]
    simp [show j<cs.length by omega]
   ·by_cases h2:off+1≤j∧j<off+1+vs.length
    ·rw [if_pos h2,if_pos (by simp;omega)]
     obtain ⟨k,rfl⟩:∃ k,j=off+1+k:=⟨j-(off+1),by omega⟩
     rw [show off+1+k-off=k+1 by omega,show off+1+k-(off+1)=k by omega];simp
    ·rw [if_neg h2,if_neg (by simp;omega)]
     rw [List.getElem?_set_ne (fun e=>h1 e.symm)]
theorem seg_get (cur vs:List Value) (off j:Nat) (h:off+vs.length≤cur.length) :
  (cur.take off++vs++cur.drop (off+vs.length))[j]?=if off≤j∧j<off+vs.length then vs[j-off]? else cur[j]?:=by
 have ht:(cur.take off).length=off:=by simp;omega
 by_cases h1:j<off
 ·rw [if_neg (by omega),List.append_assoc,List.getElem?_append_left (by omega),List.getElem?_take,if_pos h1]
 ·by_cases h2:j<off+vs.length
  ·rw [if_pos ⟨by omega,h2⟩,List.append_assoc,List.getElem?_append_right (by omega),ht,List.getElem?_append_left (by omega)]
  ·rw [if_neg (by omega),List.getElem?_append_right (by simp;omega)]
   simp only [List.length_append,ht,List.getElem?_drop]
   congr 1;omega
theorem obj_write (hH:HRel B ω κ S w H) {id:Nat} {l l':List AV} (hid:H[id]?=some (.cells l)) {b:Nat} {cur cur':Array Value} {e:TypeId} (a1:κ[id]?=some b) (a2:ω b=some (.obj id))
  (a3:w.heap[b]?=some (.cells cur e (0,0))) (a5:∀ o,¬ S b o) (L:Lab) (n1:∀ id,L≠.obj id) (n2:∀ id j,L≠.cell id j) (hl:l'.length≤cur'.size) (j0:Nat)
  (hc:∀ (j:Nat) (u:AV) (v:Value),l'[j]?=some u→cur'[j]?=some v→u.noUniq=true∧v.oneCell'=true∧Rel κ S w u v ∧
   (u.plain=true∨OwnAt ω κ S w (.cell id j) u v∨(j=j0∧OwnAt ω κ S w L u v))) :
  ∃ ω',Ev ω S w ω' S (w.setRow b cur')∧HRel B ω' κ S (w.setRow b cur') (H.set id (.cells l')):=by
 classical
 let ω':Nat→Option Lab:=fun b'=>if ω b'=some L then some (.cell id j0) else ω b'
 have hcell:∀ b' o,b'≠b→(w.setRow b cur').cell? ⟨b',o,none⟩=w.cell? ⟨b',o,none⟩:=fun b' o h=>by
  unfold World.cell?;simp only [setRow_other w b b' cur' h]
 have hSne:∀ b' o,S b' o→b'≠b:=fun b' o hs e=>a5 o (e ▸ hs)
 have hLb:L≠.obj id:=n1 id
 have hkeep:∀ b' l0,ω b'=some l0→l0≠L→ω' b'=some l0:=fun b' l0 h hn=>by
  have:¬ ω b'=some L:=by rw [h];intro e;cases e;exact hn rfl
  simp [ω',h,hn]
 have hsz:(w.setRow b cur').heap.size=w.heap.size:=by simp [World.setRow]
 have ev:Ev ω S w ω' S (w.setRow b cur'):=by
  refine ⟨rfl,rfl,rfl,by omega,fun b' hb' hn=>setRow_other w b b' cur' (fun e=>by subst e;rw [a2] at hn;cases hn),fun b' o hs=>⟨hs,hcell b' o (hSne b' o hs)⟩,fun b' o hs=>.inl hs,fun b' hb'=>?_⟩
  refine .inl fun h0=>hb' ?_
  simp [ω',h0]
 refine ⟨ω',ev,by simpa using hH.klen,fun id' o ho=>?_,fun b' o hs=>?_,fun b' l0 hb'=>?_,by rw [hsz];exact hH.bsz⟩
 ·by_cases hid':id'=id
  ·subst hid'
   rw [List.getElem?_set_self (List.getElem?_eq_some_iff.1 hid).1] at ho
   cases ho
   refine ⟨b,cur',e,a1,hkeep b _ a2 (fun e=>hLb e.symm),setRow_heap w b cur cur' e (0,0) a3,hl,a5,fun j u v hu hv=>?_⟩
   obtain ⟨c1,c2,c3,c4⟩:=hc j u v hu hv
   refine ⟨c1,c2,c3.mono (Ext.refl κ) ev.set,?_⟩
   rcases c4 with c4 | c4 | ⟨rfl,c4⟩
   ·exact OwnAt.of_plain c4
   ·exact c4.mono (Ext.refl κ) ev.set fun b' hb'=>⟨hkeep b' _ hb' (fun e=>n2 _ _ e.symm),setRow_other w b b' cur' (fun e=>by subst e;rw [a2] at hb';cases hb'),fun o hs=>hs⟩
   ·exact c4.mono (Ext.refl κ) ev.set fun b' hb'=>⟨by simp [ω',hb'],setRow_other w b b' cur' (fun e=>by subst e;rw [a2] at hb';cases hb';exact hLb rfl),fun o hs=>hs⟩
  ·rw [List.getElem?_set_ne (fun e=>hid' e.symm)] at ho
   refine (hH.obj id' o ho).frame (Ext.refl κ) ev.set fun b' l0 hb' hl0=>?_
   have hne:b'≠b:=fun e=>by
    subst e;rw [a2] at hb';cases hb'
    rcases hl0 with h | ⟨j,h⟩
    ·cases h;exact hid' rfl
    ·cases h
   exact ⟨hkeep b' l0 hb' (by rcases hl0 with rfl | ⟨j,rfl⟩ <;> intro e <;> first | exact n1 _ e.symm | exact n2 _ _ e.symm),setRow_other w b b' cur' hne,fun o hs=>hs⟩
 ·obtain ⟨v,hv⟩:=hH.swf b' o hs
  exact ⟨v,(hcell b' o (hSne b' o hs)).trans hv⟩
 ·rw [hsz]
  by_cases h:ω b'=some L
  ·exact hH.base b' L h
  ·simp only [ω',h,if_false] at hb';exact hH.base b' l0 hb'
theorem sim_store (hH:HRel B ω κ S w H) {l:Lab} (n1:∀ id,l≠.obj id) (n2:∀ id j,l≠.cell id j) {lo:Nat} {t:TypeId} {a u:AV} {x v:Value} {H':List AObj} (h:aStore P lo H t a u=some H')
  (ha:Rel κ S w a x) (hr:Rel κ S w u v) (ho:OwnAt ω κ S w l u v) (y:Value) :
  ∃ w',(Instr.storeAt t x v).run P w=.ok () w'∧Post B ω κ S w H' .junk y w':=by
 have key:∀ {H H':List AObj} (_:HRel B ω κ S w H) {id off s:Nat} (_:szOf P t=some s) {vc:List AV} (_:u.cells=some vc) {ll l':List AV} (_:H[id]?=some (.cells ll))
   (_:(if vc.length=s∧off+s≤ll.length then some (setCells off (vc.map AV.settle) ll) else none)=some l') (_:Rel κ S w (.ptr id off) x) (_:H'=H.set id (.cells l')),
   ∃ w' b cur,(Instr.storeAt t x v).run P w=.ok () w'∧Post B ω κ S w H' .junk y w'∧κ[id]?=some b∧(∃ e,w.heap[b]?=some (.cells cur e (0,0)))∧∃ cur' e,w'.heap[b]?=some (.cells cur' e (0,0))∧cur'.size=cur.size:=by
  intro H H' hH id off s hs vc hvc ll l' hid hl' ha hH'
  subst hH'
  ·
     split at hl'
     ·rename_i hcond
      obtain ⟨c1,c2⟩:=hcond
      simp only [Option.some.injEq] at hl'
      subst hl'
      obtain ⟨S',k1,k2,hH',hsz,hone,hall⟩:=cells_ready hH n1 n2 hvc hr ho
      obtain ⟨b,cur,e,a1,a2,a3,a4,a5,a6⟩:=hH'.obj id _ hid
      cases ha with
      | ptr id off b' hb =>
        rw [a1] at hb;cases hb
        have hst:=run_storeCells_at P b off e v.cells.toList 0 cur w a3 (by simp [hsz];omega) hone
        simp only [Nat.add_zero] at hst
        obtain ⟨ω',ev,hH''⟩:=obj_write (cur':=(cur.toList.take off++v.cells.toList++cur.toList.drop (off+v.cells.toList.length)).toArray) (l':=setCells off (vc.map AV.settle) ll) hH' hid a1 a2 a3 a5 l n1 n2
         (by simp [setCells_len,hsz];omega) off (fun j u' v' hu hv=>by
          rw [setCells_get _ _ _ _ (by simp;omega)] at hu
          have hv:(cur.toList.take off++v.cells.toList++cur.toList.drop (off+v.cells.toList.length))[j]?=some v':=by simpa using hv
          rw [seg_get _ _ _ _ (by simp [hsz];omega)] at hv
          simp only [List.length_map,Array.length_toList,hsz] at hu hv
          split at hu
          ·rename_i hj
           rw [if_pos hj] at hv
           obtain ⟨d1,d2,d3⟩:=hall (j-off) u' v' hu (by simpa using hv)
           refine ⟨d1,hone v' (List.mem_of_getElem? hv),d2,?_⟩
           rcases d3 with d3 | ⟨d3,_,d4⟩
           ·exact .inl d3
           ·exact .inr (.inr ⟨by omega,d4⟩)
          ·rename_i hj
           rw [if_neg hj] at hv
           obtain ⟨d1,d0,d2,d3⟩:=a6 j u' v' hu (by simpa using hv)
           exact ⟨d1,d0,d2,.inr (.inl d3)⟩)
        refine ⟨_,b,cur,?_,⟨ω',κ,S',Ext.refl κ,(Ev.settle k1 (fun b o h=>(k2 b o h).imp (fun h=>h) fun h=>⟨_,h⟩)).trans ev,hH'',.junk y,OwnAt.of_plain rfl⟩,a1,⟨e,a3⟩,_,e,setRow_heap w b cur _ e (0,0) a3,?_⟩
        ·simp only [Instr.storeAt,Instr.sureAddr,storeVar,Sem.run_bind,Sem.run_pure,Result.andThen_ok,run_sizeOf hs]
         rw [if_neg (by rw [hsz,c1];simp)]
         exact hst
        ·simp [hsz];omega
     ·simp at hl'
 unfold aStore at h
 split at h
 ·rename_i id off s hs
  split at h
  ·rename_i vc hvc
   unfold mutObjG at h
   split at h
   ·split at h
    ·rename_i lo' ll hid
     simp only [Option.map_eq_some_iff] at h
     obtain ⟨l',hl',rfl⟩:=h
     obtain ⟨w',_,_,q1,q2,_⟩:=key hH hs hvc hid hl' ha rfl
     exact ⟨w',q1,q2⟩
    ·rename_i lo' ll g z hid
     simp only [Option.map_eq_some_iff] at h
     obtain ⟨l',hl',rfl⟩:=h
     have hlt:=(List.getElem?_eq_some_iff.1 hid).1
     obtain ⟨b,cur,e,a1,a2,a3,a4,a5,a6,cap,a7,a8,a9,a10⟩:=hH.obj id _ hid
     obtain ⟨w',b',cur0,q1,⟨ω',κ',S',p1,p2,p3,p4⟩,q3,⟨e0,q4⟩,cur',e',q5,q6⟩:=key (hH.ungrow hid) hs hvc (ll:=ll) (by rw [List.getElem?_set_self hlt]) hl' ha rfl
     rw [a1] at q3;cases q3
     rw [a3] at q4;cases q4
     have hg:=p3.regrow (g:=g) (z:=z) (by rw [List.getElem?_set_self (by simpa using hlt)]) (p1 _ _ a1) (p1 _ _ a7) a8 a9 q5 (by rw [q6,a10])
     rw [List.set_set,List.set_set] at hg
     exact ⟨w',q1,ω',κ',S',p1,p2,hg,p4⟩
    ·simp at h
   ·simp at h
  ·simp at h
 ·simp at h
theorem sim_storeR (hH:HRel B ω κ S w H) {l:Lab} (n1:∀ id,l≠.obj id) (n2:∀ id j,l≠.cell id j) {lo:Nat} {t:TypeId} {a u:AV} {x v:Value} {H':List AObj} (h:aStoreR P lo H t a u=some H')
  (ha:Rel κ S w a x) (hr:Rel κ S w u v) (ho:OwnAt ω κ S w l u v) (y:Value) :
  ∃ w',(Instr.storeAt t x v).run P w=.ok () w'∧Post B ω κ S w H' .junk y w':=by
 unfold aStoreR at h
 split at h
 ·rename_i id off c n z hs
  split at h
  ·rename_i hc
   obtain ⟨r1,r2⟩:=uniq_raw hc.2 hc.1 hr ho
   unfold mutObj at h
   split at h
   ·split at h
    ·rename_i lo' ll hid
     simp only [Option.map_eq_some_iff] at h
     obtain ⟨l',hl',rfl⟩:=h
     split at hl'
     ·rename_i hoff
      simp only [Option.some.injEq] at hl'
      subst hl'
      obtain ⟨b,cur,e,a1,a2,a3,a4,a5,a6⟩:=hH.obj id _ hid
      cases ha with
      | ptr id off b' hb =>
        rw [a1] at hb;cases hb
        have hone:∃ b o cap,v=.slice (some ⟨b,o,none⟩) n cap:=by cases r1 with | raw _ _ _ b o cap=>exact ⟨b,o,cap,rfl⟩
        have hv1:v.cells=#[v]∧v.oneCell'=true:=by obtain ⟨b,o,cap,rfl⟩:=hone;exact ⟨rfl,rfl⟩
        have hst:=run_storeCells_at P b off e v.cells.toList 0 cur w a3 (by rw [hv1.1];simp;omega) (by rw [hv1.1];simp [hv1.2])
        simp only [Nat.add_zero,hv1.1] at hst
        obtain ⟨ω',ev,hH''⟩:=obj_write (cur':=(cur.toList.take off++[v]++cur.toList.drop (off+1)).toArray) (l':=ll.set off (.raw c n z)) hH hid a1 a2 a3 a5 l n1 n2
         (by simp;omega) off (fun j u' v' hu hv=>by
          have hv:(cur.toList.take off++[v]++cur.toList.drop (off+1))[j]?=some v':=by simpa using hv
          have hv2:=seg_get cur.toList [v] off j (by simp;omega)
          simp only [List.length_singleton] at hv2
          rw [hv2] at hv
          by_cases hj:off=j
          ·subst hj
           rw [List.getElem?_set_self hoff] at hu
           cases hu
           rw [if_pos ⟨by omega,by omega⟩] at hv
           simp at hv;subst hv
           exact ⟨rfl,hv1.2,r1,.inr (.inr ⟨rfl,r2⟩)⟩
          ·rw [List.getElem?_set_ne hj] at hu
           rw [if_neg (by omega)] at hv
           obtain ⟨d1,d0,d2,d3⟩:=a6 j u' v' hu (by simpa using hv)
           exact ⟨d1,d0,d2,.inr (.inl d3)⟩)
        refine ⟨_,?_,ω',κ,S,Ext.refl κ,ev,hH'',.junk y,OwnAt.of_plain rfl⟩
        simp only [Instr.storeAt,Instr.sureAddr,storeVar,Sem.run_bind,Sem.run_pure,Result.andThen_ok,run_sizeOf hs]
        rw [if_neg (by rw [hv1.1];simp),hv1.1]
        exact hst
     ·simp at hl'
    ·simp at h
   ·simp at h
  ·simp at h
 ·simp at h
theorem post_move (hH:HRel B ω κ S w H) {l:Lab} (n1:∀ id,l≠.obj id) (n2:∀ id j,l≠.cell id j) {u:AV} {v:Value} (hr:Rel κ S w u v) (ho:OwnAt ω κ S w l u v) :
  Post B ω κ S w H u v w:=by
 classical
 let ω':Nat→Option Lab:=fun b=>if ω b=some l then some .res else ω b
 have ev:Ev ω S w ω' S w:=⟨rfl,rfl,rfl,Nat.le_refl _,fun _ _ _=>rfl,fun _ _ h=>⟨h,rfl⟩,fun _ _ h=>.inl h,fun b hb=>.inl fun h0=>hb (by simp [ω',h0])⟩
 refine ⟨ω',κ,S,Ext.refl κ,ev,hH.frame ev (fun b l' hb hl=>?_) hH.swf (fun b l' hb=>?_),hr,ho.mono (Ext.refl κ) ev.set fun b hb=>⟨by simp [ω',hb],rfl,fun _ h=>h⟩⟩
 ·have hne:l'≠l:=by rcases hl with ⟨id,rfl⟩ | ⟨id,j,rfl⟩ <;> intro e <;> first | exact n1 _ e.symm | exact n2 _ _ e.symm
  exact ⟨by simp [ω',hb,hne],rfl,fun _ h=>h⟩
 ·by_cases h:ω b=some l
  ·exact hH.base b l h
  ·simp only [ω',h,if_false] at hb;exact hH.base b l' hb
theorem post_thaw (hH:HRel B ω κ S w H) {l:Lab} (n1:∀ id,l≠.obj id) (n2:∀ id j,l≠.cell id j) {cells:List AV} {len z:Nat} (h0:len≠0) {v:Value}
  (hr:Rel κ S w (.lst cells len (.uniq z)) v) (ho:OwnAt ω κ S w l (.lst cells len (.uniq z)) v) :
  Post B ω κ S w (H++[.cells cells]) (.ref H.length 0 len none z) v w:=by
 classical
 cases hr with
 | lnil c a=>exact absurd rfl h0
 | lst cells len c b o cap f hc hle hu h hrr=>exact absurd rfl (hu z)
 | luniq cells len z b o cap =>
   rcases ho with ⟨rfl,_,_⟩ | ⟨h1,ho,h2,h3,h4,h5,⟨cur,e,h6,h7,h8⟩,h9⟩
   ·exact absurd rfl h0
   ·simp only at h1 h6 h9 ho
    subst ho
    let ω':Nat→Option Lab:=fun b'=>if b'=b then some (.obj H.length) else ω b'
    have ev:Ev ω S w ω' S w:=⟨rfl,rfl,rfl,Nat.le_refl _,fun _ _ _=>rfl,fun _ _ h=>⟨h,rfl⟩,fun _ _ h=>.inl h,fun b' hb=>by
     by_cases hbb:b'=b
     ·subst hbb;exact .inl (by simp [h1])
     ·simp only [ω',hbb,if_false] at hb;exact .inl hb⟩
    have hH1:HRel B ω' κ S w H:=by
     refine hH.frame ev (fun b' l' hb hl=>?_) hH.swf (fun b' l' hb=>?_)
     ·have hne:b'≠b:=fun e=>by
       subst e;rw [h1] at hb;cases hb
       rcases hl with ⟨id,h⟩ | ⟨id,j,h⟩
       ·exact n1 _ h
       ·exact n2 _ _ h
      exact ⟨by simp [ω',hne,hb],rfl,fun _ h=>h⟩
     ·by_cases hbb:b'=b
      ·subst hbb;exact hH.base _ l h1
      ·simp only [ω',hbb,if_false] at hb;exact hH.base b' l' hb
    refine ⟨ω',_,S,Ext.append κ [b],ev,hH1.push b ⟨b,cur,e,Ext.last hH _,by simp [ω'],h6,by rw [h7,h5];exact Nat.mul_le_mul_right _ h2,h9,fun j u v hu hv=>?_⟩,
     .ref _ _ _ _ _ b _ (Ext.last hH _) (by simp) h2,OwnAt.of_plain rfl⟩
    obtain ⟨c1,c2,c3⟩:=h8 j u v hu hv
    exact ⟨AV.plain_noUniq c1,c2,c3.mono (Ext.append κ _) ev.set,OwnAt.of_plain c1⟩
theorem row_look (hH:HRel B ω κ S w H) {u:AV} {v:Value} {row:List AV} (h:rowOf H u=some row) (hr:Rel κ S w u v) (hn:u.noUniq=true) :
  (row=[]∧∃ a c,v=.slice a 0 c)∨∃ b o n c vs,v=.slice (some ⟨b,o,none⟩) n c∧CRel κ S w row vs∧(∀ j x,vs[j]?=some x→w.cell? ⟨b,o+j,none⟩=some x):=by
 unfold rowOf at h
 split at h
 ·rename_i cells len c
  simp at h
  subst h
  cases hr with
  | lnil c a=>exact .inl ⟨rfl,a,_,rfl⟩
  | luniq=>simp [AV.noUniq] at hn
  | lst _ _ _ b o cap f hc hle hu hcell hrel =>
    refine .inr ⟨b,o,len,cap,(List.range cells.length).map f,rfl,⟨by simp,fun j u v hu' hv'=>?_⟩,fun j x hx=>?_⟩
    ·have hj:=(List.getElem?_eq_some_iff.1 hu').1
     simp [hj] at hv';subst hv'
     exact ⟨(hcell j u hu').2.2.1,(hcell j u hu').2.2.2,hrel j u hu'⟩
    ·simp only [List.getElem?_map,Option.map_eq_some_iff] at hx
     obtain ⟨k,hk,rfl⟩:=hx
     have hj:j<cells.length:=by have:=(List.getElem?_eq_some_iff.1 hk).1;simpa using this
     simp [hj] at hk;subst hk
     exact (hcell j _ (List.getElem?_eq_getElem hj)).2.1
 ·rename_i id off len cap sz
  split at h
  ·rename_i l hid
   split at h
   ·rename_i hle
    simp only [Option.some.injEq] at h
    subst h
    obtain ⟨b,cur,e,a1,a2,a3,a4,a5,a6⟩:=hH.obj id _ hid
    cases hr with
    | ref id off len c sz b' cap' hb hc hle' =>
      rw [a1] at hb;cases hb
      refine .inr ⟨b,off,len,cap',(cur.toList.drop off).take (len*sz),rfl,⟨by simp;omega,fun j u v hu' hv'=>?_⟩,fun j x hx=>?_⟩
      ·simp only [List.getElem?_map,Option.map_eq_some_iff] at hu'
       obtain ⟨y,hy,rfl⟩:=hu'
       rw [List.getElem?_take] at hy hv'
       split at hy
       ·rename_i hj
        rw [if_pos hj] at hv'
        rw [List.getElem?_drop] at hy hv'
        obtain ⟨d1,d0,d2,_⟩:=a6 (off+j) y v hy (by simpa using hv')
        exact ⟨AV.view_plain y,d0,d2.view d1⟩
       ·simp at hy
      ·rw [List.getElem?_take] at hx
       split at hx
       ·rw [List.getElem?_drop] at hx
        rw [cell_of_row w b _ cur e (0,0) a3]
        simpa using hx
       ·simp at hx
   ·simp at h
  ·simp at h
 ·simp at h
theorem lenOf_eq {u:AV} {v:Value} {n:Nat} (h:lenOf u=some n) (hr:Rel κ S w u v):∃ a c,v=.slice a n c:=by
 unfold lenOf at h
 split at h
 ·simp at h;subst h
  cases hr with
  | lnil c a=>exact ⟨_,_,rfl⟩
  | lst=>exact ⟨_,_,rfl⟩
  | luniq=>exact ⟨_,_,rfl⟩
 ·simp at h;subst h
  cases hr with
  | ref=>exact ⟨_,_,rfl⟩
 ·simp at h
end
end Go.Proofs.YtfakoboiahbhaaaGreat.Ab


namespace Go.Proofs.YtfakoboiahbhaaaGreat.Ab
open Go
section
variable {P:Program} {B:Nat} {κ:List Nat} {w:World} {H:List AObj} {ω:Nat→Option Lab} {S:Nat→Nat→Prop}
theorem Post.after {ω1:Nat→Option Lab} {κ1:List Nat} {S1:Nat→Nat→Prop} {w1:World} (hκ:Ext κ κ1) (ev:Ev ω S w ω1 S1 w1) {H':List AObj} {r:AV} {v:Value} {w':World} (h:Post B ω1 κ1 S1 w1 H' r v w'):Post B ω κ S w H' r v w':=by
 obtain ⟨ω',κ',S',a,b,c,d,e⟩:=h
 exact ⟨ω',κ',S',hκ.trans a,ev.trans b,c,d,e⟩
theorem Post.settle {cells:List AV} {len z:Nat} {v:Value} {w':World} {H':List AObj} (h:Post B ω κ S w H' (.lst cells len (.uniq z)) v w'):Post B ω κ S w H' (.lst cells len (.own z)) v w':=by
 obtain ⟨ω',κ',S',a,b,c,d,e⟩:=h
 obtain ⟨S1,k1,k2,k3,r1,r2,r3⟩:=settle_main c d e
 exact ⟨ω',κ',S1,a,b.trans (Ev.settle k1 fun b o h=>(k2 b o h).imp (fun h=>h) fun h=>⟨_,h⟩),c.settle k1 (fun b o h=>(k2 b o h).imp (fun h=>h) fun h=>⟨_,h,by simp,by simp⟩) k3,r2,r3⟩
theorem run_append_zero (t ty e:TypeId) (i:TypeInfo) (ht:P.underlying t=some (.slice e)) (hi:P.info? e=some i) (base:Option Addr) (sLen sCap:Nat) (hle:sLen≤sCap) (a:Option Addr) (c:Nat) :
  (Builtin.append_ #[t,t] ty #[.slice base sLen sCap,.slice a 0 c]).run P w=.ok (.slice base sLen sCap) w:=by
 cases a <;> cases base <;> simp [Builtin.append_,run_underlying ht,sizeOf,typeInfo,hi,Builtin.lenOf,hle,Builtin.firstCells,loadCells,loadCellsFrom,storeCells]
theorem run_append_room' (w:World) (t ty e:TypeId) (i:TypeInfo) (ht:P.underlying t=some (.slice e)) (hi:P.info? e=some i)
  (g sLen sCap:Nat) (cur:Array Value) (ce:TypeId) (hg:w.heap[g]?=some (.cells cur ce (0,0)))
  (a:Addr) (m c:Nat) (news:List Value) (hl:news.length=m*i.size) (hnews:∀ j u,news[j]?=some u→w.cell? (a.add j)=some u) (h1:∀ u∈news,u.oneCell'=true)
  (hroom:sLen+m≤sCap) (hfit:sLen*i.size+news.length≤cur.size) :
  (Builtin.append_ #[t,t] ty #[.slice (some ⟨g,0,none⟩) sLen sCap,.slice (some a) m c]).run P w =
   .ok (.slice (some ⟨g,0,none⟩) (sLen+m) sCap) (w.setRow g (cur.toList.take (sLen*i.size)++news++cur.toList.drop (sLen*i.size+news.length)).toArray):=by
 have hf:=run_firstCells_some (P:=P) w i.size m a m c news hl hnews
 have hst:=run_storeCells_at P g (sLen*i.size) ce news 0 cur w hg (by simpa using hfit) h1
 simp only [Nat.add_zero] at hst
 simp [Builtin.append_,run_underlying ht,sizeOf,typeInfo,hi,Builtin.lenOf,hroom,hf,Addr.add_lit,hst]
theorem run_append_room2 (w:World) (t ty e:TypeId) (i:TypeInfo) (ht:P.underlying t=some (.slice e)) (hi:P.info? e=some i)
  (g k sLen sCap:Nat) (cur:Array Value) (ce:TypeId) (hg:w.heap[g]?=some (.cells cur ce (0,0)))
  (a:Addr) (m c:Nat) (news:List Value) (hl:news.length=m*i.size) (hnews:∀ j u,news[j]?=some u→w.cell? (a.add j)=some u) (h1:∀ u∈news,u.oneCell'=true)
  (hroom:sLen+m≤sCap) (hfit:k+sLen*i.size+news.length≤cur.size) :
  (Builtin.append_ #[t,t] ty #[.slice (some ⟨g,k,none⟩) sLen sCap,.slice (some a) m c]).run P w =
   .ok (.slice (some ⟨g,k,none⟩) (sLen+m) sCap) (w.setRow g (cur.toList.take (k+sLen*i.size)++news++cur.toList.drop (k+sLen*i.size+news.length)).toArray):=by
 have hf:=run_firstCells_some (P:=P) w i.size m a m c news hl hnews
 have hst:=run_storeCells_at P g (k+sLen*i.size) ce news 0 cur w hg (by simpa using hfit) h1
 simp only [Nat.add_zero] at hst
 simp [Builtin.append_,run_underlying ht,sizeOf,typeInfo,hi,Builtin.lenOf,hroom,hf,Addr.add_lit,hst]
section grow
variable {t ty e:TypeId} {i:TypeInfo} {z:Value} {zc:List AV}
theorem append_new (hH:HRel B ω κ S w H) (ht:P.underlying t=some (.slice e)) (hi:P.info? e=some i) (hz:i.zero=some z) (hzl:z.cells.size=i.size) (hsz:0<i.size)
  (v:Value) (len cap:Nat) (olds:List Value) (hv:((∃ a,v=.slice a 0 0)∧len=0∧cap=0∧olds=[])∨∃ b o,v=.slice (some ⟨b,o,none⟩) len cap∧∀ j x,olds[j]?=some x→w.cell? ⟨b,o+j,none⟩=some x)
  {cs:List AV} (hco:CRel κ S w cs olds) (hol:cs.length=len*i.size)
  {b' o' m c:Nat} {new:List AV} {news:List Value} (hnew:CRel κ S w new news) (hcell:∀ j x,news[j]?=some x→w.cell? ⟨b',o'+j,none⟩=some x) (hnl:new.length=m*i.size)
  (hm:0<m) (hgrow:cap<len+m) (hroom:(len+m)*i.bytes≤140737488355328) (hb1:1≤i.bytes) :
  ∃ x w',(Builtin.append_ #[t,t] ty #[v,.slice (some ⟨b',o',none⟩) m c]).run P w=.ok x w'∧Post B ω κ S w H (.lst (cs++new) (len+m) (.uniq i.size)) x w':=by
 have hlm:len+m≤140737488355328:=Nat.le_trans (Nat.le_mul_of_pos_right _ hb1) hroom
 have hml:len+m≤maxLen:=by simp only [maxLen];omega
 have hnl':news.length=m*i.size:=hnew.len ▸ hnl
 have hol':olds.length=len*i.size:=hco.len ▸ hol
 have hcell':∀ j x,news[j]?=some x→w.cell? ((⟨b',o',none⟩:Addr).add j)=some x:=fun j x h=>by rw [add_lit];exact hcell j x h
 have fin:∀ capn:Nat,capn=grownCap w (len+m) cap e →
   Post B ω κ S w H (.lst (cs++new) (len+m) (.uniq i.size)) (.slice (some ⟨w.heap.size,0,none⟩) (len+m) capn)
    (w.drew.alloc (.cells (olds.toArray++news.toArray++Builtin.zeroCells z.cells (capn-(len+m))) e)):=by
  rintro capn rfl
  have hge:=grownCap_ge w (len+m) cap e
  have hle:=grownCap_le_maxLen w (len+m) cap e hml
  generalize grownCap w (len+m) cap e=capn at hge hle
  have ev:=drew_ev ω S w
  have h:=new_row (hrel_drew hH) ((hco.append hnew).mono (Ext.refl κ) ev.set) (Builtin.zeroCells z.cells (capn-(len+m))).toList e (len+m) capn i.size hsz
   (by rw [List.length_append,hol,hnl,Nat.add_mul]) hge hle (by
    rw [List.length_append,hol',hnl',←Nat.add_mul,Array.length_toList,size_zeroCells,hzl,←Nat.add_mul];congr 1;omega)
  have he:(olds++news++(Builtin.zeroCells z.cells (capn-(len+m))).toList).toArray=olds.toArray++news.toArray++Builtin.zeroCells z.cells (capn-(len+m)):=by
   apply Array.ext';simp
  rw [he] at h
  exact Post.after (Ext.refl κ) ev h
 rcases hv with ⟨⟨a0,rfl⟩,rfl,rfl,rfl⟩ | ⟨b,o,rfl,hold⟩
 ·cases a0 with
  | none =>
    have hr:=run_append_nil (P:=P) w t ty e i z ht hi hz ⟨b',o',none⟩ m c news hnl' hcell' hm (by omega) (by rw [Nat.zero_add] at hroom;omega)
    have f:=fin _ rfl
    refine ⟨_,_,hr,?_⟩
    simpa using f
  | some ad =>
    have hr:=run_append_grow (P:=P) w t ty e i z ht hi hz ad 0 0 [] (by simp) (by simp) ⟨b',o',none⟩ m c news hnl' hcell' hgrow (by omega) (growslice_fits hgrow hroom)
    exact ⟨_,_,hr,fin _ rfl⟩
 ·have hr:=run_append_grow (P:=P) w t ty e i z ht hi hz ⟨b,o,none⟩ len cap olds hol' (fun j x h=>by rw [add_lit];exact hold j x h) ⟨b',o',none⟩ m c news hnl' hcell' hgrow (by omega) (growslice_fits hgrow hroom)
  exact ⟨_,_,hr,fin _ rfl⟩
theorem append_room_uniq (hH:HRel B ω κ S w H) (ht:P.underlying t=some (.slice e)) (hi:P.info? e=some i) (hsz:0<i.size) {l:Lab} (n1:∀ id,l≠.obj id) (n2:∀ id j,l≠.cell id j)
  {cells:List AV} {len b cap:Nat} {cur:Array Value} {ce:TypeId} (o1:ω b=some l) (o3:cap≤maxLen) (o4:cells.length=len*i.size)
  (o5:w.heap[b]?=some (.cells cur ce (0,0))) (o6:cur.size=cap*i.size) (o7:∀ (j:Nat) (u:AV) (v:Value),cells[j]?=some u→cur[j]?=some v→u.plain=true∧v.oneCell'=true∧Rel κ S w u v)
  (o8:∀ o,¬ S b o)
  {b' o' m c:Nat} {new:List AV} {news:List Value} (hnew:CRel κ S w new news) (hcell:∀ j x,news[j]?=some x→w.cell? ⟨b',o'+j,none⟩=some x) (hnl:new.length=m*i.size) (hfit:len+m≤cap) :
  ∃ x w',(Builtin.append_ #[t,t] ty #[.slice (some ⟨b,0,none⟩) len cap,.slice (some ⟨b',o',none⟩) m c]).run P w=.ok x w'∧Post B ω κ S w H (.lst (cells++new) (len+m) (.uniq i.size)) x w':=by
 classical
 have hnl':news.length=m*i.size:=hnew.len ▸ hnl
 have hcs:(len+m)*i.size≤cap*i.size:=Nat.mul_le_mul_right _ hfit
 rw [Nat.add_mul] at hcs
 have hone:∀ u∈news,u.oneCell'=true:=fun u hu=>by
  obtain ⟨j,hj⟩:=List.mem_iff_getElem?.1 hu
  have hlt:=(List.getElem?_eq_some_iff.1 hj).1
  exact (hnew.rel j _ u (List.getElem?_eq_getElem (hnew.len ▸ hlt)) hj).2.1
 have hr:=run_append_room' w t ty e i ht hi b len cap cur ce o5 ⟨b',o',none⟩ m c news hnl' (fun j x h=>by rw [add_lit];exact hcell j x h) hone hfit (by rw [o6];omega)
 let cur':Array Value:=(cur.toList.take (len*i.size)++news++cur.toList.drop (len*i.size+news.length)).toArray
 have hcellw:∀ b1 o,b1≠b→(w.setRow b cur').cell? ⟨b1,o,none⟩=w.cell? ⟨b1,o,none⟩:=fun b1 o h=>by
  unfold World.cell?;simp only [setRow_other w b b1 cur' h]
 let ω':Nat→Option Lab:=fun b1=>if b1=b then some .res else ω b1
 have hsize:(w.setRow b cur').heap.size=w.heap.size:=by simp [World.setRow]
 have ev:Ev ω S w ω' S (w.setRow b cur'):=by
  refine ⟨rfl,rfl,rfl,by omega,fun b1 hb hn=>setRow_other w b b1 cur' (fun e=>by subst e;rw [o1] at hn;cases hn),fun b1 o hs=>⟨hs,hcellw b1 o (fun e=>o8 o (e ▸ hs))⟩,fun _ _ hs=>.inl hs,fun b1 hb=>?_⟩
  by_cases h:b1=b
  ·subst h;exact .inl (by simp [o1])
  ·simp only [ω',h,if_false] at hb;exact .inl hb
 refine ⟨_,_,hr,ω',κ,S,Ext.refl κ,ev,hH.frame ev (fun b1 l' hb hl=>?_) (fun b1 o hs=>?_) (fun b1 l' hb=>?_),.luniq _ _ _ _ _ _,.inr ⟨by simp [ω'],rfl,hfit,o3,hsz,by rw [List.length_append,o4,hnl,Nat.add_mul],⟨cur',ce,setRow_heap w b cur cur' ce (0,0) o5,?_,fun j u v hu hv=>?_⟩,o8⟩⟩
 ·have hne:b1≠b:=fun e=>by
   subst e;rw [o1] at hb;cases hb
   rcases hl with ⟨id,h⟩ | ⟨id,j,h⟩
   ·exact n1 _ h
   ·exact n2 _ _ h
  exact ⟨by simp [ω',hne,hb],setRow_other w b b1 cur' hne,fun _ h=>h⟩
 ·obtain ⟨v,hv⟩:=hH.swf b1 o hs
  exact ⟨v,(hcellw b1 o (fun e=>o8 o (e ▸ hs))).trans hv⟩
 ·rw [hsize]
  by_cases h:b1=b
  ·subst h;exact hH.base _ l o1
  ·simp only [ω',h,if_false] at hb;exact hH.base b1 l' hb
 ·have h1:cur.toList.length=cap*i.size:=by simp [o6]
  show (List.toArray _).size=_
  rw [List.size_toArray,List.length_append,List.length_append,List.length_take,List.length_drop,h1,hnl',Nat.min_eq_left (by omega)];omega
 ·have hv:(cur.toList.take (len*i.size)++news++cur.toList.drop (len*i.size+news.length))[j]?=some v:=by simpa [cur'] using hv
  have h1:cur.toList.length=cap*i.size:=by simp [o6]
  rw [seg_get _ _ _ _ (by rw [h1];omega)] at hv
  by_cases hj:j<cells.length
  ·rw [List.getElem?_append_left hj] at hu
   rw [if_neg (by omega)] at hv
   obtain ⟨c1,c2,c3⟩:=o7 j u v hu (by simpa using hv)
   exact ⟨c1,c2,c3.mono (Ext.refl κ) ev.set⟩
  ·rw [List.getElem?_append_right (by omega)] at hu
   have hjn:=(List.getElem?_eq_some_iff.1 hu).1
   rw [if_pos ⟨by omega,by rw [hnl',←hnl];omega⟩] at hv
   rw [o4] at hu
   obtain ⟨c1,c2,c3⟩:=hnew.rel _ u v hu hv
   exact ⟨c1,c2,c3.mono (Ext.refl κ) ev.set⟩
theorem append_room_own (hH:HRel B ω κ S w H) (ht:P.underlying t=some (.slice e)) (hi:P.info? e=some i) (hsz:0<i.size) {l:Lab} (n1:∀ id,l≠.obj id) (n2:∀ id j,l≠.cell id j)
  {cells:List AV} {len b k cap:Nat} {cur:Array Value} {ce:TypeId} {f:Nat→Value} (o1:ω b=some l) (o3:cap≤maxLen) (o4:cells.length=len*i.size)
  (o5:w.heap[b]?=some (.cells cur ce (0,0))) (o6:cur.size=k+cap*i.size)
  (h:∀ (j:Nat) (u:AV),cells[j]?=some u→S b (k+j)∧w.cell? ⟨b,k+j,none⟩=some (f j)∧u.plain=true∧(f j).oneCell'=true)
  (hr:∀ (j:Nat) (u:AV),cells[j]?=some u→Rel κ S w u (f j)) (o8:∀ o,k+cells.length≤o→¬ S b o)
  {b' o' m c:Nat} {new:List AV} {news:List Value} (hnew:CRel κ S w new news) (hcell:∀ j x,news[j]?=some x→w.cell? ⟨b',o'+j,none⟩=some x) (hnl:new.length=m*i.size) (hfit:len+m≤cap) :
  ∃ x w',(Builtin.append_ #[t,t] ty #[.slice (some ⟨b,k,none⟩) len cap,.slice (some ⟨b',o',none⟩) m c]).run P w=.ok x w'∧Post B ω κ S w H (.lst (cells++new) (len+m) (.own i.size)) x w':=by
 classical
 have hnl':news.length=m*i.size:=hnew.len ▸ hnl
 have hcs:(len+m)*i.size≤cap*i.size:=Nat.mul_le_mul_right _ hfit
 rw [Nat.add_mul] at hcs
 have hone:∀ u∈news,u.oneCell'=true:=fun u hu=>by
  obtain ⟨j,hj⟩:=List.mem_iff_getElem?.1 hu
  have hlt:=(List.getElem?_eq_some_iff.1 hj).1
  exact (hnew.rel j _ u (List.getElem?_eq_getElem (hnew.len ▸ hlt)) hj).2.1
 have hrun:=run_append_room2 w t ty e i ht hi b k len cap cur ce o5 ⟨b',o',none⟩ m c news hnl' (fun j x h=>by rw [add_lit];exact hcell j x h) hone hfit (by rw [o6];omega)
 let cur':Array Value:=(cur.toList.take (k+len*i.size)++news++cur.toList.drop (k+len*i.size+news.length)).toArray
 have hcur':∀ j:Nat,cur'[j]?=if k+len*i.size≤j∧j<k+len*i.size+news.length then news[j-(k+len*i.size)]? else cur[j]?:=fun j=>by
  have h1:cur.toList.length=k+cap*i.size:=by simp [o6]
  have:=seg_get cur.toList news (k+len*i.size) j (by rw [h1];omega)
  simpa [cur'] using this
 have hcell':∀ j,(w.setRow b cur').cell? ⟨b,j,none⟩=cur'[j]?:=fun j=>cell_of_row _ b j cur' ce (0,0) (setRow_heap w b cur cur' ce (0,0) o5)
 have hcell0:∀ j,w.cell? ⟨b,j,none⟩=cur[j]?:=fun j=>cell_of_row _ b j cur ce (0,0) o5
 have hcellw:∀ b1 o,b1≠b→(w.setRow b cur').cell? ⟨b1,o,none⟩=w.cell? ⟨b1,o,none⟩:=fun b1 o h=>by
  unfold World.cell?;simp only [setRow_other w b b1 cur' h]
 let ω':Nat→Option Lab:=fun b1=>if b1=b then some .res else ω b1
 let S':Nat→Nat→Prop:=fun b1 o=>S b1 o∨(b1=b∧k+cells.length≤o∧o<k+cells.length+new.length)
 have hsize:(w.setRow b cur').heap.size=w.heap.size:=by simp [World.setRow]
 have hS:∀ b1 o,S b1 o→(w.setRow b cur').cell? ⟨b1,o,none⟩=w.cell? ⟨b1,o,none⟩:=fun b1 o hs=>by
  by_cases hb:b1=b
  ·subst hb
   have ho:o<k+cells.length:=by
    rcases Nat.lt_or_ge o (k+cells.length) with h | h
    ·exact h
    ·exact absurd hs (o8 o h)
   rw [hcell',hcur',if_neg (by omega),hcell0]
  ·exact hcellw b1 o hb
 have ev:Ev ω S w ω' S' (w.setRow b cur'):=by
  refine ⟨rfl,rfl,rfl,by omega,fun b1 hb hn=>setRow_other w b b1 cur' (fun e=>by subst e;rw [o1] at hn;cases hn),fun b1 o hs=>⟨.inl hs,hS b1 o hs⟩,fun b1 o hs=>?_,fun b1 hb=>?_⟩
  ·rcases hs with hs | ⟨rfl,_⟩
   ·exact .inl hs
   ·exact .inr (.inl (by simp [o1]))
  ·by_cases h:b1=b
   ·subst h;exact .inl (by simp [o1])
   ·simp only [ω',h,if_false] at hb;exact .inl hb
 have hnewcell:∀ (j:Nat) (u:AV),(cells++new)[j]?=some u→S' b (k+j)∧(w.setRow b cur').cell? ⟨b,k+j,none⟩=some (cur'.getD (k+j) undef)∧u.plain=true∧(cur'.getD (k+j) undef).oneCell'=true∧Rel κ S' (w.setRow b cur') u (cur'.getD (k+j) undef):=by
  intro j u hu
  rw [hcell']
  by_cases hj:j<cells.length
  ·rw [List.getElem?_append_left hj] at hu
   obtain ⟨h1,h2,h3,h4⟩:=h j u hu
   rw [hcell0] at h2
   have hc:cur'[k+j]?=some (f j):=by rw [hcur',if_neg (by omega),h2]
   have hg:cur'.getD (k+j) undef=f j:=by rw [Array.getD_eq_getD_getElem?,hc];rfl
   rw [hg]
   exact ⟨.inl h1,hc,h3,h4,(hr j u hu).mono (Ext.refl κ) ev.set⟩
  ·rw [List.getElem?_append_right (by omega)] at hu
   have hjn:=(List.getElem?_eq_some_iff.1 hu).1
   have hjn':j-cells.length<news.length:=hnew.len ▸ hjn
   have hc:cur'[k+j]?=some (news[j-cells.length]):=by
    rw [hcur',if_pos ⟨by omega,by omega⟩,←o4,Nat.add_sub_add_left];exact List.getElem?_eq_getElem hjn'
   have hg:cur'.getD (k+j) undef=news[j-cells.length]:=by rw [Array.getD_eq_getD_getElem?,hc];rfl
   obtain ⟨c1,c2,c3⟩:=hnew.rel _ u _ hu (List.getElem?_eq_getElem hjn')
   rw [hg]
   exact ⟨.inr ⟨rfl,by omega,by omega⟩,hc,c1,c2,c3.mono (Ext.refl κ) ev.set⟩
 refine ⟨_,_,hrun,ω',κ,S',Ext.refl κ,ev,hH.frame ev (fun b1 l' hb hl=>?_) (fun b1 o hs=>?_) (fun b1 l' hb=>?_),
  .lst _ _ _ b k cap (fun j=>cur'.getD (k+j) undef) (by simp) hfit (by simp) (fun j u hu=>let ⟨a1,a2,a3,a4,_⟩:=hnewcell j u hu;⟨a1,a2,a3,a4⟩) (fun j u hu=>(hnewcell j u hu).2.2.2.2),
  .inr ⟨by simp [ω'],trivial,rfl,hfit,o3,hsz,by rw [List.length_append,o4,hnl,Nat.add_mul],⟨cur',ce,setRow_heap w b cur cur' ce (0,0) o5,?_⟩,fun o ho hs=>?_⟩⟩
 ·have hne:b1≠b:=fun e=>by
   subst e;rw [o1] at hb;cases hb
   rcases hl with ⟨id,h⟩ | ⟨id,j,h⟩
   ·exact n1 _ h
   ·exact n2 _ _ h
  refine ⟨by simp [ω',hne,hb],setRow_other w b b1 cur' hne,fun o hs=>?_⟩
  rcases hs with hs | ⟨h,_⟩
  ·exact hs
  ·exact absurd h hne
 ·rcases hs with hs | ⟨rfl,h1,h2⟩
  ·obtain ⟨v,hv⟩:=hH.swf b1 o hs
   exact ⟨v,(hS b1 o hs).trans hv⟩
  ·obtain ⟨u,hu⟩:∃ u,(cells++new)[o-k]?=some u:=⟨_,List.getElem?_eq_getElem (by simp;omega)⟩
   have:=(hnewcell (o-k) u hu).2.1
   rw [Nat.add_sub_cancel' (by omega)] at this
   exact ⟨_,this⟩
 ·rw [hsize]
  by_cases h:b1=b
  ·subst h;exact hH.base _ l o1
  ·simp only [ω',h,if_false] at hb;exact hH.base b1 l' hb
 ·have h1:cur.toList.length=k+cap*i.size:=by simp [o6]
  show (List.toArray _).size=k+cap*i.size
  rw [List.size_toArray,List.length_append,List.length_append,List.length_take,List.length_drop,h1,hnl',Nat.min_eq_left (by omega)];omega
 ·simp only [List.length_append] at ho
  rcases hs with hs | ⟨_,h1,h2⟩
  ·exact o8 o (by omega) hs
  ·omega
end grow
theorem appended_look (hH:HRel B ω κ S w H) {x:AV} {vx:Value} {m:Nat} {new:List AV} (h:appended H x=some (m,new)) (hr:Rel κ S w x vx) (hn:x.noUniq=true) :
  (new=[]∧∃ a c,vx=.slice a m c)∨∃ b o c vs,vx=.slice (some ⟨b,o,none⟩) m c∧CRel κ S w new vs∧(∀ j y,vs[j]?=some y→w.cell? ⟨b,o+j,none⟩=some y):=by
 unfold appended at h
 split at h
 ·rename_i m' row hm hrow
  simp only [Option.some.injEq,Prod.mk.injEq] at h
  obtain ⟨rfl,rfl⟩:=h
  obtain ⟨a,c,hv⟩:=lenOf_eq hm hr
  rcases row_look hH hrow hr hn with ⟨h1,n,c',h2⟩ | ⟨b,o,n,c',vs,h2,h3,h4⟩
  ·rw [h2] at hv;cases hv;exact .inl ⟨h1,_,_,h2⟩
  ·rw [h2] at hv;cases hv;exact .inr ⟨b,o,_,vs,h2,h3,h4⟩
 ·simp at h
end
end Go.Proofs.YtfakoboiahbhaaaGreat.Ab


namespace Go.Proofs.YtfakoboiahbhaaaGreat.Ab
open Go
section
variable {P:Program} {B:Nat} {κ:List Nat} {w:World} {H:List AObj} {ω:Nat→Option Lab} {S:Nat→Nat→Prop}
theorem look_one (hH:HRel B ω κ S w H) {l:Lab} (n1:∀ id,l≠.obj id) (n2:∀ id j,l≠.cell id j) {u:AV} {v:Value} (hr:Rel κ S w u v) (ho:OwnAt ω κ S w l u v) :
  ∃ S':Nat→Nat→Prop,(∀ b o,S b o→S' b o)∧(∀ b o,S' b o→S b o∨ω b=some l)∧HRel B ω κ S' w H∧Rel κ S' w u.view v:=by
 by_cases hu:u.noUniq=true
 ·exact ⟨S,fun _ _ h=>h,fun _ _ h=>.inl h,hH,hr.view hu⟩
 ·obtain ⟨cells,len,z,rfl⟩:∃ cells len z,u=.lst cells len (.uniq z):=by
   unfold AV.noUniq at hu;split at hu
   ·exact ⟨_,_,_,rfl⟩
   ·simp at hu
  obtain ⟨S1,k1,k2,k3,r1,_,_⟩:=settle_main hH hr ho
  exact ⟨S1,k1,k2,hH.settle k1 (fun b o h=>(k2 b o h).imp (fun h=>h) fun h=>⟨_,h,n1,n2⟩) k3,r1⟩
theorem appended_view {u:AV} {r:Nat×List AV} (h:appended H u=some r):appended H u.view=some r:=by
 cases u <;> try exact h
 ·rename_i cells len c
  cases c <;> exact h
 ·simp [appended,lenOf] at h
theorem run_append_zeros (t xt ty e:TypeId) (i:TypeInfo) (z:Value) (k0:IntKind) (ht:P.underlying t=some (.slice e)) (hxt:P.underlying xt=some (.int k0)) (hi:P.info? e=some i) (hz:i.zero=some z)
  (base:Option Addr) (n:Int) (h0:0<n) (hb:n.toNat*i.bytes≤140737488355328) (hb1:1≤i.bytes) (hsz:0<i.size) :
  (Builtin.append_ #[t,xt] ty #[.slice base 0 0,.int .i64 n]).run P w =
   .ok (.slice (some ⟨w.heap.size,0,none⟩) n.toNat (grownCap w n.toNat 0 e)) (w.drew.alloc (.cells (Builtin.zeroCells z.cells n.toNat++Builtin.zeroCells z.cells (grownCap w n.toNat 0 e-n.toNat)) e)):=by
 have hn:n.toNat≤140737488355328:=Nat.le_trans (Nat.le_mul_of_pos_right _ hb1) hb
 have w1:IntKind.i64.wrap n=n:=IntWalk.i64_in _ (by omega)
 have hnb:n*(i.bytes:Int)=((n.toNat*i.bytes:Nat):Int):=by rw [Int.natCast_mul,Int.toNat_of_nonneg (by omega)]
 have hcap:Builtin.nextslicecap n.toNat 0=n.toNat:=by unfold Builtin.nextslicecap;rw [if_pos (by omega)]
 have h1:¬ n<0:=by omega
 have h2:¬ ((281474976710656:Int)<n*i.bytes):=by rw [hnb];omega
 have h4:¬ (281474976710656<n.toNat*i.bytes):=by omega
 have h5:¬ (9223372036854775807<max n 0):=by omega
 have h6:n.toNat*i.size≠0:=by have:0<n.toNat:=by omega
                              have:=Nat.mul_pos this hsz;omega
 have h7:¬ n≤0:=by omega
 cases base <;> simp [Builtin.append_,run_underlying ht,run_underlying hxt,sizeOf,typeInfo,hi,asInt,asIntOf,w1,h1,h2,h7,h5,h4,h6,Builtin.lenOf,Builtin.firstCells,loadCells,loadCellsFrom,hcap,zeroValue,hz,grownCap,Question.forced,newRow]
theorem sim_append (hH:HRel B ω κ S w H) {t xt:TypeId} (ty:TypeId) {u x r:AV} {v vx:Value} {l0 l1:Lab} (n1:∀ id,l0≠.obj id) (n2:∀ id j,l0≠.cell id j) (m1:∀ id,l1≠.obj id) (m2:∀ id j,l1≠.cell id j) (hne:l0≠l1)
  (h:aAppend P H t xt u x=some r) (hr:Rel κ S w u v) (ho:OwnAt ω κ S w l0 u v) (hrx:Rel κ S w x vx) (hox:OwnAt ω κ S w l1 x vx) :
  ∃ y w',(Builtin.append_ #[t,xt] ty #[v,vx]).run P w=.ok y w'∧Post B ω κ S w H r y w':=by
 obtain ⟨S1,k1,k2,hH1,hrx1⟩:=look_one hH m1 m2 hrx hox
 have ev0:Ev ω S w ω S1 w:=Ev.settle k1 fun b o h=>(k2 b o h).imp (fun h=>h) fun h=>⟨_,h⟩
 have hr1:Rel κ S1 w u v:=hr.mono (Ext.refl κ) ev0.set
 have ho1:OwnAt ω κ S1 w l0 u v:=ho.mono (Ext.refl κ) ev0.set fun b hb=>⟨hb,rfl,fun o hs=>by
  rcases k2 b o hs with h | h
  ·exact h
  ·rw [hb] at h;cases h;exact absurd rfl hne⟩
 suffices hs:∃ y w',(Builtin.append_ #[t,xt] ty #[v,vx]).run P w=.ok y w'∧Post B ω κ S1 w H r y w' by
  obtain ⟨y,w',a,b⟩:=hs
  exact ⟨y,w',a,Post.after (Ext.refl κ) ev0 b⟩
 clear hr ho hrx hox ev0 k1 k2 hH
 unfold aAppend at h
 split at h
 ·rename_i e ht
  split at h
  ·rename_i sz bytes z hs hb hz
   obtain ⟨i,hi,rfl⟩:=szOf_some hs
   simp only [hi,Option.map_some,Option.some.injEq] at hb
   subst hb
   obtain ⟨i',zv,hi',hzv,hcz⟩:=zeroCells_rel (κ:=κ) (S:=S1) (w:=w) hz
   rw [hi] at hi';cases hi'
   have hzl':z.length=zv.cells.size:=by simpa using hcz.len
   split at h
   ·rename_i hbeq
    obtain rfl:t=xt:=Nat.eq_of_beq_eq_true hbeq
    split at h
    ·rename_i m new happ
     replace happ:=appended_view happ
     split at h
     ·rename_i hc
      obtain ⟨hnl,hsz,hzl,hrm⟩:=hc
      have hzs:zv.cells.size=i.size:=by omega
      obtain ⟨hrm1,hrm2⟩:=roomOk_le hrm
      have hx:=appended_look hH1 happ hrx1 (AV.plain_noUniq (AV.view_plain x))
      have zero:m=0→∀ base len cap,v=.slice base len cap→len≤cap→(Builtin.append_ #[t,t] ty #[v,vx]).run P w=.ok v w:=by
       rintro rfl base len cap rfl hle
       rcases hx with ⟨_,a0,c,rfl⟩ | ⟨b,o,c,vs,rfl,_,_⟩
       ·exact run_append_zero (P:=P) (w:=w) t ty e i ht hi base len cap hle a0 c
       ·exact run_append_zero (P:=P) (w:=w) t ty e i ht hi base len cap hle _ c
      have some':0<m→∃ b o c vs,vx=.slice (some ⟨b,o,none⟩) m c∧CRel κ S1 w new vs∧(∀ j y,vs[j]?=some y→w.cell? ⟨b,o+j,none⟩=some y):=by
       intro hm
       rcases hx with ⟨h0,_,c,rfl⟩ | h
       ·rw [h0] at hnl;simp at hnl
        have:=Nat.mul_pos hm hsz;omega
       ·exact h
      split at h
      ·rename_i cells len c
       split at h
       ·
        split at h
        ·rename_i hm
         cases h
         have hv:∃ base cap,v=.slice base len cap∧len≤cap:=by
          cases hr1 with
          | lnil=>exact ⟨_,_,rfl,Nat.le_refl _⟩
          | lst _ _ _ b o cap f _ hle=>exact ⟨_,_,rfl,hle⟩
         obtain ⟨base,cap,hv,hle⟩:=hv
         exact ⟨v,w,zero hm base len cap hv hle,Post.same hH1 hr1 rfl⟩
        ·simp at h
       ·
        have hv:((∃ a,v=.slice a 0 0)∧len=0∧cells=[])∨∃ b o,∃ f:Nat→Value,v=.slice (some ⟨b,o,none⟩) len len ∧
          (∀ (j:Nat) (u:AV),cells[j]?=some u→S1 b (o+j)∧w.cell? ⟨b,o+j,none⟩=some (f j)∧u.plain=true∧(f j).oneCell'=true)∧(∀ (j:Nat) (u:AV),cells[j]?=some u→Rel κ S1 w u (f j)):=by
         cases hr1 with
         | lnil _ a=>exact .inl ⟨⟨a,rfl⟩,rfl,rfl⟩
         | lst _ _ _ b o cap f hc hle hu hcell hrel=>exact .inr ⟨b,o,f,by rw [hc rfl],hcell,hrel⟩
        split at h
        ·rename_i hm
         split at h
         ·rename_i h0
          cases h
          subst h0
          rcases hv with ⟨⟨a,hv⟩,_,_⟩ | ⟨b,o,f,hv,_,_⟩
          ·exact ⟨v,w,zero hm _ _ _ hv (Nat.le_refl _),ω,κ,S1,Ext.refl κ,Ev.refl _ _ _,hH1,hv ▸ .lnil _ _,by rw [hv];cases a <;> first | trivial | exact .inl ⟨rfl,rfl,rfl⟩⟩
          ·exact ⟨v,w,zero hm _ _ _ hv (Nat.le_refl _),ω,κ,S1,Ext.refl κ,Ev.refl _ _ _,hH1,hv ▸ .luniq _ _ _ _ _ _,by rw [hv];exact .inl ⟨rfl,rfl,rfl⟩⟩
         ·cases h
          rcases hv with ⟨⟨a,hv⟩,rfl,_⟩ | ⟨b,o,f,hv,_,_⟩
          ·exact ⟨v,w,zero hm _ _ _ hv (Nat.le_refl _),Post.same hH1 hr1 rfl⟩
          ·exact ⟨v,w,zero hm _ _ _ hv (Nat.le_refl _),Post.same hH1 hr1 rfl⟩
        ·rename_i hm
         split at h
         ·rename_i hcond
          obtain ⟨hroom,hcl⟩:=hcond
          cases h
          obtain ⟨q1,q2⟩:=roomOk_le hroom
          obtain ⟨b',o',c',vs,rfl,hnew,hcell⟩:=some' (by omega)
          rcases hv with ⟨hv,rfl,rfl⟩ | ⟨b,o,f,hv,hcell0,hrel0⟩
          ·exact append_new hH1 ht hi hzv hzs hsz v 0 0 [] (.inl ⟨hv,rfl,rfl,rfl⟩) ⟨rfl,by simp⟩ (by simp) hnew hcell hnl (by omega) (by omega) q1 q2
          ·refine append_new hH1 ht hi hzv hzs hsz v len len ((List.range cells.length).map f) (.inr ⟨b,o,hv,fun j y hy=>?_⟩) ⟨by simp,fun j u' v' hu' hv'=>?_⟩ hcl hnew hcell hnl (by omega) (by omega) q1 q2
           ·simp only [List.getElem?_map,Option.map_eq_some_iff] at hy
            obtain ⟨k,hk,rfl⟩:=hy
            have hj:j<cells.length:=by have:=(List.getElem?_eq_some_iff.1 hk).1;simpa using this
            simp [hj] at hk;subst hk
            exact (hcell0 j _ (List.getElem?_eq_getElem hj)).2.1
           ·have hj:=(List.getElem?_eq_some_iff.1 hu').1
            simp [hj] at hv';subst hv'
            exact ⟨(hcell0 j u' hu').2.2.1,(hcell0 j u' hu').2.2.2,hrel0 j u' hu'⟩
         ·simp at h
       ·
        rename_i z'
        split at h
        ·rename_i hcond
         obtain ⟨rfl,hroom⟩:=hcond
         cases h
         obtain ⟨q1,q2⟩:=roomOk_le hroom
         by_cases hm:m=0
         ·have hne':new=[]:=List.eq_nil_of_length_eq_zero (by rw [hnl,hm];simp)
          have hv:∃ base cap,v=.slice base len cap∧len≤cap:=by
           cases hr1 with
           | lnil=>exact ⟨_,_,rfl,Nat.le_refl _⟩
           | lst _ _ _ b o cap f _ hle=>exact ⟨_,_,rfl,hle⟩
          obtain ⟨base,cap,hv,hle⟩:=hv
          refine ⟨v,w,zero hm base len cap hv hle,?_⟩
          rw [hne',hm,List.append_nil,Nat.add_zero]
          exact post_move hH1 n1 n2 hr1 ho1
         ·have hm:0<m:=Nat.pos_of_ne_zero hm
          obtain ⟨b',o',c',vs,rfl,hnew,hcell⟩:=some' hm
          cases hr1 with
          | lnil _ a =>
            obtain ⟨y,w',a1,a2⟩:=append_new (ty:=ty) hH1 ht hi hzv hzs hsz (.slice a 0 0) 0 0 [] (.inl ⟨⟨a,rfl⟩,rfl,rfl,rfl⟩) (cs:=[]) ⟨rfl,by simp⟩ (by simp) hnew hcell hnl hm (by omega) q1 q2
            exact ⟨y,w',a1,a2.settle⟩
          | lst _ _ _ b o cap f hc hle hu hcell0 hrel0 =>
            have hco:CRel κ S1 w cells ((List.range cells.length).map f):=⟨by simp,fun j u' v' hu' hv'=>by
             have hj:=(List.getElem?_eq_some_iff.1 hu').1
             simp [hj] at hv';subst hv'
             exact ⟨(hcell0 j u' hu').2.2.1,(hcell0 j u' hu').2.2.2,hrel0 j u' hu'⟩⟩
            have hcl:∀ j y,((List.range cells.length).map f)[j]?=some y→w.cell? ⟨b,o+j,none⟩=some y:=fun j y hy=>by
             simp only [List.getElem?_map,Option.map_eq_some_iff] at hy
             obtain ⟨k,hk,rfl⟩:=hy
             have hj:j<cells.length:=by have:=(List.getElem?_eq_some_iff.1 hk).1;simpa using this
             simp [hj] at hk;subst hk
             exact (hcell0 j _ (List.getElem?_eq_getElem hj)).2.1
            have hnew':cells.length=len*i.size→cap<len+m→_:=fun hl hg =>
             append_new (ty:=ty) (c:=c') hH1 ht hi hzv hzs hsz (.slice (some ⟨b,o,none⟩) len cap) len cap _ (.inr ⟨b,o,rfl,hcl⟩) hco hl hnew hcell hnl hm hg q1 q2
            rcases ho1 with ⟨h0,h1,h2⟩ | ⟨p1,p2,_,p3,p4,_,p6,⟨cur,ce,p7,p8⟩,p9⟩
            ·obtain ⟨y,w',a1,a2⟩:=hnew' (by rw [h2,h0];simp) (by omega)
             exact ⟨y,w',a1,a2.settle⟩
            ·simp only at p1 p7 p8 p9
             by_cases hfit:len+m≤cap
             ·exact append_room_own hH1 ht hi hsz n1 n2 p1 p4 p6 p7 p8 hcell0 hrel0 p9 hnew hcell hnl hfit
             ·obtain ⟨y,w',a1,a2⟩:=hnew' p6 (by omega)
              exact ⟨y,w',a1,a2.settle⟩
        ·simp at h
       ·
        rename_i z'
        split at h
        ·rename_i hcond
         obtain ⟨rfl,hroom⟩:=hcond
         cases h
         obtain ⟨q1,q2⟩:=roomOk_le hroom
         by_cases hm:m=0
         ·have hne':new=[]:=List.eq_nil_of_length_eq_zero (by rw [hnl,hm];simp)
          have hv:∃ base cap,v=.slice base len cap∧len≤cap:=by
           cases hr1 with
           | lnil=>exact ⟨_,_,rfl,Nat.le_refl _⟩
           | lst _ _ _ b o cap f _ hle=>exact ⟨_,_,rfl,hle⟩
           | luniq _ _ _ b o cap =>
             refine ⟨_,_,rfl,?_⟩
             rcases ho1 with ⟨h0,h1,h2⟩ | ⟨_,_,h,_⟩
             ·omega
             ·exact h
          obtain ⟨base,cap,hv,hle⟩:=hv
          refine ⟨v,w,zero hm base len cap hv hle,?_⟩
          rw [hne',hm,List.append_nil,Nat.add_zero]
          exact post_move hH1 n1 n2 hr1 ho1
         ·have hm:0<m:=Nat.pos_of_ne_zero hm
          obtain ⟨b',o',c',vs,rfl,hnew,hcell⟩:=some' hm
          cases hr1 with
          | lnil _ a =>
            exact append_new (ty:=ty) hH1 ht hi hzv hzs hsz (.slice a 0 0) 0 0 [] (.inl ⟨⟨a,rfl⟩,rfl,rfl,rfl⟩) (cs:=[]) ⟨rfl,by simp⟩ (by simp) hnew hcell hnl hm (by omega) q1 q2
          | lst _ _ _ b o cap f hc hle hu hcell0 hrel0=>exact absurd rfl (hu _)
          | luniq _ _ _ b o cap =>
            rcases ho1 with ⟨h0,h1,h2⟩ | ⟨p1,p2,p3,p4,_,p6,⟨cur,ce,p7,p8,p10⟩,p9⟩
            ·refine append_new (ty:=ty) hH1 ht hi hzv hzs hsz (.slice (some ⟨b,o,none⟩) len cap) len cap [] (.inr ⟨b,o,rfl,by simp⟩) ?_ (by rw [h2,h0];simp) hnew hcell hnl hm (by omega) q1 q2
             rw [h2];exact ⟨rfl,by simp⟩
            ·simp only at p1 p2 p7 p9
             subst p2
             have hcs:cells.length≤cur.size:=by rw [p8,p6];exact Nat.mul_le_mul_right _ p3
             by_cases hfit:len+m≤cap
             ·exact append_room_uniq hH1 ht hi hsz n1 n2 p1 p4 p6 p7 p8 p10 p9 hnew hcell hnl hfit
             ·refine append_new (ty:=ty) hH1 ht hi hzv hzs hsz (.slice (some ⟨b,0,none⟩) len cap) len cap (cur.toList.take cells.length) (.inr ⟨b,0,rfl,fun j y hy=>?_⟩) ⟨by simp;omega,fun j u' v' hu' hv'=>?_⟩ p6 hnew hcell hnl hm (by omega) q1 q2
              ·rw [List.getElem?_take] at hy
               split at hy
               ·rw [Nat.zero_add,cell_of_row w b _ cur ce (0,0) p7];simpa using hy
               ·simp at hy
              ·rw [List.getElem?_take] at hv'
               split at hv'
               ·exact p10 j u' v' hu' (by simpa using hv')
               ·simp at hv'
        ·simp at h
      ·
       rename_i id off len cap sz'
       split at h
       ·rename_i hcond
        obtain ⟨rfl,rfl,hm⟩:=hcond
        simp only [Option.bind_eq_some_iff] at h
        obtain ⟨old,hold,h⟩:=h
        split at h
        ·rename_i hroom
         cases h
         obtain ⟨q1,q2⟩:=roomOk_le hroom
         obtain ⟨b',o',c',vs,rfl,hnew,hcell⟩:=some' hm
         have hol:old.length=cap*i.size:=by
          simp only [rowOf] at hold
          split at hold
          ·split at hold
           ·simp at hold;rw [←hold];simp;omega
           ·simp at hold
          ·simp at hold
         have hvc:∃ b o,v=.slice (some ⟨b,o,none⟩) cap cap:=by
          cases hr1 with
          | ref _ _ _ _ _ b cap' _ hc _=>exact ⟨b,off,by rw [hc cap rfl]⟩
         obtain ⟨b0,o0,hv0⟩:=hvc
         rcases row_look hH1 hold hr1 rfl with ⟨hrn,n,c,hv⟩ | ⟨b,o,n,c,vs',hv,hco,hcell0⟩
         ·rw [hv] at hv0;cases hv0;subst hrn
          exact append_new hH1 ht hi hzv hzs hsz v _ _ [] (.inl ⟨⟨_,hv⟩,rfl,rfl,rfl⟩) ⟨rfl,by simp⟩ hol hnew hcell hnl hm (by omega) q1 q2
         ·rw [hv] at hv0
          simp only [Value.slice.injEq,Option.some.injEq,Addr.mk.injEq] at hv0
          obtain ⟨⟨rfl,rfl,_⟩,rfl,rfl⟩:=hv0
          exact append_new hH1 ht hi hzv hzs hsz v _ _ vs' (.inr ⟨b,o,hv,hcell0⟩) hco hol hnew hcell hnl hm (by omega) q1 q2
        ·simp at h
       ·simp at h
      ·simp at h
     ·simp at h
    ·simp at h
   ·
    split at h
    ·rename_i k0 n hxt
     split at h
     ·rename_i hc
      obtain ⟨h0,hroom,hsz,hzl⟩:=hc
      cases h
      obtain ⟨q1,q2⟩:=roomOk_le hroom
      have hvx:vx=.int .i64 n:=Rel.int_inv hrx1
      have hv:∃ base,v=.slice base 0 0:=by
       cases hr1 with
       | lnil=>exact ⟨_,rfl⟩
       | lst _ _ _ b o cap f hc _=>exact ⟨_,by rw [hc rfl]⟩
      obtain ⟨base,rfl⟩:=hv
      subst hvx
      have hr:=run_append_zeros (P:=P) (w:=w) t xt ty e i zv k0 ht hxt hi hzv base n h0 q1 q2 hsz
      have hge:=grownCap_ge w n.toNat 0 e
      have hn:n.toNat≤140737488355328:=Nat.le_trans (Nat.le_mul_of_pos_right _ q2) q1
      have hle:=grownCap_le_maxLen w n.toNat 0 e (by simp only [maxLen];omega)
      generalize grownCap w n.toNat 0 e=capn at hge hle hr
      have ev:=drew_ev ω S1 w
      have hzr:=(zeros_rel hcz (by omega) n.toNat).mono (Ext.refl κ) ev.set
      have hnr:=new_row (hrel_drew hH1) hzr (Builtin.zeroCells zv.cells (capn-n.toNat)).toList e n.toNat capn i.size hsz (by rw [repl_len,hzl]) hge hle (by
       rw [←hzr.len,repl_len,hzl,Array.length_toList,size_zeroCells,←hzl',hzl,←Nat.add_mul];congr 1;omega)
      refine ⟨_,_,hr,Post.after (Ext.refl κ) ev ?_⟩
      have he:(((Array.range (n.toNat*z.length)).map (fun i=>zv.cells[i % zv.cells.size]!)).toList++(Builtin.zeroCells zv.cells (capn-n.toNat)).toList).toArray =
        Builtin.zeroCells zv.cells n.toNat++Builtin.zeroCells zv.cells (capn-n.toNat):=by
       apply Array.ext'
       simp [Builtin.zeroCells,hzl']
      rw [he] at hnr
      exact hnr
     ·simp at h
    ·simp at h
  ·simp at h
 ·simp at h
theorem post_regrown (hH:HRel B ω κ S w H) {id:Nat} {l:List AV} {b z:Nat} {cur:Array Value} (hid:id<H.length) (a2:ω b=some (.obj id)) (a5:∀ o,¬ S b o)
  (a6:∀ (j:Nat) (u:AV) (v:Value),l[j]?=some u→cur[j]?=some v→u.noUniq=true∧v.oneCell'=true∧Rel κ S w u v∧OwnAt ω κ S w (.cell id j) u v)
  {w1:World} {nb cap1 len1:Nat} {cur1:Array Value} {e1:TypeId} (ho:w1.os=w.os) (ht:w1.tape=w.tape) (hout:w1.output=w.output) (hsize:w.heap.size≤w1.heap.size)
  (hold:∀ b',b'<w.heap.size→b'≠b→w1.heap[b']?=w.heap[b']?) (hnb:nb=b∨nb=w.heap.size) (hnb1:nb<w1.heap.size) (hc1:w1.heap[nb]?=some (.cells cur1 e1 (0,0)))
  (hs1:cur1.size=cap1*z) (hm:cap1≤maxLen) (hz:0<z) {new:List AV} {news:List Value} (hnew:CRel κ S w new news) (hfit:l.length+new.length≤cur1.size)
  (hg1:∀ j,j<l.length→cur1[j]?=cur[j]?) (hg2:∀ (j:Nat) (v:Value),news[j]?=some v→cur1[l.length+j]?=some v) (hlen:len1≤cap1) :
  Post B ω κ S w (H.set id .dead++[.grow (l++new) (H.length+1) z,.dead]) (.gref H.length (H.length+1) len1 z) (.slice (some ⟨nb,0,none⟩) len1 cap1) w1:=by
 classical
 let ω':Nat→Option Lab:=fun b'=>if b'=nb then some (.obj H.length) else if b'=b then none else match ω b' with
  | some (.cell i j)=>if i=id then some (.cell H.length j) else some (.cell i j)
  | o=>o
 have hlt:∀ b' l',ω b'=some l'→b'<w.heap.size:=fun b' l' h=>(hH.base b' l' h).2
 have hnn:∀ b' l',ω b'=some l'→b'≠b→b'≠nb:=fun b' l' h hb e=>by
  subst e
  rcases hnb with e | e
  ·exact hb e
  ·have:=hlt _ _ h;omega
 have hSne:∀ b' o,S b' o→b'≠b:=fun b' o hs e=>a5 o (e ▸ hs)
 have hcell:∀ b' o,S b' o→w1.cell? ⟨b',o,none⟩=w.cell? ⟨b',o,none⟩:=fun b' o hs=>by
  obtain ⟨v,hv⟩:=hH.swf b' o hs
  unfold World.cell?;simp only [hold b' (lt_of_cell hv) (hSne b' o hs)]
 have hown:∀ b',ω' b'≠none→ω b'≠none∨w.heap.size≤b':=fun b' hb=>by
  by_cases h1:b'=nb
  ·rcases hnb with e | e
   ·exact .inl (by rw [h1,e,a2];simp)
   ·exact .inr (by omega)
  ·refine .inl fun h0=>hb ?_
   by_cases h2:b'=b
   ·simp only [ω',h1,h2,if_false,if_true]
    rw [if_neg (by rw [←h2];exact h1)]
   ·simp only [ω',h1,h2,if_false,h0]
 have ev:Ev ω S w ω' S w1:=⟨ho,ht,hout,hsize,fun b' hb hn=>hold b' hb (fun e=>by subst e;rw [a2] at hn;cases hn),fun b' o hs=>⟨hs,hcell b' o hs⟩,fun _ _ h=>.inl h,hown⟩
 have hkL:(κ++[nb,cap1])[H.length]?=some nb:=by rw [←hH.klen];simp
 have hkR:(κ++[nb,cap1])[H.length+1]?=some cap1:=by rw [←hH.klen];simp
 refine ⟨ω',κ++[nb,cap1],S,Ext.append κ _,ev,⟨by simp [hH.klen],fun id' o h=>?_,fun b' o hs=>?_,fun b' l' hb=>?_,Nat.le_trans hH.bsz hsize⟩,.gref _ _ _ _ nb cap1 hkL hkR hlen,trivial⟩
 ·rcases Nat.lt_trichotomy id' H.length with hl | rfl | hl
  ·rw [List.getElem?_append_left (by simpa using hl)] at h
   by_cases hii:id'=id
   ·subst hii
    rw [List.getElem?_set_self hl] at h
    cases h;trivial
   ·rw [List.getElem?_set_ne (Ne.symm hii)] at h
    refine (hH.obj id' o h).frame (Ext.append κ _) ev.set fun b' l' hb hl'=>?_
    have hne:b'≠b:=fun e=>by
     subst e;rw [a2] at hb;cases hb
     rcases hl' with h | ⟨j,h⟩
     ·cases h;exact hii rfl
     ·cases h
    refine ⟨?_,hold b' (hlt _ _ hb) hne,fun _ h=>h⟩
    simp only [ω',hnn b' l' hb hne,hne,if_false,hb]
    rcases hl' with rfl | ⟨j,rfl⟩
    ·rfl
    ·simp [hii]
  ·rw [List.getElem?_append_right (by simp)] at h
   simp only [List.length_set,Nat.sub_self,List.getElem?_cons_zero,Option.some.injEq] at h
   subst h
   refine ⟨nb,cur1,e1,hkL,by simp [ω'],hc1,by rw [List.length_append];exact hfit,?_,fun j u v hu hv=>?_,cap1,hkR,hm,hz,hs1⟩
   ·rcases hnb with rfl | rfl
    ·exact a5
    ·exact no_settled_new hH
   ·by_cases hj:j<l.length
    ·rw [List.getElem?_append_left hj] at hu
     rw [hg1 j hj] at hv
     obtain ⟨c1,c2,c3,c4⟩:=a6 j u v hu hv
     refine ⟨c1,c2,c3.mono (Ext.append κ _) ev.set,c4.mono (Ext.append κ _) ev.set fun b' hb=>?_⟩
     have hne:b'≠b:=fun e=>by subst e;rw [a2] at hb;cases hb
     refine ⟨?_,hold b' (hlt _ _ hb) hne,fun _ h=>h⟩
     simp only [ω',hnn b' _ hb hne,hne,if_false,hb,if_true]
    ·rw [List.getElem?_append_right (by omega)] at hu
     have hjn:=(List.getElem?_eq_some_iff.1 hu).1
     have hjn':j-l.length<news.length:=hnew.len ▸ hjn
     have hv':=hg2 (j-l.length) _ (List.getElem?_eq_getElem hjn')
     rw [show l.length+(j-l.length)=j by omega,hv] at hv'
     obtain ⟨c1,c2,c3⟩:=hnew.rel _ u v hu (by rw [List.getElem?_eq_getElem hjn',hv'])
     exact ⟨AV.plain_noUniq c1,c2,c3.mono (Ext.append κ _) ev.set,OwnAt.of_plain c1⟩
  ·rw [List.getElem?_append_right (by simp;omega)] at h
   rw [List.length_set] at h
   obtain ⟨k,hk⟩:∃ k,id'-H.length=k+1:=⟨id'-H.length-1,by omega⟩
   rw [hk] at h
   cases k with
   | zero=>simp at h;subst h;trivial
   | succ k=>simp at h
 ·obtain ⟨v,hv⟩:=hH.swf b' o hs
  exact ⟨v,(hcell b' o hs).trans hv⟩
 ·by_cases h1:b'=nb
  ·rw [h1]
   refine ⟨?_,hnb1⟩
   rcases hnb with e | e
   ·rw [e];exact (hH.base b _ a2).1
   ·rw [e];exact hH.bsz
  ·have:∃ l0,ω b'=some l0:=by
    rcases hown b' (by rw [hb];simp) with h | h
    ·cases h0:ω b' with
     | none=>exact absurd h0 h
     | some l0=>exact ⟨l0,rfl⟩
    ·exfalso
     by_cases h2:b'=b
     ·have:=hlt b _ a2;omega
     ·have h0:ω b'=none:=by
       cases h0:ω b' with
       | none=>rfl
       | some l0=>have:=hlt b' _ h0;omega
      simp [ω',h1,h2,h0] at hb
   obtain ⟨l0,h0⟩:=this
   have:=hH.base b' l0 h0
   exact ⟨this.1,by omega⟩
theorem post_thawG (hH:HRel B ω κ S w H) {l:Lab} (n1:∀ id,l≠.obj id) (n2:∀ id j,l≠.cell id j) {cells:List AV} {len z:Nat} (h0:len≠0) {v:Value}
  (hr:Rel κ S w (.lst cells len (.uniq z)) v) (ho:OwnAt ω κ S w l (.lst cells len (.uniq z)) v) :
  Post B ω κ S w (H++[.grow cells (H.length+1) z,.dead]) (.gref H.length (H.length+1) len z) v w:=by
 classical
 cases hr with
 | lnil c a=>exact absurd rfl h0
 | lst cells len c b o cap f hc hle hu h hrr=>exact absurd rfl (hu z)
 | luniq cells len z b o cap =>
   rcases ho with ⟨rfl,_,_⟩ | ⟨h1,ho,h2,h3,h4,h5,⟨cur,e,h6,h7,h8⟩,h9⟩
   ·exact absurd rfl h0
   ·simp only at h1 h6 h9 ho
    subst ho
    let ω':Nat→Option Lab:=fun b'=>if b'=b then some (.obj H.length) else ω b'
    have ev:Ev ω S w ω' S w:=⟨rfl,rfl,rfl,Nat.le_refl _,fun _ _ _=>rfl,fun _ _ h=>⟨h,rfl⟩,fun _ _ h=>.inl h,fun b' hb=>by
     by_cases hbb:b'=b
     ·subst hbb;exact .inl (by simp [h1])
     ·simp only [ω',hbb,if_false] at hb;exact .inl hb⟩
    have hH1:HRel B ω' κ S w H:=by
     refine hH.frame ev (fun b' l' hb hl=>?_) hH.swf (fun b' l' hb=>?_)
     ·have hne:b'≠b:=fun e=>by
       subst e;rw [h1] at hb;cases hb
       rcases hl with ⟨id,h⟩ | ⟨id,j,h⟩
       ·exact n1 _ h
       ·exact n2 _ _ h
      exact ⟨by simp [ω',hne,hb],rfl,fun _ h=>h⟩
     ·by_cases hbb:b'=b
      ·subst hbb;exact hH.base _ l h1
      ·simp only [ω',hbb,if_false] at hb;exact hH.base b' l' hb
    have hH2:=(hH1.push cap (o:=.dead) trivial)
    have hkL:(κ++[b,cap])[H.length]?=some b:=by rw [←hH.klen];simp
    have hkR:(κ++[b,cap])[H.length+1]?=some cap:=by rw [←hH.klen];simp
    refine ⟨ω',κ++[b,cap],S,Ext.append κ _,ev,⟨by simp [hH.klen],fun id' o hh=>?_,hH.swf,hH1.base,hH.bsz⟩,.gref _ _ _ _ b cap hkL hkR h2,trivial⟩
    rcases Nat.lt_trichotomy id' H.length with hl | rfl | hl
    ·rw [List.getElem?_append_left hl] at hh
     exact (hH1.obj id' o hh).frame (Ext.append κ _) (fun b o hs=>⟨hs,rfl⟩) fun b l hb _=>⟨hb,rfl,fun o hs=>hs⟩
    ·rw [List.getElem?_append_right (Nat.le_refl _)] at hh
     simp only [Nat.sub_self,List.getElem?_cons_zero,Option.some.injEq] at hh
     subst hh
     refine ⟨b,cur,e,hkL,by simp [ω'],h6,by rw [h7,h5];exact Nat.mul_le_mul_right _ h2,h9,fun j u v hu hv=>?_,cap,hkR,h3,h4,h7⟩
     obtain ⟨c1,c2,c3⟩:=h8 j u v hu hv
     exact ⟨AV.plain_noUniq c1,c2,c3.mono (Ext.append κ _) ev.set,OwnAt.of_plain c1⟩
    ·rw [List.getElem?_append_right (by omega)] at hh
     obtain ⟨k,hk⟩:∃ k,id'-H.length=k+1:=⟨id'-H.length-1,by omega⟩
     rw [hk] at hh
     cases k with
     | zero=>simp at hh;subst hh;trivial
     | succ k=>simp at hh
theorem sim_appendO0 (hH:HRel B ω κ S w H) {lo:Nat} {ts:Array TypeId} (ty:TypeId) {u x r:AV} {v vx:Value} {l0 l1:Lab} (n1:∀ id,l0≠.obj id) (n2:∀ id j,l0≠.cell id j) (m1:∀ id,l1≠.obj id) (m2:∀ id j,l1≠.cell id j) (hne:l0≠l1)
  {H':List AObj} (h:opAppendO0 P lo ts H [u,x]=some (r,H')) (hr:Rel κ S w u v) (ho:OwnAt ω κ S w l0 u v) (hrx:Rel κ S w x vx) (hox:OwnAt ω κ S w l1 x vx) :
  ∃ y w',(Builtin.append_ ts ty #[v,vx]).run P w=.ok y w'∧Post B ω κ S w H' r y w':=by
 unfold opAppendO0 at h
 simp only at h
 split at h
 ·rename_i t xt hts
  obtain rfl:ts=#[t,xt]:=by rw [←Array.toArray_toList (xs:=ts),hts]
  split at h
  ·
   rename_i s c n cp
   split at h
   ·rename_i cells n' z happ
    split at h
    ·simp at h
    ·rename_i hn
     simp only [Option.some.injEq,Prod.mk.injEq] at h
     obtain ⟨rfl,rfl⟩:=h
     obtain ⟨y,w',q1,ω2,κ2,S2,p1,p2,p3,p4,p5⟩:=sim_append hH ty n1 n2 m1 m2 hne happ hr ho hrx hox
     have q:=post_thawG p3 (l:=.res) (by simp) (by simp) hn p4 p5
     exact ⟨y,w',q1,Post.after p1 p2 q⟩
   ·simp at h
  ·
   rename_i s id gid len z
   split at h
   ·split at h
    ·rename_i e l g z' ht hid
     split at h
     ·rename_i sz bytes zs m new hsz hb hz happ
      split at h
      ·rename_i hc
       obtain ⟨rfl,rfl,rfl,rfl,hl,hnl,h0,hm,hzl,hrm,hroom⟩:=hc
       simp only [Option.some.injEq,Prod.mk.injEq] at h
       obtain ⟨rfl,rfl⟩:=h
       obtain ⟨i,hi,rfl⟩:=szOf_some hsz
       simp only [hi,Option.map_some,Option.some.injEq] at hb
       subst hb
       obtain ⟨S1,k1,k2,hH1,hrx1⟩:=look_one hH m1 m2 hrx hox
       have ev0:Ev ω S w ω S1 w:=Ev.settle k1 fun b o h=>(k2 b o h).imp (fun h=>h) fun h=>⟨_,h⟩
       obtain ⟨i',zv,hi',hzv,hcz⟩:=zeroCells_rel (κ:=κ) (S:=S1) (w:=w) hz
       rw [hi] at hi';cases hi'
       have hzl':zs.length=zv.cells.size:=by simpa using hcz.len
       have hzs:zv.cells.size=i.size:=by omega
       obtain ⟨q1,q2⟩:=roomOk_le hroom
       replace happ:=appended_view happ
       have hlt:=(List.getElem?_eq_some_iff.1 hid).1
       obtain ⟨b',o',c',vs,rfl,hnew,hcell⟩:∃ b o c vs,vx=.slice (some ⟨b,o,none⟩) m c∧CRel κ S1 w new vs∧(∀ j y,vs[j]?=some y→w.cell? ⟨b,o+j,none⟩=some y):=by
        rcases appended_look hH1 happ hrx1 (AV.plain_noUniq (AV.view_plain x)) with ⟨h1,_,c,rfl⟩ | h
        ·rw [h1] at hnl;simp at hnl
         have:=Nat.mul_pos hm h0;omega
        ·exact h
       have hnl':vs.length=m*i.size:=hnew.len ▸ hnl
       obtain ⟨b,cur,ce,a1,a2,a3,a4,a5,a6,cap,a7,a8,a9,a10⟩:=hH1.obj id _ hid
       cases hr with
       | gref _ _ _ _ b0 cap0 hb0 hg0 hle =>
         rw [a1] at hb0;cases hb0
         rw [a7] at hg0;cases hg0
         have hone:∀ u∈vs,u.oneCell'=true:=fun u hu=>by
          obtain ⟨j,hj⟩:=List.mem_iff_getElem?.1 hu
          have hlt:=(List.getElem?_eq_some_iff.1 hj).1
          exact (hnew.rel j _ u (List.getElem?_eq_getElem (hnew.len ▸ hlt)) hj).2.1
         have hbl:b<w.heap.size:=(Array.getElem?_eq_some_iff.1 a3).1
         suffices hs:∃ y w',(Builtin.append_ #[t,t] ty #[.slice (some ⟨b,0,none⟩) len cap,.slice (some ⟨b',o',none⟩) m c']).run P w=.ok y w'∧Post B ω κ S1 w (H.set id .dead++[.grow (l++new) (H.length+1) i.size,.dead]) (.gref H.length (H.length+1) (len+m) i.size) y w' by
          obtain ⟨y,w',p1,p2⟩:=hs
          exact ⟨y,w',p1,Post.after (Ext.refl κ) ev0 p2⟩
         by_cases hfit:len+m≤cap
         ·have hcs:(len+m)*i.size≤cap*i.size:=Nat.mul_le_mul_right _ hfit
          rw [Nat.add_mul] at hcs
          have hr:=run_append_room' (P:=P) w t ty e i ht hi b len cap cur ce a3 ⟨b',o',none⟩ m c' vs hnl' (fun j x h=>by rw [add_lit];exact hcell j x h) hone hfit (by rw [a10];omega)
          have h1:cur.toList.length=cap*i.size:=by simp [a10]
          refine ⟨_,_,hr,?_⟩
          refine post_regrown hH1 hlt a2 a5 a6 (nb:=b) (cap1:=cap) (e1:=ce) (hnew:=hnew) (by exact rfl) (by exact rfl) (by exact rfl) (by simp [World.setRow]) (fun b1 _ hb1=>by exact setRow_other w b b1 _ hb1) (.inl rfl) (by simpa [World.setRow] using hbl) (by exact setRow_heap w b cur _ ce (0,0) a3) ?_ a8 a9 ?_ (fun j hj=>?_) (fun j v hj=>?_) hfit
          ·rw [List.size_toArray,List.length_append,List.length_append,List.length_take,List.length_drop,h1,hnl',Nat.min_eq_left (by omega)];omega
          ·rw [List.size_toArray,List.length_append,List.length_append,List.length_take,List.length_drop,h1,hnl',Nat.min_eq_left (by omega),hl,hnl];omega
          ·have:=seg_get cur.toList vs (len*i.size) j (by rw [h1];omega)
           rw [if_neg (by omega)] at this
           simpa using this
          ·have hjl:=(List.getElem?_eq_some_iff.1 hj).1
           have:=seg_get cur.toList vs (len*i.size) (l.length+j) (by rw [h1];omega)
           rw [if_pos ⟨by omega,by omega⟩,hl,show len*i.size+j-len*i.size=j by omega,hj] at this
           rw [hl]
           simpa using this
         ·have hlm:len+m≤140737488355328:=Nat.le_trans (Nat.le_mul_of_pos_right _ q2) q1
          have hml:len+m≤maxLen:=by simp only [maxLen];omega
          have hcl:len*i.size≤cap*i.size:=Nat.mul_le_mul_right _ hle
          have hol:(cur.toList.take (len*i.size)).length=len*i.size:=by rw [List.length_take];simp;omega
          have hr:=run_append_grow (P:=P) w t ty e i zv ht hi hzv ⟨b,0,none⟩ len cap (cur.toList.take (len*i.size)) hol (fun j x h=>by
           rw [List.getElem?_take] at h
           split at h
           ·rw [add_lit,Nat.zero_add,cell_of_row w b _ cur ce (0,0) a3];simpa using h
           ·simp at h) ⟨b',o',none⟩ m c' vs hnl' (fun j x h=>by rw [add_lit];exact hcell j x h) (by omega) (by omega) (growslice_fits (by omega) q1)
          have hge:=grownCap_ge w (len+m) cap e
          have hle1:=grownCap_le_maxLen w (len+m) cap e hml
          generalize grownCap w (len+m) cap e=capn at hge hle1 hr
          refine ⟨_,_,hr,?_⟩
          refine post_regrown hH1 hlt a2 a5 a6 (nb:=w.heap.size) (cap1:=capn) (e1:=e) (hnew:=hnew) (by exact rfl) (by exact rfl) (by exact rfl) (by simp) (fun b1 hb1 _=>by exact heap_alloc_old w.drew _ b1 hb1) (.inr rfl) (by simp) (by exact heap_alloc_new w.drew _) ?_ hle1 a9 ?_ (fun j hj=>?_) (fun j v hj=>?_) hge
          ·simp only [Array.size_append,List.size_toArray,hol,hnl',size_zeroCells,hzs]
           rw [←Nat.add_mul,←Nat.add_mul];congr 1;omega
          ·simp only [Array.size_append,List.size_toArray,hol,hnl',size_zeroCells,hzs,hl,hnl];omega
          ·rw [hl] at hj
           rw [Array.getElem?_append_left (by simp only [Array.size_append,List.size_toArray,hol];omega),Array.getElem?_append_left (by simp only [List.size_toArray,hol];omega)]
           simp [hj]
          ·have hjl:=(List.getElem?_eq_some_iff.1 hj).1
           rw [hl,Array.getElem?_append_left (by simp only [Array.size_append,List.size_toArray,hol];omega),Array.getElem?_append_right (by simp only [List.size_toArray,hol];omega)]
           simp only [List.size_toArray,hol,show len*i.size+j-len*i.size=j by omega]
           simpa using hj
      ·simp at h
     ·simp at h
    ·simp at h
   ·simp at h
  ·simp at h
 ·simp at h
theorem shrinkO_rel (hH:HRel B ω κ S w H) (lo:Nat) (vs:List AV):HRel B ω κ S w (shrinkO lo H vs):=by
 unfold shrinkO
 split
 ·rename_i id _ len z _
  split
  ·rename_i l g z' hid
   split
   ·refine ⟨by simpa using hH.klen,fun id' o ho=>?_,hH.swf,hH.base,hH.bsz⟩
    by_cases hii:id'=id
    ·subst hii
     rw [List.getElem?_set_self (List.getElem?_eq_some_iff.1 hid).1] at ho
     cases ho
     obtain ⟨b,cur,e,a1,a2,a3,a4,a5,a6,a7⟩:=hH.obj id' _ hid
     refine ⟨b,cur,e,a1,a2,a3,Nat.le_trans (by rw [List.length_take];omega) a4,a5,fun j u v hu hv=>?_,a7⟩
     rw [List.getElem?_take] at hu
     split at hu
     ·exact a6 j u v hu hv
     ·simp at hu
    ·rw [List.getElem?_set_ne (Ne.symm hii)] at ho
     exact hH.obj id' o ho
   ·exact hH
  ·exact hH
 ·exact hH
theorem sim_appendO (hH:HRel B ω κ S w H) {lo:Nat} {ts:Array TypeId} (ty:TypeId) {u x r:AV} {v vx:Value} {l0 l1:Lab} (n1:∀ id,l0≠.obj id) (n2:∀ id j,l0≠.cell id j) (m1:∀ id,l1≠.obj id) (m2:∀ id j,l1≠.cell id j) (hne:l0≠l1)
  {H':List AObj} (h:opAppendO P lo ts H [u,x]=some (r,H')) (hr:Rel κ S w u v) (ho:OwnAt ω κ S w l0 u v) (hrx:Rel κ S w x vx) (hox:OwnAt ω κ S w l1 x vx) :
  ∃ y w',(Builtin.append_ ts ty #[v,vx]).run P w=.ok y w'∧Post B ω κ S w H' r y w' :=
 sim_appendO0 (shrinkO_rel hH lo [u,x]) ty n1 n2 m1 m2 hne h hr ho hrx hox
end
end Go.Proofs.YtfakoboiahbhaaaGreat.Ab


namespace Go.Proofs.YtfakoboiahbhaaaGreat.Ab
open Go
section
variable {P:Program} {B:Nat} {κ:List Nat} {w:World} {H:List AObj} {ω:Nat→Option Lab} {S:Nat→Nat→Prop}
theorem isSliceT_some {ts:Array TypeId} (h:isSliceT P ts[0]?=true):∃ t e,ts[0]?=some t∧P.underlying t=some (.slice e):=by
 unfold isSliceT at h
 split at h
 ·rename_i e he
  simp only [Option.bind_eq_some_iff] at he
  obtain ⟨t,h1,h2⟩:=he
  exact ⟨t,e,h1,h2⟩
 ·simp at h
theorem sim_len (hH:HRel B ω κ S w H) {ts:Array TypeId} (ty:TypeId) {u r:AV} {H':List AObj} {v:Value} (h:opLen P ts H [u]=some (r,H')) (hr:Rel κ S w u v) :
  ∃ y,(Builtin.len_ ts ty #[v]).run P w=.ok y w∧Post B ω κ S w H' r y w:=by
 simp only [opLen] at h
 split at h
 ·split at h
  ·rename_i hs
   obtain ⟨t,e,ht,he⟩:=isSliceT_some hs
   simp only [Option.some.injEq,Prod.mk.injEq] at h
   obtain ⟨rfl,rfl⟩:=h
   have hv:∃ a c,v=.slice a _ c:=lenOf_eq (n:=_) rfl hr
   obtain ⟨a,c,rfl⟩:=hv
   exact ⟨_,by simp [Builtin.len_,ht,run_underlying he,goInt],Post.same hH (.int _ _) rfl⟩
  ·simp at h
 ·split at h
  ·rename_i hs
   obtain ⟨t,e,ht,he⟩:=isSliceT_some hs
   simp only [Option.some.injEq,Prod.mk.injEq] at h
   obtain ⟨rfl,rfl⟩:=h
   have hv:∃ a c,v=.slice a _ c:=lenOf_eq (n:=_) rfl hr
   obtain ⟨a,c,rfl⟩:=hv
   exact ⟨_,by simp [Builtin.len_,ht,run_underlying he,goInt],Post.same hH (.int _ _) rfl⟩
  ·simp at h
 ·split at h
  ·rename_i _ _ ht hid
   simp only [Option.bind_eq_some_iff] at ht
   obtain ⟨t,ht,he⟩:=ht
   simp only [Option.some.injEq,Prod.mk.injEq] at h
   obtain ⟨rfl,rfl⟩:=h
   obtain ⟨b,ents,a1,a2,a3,a4,a5,a6⟩:=hH.obj _ _ hid
   cases hr with
   | map _ b' k =>
     rw [a1] at k;cases k
     exact ⟨_,by simp [Builtin.len_,ht,run_underlying he,goInt,getObj,Sem.run,a3,a4],Post.same hH (.int _ _) rfl⟩
  ·simp at h
 ·split at h
  ·rename_i n e he
   simp only [Option.bind_eq_some_iff] at he
   obtain ⟨t,ht,he⟩:=he
   simp only [Option.some.injEq,Prod.mk.injEq] at h
   obtain ⟨rfl,rfl⟩:=h
   exact ⟨_,by simp [Builtin.len_,ht,run_underlying he,goInt],Post.same hH (.int _ _) rfl⟩
  ·simp at h
theorem sim_cap (hH:HRel B ω κ S w H) {ts:Array TypeId} (ty:TypeId) {u r:AV} {H':List AObj} {v:Value} (h:opCap P ts H [u]=some (r,H')) (hr:Rel κ S w u v) :
  ∃ y,(Builtin.cap_ ts ty #[v]).run P w=.ok y w∧Post B ω κ S w H' r y w:=by
 unfold opCap at h
 split at h
 ·rename_i cs n heq
  simp only [List.cons.injEq,and_true] at heq
  subst heq
  split at h
  ·rename_i hs
   obtain ⟨t,e,ht,he⟩:=isSliceT_some hs
   simp only [Option.some.injEq,Prod.mk.injEq] at h
   obtain ⟨rfl,rfl⟩:=h
   have hv:∃ a,v=.slice a n n:=by
    cases hr with
    | lnil=>exact ⟨_,rfl⟩
    | lst _ _ _ b o cap f hc=>exact ⟨_,by rw [hc rfl]⟩
   obtain ⟨a,rfl⟩:=hv
   exact ⟨_,by simp [Builtin.cap_,ht,run_underlying he,goInt],Post.same hH (.int _ _) rfl⟩
  ·simp at h
 ·rename_i id off len n sz heq
  simp only [List.cons.injEq,and_true] at heq
  subst heq
  split at h
  ·rename_i hs
   obtain ⟨t,e,ht,he⟩:=isSliceT_some hs
   simp only [Option.some.injEq,Prod.mk.injEq] at h
   obtain ⟨rfl,rfl⟩:=h
   have hv:∃ a,v=.slice a len n:=by
    cases hr with
    | ref _ _ _ _ _ b cap _ hc=>exact ⟨_,by rw [hc n rfl]⟩
   obtain ⟨a,rfl⟩:=hv
   exact ⟨_,by simp [Builtin.cap_,ht,run_underlying he,goInt],Post.same hH (.int _ _) rfl⟩
  ·simp at h
 ·simp at h
theorem run_minAcc {k:IntKind}:∀ (us:List AV) (a n:Int) (vs:List Value) (lab:Nat→Lab),minAcc us a=some n→VRel lab ω κ S w us vs→(vs.foldlM Builtin.min2 (.int k a)).run P w=.ok (.int k n) w
 | [],a,n,vs,lab,h,hv=>by
   cases vs with
   | cons=>exact absurd hv.len (by simp)
   | nil=>simp only [minAcc,Option.some.injEq] at h;subst h;rfl
 | u::us,a,n,vs,lab,h,hv=>by
   obtain ⟨v1,t1,rfl,r1,_,hv2⟩:=hv.uncons
   unfold minAcc at h
   split at h
   ·rename_i heq;simp at heq
   ·rename_i k' b r _ heq
    simp only [List.cons.injEq] at heq
    obtain ⟨rfl,rfl⟩:=heq
    have e1:=r1.int_inv
    subst e1
    simp only [List.foldlM_cons,Builtin.min2,pure_bind]
    exact run_minAcc _ _ _ _ _ h hv2
   ·cases h
theorem run_maxAcc {k:IntKind}:∀ (us:List AV) (a n:Int) (vs:List Value) (lab:Nat→Lab),maxAcc us a=some n→VRel lab ω κ S w us vs→(vs.foldlM Builtin.max2 (.int k a)).run P w=.ok (.int k n) w
 | [],a,n,vs,lab,h,hv=>by
   cases vs with
   | cons=>exact absurd hv.len (by simp)
   | nil=>simp only [maxAcc,Option.some.injEq] at h;subst h;rfl
 | u::us,a,n,vs,lab,h,hv=>by
   obtain ⟨v1,t1,rfl,r1,_,hv2⟩:=hv.uncons
   unfold maxAcc at h
   split at h
   ·rename_i heq;simp at heq
   ·rename_i k' b r _ heq
    simp only [List.cons.injEq] at heq
    obtain ⟨rfl,rfl⟩:=heq
    have e1:=r1.int_inv
    subst e1
    simp only [List.foldlM_cons,Builtin.max2,pure_bind]
    exact run_maxAcc _ _ _ _ _ h hv2
   ·cases h
theorem sim_min {us:List AV} {r:AV} (ts:Array TypeId) (ty:TypeId) {lab:Nat→Lab} {vs:List Value} (h:minInt us=some r) (hv:VRel lab ω κ S w us vs) :
  ∃ y,(Builtin.min_ ts ty vs.toArray).run P w=.ok y w∧Rel κ S w r y∧r.plain=true:=by
 unfold minInt at h
 split at h
 ·simp only [Option.map_eq_some_iff] at h
  obtain ⟨n,h,rfl⟩:=h
  obtain ⟨v1,t1,rfl,r1,_,hv2⟩:=hv.uncons
  have e1:=r1.int_inv
  subst e1
  exact ⟨_,by simp only [Builtin.min_];exact run_minAcc _ _ _ _ _ h hv2,.int _ _,rfl⟩
 ·simp at h
theorem sim_max {us:List AV} {r:AV} (ts:Array TypeId) (ty:TypeId) {lab:Nat→Lab} {vs:List Value} (h:maxInt us=some r) (hv:VRel lab ω κ S w us vs) :
  ∃ y,(Builtin.max_ ts ty vs.toArray).run P w=.ok y w∧Rel κ S w r y∧r.plain=true:=by
 unfold maxInt at h
 split at h
 ·simp only [Option.map_eq_some_iff] at h
  obtain ⟨n,h,rfl⟩:=h
  obtain ⟨v1,t1,rfl,r1,_,hv2⟩:=hv.uncons
  have e1:=r1.int_inv
  subst e1
  exact ⟨_,by simp only [Builtin.max_];exact run_maxAcc _ _ _ _ _ h hv2,.int _ _,rfl⟩
 ·simp at h
theorem write_plain2 (hH:HRel B ω κ S w H) {lo id off len sz n:Nat} {H':List AObj} {cs:List AV} {vs:List Value} (hcr:CRel κ S w cs vs) (hcl:cs.length=n) (hn:n≤len*sz)
  (h:mutObj lo H id (fun l=>if off+len*sz≤l.length then some (setCells off cs l) else none)=some H') {b:Nat} (hb:κ[id]?=some b) :
  ∃ w',(storeCells ⟨b,off,none⟩ vs).run P w=.ok () w'∧∃ ω',Ev ω S w ω' S w'∧HRel B ω' κ S w' H'∧∃ cur e cur' e',w.heap[b]?=some (.cells cur e (0,0))∧w'.heap[b]?=some (.cells cur' e' (0,0))∧cur'.size=cur.size:=by
 unfold mutObj at h
 split at h
 ·split at h
  ·rename_i ll hid
   simp only [Option.map_eq_some_iff] at h
   obtain ⟨l',hl',rfl⟩:=h
   split at hl'
   ·rename_i hc
    cases hl'
    obtain ⟨b',cur,e,a1,a2,a3,a4,a5,a6⟩:=hH.obj id _ hid
    rw [hb] at a1;cases a1
    have hvl:vs.length=n:=hcr.len ▸ hcl
    have hone:∀ u∈vs,u.oneCell'=true:=fun u hu=>by
     obtain ⟨j,hj⟩:=List.mem_iff_getElem?.1 hu
     have hlt:=(List.getElem?_eq_some_iff.1 hj).1
     exact (hcr.rel j _ u (List.getElem?_eq_getElem (hcr.len ▸ hlt)) hj).2.1
    have hst:=run_storeCells_at P b off e vs 0 cur w a3 (by omega) hone
    simp only [Nat.add_zero] at hst
    obtain ⟨ω',ev,hH'⟩:=obj_write (cur':=(cur.toList.take off++vs++cur.toList.drop (off+vs.length)).toArray) (l':=setCells off cs ll) hH hid hb a2 a3 a5 .res (by simp) (by simp)
     (by simp [setCells_len];omega) 0 (fun j u' v' hu hv=>by
      rw [setCells_get _ _ _ _ (by omega)] at hu
      have hv:(cur.toList.take off++vs++cur.toList.drop (off+vs.length))[j]?=some v':=by simpa using hv
      rw [seg_get cur.toList vs off j (by have hcl':cur.toList.length=cur.size:=Array.length_toList;omega)] at hv
      rw [hcr.len] at hu
      split at hu
      ·rename_i hj
       rw [if_pos hj] at hv
       obtain ⟨c1,c2,c3⟩:=hcr.rel _ u' v' hu hv
       exact ⟨AV.plain_noUniq c1,c2,c3,.inl c1⟩
      ·rename_i hj
       rw [if_neg hj] at hv
       obtain ⟨d1,d0,d2,d3⟩:=a6 j u' v' hu (by simpa using hv)
       exact ⟨d1,d0,d2,.inr (.inl d3)⟩)
    exact ⟨_,hst,ω',ev,hH',cur,e,_,e,a3,setRow_heap w b cur _ e (0,0) a3,by have hcl':cur.toList.length=cur.size:=Array.length_toList;simp;omega⟩
   ·simp at hl'
  ·simp at h
 ·simp at h
theorem write_plain (hH:HRel B ω κ S w H) {lo id off len sz n:Nat} {H':List AObj} {cs:List AV} {vs:List Value} (hcr:CRel κ S w cs vs) (hcl:cs.length=n) (hn:n≤len*sz)
  (h:mutObj lo H id (fun l=>if off+len*sz≤l.length then some (setCells off cs l) else none)=some H') {b:Nat} (hb:κ[id]?=some b) :
  ∃ w',(storeCells ⟨b,off,none⟩ vs).run P w=.ok () w'∧∃ ω',Ev ω S w ω' S w'∧HRel B ω' κ S w' H':=by
 obtain ⟨w',h1,ω',h2,h3,_⟩:=write_plain2 (P:=P) hH hcr hcl hn h hb
 exact ⟨w',h1,ω',h2,h3⟩
theorem write_plainG (hH:HRel B ω κ S w H) {lo id off len sz n:Nat} {H':List AObj} {cs:List AV} {vs:List Value} (hcr:CRel κ S w cs vs) (hcl:cs.length=n) (hn:n≤len*sz)
  (h:mutObjG lo H id (fun l=>if off+len*sz≤l.length then some (setCells off cs l) else none)=some H') {b:Nat} (hb:κ[id]?=some b) :
  ∃ w',(storeCells ⟨b,off,none⟩ vs).run P w=.ok () w'∧∃ ω',Ev ω S w ω' S w'∧HRel B ω' κ S w' H':=by
 unfold mutObjG at h
 split at h
 ·rename_i hlo
  split at h
  ·rename_i ll hid
   exact write_plain (P:=P) (lo:=lo) hH hcr hcl hn (by unfold mutObj;rw [if_pos hlo,hid];exact h) hb
  ·rename_i ll g z hid
   simp only [Option.map_eq_some_iff] at h
   obtain ⟨l',hl',rfl⟩:=h
   have hlt:=(List.getElem?_eq_some_iff.1 hid).1
   obtain ⟨b0,cur,e,a1,a2,a3,a4,a5,a6,cap,a7,a8,a9,a10⟩:=hH.obj id _ hid
   rw [hb] at a1;cases a1
   obtain ⟨w',q1,ω',q2,q3,cur0,e0,cur1,e1,q4,q5,q6⟩:=write_plain2 (P:=P) (lo:=lo) (id:=id) (H':=(H.set id (.cells ll)).set id (.cells l')) (hH.ungrow hid) hcr hcl hn (by
    unfold mutObj;rw [if_pos hlo,List.getElem?_set_self hlt];exact congrArg (Option.map _) hl') hb
   rw [a3] at q4;cases q4
   have hg:=q3.regrow (g:=g) (z:=z) (by rw [List.getElem?_set_self (by simpa using hlt)]) hb a7 a8 a9 q5 (by rw [q6,a10])
   rw [List.set_set,List.set_set] at hg
   exact ⟨w',q1,ω',q2,hg⟩
  ·simp at h
 ·simp at h
theorem sim_copy (hH:HRel B ω κ S w H) {lo:Nat} {ts:Array TypeId} (ty:TypeId) {u x r:AV} {H':List AObj} {v vx:Value} {l1:Lab} (m1:∀ id,l1≠.obj id) (m2:∀ id j,l1≠.cell id j)
  (h:opCopy P lo ts H [u,x]=some (r,H')) (hr:Rel κ S w u v) (hrx:Rel κ S w x vx) (hox:OwnAt ω κ S w l1 x vx) :
  ∃ y w',(Builtin.copy_ ts ty #[v,vx]).run P w=.ok y w'∧Post B ω κ S w H' r y w':=by
 obtain ⟨S1,k1,k2,hH1,hrx1⟩:=look_one hH m1 m2 hrx hox
 have ev0:Ev ω S w ω S1 w:=Ev.settle k1 fun b o h=>(k2 b o h).imp (fun h=>h) fun h=>⟨_,h⟩
 unfold opCopy at h
 split at h
 ·rename_i id off len cap sz x' heq
  simp only [List.cons.injEq,and_true] at heq
  obtain ⟨rfl,rfl⟩:=heq
  split at h
  ·rename_i e he
   simp only [Option.bind_eq_some_iff] at he
   obtain ⟨t,ht,he⟩:=he
   split at h
   ·rename_i s m row hs hm hrow
    split at h
    ·rename_i hc
     obtain ⟨rfl,hrl⟩:=hc
     simp only [Option.map_eq_some_iff] at h
     obtain ⟨H2,hw,h⟩:=h
     simp only [Prod.mk.injEq] at h
     obtain ⟨rfl,rfl⟩:=h
     have hmv:lenOf x.view=some m:=by
      cases x <;> try exact hm
      ·rename_i c;cases c <;> exact hm
      ·simp [lenOf] at hm
     have hrv:rowOf H x.view=some row:=by
      cases x <;> try exact hrow
      ·rename_i c;cases c <;> exact hrow
      ·simp [rowOf] at hrow
     have hpl:=AV.plain_noUniq (AV.view_plain x)
     cases hr with
     | ref _ _ _ _ _ b cap' hb hcc hle =>
       obtain ⟨a,c,hvx⟩:=lenOf_eq hmv hrx1
       have hrows:∃ vs,CRel κ S1 w row vs∧∀ n,n≤m→(Builtin.firstCells s n vx).run P w=.ok (vs.take (n*s)).toArray w:=by
        rcases row_look hH1 hrv hrx1 hpl with ⟨h0,n,c',hv⟩ | ⟨b2,o2,n,c',vs,hv,hco,hcell⟩
        ·refine ⟨[],⟨by simp [h0],by simp [h0]⟩,fun n' hn=>?_⟩
         have hm0:m=0:=by rw [hv] at hvx;cases hvx;rfl
         rw [hv]
         obtain rfl:n'=0:=by omega
         cases n <;> simp [Builtin.firstCells,loadCells,loadCellsFrom]
        ·refine ⟨vs,hco,fun n' hn=>?_⟩
         rw [hv] at hvx ⊢
         cases hvx
         have hvl:vs.length=m*s:=hco.len ▸ hrl
         have hle':n'*s≤m*s:=Nat.mul_le_mul_right _ hn
         exact run_firstCells_some (P:=P) w s n' ⟨b2,o2,none⟩ m c (vs.take (n'*s)) (by simp;omega) (fun j y hy=>by
          rw [List.getElem?_take] at hy
          split at hy
          ·rw [add_lit];exact hcell j y hy
          ·simp at hy)
       obtain ⟨vs,hco,hfirst⟩:=hrows
       have hmin:min m len*s≤m*s:=Nat.mul_le_mul_right _ (Nat.min_le_left _ _)
       have hct:CRel κ S1 w (row.take (min m len*s)) (vs.take (min m len*s)):=⟨by simp [hco.len],fun j u' v' hu' hv'=>by
        rw [List.getElem?_take] at hu' hv'
        split at hu'
        ·rename_i hj;rw [if_pos hj] at hv';exact hco.rel j u' v' hu' hv'
        ·simp at hu'⟩
       obtain ⟨w',hst,ω',ev,hH'⟩:=write_plain (P:=P) (n:=min m len*s) hH1 hct (by simp;omega) (Nat.mul_le_mul_right _ (Nat.min_le_right _ _)) hw hb
       refine ⟨.int .i64 (min m len:Nat),w',?_,ω',κ,S1,Ext.refl κ,ev0.trans ev,hH',.int _ _,OwnAt.of_plain rfl⟩
       subst hvx
       have hf:=hfirst (min m len) (Nat.min_le_left _ _)
       simp only [Builtin.copy_,ht,List.getElem?_toArray,List.getElem?_cons_zero,List.getElem?_cons_succ,Sem.run_bind,run_underlying he,Result.andThen_ok,Builtin.lenOf,Sem.run_pure,run_sizeOf hs]
       rw [show Nat.min m len=min m len from rfl,hf]
       simp [hst,goInt]
    ·simp at h
   ·simp at h
  ·simp at h
 ·simp at h
theorem sim_clear (hH:HRel B ω κ S w H) {lo:Nat} {ts:Array TypeId} (ty:TypeId) {u r:AV} {H':List AObj} {v:Value} (h:opClear P lo ts H [u]=some (r,H')) (hr:Rel κ S w u v) :
  ∃ y w',(Builtin.clear_ ts ty #[v]).run P w=.ok y w'∧Post B ω κ S w H' r y w':=by
 have done:∀ {H2:List AObj},HRel B ω κ S w H2→Post B ω κ S w H2 (.tuple []) (.tuple #[]) w:=fun hH2=>Post.same hH2 (.tuple [] #[] rfl (by simp) (by simp)) rfl
 unfold opClear at h
 split at h
 ·rename_i id off len cap sz heq
  simp only [List.cons.injEq,and_true] at heq
  subst heq
  split at h
  ·rename_i e he
   simp only [Option.bind_eq_some_iff] at he
   obtain ⟨t,ht,he⟩:=he
   split at h
   ·rename_i s z hs hz
    split at h
    ·rename_i hc
     obtain ⟨rfl,hzl,hsz⟩:=hc
     simp only [Option.map_eq_some_iff,Prod.mk.injEq] at h
     obtain ⟨H2,hw,rfl,rfl⟩:=h
     obtain ⟨i,zv,hi,hzv,hcz⟩:=zeroCells_rel (κ:=κ) (S:=S) (w:=w) hz
     have hzr:=zeros_rel hcz (by omega) len
     cases hr with
     | ref _ _ _ _ _ b cap' hb hcc hle =>
       obtain ⟨w',hst,ω',ev,hH'⟩:=write_plainG (P:=P) (n:=len*s) hH hzr (by rw [repl_len,hzl]) (Nat.le_refl _) hw hb
       have hzl':z.length=zv.cells.size:=by simpa using hcz.len
       have heq:(Builtin.zeroCells zv.cells len).toList=((Array.range (len*z.length)).map (fun i=>zv.cells[i % zv.cells.size]!)).toList:=by
        simp [Builtin.zeroCells,hzl']
       rw [←heq] at hst
       cases len with
       | zero =>
         have hw':w'=w:=by
          have h0:(Builtin.zeroCells zv.cells 0).toList=[]:=by simp [Builtin.zeroCells]
          rw [h0] at hst
          simp [storeCells] at hst;exact hst.symm
         subst hw'
         refine ⟨.tuple #[],w',by simp [Builtin.clear_,ht,run_underlying he],ω',κ,S,Ext.refl κ,ev,hH',.tuple [] #[] rfl (by simp) (by simp),OwnAt.of_plain rfl⟩
       | succ n =>
         refine ⟨.tuple #[],w',?_,ω',κ,S,Ext.refl κ,ev,hH',.tuple [] #[] rfl (by simp) (by simp),OwnAt.of_plain rfl⟩
         simp [Builtin.clear_,ht,run_underlying he,run_zeroValue hi hzv,hst]
    ·simp at h
   ·simp at h
  ·simp at h
 ·rename_i c heq
  simp only [List.cons.injEq,and_true] at heq
  subst heq
  split at h
  ·rename_i hs
   obtain ⟨t,e,ht,he⟩:=isSliceT_some hs
   simp only [Option.some.injEq,Prod.mk.injEq] at h
   obtain ⟨rfl,rfl⟩:=h
   have hv:∃ a c,v=.slice a 0 c:=lenOf_eq (n:=0) rfl hr
   obtain ⟨a,c,rfl⟩:=hv
   refine ⟨.tuple #[],w,?_,done hH⟩
   cases a <;> simp [Builtin.clear_,ht,run_underlying he]
  ·simp at h
 ·simp at h
theorem foldl_set_get (off:Nat):∀ (xs:List Value) (k:Nat) (cells:Array Value) (j:Nat),off+k+xs.length≤cells.size →
  ((xs.zipIdx k).foldl (fun cs (x:Value×Nat)=>cs.setIfInBounds (off+x.2) x.1) cells)[j]?=if off+k≤j∧j<off+k+xs.length then xs[j-(off+k)]? else cells[j]?
 | [],k,cells,j,_=>by simp;omega
 | x::xs,k,cells,j,h=>by
   simp only [List.length_cons] at h
   simp only [List.zipIdx_cons,List.foldl_cons]
   rw [foldl_set_get off xs (k+1) _ j (by simp;omega)]
   by_cases h1:j=off+k
   ·subst h1
    rw [if_neg (by omega),if_pos (by simp)]
    simp [show off+k<cells.size by omega]
   ·by_cases h2:off+(k+1)≤j∧j<off+(k+1)+xs.length
    ·rw [if_pos h2,if_pos (by simp;omega)]
     obtain ⟨m,rfl⟩:∃ m,j=off+(k+1)+m:=⟨j-(off+(k+1)),by omega⟩
     rw [show off+(k+1)+m-(off+(k+1))=m by omega,show off+(k+1)+m-(off+k)=m+1 by omega];simp
    ·rw [if_neg h2,if_neg (by simp;omega),Array.getElem?_setIfInBounds_ne (by omega)]
theorem plain_cells {u:AV} {v:Value} {vc:List AV} (hc:u.cells=some vc) (hr:Rel κ S w u v) (hp:u.plain=true):CRel κ S w vc v.cells.toList:=by
 have single:vc=[u]→v.cells=#[v]→v.oneCell'=true→CRel κ S w vc v.cells.toList:=by
  intro h1 h2 h3
  subst h1
  rw [h2]
  refine ⟨rfl,fun j u' v' hu hv=>?_⟩
  cases j with
  | zero=>simp at hu hv;subst hu hv;exact ⟨hp,h3,hr⟩
  | succ j=>simp at hu
 cases hr with
 | agg as vs h p one r =>
   simp [AV.cells] at hc
   subst hc
   exact ⟨by simpa [Value.cells] using h.symm,fun j u' v' hu hv=>⟨p u' (List.mem_of_getElem? hu),one v' (List.mem_of_getElem? hv),r j u' v' hu (by simpa [Value.cells] using hv)⟩⟩
 | junk v=>simp [AV.cells] at hc
 | tuple as vs h p r=>simp [AV.cells] at hc
 | raw=>simp [AV.cells] at hc
 | _=>simp [AV.cells] at hc;exact single hc.symm rfl rfl
theorem fill_sim {place:Nat→Option (Nat×Nat)}:∀ (parts:List (Nat×AV)) (parts':List (Nat×Value)) (cs cs':List AV) (vs:Array Value),
  parts.map (·.1)=parts'.map (·.1)→(∀ (j:Nat) (x:Nat×AV) (y:Nat×Value),parts[j]?=some x→parts'[j]?=some y→x.2.plain=true∧Rel κ S w x.2 y.2) →
  aFill place cs parts=some cs'→CRel κ S w cs vs.toList→∃ vs',Instr.fill place vs parts'=some vs'∧CRel κ S w cs' vs'.toList
 | [],parts',cs,cs',vs,hi,_,h,hc=>by
   cases parts' with
   | nil=>simp [aFill] at h;subst h;exact ⟨vs,rfl,hc⟩
   | cons=>simp at hi
 | (i,u)::parts,parts',cs,cs',vs,hi,hrel,h,hc=>by
   cases parts' with
   | nil=>simp at hi
   | cons y parts' =>
     obtain ⟨i',v⟩:=y
     simp only [List.map_cons,List.cons.injEq] at hi
     obtain ⟨rfl,hi⟩:=hi
     obtain ⟨hp,hr⟩:=hrel 0 (i,u) (i,v) rfl rfl
     simp only [aFill] at h
     split at h
     ·rename_i off size hpl
      split at h
      ·rename_i vc hvc
       split at h
       ·rename_i hcond
        obtain ⟨hsz,hle⟩:=hcond
        have hcr:=plain_cells hvc hr hp
        have hvl:v.cells.size=size:=by have:=hcr.len;simp at this;omega
        have hcl:vs.size=cs.length:=by have:=hc.len;simp at this;omega
        have hC:CRel κ S w (setCells off vc cs) (v.cells.zipIdx.foldl (fun cs (x:Value×Nat)=>cs.setIfInBounds (off+x.2) x.1) vs).toList:=by
         refine ⟨?_,fun j u' v' hu hv=>?_⟩
         ·rw [setCells_len]
          have hfl:∀ (l:List (Value×Nat)) (a:Array Value),(l.foldl (fun cs (x:Value×Nat)=>cs.setIfInBounds (off+x.2) x.1) a).size=a.size:=by
           intro l;induction l with
           | nil=>intro a;rfl
           | cons x l ih=>intro a;simp [ih]
          have:=hfl v.cells.zipIdx.toList vs
          simp only [Array.length_toList]
          rw [←hcl,←this,←Array.foldl_toList]
         ·rw [setCells_get _ _ _ _ (by omega)] at hu
          have hg:=foldl_set_get off v.cells.toList 0 vs j (by simp;omega)
          have hv2:(v.cells.zipIdx.foldl (fun cs (x:Value×Nat)=>cs.setIfInBounds (off+x.2) x.1) vs)[j]?=some v':=by simpa using hv
          rw [←Array.foldl_toList,Array.toList_zipIdx] at hv2
          rw [hg] at hv2
          simp only [Nat.add_zero,Array.length_toList,hvl] at hv2
          rw [hsz] at hu
          split at hu
          ·rename_i hj
           rw [if_pos hj] at hv2
           exact hcr.rel _ u' v' hu hv2
          ·rename_i hj
           rw [if_neg hj] at hv2
           exact hc.rel j u' v' hu (by simpa using hv2)
        obtain ⟨vs',h1,h2⟩:=fill_sim parts parts' (setCells off vc cs) cs' _ hi (fun j x y hx hy=>hrel (j+1) x y (by simpa using hx) (by simpa using hy)) h hC
        exact ⟨vs',by simp only [Instr.fill,hpl];rw [if_neg (by simp;omega)];exact h1,h2⟩
       ·simp at h
      ·simp at h
     ·simp at h
end
end Go.Proofs.YtfakoboiahbhaaaGreat.Ab


namespace Go.Proofs.YtfakoboiahbhaaaGreat.Ab
open Go
section
variable {P:Program} {B:Nat} {κ:List Nat} {w:World} {H:List AObj} {ω:Nat→Option Lab} {S:Nat→Nat→Prop}
theorem run_mapM_list {α β:Type} (g:α→Sem β) (h:α→β):∀ (l:List α),(∀ x∈l,∀ w,(g x).run P w=.ok (h x) w)→∀ w,(l.mapM g).run P w=.ok (l.map h) w
 | [],_,w=>by simp
 | x::l,hx,w=>by
   rw [List.mapM_cons]
   simp [hx x (by simp),run_mapM_list g h l (fun y hy=>hx y (by simp [hy]))]
theorem sim_build {t:TypeId} {parts:List (Nat×AV)} {parts':Array (Nat×Value)} {r:AV} (h:aBuild P t parts=some r) (hi:parts.map (·.1)=parts'.toList.map (·.1))
  (hrel:∀ (j:Nat) (x:Nat×AV) (y:Nat×Value),parts[j]?=some x→parts'.toList[j]?=some y→x.2.plain=true∧Rel κ S w x.2 y.2) :
  ∃ v,(Instr.build t parts').run P w=.ok v w∧Rel κ S w r v∧r.plain=true:=by
 have fin:∀ {cs':List AV} {vs':Array Value},CRel κ S w cs' vs'.toList→Rel κ S w (.agg cs') (.agg vs'):=fun {cs' vs'} h =>
  .agg _ _ (by simpa using h.len.symm) (fun u hu=>by
   obtain ⟨j,hj⟩:=List.mem_iff_getElem?.1 hu
   have hlt:=(List.getElem?_eq_some_iff.1 hj).1
   exact (h.rel j u _ hj (List.getElem?_eq_getElem (h.len ▸ hlt))).1) (fun v hv=>by
   obtain ⟨j,hj⟩:=List.mem_iff_getElem?.1 hv
   have hlt:=(List.getElem?_eq_some_iff.1 hj).1
   exact (h.rel j _ v (List.getElem?_eq_getElem (h.len ▸ hlt)) hj).2.1) (fun j u v hu hv=>(h.rel j u v hu (by simpa using hv)).2.2)
 unfold aBuild at h
 split at h
 ·rename_i z fs hz hd
  obtain ⟨i,zv,hi',hzv,hcz⟩:=zeroCells_rel (κ:=κ) (S:=S) (w:=w) hz
  split at h
  ·rename_i hall
   simp only [Option.map_eq_some_iff] at h
   obtain ⟨cs',hf,rfl⟩:=h
   obtain ⟨vs',h1,h2⟩:=fill_sim parts parts'.toList z cs' zv.cells hi hrel hf hcz
   have hall':∀ f∈fs.toList,∃ s,szOf P f.type=some s:=fun f hf=>by
    have:=List.all_eq_true.1 hall f hf;exact Option.isSome_iff_exists.1 this
   have hm:=run_mapM_list (P:=P) (fun f:Field=>Prod.mk f.offset <$> sizeOf f.type) (fun f:Field=>(f.offset,(szOf P f.type).getD 0)) fs.toList (fun f hf w=>by
    obtain ⟨s,hs⟩:=hall' f hf;simp [run_sizeOf hs,hs]) w
   have hpl:(fun (i:Nat)=>(fs.map (fun f:Field=>(f.offset,(szOf P f.type).getD 0)))[i]?)=(fun (i:Nat)=>(fs[i]?).bind fun f:Field=>(szOf P f.type).map fun s=>(f.offset,s)):=by
    funext i
    rw [Array.getElem?_map]
    cases hfi:fs[i]? with
    | none=>rfl
    | some f =>
      obtain ⟨s,hs⟩:=hall' f (by simpa using Array.mem_of_getElem? hfi)
      simp [hs]
   refine ⟨.agg vs',?_,fin h2,rfl⟩
   rw [←hpl] at h1
   simp only [Array.getElem?_map] at h1
   simp [Instr.build,run_zeroValue hi' hzv,run_underlying hd,Array.mapM_eq_mapM_toList,hm,h1]
  ·simp at h
 ·rename_i z n e hz hd
  obtain ⟨i,zv,hi',hzv,hcz⟩:=zeroCells_rel (κ:=κ) (S:=S) (w:=w) hz
  simp only [Option.bind_eq_some_iff,Option.map_eq_some_iff] at h
  obtain ⟨s,hs,cs',hf,rfl⟩:=h
  obtain ⟨vs',h1,h2⟩:=fill_sim parts parts'.toList z cs' zv.cells hi hrel hf hcz
  refine ⟨.agg vs',?_,fin h2,rfl⟩
  simp [Instr.build,run_zeroValue hi' hzv,run_underlying hd,run_sizeOf hs,h1]
 ·simp at h
theorem sim_buildSlice (hH:HRel B ω κ S w H) {t:TypeId} {len:Nat} {parts:List (Nat×AV)} {parts':Array (Nat×Value)} {cs:List AV} {s:Nat} (h:aBuildCells P t len parts=some (cs,s))
  (hi:parts.map (·.1)=parts'.toList.map (·.1))
  (hrel:∀ (j:Nat) (x:Nat×AV) (y:Nat×Value),parts[j]?=some x→parts'.toList[j]?=some y→x.2.plain=true∧Rel κ S w x.2 y.2) :
  ∃ b w',(Instr.buildSlice t len parts').run P w=.ok (.slice (some ⟨b,0,none⟩) len len) w'∧Post B ω κ S w H (.lst cs len (.uniq s)) (.slice (some ⟨b,0,none⟩) len len) w':=by
 unfold aBuildCells at h
 split at h
 ·rename_i e hd
  split at h
  ·rename_i s' z hs hz
   split at h
   ·rename_i hc
    obtain ⟨h1,h2,h3⟩:=hc
    simp only [Option.map_eq_some_iff,Prod.mk.injEq] at h
    obtain ⟨cs',hf,rfl,rfl⟩:=h
    obtain ⟨i,zv,hi',hzv,hcz⟩:=zeroCells_rel (κ:=κ) (S:=S) (w:=w) hz
    have hzr:=zeros_rel hcz (by omega) len
    have hzl':z.length=zv.cells.size:=by simpa using hcz.len
    obtain ⟨vs',q1,q2⟩:=fill_sim parts parts'.toList (repl len z) cs' ((Array.range (len*z.length)).map (fun i=>zv.cells[i % zv.cells.size]!)) hi hrel hf hzr
    have hfl:∀ (place:Nat→Option (Nat×Nat)) (parts:List (Nat×AV)) (a b:List AV),aFill place a parts=some b→b.length=a.length:=by
     intro place parts
     induction parts with
     | nil=>intro a b h;simp [aFill] at h;rw [h]
     | cons x parts ih =>
       intro a b h
       obtain ⟨i,u⟩:=x
       simp only [aFill] at h
       split at h
       ·split at h
        ·split at h
         ·rw [ih _ _ h,setCells_len]
         ·simp at h
        ·simp at h
       ·simp at h
    have hcl:cs'.length=len*s':=by rw [hfl _ _ _ _ hf,repl_len,h2]
    have hnr:=new_row hH q2 [] e len len s' h1 hcl (Nat.le_refl _) (by
     have:len≤len*s':=Nat.le_mul_of_pos_right _ h1
     simp only [maxLen];omega) (by rw [←q2.len,hcl];simp)
    refine ⟨_,_,?_,hnr⟩
    simp only [List.append_nil,Array.toArray_toList]
    rw [h2] at q1
    have hbig:¬ (16777216<len*s'):=by omega
    by_cases h0:len*s'=0
    ·obtain rfl:len=0:=by
      rcases Nat.mul_eq_zero.1 h0 with h | h
      ·exact h
      ·omega
     have q1':Instr.fill (fun i=>some (i*s',s')) #[] parts'.toList=some vs':=by simpa [show Array.range 0=#[] from rfl] using q1
     simp [Instr.buildSlice,run_underlying hd,run_sizeOf hs,show Array.range 0=#[] from rfl,q1',newRow,newObj,Sem.run,World.alloc_eq]
    ·simp [Instr.buildSlice,run_underlying hd,run_sizeOf hs,h0,hbig,run_zeroValue hi' hzv,q1,newRow,newObj,Sem.run,World.alloc_eq]
   ·simp at h
  ·simp at h
 ·simp at h
end
end Go.Proofs.YtfakoboiahbhaaaGreat.Ab
