
import Derived.RangeFuncLeaves
import Derived.RangeFuncCalls
import Derived.KernelRfl
import Derived.Laws.AppendOwn
import Derived.OrdersIn
import Derived.Below
import Derived.IntWalk
import Derived.Laws.MakeOwn
set_option linter.unusedSimpArgs false
set_option linter.unusedVariables false
set_option linter.unusedSectionVars false

open Array renaming foldl_toList→vR,getD_eq_getD_getElem?→ss,getElem?_append_left→vN,getElem?_eq_getElem→sC,getElem?_eq_some_iff→sW,getElem?_map→vi,length_toList→tw,mem_of_getElem?→vJ,size_append→vl,toArray_toList→uq
open Int renaming natCast_mul→vK,toNat_of_nonneg→tQ
open List renaming all_eq_true→sy,append_assoc→sA,append_nil→sU,eq_nil_of_length_eq_zero→vM,forIn_cons→vG,getD_eq_getElem?_getD→sE,getElem?_append_left→sB,getElem?_append_right→sJ,getElem?_cons_zero→ur,getElem?_drop→sX,getElem?_eq_getElem→sk,getElem?_eq_some_iff→sa,getElem?_map→sr,getElem?_set→vg,getElem?_set_ne→si,getElem?_set_self→sg,getElem?_take→sT,length_append→su,length_cons→sL,length_drop→tJ,length_eq_zero_iff→tu,length_set→ta,length_take→sY,mem_iff_getElem?→tx,mem_map→sm,mem_of_getElem?→sI,mem_of_mem_drop→vh,mem_of_mem_take→uj,set_set→sS,size_toArray→tI,take_zero→tq
open Nat renaming add_assoc→tD,add_comm→tb,add_mul→tg,add_zero→tP,le_mul_of_pos_right→uo,le_refl→sc,le_trans→sH,lt_or_ge→sR,lt_trichotomy→vH,min_eq_left→tK,mul_le_mul_right→tp,mul_pos→vL,sub_self→tU,zero_add→sP,zero_mul→vk
open Option renaming bind_eq_some_iff→se,getD_some→uC,map_eq_some_iff→rZ,map_some→sd
namespace Go.Proofs.YtfakoboiahbhaaaGreat.Ab
open Go
inductive il where
 | shared | full | own (z:Nat) | uniq (z:Nat)
 deriving DecidableEq
inductive I where
 | junk
 | bool (b:Bool)
 | int (k:IntKind) (n:Int)
 | eB
 | ptr (id off:Nat)
 | bU (cells:List I)
 | ay (cells:List I) (len:Nat) (c:il)
 | ref (id off len:Nat) (cap:Option Nat) (sz:Nat)
 | func (f:FuncId) (first captured:List I)
 | yield (id:Nat)
 | map (id:Nat)
 | agg (cs:List I)
 | tuple (vs:List I)
 | str (s:ByteArray)
 | raw (cells:List I) (len z:Nat)
 | cl (id gid len z:Nat)
 | dn
 deriving Inhabited
structure b5 where
 takes:List Bool:=[]
 mode:Nat:=0
structure c7 where
 bad:Bool:=false
 two:List (Nat×Nat):=[]
 ops:List (List b5):=[]
 h7:List (Nat×List Bool):=[]
 h8:List (Nat×List Bool):=[]
inductive au where
 | dead
 | cells (l:List I)
 | loop (st:LoopState) (cF:Option Code) (fn:FuncId) (tmps:List I) (params:List Nat) (assign body:Code) (jo:c7)
 | map (es:List (Nat×I×I)) (clock:Nat)
 | iter (m since:Nat) (seen:List Nat) (j7:Nat)
 | grow (l:List I) (gid z:Nat)
structure a5 where
 T:List I
 H:List au
inductive cB where
 | normal | exit (id:Nat) | ret
inductive e3 where
 | fn (f:FuncId)
 | yield (l:Nat)
abbrev b6:=e3→List I→List au→Nat→Option (I×List au)
def I.view:I→I
 | .ay c n (.own _)=>.ay c n .shared
 | .ay c n (.uniq _)=>.ay c n .shared
 | .raw _ _ _=>.junk
 | .cl id _ len z=>.ref id 0 len none z
 | v=>v
def I.gR:I→I
 | .ay c n .full=>.ay c n .shared
 | v=>v
def I.cr:I→I
 | .ay c n .full=>.ay c n .shared
 | .agg cs=>.agg (cs.map I.gR)
 | .tuple cs=>.tuple (cs.map I.gR)
 | v=>v
def cq:Nat→I→Bool
 | 0,_=>false
 | d+1,v=>match v with
   | .ay cells _ _=>cells.all (cq d)
   | .bU cells=>cells.all (cq d)
   | .agg cs=>cs.all (cq d)
   | .tuple cs=>cs.all (cq d)
   | .func _ a b=>a.all (cq d) && b.all (cq d)
   | .bool _ | .int _ _ | .str _ | .eB=>true
   | _=>false
def I.plain:I→Bool
 | .ay _ _ (.own _)=>false
 | .ay _ _ (.uniq _)=>false
 | .raw _ _ _=>false
 | .cl _ _ _ _=>false
 | _=>true
def I.cT:I→Bool
 | .ay _ _ (.uniq _)=>false
 | _=>true
def I.settle:I→I
 | .ay c n (.uniq z)=>.ay c n (.own z)
 | v=>v
def I.cells:I→Option (List I)
 | .agg cs=>some cs
 | .junk=>none
 | .tuple _=>none
 | .raw _ _ _=>none
 | v=>some [v]
def hl:Value→I
 | .bool b=>.bool b
 | .int k n=>.int k n
 | .pointer none=>.eB
 | .string s=>.str s
 | .slice none 0 0=>.ay [] 0 .full
 | _=>.junk
noncomputable section
def c4 (T:List I) (t:Nat):I :=
 @List.rec I (fun _=>Nat→I) (fun _=>.junk) (fun h _ a_ n=>@Nat.rec (fun _=>I) h (fun m _=>a_ m) n) T t
def gH (T:List I) (t:Nat) (v:I):List I :=
 @List.rec I (fun _=>Nat→List I) (fun _=>[]) (fun h xS a_ n=>@Nat.rec (fun _=>List I) (v::xS) (fun m _=>h::a_ m) n) T t
theorem fS (T:List I):∀ t,c4 T t=T.getD t .junk:=by
 induction T with
 | nil=>intro t;rfl
 | cons h xS a_=>intro t;cases t with
   | zero=>rfl
   | succ n=>exact a_ n
theorem gI (T:List I) (v:I):∀ t,gH T t v=T.set t v:=by
 induction T with
 | nil=>intro t;rfl
 | cons h xS a_=>intro t;cases t with
   | zero=>rfl
   | succ n=>exact congrArg (h::·) (a_ n)
def aA (T:List I):Operand→I
 | .tmp t=>c4 T t
 | .const v=>hl v
 | .func f=>.func f [] []
 | .global _=>.junk
def fM (T:List I) (t:Nat):I→List I
 | .ay c n (.uniq z)=>gH T t (.ay c n (.own z))
 | _=>T
def rd:List I→List Bool→List Operand→List I×List I
 | T,_,[]=>([],T)
 | T,ts,.tmp t::rest =>
   match ts.headD false with
   | true=>let r:=rd (gH T t .junk) ts.tail rest;(c4 T t::r.1,r.2)
   | false=>let r:=rd (fM T t (c4 T t)) ts.tail rest;((c4 T t).view::r.1,r.2)
 | T,ts,x::rest=>let r:=rd T ts.tail rest;(aA T x::r.1,r.2)
def eQ:List Bool→List I→List I
 | b::bs,v::vs=>(match b with | true=>v | false=>.junk)::eQ bs vs
 | [],vs=>vs
 | _,[]=>[]
def lG (id:Nat):List (Nat×List Bool)→Option (List Bool)
 | []=>none
 | (i,k)::r=>match Nat.beq i id with | true=>some k | false=>lG id r
def eV (ml:List (Nat×List Bool)) (id:Nat) (s:a5):a5 :=
 match lG id ml with
 | some k=>⟨eQ k s.T,s.H⟩
 | none=>s
def opsOf (o:Oper):List Operand :=
 match o.op with
 | .call { callee:=.value f,args,.. }=>f::args.toList
 | .call { args,.. }=>args.toList
 | op=>op.operands.toList
def tmpsOf (xs:List Operand):List Nat:=xs.filterMap fun x=>match x with | .tmp t=>some t | _=>none
def cZ:List Bool→List Operand→List Nat
 | _,[]=>[]
 | ts,.tmp t::rest=>match ts.headD false with
   | true=>t::cZ ts.tail rest
   | false=>cZ ts.tail rest
 | ts,_::rest=>cZ ts.tail rest
def oU (ops:Array Oper) (o:Oper):List Nat:=match o.guard with
 | some (j,_)=>((ops[j]?).bind (·.dst)).toList
 | none=>[]
def eZ (ops:Array Oper) (o:Oper):List Nat:=oU ops o++tmpsOf (opsOf o)
def jt (xs ys:List Nat):Bool:=xs.all fun x=>!(ys.contains x)
def dh (o:Oper) (mode:Nat):Nat:=match o.op with
 | .load _ _=>if mode=0 then 1 else if mode=2 then 2 else if mode=3 then 0 else if mode=5 then 2 else 5
 | .box _ _=>if mode=0 then 6 else 0
 | .alloc _=>6
 | .makeSlice _ _ _=>if mode=0 then 2 else 0
 | .store _ _ _ | .makeMap _ _ | .mapUpdate _ _ _ _ | .lookup _ _ _ _ | .range _ _ | .entry _=>2
 | .move _ | .assign _=>if mode=0 then 0 else 2
 | .call c=>match c.callee with
   | .builtin b=>match b with
     | .append=>if mode=0 then 1 else 2
     | .len | .cap | .min | .max=>1
     | _=>2
   | .value _=>if mode=0 then 3 else if mode=3 then 0 else if mode=4 then 3 else if mode=6 then 3 else 2
   | .invoke _ _=>2
 | _=>0
def calm (o:Oper) (mode:Nat):Bool:=match o.op with
 | .move _ | .assign _=>mode == 0
 | _=>true
def bO (a b:Nat):Bool:=a == 0 || b == 0 || ((a == 1 || a == 3) && (b == 1 || b == 3)) || (a == 1 && b == 5) || (a == 5 && b == 1) || (a == 1 && b == 6)
def kK (bA:Oper) (dd:Nat) (bQ:Oper):Bool:=match bA.op,bQ.op with
 | .load _ _,.mapUpdate _ _ _ _=>dd == 0
 | _,_=>false
def indep (ops:Array Oper) (bA:Oper) (aB:b5) (bQ:Oper) (aH:b5):Bool :=
 jt bA.dst.toList (eZ ops bQ) && jt bQ.dst.toList (eZ ops bA) && jt bA.dst.toList bQ.dst.toList &&
 jt (cZ aB.takes (opsOf bA)) (eZ ops bQ) && jt (cZ aH.takes (opsOf bQ)) (eZ ops bA) &&
 calm bA aB.mode && calm bQ aH.mode && (bO (dh bA aB.mode) (dh bQ aH.mode) || kK bA aB.mode bQ)
def mu (ms:List Nat) (o:Oper):Nat:=o.after.toList.foldl (fun m e=>if Region.binds .any e then m ||| (ms.getD e.on 0 ||| 1 <<< e.on) else m) 0
def g5:List Oper→List Nat→List Nat
 | [],ms=>ms
 | o::r,ms=>g5 r (ms++[mu ms o])
def zG (ops:Array Oper) (as:List b5) (ms:List Nat):Bool :=
 (List.range ops.size).all fun j=>match ops[j]? with
  | none=>true
  | some c1=>(ms.getD j 0 == mu ms c1) && c1.after.toList.all (fun e=>!Region.binds .any e || Nat.blt e.on j) &&
    (List.range j).all fun i=>match ops[i]? with
     | none=>true
     | some cO=>(ms.getD j 0).testBit i || indep ops cO (as.getD i {}) c1 (as.getD j {})
def m5 (ops:Array Oper) (as:List b5):Bool:=zG ops as (g5 ops.toList [])
def zH (ops:Array Oper) (an:List b5) (ms:List Nat) (p q:Nat):Bool :=
 (List.range ops.size).all fun j=>match ops[j]? with
  | none=>true
  | some c1=>(ms.getD j 0 == mu ms c1) && c1.after.toList.all (fun e=>!Region.binds .any e || Nat.blt e.on j) &&
    (List.range j).all fun i=>match ops[i]? with
     | none=>true
     | some cO=>(ms.getD j 0).testBit i || indep ops cO (an.getD i {}) c1 (an.getD j {}) || (Nat.beq i p && Nat.beq j q)
def m6 (ops:Array Oper) (an:List b5) (p q:Nat):Bool:=zH ops an (g5 ops.toList []) p q
def A9 (id:Nat):List (Nat×Nat)→Option Nat
 | []=>none
 | (i,p)::r=>match Nat.beq i id with | true=>some p | false=>A9 id r
def j8 (A:c7) (id:Nat):Bool→Option Nat
 | true=>A9 id A.two
 | false=>none
def xn (A:c7) (id:Nat) (ops:Array Oper) (draw:Bool):Bool:=match j8 A id draw with
 | some p=>Nat.blt (p+1) ops.size && m6 ops (A.ops.getD id []) p (p+1)
 | none=>!draw || m5 ops (A.ops.getD id [])
def codeOk (A:c7):Code→Bool
 | .region id ops draw=>xn A id ops draw
 | .seq a b=>codeOk A a && codeOk A b
 | .cond _ a b=>codeOk A a && codeOk A b
 | .block _ c=>codeOk A c
 | .loop c=>codeOk A c
 | .scope c=>codeOk A c
 | .rangeFunc _ _ a b=>codeOk A a && codeOk A b
 | _=>true
section
variable (P:Program)
def bS (t:TypeId):Option Nat:=(P.info? t).map (·.size)
def dI (t:TypeId):Bool:=match P.underlying t with | some (.struct _) | some (.array _ _)=>true | _=>false
def zeroCells (t:TypeId):Option (List I):=((P.info? t).bind (·.zero)).bind fun v=>match v.cells.toList.all (·.oneCell') with | true=>some (v.cells.toList.map hl) | false=>none
def jm (op:BinOp) (k:IntKind) (a b:Int):Option I :=
 match op with
 | .add=>some (.int k (k.wrap (a+b)))
 | .sub=>some (.int k (k.wrap (a-b)))
 | .mul=>some (.int k (k.wrap (a*b)))
 | .quo=>if b=0 then none else some (.int k (k.wrap (a.tdiv b)))
 | .rem=>if b=0 then none else some (.int k (a.tmod b))
 | .eql=>some (.bool (a == b))
 | .neq=>some (.bool (a != b))
 | .lss=>some (.bool (decide (a<b)))
 | .leq=>some (.bool (decide (a≤b)))
 | .gtr=>some (.bool (decide (a > b)))
 | .geq=>some (.bool (decide (a≥b)))
 | .and=>some (.int k (k.wrap (BitVec.ofInt k.bits a &&& BitVec.ofInt k.bits b).toNat))
 | .or=>some (.int k (k.wrap (BitVec.ofInt k.bits a ||| BitVec.ofInt k.bits b).toNat))
 | .xor=>some (.int k (k.wrap (BitVec.ofInt k.bits a ^^^ BitVec.ofInt k.bits b).toNat))
 | .andNot=>some (.int k (k.wrap (BitVec.ofInt k.bits a &&& ~~~ (BitVec.ofInt k.bits b)).toNat))
 | _=>none
def hk (op:BinOp) (k:IntKind) (a b:Int):Option I :=
 if b<0 then none else
 match op with
 | .shl=>some (.int k (k.wrap (a*2 ^ (min b.toNat k.bits))))
 | .shr=>some (.int k (a.fdiv (2 ^ (min b.toNat k.bits))))
 | _=>none
def dK:List I→List I→Option Bool
 | [],[]=>some true
 | .int k a::r,.int k' b::r'=>if k=k' then (dK r r').map fun e=>(a == b) && e else none
 | _,_=>none
def gz:List Field→Nat→Bool
 | [],_=>true
 | f :: bE, n => (f.offset == n) && (f.name != "_") && (match P.underlying f.type, bS P f.type with | some (.int _), some 1 => true | _, _ => false) && gz bE (n + 1)
def fg (op:BinOp) (t:TypeId) (x y:I):Option I :=
 match x,y with
 | .int k a,.int k' b =>
   match op with
   | .shl=>hk .shl k a b
   | .shr=>hk .shr k a b
   | op=>if k=k' then jm op k a b else none
 | .bool a,.bool b =>
   match P.underlying t,op with
   | some .bool,.eql=>some (.bool (a == b))
   | some .bool,.neq=>some (.bool (!(a == b)))
   | _,_=>none
 | .agg xs,.agg ys =>
   match P.underlying t with
   | some (.array len e) =>
     match P.underlying e,bS P e with
     | some (.int _),some 1 =>
       if xs.length=len∧ys.length=len∧P.eqGuardType P.depth t=false then
        match op with
        | .eql=>(dK xs ys).map fun e=>.bool e
        | .neq=>(dK xs ys).map fun e=>.bool !e
        | _=>none
       else none
     | _,_=>none
   | some (.struct bE) =>
     if gz P bE.toList 0=true∧P.stoodInHeld t=false∧xs.length=bE.size∧ys.length=bE.size∧P.eqGuardType P.depth t=false then
      match op with
      | .eql=>(dK xs ys).map fun e=>.bool e
      | .neq=>(dK xs ys).map fun e=>.bool !e
      | _=>none
     else none
   | _=>none
 | _,_=>none
def kb (op:UnOp):I→Option I
 | .bool b=>match op with | .not=>some (.bool !b) | _=>none
 | .int k n=>match op with | .neg=>some (.int k (k.wrap (-n))) | _=>none
 | _=>none
def setCells:Nat→List I→List I→List I
 | _,[],cs=>cs
 | off,v::vs,cs=>setCells (off+1) vs (cs.set off v)
def gm (place:Nat→Option (Nat×Nat)):List I→List (Nat×I)→Option (List I)
 | cs,[]=>some cs
 | cs,(i,v)::rest =>
   match place i with
   | some (off,size)=>match v.cells with
     | some bF=>if bF.length=size∧off+size≤cs.length then gm place (setCells off bF cs) rest else none
     | none=>none
   | none=>none
def eX:Nat→List I→List I
 | 0,_=>[]
 | n+1,z=>z++eX n z
def lk (t:TypeId) (parts:List (Nat×I)):Option I :=
 match zeroCells P t,P.underlying t with
 | some z,some (.struct bE)=>match bE.toList.all (fun f=>(bS P f.type).isSome) with
   | true=>(gm (fun i=>(bE[i]?).bind fun f=>(bS P f.type).map fun s=>(f.offset,s)) z parts).map .agg
   | false=>none
 | some z,some (.array _ e)=>(bS P e).bind fun s=>(gm (fun i=>some (i*s,s)) z parts).map .agg
 | _,_=>none
def iv (t:TypeId) (len:Nat) (parts:List (Nat×I)):Option (List I×Nat) :=
 match P.underlying t with
 | some (.slice e) =>
   match bS P e,zeroCells P e with
   | some s,some z=>if 0<s∧z.length=s∧len*s≤16777216 then (gm (fun i=>some (i*s,s)) (eX len z) parts).map fun cs=>(cs,s) else none
   | _,_=>none
 | _=>none
def gP (i:Int) (len:Nat):Option Nat:=if 0≤i∧i<len then some i.toNat else none
def hS (t:TypeId) (x i:I):Option I :=
 match P.underlying t,x,i with
 | some (.slice e),.ay cells len _,.int _ n=>(bS P e).bind fun s=>(gP n len).map fun j=>.bU (cells.drop (j*s))
 | some (.slice e),.ref id off len _ _,.int _ n=>(bS P e).bind fun s=>(gP n len).map fun j=>.ptr id (off+j*s)
 | some (.array len e),.ptr id off,.int _ n=>(bS P e).bind fun s=>(gP n len).map fun j=>.ptr id (off+j*s)
 | some (.array len e),.bU cells,.int _ n=>(bS P e).bind fun s=>(gP n len).map fun j=>.bU (cells.drop (j*s))
 | _,_,_=>none
def jn (t:TypeId) (x:I) (f:Nat):Option I :=
 match P.underlying t,x with
 | some (.struct bE),.ptr id off=>(bE[f]?).bind fun g=>(bS P g.type).bind fun s=>if s=0 then none else some (.ptr id (off+g.offset))
 | some (.struct bE),.bU cells=>(bE[f]?).bind fun g=>(bS P g.type).bind fun s=>if s=0 then none else some (.bU (cells.drop g.offset))
 | _,_=>none
def iw (t:TypeId) (cs:List I) (off:Nat):Option I :=
 match dI P t with
 | true=>(bS P t).bind fun s=>if off+s≤cs.length then some (.agg ((cs.drop off).take s)) else none
 | false=>match P.underlying t with
   | some _=>cs[off]?
   | none=>none
def mX (t:TypeId) (x:I) (f:Nat):Option I :=
 match P.underlying t,x with
 | some (.struct bE),.agg cs=>(bE[f]?).bind fun g=>iw P g.type cs g.offset
 | _,_=>none
def ov (t:TypeId) (x i:I):Option I :=
 match P.underlying t,x,i with
 | some (.array len e),.agg cs,.int _ n=>(bS P e).bind fun s=>(gP n len).bind fun j=>iw P e cs (j*s)
 | some .string,.str b,.int _ n=>if 0≤n then (b[n.toNat]?).map fun x=>.int .u8 x.toNat else none
 | _,_,_=>none
def cH (x:Option I) (BP most:Nat):Option Nat :=
 match x with
 | none=>some BP
 | some (.int _ n)=>if 0≤n∧n≤most then some n.toNat else none
 | _=>none
def eR (t:TypeId) (x:I) (lo hi gA:Option I):Option I :=
 match P.underlying t,x with
 | some (.slice e),.ay cells len c =>
   (bS P e).bind fun s =>
   match gA,hi with
   | none,_ =>
     (cH hi len len).bind fun h=>(cH lo 0 h).bind fun l =>
     some (.ay ((cells.drop (l*s)).take ((h-l)*s)) (h-l) (if c=.full∧h=len then .full else .shared))
   | some _,some _ =>
     (cH gA len len).bind fun m=>(cH hi m m).bind fun h=>(cH lo 0 h).bind fun l =>
     some (.ay ((cells.drop (l*s)).take ((h-l)*s)) (h-l) (if h=m then .full else .shared))
   | some _,none=>none
 | some (.slice e),.ref id off len cap sz =>
   (bS P e).bind fun s=>if s≠sz then none else
   match gA,hi with
   | none,_ =>
     (cH hi len len).bind fun h=>(cH lo 0 h).bind fun l =>
     if l<len then some (.ref id (off+l*s) (h-l) (cap.map (·-l)) sz) else some (.ay [] 0 .shared)
   | some _,some _ =>
     (cH gA len len).bind fun m=>(cH hi m m).bind fun h=>(cH lo 0 h).bind fun l =>
     if m=l then (if l=0 then some (.ref id off (h-l) (some (m-l)) sz) else none) else some (.ref id (off+l*s) (h-l) (some (m-l)) sz)
   | some _,none=>none
 | some (.array n e),.ptr id off =>
   (bS P e).bind fun s =>
   match gA with
   | none=>(cH hi n n).bind fun h=>(cH lo 0 h).bind fun l =>
     if n=l then none else some (.ref id (off+l*s) (h-l) (some (n-l)) s)
   | some _=>none
 | _,_=>none
def rowOf (H:List au):I→Option (List I)
 | .ay cells _ _=>some cells
 | .ref id off len _ sz=>match H[id]? with
   | some (.cells l)=>if off+len*sz≤l.length then some (((l.drop off).take (len*sz)).map I.view) else none
   | _=>none
 | _=>none
def lenOf:I→Option Nat
 | .ay _ len _=>some len
 | .ref _ _ len _ _=>some len
 | _=>none
def fp (n bytes:Nat):Bool:=Nat.ble (n*bytes) 140737488355328 && Nat.ble 1 bytes
def appended (H:List au) (x:I):Option (Nat×List I) :=
 match lenOf x,rowOf H x with
 | some m,some row=>some (m,row)
 | _,_=>none
def e4 (H:List au) (t dm:TypeId) (s x:I):Option I :=
 match P.underlying t with
 | some (.slice e) =>
   match bS P e,(P.info? e).map (·.bytes),(zeroCells P e) with
   | some sz,some bytes,some z =>
     match Nat.beq t dm with
     | true =>
       match appended H x with
       | some (m,new) =>
         if new.length=m*sz∧0<sz∧z.length=sz∧fp m bytes then
          match s with
          | .ay cells len c =>
            match c with
            | .shared=>if m=0 then some s else none
            | .full=>if m=0 then (if len=0 then some (.ay [] 0 (.uniq sz)) else some s)
              else if fp (len+m) bytes∧cells.length=len*sz then some (.ay (cells++new) (len+m) (.uniq sz)) else none
            | .own z=>if z=sz∧fp (len+m) bytes then some (.ay (cells++new) (len+m) (.own z)) else none
            | .uniq z=>if z=sz∧fp (len+m) bytes then some (.ay (cells++new) (len+m) (.uniq z)) else none
          | .ref id off len (some cap) oa =>
            if cap=len∧oa=sz∧0<m then (rowOf H (.ref id off len (some cap) oa)).bind fun fI=>if fp (len+m) bytes then some (.ay (fI++new) (len+m) (.uniq sz)) else none
            else none
          | _=>none
         else none
       | none=>none
     | false =>
       match P.underlying dm,x,s with
       | some (.int _),.int .i64 n,.ay [] 0 .full =>
         if 0<n∧fp n.toNat bytes∧0<sz∧z.length=sz then some (.ay (eX n.toNat z) n.toNat (.uniq sz)) else none
       | _,_,_=>none
   | _,_,_=>none
 | _=>none
def er (t:TypeId) (cs:List I) (off:Nat):Option I :=
 match dI P t with
 | true=>(bS P t).bind fun s=>if off+s≤cs.length then some (.agg (((cs.drop off).take s).map I.view)) else none
 | false=>match P.underlying t with
   | some _=>(cs[off]?).map I.view
   | none=>none
def dR (H:List au) (t:TypeId) (a:I):Option I :=
 match a with
 | .ptr id off=>match H[id]? with
   | some (.cells l)=>er P t l off
   | some (.grow l _ _)=>er P t l off
   | _=>none
 | .bU cells=>er P t cells 0
 | _=>none
def g6 (lo:Nat) (H:List au) (id:Nat) (f:List I→Option (List I)):Option (List au) :=
 if lo≤id then match H[id]? with
  | some (.cells l)=>(f l).map fun l'=>H.set id (.cells l')
  | _=>none
 else none
def g7 (lo:Nat) (H:List au) (id:Nat) (f:List I→Option (List I)):Option (List au) :=
 if lo≤id then match H[id]? with
  | some (.cells l)=>(f l).map fun l'=>H.set id (.cells l')
  | some (.grow l g z)=>(f l).map fun l'=>H.set id (.grow l' g z)
  | _=>none
 else none
def iy (lo:Nat) (H:List au) (t:TypeId) (a v:I):Option (List au) :=
 match a,bS P t with
 | .ptr id off,some s=>match v.cells with
   | some bF=>g7 lo H id fun l=>if bF.length=s∧off+s≤l.length then some (setCells off (bF.map I.settle) l) else none
   | none=>none
 | _,_=>none
def je (t:TypeId) (n:Nat):Option (List I×Nat) :=
 match P.underlying t with
 | some (.slice e)=>match bS P e,zeroCells P e,(P.info? e).map (·.bytes) with
   | some s,some z,some bytes=>if z.length=s∧0<s∧fp n bytes then some (eX n z,s) else none
   | _,_,_=>none
 | _=>none
def kN:List I→Int→Option Int
 | [],a=>some a
 | .int _ b::r,a=>kN r (if b<a then b else a)
 | _::_,_=>none
def kM:List I→Int→Option Int
 | [],a=>some a
 | .int _ b::r,a=>kM r (if b > a then b else a)
 | _::_,_=>none
def nL:List I→Option I
 | .int k a::r=>(kN r a).map (.int k)
 | _=>none
def nK:List I→Option I
 | .int k a::r=>(kM r a).map (.int k)
 | _=>none
def gT (cap:Option Nat) (n:Nat):il:=match cap with | some c=>if c=n then .full else .shared | none=>.shared
def eb (f:I→Option I):List I→Option (List I)
 | []=>some []
 | x::xs=>match f x with
   | some y=>(eb f xs).map (y::·)
   | none=>none
def mapM (f:I→Option I):List (Nat×I×I)→Option (List (Nat×I×I))
 | []=>some []
 | (i,k,v)::xs=>match f k,f v with
   | some k',some br=>(mapM f xs).map ((i,k',br)::·)
   | _,_=>none
def bJ (H:List au) (lo id0 n:Nat):Nat→I→Option I
 | 0,_=>none
 | d+1,BE =>
   match BE with
   | .ay cells len c=>(eb (bJ H lo id0 n d) cells).map fun cs=>.ay cs len c
   | .bU cells=>(eb (bJ H lo id0 n d) cells).map .bU
   | .agg cs=>(eb (bJ H lo id0 n d) cs).map .agg
   | .tuple cs=>(eb (bJ H lo id0 n d) cs).map .tuple
   | .func f a b=>match eb (bJ H lo id0 n d) a,eb (bJ H lo id0 n d) b with
     | some a,some b=>some (.func f a b)
     | _,_=>none
   | .ptr id off=>if id<lo then some (.ptr id off) else if id=id0 then some (.ptr n off) else
     match H[id]? with
     | some (.cells l)=>(eb (bJ H lo id0 n d) ((l.drop off).map I.view)).map .bU
     | _=>none
   | .ref id off len cap sz=>if id<lo then some (.ref id off len cap sz) else if id=id0 then some (.ref n off len cap sz) else
     match rowOf H (.ref id off len cap sz) with
     | some row=>(eb (bJ H lo id0 n d) row).map fun cs=>.ay cs len (gT cap len)
     | none=>none
   | .yield id=>if id<lo then some (.yield id) else none
   | .map id=>if id<lo then some (.map id) else if id=id0 then some (.map n) else none
   | .raw _ _ _=>none
   | .cl _ _ _ _=>none
   | v=>some v
def fr (parts:List (Nat×Operand)) (vs:List I):List (Nat×I):=(parts.map (·.1)).zip vs
def dk (vs:List I) (i:Nat):Option Operand→Option I
 | none=>none
 | some _=>vs[i]?
def xg:List I→Option I
 | [.bool c,a,b]=>some (match c with | true=>a | false=>b)
 | _=>none
def nR:List I→Option I
 | [.ptr id off]=>some (.ptr id off)
 | [.bU cells]=>some (.bU cells)
 | _=>none
def fY (f:I→I→Option I):List I→Option I
 | [x,y]=>f x y
 | _=>none
def eW (f:I→Option I):List I→Option I
 | [x]=>f x
 | _=>none
def ln (src dst:TypeId):I→Option I
 | .int _ n=>match P.underlying src,P.underlying dst with | some _,some (.int k)=>some (.int k (k.wrap n)) | _,_=>none
 | _=>none
def mA (fn:Fn) (n m:Nat) (vs:List I):Option I :=
 match fn with
 | .func f=>if vs.length=n+m then some (.func f (vs.take n) (vs.drop n)) else none
 | _=>none
def eh (t:TypeId) (l h m:Option Operand):List I→Option I
 | x::vs =>
   let i1:=match l with | some _=>1 | none=>0
   let i2:=match h with | some _=>i1+1 | none=>i1
   match x,l,h,m with
   | .ay cells len (.uniq z),none,h,none =>
     match P.underlying t with
     | some (.slice e)=>(bS P e).bind fun _=>(cH (dk vs 0 h) len len).map fun n=>.ay (cells.take (n*z)) n (.uniq z)
     | _=>none
   | .ay cells len (.own z),some lo,none,none =>
     match P.underlying t with
     | some (.slice e)=>(bS P e).bind fun s=>if s=z then (cH (dk vs 0 (some lo)) 0 len).map fun l=>.ay (cells.drop (l*z)) (len-l) (.own z) else none
     | _=>none
   | .cl id gid len z,none,h,none =>
     match P.underlying t with
     | some (.slice e)=>(bS P e).bind fun _=>(cH (dk vs 0 h) len len).map fun n=>.cl id gid n z
     | _=>none
   | x,l,h,m=>eR P t x.view (dk vs 0 l) (dk vs i1 h) (dk vs i2 m)
 | []=>none
def mW (i:Nat):I→Option I
 | .tuple ws=>ws[i]?
 | _=>none
def iO:Operand→Bool
 | .const (.slice none 0 0)=>true
 | _=>false
def mV (op:BinOp) (t:TypeId) (x:I):Option I :=
 match P.underlying t with
 | some (.slice _) =>
   match x with
   | .ay _ (_+1) _ | .ref ..=>match op with
     | .eql=>some (.bool false)
     | .neq=>some (.bool true)
     | _=>none
   | .ay [] 0 _=>match op with
     | .eql | .neq=>some .dn
     | _=>none
   | _=>none
 | _=>none
def cy (o:Oper) (vs:List I):Option I :=
 match o.op with
 | .pick _ _ _=>xg vs
 | .build t parts=>lk P t (fr parts.toList vs)
 | .buildSlice t len parts=>(iv P t len (fr parts.toList vs)).map fun r=>.ay r.1 len (.uniq r.2)
 | .nilCheck _=>nR vs
 | .binOp op t _ y _=>match iO y with
   | true=>match vs with
     | [x,_]=>mV P op t x
     | _=>none
   | false=>fY (fg P op t) vs
 | .unOp op _ _=>eW (kb op) vs
 | .convert src dst _=>eW (ln P src dst) vs
 | .makeFunc fn first captured=>mA fn first.size captured.size vs
 | .slice t _ l h m=>eh P t l h m vs
 | .fieldAddr t _ f=>eW (fun x=>jn P t x f) vs
 | .field t _ f=>(eW (fun x=>mX P t x f) vs).map I.view
 | .indexAddr t _ _=>fY (hS P t) vs
 | .index t _ _=>(fY (ov P t) vs).map I.view
 | .extract _ i=>(eW (mW i) vs).map I.view
 | _=>none
def dN (o:Oper):Bool :=
 match o.op with
 | .move _ | .assign _ | .store _ _ _ | .box _ _ | .call _ | .slice _ _ _ _ _=>true
 | _=>false
def yt (lo:Nat):I→Option Nat
 | .ptr id _=>if lo≤id then some id else none
 | .ref id _ _ _ _=>if lo≤id then some id else none
 | .map id=>if lo≤id then some id else none
 | _=>none
def BW (lo:Nat):I→Option Nat
 | .tuple vs=>vs.findSome? (yt lo)
 | v=>yt lo v
def j6 (H:List au):I→I
 | .ref id off len cap sz=>match rowOf H (.ref id off len cap sz) with
   | some row=>.ay row len .shared
   | none=>.ref id off len cap sz
 | v=>v
def hF (H:List au):I→I
 | .ptr id off=>match H[id]? with
   | some (.cells l)=>.bU (((l.drop off).map I.view).map (j6 H))
   | _=>.ptr id off
 | .ref id off len cap sz=>j6 H (.ref id off len cap sz)
 | v=>v
def ij (H:List au):I→I
 | .ptr id off=>hF H (.ptr id off)
 | .ref id off len cap sz=>hF H (.ref id off len cap sz)
 | .func f a b=>.func f (a.map (hF H)) (b.map (hF H))
 | v=>v
def gG:I→Bool
 | .bool _ | .int _ _ | .str _=>true
 | _=>false
def gb:I→Bool
 | .bool _ | .int _ _ | .str _=>true
 | .tuple vs=>vs.all gG
 | .ay cells _ (.uniq _)=>cells.all gG
 | _=>false
def eS (C:b6) (lo mode:Nat) (b0:e3) (args:List I) (H:List au):Option (I×List au) :=
 match mode with
 | 0=>(C b0 args H H.length).bind fun r=>(bJ r.2 H.length r.2.length 0 8 r.1).map fun v=>(v,H)
 | 1=>C b0 args H lo
 | 3=>match b0,args.all (cq 8) with
   | .fn _,true=>(C b0 (args.map I.cr) [] 0).bind fun r=>(bJ r.2 0 r.2.length 0 8 r.1).map fun v=>(v.cr,H)
   | _,_=>none
 | 6=>match b0,(args.map (ij H)).all (cq 8) with
   | .fn _,true=>(C b0 ((args.map (ij H)).map I.cr) [] 0).bind fun r=>(bJ r.2 0 r.2.length 0 8 r.1).bind fun v=>match gb v with
     | true=>some (v.cr,H)
     | false=>none
   | _,_=>none
 | 7=>match b0,args with
   | .fn _,[.ptr id 0]=>if lo≤id then match H[id]? with
     | some (.cells l)=>match cq 8 (.bU (l.map I.view)) with
       | true=>(C b0 [(I.bU (l.map I.view)).cr] [] 0).bind fun r=>(bJ r.2 0 r.2.length 0 8 r.1).map fun v=>(v.cr,H.set id .dead)
       | false=>none
     | _=>none else none
   | _,_=>none
 | 4=>(C b0 (args.map I.cr) H H.length).bind fun r=>(bJ r.2 H.length r.2.length 0 8 r.1).map fun v=>(v.cr,H)
 | _=>(C b0 args H H.length).bind fun r =>
   match BW H.length r.1 with
   | none=>(bJ r.2 H.length r.2.length 0 8 r.1).map fun v=>(v,H)
   | some id0 =>
     match r.2[id0]? with
     | some (.cells l)=>if H.length≤id0 then
       match eb (bJ r.2 H.length id0 H.length 8) l,bJ r.2 H.length id0 H.length 8 r.1 with
       | some l',some v=>some (v,H++[.cells l'])
       | _,_=>none
       else none
     | some (.map es clock)=>if H.length≤id0 then
       match mapM (bJ r.2 H.length id0 H.length 8) es,bJ r.2 H.length id0 H.length 8 r.1 with
       | some es',some v=>some (v,H++[.map es' clock])
       | _,_=>none
       else none
     | _=>none
def kf (C:b6) (lo mode:Nat) (f:I) (args:List I) (H:List au):Option (I×List au) :=
 match f with
 | .func k first cap=>eS C lo mode (.fn k) (first++args++cap) H
 | .yield l=>eS C lo mode (.yield l) args H
 | _=>none
abbrev Out:=Option (I×List au)
def eP (lo mode:Nat) (t:TypeId) (x:Operand) (H:List au):List I→Out
 | [v] =>
   match mode with
   | 0=>match iO x,P.underlying t with
     | true,some (.slice e)=>(bS P e).map fun z=>(.ay [] 0 (.uniq z),H)
     | _,_=>some (v,H)
   | 1=>match v with
     | .ay cells len (.uniq z)=>if len=0 then some (v,H) else some (.ref H.length 0 len none z,H++[.cells cells])
     | .ay [] 0 .full=>some (v,H)
     | .ref ..=>some (v,H)
     | _=>none
   | 4=>match v with
     | .cl id gid n z=>if lo≤id then match H[id]? with
       | some (.grow l g cU)=>if g=gid∧cU=z∧n*z≤l.length∧(l.take (n*z)).all I.plain=true then some (.ay (l.take (n*z)) n (.uniq z),H.set id .dead) else none
       | _=>none else none
     | _=>some (v,H)
   | _=>match v with
     | .ref id _ _ cap _=>if lo≤id then (rowOf H v).bind fun row=>(lenOf v).map fun n =>
       (.ay row n (gT cap n),H.set id .dead) else none
     | .cl id gid n z=>if lo≤id then match H[id]? with
       | some (.grow l g cU)=>if l.length=n*z then some (.ay (l.map I.view) n .shared,H.set id .dead) else none
       | _=>none else none
     | _=>some (v.view,H)
 | _=>none
def dO (lo mode:Nat) (t:TypeId) (H:List au):List I→Out
 | [a] =>
   match mode with
   | 0=>(dR P H t a).map (·,H)
   | 3=>match a with
     | .bU cells=>(er P t cells 0).map (·,H)
     | _=>none
   | 5=>match P.underlying t,a with
     | some (.slice _),.ptr id off=>match H[id]? with
       | some (.cells l)=>match l[off]? with
         | some (.cl i g n z)=>some (.cl i g n z,H)
         | some (.ay [] 0 .full)=>some (.ay [] 0 .full,H)
         | _=>none
       | _=>none
     | _,_=>none
   | _=>match P.underlying t,a with
     | some (.slice _),.ptr id off=>if lo≤id then match H[id]? with
       | some (.cells l)=>match l[off]? with
         | some (.ay c n (.own z))=>some (.ay c n (.own z),H.set id (.cells (l.set off (.ay c n .shared))))
         | some (.raw c n z)=>if mode=2 then (if n=0 then none else some (.ref H.length 0 n none z,H.set id (.cells (l.set off (.ref H.length 0 n none z)))++[.cells c]))
           else some (.ay c n (.uniq z),H.set id (.cells (l.set off .junk)))
         | some v=>some (v.view,H)
         | _=>none
       | some (.grow l g cU)=>match l[off]? with
         | some (.ay c n (.own z))=>some (.ay c n (.own z),H.set id (.grow (l.set off (.ay c n .shared)) g cU))
         | some (.ay c n .full)=>some (.ay c n .full,H)
         | _=>none
       | _=>none else none
     | _,_=>none
 | _=>none
def lp (lo:Nat) (H:List au) (t:TypeId) (a v:I):Option (List au) :=
 match a,v,bS P t with
 | .ptr id off,.ay c n (.uniq z),some 1=>if c.all gG=true∧n≠0 then g6 lo H id fun l=>if off<l.length then some (l.set off (.raw c n z)) else none else none
 | _,_,_=>none
def hA (lo mode:Nat) (t:TypeId) (H:List au):List I→Out
 | [a,v]=>match mode with
   | 0=>(iy P lo H t a v).map fun H'=>(.junk,H')
   | _=>(lp P lo H t a v).map fun H'=>(.junk,H')
 | _=>none
def gC (mode:Nat) (H:List au):List I→Out
 | [v]=>match mode with
   | 0=>v.cells.map fun bF=>(.ptr H.length 0,H++[.cells (bF.map I.settle)])
   | _=>match v.cells with
     | some bF=>match bF.all I.plain with
       | true=>some (.bU bF,H)
       | false=>none
     | none=>none
 | _=>none
def kQ (mode:Nat) (t:TypeId) (H:List au):Out :=
 match mode with
 | 0=>(zeroCells P t).map fun z=>(.ptr H.length 0,H++[.cells z])
 | _=>match zeroCells P t,P.underlying t with
   | some [.ay [] 0 .full],some (.slice e)=>(bS P e).map fun s=>(.ptr H.length 0,H++[.cells [.ay [] 0 (.own s)]])
   | _,_=>none
def jU (mode:Nat) (t:TypeId) (H:List au):List I→Out
 | [.int _ n,.int _ c] =>
   if 0≤n∧n≤c then
    match mode with
    | 0=>(je P t c.toNat).map fun r=>(.ref H.length 0 n.toNat (some c.toNat) r.2,H++[.cells r.1])
    | _=>if n=c∧0≤n then (je P t c.toNat).map fun r=>(.ay r.1 n.toNat (.uniq r.2),H) else none
   else none
 | _=>none
def kH (t:TypeId):Bool:=match P.underlying t with
 | some (.int _)=>true
 | some (.struct bE)=>gz P bE.toList 0 && !P.stoodInHeld t
 | _=>false
def gv:I→I→Option Bool
 | .int k a,.int k' b=>if k=k' then some (a == b) else none
 | .agg xs,.agg ys=>dK xs ys
 | _,_=>none
def isKey (t:TypeId) (k:I):Bool:=match P.underlying t,k with
 | some (.int q),.int fL _=>q == fL
 | some (.struct bE),.agg cs=>cs.length == bE.size
 | _,_=>false
def fy (k:I):List (Nat×I×I)→Nat→Option (Option Nat)
 | [],_=>some none
 | (_,k',_)::r,i=>match gv k k' with
   | some true=>some (some i)
   | some false=>fy k r (i+1)
   | none=>none
def jP (t:TypeId):Option (TypeId×TypeId):=match P.underlying t with
 | some (.map k e)=>match kH P k with | true=>some (k,e) | false=>none
 | _=>none
def oj (t:TypeId):Option I:=((P.info? t).bind (·.zero)).bind fun v=>match v with
 | .agg cs=>match cs.toList.all (·.oneCell') with | true=>some (.agg (cs.toList.map hl)) | false=>none
 | v=>some (hl v)
def kT (t:TypeId) (r:Option Operand) (H:List au):Out :=
 match r,P.underlying t with
 | none,some (.map _ _)=>some (.map H.length,H++[.map [] 0])
 | _,_=>none
def iW (lo:Nat) (t:TypeId) (H:List au):List I→Out
 | [.map id,k,v]=>match jP P t with
   | some (d',_)=>match isKey P d' k with
     | true=>if lo≤id then match H[id]? with
       | some (.map es clock)=>match fy k es 0 with
         | some (some i)=>some (.junk,H.set id (.map (es.modify i fun e=>(e.1,k,v)) clock))
         | some none=>some (.junk,H.set id (.map (es++[(clock,k,v)]) (clock+1)))
         | none=>none
       | _=>none else none
     | false=>none
   | none=>none
 | _=>none
def ia (t:TypeId) (ok:Bool) (H:List au):List I→Out
 | [.map id,k]=>match jP P t with
   | some (d',iB)=>match isKey P d' k,H[id]? with
     | true,some (.map es _)=>match fy k es 0 with
       | some r =>
         (match r.bind fun i=>es[i]? with | some e=>some e.2.2 | none=>oj P iB).map fun v =>
          (if ok then .tuple [v,.bool r.isSome] else v,H)
       | none=>none
     | _,_=>none
   | none=>none
 | _=>none
def hz (lo:Nat) (ts:Array TypeId) (H:List au):List I→Out
 | [.map id,k]=>match (ts[0]?).bind (jP P) with
   | some (d',_)=>match isKey P d' k with
     | true=>if lo≤id then match H[id]? with
       | some (.map es clock)=>match fy k es 0 with
         | some (some i)=>some (.tuple [],H.set id (.map (es.eraseIdx i) clock))
         | some none=>some (.tuple [],H)
         | none=>none
       | _=>none else none
     | false=>none
   | none=>none
 | _=>none
def kU (t:TypeId) (H:List au):List I→Out
 | [.map id]=>match P.underlying t,H[id]? with
   | some (.map _ _),some (.map _ clock)=>some (.ptr H.length 0,H++[.iter id clock [] clock])
   | _,_=>none
 | _=>none
def kS (H:List au):List I→Out
 | [.ptr r 0]=>match H[r]? with
   | some (.iter m _ seen j7)=>match seen.getLast?,H[m]? with
     | some gd,some (.map es clock)=>if clock=j7 then match es.find? (fun e=>e.1 == gd) with
       | some e=>some (.tuple [e.2.1,e.2.2],H)
       | none=>none else none
     | _,_=>none
   | _=>none
 | _=>none
def iP (t:Option TypeId):Bool:=match t.bind P.underlying with | some (.slice _)=>true | _=>false
def g_ (ts:Array TypeId) (H:List au):List I→Out
 | [x]=>match x with
   | .ay _ n _=>match iP P ts[0]? with | true=>some (.int .i64 n,H) | false=>none
   | .ref _ _ n _ _=>match iP P ts[0]? with | true=>some (.int .i64 n,H) | false=>none
   | .map id=>match (ts[0]?).bind P.underlying,H[id]? with | some (.map _ _),some (.map es _)=>some (.int .i64 es.length,H) | _,_=>none
   | _=>match (ts[0]?).bind P.underlying with | some (.array n _)=>some (.int .i64 n,H) | _=>none
 | _=>none
def jS (ts:Array TypeId) (H:List au):List I→Out
 | [.ay _ n .full]=>match iP P ts[0]? with | true=>some (.int .i64 n,H) | false=>none
 | [.ref _ _ _ (some n) _]=>match iP P ts[0]? with | true=>some (.int .i64 n,H) | false=>none
 | _=>none
def jT (lo:Nat) (ts:Array TypeId) (H:List au):List I→Out
 | [.ref id off len _ sz,x]=>match (ts[0]?).bind P.underlying with
   | some (.slice e)=>match bS P e,lenOf x,rowOf H x with
     | some s,some m,some row=>if s=sz∧row.length=m*sz then
       (g6 lo H id fun l=>if off+len*sz≤l.length then some (setCells off (row.take (min m len*sz)) l) else none).map fun H'=>(.int .i64 (min m len:Nat),H') else none
     | _,_,_=>none
   | _=>none
 | _=>none
def kR (lo:Nat) (ts:Array TypeId) (H:List au):List I→Out
 | [.ref id off len _ sz]=>match (ts[0]?).bind P.underlying with
   | some (.slice e)=>match bS P e,zeroCells P e with
     | some s,some z=>if s=sz∧z.length=s∧0<s then
       (g7 lo H id fun l=>if off+len*sz≤l.length then some (setCells off (eX len z) l) else none).map fun H'=>(.tuple [],H') else none
     | _,_=>none
   | _=>none
 | [.ay [] 0 _]=>match iP P ts[0]? with | true=>some (.tuple [],H) | false=>none
 | _=>none
def iU (ts:Array TypeId) (H:List au):List I→Out
 | [s,x]=>match ts.toList with
   | [t,dm]=>(e4 P H t dm s x).map (·,H)
   | _=>none
 | _=>none
def h' (lo:Nat) (ts:Array TypeId) (H:List au):List I→Out
 | [s,x]=>match ts.toList with
   | [t,dm]=>match s with
     | .ay _ _ _=>match e4 P H t dm s x with
       | some (.ay cells n (.uniq z))=>if n=0 then none else some (.cl H.length (H.length+1) n z,H++[.grow cells (H.length+1) z,.dead])
       | _=>none
     | .cl id gid len z=>if lo≤id then match P.underlying t,H[id]? with
       | some (.slice e),some (.grow l g cU)=>match bS P e,(P.info? e).map (·.bytes),zeroCells P e,appended H x with
         | some sz,some bytes,some gg,some (m,new) =>
           if t=dm∧g=gid∧cU=z∧z=sz∧l.length=len*z∧new.length=m*sz∧0<sz∧0<m∧gg.length=sz∧fp m bytes=true∧fp (len+m) bytes=true then
            some (.cl H.length (H.length+1) (len+m) z,H.set id .dead++[.grow (l++new) (H.length+1) z,.dead])
           else none
         | _,_,_,_=>none
       | _,_=>none else none
     | _=>none
   | _=>none
 | _=>none
def i_ (lo:Nat) (H:List au):List I→List au
 | .cl id _ len z::_=>match H[id]? with
   | some (.grow l g cU)=>match Nat.blt (len*z) l.length && Nat.ble lo id with
     | true=>H.set id (.grow (l.take (len*z)) g cU)
     | false=>H
   | _=>H
 | _=>H
def iV (lo:Nat) (ts:Array TypeId) (H:List au) (vs:List I):Out:=h' P lo ts (i_ lo H vs) vs
def et (lo:Nat) (b:Builtin) (ts:Array TypeId) (H:List au) (vs:List I):Out :=
 match b with
 | .append=>iU P ts H vs
 | .len=>g_ P ts H vs
 | .cap=>jS P ts H vs
 | .copy=>jT P lo ts H vs
 | .clear=>kR P lo ts H vs
 | .delete=>hz P lo ts H vs
 | .min=>(nL vs).map (·,H)
 | .max=>(nK vs).map (·,H)
 | _=>none
def hy (C:b6) (lo mode:Nat) (H:List au):List I→Out
 | f::args=>kf C lo mode f args H
 | []=>none
def a8 (C:b6) (lo:Nat) (o:Oper) (mode:Nat) (vs:List I) (H:List au):Out :=
 match o.op with
 | .move x=>eP P lo mode o.type x H vs
 | .assign x=>eP P lo mode o.type x H vs
 | .load t _=>dO P lo mode t H vs
 | .store t _ _=>hA P lo mode t H vs
 | .box _ _=>gC mode H vs
 | .alloc t=>kQ P mode t H
 | .buildSlice t len parts=>match mode with
   | 0=>(cy P o vs).map (·,H)
   | _=>(iv P t len (fr parts.toList vs)).map fun r=>(.ay r.1 len .full,H)
 | .makeSlice t _ _=>jU P mode t H vs
 | .makeMap t r=>kT P t r H
 | .mapUpdate t _ _ _=>iW P lo t H vs
 | .lookup t _ _ ok=>ia P t ok H vs
 | .range t _=>kU P t H vs
 | .entry _=>kS H vs
 | .call c=>match c.callee with
   | .builtin b=>match b with
     | .append=>match mode with
       | 0=>et P lo b c.argTypes H vs
       | _=>iV P lo c.argTypes H vs
     | _=>et P lo b c.argTypes H vs
   | .value _=>hy C lo mode H vs
   | .invoke _ _=>none
 | _=>(cy P o vs).map (·,H)
def put (T:List I):Option Tmp→I→List I
 | some d,v=>gH T d v
 | none,_=>T
def inPlace (o:Oper) (mode:Nat) (T:List I) (v:I):List I :=
 match mode with
 | 0=>T
 | 4=>T
 | _=>match o.op with
   | .move (.tmp t) | .assign (.tmp t)=>gH T t v.view
   | _=>T
def execOp (C:b6) (lo:Nat) (o:Oper) (an:b5) (s:a5):Option a5 :=
 let r:=rd s.T an.takes (opsOf o)
 let vs:=match dN o with | true=>r.1 | false=>r.1.map I.view
 (a8 P C lo o an.mode vs s.H).map fun x=>⟨put (inPlace o an.mode r.2 x.1) o.dst x.1,x.2⟩
def eu (ops:Array Oper) (o:Oper) (T:List I):Option Bool :=
 match o.guard with
 | none=>some true
 | some (j,want)=>match (ops[j]?).bind (·.dst) with
   | some d=>match c4 T d with
     | .bool b=>some (b == want)
     | .tuple []=>some false
     | _=>none
   | none=>none
def eG (C:b6) (lo:Nat) (ops:Array Oper):List Oper→List b5→a5→Option a5
 | [],_,s=>some s
 | o::rest,as,s =>
   match eu ops o s.T with
   | some true=>(execOp P C lo o (as.headD {}) s).bind (eG C lo ops rest as.tail)
   | some false=>eG C lo ops rest as.tail ⟨put s.T o.dst (.tuple []),s.H⟩
   | none=>none
def h9 (f:a5→Option (cB×a5)):Nat→a5→Option (cB×a5)
 | 0,_=>none
 | n+1,s=>match f s with
   | some (.normal,aF)=>h9 f n aF
   | r=>r
def inLoop (H:List au):Option Nat→Bool
 | none=>true
 | some l=>match H[l]? with
   | some (.loop ..)=>true
   | _=>false
def exec (A:c7) (C:b6) (fn:FuncId) (lo d:Nat) (rl:Option Nat):Code→Nat→a5→Option (cB×a5)
 | .skip,_,s=>some (.normal,s)
 | .region id ops draw,_,s=>match j8 A id draw with
   | some _=>none
   | none=>(eG P C lo ops ops.toList (A.ops.getD id []) (eV A.h8 id s)).map fun aF=>(.normal,aF)
 | .seq a b,aY,s=>match exec A C fn lo d rl a aY s with
   | some (.normal,aF)=>exec A C fn lo d rl b aY aF
   | r=>r
 | .cond c a b,aY,s=>match aA s.T c with
   | .bool true=>exec A C fn lo d rl a aY s
   | .bool false=>exec A C fn lo d rl b aY s
   | _=>none
 | .block id body,_,s=>match exec A C fn lo d rl body id s with
   | some (.exit bx,aF)=>if bx=id then some (.normal,aF) else some (.exit bx,aF)
   | r=>r
 | .loop body,aY,s=>h9 (fun aF=>exec A C fn lo d rl body aY (eV A.h7 aY aF)) d s
 | .exit id,_,s=>some (.exit id,s)
 | .ret,_,s=>some (.ret,s)
 | .scope body,aY,s=>exec A C fn lo d rl body aY s
 | .label _,_,s=>some (.normal,s)
 | .rangeFunc f params assign body,_,s =>
   match inLoop s.H rl,aA s.T f with
   | true,.func k first cap =>
     match C (.fn k) (first++[.yield s.H.length]++cap) (s.H++[.loop .ready none fn (s.T.map I.view) params.toList assign body A]) lo with
     | some (_,H')=>match H'[s.H.length]? with
       | some (.loop st cF _ _ _ _ _ _) =>
         if st=.busy then none else
         match cF with
         | none=>some (.normal,⟨s.T.map I.settle,H'.set s.H.length .dead⟩)
         | some .ret=>some (.ret,⟨s.T.map I.settle,H'.set s.H.length .dead⟩)
         | some (.exit id)=>some (.exit id,⟨s.T.map I.settle,H'.set s.H.length .dead⟩)
         | _=>none
       | _=>none
     | none=>none
   | _,_=>none
 | _,_,_=>none
def fc (H:List au) (T:List I):List ResultVar→Option (List I)
 | []=>some []
 | .tmp t::r=>(fc H T r).map (c4 T t::·)
 | .cell a t::r=>match dR P H t (c4 T a),fc H T r with
   | some v,some vs=>some (v::vs)
   | _,_=>none
def g':List I→I
 | [v]=>v
 | vs=>.tuple (vs.map I.view)
def hf:List Nat→List I→List I→Option (List I)
 | [],[],T=>some T
 | p::bh,v::vs,T=>hf bh vs (gH T p v)
 | _,_,_=>none
def fP (A:FuncId→c7) (tab:b6):Nat→b6
 | 0,_,_,_,_=>none
 | d+1,.fn k,args,H,lo =>
   match tab (.fn k) args H lo with
   | some r=>some r
   | none =>
   match (A k).bad with
   | true=>none
   | false =>
   match P.funcs[k]? with
   | some f=>match f.body with
     | some c =>
       match exec P (A k) (fP A tab d) k lo d none c 0 ⟨args++List.replicate (f.ntmps-args.length) .junk,H⟩ with
       | some (.normal,s) | some (.ret,s)=>(fc P s.H s.T f.results.toList).map fun vs=>(g' vs,s.H)
       | _=>none
     | none=>none
   | none=>none
 | d+1,.yield l,args,H,lo =>
   if l<lo then none else
   match H[l]? with
   | some (.loop .ready _ fn T params assign body an) =>
     match hf params args T with
     | some a7 =>
       match exec P an (fP A tab d) fn lo d (some l) assign 0 ⟨a7,H⟩ with
       | some (.normal,s) =>
         match s.H[l]? with
         | some (.loop .ready cF fn T params assign lv iz) =>
           match exec P an (fP A tab d) fn lo d (some l) body 0 ⟨s.T,s.H.set l (.loop .busy cF fn T params assign lv iz)⟩ with
           | some (e,s2) =>
             match s2.H[l]? with
             | some (.loop .busy _ fn T params assign lv iz) =>
               match e with
               | .normal=>some (.bool true,s2.H.set l (.loop .ready none fn T params assign lv iz))
               | .ret=>some (.bool false,s2.H.set l (.loop .done (some .ret) fn T params assign lv iz))
               | .exit id=>some (.bool false,s2.H.set l (.loop .done (some (.exit id)) fn T params assign lv iz))
             | _=>none
           | none=>none
         | _=>none
       | _=>none
     | none=>none
   | _=>none
end
end
end Go.Proofs.YtfakoboiahbhaaaGreat.Ab


namespace Go.Proofs.YtfakoboiahbhaaaGreat.Ab
open Go
inductive aI where
 | slot (i:Nat)
 | arg (i:Nat)
 | res
 | obj (id:Nat)
 | cell (id j:Nat)
 | mark
 deriving DecidableEq
inductive Rel (J:List Nat) (S:Nat→Nat→Prop) (w:World):I→Value→Prop
 | junk (v:Value):Rel J S w .junk v
 | bool (b:Bool):Rel J S w (.bool b) (.bool b)
 | dn (b:Bool):Rel J S w .dn (.bool b)
 | int (k:IntKind) (n:Int):Rel J S w (.int k n) (.int k n)
 | str (s:ByteArray):Rel J S w (.str s) (.string s)
 | eB:Rel J S w .eB (.pointer none)
 | ptr (id off b:Nat) (h:J[id]?=some b):Rel J S w (.ptr id off) (.pointer (some ⟨b,off,none⟩))
 | bU (cells:List I) (b o:Nat) (f:Nat→Value)
   (h:∀ (j:Nat) (u:I),cells[j]?=some u→S b (o+j)∧w.cell? ⟨b,o+j,none⟩=some (f j)∧u.plain=true∧(f j).oneCell'=true)
   (aj:∀ (j:Nat) (u:I),cells[j]?=some u→Rel J S w u (f j)):Rel J S w (.bU cells) (.pointer (some ⟨b,o,none⟩))
 | b1 (c:il) (a:Option Addr):Rel J S w (.ay [] 0 c) (.slice a 0 0)
 | ay (cells:List I) (len:Nat) (c:il) (b o cap:Nat) (f:Nat→Value)
   (ao:c=.full→cap=len) (hle:len≤cap) (hu:∀ z,c≠.uniq z)
   (h:∀ (j:Nat) (u:I),cells[j]?=some u→S b (o+j)∧w.cell? ⟨b,o+j,none⟩=some (f j)∧u.plain=true∧(f j).oneCell'=true)
   (aj:∀ (j:Nat) (u:I),cells[j]?=some u→Rel J S w u (f j)):Rel J S w (.ay cells len c) (.slice (some ⟨b,o,none⟩) len cap)
 | cK (cells:List I) (len z b o cap:Nat):Rel J S w (.ay cells len (.uniq z)) (.slice (some ⟨b,o,none⟩) len cap)
 | raw (cells:List I) (len z b o cap:Nat):Rel J S w (.raw cells len z) (.slice (some ⟨b,o,none⟩) len cap)
 | ref (id off len:Nat) (c:Option Nat) (sz b cap:Nat) (h:J[id]?=some b) (ao:∀ n,c=some n→cap=n) (hle:len≤cap) :
   Rel J S w (.ref id off len c sz) (.slice (some ⟨b,off,none⟩) len cap)
 | cl (id gid len z b cap:Nat) (h:J[id]?=some b) (aO:J[gid]?=some cap) (hle:len≤cap):Rel J S w (.cl id gid len z) (.slice (some ⟨b,0,none⟩) len cap)
 | func (f:FuncId) (as bs:List I) (vs ws:Array Value) (ad:vs.size=as.length) (af:ws.size=bs.length)
   (bR:∀ u∈as,u.plain=true) (b4:∀ u∈bs,u.plain=true)
   (r1:∀ (j:Nat) (u:I) (v:Value),as[j]?=some u→vs[j]?=some v→Rel J S w u v)
   (r2:∀ (j:Nat) (u:I) (v:Value),bs[j]?=some u→ws[j]?=some v→Rel J S w u v):Rel J S w (.func f as bs) (.func (.func f) vs ws)
 | yield (id b:Nat) (h:J[id]?=some b):Rel J S w (.yield id) (.func (.yield b) #[] #[])
 | map (id b:Nat) (h:J[id]?=some b):Rel J S w (.map id) (.map (some b))
 | agg (as:List I) (vs:Array Value) (h:vs.size=as.length) (p:∀ u∈as,u.plain=true) (one:∀ v∈vs.toList,v.oneCell'=true)
   (r:∀ (j:Nat) (u:I) (v:Value),as[j]?=some u→vs[j]?=some v→Rel J S w u v):Rel J S w (.agg as) (.agg vs)
 | tuple (as:List I) (vs:Array Value) (h:vs.size=as.length) (p:∀ u∈as,u.plain=true)
   (r:∀ (j:Nat) (u:I) (v:Value),as[j]?=some u→vs[j]?=some v→Rel J S w u v):Rel J S w (.tuple as) (.tuple vs)
def aV (U:Nat→Option aI) (J:List Nat) (S:Nat→Nat→Prop) (w:World) (l:aI):I→Value→Prop
 | .ay cells len (.own z),.slice (some a) _ cap=>(len=0∧cap=0∧cells=[]) ∨
   (U a.block=some l∧True∧a.spot=none∧len≤cap∧cap≤maxLen∧0<z∧cells.length=len*z ∧
    (∃ cur e,w.heap[a.block]?=some (.cells cur e (0,0))∧cur.size=a.off+cap*z)∧∀ o,a.off+cells.length≤o→¬ S a.block o)
 | .ay cells len (.uniq z),.slice (some a) _ cap=>(len=0∧cap=0∧cells=[]) ∨
   (U a.block=some l∧a.off=0∧len≤cap∧cap≤maxLen∧0<z∧cells.length=len*z ∧
    (∃ cur e,w.heap[a.block]?=some (.cells cur e (0,0))∧cur.size=cap*z ∧
     ∀ (j:Nat) (u:I) (v:Value),cells[j]?=some u→cur[j]?=some v→u.plain=true∧v.oneCell'=true∧Rel J S w u v)∧∀ o,¬ S a.block o)
 | .raw cells len z,.slice (some a) _ cap =>
   U a.block=some l∧a.off=0∧len≤cap∧cap≤maxLen∧0<z∧cells.length=len*z∧cells.all gG=true ∧
     (∃ cur e,w.heap[a.block]?=some (.cells cur e (0,0))∧cur.size=cap*z ∧
      ∀ (j:Nat) (u:I) (v:Value),cells[j]?=some u→cur[j]?=some v→v.oneCell'=true∧Rel J S w u v)∧∀ o,¬ S a.block o
 | _,_=>True
structure bg (U:Nat→Option aI) (S:Nat→Nat→Prop) (w:World) (az:Nat→Option aI) (S':Nat→Nat→Prop) (w':World):Prop where
 os:w'.os=w.os
 tape:w'.tape=w.tape
 output:w'.output=w.output
 size:w.heap.size≤w'.heap.size
 cD:∀ b,b<w.heap.size→U b=none→w'.heap[b]?=w.heap[b]?
 set:∀ b o,S b o→S' b o∧w'.cell? ⟨b,o,none⟩=w.cell? ⟨b,o,none⟩
 fresh:∀ b o,S' b o→S b o∨U b≠none∨w.heap.size≤b
 own:∀ b,az b≠none→U b≠none∨w.heap.size≤b
theorem bg.refl (U:Nat→Option aI) (S:Nat→Nat→Prop) (w:World):bg U S w U S w :=
 ⟨rfl,rfl,rfl,sc _,fun _ _ _=>rfl,fun _ _ h=>⟨h,rfl⟩,fun _ _ h=>.inl h,fun _ h=>.inl h⟩
theorem bg.trans {U b2 bn:Nat→Option aI} {S a4 bH:Nat→Nat→Prop} {w bC bT:World} (h:bg U S w b2 a4 bC) (k:bg b2 a4 bC bn bH bT) :
  bg U S w bn bH bT where
 os:=k.os.trans h.os
 tape:=k.tape.trans h.tape
 output:=k.output.trans h.output
 size:=sH h.size k.size
 cD b ag aN:=by
  have ad:b2 b=none:=by
   cases hw:b2 b with
   | none=>rfl
   | some l =>
     rcases h.own b (by simp [hw]) with af | af
     ·exact absurd aN af
     ·omega
  rw [k.cD b (Nat.lt_of_lt_of_le ag h.size) ad,h.cD b ag aN]
 set b o ai:=by
  obtain ⟨ad,af⟩:=h.set b o ai;obtain ⟨aJ,aP⟩:=k.set b o ad;exact ⟨aJ,aP.trans af⟩
 fresh b o ai:=by
  rcases k.fresh b o ai with ad | ad | ad
  ·exact h.fresh b o ad
  ·rcases h.own b ad with af | af
   ·exact .inr (.inl af)
   ·exact .inr (.inr af)
  ·exact .inr (.inr (sH h.size ad))
 own b ag:=by
  rcases k.own b ag with ad | ad
  ·exact h.own b ad
  ·exact .inr (sH h.size ad)
def Ext (J bZ:List Nat):Prop:=∀ (i b:Nat),J[i]?=some b→bZ[i]?=some b
theorem Ext.refl (J:List Nat):Ext J J:=fun _ _ h=>h
theorem Ext.trans {a b c:List Nat} (h:Ext a b) (k:Ext b c):Ext a c:=fun i x al=>k i x (h i x al)
theorem Ext.append (a b:List Nat):Ext a (a++b):=fun i x al=>by
 rw [sB (sa.1 al).1];exact al
theorem Rel.mono {J bZ:List Nat} {S S':Nat→Nat→Prop} {w w':World} (bK:Ext J bZ)
  (cm:∀ b o,S b o→S' b o∧w'.cell? ⟨b,o,none⟩=w.cell? ⟨b,o,none⟩) {u:I} {v:Value} (h:Rel J S w u v):Rel bZ S' w' u v:=by
 induction h with
 | junk v=>exact .junk v
 | bool b=>exact .bool b
 | dn b=>exact .dn b
 | int k n=>exact .int k n
 | str s=>exact .str s
 | eB=>exact .eB
 | ptr id off b h=>exact .ptr id off b (bK _ _ h)
 | bU cells b o f h aj a_ =>
   exact .bU cells b o f (fun j u aw=>let ⟨ad,af,aG⟩:=h j u aw;⟨(cm _ _ ad).1,(cm _ _ ad).2.trans af,aG⟩) a_
 | b1 c a=>exact .b1 c a
 | ay cells len c b o cap f ao hle hu h aj a_ =>
   exact .ay cells len c b o cap f ao hle hu (fun j u aw=>let ⟨ad,af,aG⟩:=h j u aw;⟨(cm _ _ ad).1,(cm _ _ ad).2.trans af,aG⟩) a_
 | cK cells len z b o cap=>exact .cK cells len z b o cap
 | raw cells len z b o cap=>exact .raw cells len z b o cap
 | ref id off len c sz b cap h ao hle=>exact .ref id off len c sz b cap (bK _ _ h) ao hle
 | cl id gid len z b cap h aO hle=>exact .cl id gid len z b cap (bK _ _ h) (bK _ _ aO) hle
 | func f as bs vs ws ad af bR b4 r1 r2 i1 i2=>exact .func f as bs vs ws ad af bR b4 i1 i2
 | yield id b h=>exact .yield id b (bK _ _ h)
 | map id b h=>exact .map id b (bK _ _ h)
 | agg as vs h p one r a_=>exact .agg as vs h p one a_
 | tuple as vs h p r a_=>exact .tuple as vs h p a_
theorem aV.mono {U az:Nat→Option aI} {J bZ:List Nat} {S S':Nat→Nat→Prop} {w w':World} {l l':aI} (bK:Ext J bZ)
  (cm:∀ b o,S b o→S' b o∧w'.cell? ⟨b,o,none⟩=w.cell? ⟨b,o,none⟩)
  (fX:∀ b,U b=some l→az b=some l'∧w'.heap[b]?=w.heap[b]?∧∀ o,S' b o→S b o) {u:I} {v:Value} (h:aV U J S w l u v) :
  aV az bZ S' w' l' u v:=by
 unfold aV at h ⊢;split at h
 ·rcases h with h | ⟨ad,af,aG,a6,bL,bV,cN,⟨cur,e,cR,cV⟩,dy⟩
  ·exact .inl h
  ·obtain ⟨aJ,aP,cj⟩:=fX _ ad;exact .inr ⟨aJ,af,aG,a6,bL,bV,cN,⟨cur,e,aP.trans cR,cV⟩,fun o aq ai=>dy o aq (cj o ai)⟩
 ·rcases h with h | ⟨ad,aS,a6,bL,bV,cN,⟨cur,e,cR,cV,dy⟩,fh⟩
  ·exact .inl h
  ·obtain ⟨aJ,aP,cj⟩:=fX _ ad;exact .inr ⟨aJ,aS,a6,bL,bV,cN,⟨cur,e,aP.trans cR,cV,fun j u v hu ae=>⟨(dy j u v hu ae).1,(dy j u v hu ae).2.1,((dy j u v hu ae).2.2).mono bK cm⟩⟩,fun o ai=>fh o (cj o ai)⟩
 ·obtain ⟨ad,aS,a6,bL,bV,cN,ai,⟨cur,e,cR,cV,dy⟩,fh⟩:=h;obtain ⟨aJ,aP,cj⟩:=fX _ ad;exact ⟨aJ,aS,a6,bL,bV,cN,ai,⟨cur,e,aP.trans cR,cV,fun j u v hu ae=>⟨(dy j u v hu ae).1,((dy j u v hu ae).2).mono bK cm⟩⟩,fun o ai=>fh o (cj o ai)⟩
 ·trivial
theorem aV.b3 {U:Nat→Option aI} {J:List Nat} {S:Nat→Nat→Prop} {w:World} {l:aI} {u:I} {v:Value} (h:u.plain=true):aV U J S w l u v:=by
 unfold aV;split <;> first | trivial | simp [I.plain] at h
def gl (U:Nat→Option aI) (J:List Nat) (S:Nat→Nat→Prop) (w:World) (id:Nat):au→Prop
 | .dead=>True
 | .cells l=>∃ b cur e,J[id]?=some b∧U b=some (.obj id)∧w.heap[b]?=some (.cells cur e (0,0))∧l.length≤cur.size∧(∀ o,¬ S b o) ∧
   ∀ (j:Nat) (u:I) (v:Value),l[j]?=some u→cur[j]?=some v→u.cT=true∧v.oneCell'=true∧Rel J S w u v∧aV U J S w (.cell id j) u v
 | .loop st cF fn T params assign body jo=>codeOk jo assign=true∧codeOk jo body=true∧∃ b L,J[id]?=some b∧U b=some (.obj id)∧w.heap[b]?=some (.loop L)∧L.state=st∧L.pending=cF∧True ∧
   L.tmps.size=T.length∧(∀ (i:Nat) (u:I) (v:Value),T[i]?=some u→L.tmps[i]?=some v→u.plain=true∧Rel J S w u v)∧L.params.toList=params∧L.assign=assign∧L.body=body
 | .map es clock=>∃ b bw,J[id]?=some b∧U b=some (.obj id)∧w.heap[b]?=some (.map bw clock)∧bw.size=es.length∧(∀ o,¬ S b o) ∧
   ∀ (j i:Nat) (k v:I) (x:MapEntry),es[j]?=some (i,k,v)→bw[j]?=some x→x.born=i∧k.plain=true∧Rel J S w k x.key∧v.plain=true∧Rel J S w v x.val
 | .grow l gid z=>∃ b cur e,J[id]?=some b∧U b=some (.obj id)∧w.heap[b]?=some (.cells cur e (0,0))∧l.length≤cur.size∧(∀ o,¬ S b o) ∧
   (∀ (j:Nat) (u:I) (v:Value),l[j]?=some u→cur[j]?=some v→u.cT=true∧v.oneCell'=true∧Rel J S w u v∧aV U J S w (.cell id j) u v) ∧
   ∃ cap,J[gid]?=some cap∧cap≤maxLen∧0<z∧cur.size=cap*z
 | .iter m since seen j7=>∃ b ec,J[id]?=some b∧U b=some (.obj id)∧J[m]?=some ec∧w.heap[b]?=some (.mapIter (some ec) since seen.toArray j7)∧(∀ o,¬ S b o)
structure aL (B:Nat) (U:Nat→Option aI) (J:List Nat) (S:Nat→Nat→Prop) (w:World) (H:List au):Prop where
 cE:J.length=H.length
 obj:∀ (id:Nat) (o:au),H[id]?=some o→gl U J S w id o
 cf:∀ b o,S b o→∃ v,w.cell? ⟨b,o,none⟩=some v
 base:∀ b l,U b=some l→B≤b∧b<w.heap.size
 cX:B≤w.heap.size
structure a9 (bz:Nat→aI) (U:Nat→Option aI) (J:List Nat) (S:Nat→Nat→Prop) (w:World) (T:List I) (bd:List Value):Prop where
 len:T.length=bd.length
 rel:∀ (i:Nat) (u:I) (v:Value),T[i]?=some u→bd[i]?=some v→Rel J S w u v
 own:∀ (i:Nat) (u:I) (v:Value),T[i]?=some u→bd[i]?=some v→aV U J S w (bz i) u v
theorem AI {J bZ:List Nat} {S S':Nat→Nat→Prop} {w w':World} {u:I} {v:Value} (h:gG u=true) (aj:Rel J S w u v):Rel bZ S' w' u v:=by
 cases aj <;> simp [gG] at h <;> constructor
theorem ES {u:I} (h:gG u=true):u.plain=true:=by
 cases u <;> simp [gG] at h <;> rfl
theorem Ee {U:Nat→Option aI} {J:List Nat} {S:Nat→Nat→Prop} {w:World} {l:aI} {c:List I} {n z:Nat} {v:Value} (aj:Rel J S w (.raw c n z) v) (aq:aV U J S w l (.raw c n z) v) :
  Rel J S w (.ay c n (.uniq z)) v∧aV U J S w l (.ay c n (.uniq z)) v:=by
 cases aj with
 | raw _ _ _ b o cap =>
   obtain ⟨ad,aS,a6,bL,bV,cN,ai,⟨cur,e,cR,cV,dy⟩,fh⟩:=aq;rw [sy] at ai;exact ⟨.cK _ _ _ _ _ _,.inr ⟨ad,aS,a6,bL,bV,cN,⟨cur,e,cR,cV,fun j u v hu ae=>⟨ES (ai u (sI hu)),dy j u v hu ae⟩⟩,fh⟩⟩
theorem FJ {U:Nat→Option aI} {J:List Nat} {S:Nat→Nat→Prop} {w:World} {l:aI} {c:List I} {n z:Nat} {v:Value} (aN:n≠0) (ai:c.all gG=true) (aj:Rel J S w (.ay c n (.uniq z)) v) (aq:aV U J S w l (.ay c n (.uniq z)) v) :
  Rel J S w (.raw c n z) v∧aV U J S w l (.raw c n z) v:=by
 cases aj with
 | b1 _ a=>exact absurd rfl aN
 | ay _ _ _ b o cap f ao hle hu h aj=>exact absurd rfl (hu z)
 | cK _ _ _ b o cap =>
   rcases aq with ⟨h,_,_⟩ | ⟨ad,aS,a6,bL,bV,cN,⟨cur,e,cR,cV,dy⟩,fh⟩
   ·exact absurd h aN
   ·exact ⟨.raw _ _ _ _ _ _,ad,aS,a6,bL,bV,cN,ai,⟨cur,e,cR,cV,fun j u v hu ae=>(dy j u v hu ae).2⟩,fh⟩
theorem mq {w:World} {b o:Nat} {v:Value} (h:w.cell? ⟨b,o,none⟩=some v):b<w.heap.size:=World.block_lt_of_cell? w ⟨b,o,none⟩ h
end Go.Proofs.YtfakoboiahbhaaaGreat.Ab


namespace Go.Proofs.YtfakoboiahbhaaaGreat.Ab
open Go
structure ev (U:Nat→Option aI) (S:Nat→Nat→Prop) (az:Nat→Option aI) (S':Nat→Nat→Prop):Prop where
 set:∀ b o,S b o→S' b o
 fresh:∀ b o,S' b o→S b o∨∃ i,U b=some (.slot i)
 cD:∀ b l,U b=some l→(∀ i,l≠.slot i)→az b=some l
 none:∀ b,U b=none→az b=none
 slot:∀ b i,az b=some (.slot i)→U b=some (.slot i)
theorem ev.refl (U:Nat→Option aI) (S:Nat→Nat→Prop):ev U S U S :=
 ⟨fun _ _ h=>h,fun _ _ h=>.inl h,fun _ _ h _=>h,fun _ h=>h,fun _ _ h=>h⟩
theorem ev.trans {U b2 bn:Nat→Option aI} {S a4 bH:Nat→Nat→Prop} (h:ev U S b2 a4) (k:ev b2 a4 bn bH):ev U S bn bH where
 set b o ai:=k.set b o (h.set b o ai)
 fresh b o ai:=by
  rcases k.fresh b o ai with ad | ⟨i,ad⟩
  ·exact h.fresh b o ad
  ·exact .inr ⟨i,h.slot b i ad⟩
 cD b l ak aN:=k.cD b l (h.cD b l ak aN) aN
 none b ag:=k.none b (h.none b ag)
 slot b i ag:=h.slot b i (k.slot b i ag)
theorem ev.aA {U az:Nat→Option aI} {S S':Nat→Nat→Prop} (h:ev U S az S') (w:World):bg U S w az S' w where
 os:=rfl
 tape:=rfl
 output:=rfl
 size:=sc _
 cD _ _ _:=rfl
 set b o ai:=⟨h.set b o ai,rfl⟩
 fresh b o ai:=by
  rcases h.fresh b o ai with ad | ⟨i,ad⟩
  ·exact .inl ad
  ·exact .inr (.inl (by simp [ad]))
 own b ag:=by
  refine .inl fun aS=>ag (h.none b aS)
theorem aV.gs {U az:Nat→Option aI} {S S':Nat→Nat→Prop} (g:ev U S az S') {J:List Nat} {w:World} {l:aI} (ak:∀ i,l≠.slot i) {u:I} {v:Value}
  (h:aV U J S w l u v):aV az J S' w l u v:=by
 refine h.mono (Ext.refl J) (fun b o ai=>⟨g.set b o ai,rfl⟩) fun b ag=>⟨g.cD b l ag ak,rfl,fun o ai=>?_⟩;rcases g.fresh b o ai with ad | ⟨i,ad⟩
 ·exact ad
 ·rw [ag] at ad;cases ad;exact absurd rfl (ak i)
theorem Rel.gs {U az:Nat→Option aI} {S S':Nat→Nat→Prop} (g:ev U S az S') {J:List Nat} {w:World} {u:I} {v:Value} (h:Rel J S w u v):Rel J S' w u v :=
 h.mono (Ext.refl J) fun b o ai=>⟨g.set b o ai,rfl⟩
theorem gl.gs {U az:Nat→Option aI} {S S':Nat→Nat→Prop} (g:ev U S az S') {J:List Nat} {w:World} {id:Nat} {o:au} (h:gl U J S w id o):gl az J S' w id o:=by
 have cm:∀ b bx,U b=some (.obj bx)→∀ o,S' b o→S b o:=fun b bx ag o ai=>by
  rcases g.fresh b o ai with ad | ⟨i,ad⟩
  ·exact ad
  ·rw [ag] at ad;cases ad
 cases o with
 | dead=>trivial
 | cells l =>
   obtain ⟨b,cur,e,ad,af,aG,a6,bL,bV⟩:=h
   exact ⟨b,cur,e,ad,g.cD b _ af (by simp),aG,a6,fun o ai=>bL o (cm b id af o ai),fun j u v hu ae =>
    let ⟨aB,jl,aH,aR⟩:=bV j u v hu ae;⟨aB,jl,aH.gs g,aR.gs g (by simp)⟩⟩
 | grow l gid z =>
   obtain ⟨b,cur,e,ad,af,aG,a6,bL,bV,cN⟩:=h
   exact ⟨b,cur,e,ad,g.cD b _ af (by simp),aG,a6,fun o ai=>bL o (cm b id af o ai),fun j u v hu ae =>
    let ⟨aB,jl,aH,aR⟩:=bV j u v hu ae;⟨aB,jl,aH.gs g,aR.gs g (by simp)⟩,cN⟩
 | loop st cF fn T params assign body jo =>
   obtain ⟨al,a0,b,L,ad,af,aG,a6,bL,bV,cN,cR,cV⟩:=h;exact ⟨al,a0,b,L,ad,g.cD b _ af (by simp),aG,a6,bL,bV,cN,fun i u v hu ae=>⟨(cR i u v hu ae).1,(cR i u v hu ae).2.gs g⟩,cV⟩
 | map es clock =>
   obtain ⟨b,bw,ad,af,aG,a6,bL,bV⟩:=h
   exact ⟨b,bw,ad,g.cD b _ af (by simp),aG,a6,fun o ai=>bL o (cm b id af o ai),fun j i k v x hu ae =>
    let ⟨aB,aH,aR,bj,bb⟩:=bV j i k v x hu ae;⟨aB,aH,aR.gs g,bj,bb.gs g⟩⟩
 | iter m s e t =>
   obtain ⟨b,ec,ad,af,aG,a6,bL⟩:=h;exact ⟨b,ec,ad,g.cD b _ af (by simp),aG,a6,fun o ai=>bL o (cm b id af o ai)⟩
theorem aL.gs {B:Nat} {U az:Nat→Option aI} {S S':Nat→Nat→Prop} (g:ev U S az S') {J:List Nat} {w:World} {H:List au} (h:aL B U J S w H)
  (hw:∀ b o,S' b o→∃ v,w.cell? ⟨b,o,none⟩=some v):aL B az J S' w H where
 cE:=h.cE
 obj id o aq:=(h.obj id o aq).gs g
 cf:=hw
 base b l ak:=by
  cases ag:U b with
  | none=>rw [g.none b ag] at ak;cases ak
  | some l'=>exact h.base b l' ag
 cX:=h.cX
theorem lq (J:List Nat) (S:Nat→Nat→Prop) (w:World) (v:Value):Rel J S w (hl v) v:=by
 unfold hl;split
 ·exact .bool _
 ·exact .int _ _
 ·exact .eB
 ·exact .str _
 ·exact .b1 _ _
 ·exact .junk _
theorem mY (v:Value):(hl v).plain=true:=by
 unfold hl;split <;> rfl
theorem I.df (u:I):u.view.plain=true:=by
 unfold I.view;split <;> first | rfl | skip
 rename_i ad af aG a6;unfold I.plain;split
 ·exact absurd rfl (ad _ _ _)
 ·exact absurd rfl (af _ _ _)
 ·exact absurd rfl (aG _ _ _)
 ·exact absurd rfl (a6 _ _ _ _)
 ·rfl
theorem I.fZ {u:I} (h:u.plain=true):u.cT=true:=by
 unfold I.plain at h;unfold I.cT;split at h <;> simp_all
theorem I.ka {u:I} (h:u.plain=true):u.view=u:=by
 unfold I.view;split <;> simp_all [I.plain]
theorem Rel.view {J:List Nat} {S:Nat→Nat→Prop} {w:World} {u:I} {v:Value} (h:Rel J S w u v) (aN:u.cT=true):Rel J S w u.view v:=by
 cases h with
 | b1 c a=>cases c <;> simp [I.view] <;> exact .b1 _ _
 | ay cells len c b o cap f ao hle hu h aj =>
   cases c with
   | shared=>exact .ay cells len .shared b o cap f ao hle hu h aj
   | full=>exact .ay cells len .full b o cap f ao hle hu h aj
   | own z=>exact .ay cells len .shared b o cap f (by simp) hle (by simp) h aj
   | uniq z=>exact absurd rfl (hu z)
 | cK=>simp [I.cT] at aN
 | raw=>exact .junk _
 | cl id gid len z b cap h aO hle=>exact .ref id 0 len none z b cap h (by simp) hle
 | junk v=>exact .junk v
 | bool b=>exact .bool b
 | dn b=>exact .dn b
 | int k n=>exact .int k n
 | str s=>exact .str s
 | eB=>exact .eB
 | ptr id off b h=>exact .ptr id off b h
 | bU cells b o f h aj=>exact .bU cells b o f h aj
 | ref id off len c sz b cap h ao hle=>exact .ref id off len c sz b cap h ao hle
 | func f as bs vs ws ad af bR b4 r1 r2=>exact .func f as bs vs ws ad af bR b4 r1 r2
 | yield id b h=>exact .yield id b h
 | map id b h=>exact .map id b h
 | agg as vs h p one r=>exact .agg as vs h p one r
 | tuple as vs h p r=>exact .tuple as vs h p r
section
variable {B:Nat} {J:List Nat} {w:World} {H:List au}
theorem a9.gs {bz:Nat→aI} (ak:∀ i k,bz i≠.slot k) {U az:Nat→Option aI} {S S':Nat→Nat→Prop} (g:ev U S az S') {T:List I} {bd:List Value} (h:a9 bz U J S w T bd) :
  a9 bz az J S' w T bd :=
 ⟨h.len,fun i u v hu ae=>(h.rel i u v hu ae).gs g,fun i u v hu ae=>(h.own i u v hu ae).gs g (ak i)⟩
theorem FE {U:Nat→Option aI} {S:Nat→Nat→Prop} {T:List I} {bd:List Value} (l:aI) (ak:∀ i,l≠.slot i)
  (bX:a9 .slot U J S w T bd) (ah:aL B U J S w H) (t:Nat) :
  ∃ az,ev U S az S∧a9 .slot az J S w (T.set t .junk) bd∧aL B az J S w H ∧
    Rel J S w (T.getD t .junk) (bd.getD t undef)∧aV az J S w l (T.getD t .junk) (bd.getD t undef):=by
 classical
 refine ⟨fun b=>if U b=some (.slot t) then some l else U b,?_,?_,?_,?_,?_⟩
 ·refine ⟨fun _ _ h=>h,fun _ _ h=>.inl h,fun b l' h aN=>?_,fun b h=>?_,fun b i h=>?_⟩
  ·have:U b≠some (.slot t):=by rw [h];intro e;cases e;exact aN t rfl
   simp only [this,if_false];exact h
  ·simp [h]
  ·split at h
   ·cases h;exact absurd rfl (ak i)
   ·exact h
 ·refine ⟨by simpa using bX.len,fun i u v hu ae=>?_,fun i u v hu ae=>?_⟩
  ·rw [vg] at hu;split at hu
   ·split at hu
    ·cases hu;exact .junk _
    ·cases hu
   ·exact bX.rel i u v hu ae
  ·rw [vg] at hu;split at hu
   ·split at hu
    ·cases hu;exact aV.b3 rfl
    ·cases hu
   ·rename_i bM;refine (bX.own i u v hu ae).mono (Ext.refl J) (fun b o ai=>⟨ai,rfl⟩) fun b ag=>⟨?_,rfl,fun o ai=>ai⟩
    have:U b≠some (.slot t):=by rw [ag];intro e;cases e;exact bM rfl
    simp only [this,if_false];exact ag
 ·refine ah.gs ⟨fun _ _ h=>h,fun _ _ h=>.inl h,fun b l' h aN=>?_,fun b h=>?_,fun b i h=>?_⟩ ah.cf
  ·have:U b≠some (.slot t):=by rw [h];intro e;cases e;exact aN t rfl
   simp only [this,if_false];exact h
  ·simp [h]
  ·split at h
   ·cases h;exact absurd rfl (ak i)
   ·exact h
 ·cases hu:T[t]? with
  | none=>rw [sE,hu];exact .junk _
  | some u =>
    have aU:=(sa.1 hu).1;have ae:bd[t]?=some (bd[t]'(bX.len ▸ aU)):=sk _;rw [sE,hu,sE,ae];exact bX.rel t _ _ hu ae
 ·cases hu:T[t]? with
  | none=>rw [sE,hu];exact aV.b3 rfl
  | some u =>
    have aU:=(sa.1 hu).1;have ae:bd[t]?=some (bd[t]'(bX.len ▸ aU)):=sk _;rw [sE,hu,sE,ae];refine (bX.own t _ _ hu ae).mono (Ext.refl J) (fun b o ai=>⟨ai,rfl⟩) fun b ag=>⟨?_,rfl,fun o ai=>ai⟩;simp [ag]
theorem j5 {U:Nat→Option aI} {S:Nat→Nat→Prop} {l:aI} {cells:List I} {len z:Nat} {v:Value} (ah:aL B U J S w H)
  (aj:Rel J S w (.ay cells len (.uniq z)) v) (aq:aV U J S w l (.ay cells len (.uniq z)) v) :
  ∃ S':Nat→Nat→Prop,(∀ b o,S b o→S' b o)∧(∀ b o,S' b o→S b o∨U b=some l)∧(∀ b o,S' b o→∃ v,w.cell? ⟨b,o,none⟩=some v) ∧
    Rel J S' w (.ay cells len .shared) v∧Rel J S' w (.ay cells len (.own z)) v∧aV U J S' w l (.ay cells len (.own z)) v:=by
 cases aj with
 | b1 c a=>exact ⟨S,fun _ _ h=>h,fun _ _ h=>.inl h,ah.cf,.b1 _ _,.b1 _ _,by cases a <;> first | trivial | exact .inl ⟨rfl,rfl,rfl⟩⟩
 | ay cells len c b o cap f ao hle b_ h yS=>exact absurd rfl (b_ z)
 | cK cells len z b o cap =>
   rcases aq with ⟨rfl,rfl,rfl⟩ | ⟨ad,aS,af,aG,a6,bL,⟨cur,e,bV,cN,cR⟩,cV⟩
   ·refine ⟨S,fun _ _ h=>h,fun _ _ h=>.inl h,ah.cf,?_,?_,.inl ⟨rfl,rfl,rfl⟩⟩
    ·exact .ay [] 0 .shared b o 0 (fun _=>undef) (by simp) (sc _) (by simp) (by simp) (by simp)
    ·exact .ay [] 0 (.own z) b o 0 (fun _=>undef) (by simp) (sc _) (by simp) (by simp) (by simp)
   ·simp only at aS;subst aS;(have jA:cells.length≤cur.size:=by rw [cN,bL];exact tp _ af);have bu:∀ j,w.cell? ⟨b,j,none⟩=cur[j]?:=fun j=>by
     unfold World.cell?;simp only at bV;rw [bV];simp
    have aO:∀ ar o,S ar o→(S ar o∨(ar=b∧o<cells.length)):=fun _ _ h=>.inl h;have CK:∀ {u:I} {v:Value},Rel J S w u v→Rel J (fun ar o=>S ar o∨(ar=b∧o<cells.length)) w u v:=fun h=>h.mono (Ext.refl J) fun b o ai=>⟨aO b o ai,rfl⟩;have yb:∀ (j:Nat) (u:I),cells[j]?=some u→(S b (0+j)∨(b=b∧0+j<cells.length))∧w.cell? ⟨b,0+j,none⟩=some (cur.getD j undef)∧u.plain=true∧(cur.getD j undef).oneCell'=true:=by
     intro j u aw;have lV:=(sa.1 aw).1;have c5:cur[j]?=some (cur[j]'(by omega)):=sC _;refine ⟨.inr ⟨rfl,by omega⟩,?_,(cR j u _ aw c5).1,?_⟩
     ·rw [sP,bu,c5];simp [Array.getD,show j<cur.size by omega]
     ·have:=(cR j u _ aw c5).2.1;simpa [Array.getD,show j<cur.size by omega] using this
    have z2:∀ (j:Nat) (u:I),cells[j]?=some u→Rel J (fun ar o=>S ar o∨(ar=b∧o<cells.length)) w u (cur.getD j undef):=by
     intro j u aw;have lV:=(sa.1 aw).1;have c5:cur[j]?=some (cur[j]'(by omega)):=sC _;have:=CK (cR j u _ aw c5).2.2;simpa [Array.getD,show j<cur.size by omega] using this
    refine ⟨fun ar o=>S ar o∨(ar=b∧o<cells.length),aO,?_,?_,?_,?_,?_⟩
    ·rintro ar o (h | ⟨rfl,h⟩)
     ·exact .inl h
     ·exact .inr ad
    ·rintro ar o (h | ⟨rfl,h⟩)
     ·exact ah.cf ar o h
     ·exact ⟨cur[o]'(by omega),by rw [bu];exact sC _⟩
    ·exact .ay cells len .shared b 0 cap (fun j=>cur.getD j undef) (by simp) af (by simp) yb z2
    ·exact .ay cells len (.own z) b 0 cap (fun j=>cur.getD j undef) (by simp) af (by simp) yb z2
    ·refine .inr ⟨ad,trivial,rfl,af,aG,a6,bL,⟨cur,e,bV,by simpa using cN⟩,fun o aq ai=>?_⟩;simp only [sP] at aq;rcases ai with ai | ⟨_,ai⟩
     ·exact cV o ai
     ·omega
theorem EX {U:Nat→Option aI} {S:Nat→Nat→Prop} {T:List I} {bd:List Value}
  (bX:a9 .slot U J S w T bd) (ah:aL B U J S w H) (t:Nat) (cells:List I) (len z:Nat) (hu:T[t]?=some (.ay cells len (.uniq z))) :
  ∃ S',ev U S U S'∧a9 .slot U J S' w (T.set t (.ay cells len (.own z))) bd∧aL B U J S' w H ∧
    Rel J S' w (.ay cells len .shared) (bd.getD t undef):=by
 have aU:=(sa.1 hu).1;have ae:bd[t]?=some (bd[t]'(bX.len ▸ aU)):=sk _;have aj:=bX.rel t _ _ hu ae;have aq:=bX.own t _ _ hu ae;rw [sE,ae];simp only [uC];generalize bd[t]'(bX.len ▸ aU)=v at ae aj aq;obtain ⟨S',aJ,aP,hw,r1,r2,r3⟩:=j5 ah aj aq;have aO:ev U S U S':=⟨aJ,fun b o h=>(aP b o h).imp id fun h=>⟨t,h⟩,fun _ _ h _=>h,fun _ h=>h,fun _ _ h=>h⟩;have C_:∀ b i,i≠t→U b=some (.slot i)→∀ o,S' b o→S b o:=fun b i hi ag o ai=>by
  rcases aP b o ai with h | h
  ·exact h
  ·rw [ag] at h;cases h;exact absurd rfl hi
 refine ⟨S',aO,⟨by simpa using bX.len,fun i bG br b_ bc=>?_,fun i bG br b_ bc=>?_⟩,ah.gs aO hw,r1⟩
 ·rw [vg] at b_;split at b_
  ·rename_i heq;subst heq;cases b_;rw [ae] at bc;cases bc;exact r2
  ·exact (bX.rel i _ _ b_ bc).gs aO
 ·rw [vg] at b_;split at b_
  ·rename_i heq;subst heq;cases b_;rw [ae] at bc;cases bc;exact r3
  ·rename_i bM;exact (bX.own i _ _ b_ bc).mono (Ext.refl J) (fun b o ai=>⟨aO.set b o ai,rfl⟩) fun b ag=>⟨ag,rfl,fun o ai=>C_ b i (fun e=>bM e.symm) ag o ai⟩
theorem a9.cons {bz:Nat→aI} {U:Nat→Option aI} {S:Nat→Nat→Prop} {u:I} {v:Value} {T:List I} {bd:List Value} (ad:Rel J S w u v) (af:aV U J S w (bz 0) u v)
  (h:a9 (fun i=>bz (i+1)) U J S w T bd):a9 bz U J S w (u::T) (v::bd):=by
 refine ⟨by simp [h.len],fun i bG br hu ae=>?_,fun i bG br hu ae=>?_⟩
 ·cases i with
  | zero=>simp at hu ae;subst hu ae;exact ad
  | succ i=>exact h.rel i bG br (by simpa using hu) (by simpa using ae)
 ·cases i with
  | zero=>simp at hu ae;subst hu ae;exact af
  | succ i=>exact h.own i bG br (by simpa using hu) (by simpa using ae)
theorem a9.nil {bz:Nat→aI} {U:Nat→Option aI} {S:Nat→Nat→Prop}:a9 bz U J S w [] []:=⟨rfl,by simp,by simp⟩
theorem Eg (a:Act):∀ (ops:List Operand) (ts:List Bool) (T:List I) (k:Nat) (U:Nat→Option aI) (S:Nat→Nat→Prop),
  a9 .slot U J S w T a.tmps.toList→aL B U J S w H →
  ∃ az S',ev U S az S'∧a9 .slot az J S' w (rd T ts ops).2 a.tmps.toList∧aL B az J S' w H∧a9 (fun i=>.arg (k+i)) az J S' w (rd T ts ops).1 (ops.map a.eval):=by
 intro ops
 induction ops with
 | nil=>intro ts T k U S bX ah;exact ⟨U,S,ev.refl _ _,by simpa [rd] using bX,ah,by simpa [rd] using a9.nil⟩
 | cons x rest a_ =>
   intro ts T k U S bX ah;have m7:∀ u:I,Rel J S w u (a.eval x)→u.plain=true→(rd T ts (x::rest))=(u::(rd T ts.tail rest).1,(rd T ts.tail rest).2) →
     ∃ az S',ev U S az S'∧a9 .slot az J S' w (rd T ts (x::rest)).2 a.tmps.toList∧aL B az J S' w H ∧
       a9 (fun i=>.arg (k+i)) az J S' w (rd T ts (x::rest)).1 ((x::rest).map a.eval):=by
    intro u hu aC he;obtain ⟨az,S',g,lM,cc,ae⟩:=a_ ts.tail T (k+1) U S bX ah;rw [he];refine ⟨az,S',g,lM,cc,?_⟩;refine a9.cons (hu.gs g) (aV.b3 aC) ?_;simpa [tD,tb 1] using ae
   cases x with
   | const v =>
     exact m7 (hl v) (lq J S w v) (mY v) rfl
   | func f=>exact m7 (.func f [] []) (.func f [] [] #[] #[] rfl rfl (by simp) (by simp) (by simp) (by simp)) rfl rfl
   | global g=>exact m7 .junk (.junk _) rfl rfl
   | tmp t =>
     (have jC:a.eval (.tmp t)=a.tmps.toList.getD t undef:=by simp [Act.eval,ss]);cases ax:ts.headD false with
     | true =>
       obtain ⟨b2,cb,kn,bW,dp,jH⟩:=FE (.arg k) (by simp) bX ah t;obtain ⟨az,S',g,lM,cc,ae⟩:=a_ ts.tail (T.set t .junk) (k+1) b2 S kn bW;have he:rd T ts (.tmp t::rest)=(T.getD t .junk::(rd (T.set t .junk) ts.tail rest).1,(rd (T.set t .junk) ts.tail rest).2):=by
        simp only [rd,ax,gI,fS]
       rw [he];refine ⟨az,S',cb.trans g,lM,cc,?_⟩;refine a9.cons ?_ ?_ ?_
       ·rw [jC];exact dp.gs g
       ·rw [jC];exact jH.gs g (by simp)
       ·simpa [tD,tb 1] using ae
     | false =>
       have he:rd T ts (.tmp t::rest)=((T.getD t .junk).view::(rd (fM T t (T.getD t .junk)) ts.tail rest).1,(rd (fM T t (T.getD t .junk)) ts.tail rest).2):=by
        simp only [rd,ax,fS]
       by_cases a3:∃ cells len z,T[t]?=some (.ay cells len (.uniq z))
       ·obtain ⟨cells,len,z,a3⟩:=a3;obtain ⟨a4,cb,kn,bW,dp⟩:=EX bX ah t cells len z a3;obtain ⟨az,S',g,lM,cc,ae⟩:=a_ ts.tail (T.set t (.ay cells len (.own z))) (k+1) U a4 kn bW;(have aO:T.getD t .junk=.ay cells len (.uniq z):=by rw [sE,a3];rfl);rw [he,aO];simp only [fM,gI,I.view];refine ⟨az,S',cb.trans g,lM,cc,?_⟩;refine a9.cons ?_ (aV.b3 rfl) ?_
        ·rw [jC];exact dp.gs g
        ·simpa [tD,tb 1] using ae
       ·have py:(T.getD t .junk).cT=true:=by
         rw [sE];cases hu:T[t]? with
         | none=>rfl
         | some u =>
           simp only [uC];unfold I.cT;split
           ·exact absurd ⟨_,_,_,hu⟩ a3
           ·rfl
        have eg:fM T t (T.getD t .junk)=T:=by
         unfold fM;split
         ·rename_i h;rw [h] at py;simp [I.cT] at py
         ·rfl
        have aj:Rel J S w (T.getD t .junk) (a.eval (.tmp t)):=by
         rw [jC];cases hu:T[t]? with
         | none=>rw [sE,hu];exact .junk _
         | some u =>
           have aU:=(sa.1 hu).1;have ae:a.tmps.toList[t]?=some (a.tmps.toList[t]'(bX.len ▸ aU)):=sk _;rw [sE,hu,sE,ae];exact bX.rel t _ _ hu ae
        refine m7 (T.getD t .junk).view (aj.view py) (I.df _) ?_;rw [he,eg]
end
end Go.Proofs.YtfakoboiahbhaaaGreat.Ab


namespace Go.Proofs.YtfakoboiahbhaaaGreat.Ab
open Go
section
variable {P:Program} {B:Nat} {J:List Nat} {w:World} {H:List au} {U:Nat→Option aI} {S:Nat→Nat→Prop}
def a1 (B:Nat) (U:Nat→Option aI) (J:List Nat) (S:Nat→Nat→Prop) (w:World) (H':List au) (r:I) (v:Value) (w':World):Prop :=
 ∃ az bZ S',Ext J bZ∧bg U S w az S' w'∧aL B az bZ S' w' H'∧Rel bZ S' w' r v∧aV az bZ S' w' .res r v
theorem a1.same (ah:aL B U J S w H) {r:I} {v:Value} (aj:Rel J S w r v) (aC:r.plain=true):a1 B U J S w H r v w :=
 ⟨U,J,S,Ext.refl J,bg.refl _ _ _,ah,aj,aV.b3 aC⟩
theorem aL.settle (ah:aL B U J S w H) {S':Nat→Nat→Prop} (ad:∀ b o,S b o→S' b o)
  (af:∀ b o,S' b o→S b o∨∃ l,U b=some l∧(∀ id,l≠.obj id)∧∀ id j,l≠.cell id j) (aG:∀ b o,S' b o→∃ v,w.cell? ⟨b,o,none⟩=some v):aL B U J S' w H:=by
 have hm:∀ {u:I} {v:Value},Rel J S w u v→Rel J S' w u v:=fun h=>h.mono (Ext.refl J) fun b o ai=>⟨ad b o ai,rfl⟩;refine ⟨ah.cE,fun id o aq=>?_,aG,ah.base,ah.cX⟩;have h:=ah.obj id o aq;cases o with
 | dead=>trivial
 | cells l =>
   obtain ⟨b,cur,e,aB,aH,aR,bj,bb,bf⟩:=h;refine ⟨b,cur,e,aB,aH,aR,bj,fun o ai=>?_,fun j u v hu ae=>?_⟩
   ·rcases af b o ai with h | ⟨l,h,ca,_⟩
    ·exact bb o h
    ·rw [aH] at h;cases h;exact ca id rfl
   ·obtain ⟨a',gO,bk,bq⟩:=bf j u v hu ae;refine ⟨a',gO,hm bk,bq.mono (Ext.refl J) (fun b o ai=>⟨ad b o ai,rfl⟩) fun b ag=>⟨ag,rfl,fun o ai=>?_⟩⟩;rcases af b o ai with h | ⟨l,h,_,cn⟩
    ·exact h
    ·rw [ag] at h;cases h;exact absurd rfl (cn id j)
 | grow l gid z =>
   obtain ⟨b,cur,e,aB,aH,aR,bj,bb,bf,c0⟩:=h;refine ⟨b,cur,e,aB,aH,aR,bj,fun o ai=>?_,fun j u v hu ae=>?_,c0⟩
   ·rcases af b o ai with h | ⟨l,h,ca,_⟩
    ·exact bb o h
    ·rw [aH] at h;cases h;exact ca id rfl
   ·obtain ⟨a',gO,bk,bq⟩:=bf j u v hu ae;refine ⟨a',gO,hm bk,bq.mono (Ext.refl J) (fun b o ai=>⟨ad b o ai,rfl⟩) fun b ag=>⟨ag,rfl,fun o ai=>?_⟩⟩;rcases af b o ai with h | ⟨l,h,_,cn⟩
    ·exact h
    ·rw [ag] at h;cases h;exact absurd rfl (cn id j)
 | loop st cF fn T params assign body jo =>
   obtain ⟨al,a0,b,L,aB,aH,aR,bj,bb,bf,c0,c',dD⟩:=h;exact ⟨al,a0,b,L,aB,aH,aR,bj,bb,bf,c0,fun i u v hu ae=>⟨(c' i u v hu ae).1,hm (c' i u v hu ae).2⟩,dD⟩
 | map es clock =>
   obtain ⟨b,bw,aB,aH,aR,bj,bb,bf⟩:=h;refine ⟨b,bw,aB,aH,aR,bj,fun o ai=>?_,fun j i k v x hu ae=>?_⟩
   ·rcases af b o ai with h | ⟨l,h,ca,_⟩
    ·exact bb o h
    ·rw [aH] at h;cases h;exact ca id rfl
   ·obtain ⟨a',bk,bq,b7,dW⟩:=bf j i k v x hu ae;exact ⟨a',bk,hm bq,b7,hm dW⟩
 | iter m s e t =>
   obtain ⟨b,ec,aB,aH,aR,bj,bb⟩:=h;refine ⟨b,ec,aB,aH,aR,bj,fun o ai=>?_⟩;rcases af b o ai with h | ⟨l,h,ca,_⟩
   ·exact bb o h
   ·rw [aH] at h;cases h;exact ca id rfl
theorem bg.settle {S':Nat→Nat→Prop} (ad:∀ b o,S b o→S' b o) (af:∀ b o,S' b o→S b o∨∃ l,U b=some l):bg U S w U S' w :=
 ⟨rfl,rfl,rfl,sc _,fun _ _ _=>rfl,fun b o h=>⟨ad b o h,rfl⟩,fun b o h=>(af b o h).imp id fun ⟨l,ak⟩=>.inl (by simp [ak]),fun _ h=>.inl h⟩
theorem a9.gK {bz:Nat→aI} {u:I} {T:List I} {bd:List Value} (h:a9 bz U J S w (u::T) bd) :
  ∃ v hH,bd=v::hH∧Rel J S w u v∧aV U J S w (bz 0) u v∧a9 (fun i=>bz (i+1)) U J S w T hH:=by
 cases bd with
 | nil=>exact absurd h.len (by simp)
 | cons v hH =>
   exact ⟨v,hH,rfl,h.rel 0 u v rfl rfl,h.own 0 u v rfl rfl,by simpa using h.len,fun i bG br hu ae=>h.rel (i+1) bG br (by simpa using hu) (by simpa using ae),
    fun i bG br hu ae=>h.own (i+1) bG br (by simpa using hu) (by simpa using ae)⟩
theorem EW:∀ (T:List I) (bd:List Value) (bz:Nat→aI) (S:Nat→Nat→Prop),(∀ i j,bz i=bz j→i=j)→(∀ i id,bz i≠.obj id)→(∀ i id j,bz i≠.cell id j) →
  a9 bz U J S w T bd→aL B U J S w H →
  ∃ S':Nat→Nat→Prop,(∀ b o,S b o→S' b o)∧(∀ b o,S' b o→S b o∨∃ i,U b=some (bz i))∧aL B U J S' w H∧a9 bz U J S' w (T.map I.view) bd:=by
 intro T
 induction T with
 | nil=>intro bd bz S _ _ _ ae ah;exact ⟨S,fun _ _ h=>h,fun _ _ h=>.inl h,ah,by simpa using ae⟩
 | cons u T a_ =>
   intro bd bz S aw ca cn ae ah;obtain ⟨v,hH,rfl,aj,aq,ax⟩:=ae.gK;have first:∃ a4:Nat→Nat→Prop,(∀ b o,S b o→a4 b o)∧(∀ b o,a4 b o→S b o∨U b=some (bz 0))∧aL B U J a4 w H∧Rel J a4 w u.view v:=by
    by_cases hu:u.cT=true
    ·exact ⟨S,fun _ _ h=>h,fun _ _ h=>.inl h,ah,aj.view hu⟩
    ·obtain ⟨cells,len,z,rfl⟩:∃ cells len z,u=.ay cells len (.uniq z):=by
      unfold I.cT at hu;split at hu
      ·exact ⟨_,_,_,rfl⟩
      ·simp at hu
     obtain ⟨a4,aJ,aP,cj,r1,_,_⟩:=j5 ah aj aq;exact ⟨a4,aJ,aP,ah.settle aJ (fun b o h=>(aP b o h).imp id fun h=>⟨_,h,ca 0,cn 0⟩) cj,r1⟩
   (obtain ⟨a4,aJ,aP,bW,dp⟩:=first);have pF:a9 (fun i=>bz (i+1)) U J a4 w T hH:=by
    refine ⟨ax.len,fun i bG br hu ae=>(ax.rel i bG br hu ae).mono (Ext.refl J) fun b o ai=>⟨aJ b o ai,rfl⟩,fun i bG br hu ae=>?_⟩;refine (ax.own i bG br hu ae).mono (Ext.refl J) (fun b o ai=>⟨aJ b o ai,rfl⟩) fun b ag=>⟨ag,rfl,fun o ai=>?_⟩;rcases aP b o ai with h | h
    ·exact h
    ·rw [ag] at h;injection h with h;exact absurd (aw _ _ h) (by omega)
   obtain ⟨S',dr,dj,cc,bc⟩:=a_ hH (fun i=>bz (i+1)) a4 (fun i j h=>by have:=aw _ _ h;omega) (fun i=>ca (i+1)) (fun i=>cn (i+1)) pF bW;refine ⟨S',fun b o h=>dr b o (aJ b o h),fun b o h=>?_,cc,?_⟩
   ·rcases dj b o h with h | ⟨i,h⟩
    ·exact (aP b o h).imp id fun h=>⟨0,h⟩
    ·exact .inr ⟨i+1,h⟩
   ·exact a9.cons (dp.mono (Ext.refl J) fun b o ai=>⟨dr b o ai,rfl⟩) (aV.b3 (I.df _)) bc
theorem Rel.db {k:IntKind} {n:Int} {v:Value} (h:Rel J S w (.int k n) v):v=.int k n:=by cases h;rfl
theorem Rel.hU {b:Bool} {v:Value} (h:Rel J S w (.bool b) v):v=.bool b:=by cases h;rfl
theorem Rel.Bw {v:Value} (h:Rel J S w .dn v):∃ b,v=.bool b:=by cases h;exact ⟨_,rfl⟩
def e2 (P:Program) (o:Oper) (aT:Operand→Value) (J:List Nat) (S:Nat→Nat→Prop) (w:World) (r:I):Prop :=
 ∃ v,(Go.execOp aT o).run P w=.ok (.value v) w∧Rel J S w r v
theorem zq {o:Oper} {aT:Operand→Value} {c a b:Operand} (aq:o.op=.pick c a b) {x:Bool} {fq gf:I} (ad:Rel J S w (.bool x) (aT c))
  (af:Rel J S w fq (aT a)) (aG:Rel J S w gf (aT b)):e2 P o aT J S w (match x with | true=>fq | false=>gf):=by
 have e:=ad.hU;cases x with
 | true=>exact ⟨aT a,by simp [Go.execOp,aq,e,asBool],af⟩
 | false=>exact ⟨aT b,by simp [Go.execOp,aq,e,asBool],aG⟩
theorem DO {o:Oper} {aT:Operand→Value} {x:Operand} (aq:o.op=.nilCheck x) {id off:Nat} (ad:Rel J S w (.ptr id off) (aT x)) :
  e2 P o aT J S w (.ptr id off):=by
 refine ⟨aT x,?_,ad⟩;generalize al:aT x=cA at ad ⊢;cases ad with
 | ptr id off b h=>simp [Go.execOp,aq,al]
theorem DP {o:Oper} {aT:Operand→Value} {x:Operand} (aq:o.op=.nilCheck x) {cells:List I} (ad:Rel J S w (.bU cells) (aT x)) :
  e2 P o aT J S w (.bU cells):=by
 generalize ae:aT x=v at ad;have af:=ad;cases ad with
 | bU _ b cL f h aj=>exact ⟨.pointer (some ⟨b,cL,none⟩),by simp [Go.execOp,aq,ae],af⟩
theorem DQ {o:Oper} {aT:Operand→Value} {op:UnOp} {t:TypeId} {x:Operand} (aq:o.op=.unOp op t x) {u r:I} (aj:kb op u=some r) (ad:Rel J S w u (aT x)) :
  e2 P o aT J S w r:=by
 unfold kb at aj;split at aj
 ·have e:=ad.hU;cases op <;> simp at aj;subst aj;exact ⟨_,by simp [Go.execOp,aq,e,Op.unary],.bool _⟩
 ·have e:=ad.db;cases op <;> simp at aj;subst aj;exact ⟨_,by simp [Go.execOp,aq,e,Op.unary,Op.intArith],.int _ _⟩
 ·simp at aj
theorem DG {o:Oper} {aT:Operand→Value} {s d:TypeId} {x:Operand} (aq:o.op=.convert s d x) {u r:I} (aj:ln P s d u=some r) (ad:Rel J S w u (aT x)):e2 P o aT J S w r:=by
 unfold ln at aj;split at aj
 ·have e:=ad.db;split at aj
  ·rename_i ds k Cm av;simp at aj;subst aj;refine ⟨_,?_,.int _ _⟩;simp only [Go.execOp,aq,e,convert,Sem.run_bind,run_underlying Cm,run_underlying av,Result.andThen_ok];cases ds <;> simp [Conv.intToInt]
  ·simp at aj
 ·simp at aj
theorem DL {o:Oper} {aT:Operand→Value} {fn:Fn} {first captured:Array Operand} (aq:o.op=.makeFunc fn first captured) {us:List I} {r:I}
  (aj:mA fn first.size captured.size us=some r) {bz:Nat→aI} (ae:a9 bz U J S w us ((first++captured).toList.map aT)) (aC:∀ u∈us,u.plain=true) :
  e2 P o aT J S w r:=by
 unfold mA at aj;split at aj
 ·rename_i f;split at aj
  ·rename_i ak;simp at aj;subst aj;refine ⟨.func (.func f) (first.map aT) (captured.map aT),by simp [Go.execOp,aq,Instr.makeFunc],.func f _ _ _ _ ?_ ?_ ?_ ?_ ?_ ?_⟩
   ·simp;omega
   ·simp;omega
   ·exact fun u hu=>aC u (uj hu)
   ·exact fun u hu=>aC u (vh hu)
   ·intro j u v hu bc;refine ae.rel j u v ?_ ?_
    ·rw [sT] at hu;split at hu <;> simp_all
    ·simp only [vi,rZ] at bc;obtain ⟨x,al,rfl⟩:=bc;have:=(sW.1 al).1;rw [sC this] at al;cases al;simp [sB,this]
   ·intro j u v hu bc;refine ae.rel (first.size+j) u v ?_ ?_
    ·simpa [sX] using hu
    ·simp only [vi,rZ] at bc;obtain ⟨x,al,rfl⟩:=bc;simp [sJ,al]
  ·simp at aj
 ·simp at aj
theorem DI {o:Oper} {aT:Operand→Value} {x:Operand} {i:Nat} (aq:o.op=.extract x i) {u r:I} (aj:mW i u=some r) (ad:Rel J S w u (aT x)) :
  e2 P o aT J S w r.view:=by
 unfold mW at aj;generalize al:aT x=cA at ad;split at aj
 ·cases ad with
  | tuple as vs h p mI =>
    have aU:=(sa.1 aj).1;have ae:vs[i]?=some (vs[i]'(by omega)):=sC _;have aC:r.plain=true:=p r (sI aj);refine ⟨vs[i]'(by omega),?_,?_⟩
    ·simp [Go.execOp,aq,al,Instr.extract,ae]
    ·rw [I.ka aC];exact mI i _ _ aj ae
 ·simp at aj
theorem EG {op:BinOp} {t:TypeId} {x y:Operand} {k k':IntKind} {a b:Int}:(eqGuard op t x y (.int k a) (.int k' b)).run P w=.ok () w:=by
 unfold eqGuard;split <;> simp
theorem EF {op:BinOp} {t:TypeId} {k k':IntKind} {a b:Int} {r:I} (aj:fg P op t (.int k a) (.int k' b)=some r) :
  ∃ v,(Go.binOp op t (.int k a) (.int k' b)).run P w=.ok v w∧Rel J S w r v:=by
 have EY:∀ my,(my=.shl∨my=.shr)→hk my k a b=some r→∃ v,(Op.shift my k a k' b).run P w=.ok v w∧Rel J S w r v:=by
  intro my aD h;unfold hk at h;split at h
  ·simp at h
  ·rename_i ag;rcases aD with rfl | rfl <;> simp at h <;> subst h
   ·exact ⟨_,by simp [Op.shift,ag],.int _ _⟩
   ·exact ⟨_,by simp [Op.shift,ag],.int _ _⟩
 have BA:k=k'→jm op k a b=some r→∃ v,(Go.binOp op t (.int k a) (.int k' b)).run P w=.ok v w∧Rel J S w r v:=by
  rintro rfl h;cases op <;> simp only [jm,Option.some.injEq,reduceCtorEq] at h
  case quo =>
   split at h
   ·simp at h
   ·rename_i ag;simp at h;subst h;exact ⟨_,by simp [Go.binOp,Op.intDiv,ag],.int _ _⟩
  case rem =>
   split at h
   ·simp at h
   ·rename_i ag;simp at h;subst h;exact ⟨_,by simp [Go.binOp,Op.intDiv,ag],.int _ _⟩
  all_goals subst h
  all_goals first
   | (refine ⟨_,?_,.bool _⟩;simp [Go.binOp,Op.intCmp];done)
   | (refine ⟨_,?_,.int _ _⟩;simp [Go.binOp,Op.intArith];done)
   | (refine ⟨_,?_,.int _ _⟩;simp [Go.binOp,Op.intBits];done)
 unfold fg at aj;cases op <;> simp only at aj <;> first
  | (obtain ⟨v,ad,af⟩:=EY _ (by simp) aj;exact ⟨v,by simpa [Go.binOp] using ad,af⟩)
  | (split at aj
     ·exact BA ‹_› aj
     ·simp at aj)
theorem DF {o:Oper} {aT:Operand→Value} {op:BinOp} {t ik:TypeId} {x y:Operand} (aq:o.op=.binOp op t x y ik) {k k':IntKind} {a b:Int} {r:I}
  (aj:fg P op t (.int k a) (.int k' b)=some r) (ad:Rel J S w (.int k a) (aT x)) (af:Rel J S w (.int k' b) (aT y)):e2 P o aT J S w r:=by
 obtain ⟨v,ae,b9⟩:=EF (P:=P) (w:=w) (J:=J) (S:=S) (t:=t) aj;refine ⟨v,?_,b9⟩;simp only [Go.execOp,aq,ad.db,af.db,Sem.run_bind,EG,ae,Result.andThen_ok,Sem.run_pure]
theorem mO {t:TypeId} {s:Nat} (h:bS P t=some s):∃ i,P.info? t=some i∧i.size=s:=by
 simp only [bS,rZ] at h;exact h
theorem run_sizeOf {t:TypeId} {s:Nat} (h:bS P t=some s):(sizeOf t).run P w=.ok s w:=by
 obtain ⟨i,hi,rfl⟩:=mO h;simp [sizeOf,typeInfo,hi]
theorem gF {t:TypeId} {d:TypeDesc} (h:P.underlying t=some d):(isAgg t).run P w=.ok (dI P t) w:=by
 simp only [isAgg,dI,h,Sem.run_bind,run_underlying h,Result.andThen_ok];cases d <;> simp
theorem lA {i:Int} {len j:Nat} (h:gP i len=some j):0≤i∧i<len∧j=i.toNat:=by
 unfold gP at h;split at h
 ·simp at h;exact ⟨by omega,by omega,h.symm⟩
 ·simp at h
theorem add_lit (b o n:Nat):(⟨b,o,none⟩:Addr).add n=⟨b,o+n,none⟩:=by
 unfold Addr.add;split <;> simp_all
theorem Rel.drop {cells:List I} {b o:Nat} {f:Nat→Value} (n:Nat)
  (h:∀ (j:Nat) (u:I),cells[j]?=some u→S b (o+j)∧w.cell? ⟨b,o+j,none⟩=some (f j)∧u.plain=true∧(f j).oneCell'=true)
  (aj:∀ (j:Nat) (u:I),cells[j]?=some u→Rel J S w u (f j)):Rel J S w (.bU (cells.drop n)) (.pointer (some ⟨b,o+n,none⟩)):=by
 refine .bU _ b (o+n) (fun j=>f (n+j)) (fun j u hu=>?_) (fun j u hu=>?_)
 ·rw [sX] at hu;have:=h (n+j) u hu
  rwa [show o+n+j=o+(n+j) by omega]
 ·rw [sX] at hu;exact aj (n+j) u hu
theorem DN {o:Oper} {aT:Operand→Value} {t:TypeId} {x i:Operand} (aq:o.op=.indexAddr t x i) {fq gf r:I} (aj:hS P t fq gf=some r)
  (ad:Rel J S w fq (aT x)) (af:Rel J S w gf (aT i)) (aN:fq.cT=true):e2 P o aT J S w r:=by
 unfold hS at aj;generalize al:aT x=cA at ad;split at aj
 ·rename_i aZ;simp only [se,rZ] at aj;obtain ⟨s,ai,j,aw,rfl⟩:=aj;obtain ⟨dr,dj,rfl⟩:=lA aw;have e:=af.db;cases ad with
  | b1 c a=>exact absurd dj (by simp;omega)
  | cK=>simp [I.cT] at aN
  | ay cells len c b jR cap f ao hle hu h fl =>
    refine ⟨_,?_,Rel.drop _ h fl⟩;simp [Go.execOp,aq,al,e,Instr.indexAt,asIntOf,run_underlying aZ,dr,dj,run_sizeOf ai,add_lit]
 ·rename_i aZ;simp only [se,rZ] at aj;obtain ⟨s,ai,j,aw,rfl⟩:=aj;obtain ⟨dr,dj,rfl⟩:=lA aw;have e:=af.db;cases ad with
  | ref id off len c sz b cap h ao hle =>
    refine ⟨_,?_,.ptr _ _ b h⟩;simp [Go.execOp,aq,al,e,Instr.indexAt,asIntOf,run_underlying aZ,dr,dj,run_sizeOf ai,add_lit]
 ·rename_i aZ;simp only [se,rZ] at aj;obtain ⟨s,ai,j,aw,rfl⟩:=aj;obtain ⟨dr,dj,rfl⟩:=lA aw;have e:=af.db;cases ad with
  | ptr id off b h =>
    refine ⟨_,?_,.ptr _ _ b h⟩;simp [Go.execOp,aq,al,e,Instr.indexAt,asIntOf,Instr.sureAddr,run_underlying aZ,dr,dj,run_sizeOf ai,add_lit]
 ·rename_i aZ;simp only [se,rZ] at aj;obtain ⟨s,ai,j,aw,rfl⟩:=aj;obtain ⟨dr,dj,rfl⟩:=lA aw;have e:=af.db;cases ad with
  | bU cells b jR f h fl =>
    refine ⟨_,?_,Rel.drop _ h fl⟩;simp [Go.execOp,aq,al,e,Instr.indexAt,asIntOf,Instr.sureAddr,run_underlying aZ,dr,dj,run_sizeOf ai,add_lit]
 ·simp at aj
theorem AA {b o s:Nat} {g:Field} (ai:bS P g.type=some s) (aS:s≠0):(fieldPlace ⟨b,o,none⟩ g).run P w=.ok ⟨b,o+g.offset,none⟩ w:=by
 simp [fieldPlace,run_sizeOf ai,aS,add_lit]
theorem DK {o:Oper} {aT:Operand→Value} {t:TypeId} {x:Operand} {lF:Nat} (aq:o.op=.fieldAddr t x lF) {u r:I} (aj:jn P t u lF=some r)
  (ad:Rel J S w u (aT x)):e2 P o aT J S w r:=by
 unfold jn at aj;generalize al:aT x=cA at ad;split at aj
 ·rename_i aZ;simp only [se] at aj;obtain ⟨g,aO,s,ai,aj⟩:=aj;split at aj
  ·simp at aj
  ·rename_i aS;simp at aj;subst aj;cases ad with
   | ptr id off b h =>
     refine ⟨_,?_,.ptr _ _ b h⟩;simp [Go.execOp,aq,al,Instr.fieldAt,Instr.sureAddr,run_underlying aZ,aO,AA ai aS]
 ·rename_i aZ;simp only [se] at aj;obtain ⟨g,aO,s,ai,aj⟩:=aj;split at aj
  ·simp at aj
  ·rename_i aS;simp at aj;subst aj;cases ad with
   | bU cells b jR f h fl =>
     refine ⟨_,?_,Rel.drop _ h fl⟩;simp [Go.execOp,aq,al,Instr.fieldAt,Instr.sureAddr,run_underlying aZ,aO,AA ai aS]
 ·simp at aj
theorem y6 {t:TypeId} (h:dI P t=true):∃ d,P.underlying t=some d:=by
 unfold dI at h;split at h <;> first | exact ⟨_,by assumption⟩ | simp at h
theorem AG {t:TypeId} {as:List I} {vs:Array Value} {off:Nat} {r:I} (aj:iw P t as off=some r) (ak:vs.size=as.length)
  (aC:∀ u∈as,u.plain=true) (ek:∀ v∈vs.toList,v.oneCell'=true) (b9:∀ (j:Nat) (u:I) (v:Value),as[j]?=some u→vs[j]?=some v→Rel J S w u v) :
  ∃ v,(part t vs off).run P w=.ok v w∧Rel J S w r v∧r.plain=true:=by
 unfold iw at aj;cases ch:dI P t with
 | true =>
   obtain ⟨d,aZ⟩:=y6 ch;rw [ch] at aj;simp only [se] at aj;obtain ⟨s,ai,aj⟩:=aj;split at aj
   ·rename_i hle;simp at aj;subst aj;refine ⟨.agg (vs.extract off (off+s)),by simp [part,gF aZ,ch,run_sizeOf ai],.agg _ _ ?_ ?_ ?_ ?_,rfl⟩
    ·simp;omega
    ·exact fun u hu=>aC u (vh (uj hu))
    ·exact fun v ae=>ek v (by rw [Array.toList_extract] at ae;exact vh (uj ae))
    ·intro j u v hu ae;rw [sT] at hu;split at hu
     ·rw [sX] at hu;rw [Array.getElem?_extract] at ae;split at ae
      ·exact b9 _ u v hu ae
      ·simp at ae
     ·simp at hu
   ·simp at aj
 | false =>
   rw [ch] at aj;simp only at aj;split at aj
   ·rename_i d aZ;have aU:=(sa.1 aj).1;have ae:vs[off]?=some (vs[off]'(by omega)):=sC _;exact ⟨_,by simp [part,gF aZ,ch,ae],b9 off _ _ aj ae,aC r (sI aj)⟩
   ·simp at aj
theorem DJ {o:Oper} {aT:Operand→Value} {t:TypeId} {x:Operand} {lF:Nat} (aq:o.op=.field t x lF) {u r:I} (aj:mX P t u lF=some r)
  (ad:Rel J S w u (aT x)):e2 P o aT J S w r.view:=by
 unfold mX at aj;generalize al:aT x=cA at ad;split at aj
 ·rename_i aZ;simp only [se] at aj;obtain ⟨g,aO,aj⟩:=aj;cases ad with
  | agg as vs h p one mI =>
    obtain ⟨v,ae,b9,h4⟩:=AG (w:=w) aj h p one mI;refine ⟨v,?_,by rw [I.ka h4];exact b9⟩;simp [Go.execOp,aq,al,Instr.field,run_underlying aZ,aO,asAgg,ae]
 ·simp at aj
theorem DM {o:Oper} {aT:Operand→Value} {t:TypeId} {x i:Operand} (aq:o.op=.index t x i) {fq gf r:I} (aj:ov P t fq gf=some r)
  (ad:Rel J S w fq (aT x)) (af:Rel J S w gf (aT i)):e2 P o aT J S w r.view:=by
 unfold ov at aj;generalize al:aT x=cA at ad;split at aj
 ·rename_i aZ;simp only [se] at aj;obtain ⟨s,ai,j,aw,aj⟩:=aj;obtain ⟨dr,dj,rfl⟩:=lA aw;have e:=af.db;cases ad with
  | agg as vs h p one mI =>
    obtain ⟨v,ae,b9,h4⟩:=AG (w:=w) aj h p one mI;refine ⟨v,?_,by rw [I.ka h4];exact b9⟩;simp [Go.execOp,aq,al,e,Instr.index,asIntOf,run_underlying aZ,dr,dj,run_sizeOf ai,ae]
 ·rename_i b k n aZ;have e:=af.db;split at aj
  ·rename_i aS;simp only [rZ] at aj;obtain ⟨y,a0,rfl⟩:=aj;cases ad with
   | str b =>
     refine ⟨_,?_,.int _ _⟩;simp [Go.execOp,aq,al,e,Instr.index,asIntOf,run_underlying aZ,aS,a0]
  ·simp at aj
 ·simp at aj
theorem EI {t e:TypeId} (d:Nat) (ax:P.underlying t=some (.slice e)) (a:Addr) (len cap:Nat) :
  (Op.equalIn (d+1) t (.slice (some a) len cap) (.slice none 0 0)).run P w=.ok false w:=by
 rw [Op.equalIn];simp [run_underlying ax]
theorem n4 {t e:TypeId} (ax:P.underlying t=some (.slice e)) (a:Addr) (len cap:Nat) :
  (Op.equal t (.slice (some a) len cap) (.slice none 0 0)).run P w=.ok false w:=EI 9999 ax a len cap
theorem run_equalIn_bool {t:TypeId} (d:Nat) (ax:P.underlying t=some .bool) (a b:Bool):(Op.equalIn (d+1) t (.bool a) (.bool b)).run P w=.ok (a == b) w:=by
 rw [Op.equalIn];simp [run_underlying ax]
theorem run_equal_bool {t:TypeId} (ax:P.underlying t=some .bool) (a b:Bool):(Op.equal t (.bool a) (.bool b)).run P w=.ok (a == b) w:=run_equalIn_bool 9999 ax a b
theorem EJ {t e:TypeId} (d:Nat) (ax:P.underlying t=some (.slice e)) (len cap:Nat) :
  (Op.equalIn (d+1) t (.slice none len cap) (.slice none 0 0)).run P w=.ok true w:=by
 rw [Op.equalIn];simp [run_underlying ax]
theorem Az {t e:TypeId} (ax:P.underlying t=some (.slice e)) (len cap:Nat) :
  (Op.equal t (.slice none len cap) (.slice none 0 0)).run P w=.ok true w:=EJ 9999 ax len cap
theorem DH {o:Oper} {aT:Operand→Value} {op:BinOp} {t ik:TypeId} {x y:Operand} (aq:o.op=.binOp op t x y ik) (a0:iO y=true) {u r:I}
  (aj:mV P op t u=some r) (ad:Rel J S w u (aT x)) (eK:∀ v,aT (.const v)=v):e2 P o aT J S w r:=by
 have Dc:y=.const (.slice none 0 0):=by
  unfold iO at a0;split at a0
  ·rfl
  ·simp at a0
 subst Dc;generalize al:aT x=cA at ad;unfold mV at aj;split at aj
 ·rename_i e ax;have ai:((∃ b jR len cap,cA=.slice (some ⟨b,jR,none⟩) len cap)∧((op=.eql∧r=.bool false)∨(op=.neq∧r=.bool true))) ∨
    ((∃ a len cap,cA=.slice a len cap)∧(op=.eql∨op=.neq)∧r=.dn):=by
   split at aj
   ·refine .inl ⟨?_,by split at aj <;> simp_all⟩;cases ad with
    | ay cells len c b jR cap f ao hle hu h fl=>exact ⟨_,_,_,_,rfl⟩
    | cK=>exact ⟨_,_,_,_,rfl⟩
   ·refine .inl ⟨?_,by split at aj <;> simp_all⟩;cases ad with
    | ref id off len c sz b cap h ao hle=>exact ⟨_,_,_,_,rfl⟩
   ·refine .inr ⟨?_,by split at aj <;> simp_all⟩;cases ad with
    | b1 c a=>exact ⟨_,_,_,rfl⟩
    | ay cells len c b jR cap f ao hle hu h fl=>exact ⟨_,_,_,rfl⟩
    | cK=>exact ⟨_,_,_,rfl⟩
   ·simp at aj
  rcases ai with ⟨⟨b,jR,len,cap,rfl⟩,⟨rfl,rfl⟩ | ⟨rfl,rfl⟩⟩ | ⟨⟨a,len,cap,rfl⟩,aD,rfl⟩
  ·exact ⟨.bool false,by simp [Go.execOp,aq,al,eK,eqGuard,Go.binOp,n4 ax],.bool _⟩
  ·exact ⟨.bool true,by simp [Go.execOp,aq,al,eK,eqGuard,Go.binOp,n4 ax],.bool _⟩
  ·rcases aD with rfl | rfl
   ·cases a with
    | none=>exact ⟨.bool true,by simp [Go.execOp,aq,al,eK,eqGuard,Go.binOp,Az ax],.dn _⟩
    | some a=>exact ⟨.bool false,by simp [Go.execOp,aq,al,eK,eqGuard,Go.binOp,n4 ax],.dn _⟩
   ·cases a with
    | none=>exact ⟨.bool false,by simp [Go.execOp,aq,al,eK,eqGuard,Go.binOp,Az ax],.dn _⟩
    | some a=>exact ⟨.bool true,by simp [Go.execOp,aq,al,eK,eqGuard,Go.binOp,n4 ax],.dn _⟩
 ·simp at aj
theorem DE {o:Oper} {aT:Operand→Value} {op:BinOp} {t ik:TypeId} {x y:Operand} (aq:o.op=.binOp op t x y ik) {a b:Bool} {r:I}
  (aj:fg P op t (.bool a) (.bool b)=some r) (ad:Rel J S w (.bool a) (aT x)) (af:Rel J S w (.bool b) (aT y)):e2 P o aT J S w r:=by
 simp only [fg] at aj;have e1:=ad.hU;have ck:=af.hU;split at aj
 ·rename_i ax;simp at aj;subst aj;exact ⟨_,by simp [Go.execOp,aq,e1,ck,eqGuard,Go.binOp,run_equal_bool ax],.bool _⟩
 ·rename_i ax;simp at aj;subst aj;exact ⟨_,by simp [Go.execOp,aq,e1,ck,eqGuard,Go.binOp,run_equal_bool ax],.bool _⟩
 ·simp at aj
theorem m8 {x y:I} {xs ys:List I} {e:Bool} (h:dK (x::xs) (y::ys)=some e) :
  ∃ k a b cM,x=.int k a∧y=.int k b∧dK xs ys=some cM∧e=((a == b) && cM):=by
 cases x <;> cases y <;> simp only [dK,reduceCtorEq] at h;split at h
 ·rename_i av;subst av;simp only [rZ] at h;obtain ⟨cM,ad,af⟩:=h;exact ⟨_,_,_,cM,rfl,rfl,ad,af.symm⟩
 ·simp at h
theorem EE {e:TypeId} {dc:IntKind} (d:Nat) (he:P.underlying e=some (.int dc)) (ai:dI P e=false):∀ (xs ys:List I) (vs ws:List Value) (off:Nat) (eq:Bool),
  dK xs ys=some eq→a9 (fun _=>.res) U J S w xs vs→a9 (fun _=>.res) U J S w ys ws→∀ (V W:Array Value),(∀ j,vs[j]?=V[off+j]?)→(∀ j,ws[j]?=W[off+j]?) →
  (forIn (List.range' off xs.length) ((none,()):Option Bool×PUnit) (fun i (_:Option Bool×PUnit)=>(do
    let a ←part e V i
    let b ←part e W i
    let c ←Op.equalIn (d+1) e a b
    if c=false then pure (ForInStep.done (some false,())) else pure (ForInStep.yield (none,())):Sem (ForInStep (Option Bool×PUnit))))).run P w =
   .ok (if eq then none else some false,()) w:=by
 intro xs
 induction xs with
 | nil=>intro ys vs ws off eq h _ _ V W _ _;cases ys <;> simp [dK] at h;subst h;simp
 | cons x xs a_ =>
   intro ys vs ws off eq h ae hw V W jx lN;cases ys with
   | nil=>cases x <;> simp [dK] at h
   | cons y ys =>
     obtain ⟨k,a,b,cM,rfl,rfl,aX,rfl⟩:=m8 h;obtain ⟨v,du,rfl,r1,_,bc⟩:=ae.gK;obtain ⟨w',xX,rfl,r2,_,ma⟩:=hw.gK;have e1:=r1.db;have ck:=r2.db;subst e1 ck;(have bR:V[off]?=some (.int k a):=by have:=jx 0;simpa using this.symm);(have b4:W[off]?=some (.int k b):=by have:=lN 0;simpa using this.symm);have pN:=a_ ys du xX (off+1) cM aX bc ma V W (fun j=>by have:=jx (j+1);simpa [tD,tb 1] using this) (fun j=>by have:=lN (j+1);simpa [tD,tb 1] using this);(have q1:(part e V off).run P w=.ok (.int k a) w:=by simp [part,gF he,ai,bR]);(have aW:(part e W off).run P w=.ok (.int k b) w:=by simp [part,gF he,ai,b4]);(have cz:(Op.equalIn (d+1) e (.int k a) (.int k b)).run P w=.ok (a == b) w:=by rw [Op.equalIn];simp [run_underlying he]);simp only [sL,List.range'_succ,vG,Sem.run_bind,q1,aW,cz,Result.andThen_ok];by_cases jy:a=b
     ·subst jy;simpa using pN
     ·simp [jy]
theorem EH {t e:TypeId} {len:Nat} {dc:IntKind} (d:Nat) (ax:P.underlying t=some (.array len e)) (he:P.underlying e=some (.int dc)) (gx:bS P e=some 1)
  {xs ys:List I} {V W:Array Value} {eq:Bool} (al:xs.length=len) (h:dK xs ys=some eq) (r1:Rel J S w (.agg xs) (.agg V)) (r2:Rel J S w (.agg ys) (.agg W)) :
  (Op.equalIn (d+2) t (.agg V) (.agg W)).run P w=.ok eq w:=by
 have ch:dI P e=false:=by unfold dI;rw [he]
 rw [Op.equalIn];simp only [run_underlying ax,run_sizeOf gx,Sem.run_bind,Result.andThen_ok];cases r1 with
 | agg xs V ae bR bA q1 =>
   cases r2 with
   | agg ys W hw b4 bQ aW =>
     have:=EE (U:=fun _=>none) (P:=P) (w:=w) (J:=J) (S:=S) d he ch xs ys V.toList W.toList 0 eq h ⟨by simp [ae],fun i u v a b=>q1 i u v a (by simpa using b),fun i u v a _=>aV.b3 (bR u (sI a))⟩
      ⟨by simp [hw],fun i u v a b=>aW i u v a (by simpa using b),fun i u v a _=>aV.b3 (b4 u (sI a))⟩ V W (by simp) (by simp)
     rw [al] at this;simp [this];cases eq <;> simp
theorem y4 {f:Field} {bE:List Field} {n:Nat} (h:gz P (f::bE) n=true) :
  f.offset = n ∧ f.name ≠ "_" ∧ (∃ k, P.underlying f.type = some (.int k)) ∧ bS P f.type = some 1 ∧ dI P f.type = false ∧ gz P bE (n + 1) = true := by
 simp only [gz,Bool.and_eq_true,beq_iff_eq,bne_iff_ne] at h;obtain ⟨⟨⟨ad,af⟩,aG⟩,a6⟩:=h;split at aG
 ·rename_i k hu ai;exact ⟨ad,af,⟨k,hu⟩,ai,by unfold dI;rw [hu],a6⟩
 ·simp at aG
theorem EL (d:Nat):∀ (bE:List Field) (xs ys:List I) (vs ws:List Value) (off:Nat) (eq:Bool),gz P bE off=true→xs.length=bE.length→ys.length=bE.length →
  dK xs ys=some eq→a9 (fun _=>.res) U J S w xs vs→a9 (fun _=>.res) U J S w ys ws→∀ (V W:Array Value),(∀ j,vs[j]?=V[off+j]?)→(∀ j,ws[j]?=W[off+j]?) →
  (forIn bE ((none,()):Option Bool×PUnit) (fun f (_:Option Bool×PUnit) =>
    if f.name = "_" then pure (ForInStep.yield (none, ())) else (do
    let a ←part f.type V f.offset
    let b ←part f.type W f.offset
    let c ←Op.equalIn (d+1) f.type a b
    if c=false then pure (ForInStep.done (some false,())) else pure (ForInStep.yield (none,())):Sem (ForInStep (Option Bool×PUnit))))).run P w =
   .ok (if eq then none else some false,()) w:=by
 intro bE
 induction bE with
 | nil =>
   intro xs ys vs ws off eq _ al a0 h _ _ V W _ _;obtain rfl:=tu.1 al;obtain rfl:=tu.1 a0;simp [dK] at h;subst h;simp
 | cons f bE a_ =>
   intro xs ys vs ws off eq aQ al a0 h ae hw V W jx lN;cases xs with
   | nil=>simp at al
   | cons x xs =>
     cases ys with
     | nil=>simp at a0
     | cons y ys =>
       obtain ⟨k,a,b,cM,rfl,rfl,aX,rfl⟩:=m8 h;obtain ⟨v,du,rfl,r1,_,bc⟩:=ae.gK;obtain ⟨w',xX,rfl,r2,_,ma⟩:=hw.gK;obtain ⟨f1,f2,⟨dc,f3⟩,f4,f5,f6⟩:=y4 aQ;have e1:=r1.db;have ck:=r2.db;subst e1 ck;(have bR:V[off]?=some (.int k a):=by have:=jx 0;simpa using this.symm);(have b4:W[off]?=some (.int k b):=by have:=lN 0;simpa using this.symm);have pN:=a_ xs ys du xX (off+1) cM f6 (by simpa using al) (by simpa using a0) aX bc ma V W (fun j=>by have:=jx (j+1);simpa [tD,tb 1] using this) (fun j=>by have:=lN (j+1);simpa [tD,tb 1] using this);(have q1:(part f.type V f.offset).run P w=.ok (.int k a) w:=by simp [part,gF f3,f5,f1,bR]);(have aW:(part f.type W f.offset).run P w=.ok (.int k b) w:=by simp [part,gF f3,f5,f1,b4]);(have cz:(Op.equalIn (d+1) f.type (.int k a) (.int k b)).run P w=.ok (a == b) w:=by rw [Op.equalIn];simp [run_underlying f3]);simp only [vG,f2,if_false,Sem.run_bind,q1,aW,cz,Result.andThen_ok];by_cases jy:a=b
       ·subst jy;simpa using pN
       ·simp [jy]
theorem run_equalIn_struct {t:TypeId} {bE:Array Field} (d:Nat) (ax:P.underlying t=some (.struct bE)) (aQ:gz P bE.toList 0=true) (h5:P.stoodInHeld t=false)
  {xs ys:List I} {V W:Array Value} {eq:Bool} (al:xs.length=bE.size) (a0:ys.length=bE.size) (h:dK xs ys=some eq) (r1:Rel J S w (.agg xs) (.agg V)) (r2:Rel J S w (.agg ys) (.agg W)) :
  (Op.equalIn (d+2) t (.agg V) (.agg W)).run P w=.ok eq w:=by
 rw [Op.equalIn];cases r1 with
 | agg xs V ae bR bA q1 =>
   cases r2 with
   | agg ys W hw b4 bQ aW =>
     have:=EL (U:=fun _=>none) (P:=P) (w:=w) (J:=J) (S:=S) d bE.toList xs ys V.toList W.toList 0 eq aQ (by simpa using al) (by simpa using a0) h ⟨by simp [ae],fun i u v a b=>q1 i u v a (by simpa using b),fun i u v a _=>aV.b3 (bR u (sI a))⟩
      ⟨by simp [hw],fun i u v a b=>aW i u v a (by simpa using b),fun i u v a _=>aV.b3 (b4 u (sI a))⟩ V W (by simp) (by simp)
     simp only [run_underlying ax,Sem.run_bind,Result.andThen_ok,program,Sem.run,h5];rw [Array.forIn_toList] at this;simp [this];cases eq <;> simp
theorem DD {o:Oper} {aT:Operand→Value} {op:BinOp} {t ik:TypeId} {x y:Operand} (aq:o.op=.binOp op t x y ik) {xs ys:List I} {r:I}
  (aj:fg P op t (.agg xs) (.agg ys)=some r) (ad:Rel J S w (.agg xs) (aT x)) (af:Rel J S w (.agg ys) (aT y)):e2 P o aT J S w r:=by
 simp only [fg] at aj;split at aj
 ·rename_i len e ax;split at aj
  ·rename_i dc he gx;split at aj
   ·rename_i ao;obtain ⟨al,a0,aO⟩:=ao;generalize fW:aT x=cA at ad;generalize l_:aT y=xV at af;(have e1:∃ V,cA=.agg V:=by cases ad with | agg as vs=>exact ⟨_,rfl⟩);(have ck:∃ V,xV=.agg V:=by cases af with | agg as vs=>exact ⟨_,rfl⟩);obtain ⟨V,rfl⟩:=e1;obtain ⟨W,rfl⟩:=ck;have key:∀ eq,dK xs ys=some eq→(Op.equal t (.agg V) (.agg W)).run P w=.ok eq w:=fun eq h=>EH 9998 ax he gx al h ad af;split at aj
    ·simp only [rZ] at aj;obtain ⟨eq,h,rfl⟩:=aj;exact ⟨.bool eq,by simp [Go.execOp,aq,fW,l_,eqGuard,aO,Go.binOp,key eq h,program,Sem.run],.bool _⟩
    ·simp only [rZ] at aj;obtain ⟨eq,h,rfl⟩:=aj;exact ⟨.bool (!eq),by simp [Go.execOp,aq,fW,l_,eqGuard,aO,Go.binOp,key eq h,program,Sem.run],.bool _⟩
    ·simp at aj
   ·simp at aj
  ·simp at aj
 ·rename_i bE ax;split at aj
  ·rename_i ao;obtain ⟨aQ,h5,al,a0,aO⟩:=ao;generalize fW:aT x=cA at ad;generalize l_:aT y=xV at af;(have e1:∃ V,cA=.agg V:=by cases ad with | agg as vs=>exact ⟨_,rfl⟩);(have ck:∃ V,xV=.agg V:=by cases af with | agg as vs=>exact ⟨_,rfl⟩);obtain ⟨V,rfl⟩:=e1;obtain ⟨W,rfl⟩:=ck;have key:∀ eq,dK xs ys=some eq→(Op.equal t (.agg V) (.agg W)).run P w=.ok eq w:=fun eq h=>run_equalIn_struct 9998 ax aQ h5 al a0 h ad af;split at aj
   ·simp only [rZ] at aj;obtain ⟨eq,h,rfl⟩:=aj;exact ⟨.bool eq,by simp [Go.execOp,aq,fW,l_,eqGuard,aO,Go.binOp,key eq h,program,Sem.run],.bool _⟩
   ·simp only [rZ] at aj;obtain ⟨eq,h,rfl⟩:=aj;exact ⟨.bool (!eq),by simp [Go.execOp,aq,fW,l_,eqGuard,aO,Go.binOp,key eq h,program,Sem.run],.bool _⟩
   ·simp at aj
  ·simp at aj
 ·simp at aj
end
end Go.Proofs.YtfakoboiahbhaaaGreat.Ab


namespace Go.Proofs.YtfakoboiahbhaaaGreat.Ab
open Go
section
variable {P:Program} {B:Nat} {J:List Nat} {w:World} {H:List au} {U:Nat→Option aI} {S:Nat→Nat→Prop}
def eF (J:List Nat) (S:Nat→Nat→Prop) (w:World):Option I→Option Value→Prop
 | none,none=>True
 | some u,some v=>Rel J S w u v
 | _,_=>False
theorem mJ {x:Option I} {v:Option Value} {d y xY r:Nat} (h:cH x d y=some r) (al:eF J S w x v) (a0:y≤xY) :
  (∃ k n,v=some (.int k n)∧x.isSome∧(∀ code,(Instr.sliceBound (.int k n) xY code).run P w=.ok r w)∧r≤y)∨(v=none∧x=none∧r=d):=by
 unfold cH at h;split at h
 ·cases v with
  | none=>simp at h;exact .inr ⟨rfl,rfl,h.symm⟩
  | some v=>simp [eF] at al
 ·cases v with
  | none=>simp [eF] at al
  | some v =>
    have e:=Rel.db al;subst e;split at h
    ·rename_i ag;simp at h;subst h;refine .inl ⟨_,_,rfl,rfl,fun code=>?_,by omega⟩;have ad:=ag.1;have af:_≤(xY:Int):=Int.le_trans ag.2 (Int.ofNat_le.2 a0);simp [Instr.sliceBound,asIntOf,ad,af]
    ·simp at h
 ·simp at h
theorem hE {lo hi:Option I} {lo' hi':Option Value} {isS:Bool} {len cap h l:Nat} (bI:cH hi len len=some h) (ak:cH lo 0 h=some l) (hle:len≤cap)
  (r1:eF J S w lo lo') (r2:eF J S w hi hi'):(Instr.sliceBounds isS len cap lo' hi' none).run P w=.ok (l,h,cap) w∧l≤h∧h≤len:=by
 rcases mJ (P:=P) bI r2 hle with ⟨k,n,rfl,_,q,ag⟩ | ⟨rfl,_,rfl⟩ <;> rcases mJ (P:=P) ak r1 (sc _) with ⟨k',iS,rfl,_,fL,bp⟩ | ⟨rfl,_,rfl⟩ <;>
  refine ⟨?_,by omega,by omega⟩ <;> simp [Instr.sliceBounds, *]
theorem xF {lo hi gA:Option I} {lo' hi' iR:Option Value} {isS:Bool} {len cap m h l:Nat} (hm:cH gA len len=some m) (CL:gA.isSome) (Cy:hi.isSome)
  (bI:cH hi m m=some h) (ak:cH lo 0 h=some l) (hle:len≤cap)
  (r1:eF J S w lo lo') (r2:eF J S w hi hi') (r3:eF J S w gA iR):(Instr.sliceBounds isS len cap lo' hi' iR).run P w=.ok (l,h,m) w∧l≤h∧h≤m∧m≤len:=by
 rcases mJ (P:=P) hm r3 hle with ⟨k,n,rfl,_,q,ag⟩ | ⟨rfl,rfl,_⟩
 ·rcases mJ (P:=P) bI r2 (sc _) with ⟨aP,cn,rfl,_,aW,fj⟩ | ⟨rfl,rfl,_⟩
  ·rcases mJ (P:=P) ak r1 (sc _) with ⟨k',iS,rfl,_,fL,bp⟩ | ⟨rfl,_,rfl⟩ <;>
    refine ⟨?_,by omega,by omega,by omega⟩ <;> simp [Instr.sliceBounds, *]
  ·simp at Cy
 ·simp at CL
theorem Rel.sub {cells:List I} {b o cap' n k:Nat} {f:Nat→Value} (d:Nat) (dV:il) (ao:dV=.full→cap'=n) (hle:n≤cap') (hu:∀ z,dV≠.uniq z)
  (h:∀ (j:Nat) (u:I),cells[j]?=some u→S b (o+j)∧w.cell? ⟨b,o+j,none⟩=some (f j)∧u.plain=true∧(f j).oneCell'=true)
  (aj:∀ (j:Nat) (u:I),cells[j]?=some u→Rel J S w u (f j)):Rel J S w (.ay ((cells.drop d).take k) n dV) (.slice (some ⟨b,o+d,none⟩) n cap'):=by
 refine .ay _ n dV b (o+d) cap' (fun j=>f (d+j)) ao hle hu (fun j u b_=>?_) (fun j u b_=>?_)
 ·rw [sT] at b_;split at b_
  ·rw [sX] at b_;have:=h (d+j) u b_
   rwa [show o+d+j=o+(d+j) by omega]
  ·simp at b_
 ·rw [sT] at b_;split at b_
  ·rw [sX] at b_;exact aj (d+j) u b_
  ·simp at b_
theorem Rel.empty (c:il) (hu:∀ z,c≠.uniq z) (b o cap:Nat) (ao:c=.full→cap=0):Rel J S w (.ay [] 0 c) (.slice (some ⟨b,o,none⟩) 0 cap) :=
 .ay [] 0 c b o cap (fun _=>undef) ao (Nat.zero_le _) hu (by simp) (by simp)
theorem EK {t:TypeId} {u r:I} {x:Value} {lo hi gA:Option I} {lo' hi' iR:Option Value} (aj:eR P t u lo hi gA=some r) (aC:u.plain=true)
  (ad:Rel J S w u x) (r1:eF J S w lo lo') (r2:eF J S w hi hi') (r3:eF J S w gA iR) :
  ∃ v,(Instr.sliceAt t x lo' hi' iR).run P w=.ok v w∧Rel J S w r v∧r.plain=true:=by
 unfold eR at aj;split at aj
 ·rename_i e cells len c aZ;simp only [se] at aj;obtain ⟨s,ai,aj⟩:=aj;have pl:∀ (cs:List I) (n:Nat) (p:Prop) [Decidable p],(I.ay cs n (if p then .full else .shared)).plain=true:=fun cs n p _=>by split <;> rfl
  have pc:∀ (p:Prop) [Decidable p] (z:Nat),(if p then il.full else il.shared)≠.uniq z:=fun p _ z=>by split <;> simp
  split at aj
  ·simp only [se] at aj;obtain ⟨h,bI,l,ak,aj⟩:=aj;simp at aj;subst aj;cases iR with
   | some _=>simp [eF] at r3
   | none =>
   cases ad with
   | b1 c a =>
     obtain ⟨q,q1,aW⟩:=hE (P:=P) (isS:=true) (cap:=0) bI ak (by omega) r1 r2;(obtain rfl:h=0:=by omega);(obtain rfl:l=0:=by omega);exact ⟨.slice a 0 0,by cases a <;> simp [Instr.sliceAt,Instr.slice,run_underlying aZ,q,run_sizeOf ai,Addr.add],by simpa using .b1 _ _,pl _ _ _⟩
   | cK=>simp [I.plain] at aC
   | ay cells len c b o cap f ao hle hu bu b9 =>
     obtain ⟨q,q1,aW⟩:=hE (P:=P) (isS:=true) (cap:=cap) bI ak hle r1 r2;refine ⟨_,by simp [Instr.sliceAt,Instr.slice,run_underlying aZ,q,run_sizeOf ai];rfl,?_,pl _ _ _⟩;by_cases ej:cap=l
     ·(obtain rfl:h=l:=by omega);simp only [ej,if_true,tU,vk,tq];exact Rel.empty _ (pc _) _ _ _ (by simp)
     ·simp only [ej,if_false,add_lit];refine Rel.sub _ _ (fun he=>?_) (by omega) (pc _) bu b9;split at he
      ·rename_i hW;rw [ao hW.1,hW.2]
      ·simp at he
  ·rename_i Ge Ga;simp only [se] at aj;obtain ⟨m,hm,h,bI,l,ak,aj⟩:=aj;simp at aj;subst aj;cases ad with
   | b1 c a =>
     obtain ⟨q,q1,aW,cz⟩:=xF (P:=P) (isS:=true) (cap:=0) hm rfl rfl bI ak (by omega) r1 r2 r3;(obtain rfl:m=0:=by omega);(obtain rfl:h=0:=by omega);(obtain rfl:l=0:=by omega);exact ⟨.slice a 0 0,by cases a <;> simp [Instr.sliceAt,Instr.slice,run_underlying aZ,q,run_sizeOf ai,Addr.add],by simpa using .b1 _ _,pl _ _ _⟩
   | cK=>simp [I.plain] at aC
   | ay cells len c b o cap f ao hle hu bu b9 =>
     obtain ⟨q,q1,aW,cz⟩:=xF (P:=P) (isS:=true) (cap:=cap) hm rfl rfl bI ak hle r1 r2 r3;refine ⟨_,by simp [Instr.sliceAt,Instr.slice,run_underlying aZ,q,run_sizeOf ai];rfl,?_,pl _ _ _⟩;by_cases ej:m=l
     ·(obtain rfl:h=l:=by omega);simp only [ej,if_true,tU,vk,tq];exact Rel.empty _ (by simp) _ _ _ (by simp)
     ·simp only [ej,if_false,add_lit];refine Rel.sub _ _ (fun he=>?_) (by omega) (pc _) bu b9;split at he
      ·rename_i hW;rw [hW]
      ·simp at he
  ·simp at aj
 ·rename_i e id off len cap sz aZ;simp only [se] at aj;obtain ⟨s,ai,aj⟩:=aj;split at aj
  ·simp at aj
  ·rename_i bP;(obtain rfl:s=sz:=by simpa using bP);split at aj
   ·simp only [se] at aj;obtain ⟨h,bI,l,ak,aj⟩:=aj;cases iR with
    | some _=>simp [eF] at r3
    | none =>
    cases ad with
    | ref id off len c sz b cap' ag ao hle =>
      obtain ⟨q,q1,aW⟩:=hE (P:=P) (isS:=true) (cap:=cap') bI ak hle r1 r2;split at aj
      ·rename_i Gb;simp at aj;subst aj
       have:cap'≠l:=by omega
       refine ⟨_,by simp [Instr.sliceAt,Instr.slice,run_underlying aZ,q,run_sizeOf ai,this,add_lit];rfl,.ref _ _ _ _ _ b _ ag (fun n aN=>?_) (by omega),rfl⟩;simp only [rZ] at aN;obtain ⟨gO,Ce,rfl⟩:=aN;rw [ao gO Ce]
      ·simp at aj;subst aj;(obtain rfl:h=l:=by omega);refine ⟨_,by simp [Instr.sliceAt,Instr.slice,run_underlying aZ,q,run_sizeOf ai];rfl,?_,rfl⟩;split
       ·exact Rel.empty _ (by simp) _ _ _ (by simp)
       ·simp only [add_lit];exact Rel.empty _ (by simp) _ _ _ (by simp)
   ·simp only [se] at aj;obtain ⟨m,hm,h,bI,l,ak,aj⟩:=aj;cases ad with
    | ref id off len c sz b cap' ag ao hle =>
      obtain ⟨q,q1,aW,cz⟩:=xF (P:=P) (isS:=true) (cap:=cap') hm rfl rfl bI ak hle r1 r2 r3;split at aj
      ·rename_i ej;split at aj
       ·rename_i jE;simp at aj;subst aj;refine ⟨_,by simp [Instr.sliceAt,Instr.slice,run_underlying aZ,q,run_sizeOf ai,ej];rfl,.ref _ _ _ _ _ b _ ag (fun n aN=>by simpa [ej] using aN) (by omega),rfl⟩
       ·simp at aj
      ·rename_i ej;simp at aj;subst aj;exact ⟨_,by simp [Instr.sliceAt,Instr.slice,run_underlying aZ,q,run_sizeOf ai,ej,add_lit];rfl,.ref _ _ _ _ _ b _ ag (fun n aN=>by simpa using aN) (by omega),rfl⟩
   ·simp at aj
 ·rename_i n e id off aZ;simp only [se] at aj;obtain ⟨s,ai,aj⟩:=aj;split at aj
  ·simp only [se] at aj;obtain ⟨h,bI,l,ak,aj⟩:=aj;cases iR with
   | some _=>simp [eF] at r3
   | none =>
   cases ad with
   | ptr id off b ag =>
     obtain ⟨q,q1,aW⟩:=hE (P:=P) (isS:=false) (cap:=n) bI ak (sc _) r1 r2;split at aj
     ·simp at aj
     ·rename_i ej;simp at aj;subst aj;exact ⟨_,by simp [Instr.sliceAt,Instr.sureAddr,run_underlying aZ,q,run_sizeOf ai,ej,add_lit];rfl,.ref _ _ _ _ _ b _ ag (fun n aN=>by simpa using aN) (by omega),rfl⟩
  ·simp at aj
 ·simp at aj
end
end Go.Proofs.YtfakoboiahbhaaaGreat.Ab


namespace Go.Proofs.YtfakoboiahbhaaaGreat.Ab
open Go
section
variable {P:Program} {B:Nat} {J:List Nat} {w:World} {H:List au} {U:Nat→Option aI} {S:Nat→Nat→Prop}
theorem gl.frame {az:Nat→Option aI} {bZ:List Nat} {S':Nat→Nat→Prop} {w':World} (bK:Ext J bZ)
  (cm:∀ b o,S b o→S' b o∧w'.cell? ⟨b,o,none⟩=w.cell? ⟨b,o,none⟩) {id:Nat}
  (av:∀ b l,U b=some l→(l=.obj id∨∃ j,l=.cell id j)→az b=some l∧w'.heap[b]?=w.heap[b]?∧∀ o,S' b o→S b o)
  {o:au} (h:gl U J S w id o):gl az bZ S' w' id o:=by
 cases o with
 | dead=>trivial
 | cells l =>
   obtain ⟨b,cur,e,aB,aH,aR,bj,bb,bf⟩:=h;obtain ⟨aJ,aP,cj⟩:=av b _ aH (.inl rfl);refine ⟨b,cur,e,bK _ _ aB,aJ,aP.trans aR,bj,fun o ai=>bb o (cj o ai),fun j u v hu ae=>?_⟩;obtain ⟨a',gO,bk,bq⟩:=bf j u v hu ae;exact ⟨a',gO,bk.mono bK cm,bq.mono bK cm fun b ag=>av b _ ag (.inr ⟨j,rfl⟩)⟩
 | grow l gid z =>
   obtain ⟨b,cur,e,aB,aH,aR,bj,bb,bf,cap,c0,c'⟩:=h;obtain ⟨aJ,aP,cj⟩:=av b _ aH (.inl rfl);refine ⟨b,cur,e,bK _ _ aB,aJ,aP.trans aR,bj,fun o ai=>bb o (cj o ai),fun j u v hu ae=>?_,cap,bK _ _ c0,c'⟩;obtain ⟨a',gO,bk,bq⟩:=bf j u v hu ae;exact ⟨a',gO,bk.mono bK cm,bq.mono bK cm fun b ag=>av b _ ag (.inr ⟨j,rfl⟩)⟩
 | loop st cF fn T params assign body jo =>
   obtain ⟨al,a0,b,L,aB,aH,aR,bj,bb,bf,c0,c',dD⟩:=h;obtain ⟨aJ,aP,cj⟩:=av b _ aH (.inl rfl);exact ⟨al,a0,b,L,bK _ _ aB,aJ,aP.trans aR,bj,bb,bf,c0,fun i u v hu ae=>⟨(c' i u v hu ae).1,(c' i u v hu ae).2.mono bK cm⟩,dD⟩
 | map es clock =>
   obtain ⟨b,bw,aB,aH,aR,bj,bb,bf⟩:=h;obtain ⟨aJ,aP,cj⟩:=av b _ aH (.inl rfl)
   exact ⟨b,bw,bK _ _ aB,aJ,aP.trans aR,bj,fun o ai=>bb o (cj o ai),fun j i k v x hu ae =>
    let ⟨a',bk,bq,b7,dW⟩:=bf j i k v x hu ae;⟨a',bk,bq.mono bK cm,b7,dW.mono bK cm⟩⟩
 | iter m s e t =>
   obtain ⟨b,ec,aB,aH,aR,bj,bb⟩:=h;obtain ⟨aJ,aP,cj⟩:=av b _ aH (.inl rfl);exact ⟨b,ec,bK _ _ aB,aJ,bK _ _ aR,aP.trans bj,fun o ai=>bb o (cj o ai)⟩
theorem aL.frame {az:Nat→Option aI} {S':Nat→Nat→Prop} {w':World} (ah:aL B U J S w H) (aA:bg U S w az S' w')
  (av:∀ b l,U b=some l→((∃ id,l=.obj id)∨∃ id j,l=.cell id j)→az b=some l∧w'.heap[b]?=w.heap[b]?∧∀ o,S' b o→S b o)
  (aG:∀ b o,S' b o→∃ v,w'.cell? ⟨b,o,none⟩=some v) (a6:∀ b l,az b=some l→B≤b∧b<w'.heap.size):aL B az J S' w' H :=
 ⟨ah.cE,fun id o aq=>(ah.obj id o aq).frame (Ext.refl J) aA.set (fun b l ag ak=>av b l ag (by
  rcases ak with rfl | ⟨j,rfl⟩
  ·exact .inl ⟨id,rfl⟩
  ·exact .inr ⟨id,j,rfl⟩)),aG,a6,sH ah.cX aA.size⟩
theorem aL.push (ah:aL B U J S w H) (n:Nat) {o:au} (aq:gl U (J++[n]) S w H.length o):aL B U (J++[n]) S w (H++[o]) where
 cE:=by simp [ah.cE]
 obj id cL h:=by
  rcases vH id H.length with aU | rfl | F'
  ·rw [sB aU] at h;exact (ah.obj id cL h).frame (Ext.append J [n]) (fun b o ai=>⟨ai,rfl⟩) fun b l ag _=>⟨ag,rfl,fun o ai=>ai⟩
  ·simp at h;subst h;exact aq
  ·rw [sJ (by omega)] at h
   have:id-H.length≠0:=by omega
   obtain ⟨k,av⟩:=Nat.exists_eq_succ_of_ne_zero this;rw [av] at h;simp at h
 cf:=ah.cf
 base:=ah.base
 cX:=ah.cX
theorem aL.od (ah:aL B U J S w H) {id:Nat} {l:List I} {g z:Nat} (aE:H[id]?=some (.grow l g z)):aL B U J S w (H.set id (.cells l)):=by
 refine ⟨by simpa using ah.cE,fun bx o aq=>?_,ah.cf,ah.base,ah.cX⟩;by_cases cu:bx=id
 ·subst cu;rw [sg (sa.1 aE).1] at aq;cases aq;obtain ⟨b,cur,e,aB,aH,aR,bj,bb,bf,_⟩:=ah.obj bx _ aE;exact ⟨b,cur,e,aB,aH,aR,bj,bb,bf⟩
 ·rw [si (Ne.symm cu)] at aq;exact ah.obj bx o aq
theorem aL.xp (ah:aL B U J S w H) {id:Nat} {l:List I} {g z b cap:Nat} {cur:Array Value} {e:TypeId} (aE:H[id]?=some (.cells l)) (ag:J[id]?=some b) (aO:J[g]?=some cap)
  (hm:cap≤maxLen) (bm:0<z) (ao:w.heap[b]?=some (.cells cur e (0,0))) (ai:cur.size=cap*z):aL B U J S w (H.set id (.grow l g z)):=by
 refine ⟨by simpa using ah.cE,fun bx o aq=>?_,ah.cf,ah.base,ah.cX⟩;by_cases cu:bx=id
 ·subst cu;rw [sg (sa.1 aE).1] at aq;cases aq;obtain ⟨ar,cur',cM,aB,aH,aR,bj,bb,bf⟩:=ah.obj bx _ aE;rw [ag] at aB;cases aB;rw [ao] at aR;cases aR;exact ⟨b,cur,e,ag,aH,ao,bj,bb,bf,cap,aO,hm,bm,ai⟩
 ·rw [si (Ne.symm cu)] at aq;exact ah.obj bx o aq
def lay (U:Nat→Option aI) (n:Nat) (l:aI):Nat→Option aI:=fun b=>if b=n then some l else U b
theorem oD (o:Obj) {b i:Nat} (ag:b<w.heap.size):(w.alloc o).cell? ⟨b,i,none⟩=w.cell? ⟨b,i,none⟩:=by
 have:(w.alloc o).heap[b]?=w.heap[b]?:=heap_alloc_old w o b ag
 unfold World.cell?;simp only [this]
theorem kh (ah:aL B U J S w H) (o:Obj) (l:aI):bg U S w (lay U w.heap.size l) S (w.alloc o) where
 os:=rfl
 tape:=rfl
 output:=rfl
 size:=by simp
 cD b ag _:=heap_alloc_old w o b ag
 set b cL ai:=⟨ai,by obtain ⟨v,ae⟩:=ah.cf b cL ai;exact oD o (mq ae)⟩
 fresh _ _ ai:=.inl ai
 own b ag:=by
  unfold lay at ag;split at ag
  ·rename_i h;exact .inr (by omega)
  ·exact .inl ag
theorem nt (ah:aL B U J S w H) (o:Obj) (l:aI):aL B (lay U w.heap.size l) J S (w.alloc o) H:=by
 have aA:=kh ah o l;refine ah.frame aA (fun b l' ag _=>?_) (fun b cL ai=>?_) (fun b l' ag=>?_)
 ·have:=(ah.base b l' ag).2;exact ⟨by simp [lay,show b≠w.heap.size by omega,ag],heap_alloc_old w o b this,fun o ai=>ai⟩
 ·obtain ⟨v,ae⟩:=ah.cf b cL ai;exact ⟨v,((aA.set b cL ai).2).trans ae⟩
 ·unfold lay at ag;split at ag
  ·rename_i h;subst h;exact ⟨ah.cX,by simp⟩
  ·have:=ah.base b l' ag;exact ⟨this.1,by simp;omega⟩
theorem kg (U:Nat→Option aI) (S:Nat→Nat→Prop) (w:World):bg U S w U S w.drew :=
 ⟨rfl,rfl,rfl,sc _,fun _ _ _=>rfl,fun _ _ h=>⟨h,rfl⟩,fun _ _ h=>.inl h,fun _ h=>.inl h⟩
theorem l6 (ah:aL B U J S w H):aL B U J S w.drew H :=
 ah.frame (kg U S w) (fun _ _ ag _=>⟨ag,rfl,fun _ h=>h⟩) ah.cf ah.base
theorem mw (ah:aL B U J S w H) (o:Nat):¬ S w.heap.size o:=fun ai=>by
 obtain ⟨v,ae⟩:=ah.cf _ o ai;exact absurd (mq ae) (Nat.lt_irrefl _)
structure c3 (J:List Nat) (S:Nat→Nat→Prop) (w:World) (cs:List I) (vs:List Value):Prop where
 len:cs.length=vs.length
 rel:∀ (j:Nat) (u:I) (v:Value),cs[j]?=some u→vs[j]?=some v→u.plain=true∧v.oneCell'=true∧Rel J S w u v
theorem c3.mono {bZ:List Nat} {S':Nat→Nat→Prop} {w':World} {cs:List I} {vs:List Value} (h:c3 J S w cs vs) (bK:Ext J bZ)
  (cm:∀ b o,S b o→S' b o∧w'.cell? ⟨b,o,none⟩=w.cell? ⟨b,o,none⟩):c3 bZ S' w' cs vs :=
 ⟨h.len,fun j u v hu ae=>let ⟨a,b,c⟩:=h.rel j u v hu ae;⟨a,b,c.mono bK cm⟩⟩
theorem c3.append {a b:List I} {c d:List Value} (h:c3 J S w a c) (k:c3 J S w b d):c3 J S w (a++b) (c++d):=by
 refine ⟨by simp [h.len,k.len],fun j u v hu ae=>?_⟩;rcases sR j a.length with aw | aw
 ·rw [sB aw] at hu;rw [sB (h.len ▸ aw)] at ae;exact h.rel j u v hu ae
 ·rw [sJ aw] at hu;rw [sJ (h.len ▸ aw),←h.len] at ae;exact k.rel _ u v hu ae
theorem nN (ah:aL B U J S w H) {cs:List I} {vs:List Value} (ao:c3 J S w cs vs) (spare:List Value) (e:TypeId) (len cap z:Nat) (bm:0<z) (ak:cs.length=len*z)
  (o7:len≤cap) (hm:cap≤maxLen) (ai:vs.length+spare.length=cap*z) :
  a1 B U J S w H (.ay cs len (.uniq z)) (.slice (some ⟨w.heap.size,0,none⟩) len cap) (w.alloc (.cells (vs++spare).toArray e)):=by
 have aA:=kh ah (.cells (vs++spare).toArray e) .res;refine ⟨_,J,S,Ext.refl J,aA,nt ah _ .res,.cK _ _ _ _ _ _,.inr ⟨by simp [lay],rfl,o7,hm,bm,ak,⟨_,e,heap_alloc_new w _,by simp [ai],fun j u v hu ae=>?_⟩,mw ah⟩⟩;have aw:j<vs.length:=ao.len ▸ (sa.1 hu).1;have bc:vs[j]?=some v:=by simpa [sB aw] using ae
 obtain ⟨a,b,c⟩:=ao.rel j u v hu bc;exact ⟨a,b,c.mono (Ext.refl J) aA.set⟩
end
end Go.Proofs.YtfakoboiahbhaaaGreat.Ab


namespace Go.Proofs.YtfakoboiahbhaaaGreat.Ab
open Go
section
variable {P:Program} {B:Nat} {J:List Nat} {w:World} {H:List au} {U:Nat→Option aI} {S:Nat→Nat→Prop}
theorem AB {t:TypeId} {cs:List I} {b base off:Nat} {g:Nat→Value} {r:I}
  (ao:∀ (j:Nat) (u:I),cs[j]?=some u→w.cell? ⟨b,base+j,none⟩=some (g j)∧(g j).oneCell'=true∧Rel J S w u.view (g j)) (aj:er P t cs off=some r) :
  ∃ v,(loadVar t ⟨b,base+off,none⟩).run P w=.ok v w∧Rel J S w r v∧r.plain=true:=by
 unfold er at aj;cases ch:dI P t with
 | true =>
   obtain ⟨d,aZ⟩:=y6 ch;rw [ch] at aj;simp only [se] at aj;obtain ⟨s,ai,aj⟩:=aj;split at aj
   ·rename_i hle;simp only [Option.some.injEq] at aj;subst aj;have bu:∀ j,j<s→w.cell? ((⟨b,base+off,none⟩:Addr).add j)=some (g (off+j)):=fun j aw=>by
     (have aU:off+j<cs.length:=by omega);rw [add_lit,tD];exact (ao (off+j) _ (sk aU)).1
    have ak:=run_loadCells (P:=P) (w:=w) ⟨b,base+off,none⟩ s (fun j=>g (off+j)) bu;refine ⟨_,by simp only [loadVar,Sem.run_bind,gF aZ,ch,Result.andThen_ok,if_true,run_sizeOf ai,ak];rfl,.agg _ _ ?_ ?_ ?_ ?_,rfl⟩
    ·simp;omega
    ·intro u hu;obtain ⟨x,_,rfl⟩:=sm.1 hu;exact I.df x
    ·intro v ae;obtain ⟨j,aw,rfl⟩:=sm.1 ae;have aw:=List.mem_range.1 aw;(have aU:off+j<cs.length:=by omega);exact (ao (off+j) _ (sk aU)).2.1
    ·intro j u v hu ae;simp only [sr,rZ] at hu;obtain ⟨x,al,rfl⟩:=hu;rw [sT] at al;split at al
     ·rename_i aw;rw [sX] at al;simp [aw] at ae;subst ae;exact (ao (off+j) x al).2.2
     ·simp at al
   ·simp at aj
 | false =>
   rw [ch] at aj;simp only at aj;split at aj
   ·rename_i d aZ;simp only [rZ] at aj;obtain ⟨u,hu,rfl⟩:=aj;obtain ⟨ad,af,aG⟩:=ao off u hu;exact ⟨g off,by simp [loadVar,gF aZ,ch,load,Sem.run,ad],aG,I.df u⟩
   ·simp at aj
theorem k2 (ah:aL B U J S w H) {t:TypeId} {a r:I} {v:Value} (aj:dR P H t a=some r) (ad:Rel J S w a v) :
  ∃ x,(Instr.loadAt t v).run P w=.ok x w∧Rel J S w r x∧r.plain=true:=by
 unfold dR at aj;split at aj
 ·rename_i id off
  have key:∀ l:List I,(∃ b cur e,J[id]?=some b∧U b=some (.obj id)∧w.heap[b]?=some (.cells cur e (0,0))∧l.length≤cur.size∧(∀ o,¬ S b o) ∧
    ∀ (j:Nat) (u:I) (v:Value),l[j]?=some u→cur[j]?=some v→u.cT=true∧v.oneCell'=true∧Rel J S w u v∧aV U J S w (.cell id j) u v)→er P t l off=some r →
    ∃ x,(Instr.loadAt t v).run P w=.ok x w∧Rel J S w r x∧r.plain=true:=by
   rintro l ⟨b,cur,e,aB,aH,aR,bj,bb,bf⟩ aj;cases ad with
   | ptr id off ar ag =>
     rw [aB] at ag;cases ag;have facts:∀ (j:Nat) (u:I),l[j]?=some u→w.cell? ⟨b,0+j,none⟩=some (cur.getD j undef)∧(cur.getD j undef).oneCell'=true∧Rel J S w u.view (cur.getD j undef):=by
      intro j u hu;(have aw:j<cur.size:=by have:=(sa.1 hu).1;omega);have c5:cur[j]?=some cur[j]:=sC _;obtain ⟨a',gO,bk,_⟩:=bf j u _ hu c5;(have aO:cur.getD j undef=cur[j]:=by simp [Array.getD,aw]);rw [aO];exact ⟨by rw [cell_of_row w b _ cur e (0,0) aR,sP,c5],gO,bk.view a'⟩
     obtain ⟨x,al,b9⟩:=AB facts aj;rw [sP] at al;exact ⟨x,by simp [Instr.loadAt,Instr.sureAddr,al],b9⟩
  split at aj
  ·rename_i l aE;exact key l (ah.obj id _ aE) aj
  ·rename_i l g z aE;obtain ⟨b,cur,e,aB,aH,aR,bj,bb,bf,_⟩:=ah.obj id _ aE;exact key l ⟨b,cur,e,aB,aH,aR,bj,bb,bf⟩ aj
  ·simp at aj
 ·cases ad with
  | bU cells b o f h fl =>
    obtain ⟨x,al,b9⟩:=AB (J:=J) (S:=S) (w:=w) (b:=b) (base:=o) (g:=f) (fun j u hu=>⟨(h j u hu).2.1,(h j u hu).2.2.2,(fl j u hu).view (I.fZ (h j u hu).2.2.1)⟩) aj;rw [tP] at al;exact ⟨x,by simp [Instr.loadAt,Instr.sureAddr,al],b9⟩
 ·simp at aj
theorem yc (ah:aL B U J S w H) {l:aI} (ca:∀ id,l≠.obj id) (cn:∀ id j,l≠.cell id j) {u:I} {v:Value} {bF:List I} (ao:u.cells=some bF) (aj:Rel J S w u v) (aq:aV U J S w l u v) :
  ∃ S':Nat→Nat→Prop,(∀ b o,S b o→S' b o)∧(∀ b o,S' b o→S b o∨U b=some l)∧aL B U J S' w H∧v.cells.size=bF.length ∧
    (∀ x∈v.cells.toList,x.oneCell'=true) ∧
    ∀ (j:Nat) (bG:I) (br:Value),(bF.map I.settle)[j]?=some bG→v.cells[j]?=some br→bG.cT=true∧Rel J S' w bG br∧(bG.plain=true∨(j=0∧bF=[u]∧aV U J S' w l bG br)):=by
 have single:bF=[u]→v.cells=#[v]→v.oneCell'=true→∃ S':Nat→Nat→Prop,(∀ b o,S b o→S' b o)∧(∀ b o,S' b o→S b o∨U b=some l)∧aL B U J S' w H∧v.cells.size=bF.length ∧
   (∀ x∈v.cells.toList,x.oneCell'=true) ∧
   ∀ (j:Nat) (bG:I) (br:Value),(bF.map I.settle)[j]?=some bG→v.cells[j]?=some br→bG.cT=true∧Rel J S' w bG br∧(bG.plain=true∨(j=0∧bF=[u]∧aV U J S' w l bG br)):=by
  intro fF ae ad;subst fF;rw [ae];by_cases hu:u.cT=true
  ·refine ⟨S,fun _ _ h=>h,fun _ _ h=>.inl h,ah,rfl,by simp [ad],fun j bG br aw ed=>?_⟩;have ai:u.settle=u:=by
    unfold I.settle;split
    ·simp [I.cT] at hu
    ·rfl
   cases j with
   | zero=>simp [ai] at aw ed;subst aw ed;exact ⟨hu,aj,.inr ⟨rfl,rfl,aq⟩⟩
   | succ j=>simp at aw
  ·obtain ⟨cells,len,z,rfl⟩:∃ cells len z,u=.ay cells len (.uniq z):=by
    unfold I.cT at hu;split at hu
    ·exact ⟨_,_,_,rfl⟩
    ·simp at hu
   obtain ⟨a4,aJ,aP,cj,_,r2,r3⟩:=j5 ah aj aq;refine ⟨a4,aJ,aP,ah.settle aJ (fun b o h=>(aP b o h).imp id fun h=>⟨_,h,ca,cn⟩) cj,rfl,by simp [ad],fun j bG br aw ed=>?_⟩;cases j with
   | zero=>simp [I.settle] at aw ed;subst aw ed;exact ⟨rfl,r2,.inr ⟨rfl,rfl,r3⟩⟩
   | succ j=>simp at aw
 cases aj with
 | agg as vs h p one r =>
   simp [I.cells] at ao;subst ao;refine ⟨S,fun _ _ h=>h,fun _ _ h=>.inl h,ah,h,one,fun j bG br aw ed=>?_⟩;simp only [sr,rZ] at aw;obtain ⟨x,al,rfl⟩:=aw;have aC:=p x (sI al);have ai:x.settle=x:=by
    unfold I.settle;split
    ·simp [I.plain] at aC
    ·rfl
   rw [ai];exact ⟨I.fZ aC,r j x br al ed,.inl aC⟩
 | junk v=>simp [I.cells] at ao
 | tuple as vs h p r=>simp [I.cells] at ao
 | raw=>simp [I.cells] at ao
 | _=>simp [I.cells] at ao;exact single ao.symm rfl rfl
theorem Ext.last (ah:aL B U J S w H) (n:Nat):(J++[n])[H.length]?=some n:=by rw [←ah.cE];simp
theorem nM (ah:aL B U J S w H) (l:aI) (ca:∀ id,l≠.obj id) (cn:∀ id j,l≠.cell id j) {cs:List I} {vs:Array Value} (e:TypeId) (hlen:cs.length≤vs.size)
  (ao:∀ (j:Nat) (u:I) (v:Value),cs[j]?=some u→vs[j]?=some v→u.cT=true∧v.oneCell'=true∧Rel J S w u v∧(u.plain=true∨(j=0∧aV U J S w l u v))) :
  ∃ az,bg U S w az S (w.alloc (.cells vs e))∧aL B az (J++[w.heap.size]) S (w.alloc (.cells vs e)) (H++[.cells cs]):=by
 classical
 let az:Nat→Option aI:=fun b=>if b=w.heap.size then some (.obj H.length) else if U b=some l then some (.cell H.length 0) else U b
 have bM:∀ b l',U b=some l'→b≠w.heap.size:=fun b l' h=>by have:=(ah.base b l' h).2;omega
 have aA:bg U S w az S (w.alloc (.cells vs e)):=by
  have fQ:=kh ah (.cells vs e) (.obj H.length);refine ⟨fQ.os,fQ.tape,fQ.output,fQ.size,fQ.cD,fQ.set,fQ.fresh,fun b ag=>?_⟩;by_cases h:b=w.heap.size
  ·exact .inr (by omega)
  ·refine .inl fun aS=>ag ?_;simp [az,h,aS]
 have bW:aL B az J S (w.alloc (.cells vs e)) H:=by
  refine ah.frame aA (fun b l' ag ak=>?_) (fun b o ai=>?_) (fun b l' ag=>?_)
  ·have h:=bM b l' ag;(have dz:l'≠l:=by rcases ak with ⟨id,rfl⟩ | ⟨id,j,rfl⟩ <;> intro e <;> first | exact ca _ e.symm | exact cn _ _ e.symm);refine ⟨?_,heap_alloc_old w _ b (ah.base b l' ag).2,fun o ai=>ai⟩;simp [az,h,ag,dz]
  ·obtain ⟨v,ae⟩:=ah.cf b o ai;exact ⟨v,((aA.set b o ai).2).trans ae⟩
  ·by_cases h:b=w.heap.size
   ·subst h;exact ⟨ah.cX,by simp⟩
   ·have:∃ cv,U b=some cv:=by
     cases aS:U b with
     | none=>simp [az,h,aS] at ag
     | some cv=>exact ⟨cv,rfl⟩
    obtain ⟨cv,aS⟩:=this;have:=ah.base b cv aS;exact ⟨this.1,by simp;omega⟩
 refine ⟨az,aA,bW.push w.heap.size ⟨w.heap.size,vs,e,Ext.last ah _,by simp [az],heap_alloc_new w _,hlen,mw ah,fun j u v hu ae=>?_⟩⟩;obtain ⟨a',bk,bq,b7⟩:=ao j u v hu ae;refine ⟨a',bk,bq.mono (Ext.append J _) aA.set,?_⟩;rcases b7 with b7 | ⟨rfl,b7⟩
 ·exact aV.b3 b7
 ·refine b7.mono (Ext.append J _) aA.set fun b ag=>⟨?_,heap_alloc_old w _ b (ah.base b l ag).2,fun o ai=>ai⟩;simp [az,bM b l ag,ag]
theorem E7 (ah:aL B U J S w H) {l:aI} (ca:∀ id,l≠.obj id) (cn:∀ id j,l≠.cell id j) {u:I} {v:Value} {bF:List I} (ao:u.cells=some bF) (aj:Rel J S w u v) (aq:aV U J S w l u v) (e:TypeId) :
  ∃ x w',(Instr.box e v).run P w=.ok x w'∧a1 B U J S w (H++[.cells (bF.map I.settle)]) (.ptr H.length 0) x w':=by
 obtain ⟨S',aJ,aP,cc,bP,ek,c9⟩:=yc ah ca cn ao aj aq
 obtain ⟨az,aA,lK⟩:=nM (cs:=bF.map I.settle) (vs:=v.cells) cc l ca cn e (by simp [bP]) (fun j bG br hu ae=>by
  obtain ⟨aB,aH,aR⟩:=c9 j bG br hu ae
  exact ⟨aB,ek br (by simpa using vJ ae),aH,aR.imp id fun ⟨x,_,y⟩=>⟨x,y⟩⟩)
 refine ⟨.pointer (some ⟨w.heap.size,0,none⟩),w.alloc (.cells v.cells e),?_,az,_,S',Ext.append J _,(bg.settle aJ (fun b o h=>(aP b o h).imp id fun h=>⟨_,h⟩)).trans aA,lK,
  .ptr _ _ _ (Ext.last ah _),aV.b3 rfl⟩
 simp [Instr.box,newVar,newRow,newObj,Sem.run,World.alloc_eq]
theorem E8 (ah:aL B U J S w H) {u:I} {v:Value} {bF:List I} (ao:u.cells=some bF) (aC:bF.all I.plain=true) (aj:Rel J S w u v) (e:TypeId) :
  ∃ x w',(Instr.box e v).run P w=.ok x w'∧a1 B U J S w H (.bU bF) x w':=by
 rw [sy] at aC;have Cg:v.cells.size=bF.length∧(∀ x∈v.cells.toList,x.oneCell'=true)∧∀ (j:Nat) (bG:I) (br:Value),bF[j]?=some bG→v.cells[j]?=some br→Rel J S w bG br:=by
  have single:bF=[u]→v.cells=#[v]→v.oneCell'=true→v.cells.size=bF.length∧(∀ x∈v.cells.toList,x.oneCell'=true)∧∀ (j:Nat) (bG:I) (br:Value),bF[j]?=some bG→v.cells[j]?=some br→Rel J S w bG br:=by
   intro fF ae ad;subst fF;rw [ae];refine ⟨rfl,by simp [ad],fun j bG br aw ed=>?_⟩;cases j with
   | zero=>simp at aw ed;subst aw ed;exact aj
   | succ j=>simp at aw
  cases aj with
  | agg as vs h p one r =>
    simp [I.cells] at ao;subst ao;exact ⟨h,one,r⟩
  | junk v=>simp [I.cells] at ao
  | tuple as vs h p r=>simp [I.cells] at ao
  | raw=>simp [I.cells] at ao
  | _=>simp [I.cells] at ao;exact single ao.symm rfl rfl
 obtain ⟨bP,ek,c9⟩:=Cg
 let S':Nat→Nat→Prop:=fun b o=>S b o∨(b=w.heap.size∧o<bF.length)
 have hnew:(w.alloc (.cells v.cells e)).heap[w.heap.size]?=some (.cells v.cells e (0,0)):=heap_alloc_new w _;have bu:∀ o,(w.alloc (.cells v.cells e)).cell? ⟨w.heap.size,o,none⟩=v.cells[o]?:=fun o=>cell_of_row _ _ o v.cells e (0,0) hnew;have hold:∀ b o,S b o→(w.alloc (.cells v.cells e)).cell? ⟨b,o,none⟩=w.cell? ⟨b,o,none⟩:=fun b o ai=>by
  obtain ⟨x,al⟩:=ah.cf b o ai;exact oD _ (mq al)
 have aA:bg U S w U S' (w.alloc (.cells v.cells e)):=by
  refine ⟨rfl,rfl,rfl,by simp,fun b ag _=>heap_alloc_old w _ b ag,fun b o ai=>⟨.inl ai,hold b o ai⟩,fun b o ai=>?_,fun b ag=>.inl ag⟩;rcases ai with ai | ⟨rfl,_⟩
  ·exact .inl ai
  ·exact .inr (.inr (sc _))
 refine ⟨.pointer (some ⟨w.heap.size,0,none⟩),w.alloc (.cells v.cells e),by simp [Instr.box,newVar,newRow,newObj,Sem.run,World.alloc_eq],U,J,S',Ext.refl J,aA,ah.frame aA (fun b l ag _=>?_) (fun b o ai=>?_) (fun b l ag=>?_),
  .bU _ _ _ (fun j=>v.cells.getD j undef) (fun j bG aw=>?_) (fun j bG aw=>?_),aV.b3 rfl⟩
 ·have aU:=(ah.base b l ag).2;exact ⟨ag,heap_alloc_old w _ b aU,fun o ai=>ai.resolve_right fun h=>by omega⟩
 ·rcases ai with ai | ⟨rfl,aq⟩
  ·obtain ⟨x,al⟩:=ah.cf b o ai;exact ⟨x,(hold b o ai).trans al⟩
  ·exact ⟨_,(bu o).trans (sC (by omega))⟩
 ·have:=ah.base b l ag;exact ⟨this.1,by simp;omega⟩
 ·have aU:=(sa.1 aw).1;have ed:v.cells[j]?=some (v.cells.getD j undef):=by simp [Array.getD,bP,aU]
  rw [sP];exact ⟨.inr ⟨rfl,aU⟩,(bu j).trans ed,aC bG (sI aw),ek _ (by simpa using vJ ed)⟩
 ·have aU:=(sa.1 aw).1;have ed:v.cells[j]?=some (v.cells.getD j undef):=by simp [Array.getD,bP,aU]
  exact (c9 j bG _ aw ed).mono (Ext.refl J) aA.set
theorem FY {t:TypeId} {z:List I} (h:zeroCells P t=some z):∃ i v,P.info? t=some i∧i.zero=some v∧z=v.cells.toList.map hl∧∀ x∈v.cells.toList,x.oneCell'=true:=by
 simp only [zeroCells,se] at h;obtain ⟨v,⟨i,hi,ae⟩,h⟩:=h;split at h
 ·rename_i c9;simp at h;exact ⟨i,v,hi,ae,h.symm,sy.1 c9⟩
 ·simp at h
theorem hL {t:TypeId} {z:List I} (h:zeroCells P t=some z):∃ i v,P.info? t=some i∧i.zero=some v∧c3 J S w z v.cells.toList:=by
 obtain ⟨i,v,hi,ae,rfl,ek⟩:=FY h;refine ⟨i,v,hi,ae,by simp,fun j u br hu bc=>?_⟩;simp only [sr,bc,sd,Option.some.injEq] at hu;subst hu;exact ⟨mY _,ek br (sI bc),lq _ _ _ _⟩
theorem j2 {t:TypeId} {i:TypeInfo} {v:Value} (hi:P.info? t=some i) (ae:i.zero=some v):(zeroValue t).run P w=.ok v w:=by
 simp [zeroValue,typeInfo,hi,ae]
theorem E3 (ah:aL B U J S w H) {t:TypeId} {z:List I} (bm:zeroCells P t=some z) (fI:Value) :
  ∃ x w',(Instr.alloc t true fI).run P w=.ok x w'∧a1 B U J S w (H++[.cells z]) (.ptr H.length 0) x w':=by
 obtain ⟨i,v,hi,ae,ao⟩:=hL (J:=J) (S:=S) (w:=w) bm
 obtain ⟨az,aA,cc⟩:=nM (cs:=z) (vs:=v.cells) ah .res (by simp) (by simp) t (by have:=ao.len;simp at this;omega) (fun j u br hu bc=>by
  obtain ⟨a,b,c⟩:=ao.rel j u br hu (by simpa using bc)
  exact ⟨I.fZ a,b,c,.inl a⟩)
 refine ⟨.pointer (some ⟨w.heap.size,0,none⟩),w.alloc (.cells v.cells t),?_,az,_,S,Ext.append J _,aA,cc,.ptr _ _ _ (Ext.last ah _),aV.b3 rfl⟩;cases fI <;> simp [Instr.alloc,j2 hi ae,newVar,newRow,newObj,Sem.run,World.alloc_eq]
theorem E4 (ah:aL B U J S w H) {t:TypeId} {s:Nat} (bm:zeroCells P t=some [.ay [] 0 .full]) (fI:Value) :
  ∃ x w',(Instr.alloc t true fI).run P w=.ok x w'∧a1 B U J S w (H++[.cells [.ay [] 0 (.own s)]]) (.ptr H.length 0) x w':=by
 obtain ⟨i,v,hi,ae,ao⟩:=hL (J:=J) (S:=S) (w:=w) bm
 obtain ⟨az,aA,cc⟩:=nM (cs:=[.ay [] 0 (.own s)]) (vs:=v.cells) ah .res (by simp) (by simp) t (by have:=ao.len;simp at this;simp;omega) (fun j u br hu bc=>by
  cases j with
  | succ j=>simp at hu
  | zero =>
    simp at hu;subst hu;obtain ⟨a,b,c⟩:=ao.rel 0 _ br rfl (by simpa using bc);refine ⟨rfl,b,?_,.inr ⟨rfl,?_⟩⟩
    ·cases c with
     | b1 _ a=>exact .b1 _ a
     | ay _ _ _ bo o cap f ao hle hu h aj=>exact .ay _ _ _ bo o cap f (fun h=>by cases h) hle (fun z h=>by cases h) h aj
    ·cases c with
     | b1 _ a=>cases a with
       | none=>trivial
       | some a=>exact .inl ⟨rfl,rfl,rfl⟩
     | ay _ _ _ b o cap f ao hle hu h aj=>exact .inl ⟨rfl,ao rfl,rfl⟩)
 refine ⟨.pointer (some ⟨w.heap.size,0,none⟩),w.alloc (.cells v.cells t),?_,az,_,S,Ext.append J _,aA,cc,.ptr _ _ _ (Ext.last ah _),aV.b3 rfl⟩;cases fI <;> simp [Instr.alloc,j2 hi ae,newVar,newRow,newObj,Sem.run,World.alloc_eq]
theorem ie (z:List I):∀ n,(eX n z).length=n*z.length
 | 0=>by simp [eX]
 | n+1=>by simp [eX,ie z n,Nat.succ_mul,tb]
theorem z7 (z:List I):∀ (n j:Nat),j<n*z.length→(eX n z)[j]?=z[j % z.length]?
 | 0,j,h=>by simp at h
 | n+1,j,h=>by
   simp only [eX];rcases sR j z.length with aw | aw
   ·rw [sB aw,Nat.mod_eq_of_lt aw]
   ·rw [sJ aw,z7 z n _ (by rw [Nat.succ_mul] at h;omega),Nat.mod_eq_sub_mod aw]
theorem mQ {z:List I} {gg:Array Value} (h:c3 J S w z gg.toList) (bm:0<z.length) (n:Nat) :
  c3 J S w (eX n z) ((Array.range (n*z.length)).map (fun i=>gg[i % gg.size]!)).toList:=by
 have ak:z.length=gg.size:=by simpa using h.len
 refine ⟨by simp [ie],fun j u v hu ae=>?_⟩;have aw:j<n*z.length:=by have:=(sa.1 hu).1;rwa [ie] at this
 rw [z7 z n j aw] at hu;have hm:j % z.length<z.length:=Nat.mod_lt _ bm;refine h.rel (j % z.length) u v hu ?_;simp [aw] at ae;rw [←ak] at ae;have nn:j % z.length<gg.size:=ak ▸ hm;rw [getElem!_pos gg _ nn] at ae;simp [nn,ae]
theorem ig {n bytes:Nat} (h:fp n bytes=true):n*bytes≤140737488355328∧1≤bytes:=by
 simpa [fp] using h
theorem Fk (ah:aL B U J S w H) {t:TypeId} {n c:Int} {k k':IntKind} {z:List I} {sz:Nat} (aS:0≤n) (iK:n≤c) (bm:je P t c.toNat=some (z,sz)) :
  ∃ x w',(Instr.makeSlice t (.int k n) (.int k' c)).run P w=.ok x w'∧a1 B U J S w (H++[.cells z]) (.ref H.length 0 n.toNat (some c.toNat) sz) x w':=by
 unfold je at bm;split at bm
 ·rename_i e he;split at bm
  ·rename_i s ld bytes ai pK ag;split at bm
   ·rename_i ao;obtain ⟨jz,hW,o5⟩:=ao;simp only [Option.some.injEq,Prod.mk.injEq] at bm;obtain ⟨rfl,rfl⟩:=bm;obtain ⟨i,v,hi,ae,eA⟩:=hL (J:=J) (S:=S) (w:=w) pK;simp only [hi,sd,Option.some.injEq] at ag;subst ag;obtain ⟨r1,r2⟩:=ig o5;have fG:=mQ eA (by omega) c.toNat;have o8:c.toNat≤140737488355328:=sH (uo _ r2) r1;(have eo:ld.length=v.cells.size:=by simpa using eA.len);(have bP:i.size=s:=by obtain ⟨ny,hi',h⟩:=mO ai;rw [hi] at hi';cases hi';exact h);have lO:(i.bytes:Int)*c≤281474976710656:=by
     have:(i.bytes:Int)*c=((c.toNat*i.bytes:Nat):Int):=by rw [vK,tQ (by omega),Int.mul_comm]
     rw [this];omega
    have dL:=run_make (P:=P) w t e i v he hi ae k k' n c aS iK lO (by omega);have pr:(madeCells v.cells (c.toNat*i.size)).toList=((Array.range (c.toNat*ld.length)).map (fun i=>v.cells[i % v.cells.size]!)).toList:=by
     rw [bP,←jz];rfl
    rw [←pr] at fG
    obtain ⟨az,aA,cc⟩:=nM (cs:=eX c.toNat ld) (vs:=madeCells v.cells (c.toNat*i.size)) ah .res (by simp) (by simp) e (by have:=fG.len;simp at this ⊢;omega) (fun j u br hu bc=>by
     obtain ⟨a,b,c⟩:=fG.rel j u br hu (by simpa using bc)
     exact ⟨I.fZ a,b,c,.inl a⟩)
    exact ⟨_,_,dL,az,_,S,Ext.append J _,aA,cc,.ref _ _ _ _ _ _ _ (Ext.last ah _) (fun m hm=>by simpa using hm) (by omega),aV.b3 rfl⟩
   ·simp at bm
  ·simp at bm
 ·simp at bm
theorem Fl (ah:aL B U J S w H) {t:TypeId} {c:Int} {k k':IntKind} {z:List I} {sz:Nat} (aS:0≤c) (bm:je P t c.toNat=some (z,sz)) :
  ∃ x w',(Instr.makeSlice t (.int k c) (.int k' c)).run P w=.ok x w'∧a1 B U J S w H (.ay z c.toNat (.uniq sz)) x w':=by
 unfold je at bm;split at bm
 ·rename_i e he;split at bm
  ·rename_i s ld bytes ai pK ag;split at bm
   ·rename_i ao;obtain ⟨jz,hW,o5⟩:=ao;simp only [Option.some.injEq,Prod.mk.injEq] at bm;obtain ⟨rfl,rfl⟩:=bm;obtain ⟨i,v,hi,ae,eA⟩:=hL (J:=J) (S:=S) (w:=w) pK;simp only [hi,sd,Option.some.injEq] at ag;subst ag;obtain ⟨r1,r2⟩:=ig o5;have fG:=mQ eA (by omega) c.toNat;have o8:c.toNat≤140737488355328:=sH (uo _ r2) r1;(have eo:ld.length=v.cells.size:=by simpa using eA.len);(have bP:i.size=s:=by obtain ⟨ny,hi',h⟩:=mO ai;rw [hi] at hi';cases hi';exact h);have lO:(i.bytes:Int)*c≤281474976710656:=by
     have:(i.bytes:Int)*c=((c.toNat*i.bytes:Nat):Int):=by rw [vK,tQ (by omega),Int.mul_comm]
     rw [this];omega
    have dL:=run_make (P:=P) w t e i v he hi ae k k' c c (by omega) (Int.le_refl _) lO (by omega);have pr:(madeCells v.cells (c.toNat*i.size)).toList=((Array.range (c.toNat*ld.length)).map (fun i=>v.cells[i % v.cells.size]!)).toList:=by
     rw [bP,←jz];rfl
    rw [←pr] at fG;have iL:=nN ah fG [] e c.toNat c.toNat s hW (by rw [ie,jz]) (sc _) (by simp only [maxLen];omega) (by rw [←fG.len,ie,jz];simp);simp only [sU,uq] at iL;exact ⟨_,_,dL,iL⟩
   ·simp at bm
  ·simp at bm
 ·simp at bm
end
end Go.Proofs.YtfakoboiahbhaaaGreat.Ab


namespace Go.Proofs.YtfakoboiahbhaaaGreat.Ab
open Go
section
variable {P:Program} {B:Nat} {J:List Nat} {w:World} {H:List au} {U:Nat→Option aI} {S:Nat→Nat→Prop}
theorem mL:∀ (vs:List I) (off:Nat) (cs:List I),(setCells off vs cs).length=cs.length
 | [],_,_=>rfl
 | v::vs,off,cs=>by simp [setCells,mL vs]
theorem n7:∀ (vs:List I) (off:Nat) (cs:List I) (j:Nat),off+vs.length≤cs.length →
  (setCells off vs cs)[j]?=if off≤j∧j<off+vs.length then vs[j-off]? else cs[j]?
 | [],off,cs,j,_=>by simp [setCells];omega
 | v::vs,off,cs,j,h=>by
   simp only [sL] at h;rw [setCells,n7 vs (off+1) _ j (by simp;omega)];by_cases ad:j=off
   ·subst ad
    have:¬ (j+1≤j∧j<j+1+vs.length):=by omega
    rw [if_neg this,if_pos (by simp)];simp [show j<cs.length by omega]
   ·by_cases af:off+1≤j∧j<off+1+vs.length
    ·rw [if_pos af,if_pos (by simp;omega)];obtain ⟨k,rfl⟩:∃ k,j=off+1+k:=⟨j-(off+1),by omega⟩;rw [show off+1+k-off=k+1 by omega,show off+1+k-(off+1)=k by omega];simp
    ·rw [if_neg af,if_neg (by simp;omega)];rw [si (fun e=>ad e.symm)]
theorem j3 (cur vs:List Value) (off j:Nat) (h:off+vs.length≤cur.length) :
  (cur.take off++vs++cur.drop (off+vs.length))[j]?=if off≤j∧j<off+vs.length then vs[j-off]? else cur[j]?:=by
 have ax:(cur.take off).length=off:=by simp;omega
 by_cases ad:j<off
 ·rw [if_neg (by omega),sA,sB (by omega),sT,if_pos ad]
 ·by_cases af:j<off+vs.length
  ·rw [if_pos ⟨by omega,af⟩,sA,sJ (by omega),ax,sB (by omega)]
  ·rw [if_neg (by omega),sJ (by simp;omega)];simp only [su,ax,sX];congr 1;omega
theorem xf (ah:aL B U J S w H) {id:Nat} {l l':List I} (aE:H[id]?=some (.cells l)) {b:Nat} {cur cur':Array Value} {e:TypeId} (aB:J[id]?=some b) (aH:U b=some (.obj id))
  (aR:w.heap[b]?=some (.cells cur e (0,0))) (bb:∀ o,¬ S b o) (L:aI) (ca:∀ id,L≠.obj id) (cn:∀ id j,L≠.cell id j) (ak:l'.length≤cur'.size) (y8:Nat)
  (ao:∀ (j:Nat) (u:I) (v:Value),l'[j]?=some u→cur'[j]?=some v→u.cT=true∧v.oneCell'=true∧Rel J S w u v ∧
   (u.plain=true∨aV U J S w (.cell id j) u v∨(j=y8∧aV U J S w L u v))) :
  ∃ az,bg U S w az S (w.setRow b cur')∧aL B az J S (w.setRow b cur') (H.set id (.cells l')):=by
 classical
 let az:Nat→Option aI:=fun ar=>if U ar=some L then some (.cell id y8) else U ar
 have bu:∀ ar o,ar≠b→(w.setRow b cur').cell? ⟨ar,o,none⟩=w.cell? ⟨ar,o,none⟩:=fun ar o h=>by
  unfold World.cell?;simp only [setRow_other w b ar cur' h]
 have hp:∀ ar o,S ar o→ar≠b:=fun ar o ai e=>bb o (e ▸ ai);have yv:L≠.obj id:=ca id;have pn:∀ ar cv,U ar=some cv→cv≠L→az ar=some cv:=fun ar cv h aN=>by
  have:¬ U ar=some L:=by rw [h];intro e;cases e;exact aN rfl
  simp [az,h,aN]
 have bP:(w.setRow b cur').heap.size=w.heap.size:=by simp [World.setRow]
 have aA:bg U S w az S (w.setRow b cur'):=by
  refine ⟨rfl,rfl,rfl,by omega,fun ar bp aN=>setRow_other w b ar cur' (fun e=>by subst e;rw [aH] at aN;cases aN),fun ar o ai=>⟨ai,bu ar o (hp ar o ai)⟩,fun ar o ai=>.inl ai,fun ar bp=>?_⟩;refine .inl fun aS=>bp ?_;simp [az,aS]
 refine ⟨az,aA,by simpa using ah.cE,fun bx o aq=>?_,fun ar o ai=>?_,fun ar cv bp=>?_,by rw [bP];exact ah.cX⟩
 ·by_cases gV:bx=id
  ·subst gV;rw [sg (sa.1 aE).1] at aq;cases aq;refine ⟨b,cur',e,aB,pn b _ aH (fun e=>yv e.symm),setRow_heap w b cur cur' e (0,0) aR,ak,bb,fun j u v hu ae=>?_⟩;obtain ⟨a',bk,bq,b7⟩:=ao j u v hu ae;refine ⟨a',bk,bq.mono (Ext.refl J) aA.set,?_⟩;rcases b7 with b7 | b7 | ⟨rfl,b7⟩
   ·exact aV.b3 b7
   ·exact b7.mono (Ext.refl J) aA.set fun ar bp=>⟨pn ar _ bp (fun e=>cn _ _ e.symm),setRow_other w b ar cur' (fun e=>by subst e;rw [aH] at bp;cases bp),fun o ai=>ai⟩
   ·exact b7.mono (Ext.refl J) aA.set fun ar bp=>⟨by simp [az,bp],setRow_other w b ar cur' (fun e=>by subst e;rw [aH] at bp;cases bp;exact yv rfl),fun o ai=>ai⟩
  ·rw [si (fun e=>gV e.symm)] at aq;refine (ah.obj bx o aq).frame (Ext.refl J) aA.set fun ar cv bp jE=>?_;have bM:ar≠b:=fun e=>by
    subst e;rw [aH] at bp;cases bp;rcases jE with h | ⟨j,h⟩
    ·cases h;exact gV rfl
    ·cases h
   exact ⟨pn ar cv bp (by rcases jE with rfl | ⟨j,rfl⟩ <;> intro e <;> first | exact ca _ e.symm | exact cn _ _ e.symm),setRow_other w b ar cur' bM,fun o ai=>ai⟩
 ·obtain ⟨v,ae⟩:=ah.cf ar o ai;exact ⟨v,(bu ar o (hp ar o ai)).trans ae⟩
 ·rw [bP];by_cases h:U ar=some L
  ·exact ah.base ar L h
  ·simp only [az,h,if_false] at bp;exact ah.base ar cv bp
theorem Fv (ah:aL B U J S w H) {l:aI} (ca:∀ id,l≠.obj id) (cn:∀ id j,l≠.cell id j) {lo:Nat} {t:TypeId} {a u:I} {x v:Value} {H':List au} (h:iy P lo H t a u=some H')
  (cd:Rel J S w a x) (aj:Rel J S w u v) (aq:aV U J S w l u v) (y:Value) :
  ∃ w',(Instr.storeAt t x v).run P w=.ok () w'∧a1 B U J S w H' .junk y w':=by
 have key:∀ {H H':List au} (_:aL B U J S w H) {id off s:Nat} (_:bS P t=some s) {bF:List I} (_:u.cells=some bF) {ll l':List I} (_:H[id]?=some (.cells ll))
   (_:(if bF.length=s∧off+s≤ll.length then some (setCells off (bF.map I.settle) ll) else none)=some l') (_:Rel J S w (.ptr id off) x) (_:H'=H.set id (.cells l')),
   ∃ w' b cur,(Instr.storeAt t x v).run P w=.ok () w'∧a1 B U J S w H' .junk y w'∧J[id]?=some b∧(∃ e,w.heap[b]?=some (.cells cur e (0,0)))∧∃ cur' e,w'.heap[b]?=some (.cells cur' e (0,0))∧cur'.size=cur.size:=by
  intro H H' ah id off s ai bF fF ll l' aE dz cd cc;subst cc
  ·
     split at dz
     ·rename_i gU;obtain ⟨a',bk⟩:=gU;simp only [Option.some.injEq] at dz;subst dz;obtain ⟨S',aJ,aP,cc,bP,ek,c9⟩:=yc ah ca cn fF aj aq;obtain ⟨b,cur,e,aB,aH,aR,bj,bb,bf⟩:=cc.obj id _ aE;cases cd with
      | ptr id off ar ag =>
        rw [aB] at ag;cases ag;have cJ:=run_storeCells_at P b off e v.cells.toList 0 cur w aR (by simp [bP];omega) ek;simp only [tP] at cJ;obtain ⟨az,aA,lK⟩:=xf (cur':=(cur.toList.take off++v.cells.toList++cur.toList.drop (off+v.cells.toList.length)).toArray) (l':=setCells off (bF.map I.settle) ll) cc aE aB aH aR bb l ca cn
         (by simp [mL,bP];omega) off (fun j bG br hu ae=>by
          rw [n7 _ _ _ _ (by simp;omega)] at hu;(have ae:(cur.toList.take off++v.cells.toList++cur.toList.drop (off+v.cells.toList.length))[j]?=some br:=by simpa using ae);rw [j3 _ _ _ _ (by simp [bP];omega)] at ae;simp only [List.length_map,tw,bP] at hu ae;split at hu
          ·rename_i aw;rw [if_pos aw] at ae;obtain ⟨d1,d2,d3⟩:=c9 (j-off) bG br hu (by simpa using ae);refine ⟨d1,ek br (sI ae),d2,?_⟩;rcases d3 with d3 | ⟨d3,_,d4⟩
           ·exact .inl d3
           ·exact .inr (.inr ⟨by omega,d4⟩)
          ·rename_i aw;rw [if_neg aw] at ae;obtain ⟨d1,d0,d2,d3⟩:=bf j bG br hu (by simpa using ae)
           exact ⟨d1,d0,d2,.inr (.inl d3)⟩)
        refine ⟨_,b,cur,?_,⟨az,J,S',Ext.refl J,(bg.settle aJ (fun b o h=>(aP b o h).imp (fun h=>h) fun h=>⟨_,h⟩)).trans aA,lK,.junk y,aV.b3 rfl⟩,aB,⟨e,aR⟩,_,e,setRow_heap w b cur _ e (0,0) aR,?_⟩
        ·simp only [Instr.storeAt,Instr.sureAddr,storeVar,Sem.run_bind,Sem.run_pure,Result.andThen_ok,run_sizeOf ai];rw [if_neg (by rw [bP,a'];simp)];exact cJ
        ·simp [bP];omega
     ·simp at dz
 unfold iy at h;split at h
 ·rename_i id off s ai;split at h
  ·rename_i bF fF;unfold g7 at h;split at h
   ·split at h
    ·rename_i lo' ll aE;simp only [rZ] at h;obtain ⟨l',dz,rfl⟩:=h;obtain ⟨w',_,_,q1,aW,_⟩:=key ah ai fF aE dz cd rfl;exact ⟨w',q1,aW⟩
    ·rename_i lo' ll g z aE;simp only [rZ] at h;obtain ⟨l',dz,rfl⟩:=h;have aU:=(sa.1 aE).1;obtain ⟨b,cur,e,aB,aH,aR,bj,bb,bf,cap,c0,c',dD,fu⟩:=ah.obj id _ aE;obtain ⟨w',ar,BO,q1,⟨az,bZ,S',bR,b4,eC,fJ⟩,cz,⟨fQ,dP⟩,cur',cM,mF,xk⟩:=key (ah.od aE) ai fF (ll:=ll) (by rw [sg aU]) dz cd rfl;rw [aB] at cz;cases cz;rw [aR] at dP;cases dP;have aO:=eC.xp (g:=g) (z:=z) (by rw [sg (by simpa using aU)]) (bR _ _ aB) (bR _ _ c0) c' dD mF (by rw [xk,fu]);rw [sS,sS] at aO;exact ⟨w',q1,az,bZ,S',bR,b4,aO,fJ⟩
    ·simp at h
   ·simp at h
  ·simp at h
 ·simp at h
theorem Fw (ah:aL B U J S w H) {l:aI} (ca:∀ id,l≠.obj id) (cn:∀ id j,l≠.cell id j) {lo:Nat} {t:TypeId} {a u:I} {x v:Value} {H':List au} (h:lp P lo H t a u=some H')
  (cd:Rel J S w a x) (aj:Rel J S w u v) (aq:aV U J S w l u v) (y:Value) :
  ∃ w',(Instr.storeAt t x v).run P w=.ok () w'∧a1 B U J S w H' .junk y w':=by
 unfold lp at h;split at h
 ·rename_i id off c n z ai;split at h
  ·rename_i ao;obtain ⟨r1,r2⟩:=FJ ao.2 ao.1 aj aq;unfold g6 at h;split at h
   ·split at h
    ·rename_i lo' ll aE;simp only [rZ] at h;obtain ⟨l',dz,rfl⟩:=h;split at dz
     ·rename_i cW;simp only [Option.some.injEq] at dz;subst dz;obtain ⟨b,cur,e,aB,aH,aR,bj,bb,bf⟩:=ah.obj id _ aE;cases cd with
      | ptr id off ar ag =>
        rw [aB] at ag;cases ag;(have ek:∃ b o cap,v=.slice (some ⟨b,o,none⟩) n cap:=by cases r1 with | raw _ _ _ b o cap=>exact ⟨b,o,cap,rfl⟩);(have d_:v.cells=#[v]∧v.oneCell'=true:=by obtain ⟨b,o,cap,rfl⟩:=ek;exact ⟨rfl,rfl⟩);have cJ:=run_storeCells_at P b off e v.cells.toList 0 cur w aR (by rw [d_.1];simp;omega) (by rw [d_.1];simp [d_.2]);simp only [tP,d_.1] at cJ;obtain ⟨az,aA,lK⟩:=xf (cur':=(cur.toList.take off++[v]++cur.toList.drop (off+1)).toArray) (l':=ll.set off (.raw c n z)) ah aE aB aH aR bb l ca cn
         (by simp;omega) off (fun j bG br hu ae=>by
          (have ae:(cur.toList.take off++[v]++cur.toList.drop (off+1))[j]?=some br:=by simpa using ae);have dA:=j3 cur.toList [v] off j (by simp;omega);simp only [List.length_singleton] at dA;rw [dA] at ae;by_cases aw:off=j
          ·subst aw;rw [sg cW] at hu;cases hu;rw [if_pos ⟨by omega,by omega⟩] at ae;simp at ae;subst ae;exact ⟨rfl,d_.2,r1,.inr (.inr ⟨rfl,r2⟩)⟩
          ·rw [si aw] at hu;rw [if_neg (by omega)] at ae;obtain ⟨d1,d0,d2,d3⟩:=bf j bG br hu (by simpa using ae)
           exact ⟨d1,d0,d2,.inr (.inl d3)⟩)
        refine ⟨_,?_,az,J,S,Ext.refl J,aA,lK,.junk y,aV.b3 rfl⟩;simp only [Instr.storeAt,Instr.sureAddr,storeVar,Sem.run_bind,Sem.run_pure,Result.andThen_ok,run_sizeOf ai];rw [if_neg (by rw [d_.1];simp),d_.1];exact cJ
     ·simp at dz
    ·simp at h
   ·simp at h
  ·simp at h
 ·simp at h
theorem ic (ah:aL B U J S w H) {l:aI} (ca:∀ id,l≠.obj id) (cn:∀ id j,l≠.cell id j) {u:I} {v:Value} (aj:Rel J S w u v) (aq:aV U J S w l u v) :
  a1 B U J S w H u v w:=by
 classical
 let az:Nat→Option aI:=fun b=>if U b=some l then some .res else U b
 have aA:bg U S w az S w:=⟨rfl,rfl,rfl,sc _,fun _ _ _=>rfl,fun _ _ h=>⟨h,rfl⟩,fun _ _ h=>.inl h,fun b ag=>.inl fun aS=>ag (by simp [az,aS])⟩;refine ⟨az,J,S,Ext.refl J,aA,ah.frame aA (fun b l' ag ak=>?_) ah.cf (fun b l' ag=>?_),aj,aq.mono (Ext.refl J) aA.set fun b ag=>⟨by simp [az,ag],rfl,fun _ h=>h⟩⟩
 ·have bM:l'≠l:=by rcases ak with ⟨id,rfl⟩ | ⟨id,j,rfl⟩ <;> intro e <;> first | exact ca _ e.symm | exact cn _ _ e.symm
  exact ⟨by simp [az,ag,bM],rfl,fun _ h=>h⟩
 ·by_cases h:U b=some l
  ·exact ah.base b l h
  ·simp only [az,h,if_false] at ag;exact ah.base b l' ag
theorem zM (ah:aL B U J S w H) {l:aI} (ca:∀ id,l≠.obj id) (cn:∀ id j,l≠.cell id j) {cells:List I} {len z:Nat} (aS:len≠0) {v:Value}
  (aj:Rel J S w (.ay cells len (.uniq z)) v) (aq:aV U J S w l (.ay cells len (.uniq z)) v) :
  a1 B U J S w (H++[.cells cells]) (.ref H.length 0 len none z) v w:=by
 classical
 cases aj with
 | b1 c a=>exact absurd rfl aS
 | ay cells len c b o cap f ao hle hu h fl=>exact absurd rfl (hu z)
 | cK cells len z b o cap =>
   rcases aq with ⟨rfl,_,_⟩ | ⟨ad,aq,af,aG,a6,bL,⟨cur,e,bV,cN,cR⟩,cV⟩
   ·exact absurd rfl aS
   ·simp only at ad bV cV aq;subst aq
    let az:Nat→Option aI:=fun ar=>if ar=b then some (.obj H.length) else U ar
    have aA:bg U S w az S w:=⟨rfl,rfl,rfl,sc _,fun _ _ _=>rfl,fun _ _ h=>⟨h,rfl⟩,fun _ _ h=>.inl h,fun ar ag=>by
     by_cases dF:ar=b
     ·subst dF;exact .inl (by simp [ad])
     ·simp only [az,dF,if_false] at ag;exact .inl ag⟩
    have bW:aL B az J S w H:=by
     refine ah.frame aA (fun ar l' ag ak=>?_) ah.cf (fun ar l' ag=>?_)
     ·have bM:ar≠b:=fun e=>by
       subst e;rw [ad] at ag;cases ag;rcases ak with ⟨id,h⟩ | ⟨id,j,h⟩
       ·exact ca _ h
       ·exact cn _ _ h
      exact ⟨by simp [az,bM,ag],rfl,fun _ h=>h⟩
     ·by_cases dF:ar=b
      ·subst dF;exact ah.base _ l ad
      ·simp only [az,dF,if_false] at ag;exact ah.base ar l' ag
    refine ⟨az,_,S,Ext.append J [b],aA,bW.push b ⟨b,cur,e,Ext.last ah _,by simp [az],bV,by rw [cN,bL];exact tp _ af,cV,fun j u v hu ae=>?_⟩,
     .ref _ _ _ _ _ b _ (Ext.last ah _) (by simp) af,aV.b3 rfl⟩
    obtain ⟨a',bk,bq⟩:=cR j u v hu ae;exact ⟨I.fZ a',bk,bq.mono (Ext.append J _) aA.set,aV.b3 a'⟩
theorem xE (ah:aL B U J S w H) {u:I} {v:Value} {row:List I} (h:rowOf H u=some row) (aj:Rel J S w u v) (aN:u.cT=true) :
  (row=[]∧∃ a c,v=.slice a 0 c)∨∃ b o n c vs,v=.slice (some ⟨b,o,none⟩) n c∧c3 J S w row vs∧(∀ j x,vs[j]?=some x→w.cell? ⟨b,o+j,none⟩=some x):=by
 unfold rowOf at h;split at h
 ·rename_i cells len c;simp at h;subst h;cases aj with
  | b1 c a=>exact .inl ⟨rfl,a,_,rfl⟩
  | cK=>simp [I.cT] at aN
  | ay _ _ _ b o cap f ao hle hu bu b9 =>
    refine .inr ⟨b,o,len,cap,(List.range cells.length).map f,rfl,⟨by simp,fun j u v b_ bc=>?_⟩,fun j x al=>?_⟩
    ·have aw:=(sa.1 b_).1;simp [aw] at bc;subst bc;exact ⟨(bu j u b_).2.2.1,(bu j u b_).2.2.2,b9 j u b_⟩
    ·simp only [sr,rZ] at al;obtain ⟨k,av,rfl⟩:=al;(have aw:j<cells.length:=by have:=(sa.1 av).1;simpa using this);simp [aw] at av;subst av;exact (bu j _ (sk aw)).2.1
 ·rename_i id off len cap sz;split at h
  ·rename_i l aE;split at h
   ·rename_i hle;simp only [Option.some.injEq] at h;subst h;obtain ⟨b,cur,e,aB,aH,aR,bj,bb,bf⟩:=ah.obj id _ aE;cases aj with
    | ref id off len c sz ar cap' ag ao CG =>
      rw [aB] at ag;cases ag;refine .inr ⟨b,off,len,cap',(cur.toList.drop off).take (len*sz),rfl,⟨by simp;omega,fun j u v b_ bc=>?_⟩,fun j x al=>?_⟩
      ·simp only [sr,rZ] at b_;obtain ⟨y,a0,rfl⟩:=b_;rw [sT] at a0 bc;split at a0
       ·rename_i aw;rw [if_pos aw] at bc;rw [sX] at a0 bc;obtain ⟨d1,d0,d2,_⟩:=bf (off+j) y v a0 (by simpa using bc);exact ⟨I.df y,d0,d2.view d1⟩
       ·simp at a0
      ·rw [sT] at al;split at al
       ·rw [sX] at al;rw [cell_of_row w b _ cur e (0,0) aR];simpa using al
       ·simp at al
   ·simp at h
  ·simp at h
 ·simp at h
theorem mn {u:I} {v:Value} {n:Nat} (h:lenOf u=some n) (aj:Rel J S w u v):∃ a c,v=.slice a n c:=by
 unfold lenOf at h;split at h
 ·simp at h;subst h;cases aj with
  | b1 c a=>exact ⟨_,_,rfl⟩
  | ay=>exact ⟨_,_,rfl⟩
  | cK=>exact ⟨_,_,rfl⟩
 ·simp at h;subst h;cases aj with
  | ref=>exact ⟨_,_,rfl⟩
 ·simp at h
end
end Go.Proofs.YtfakoboiahbhaaaGreat.Ab


namespace Go.Proofs.YtfakoboiahbhaaaGreat.Ab
open Go
section
variable {P:Program} {B:Nat} {J:List Nat} {w:World} {H:List au} {U:Nat→Option aI} {S:Nat→Nat→Prop}
theorem a1.after {b2:Nat→Option aI} {cQ:List Nat} {a4:Nat→Nat→Prop} {bC:World} (bK:Ext J cQ) (aA:bg U S w b2 a4 bC) {H':List au} {r:I} {v:Value} {w':World} (h:a1 B b2 cQ a4 bC H' r v w'):a1 B U J S w H' r v w':=by
 obtain ⟨az,bZ,S',a,b,c,d,e⟩:=h;exact ⟨az,bZ,S',bK.trans a,aA.trans b,c,d,e⟩
theorem a1.settle {cells:List I} {len z:Nat} {v:Value} {w':World} {H':List au} (h:a1 B U J S w H' (.ay cells len (.uniq z)) v w'):a1 B U J S w H' (.ay cells len (.own z)) v w':=by
 obtain ⟨az,bZ,S',a,b,c,d,e⟩:=h;obtain ⟨a4,aJ,aP,cj,r1,r2,r3⟩:=j5 c d e;exact ⟨az,bZ,a4,a,b.trans (bg.settle aJ fun b o h=>(aP b o h).imp (fun h=>h) fun h=>⟨_,h⟩),c.settle aJ (fun b o h=>(aP b o h).imp (fun h=>h) fun h=>⟨_,h,by simp,by simp⟩) cj,r2,r3⟩
theorem Av (t ty e:TypeId) (i:TypeInfo) (ax:P.underlying t=some (.slice e)) (hi:P.info? e=some i) (base:Option Addr) (eE hd:Nat) (hle:eE≤hd) (a:Option Addr) (c:Nat) :
  (Builtin.append_ #[t,t] ty #[.slice base eE hd,.slice a 0 c]).run P w=.ok (.slice base eE hd) w:=by
 cases a <;> cases base <;> simp [Builtin.append_,run_underlying ax,sizeOf,typeInfo,hi,Builtin.lenOf,hle,Builtin.firstCells,loadCells,loadCellsFrom,storeCells]
theorem Au (w:World) (t ty e:TypeId) (i:TypeInfo) (ax:P.underlying t=some (.slice e)) (hi:P.info? e=some i)
  (g eE hd:Nat) (cur:Array Value) (ce:TypeId) (aO:w.heap[g]?=some (.cells cur ce (0,0)))
  (a:Addr) (m c:Nat) (news:List Value) (ak:news.length=m*i.size) (px:∀ j u,news[j]?=some u→w.cell? (a.add j)=some u) (ad:∀ u∈news,u.oneCell'=true)
  (en:eE+m≤hd) (dG:eE*i.size+news.length≤cur.size) :
  (Builtin.append_ #[t,t] ty #[.slice (some ⟨g,0,none⟩) eE hd,.slice (some a) m c]).run P w =
   .ok (.slice (some ⟨g,0,none⟩) (eE+m) hd) (w.setRow g (cur.toList.take (eE*i.size)++news++cur.toList.drop (eE*i.size+news.length)).toArray):=by
 have aQ:=run_firstCells_some (P:=P) w i.size m a m c news ak px;have cJ:=run_storeCells_at P g (eE*i.size) ce news 0 cur w aO (by simpa using dG) ad;simp only [tP] at cJ;simp [Builtin.append_,run_underlying ax,sizeOf,typeInfo,hi,Builtin.lenOf,en,aQ,Addr.add_lit,cJ]
theorem EC (w:World) (t ty e:TypeId) (i:TypeInfo) (ax:P.underlying t=some (.slice e)) (hi:P.info? e=some i)
  (g k eE hd:Nat) (cur:Array Value) (ce:TypeId) (aO:w.heap[g]?=some (.cells cur ce (0,0)))
  (a:Addr) (m c:Nat) (news:List Value) (ak:news.length=m*i.size) (px:∀ j u,news[j]?=some u→w.cell? (a.add j)=some u) (ad:∀ u∈news,u.oneCell'=true)
  (en:eE+m≤hd) (dG:k+eE*i.size+news.length≤cur.size) :
  (Builtin.append_ #[t,t] ty #[.slice (some ⟨g,k,none⟩) eE hd,.slice (some a) m c]).run P w =
   .ok (.slice (some ⟨g,k,none⟩) (eE+m) hd) (w.setRow g (cur.toList.take (k+eE*i.size)++news++cur.toList.drop (k+eE*i.size+news.length)).toArray):=by
 have aQ:=run_firstCells_some (P:=P) w i.size m a m c news ak px;have cJ:=run_storeCells_at P g (k+eE*i.size) ce news 0 cur w aO (by simpa using dG) ad;simp only [tP] at cJ;simp [Builtin.append_,run_underlying ax,sizeOf,typeInfo,hi,Builtin.lenOf,en,aQ,Addr.add_lit,cJ]
section grow
variable {t ty e:TypeId} {i:TypeInfo} {z:Value} {GK:List I}
theorem hT (ah:aL B U J S w H) (ax:P.underlying t=some (.slice e)) (hi:P.info? e=some i) (bm:i.zero=some z) (eo:z.cells.size=i.size) (bP:0<i.size)
  (v:Value) (len cap:Nat) (iT:List Value) (ae:((∃ a,v=.slice a 0 0)∧len=0∧cap=0∧iT=[])∨∃ b o,v=.slice (some ⟨b,o,none⟩) len cap∧∀ j x,iT[j]?=some x→w.cell? ⟨b,o+j,none⟩=some x)
  {cs:List I} (gw:c3 J S w cs iT) (fE:cs.length=len*i.size)
  {ar cL m c:Nat} {new:List I} {news:List Value} (hnew:c3 J S w new news) (bu:∀ j x,news[j]?=some x→w.cell? ⟨ar,cL+j,none⟩=some x) (cY:new.length=m*i.size)
  (hm:0<m) (nj:cap<len+m) (en:(len+m)*i.bytes≤140737488355328) (eT:1≤i.bytes) :
  ∃ x w',(Builtin.append_ #[t,t] ty #[v,.slice (some ⟨ar,cL,none⟩) m c]).run P w=.ok x w'∧a1 B U J S w H (.ay (cs++new) (len+m) (.uniq i.size)) x w':=by
 have CH:len+m≤140737488355328:=sH (uo _ eT) en;have ej:len+m≤maxLen:=by simp only [maxLen];omega
 have eJ:news.length=m*i.size:=hnew.len ▸ cY;have yO:iT.length=len*i.size:=gw.len ▸ fE;have kp:∀ j x,news[j]?=some x→w.cell? ((⟨ar,cL,none⟩:Addr).add j)=some x:=fun j x h=>by rw [add_lit];exact bu j x h
 have fin:∀ e5:Nat,e5=grownCap w (len+m) cap e →
   a1 B U J S w H (.ay (cs++new) (len+m) (.uniq i.size)) (.slice (some ⟨w.heap.size,0,none⟩) (len+m) e5)
    (w.drew.alloc (.cells (iT.toArray++news.toArray++Builtin.zeroCells z.cells (e5-(len+m))) e)):=by
  rintro e5 rfl;have e7:=grownCap_ge w (len+m) cap e;have hle:=grownCap_le_maxLen w (len+m) cap e ej;generalize grownCap w (len+m) cap e=e5 at e7 hle;have aA:=kg U S w;have h:=nN (l6 ah) ((gw.append hnew).mono (Ext.refl J) aA.set) (Builtin.zeroCells z.cells (e5-(len+m))).toList e (len+m) e5 i.size bP
   (by rw [su,fE,cY,tg]) e7 hle (by
    rw [su,yO,eJ,←tg,tw,size_zeroCells,eo,←tg];congr 1;omega)
  have he:(iT++news++(Builtin.zeroCells z.cells (e5-(len+m))).toList).toArray=iT.toArray++news.toArray++Builtin.zeroCells z.cells (e5-(len+m)):=by
   apply Array.ext';simp
  rw [he] at h;exact a1.after (Ext.refl J) aA h
 rcases ae with ⟨⟨jl,rfl⟩,rfl,rfl,rfl⟩ | ⟨b,o,rfl,hold⟩
 ·cases jl with
  | none =>
    have aj:=run_append_nil (P:=P) w t ty e i z ax hi bm ⟨ar,cL,none⟩ m c news eJ kp hm (by omega) (by rw [sP] at en;omega);have f:=fin _ rfl;refine ⟨_,_,aj,?_⟩;simpa using f
  | some lr =>
    have aj:=run_append_grow (P:=P) w t ty e i z ax hi bm lr 0 0 [] (by simp) (by simp) ⟨ar,cL,none⟩ m c news eJ kp nj (by omega) (growslice_fits nj en);exact ⟨_,_,aj,fin _ rfl⟩
 ·have aj:=run_append_grow (P:=P) w t ty e i z ax hi bm ⟨b,o,none⟩ len cap iT yO (fun j x h=>by rw [add_lit];exact hold j x h) ⟨ar,cL,none⟩ m c news eJ kp nj (by omega) (growslice_fits nj en);exact ⟨_,_,aj,fin _ rfl⟩
theorem By (ah:aL B U J S w H) (ax:P.underlying t=some (.slice e)) (hi:P.info? e=some i) (bP:0<i.size) {l:aI} (ca:∀ id,l≠.obj id) (cn:∀ id j,l≠.cell id j)
  {cells:List I} {len b cap:Nat} {cur:Array Value} {ce:TypeId} (bA:U b=some l) (kO:cap≤maxLen) (h_:cells.length=len*i.size)
  (g8:w.heap[b]?=some (.cells cur ce (0,0))) (gB:cur.size=cap*i.size) (jQ:∀ (j:Nat) (u:I) (v:Value),cells[j]?=some u→cur[j]?=some v→u.plain=true∧v.oneCell'=true∧Rel J S w u v)
  (g9:∀ o,¬ S b o)
  {ar cL m c:Nat} {new:List I} {news:List Value} (hnew:c3 J S w new news) (bu:∀ j x,news[j]?=some x→w.cell? ⟨ar,cL+j,none⟩=some x) (cY:new.length=m*i.size) (dG:len+m≤cap) :
  ∃ x w',(Builtin.append_ #[t,t] ty #[.slice (some ⟨b,0,none⟩) len cap,.slice (some ⟨ar,cL,none⟩) m c]).run P w=.ok x w'∧a1 B U J S w H (.ay (cells++new) (len+m) (.uniq i.size)) x w':=by
 classical
 have eJ:news.length=m*i.size:=hnew.len ▸ cY;have jA:(len+m)*i.size≤cap*i.size:=tp _ dG;rw [tg] at jA;have ek:∀ u∈news,u.oneCell'=true:=fun u hu=>by
  obtain ⟨j,aw⟩:=tx.1 hu;have aU:=(sa.1 aw).1;exact (hnew.rel j _ u (sk (hnew.len ▸ aU)) aw).2.1
 have aj:=Au w t ty e i ax hi b len cap cur ce g8 ⟨ar,cL,none⟩ m c news eJ (fun j x h=>by rw [add_lit];exact bu j x h) ek dG (by rw [gB];omega)
 let cur':Array Value:=(cur.toList.take (len*i.size)++news++cur.toList.drop (len*i.size+news.length)).toArray
 have nf:∀ bo o,bo≠b→(w.setRow b cur').cell? ⟨bo,o,none⟩=w.cell? ⟨bo,o,none⟩:=fun bo o h=>by
  unfold World.cell?;simp only [setRow_other w b bo cur' h]
 let az:Nat→Option aI:=fun bo=>if bo=b then some .res else U bo
 have kB:(w.setRow b cur').heap.size=w.heap.size:=by simp [World.setRow]
 have aA:bg U S w az S (w.setRow b cur'):=by
  refine ⟨rfl,rfl,rfl,by omega,fun bo ag aN=>setRow_other w b bo cur' (fun e=>by subst e;rw [bA] at aN;cases aN),fun bo o ai=>⟨ai,nf bo o (fun e=>g9 o (e ▸ ai))⟩,fun _ _ ai=>.inl ai,fun bo ag=>?_⟩;by_cases h:bo=b
  ·subst h;exact .inl (by simp [bA])
  ·simp only [az,h,if_false] at ag;exact .inl ag
 refine ⟨_,_,aj,az,J,S,Ext.refl J,aA,ah.frame aA (fun bo l' ag ak=>?_) (fun bo o ai=>?_) (fun bo l' ag=>?_),.cK _ _ _ _ _ _,.inr ⟨by simp [az],rfl,dG,kO,bP,by rw [su,h_,cY,tg],⟨cur',ce,setRow_heap w b cur cur' ce (0,0) g8,?_,fun j u v hu ae=>?_⟩,g9⟩⟩
 ·have bM:bo≠b:=fun e=>by
   subst e;rw [bA] at ag;cases ag;rcases ak with ⟨id,h⟩ | ⟨id,j,h⟩
   ·exact ca _ h
   ·exact cn _ _ h
  exact ⟨by simp [az,bM,ag],setRow_other w b bo cur' bM,fun _ h=>h⟩
 ·obtain ⟨v,ae⟩:=ah.cf bo o ai;exact ⟨v,(nf bo o (fun e=>g9 o (e ▸ ai))).trans ae⟩
 ·rw [kB];by_cases h:bo=b
  ·subst h;exact ah.base _ l bA
  ·simp only [az,h,if_false] at ag;exact ah.base bo l' ag
 ·have ad:cur.toList.length=cap*i.size:=by simp [gB]
  show (List.toArray _).size=_;rw [tI,su,su,sY,tJ,ad,eJ,tK (by omega)];omega
 ·have ae:(cur.toList.take (len*i.size)++news++cur.toList.drop (len*i.size+news.length))[j]?=some v:=by simpa [cur'] using ae
  have ad:cur.toList.length=cap*i.size:=by simp [gB]
  rw [j3 _ _ _ _ (by rw [ad];omega)] at ae;by_cases aw:j<cells.length
  ·rw [sB aw] at hu;rw [if_neg (by omega)] at ae;obtain ⟨a',bk,bq⟩:=jQ j u v hu (by simpa using ae);exact ⟨a',bk,bq.mono (Ext.refl J) aA.set⟩
  ·rw [sJ (by omega)] at hu;have nm:=(sa.1 hu).1;rw [if_pos ⟨by omega,by rw [eJ,←cY];omega⟩] at ae;rw [h_] at hu;obtain ⟨a',bk,bq⟩:=hnew.rel _ u v hu ae;exact ⟨a',bk,bq.mono (Ext.refl J) aA.set⟩
theorem Bx (ah:aL B U J S w H) (ax:P.underlying t=some (.slice e)) (hi:P.info? e=some i) (bP:0<i.size) {l:aI} (ca:∀ id,l≠.obj id) (cn:∀ id j,l≠.cell id j)
  {cells:List I} {len b k cap:Nat} {cur:Array Value} {ce:TypeId} {f:Nat→Value} (bA:U b=some l) (kO:cap≤maxLen) (h_:cells.length=len*i.size)
  (g8:w.heap[b]?=some (.cells cur ce (0,0))) (gB:cur.size=k+cap*i.size)
  (h:∀ (j:Nat) (u:I),cells[j]?=some u→S b (k+j)∧w.cell? ⟨b,k+j,none⟩=some (f j)∧u.plain=true∧(f j).oneCell'=true)
  (aj:∀ (j:Nat) (u:I),cells[j]?=some u→Rel J S w u (f j)) (g9:∀ o,k+cells.length≤o→¬ S b o)
  {ar cL m c:Nat} {new:List I} {news:List Value} (hnew:c3 J S w new news) (bu:∀ j x,news[j]?=some x→w.cell? ⟨ar,cL+j,none⟩=some x) (cY:new.length=m*i.size) (dG:len+m≤cap) :
  ∃ x w',(Builtin.append_ #[t,t] ty #[.slice (some ⟨b,k,none⟩) len cap,.slice (some ⟨ar,cL,none⟩) m c]).run P w=.ok x w'∧a1 B U J S w H (.ay (cells++new) (len+m) (.own i.size)) x w':=by
 classical
 have eJ:news.length=m*i.size:=hnew.len ▸ cY;have jA:(len+m)*i.size≤cap*i.size:=tp _ dG;rw [tg] at jA;have ek:∀ u∈news,u.oneCell'=true:=fun u hu=>by
  obtain ⟨j,aw⟩:=tx.1 hu;have aU:=(sa.1 aw).1;exact (hnew.rel j _ u (sk (hnew.len ▸ aU)) aw).2.1
 have dL:=EC w t ty e i ax hi b k len cap cur ce g8 ⟨ar,cL,none⟩ m c news eJ (fun j x h=>by rw [add_lit];exact bu j x h) ek dG (by rw [gB];omega)
 let cur':Array Value:=(cur.toList.take (k+len*i.size)++news++cur.toList.drop (k+len*i.size+news.length)).toArray
 have o_:∀ j:Nat,cur'[j]?=if k+len*i.size≤j∧j<k+len*i.size+news.length then news[j-(k+len*i.size)]? else cur[j]?:=fun j=>by
  have ad:cur.toList.length=k+cap*i.size:=by simp [gB]
  have:=j3 cur.toList news (k+len*i.size) j (by rw [ad];omega);simpa [cur'] using this
 have kp:∀ j,(w.setRow b cur').cell? ⟨b,j,none⟩=cur'[j]?:=fun j=>cell_of_row _ b j cur' ce (0,0) (setRow_heap w b cur cur' ce (0,0) g8);have fC:∀ j,w.cell? ⟨b,j,none⟩=cur[j]?:=fun j=>cell_of_row _ b j cur ce (0,0) g8;have nf:∀ bo o,bo≠b→(w.setRow b cur').cell? ⟨bo,o,none⟩=w.cell? ⟨bo,o,none⟩:=fun bo o h=>by
  unfold World.cell?;simp only [setRow_other w b bo cur' h]
 let az:Nat→Option aI:=fun bo=>if bo=b then some .res else U bo
 let S':Nat→Nat→Prop:=fun bo o=>S bo o∨(bo=b∧k+cells.length≤o∧o<k+cells.length+new.length)
 have kB:(w.setRow b cur').heap.size=w.heap.size:=by simp [World.setRow]
 have cm:∀ bo o,S bo o→(w.setRow b cur').cell? ⟨bo,o,none⟩=w.cell? ⟨bo,o,none⟩:=fun bo o ai=>by
  by_cases ag:bo=b
  ·subst ag;have aq:o<k+cells.length:=by
    rcases sR o (k+cells.length) with h | h
    ·exact h
    ·exact absurd ai (g9 o h)
   rw [kp,o_,if_neg (by omega),fC]
  ·exact nf bo o ag
 have aA:bg U S w az S' (w.setRow b cur'):=by
  refine ⟨rfl,rfl,rfl,by omega,fun bo ag aN=>setRow_other w b bo cur' (fun e=>by subst e;rw [bA] at aN;cases aN),fun bo o ai=>⟨.inl ai,cm bo o ai⟩,fun bo o ai=>?_,fun bo ag=>?_⟩
  ·rcases ai with ai | ⟨rfl,_⟩
   ·exact .inl ai
   ·exact .inr (.inl (by simp [bA]))
  ·by_cases h:bo=b
   ·subst h;exact .inl (by simp [bA])
   ·simp only [az,h,if_false] at ag;exact .inl ag
 have pw:∀ (j:Nat) (u:I),(cells++new)[j]?=some u→S' b (k+j)∧(w.setRow b cur').cell? ⟨b,k+j,none⟩=some (cur'.getD (k+j) undef)∧u.plain=true∧(cur'.getD (k+j) undef).oneCell'=true∧Rel J S' (w.setRow b cur') u (cur'.getD (k+j) undef):=by
  intro j u hu;rw [kp];by_cases aw:j<cells.length
  ·rw [sB aw] at hu;obtain ⟨ad,af,aG,a6⟩:=h j u hu;rw [fC] at af;(have ao:cur'[k+j]?=some (f j):=by rw [o_,if_neg (by omega),af]);(have aO:cur'.getD (k+j) undef=f j:=by rw [ss,ao];rfl);rw [aO];exact ⟨.inl ad,ao,aG,a6,(aj j u hu).mono (Ext.refl J) aA.set⟩
  ·rw [sJ (by omega)] at hu;have nm:=(sa.1 hu).1;have lW:j-cells.length<news.length:=hnew.len ▸ nm;have ao:cur'[k+j]?=some (news[j-cells.length]):=by
    rw [o_,if_pos ⟨by omega,by omega⟩,←h_,Nat.add_sub_add_left];exact sk lW
   (have aO:cur'.getD (k+j) undef=news[j-cells.length]:=by rw [ss,ao];rfl);obtain ⟨a',bk,bq⟩:=hnew.rel _ u _ hu (sk lW);rw [aO];exact ⟨.inr ⟨rfl,by omega,by omega⟩,ao,a',bk,bq.mono (Ext.refl J) aA.set⟩
 refine ⟨_,_,dL,az,J,S',Ext.refl J,aA,ah.frame aA (fun bo l' ag ak=>?_) (fun bo o ai=>?_) (fun bo l' ag=>?_),
  .ay _ _ _ b k cap (fun j=>cur'.getD (k+j) undef) (by simp) dG (by simp) (fun j u hu=>let ⟨aB,aH,aR,bj,_⟩:=pw j u hu;⟨aB,aH,aR,bj⟩) (fun j u hu=>(pw j u hu).2.2.2.2),
  .inr ⟨by simp [az],trivial,rfl,dG,kO,bP,by rw [su,h_,cY,tg],⟨cur',ce,setRow_heap w b cur cur' ce (0,0) g8,?_⟩,fun o aq ai=>?_⟩⟩
 ·have bM:bo≠b:=fun e=>by
   subst e;rw [bA] at ag;cases ag;rcases ak with ⟨id,h⟩ | ⟨id,j,h⟩
   ·exact ca _ h
   ·exact cn _ _ h
  refine ⟨by simp [az,bM,ag],setRow_other w b bo cur' bM,fun o ai=>?_⟩;rcases ai with ai | ⟨h,_⟩
  ·exact ai
  ·exact absurd h bM
 ·rcases ai with ai | ⟨rfl,ad,af⟩
  ·obtain ⟨v,ae⟩:=ah.cf bo o ai;exact ⟨v,(cm bo o ai).trans ae⟩
  ·obtain ⟨u,hu⟩:∃ u,(cells++new)[o-k]?=some u:=⟨_,sk (by simp;omega)⟩;have:=(pw (o-k) u hu).2.1;rw [Nat.add_sub_cancel' (by omega)] at this;exact ⟨_,this⟩
 ·rw [kB];by_cases h:bo=b
  ·subst h;exact ah.base _ l bA
  ·simp only [az,h,if_false] at ag;exact ah.base bo l' ag
 ·have ad:cur.toList.length=k+cap*i.size:=by simp [gB]
  show (List.toArray _).size=k+cap*i.size;rw [tI,su,su,sY,tJ,ad,eJ,tK (by omega)];omega
 ·simp only [su] at aq;rcases ai with ai | ⟨_,ad,af⟩
  ·exact g9 o (by omega) ai
  ·omega
end grow
theorem x4 (ah:aL B U J S w H) {x:I} {cA:Value} {m:Nat} {new:List I} (h:appended H x=some (m,new)) (aj:Rel J S w x cA) (aN:x.cT=true) :
  (new=[]∧∃ a c,cA=.slice a m c)∨∃ b o c vs,cA=.slice (some ⟨b,o,none⟩) m c∧c3 J S w new vs∧(∀ j y,vs[j]?=some y→w.cell? ⟨b,o+j,none⟩=some y):=by
 unfold appended at h;split at h
 ·rename_i g4 row hm cS;simp only [Option.some.injEq,Prod.mk.injEq] at h;obtain ⟨rfl,rfl⟩:=h;obtain ⟨a,c,ae⟩:=mn hm aj;rcases xE ah cS aj aN with ⟨ad,n,dV,af⟩ | ⟨b,o,n,dV,vs,af,aG,a6⟩
  ·rw [af] at ae;cases ae;exact .inl ⟨ad,_,_,af⟩
  ·rw [af] at ae;cases ae;exact .inr ⟨b,o,_,vs,af,aG,a6⟩
 ·simp at h
end
end Go.Proofs.YtfakoboiahbhaaaGreat.Ab


namespace Go.Proofs.YtfakoboiahbhaaaGreat.Ab
open Go
section
variable {P:Program} {B:Nat} {J:List Nat} {w:World} {H:List au} {U:Nat→Option aI} {S:Nat→Nat→Prop}
theorem mo (ah:aL B U J S w H) {l:aI} (ca:∀ id,l≠.obj id) (cn:∀ id j,l≠.cell id j) {u:I} {v:Value} (aj:Rel J S w u v) (aq:aV U J S w l u v) :
  ∃ S':Nat→Nat→Prop,(∀ b o,S b o→S' b o)∧(∀ b o,S' b o→S b o∨U b=some l)∧aL B U J S' w H∧Rel J S' w u.view v:=by
 by_cases hu:u.cT=true
 ·exact ⟨S,fun _ _ h=>h,fun _ _ h=>.inl h,ah,aj.view hu⟩
 ·obtain ⟨cells,len,z,rfl⟩:∃ cells len z,u=.ay cells len (.uniq z):=by
   unfold I.cT at hu;split at hu
   ·exact ⟨_,_,_,rfl⟩
   ·simp at hu
  obtain ⟨a4,aJ,aP,cj,r1,_,_⟩:=j5 ah aj aq;exact ⟨a4,aJ,aP,ah.settle aJ (fun b o h=>(aP b o h).imp (fun h=>h) fun h=>⟨_,h,ca,cn⟩) cj,r1⟩
theorem x5 {u:I} {r:Nat×List I} (h:appended H u=some r):appended H u.view=some r:=by
 cases u <;> try exact h
 ·rename_i cells len c;cases c <;> exact h
 ·simp [appended,lenOf] at h
theorem ED (t dm ty e:TypeId) (i:TypeInfo) (z:Value) (dc:IntKind) (ax:P.underlying t=some (.slice e)) (pJ:P.underlying dm=some (.int dc)) (hi:P.info? e=some i) (bm:i.zero=some z)
  (base:Option Addr) (n:Int) (aS:0<n) (ag:n.toNat*i.bytes≤140737488355328) (eT:1≤i.bytes) (bP:0<i.size) :
  (Builtin.append_ #[t,dm] ty #[.slice base 0 0,.int .i64 n]).run P w =
   .ok (.slice (some ⟨w.heap.size,0,none⟩) n.toNat (grownCap w n.toNat 0 e)) (w.drew.alloc (.cells (Builtin.zeroCells z.cells n.toNat++Builtin.zeroCells z.cells (grownCap w n.toNat 0 e-n.toNat)) e)):=by
 have aN:n.toNat≤140737488355328:=sH (uo _ eT) ag;have bC:IntKind.i64.wrap n=n:=IntWalk.i64_in _ (by omega);have kv:n*(i.bytes:Int)=((n.toNat*i.bytes:Nat):Int):=by rw [vK,tQ (by omega)]
 have o7:Builtin.nextslicecap n.toNat 0=n.toNat:=by unfold Builtin.nextslicecap;rw [if_pos (by omega)]
 have ad:¬ n<0:=by omega
 have af:¬ ((281474976710656:Int)<n*i.bytes):=by rw [kv];omega
 have a6:¬ (281474976710656<n.toNat*i.bytes):=by omega
 have bL:¬ (9223372036854775807<max n 0):=by omega
 have bV:n.toNat*i.size≠0:=by have:0<n.toNat:=by omega
                              have:=vL this bP;omega
 have cN:¬ n≤0:=by omega
 cases base <;> simp [Builtin.append_,run_underlying ax,run_underlying pJ,sizeOf,typeInfo,hi,asInt,asIntOf,bC,ad,af,cN,bL,a6,bV,Builtin.lenOf,Builtin.firstCells,loadCells,loadCellsFrom,o7,zeroValue,bm,grownCap,Question.forced,newRow]
theorem AP (ah:aL B U J S w H) {t dm:TypeId} (ty:TypeId) {u x r:I} {v cA:Value} {cv dJ:aI} (ca:∀ id,cv≠.obj id) (cn:∀ id j,cv≠.cell id j) (dd:∀ id,dJ≠.obj id) (de:∀ id j,dJ≠.cell id j) (bM:cv≠dJ)
  (h:e4 P H t dm u x=some r) (aj:Rel J S w u v) (aq:aV U J S w cv u v) (ef:Rel J S w x cA) (h3:aV U J S w dJ x cA) :
  ∃ y w',(Builtin.append_ #[t,dm] ty #[v,cA]).run P w=.ok y w'∧a1 B U J S w H r y w':=by
 obtain ⟨a4,aJ,aP,bW,jL⟩:=mo ah dd de ef h3;have da:bg U S w U a4 w:=bg.settle aJ fun b o h=>(aP b o h).imp (fun h=>h) fun h=>⟨_,h⟩;have dp:Rel J a4 w u v:=aj.mono (Ext.refl J) da.set
 have jH:aV U J a4 w cv u v:=aq.mono (Ext.refl J) da.set fun b ag=>⟨ag,rfl,fun o ai=>by
  rcases aP b o ai with h | h
  ·exact h
  ·rw [ag] at h;cases h;exact absurd rfl bM⟩
 suffices ai:∃ y w',(Builtin.append_ #[t,dm] ty #[v,cA]).run P w=.ok y w'∧a1 B U J a4 w H r y w' by
  obtain ⟨y,w',a,b⟩:=ai;exact ⟨y,w',a,a1.after (Ext.refl J) da b⟩
 clear aj aq ef h3 da aJ aP ah;unfold e4 at h;split at h
 ·rename_i e ax;split at h
  ·rename_i sz bytes z ai ag bm;obtain ⟨i,hi,rfl⟩:=mO ai;simp only [hi,sd,Option.some.injEq] at ag;subst ag;obtain ⟨ny,dv,hi',ep,fD⟩:=hL (J:=J) (S:=a4) (w:=w) bm;rw [hi] at hi';cases hi';(have kE:z.length=dv.cells.size:=by simpa using fD.len);split at h
   ·rename_i nd;obtain rfl:t=dm:=Nat.eq_of_beq_eq_true nd;split at h
    ·rename_i m new eH;replace eH:=x5 eH;split at h
     ·rename_i ao;obtain ⟨cY,bP,eo,yW⟩:=ao;(have gy:dv.cells.size=i.size:=by omega);obtain ⟨Gf,Gg⟩:=ig yW;have al:=x4 bW eH jL (I.fZ (I.df x));have zero:m=0→∀ base len cap,v=.slice base len cap→len≤cap→(Builtin.append_ #[t,t] ty #[v,cA]).run P w=.ok v w:=by
       rintro rfl base len cap rfl hle;rcases al with ⟨_,jl,c,rfl⟩ | ⟨b,o,c,vs,rfl,_,_⟩
       ·exact Av (P:=P) (w:=w) t ty e i ax hi base len cap hle jl c
       ·exact Av (P:=P) (w:=w) t ty e i ax hi base len cap hle _ c
      have n':0<m→∃ b o c vs,cA=.slice (some ⟨b,o,none⟩) m c∧c3 J a4 w new vs∧(∀ j y,vs[j]?=some y→w.cell? ⟨b,o+j,none⟩=some y):=by
       intro hm;rcases al with ⟨aS,_,c,rfl⟩ | h
       ·rw [aS] at cY;simp at cY;have:=vL hm bP;omega
       ·exact h
      split at h
      ·rename_i cells len c;split at h
       ·
        split at h
        ·rename_i hm;cases h;have ae:∃ base cap,v=.slice base len cap∧len≤cap:=by
          cases dp with
          | b1=>exact ⟨_,_,rfl,sc _⟩
          | ay _ _ _ b o cap f _ hle=>exact ⟨_,_,rfl,hle⟩
         obtain ⟨base,cap,ae,hle⟩:=ae;exact ⟨v,w,zero hm base len cap ae hle,a1.same bW dp rfl⟩
        ·simp at h
       ·
        have ae:((∃ a,v=.slice a 0 0)∧len=0∧cells=[])∨∃ b o,∃ f:Nat→Value,v=.slice (some ⟨b,o,none⟩) len len ∧
          (∀ (j:Nat) (u:I),cells[j]?=some u→a4 b (o+j)∧w.cell? ⟨b,o+j,none⟩=some (f j)∧u.plain=true∧(f j).oneCell'=true)∧(∀ (j:Nat) (u:I),cells[j]?=some u→Rel J a4 w u (f j)):=by
         cases dp with
         | b1 _ a=>exact .inl ⟨⟨a,rfl⟩,rfl,rfl⟩
         | ay _ _ _ b o cap f ao hle hu bu b9=>exact .inr ⟨b,o,f,by rw [ao rfl],bu,b9⟩
        split at h
        ·rename_i hm;split at h
         ·rename_i aS;cases h;subst aS;rcases ae with ⟨⟨a,ae⟩,_,_⟩ | ⟨b,o,f,ae,_,_⟩
          ·exact ⟨v,w,zero hm _ _ _ ae (sc _),U,J,a4,Ext.refl J,bg.refl _ _ _,bW,ae ▸ .b1 _ _,by rw [ae];cases a <;> first | trivial | exact .inl ⟨rfl,rfl,rfl⟩⟩
          ·exact ⟨v,w,zero hm _ _ _ ae (sc _),U,J,a4,Ext.refl J,bg.refl _ _ _,bW,ae ▸ .cK _ _ _ _ _ _,by rw [ae];exact .inl ⟨rfl,rfl,rfl⟩⟩
         ·cases h;rcases ae with ⟨⟨a,ae⟩,rfl,_⟩ | ⟨b,o,f,ae,_,_⟩
          ·exact ⟨v,w,zero hm _ _ _ ae (sc _),a1.same bW dp rfl⟩
          ·exact ⟨v,w,zero hm _ _ _ ae (sc _),a1.same bW dp rfl⟩
        ·rename_i hm;split at h
         ·rename_i gU;obtain ⟨en,cC⟩:=gU;cases h;obtain ⟨q1,aW⟩:=ig en;obtain ⟨ar,cL,dV,vs,rfl,hnew,bu⟩:=n' (by omega);rcases ae with ⟨ae,rfl,rfl⟩ | ⟨b,o,f,ae,fC,l5⟩
          ·exact hT bW ax hi ep gy bP v 0 0 [] (.inl ⟨ae,rfl,rfl,rfl⟩) ⟨rfl,by simp⟩ (by simp) hnew bu cY (by omega) (by omega) q1 aW
          ·refine hT bW ax hi ep gy bP v len len ((List.range cells.length).map f) (.inr ⟨b,o,ae,fun j y a0=>?_⟩) ⟨by simp,fun j bG br b_ bc=>?_⟩ cC hnew bu cY (by omega) (by omega) q1 aW
           ·simp only [sr,rZ] at a0;obtain ⟨k,av,rfl⟩:=a0;(have aw:j<cells.length:=by have:=(sa.1 av).1;simpa using this);simp [aw] at av;subst av;exact (fC j _ (sk aw)).2.1
           ·have aw:=(sa.1 b_).1;simp [aw] at bc;subst bc;exact ⟨(fC j bG b_).2.2.1,(fC j bG b_).2.2.2,l5 j bG b_⟩
         ·simp at h
       ·
        rename_i cU;split at h
        ·rename_i gU;obtain ⟨rfl,en⟩:=gU;cases h;obtain ⟨q1,aW⟩:=ig en;by_cases hm:m=0
         ·have pv:new=[]:=vM (by rw [cY,hm];simp);have ae:∃ base cap,v=.slice base len cap∧len≤cap:=by
           cases dp with
           | b1=>exact ⟨_,_,rfl,sc _⟩
           | ay _ _ _ b o cap f _ hle=>exact ⟨_,_,rfl,hle⟩
          obtain ⟨base,cap,ae,hle⟩:=ae;refine ⟨v,w,zero hm base len cap ae hle,?_⟩;rw [pv,hm,sU,tP];exact ic bW ca cn dp jH
         ·have hm:0<m:=Nat.pos_of_ne_zero hm;obtain ⟨ar,cL,dV,vs,rfl,hnew,bu⟩:=n' hm;cases dp with
          | b1 _ a =>
            obtain ⟨y,w',aB,aH⟩:=hT (ty:=ty) bW ax hi ep gy bP (.slice a 0 0) 0 0 [] (.inl ⟨⟨a,rfl⟩,rfl,rfl,rfl⟩) (cs:=[]) ⟨rfl,by simp⟩ (by simp) hnew bu cY hm (by omega) q1 aW;exact ⟨y,w',aB,aH.settle⟩
          | ay _ _ _ b o cap f ao hle hu fC l5 =>
            have gw:c3 J a4 w cells ((List.range cells.length).map f):=⟨by simp,fun j bG br b_ bc=>by
             have aw:=(sa.1 b_).1;simp [aw] at bc;subst bc
             exact ⟨(fC j bG b_).2.2.1,(fC j bG b_).2.2.2,l5 j bG b_⟩⟩
            have cC:∀ j y,((List.range cells.length).map f)[j]?=some y→w.cell? ⟨b,o+j,none⟩=some y:=fun j y a0=>by
             simp only [sr,rZ] at a0;obtain ⟨k,av,rfl⟩:=a0;(have aw:j<cells.length:=by have:=(sa.1 av).1;simpa using this);simp [aw] at av;subst av;exact (fC j _ (sk aw)).2.1
            have yM:cells.length=len*i.size→cap<len+m→_:=fun ak aO =>
             hT (ty:=ty) (c:=dV) bW ax hi ep gy bP (.slice (some ⟨b,o,none⟩) len cap) len cap _ (.inr ⟨b,o,rfl,cC⟩) gw ak hnew bu cY hm aO q1 aW
            rcases jH with ⟨aS,ad,af⟩ | ⟨bR,b4,_,eC,fJ,_,kX,⟨cur,ce,kY,mC⟩,mD⟩
            ·obtain ⟨y,w',aB,aH⟩:=yM (by rw [af,aS];simp) (by omega);exact ⟨y,w',aB,aH.settle⟩
            ·simp only at bR kY mC mD;by_cases dG:len+m≤cap
             ·exact Bx bW ax hi bP ca cn bR fJ kX kY mC fC l5 mD hnew bu cY dG
             ·obtain ⟨y,w',aB,aH⟩:=yM kX (by omega);exact ⟨y,w',aB,aH.settle⟩
        ·simp at h
       ·
        rename_i cU;split at h
        ·rename_i gU;obtain ⟨rfl,en⟩:=gU;cases h;obtain ⟨q1,aW⟩:=ig en;by_cases hm:m=0
         ·have pv:new=[]:=vM (by rw [cY,hm];simp);have ae:∃ base cap,v=.slice base len cap∧len≤cap:=by
           cases dp with
           | b1=>exact ⟨_,_,rfl,sc _⟩
           | ay _ _ _ b o cap f _ hle=>exact ⟨_,_,rfl,hle⟩
           | cK _ _ _ b o cap =>
             refine ⟨_,_,rfl,?_⟩;rcases jH with ⟨aS,ad,af⟩ | ⟨_,_,h,_⟩
             ·omega
             ·exact h
          obtain ⟨base,cap,ae,hle⟩:=ae;refine ⟨v,w,zero hm base len cap ae hle,?_⟩;rw [pv,hm,sU,tP];exact ic bW ca cn dp jH
         ·have hm:0<m:=Nat.pos_of_ne_zero hm;obtain ⟨ar,cL,dV,vs,rfl,hnew,bu⟩:=n' hm;cases dp with
          | b1 _ a =>
            exact hT (ty:=ty) bW ax hi ep gy bP (.slice a 0 0) 0 0 [] (.inl ⟨⟨a,rfl⟩,rfl,rfl,rfl⟩) (cs:=[]) ⟨rfl,by simp⟩ (by simp) hnew bu cY hm (by omega) q1 aW
          | ay _ _ _ b o cap f ao hle hu fC l5=>exact absurd rfl (hu _)
          | cK _ _ _ b o cap =>
            rcases jH with ⟨aS,ad,af⟩ | ⟨bR,b4,eC,fJ,_,kX,⟨cur,ce,kY,mC,zF⟩,mD⟩
            ·refine hT (ty:=ty) bW ax hi ep gy bP (.slice (some ⟨b,o,none⟩) len cap) len cap [] (.inr ⟨b,o,rfl,by simp⟩) ?_ (by rw [af,aS];simp) hnew bu cY hm (by omega) q1 aW;rw [af];exact ⟨rfl,by simp⟩
            ·simp only at bR b4 kY mD;subst b4;(have jA:cells.length≤cur.size:=by rw [mC,kX];exact tp _ eC);by_cases dG:len+m≤cap
             ·exact By bW ax hi bP ca cn bR fJ kX kY mC zF mD hnew bu cY dG
             ·refine hT (ty:=ty) bW ax hi ep gy bP (.slice (some ⟨b,0,none⟩) len cap) len cap (cur.toList.take cells.length) (.inr ⟨b,0,rfl,fun j y a0=>?_⟩) ⟨by simp;omega,fun j bG br b_ bc=>?_⟩ kX hnew bu cY hm (by omega) q1 aW
              ·rw [sT] at a0;split at a0
               ·rw [sP,cell_of_row w b _ cur ce (0,0) kY];simpa using a0
               ·simp at a0
              ·rw [sT] at bc;split at bc
               ·exact zF j bG br b_ (by simpa using bc)
               ·simp at bc
        ·simp at h
      ·
       rename_i id off len cap oa;split at h
       ·rename_i gU;obtain ⟨rfl,rfl,hm⟩:=gU;simp only [se] at h;obtain ⟨fI,hold,h⟩:=h;split at h
        ·rename_i en;cases h;obtain ⟨q1,aW⟩:=ig en;obtain ⟨ar,cL,dV,vs,rfl,hnew,bu⟩:=n' hm;have fE:fI.length=cap*i.size:=by
          simp only [rowOf] at hold;split at hold
          ·split at hold
           ·simp at hold;rw [←hold];simp;omega
           ·simp at hold
          ·simp at hold
         have fF:∃ b o,v=.slice (some ⟨b,o,none⟩) cap cap:=by
          cases dp with
          | ref _ _ _ _ _ b cap' _ ao _=>exact ⟨b,off,by rw [ao cap rfl]⟩
         obtain ⟨dx,Gq,fV⟩:=fF;rcases xE bW hold dp rfl with ⟨C4,n,c,ae⟩ | ⟨b,o,n,c,du,ae,gw,fC⟩
         ·rw [ae] at fV;cases fV;subst C4;exact hT bW ax hi ep gy bP v _ _ [] (.inl ⟨⟨_,ae⟩,rfl,rfl,rfl⟩) ⟨rfl,by simp⟩ fE hnew bu cY hm (by omega) q1 aW
         ·rw [ae] at fV;simp only [Value.slice.injEq,Option.some.injEq,Addr.mk.injEq] at fV;obtain ⟨⟨rfl,rfl,_⟩,rfl,rfl⟩:=fV;exact hT bW ax hi ep gy bP v _ _ du (.inr ⟨b,o,ae,fC⟩) gw fE hnew bu cY hm (by omega) q1 aW
        ·simp at h
       ·simp at h
      ·simp at h
     ·simp at h
    ·simp at h
   ·
    split at h
    ·rename_i dc n pJ;split at h
     ·rename_i ao;obtain ⟨aS,en,bP,eo⟩:=ao;cases h;obtain ⟨q1,aW⟩:=ig en;have fW:cA=.int .i64 n:=Rel.db jL;have ae:∃ base,v=.slice base 0 0:=by
       cases dp with
       | b1=>exact ⟨_,rfl⟩
       | ay _ _ _ b o cap f ao _=>exact ⟨_,by rw [ao rfl]⟩
      obtain ⟨base,rfl⟩:=ae;subst fW;have aj:=ED (P:=P) (w:=w) t dm ty e i dv dc ax pJ hi ep base n aS q1 aW bP;have e7:=grownCap_ge w n.toNat 0 e;have aN:n.toNat≤140737488355328:=sH (uo _ aW) q1;have hle:=grownCap_le_maxLen w n.toNat 0 e (by simp only [maxLen];omega);generalize grownCap w n.toNat 0 e=e5 at e7 hle aj;have aA:=kg U a4 w;have fG:=(mQ fD (by omega) n.toNat).mono (Ext.refl J) aA.set
      have iL:=nN (l6 bW) fG (Builtin.zeroCells dv.cells (e5-n.toNat)).toList e n.toNat e5 i.size bP (by rw [ie,eo]) e7 hle (by
       rw [←fG.len,ie,eo,tw,size_zeroCells,←kE,eo,←tg];congr 1;omega)
      refine ⟨_,_,aj,a1.after (Ext.refl J) aA ?_⟩;have he:(((Array.range (n.toNat*z.length)).map (fun i=>dv.cells[i % dv.cells.size]!)).toList++(Builtin.zeroCells dv.cells (e5-n.toNat)).toList).toArray =
        Builtin.zeroCells dv.cells n.toNat++Builtin.zeroCells dv.cells (e5-n.toNat):=by
       apply Array.ext';simp [Builtin.zeroCells,kE]
      rw [he] at iL;exact iL
     ·simp at h
    ·simp at h
  ·simp at h
 ·simp at h
theorem zL (ah:aL B U J S w H) {id:Nat} {l:List I} {b z:Nat} {cur:Array Value} (aE:id<H.length) (aH:U b=some (.obj id)) (bb:∀ o,¬ S b o)
  (bf:∀ (j:Nat) (u:I) (v:Value),l[j]?=some u→cur[j]?=some v→u.cT=true∧v.oneCell'=true∧Rel J S w u v∧aV U J S w (.cell id j) u v)
  {bC:World} {nb cap1 pU:Nat} {js:Array Value} {e1:TypeId} (aq:bC.os=w.os) (ax:bC.tape=w.tape) (CT:bC.output=w.output) (kB:w.heap.size≤bC.heap.size)
  (hold:∀ ar,ar<w.heap.size→ar≠b→bC.heap[ar]?=w.heap[ar]?) (kv:nb=b∨nb=w.heap.size) (CP:nb<bC.heap.size) (jz:bC.heap[nb]?=some (.cells js e1 (0,0)))
  (gx:js.size=cap1*z) (hm:cap1≤maxLen) (bm:0<z) {new:List I} {news:List Value} (hnew:c3 J S w new news) (dG:l.length+new.length≤js.size)
  (Cv:∀ j,j<l.length→js[j]?=cur[j]?) (Cw:∀ (j:Nat) (v:Value),news[j]?=some v→js[l.length+j]?=some v) (hlen:pU≤cap1) :
  a1 B U J S w (H.set id .dead++[.grow (l++new) (H.length+1) z,.dead]) (.cl H.length (H.length+1) pU z) (.slice (some ⟨nb,0,none⟩) pU cap1) bC:=by
 classical
 let az:Nat→Option aI:=fun ar=>if ar=nb then some (.obj H.length) else if ar=b then none else match U ar with
  | some (.cell i j)=>if i=id then some (.cell H.length j) else some (.cell i j)
  | o=>o
 have aU:∀ ar l',U ar=some l'→ar<w.heap.size:=fun ar l' h=>(ah.base ar l' h).2;have yN:∀ ar l',U ar=some l'→ar≠b→ar≠nb:=fun ar l' h ag e=>by
  subst e;rcases kv with e | e
  ·exact ag e
  ·have:=aU _ _ h;omega
 have hp:∀ ar o,S ar o→ar≠b:=fun ar o ai e=>bb o (e ▸ ai);have bu:∀ ar o,S ar o→bC.cell? ⟨ar,o,none⟩=w.cell? ⟨ar,o,none⟩:=fun ar o ai=>by
  obtain ⟨v,ae⟩:=ah.cf ar o ai;unfold World.cell?;simp only [hold ar (mq ae) (hp ar o ai)]
 have np:∀ ar,az ar≠none→U ar≠none∨w.heap.size≤ar:=fun ar ag=>by
  by_cases ad:ar=nb
  ·rcases kv with e | e
   ·exact .inl (by rw [ad,e,aH];simp)
   ·exact .inr (by omega)
  ·refine .inl fun aS=>ag ?_;by_cases af:ar=b
   ·simp only [az,ad,af,if_false,if_true];rw [if_neg (by rw [←af];exact ad)]
   ·simp only [az,ad,af,if_false,aS]
 have aA:bg U S w az S bC:=⟨aq,ax,CT,kB,fun ar ag aN=>hold ar ag (fun e=>by subst e;rw [aH] at aN;cases aN),fun ar o ai=>⟨ai,bu ar o ai⟩,fun _ _ h=>.inl h,np⟩;have lX:(J++[nb,cap1])[H.length]?=some nb:=by rw [←ah.cE];simp
 have lY:(J++[nb,cap1])[H.length+1]?=some cap1:=by rw [←ah.cE];simp
 refine ⟨az,J++[nb,cap1],S,Ext.append J _,aA,⟨by simp [ah.cE],fun bx o h=>?_,fun ar o ai=>?_,fun ar l' ag=>?_,sH ah.cX kB⟩,.cl _ _ _ _ nb cap1 lX lY hlen,trivial⟩
 ·rcases vH bx H.length with ak | rfl | ak
  ·rw [sB (by simpa using ak)] at h;by_cases cu:bx=id
   ·subst cu;rw [sg ak] at h;cases h;trivial
   ·rw [si (Ne.symm cu)] at h;refine (ah.obj bx o h).frame (Ext.append J _) aA.set fun ar l' ag dz=>?_;have bM:ar≠b:=fun e=>by
     subst e;rw [aH] at ag;cases ag;rcases dz with h | ⟨j,h⟩
     ·cases h;exact cu rfl
     ·cases h
    refine ⟨?_,hold ar (aU _ _ ag) bM,fun _ h=>h⟩;simp only [az,yN ar l' ag bM,bM,if_false,ag];rcases dz with rfl | ⟨j,rfl⟩
    ·rfl
    ·simp [cu]
  ·rw [sJ (by simp)] at h;simp only [ta,tU,ur,Option.some.injEq] at h;subst h;refine ⟨nb,js,e1,lX,by simp [az],jz,by rw [su];exact dG,?_,fun j u v hu ae=>?_,cap1,lY,hm,bm,gx⟩
   ·rcases kv with rfl | rfl
    ·exact bb
    ·exact mw ah
   ·by_cases aw:j<l.length
    ·rw [sB aw] at hu;rw [Cv j aw] at ae;obtain ⟨a',bk,bq,b7⟩:=bf j u v hu ae;refine ⟨a',bk,bq.mono (Ext.append J _) aA.set,b7.mono (Ext.append J _) aA.set fun ar ag=>?_⟩;(have bM:ar≠b:=fun e=>by subst e;rw [aH] at ag;cases ag);refine ⟨?_,hold ar (aU _ _ ag) bM,fun _ h=>h⟩;simp only [az,yN ar _ ag bM,bM,if_false,ag,if_true]
    ·rw [sJ (by omega)] at hu;have nm:=(sa.1 hu).1;have lW:j-l.length<news.length:=hnew.len ▸ nm;have bc:=Cw (j-l.length) _ (sk lW);rw [show l.length+(j-l.length)=j by omega,ae] at bc;obtain ⟨a',bk,bq⟩:=hnew.rel _ u v hu (by rw [sk lW,bc]);exact ⟨I.fZ a',bk,bq.mono (Ext.append J _) aA.set,aV.b3 a'⟩
  ·rw [sJ (by simp;omega)] at h;rw [ta] at h;obtain ⟨k,av⟩:∃ k,bx-H.length=k+1:=⟨bx-H.length-1,by omega⟩;rw [av] at h;cases k with
   | zero=>simp at h;subst h;trivial
   | succ k=>simp at h
 ·obtain ⟨v,ae⟩:=ah.cf ar o ai;exact ⟨v,(bu ar o ai).trans ae⟩
 ·by_cases ad:ar=nb
  ·rw [ad];refine ⟨?_,CP⟩;rcases kv with e | e
   ·rw [e];exact (ah.base b _ aH).1
   ·rw [e];exact ah.cX
  ·have:∃ cv,U ar=some cv:=by
    rcases np ar (by rw [ag];simp) with h | h
    ·cases aS:U ar with
     | none=>exact absurd aS h
     | some cv=>exact ⟨cv,rfl⟩
    ·exfalso;by_cases af:ar=b
     ·have:=aU b _ aH;omega
     ·have aS:U ar=none:=by
       cases aS:U ar with
       | none=>rfl
       | some cv=>have:=aU ar _ aS;omega
      simp [az,ad,af,aS] at ag
   obtain ⟨cv,aS⟩:=this;have:=ah.base ar cv aS;exact ⟨this.1,by omega⟩
theorem D_ (ah:aL B U J S w H) {l:aI} (ca:∀ id,l≠.obj id) (cn:∀ id j,l≠.cell id j) {cells:List I} {len z:Nat} (aS:len≠0) {v:Value}
  (aj:Rel J S w (.ay cells len (.uniq z)) v) (aq:aV U J S w l (.ay cells len (.uniq z)) v) :
  a1 B U J S w (H++[.grow cells (H.length+1) z,.dead]) (.cl H.length (H.length+1) len z) v w:=by
 classical
 cases aj with
 | b1 c a=>exact absurd rfl aS
 | ay cells len c b o cap f ao hle hu h fl=>exact absurd rfl (hu z)
 | cK cells len z b o cap =>
   rcases aq with ⟨rfl,_,_⟩ | ⟨ad,aq,af,aG,a6,bL,⟨cur,e,bV,cN,cR⟩,cV⟩
   ·exact absurd rfl aS
   ·simp only at ad bV cV aq;subst aq
    let az:Nat→Option aI:=fun ar=>if ar=b then some (.obj H.length) else U ar
    have aA:bg U S w az S w:=⟨rfl,rfl,rfl,sc _,fun _ _ _=>rfl,fun _ _ h=>⟨h,rfl⟩,fun _ _ h=>.inl h,fun ar ag=>by
     by_cases dF:ar=b
     ·subst dF;exact .inl (by simp [ad])
     ·simp only [az,dF,if_false] at ag;exact .inl ag⟩
    have bW:aL B az J S w H:=by
     refine ah.frame aA (fun ar l' ag ak=>?_) ah.cf (fun ar l' ag=>?_)
     ·have bM:ar≠b:=fun e=>by
       subst e;rw [ad] at ag;cases ag;rcases ak with ⟨id,h⟩ | ⟨id,j,h⟩
       ·exact ca _ h
       ·exact cn _ _ h
      exact ⟨by simp [az,bM,ag],rfl,fun _ h=>h⟩
     ·by_cases dF:ar=b
      ·subst dF;exact ah.base _ l ad
      ·simp only [az,dF,if_false] at ag;exact ah.base ar l' ag
    have cp:=(bW.push cap (o:=.dead) trivial);(have lX:(J++[b,cap])[H.length]?=some b:=by rw [←ah.cE];simp);(have lY:(J++[b,cap])[H.length+1]?=some cap:=by rw [←ah.cE];simp);refine ⟨az,J++[b,cap],S,Ext.append J _,aA,⟨by simp [ah.cE],fun bx o bI=>?_,ah.cf,bW.base,ah.cX⟩,.cl _ _ _ _ b cap lX lY af,trivial⟩;rcases vH bx H.length with ak | rfl | ak
    ·rw [sB ak] at bI;exact (bW.obj bx o bI).frame (Ext.append J _) (fun b o ai=>⟨ai,rfl⟩) fun b l ag _=>⟨ag,rfl,fun o ai=>ai⟩
    ·rw [sJ (sc _)] at bI;simp only [tU,ur,Option.some.injEq] at bI;subst bI;refine ⟨b,cur,e,lX,by simp [az],bV,by rw [cN,bL];exact tp _ af,cV,fun j u v hu ae=>?_,cap,lY,aG,a6,cN⟩;obtain ⟨a',bk,bq⟩:=cR j u v hu ae;exact ⟨I.fZ a',bk,bq.mono (Ext.append J _) aA.set,aV.b3 a'⟩
    ·rw [sJ (by omega)] at bI;obtain ⟨k,av⟩:∃ k,bx-H.length=k+1:=⟨bx-H.length-1,by omega⟩;rw [av] at bI;cases k with
     | zero=>simp at bI;subst bI;trivial
     | succ k=>simp at bI
theorem E6 (ah:aL B U J S w H) {lo:Nat} {ts:Array TypeId} (ty:TypeId) {u x r:I} {v cA:Value} {cv dJ:aI} (ca:∀ id,cv≠.obj id) (cn:∀ id j,cv≠.cell id j) (dd:∀ id,dJ≠.obj id) (de:∀ id j,dJ≠.cell id j) (bM:cv≠dJ)
  {H':List au} (h:h' P lo ts H [u,x]=some (r,H')) (aj:Rel J S w u v) (aq:aV U J S w cv u v) (ef:Rel J S w x cA) (h3:aV U J S w dJ x cA) :
  ∃ y w',(Builtin.append_ ts ty #[v,cA]).run P w=.ok y w'∧a1 B U J S w H' r y w':=by
 unfold h' at h;simp only at h;split at h
 ·rename_i t dm g1;obtain rfl:ts=#[t,dm]:=by rw [←uq (xs:=ts),g1]
  split at h
  ·
   rename_i s c n gu;split at h
   ·rename_i cells iS z eH;split at h
    ·simp at h
    ·rename_i aN;simp only [Option.some.injEq,Prod.mk.injEq] at h;obtain ⟨rfl,rfl⟩:=h;obtain ⟨y,w',q1,bn,cg,bH,bR,b4,eC,fJ,mB⟩:=AP ah ty ca cn dd de bM eH aj aq ef h3;have q:=D_ eC (l:=.res) (by simp) (by simp) aN fJ mB;exact ⟨y,w',q1,a1.after bR b4 q⟩
   ·simp at h
  ·
   rename_i s id gid len z;split at h
   ·split at h
    ·rename_i e l g cU ax aE;split at h
     ·rename_i sz bytes gg m new bP ag bm eH;split at h
      ·rename_i ao;obtain ⟨rfl,rfl,rfl,rfl,ak,cY,aS,hm,eo,yW,en⟩:=ao;simp only [Option.some.injEq,Prod.mk.injEq] at h;obtain ⟨rfl,rfl⟩:=h;obtain ⟨i,hi,rfl⟩:=mO bP;simp only [hi,sd,Option.some.injEq] at ag;subst ag;obtain ⟨a4,aJ,aP,bW,jL⟩:=mo ah dd de ef h3;have da:bg U S w U a4 w:=bg.settle aJ fun b o h=>(aP b o h).imp (fun h=>h) fun h=>⟨_,h⟩;obtain ⟨ny,dv,hi',ep,fD⟩:=hL (J:=J) (S:=a4) (w:=w) bm;rw [hi] at hi';cases hi';(have kE:gg.length=dv.cells.size:=by simpa using fD.len);(have gy:dv.cells.size=i.size:=by omega);obtain ⟨q1,aW⟩:=ig en;replace eH:=x5 eH;have aU:=(sa.1 aE).1;obtain ⟨ar,cL,dV,vs,rfl,hnew,bu⟩:∃ b o c vs,cA=.slice (some ⟨b,o,none⟩) m c∧c3 J a4 w new vs∧(∀ j y,vs[j]?=some y→w.cell? ⟨b,o+j,none⟩=some y):=by
        rcases x4 bW eH jL (I.fZ (I.df x)) with ⟨ad,_,c,rfl⟩ | h
        ·rw [ad] at cY;simp at cY;have:=vL hm aS;omega
        ·exact h
       have eJ:vs.length=m*i.size:=hnew.len ▸ cY;obtain ⟨b,cur,ce,aB,aH,aR,bj,bb,bf,cap,c0,c',dD,fu⟩:=bW.obj id _ aE;cases aj with
       | cl _ _ _ _ dx F4 iE yF hle =>
         rw [aB] at iE;cases iE;rw [c0] at yF;cases yF;have ek:∀ u∈vs,u.oneCell'=true:=fun u hu=>by
          obtain ⟨j,aw⟩:=tx.1 hu;have aU:=(sa.1 aw).1;exact (hnew.rel j _ u (sk (hnew.len ▸ aU)) aw).2.1
         have Cc:b<w.heap.size:=(sW.1 aR).1
         suffices ai:∃ y w',(Builtin.append_ #[t,t] ty #[.slice (some ⟨b,0,none⟩) len cap,.slice (some ⟨ar,cL,none⟩) m dV]).run P w=.ok y w'∧a1 B U J a4 w (H.set id .dead++[.grow (l++new) (H.length+1) i.size,.dead]) (.cl H.length (H.length+1) (len+m) i.size) y w' by
          obtain ⟨y,w',bR,b4⟩:=ai;exact ⟨y,w',bR,a1.after (Ext.refl J) da b4⟩
         by_cases dG:len+m≤cap
         ·have jA:(len+m)*i.size≤cap*i.size:=tp _ dG;rw [tg] at jA;have aj:=Au (P:=P) w t ty e i ax hi b len cap cur ce aR ⟨ar,cL,none⟩ m dV vs eJ (fun j x h=>by rw [add_lit];exact bu j x h) ek dG (by rw [fu];omega);(have ad:cur.toList.length=cap*i.size:=by simp [fu]);refine ⟨_,_,aj,?_⟩;refine zL bW aU aH bb bf (nb:=b) (cap1:=cap) (e1:=ce) (hnew:=hnew) (by exact rfl) (by exact rfl) (by exact rfl) (by simp [World.setRow]) (fun bo _ eT=>by exact setRow_other w b bo _ eT) (.inl rfl) (by simpa [World.setRow] using Cc) (by exact setRow_heap w b cur _ ce (0,0) aR) ?_ c' dD ?_ (fun j aw=>?_) (fun j v aw=>?_) dG
          ·rw [tI,su,su,sY,tJ,ad,eJ,tK (by omega)];omega
          ·rw [tI,su,su,sY,tJ,ad,eJ,tK (by omega),ak,cY];omega
          ·have:=j3 cur.toList vs (len*i.size) j (by rw [ad];omega);rw [if_neg (by omega)] at this;simpa using this
          ·have lV:=(sa.1 aw).1;have:=j3 cur.toList vs (len*i.size) (l.length+j) (by rw [ad];omega);rw [if_pos ⟨by omega,by omega⟩,ak,show len*i.size+j-len*i.size=j by omega,aw] at this;rw [ak];simpa using this
         ·have CH:len+m≤140737488355328:=sH (uo _ aW) q1;(have ej:len+m≤maxLen:=by simp only [maxLen];omega);have cC:len*i.size≤cap*i.size:=tp _ hle;have fE:(cur.toList.take (len*i.size)).length=len*i.size:=by rw [sY];simp;omega
          have aj:=run_append_grow (P:=P) w t ty e i dv ax hi ep ⟨b,0,none⟩ len cap (cur.toList.take (len*i.size)) fE (fun j x h=>by
           rw [sT] at h;split at h
           ·rw [add_lit,sP,cell_of_row w b _ cur ce (0,0) aR];simpa using h
           ·simp at h) ⟨ar,cL,none⟩ m dV vs eJ (fun j x h=>by rw [add_lit];exact bu j x h) (by omega) (by omega) (growslice_fits (by omega) q1)
          have e7:=grownCap_ge w (len+m) cap e;have yI:=grownCap_le_maxLen w (len+m) cap e ej;generalize grownCap w (len+m) cap e=e5 at e7 yI aj;refine ⟨_,_,aj,?_⟩;refine zL bW aU aH bb bf (nb:=w.heap.size) (cap1:=e5) (e1:=e) (hnew:=hnew) (by exact rfl) (by exact rfl) (by exact rfl) (by simp) (fun bo eT _=>by exact heap_alloc_old w.drew _ bo eT) (.inr rfl) (by simp) (by exact heap_alloc_new w.drew _) ?_ yI dD ?_ (fun j aw=>?_) (fun j v aw=>?_) e7
          ·simp only [vl,tI,fE,eJ,size_zeroCells,gy];rw [←tg,←tg];congr 1;omega
          ·simp only [vl,tI,fE,eJ,size_zeroCells,gy,ak,cY];omega
          ·rw [ak] at aw;rw [vN (by simp only [vl,tI,fE];omega),vN (by simp only [tI,fE];omega)];simp [aw]
          ·have lV:=(sa.1 aw).1;rw [ak,vN (by simp only [vl,tI,fE];omega),Array.getElem?_append_right (by simp only [tI,fE];omega)];simp only [tI,fE,show len*i.size+j-len*i.size=j by omega];simpa using aw
      ·simp at h
     ·simp at h
    ·simp at h
   ·simp at h
  ·simp at h
 ·simp at h
theorem E0 (ah:aL B U J S w H) (lo:Nat) (vs:List I):aL B U J S w (i_ lo H vs):=by
 unfold i_;split
 ·rename_i id _ len z _;split
  ·rename_i l g cU aE;split
   ·refine ⟨by simpa using ah.cE,fun bx o aq=>?_,ah.cf,ah.base,ah.cX⟩;by_cases cu:bx=id
    ·subst cu;rw [sg (sa.1 aE).1] at aq;cases aq;obtain ⟨b,cur,e,aB,aH,aR,bj,bb,bf,c0⟩:=ah.obj bx _ aE;refine ⟨b,cur,e,aB,aH,aR,sH (by rw [sY];omega) bj,bb,fun j u v hu ae=>?_,c0⟩;rw [sT] at hu;split at hu
     ·exact bf j u v hu ae
     ·simp at hu
    ·rw [si (Ne.symm cu)] at aq;exact ah.obj bx o aq
   ·exact ah
  ·exact ah
 ·exact ah
theorem E5 (ah:aL B U J S w H) {lo:Nat} {ts:Array TypeId} (ty:TypeId) {u x r:I} {v cA:Value} {cv dJ:aI} (ca:∀ id,cv≠.obj id) (cn:∀ id j,cv≠.cell id j) (dd:∀ id,dJ≠.obj id) (de:∀ id j,dJ≠.cell id j) (bM:cv≠dJ)
  {H':List au} (h:iV P lo ts H [u,x]=some (r,H')) (aj:Rel J S w u v) (aq:aV U J S w cv u v) (ef:Rel J S w x cA) (h3:aV U J S w dJ x cA) :
  ∃ y w',(Builtin.append_ ts ty #[v,cA]).run P w=.ok y w'∧a1 B U J S w H' r y w' :=
 E6 (E0 ah lo [u,x]) ty ca cn dd de bM h aj aq ef h3
end
end Go.Proofs.YtfakoboiahbhaaaGreat.Ab


namespace Go.Proofs.YtfakoboiahbhaaaGreat.Ab
open Go
section
variable {P:Program} {B:Nat} {J:List Nat} {w:World} {H:List au} {U:Nat→Option aI} {S:Nat→Nat→Prop}
theorem mg {ts:Array TypeId} (h:iP P ts[0]?=true):∃ t e,ts[0]?=some t∧P.underlying t=some (.slice e):=by
 unfold iP at h;split at h
 ·rename_i e he;simp only [se] at he;obtain ⟨t,ad,af⟩:=he;exact ⟨t,e,ad,af⟩
 ·simp at h
theorem Ff (ah:aL B U J S w H) {ts:Array TypeId} (ty:TypeId) {u r:I} {H':List au} {v:Value} (h:g_ P ts H [u]=some (r,H')) (aj:Rel J S w u v) :
  ∃ y,(Builtin.len_ ts ty #[v]).run P w=.ok y w∧a1 B U J S w H' r y w:=by
 simp only [g_] at h;split at h
 ·split at h
  ·rename_i ai;obtain ⟨t,e,ax,he⟩:=mg ai;simp only [Option.some.injEq,Prod.mk.injEq] at h;obtain ⟨rfl,rfl⟩:=h;have ae:∃ a c,v=.slice a _ c:=mn (n:=_) rfl aj;obtain ⟨a,c,rfl⟩:=ae;exact ⟨_,by simp [Builtin.len_,ax,run_underlying he,goInt],a1.same ah (.int _ _) rfl⟩
  ·simp at h
 ·split at h
  ·rename_i ai;obtain ⟨t,e,ax,he⟩:=mg ai;simp only [Option.some.injEq,Prod.mk.injEq] at h;obtain ⟨rfl,rfl⟩:=h;have ae:∃ a c,v=.slice a _ c:=mn (n:=_) rfl aj;obtain ⟨a,c,rfl⟩:=ae;exact ⟨_,by simp [Builtin.len_,ax,run_underlying he,goInt],a1.same ah (.int _ _) rfl⟩
  ·simp at h
 ·split at h
  ·rename_i _ _ ax aE;simp only [se] at ax;obtain ⟨t,ax,he⟩:=ax;simp only [Option.some.injEq,Prod.mk.injEq] at h;obtain ⟨rfl,rfl⟩:=h;obtain ⟨b,bw,aB,aH,aR,bj,bb,bf⟩:=ah.obj _ _ aE;cases aj with
   | map _ ar k =>
     rw [aB] at k;cases k;exact ⟨_,by simp [Builtin.len_,ax,run_underlying he,goInt,getObj,Sem.run,aR,bj],a1.same ah (.int _ _) rfl⟩
  ·simp at h
 ·split at h
  ·rename_i n e he;simp only [se] at he;obtain ⟨t,ax,he⟩:=he;simp only [Option.some.injEq,Prod.mk.injEq] at h;obtain ⟨rfl,rfl⟩:=h;exact ⟨_,by simp [Builtin.len_,ax,run_underlying he,goInt],a1.same ah (.int _ _) rfl⟩
  ·simp at h
theorem E' (ah:aL B U J S w H) {ts:Array TypeId} (ty:TypeId) {u r:I} {H':List au} {v:Value} (h:jS P ts H [u]=some (r,H')) (aj:Rel J S w u v) :
  ∃ y,(Builtin.cap_ ts ty #[v]).run P w=.ok y w∧a1 B U J S w H' r y w:=by
 unfold jS at h;split at h
 ·rename_i cs n heq;simp only [List.cons.injEq,and_true] at heq;subst heq;split at h
  ·rename_i ai;obtain ⟨t,e,ax,he⟩:=mg ai;simp only [Option.some.injEq,Prod.mk.injEq] at h;obtain ⟨rfl,rfl⟩:=h;have ae:∃ a,v=.slice a n n:=by
    cases aj with
    | b1=>exact ⟨_,rfl⟩
    | ay _ _ _ b o cap f ao=>exact ⟨_,by rw [ao rfl]⟩
   obtain ⟨a,rfl⟩:=ae;exact ⟨_,by simp [Builtin.cap_,ax,run_underlying he,goInt],a1.same ah (.int _ _) rfl⟩
  ·simp at h
 ·rename_i id off len n sz heq;simp only [List.cons.injEq,and_true] at heq;subst heq;split at h
  ·rename_i ai;obtain ⟨t,e,ax,he⟩:=mg ai;simp only [Option.some.injEq,Prod.mk.injEq] at h;obtain ⟨rfl,rfl⟩:=h;have ae:∃ a,v=.slice a len n:=by
    cases aj with
    | ref _ _ _ _ _ b cap _ ao=>exact ⟨_,by rw [ao n rfl]⟩
   obtain ⟨a,rfl⟩:=ae;exact ⟨_,by simp [Builtin.cap_,ax,run_underlying he,goInt],a1.same ah (.int _ _) rfl⟩
  ·simp at h
 ·simp at h
theorem AF {k:IntKind}:∀ (us:List I) (a n:Int) (vs:List Value) (bz:Nat→aI),kN us a=some n→a9 bz U J S w us vs→(vs.foldlM Builtin.min2 (.int k a)).run P w=.ok (.int k n) w
 | [],a,n,vs,bz,h,ae=>by
   cases vs with
   | cons=>exact absurd ae.len (by simp)
   | nil=>simp only [kN,Option.some.injEq] at h;subst h;rfl
 | u::us,a,n,vs,bz,h,ae=>by
   obtain ⟨v1,t1,rfl,r1,_,dA⟩:=ae.gK;unfold kN at h;split at h
   ·rename_i heq;simp at heq
   ·rename_i k' b r _ heq;simp only [List.cons.injEq] at heq;obtain ⟨rfl,rfl⟩:=heq;have e1:=r1.db;subst e1;simp only [List.foldlM_cons,Builtin.min2,pure_bind];exact AF _ _ _ _ _ h dA
   ·cases h
theorem AE {k:IntKind}:∀ (us:List I) (a n:Int) (vs:List Value) (bz:Nat→aI),kM us a=some n→a9 bz U J S w us vs→(vs.foldlM Builtin.max2 (.int k a)).run P w=.ok (.int k n) w
 | [],a,n,vs,bz,h,ae=>by
   cases vs with
   | cons=>exact absurd ae.len (by simp)
   | nil=>simp only [kM,Option.some.injEq] at h;subst h;rfl
 | u::us,a,n,vs,bz,h,ae=>by
   obtain ⟨v1,t1,rfl,r1,_,dA⟩:=ae.gK;unfold kM at h;split at h
   ·rename_i heq;simp at heq
   ·rename_i k' b r _ heq;simp only [List.cons.injEq] at heq;obtain ⟨rfl,rfl⟩:=heq;have e1:=r1.db;subst e1;simp only [List.foldlM_cons,Builtin.max2,pure_bind];exact AE _ _ _ _ _ h dA
   ·cases h
theorem Fp {us:List I} {r:I} (ts:Array TypeId) (ty:TypeId) {bz:Nat→aI} {vs:List Value} (h:nL us=some r) (ae:a9 bz U J S w us vs) :
  ∃ y,(Builtin.min_ ts ty vs.toArray).run P w=.ok y w∧Rel J S w r y∧r.plain=true:=by
 unfold nL at h;split at h
 ·simp only [rZ] at h;obtain ⟨n,h,rfl⟩:=h;obtain ⟨v1,t1,rfl,r1,_,dA⟩:=ae.gK;have e1:=r1.db;subst e1;exact ⟨_,by simp only [Builtin.min_];exact AF _ _ _ _ _ h dA,.int _ _,rfl⟩
 ·simp at h
theorem Fo {us:List I} {r:I} (ts:Array TypeId) (ty:TypeId) {bz:Nat→aI} {vs:List Value} (h:nK us=some r) (ae:a9 bz U J S w us vs) :
  ∃ y,(Builtin.max_ ts ty vs.toArray).run P w=.ok y w∧Rel J S w r y∧r.plain=true:=by
 unfold nK at h;split at h
 ·simp only [rZ] at h;obtain ⟨n,h,rfl⟩:=h;obtain ⟨v1,t1,rfl,r1,_,dA⟩:=ae.gK;have e1:=r1.db;subst e1;exact ⟨_,by simp only [Builtin.max_];exact AE _ _ _ _ _ h dA,.int _ _,rfl⟩
 ·simp at h
theorem Bf (ah:aL B U J S w H) {lo id off len sz n:Nat} {H':List au} {cs:List I} {vs:List Value} (eA:c3 J S w cs vs) (cC:cs.length=n) (aN:n≤len*sz)
  (h:g6 lo H id (fun l=>if off+len*sz≤l.length then some (setCells off cs l) else none)=some H') {b:Nat} (ag:J[id]?=some b) :
  ∃ w',(storeCells ⟨b,off,none⟩ vs).run P w=.ok () w'∧∃ az,bg U S w az S w'∧aL B az J S w' H'∧∃ cur e cur' cM,w.heap[b]?=some (.cells cur e (0,0))∧w'.heap[b]?=some (.cells cur' cM (0,0))∧cur'.size=cur.size:=by
 unfold g6 at h;split at h
 ·split at h
  ·rename_i ll aE;simp only [rZ] at h;obtain ⟨l',dz,rfl⟩:=h;split at dz
   ·rename_i ao;cases dz;obtain ⟨ar,cur,e,aB,aH,aR,bj,bb,bf⟩:=ah.obj id _ aE;rw [ag] at aB;cases aB;have pI:vs.length=n:=eA.len ▸ cC;have ek:∀ u∈vs,u.oneCell'=true:=fun u hu=>by
     obtain ⟨j,aw⟩:=tx.1 hu;have aU:=(sa.1 aw).1;exact (eA.rel j _ u (sk (eA.len ▸ aU)) aw).2.1
    have cJ:=run_storeCells_at P b off e vs 0 cur w aR (by omega) ek;simp only [tP] at cJ;obtain ⟨az,aA,cc⟩:=xf (cur':=(cur.toList.take off++vs++cur.toList.drop (off+vs.length)).toArray) (l':=setCells off cs ll) ah aE ag aH aR bb .res (by simp) (by simp)
     (by simp [mL];omega) 0 (fun j bG br hu ae=>by
      rw [n7 _ _ _ _ (by omega)] at hu;(have ae:(cur.toList.take off++vs++cur.toList.drop (off+vs.length))[j]?=some br:=by simpa using ae);rw [j3 cur.toList vs off j (by have Ch:cur.toList.length=cur.size:=tw;omega)] at ae;rw [eA.len] at hu;split at hu
      ·rename_i aw;rw [if_pos aw] at ae;obtain ⟨a',bk,bq⟩:=eA.rel _ bG br hu ae;exact ⟨I.fZ a',bk,bq,.inl a'⟩
      ·rename_i aw;rw [if_neg aw] at ae;obtain ⟨d1,d0,d2,d3⟩:=bf j bG br hu (by simpa using ae)
       exact ⟨d1,d0,d2,.inr (.inl d3)⟩)
    exact ⟨_,cJ,az,aA,cc,cur,e,_,e,aR,setRow_heap w b cur _ e (0,0) aR,by have Ch:cur.toList.length=cur.size:=tw;simp;omega⟩
   ·simp at dz
  ·simp at h
 ·simp at h
theorem Be (ah:aL B U J S w H) {lo id off len sz n:Nat} {H':List au} {cs:List I} {vs:List Value} (eA:c3 J S w cs vs) (cC:cs.length=n) (aN:n≤len*sz)
  (h:g6 lo H id (fun l=>if off+len*sz≤l.length then some (setCells off cs l) else none)=some H') {b:Nat} (ag:J[id]?=some b) :
  ∃ w',(storeCells ⟨b,off,none⟩ vs).run P w=.ok () w'∧∃ az,bg U S w az S w'∧aL B az J S w' H':=by
 obtain ⟨w',ad,az,af,aG,_⟩:=Bf (P:=P) ah eA cC aN h ag;exact ⟨w',ad,az,af,aG⟩
theorem FT (ah:aL B U J S w H) {lo id off len sz n:Nat} {H':List au} {cs:List I} {vs:List Value} (eA:c3 J S w cs vs) (cC:cs.length=n) (aN:n≤len*sz)
  (h:g7 lo H id (fun l=>if off+len*sz≤l.length then some (setCells off cs l) else none)=some H') {b:Nat} (ag:J[id]?=some b) :
  ∃ w',(storeCells ⟨b,off,none⟩ vs).run P w=.ok () w'∧∃ az,bg U S w az S w'∧aL B az J S w' H':=by
 unfold g7 at h;split at h
 ·rename_i bD;split at h
  ·rename_i ll aE;exact Be (P:=P) (lo:=lo) ah eA cC aN (by unfold g6;rw [if_pos bD,aE];exact h) ag
  ·rename_i ll g z aE;simp only [rZ] at h;obtain ⟨l',dz,rfl⟩:=h;have aU:=(sa.1 aE).1;obtain ⟨dx,cur,e,aB,aH,aR,bj,bb,bf,cap,c0,c',dD,fu⟩:=ah.obj id _ aE;rw [ag] at aB;cases aB
   obtain ⟨w',q1,az,aW,cz,BO,fQ,js,e1,dP,mF,xk⟩:=Bf (P:=P) (lo:=lo) (id:=id) (H':=(H.set id (.cells ll)).set id (.cells l')) (ah.od aE) eA cC aN (by
    unfold g6;rw [if_pos bD,sg aU];exact congrArg (Option.map _) dz) ag
   rw [aR] at dP;cases dP;have aO:=cz.xp (g:=g) (z:=z) (by rw [sg (by simpa using aU)]) ag c0 c' dD mF (by rw [xk,fu]);rw [sS,sS] at aO;exact ⟨w',q1,az,aW,aO⟩
  ·simp at h
 ·simp at h
theorem Fb (ah:aL B U J S w H) {lo:Nat} {ts:Array TypeId} (ty:TypeId) {u x r:I} {H':List au} {v cA:Value} {dJ:aI} (dd:∀ id,dJ≠.obj id) (de:∀ id j,dJ≠.cell id j)
  (h:jT P lo ts H [u,x]=some (r,H')) (aj:Rel J S w u v) (ef:Rel J S w x cA) (h3:aV U J S w dJ x cA) :
  ∃ y w',(Builtin.copy_ ts ty #[v,cA]).run P w=.ok y w'∧a1 B U J S w H' r y w':=by
 obtain ⟨a4,aJ,aP,bW,jL⟩:=mo ah dd de ef h3;have da:bg U S w U a4 w:=bg.settle aJ fun b o h=>(aP b o h).imp (fun h=>h) fun h=>⟨_,h⟩;unfold jT at h;split at h
 ·rename_i id off len cap sz oh heq;simp only [List.cons.injEq,and_true] at heq;obtain ⟨rfl,rfl⟩:=heq;split at h
  ·rename_i e he;simp only [se] at he;obtain ⟨t,ax,he⟩:=he;split at h
   ·rename_i s m row ai hm cS;split at h
    ·rename_i ao;obtain ⟨rfl,C3⟩:=ao;simp only [rZ] at h;obtain ⟨a2,hw,h⟩:=h;simp only [Prod.mk.injEq] at h;obtain ⟨rfl,rfl⟩:=h;have CM:lenOf x.view=some m:=by
      cases x <;> try exact hm
      ·rename_i c;cases c <;> exact hm
      ·simp [lenOf] at hm
     have nu:rowOf H x.view=some row:=by
      cases x <;> try exact cS
      ·rename_i c;cases c <;> exact cS
      ·simp [rowOf] at cS
     have h4:=I.fZ (I.df x);cases aj with
     | ref _ _ _ _ _ b cap' ag Cf hle =>
       obtain ⟨a,c,fW⟩:=mn CM jL;have C6:∃ vs,c3 J a4 w row vs∧∀ n,n≤m→(Builtin.firstCells s n cA).run P w=.ok (vs.take (n*s)).toArray w:=by
        rcases xE bW nu jL h4 with ⟨aS,n,dV,ae⟩ | ⟨cI,bQ,n,dV,vs,ae,gw,bu⟩
        ·refine ⟨[],⟨by simp [aS],by simp [aS]⟩,fun iS aN=>?_⟩;(have Gc:m=0:=by rw [ae] at fW;cases fW;rfl);rw [ae];(obtain rfl:iS=0:=by omega);cases n <;> simp [Builtin.firstCells,loadCells,loadCellsFrom]
        ·refine ⟨vs,gw,fun iS aN=>?_⟩;rw [ae] at fW ⊢;cases fW;have pI:vs.length=m*s:=gw.len ▸ C3;have CG:iS*s≤m*s:=tp _ aN
         exact run_firstCells_some (P:=P) w s iS ⟨cI,bQ,none⟩ m c (vs.take (iS*s)) (by simp;omega) (fun j y a0=>by
          rw [sT] at a0;split at a0
          ·rw [add_lit];exact bu j y a0
          ·simp at a0)
       obtain ⟨vs,gw,Cq⟩:=C6;have Gd:min m len*s≤m*s:=tp _ (Nat.min_le_left _ _)
       have Ck:c3 J a4 w (row.take (min m len*s)) (vs.take (min m len*s)):=⟨by simp [gw.len],fun j bG br b_ bc=>by
        rw [sT] at b_ bc;split at b_
        ·rename_i aw;rw [if_pos aw] at bc;exact gw.rel j bG br b_ bc
        ·simp at b_⟩
       obtain ⟨w',cJ,az,aA,cc⟩:=Be (P:=P) (n:=min m len*s) bW Ck (by simp;omega) (tp _ (Nat.min_le_right _ _)) hw ag;refine ⟨.int .i64 (min m len:Nat),w',?_,az,J,a4,Ext.refl J,da.trans aA,cc,.int _ _,aV.b3 rfl⟩;subst fW;have aQ:=Cq (min m len) (Nat.min_le_left _ _);simp only [Builtin.copy_,ax,List.getElem?_toArray,ur,List.getElem?_cons_succ,Sem.run_bind,run_underlying he,Result.andThen_ok,Builtin.lenOf,Sem.run_pure,run_sizeOf ai];rw [show Nat.min m len=min m len from rfl,aQ];simp [cJ,goInt]
    ·simp at h
   ·simp at h
  ·simp at h
 ·simp at h
theorem Fa (ah:aL B U J S w H) {lo:Nat} {ts:Array TypeId} (ty:TypeId) {u r:I} {H':List au} {v:Value} (h:kR P lo ts H [u]=some (r,H')) (aj:Rel J S w u v) :
  ∃ y w',(Builtin.clear_ ts ty #[v]).run P w=.ok y w'∧a1 B U J S w H' r y w':=by
 have done:∀ {a2:List au},aL B U J S w a2→a1 B U J S w a2 (.tuple []) (.tuple #[]) w:=fun cp=>a1.same cp (.tuple [] #[] rfl (by simp) (by simp)) rfl;unfold kR at h;split at h
 ·rename_i id off len cap sz heq;simp only [List.cons.injEq,and_true] at heq;subst heq;split at h
  ·rename_i e he;simp only [se] at he;obtain ⟨t,ax,he⟩:=he;split at h
   ·rename_i s z ai bm;split at h
    ·rename_i ao;obtain ⟨rfl,eo,bP⟩:=ao;simp only [rZ,Prod.mk.injEq] at h;obtain ⟨a2,hw,rfl,rfl⟩:=h;obtain ⟨i,dv,hi,ep,fD⟩:=hL (J:=J) (S:=S) (w:=w) bm;have fG:=mQ fD (by omega) len;cases aj with
     | ref _ _ _ _ _ b cap' ag Cf hle =>
       obtain ⟨w',cJ,az,aA,cc⟩:=FT (P:=P) (n:=len*s) ah fG (by rw [ie,eo]) (sc _) hw ag;(have kE:z.length=dv.cells.size:=by simpa using fD.len);have heq:(Builtin.zeroCells dv.cells len).toList=((Array.range (len*z.length)).map (fun i=>dv.cells[i % dv.cells.size]!)).toList:=by
        simp [Builtin.zeroCells,kE]
       rw [←heq] at cJ;cases len with
       | zero =>
         have ma:w'=w:=by
          (have aS:(Builtin.zeroCells dv.cells 0).toList=[]:=by simp [Builtin.zeroCells]);rw [aS] at cJ;simp [storeCells] at cJ;exact cJ.symm
         subst ma;refine ⟨.tuple #[],w',by simp [Builtin.clear_,ax,run_underlying he],az,J,S,Ext.refl J,aA,cc,.tuple [] #[] rfl (by simp) (by simp),aV.b3 rfl⟩
       | succ n =>
         refine ⟨.tuple #[],w',?_,az,J,S,Ext.refl J,aA,cc,.tuple [] #[] rfl (by simp) (by simp),aV.b3 rfl⟩;simp [Builtin.clear_,ax,run_underlying he,j2 hi ep,cJ]
    ·simp at h
   ·simp at h
  ·simp at h
 ·rename_i c heq;simp only [List.cons.injEq,and_true] at heq;subst heq;split at h
  ·rename_i ai;obtain ⟨t,e,ax,he⟩:=mg ai;simp only [Option.some.injEq,Prod.mk.injEq] at h;obtain ⟨rfl,rfl⟩:=h;have ae:∃ a c,v=.slice a 0 c:=mn (n:=0) rfl aj;obtain ⟨a,c,rfl⟩:=ae;refine ⟨.tuple #[],w,?_,done ah⟩;cases a <;> simp [Builtin.clear_,ax,run_underlying he]
  ·simp at h
 ·simp at h
theorem yr (off:Nat):∀ (xs:List Value) (k:Nat) (cells:Array Value) (j:Nat),off+k+xs.length≤cells.size →
  ((xs.zipIdx k).foldl (fun cs (x:Value×Nat)=>cs.setIfInBounds (off+x.2) x.1) cells)[j]?=if off+k≤j∧j<off+k+xs.length then xs[j-(off+k)]? else cells[j]?
 | [],k,cells,j,_=>by simp;omega
 | x::xs,k,cells,j,h=>by
   simp only [sL] at h;simp only [List.zipIdx_cons,List.foldl_cons];rw [yr off xs (k+1) _ j (by simp;omega)];by_cases ad:j=off+k
   ·subst ad;rw [if_neg (by omega),if_pos (by simp)];simp [show off+k<cells.size by omega]
   ·by_cases af:off+(k+1)≤j∧j<off+(k+1)+xs.length
    ·rw [if_pos af,if_pos (by simp;omega)];obtain ⟨m,rfl⟩:∃ m,j=off+(k+1)+m:=⟨j-(off+(k+1)),by omega⟩;rw [show off+(k+1)+m-(off+(k+1))=m by omega,show off+(k+1)+m-(off+k)=m+1 by omega];simp
    ·rw [if_neg af,if_neg (by simp;omega),Array.getElem?_setIfInBounds_ne (by omega)]
theorem D6 {u:I} {v:Value} {bF:List I} (ao:u.cells=some bF) (aj:Rel J S w u v) (aC:u.plain=true):c3 J S w bF v.cells.toList:=by
 have single:bF=[u]→v.cells=#[v]→v.oneCell'=true→c3 J S w bF v.cells.toList:=by
  intro ad af aG;subst ad;rw [af];refine ⟨rfl,fun j bG br hu ae=>?_⟩;cases j with
  | zero=>simp at hu ae;subst hu ae;exact ⟨aC,aG,aj⟩
  | succ j=>simp at hu
 cases aj with
 | agg as vs h p one r =>
   simp [I.cells] at ao;subst ao;exact ⟨by simpa [Value.cells] using h.symm,fun j bG br hu ae=>⟨p bG (sI hu),one br (sI ae),r j bG br hu (by simpa [Value.cells] using ae)⟩⟩
 | junk v=>simp [I.cells] at ao
 | tuple as vs h p r=>simp [I.cells] at ao
 | raw=>simp [I.cells] at ao
 | _=>simp [I.cells] at ao;exact single ao.symm rfl rfl
theorem na {place:Nat→Option (Nat×Nat)}:∀ (parts:List (Nat×I)) (parts':List (Nat×Value)) (cs c8:List I) (vs:Array Value),
  parts.map (·.1)=parts'.map (·.1)→(∀ (j:Nat) (x:Nat×I) (y:Nat×Value),parts[j]?=some x→parts'[j]?=some y→x.2.plain=true∧Rel J S w x.2 y.2) →
  gm place cs parts=some c8→c3 J S w cs vs.toList→∃ du,Instr.fill place vs parts'=some du∧c3 J S w c8 du.toList
 | [],parts',cs,c8,vs,hi,_,h,ao=>by
   cases parts' with
   | nil=>simp [gm] at h;subst h;exact ⟨vs,rfl,ao⟩
   | cons=>simp at hi
 | (i,u)::parts,parts',cs,c8,vs,hi,b9,h,ao=>by
   cases parts' with
   | nil=>simp at hi
   | cons y parts' =>
     obtain ⟨ny,v⟩:=y;simp only [List.map_cons,List.cons.injEq] at hi;obtain ⟨rfl,hi⟩:=hi;obtain ⟨aC,aj⟩:=b9 0 (i,u) (i,v) rfl rfl;simp only [gm] at h;split at h
     ·rename_i off size h4;split at h
      ·rename_i bF fF;split at h
       ·rename_i gU;obtain ⟨bP,hle⟩:=gU;have eA:=D6 fF aj aC;(have pI:v.cells.size=size:=by have:=eA.len;simp at this;omega);(have cC:vs.size=cs.length:=by have:=ao.len;simp at this;omega);have bt:c3 J S w (setCells off bF cs) (v.cells.zipIdx.foldl (fun cs (x:Value×Nat)=>cs.setIfInBounds (off+x.2) x.1) vs).toList:=by
         refine ⟨?_,fun j bG br hu ae=>?_⟩
         ·rw [mL];have pa:∀ (l:List (Value×Nat)) (a:Array Value),(l.foldl (fun cs (x:Value×Nat)=>cs.setIfInBounds (off+x.2) x.1) a).size=a.size:=by
           intro l;induction l with
           | nil=>intro a;rfl
           | cons x l a_=>intro a;simp [a_]
          have:=pa v.cells.zipIdx.toList vs;simp only [tw];rw [←cC,←this,←vR]
         ·rw [n7 _ _ _ _ (by omega)] at hu;have aO:=yr off v.cells.toList 0 vs j (by simp;omega);(have dA:(v.cells.zipIdx.foldl (fun cs (x:Value×Nat)=>cs.setIfInBounds (off+x.2) x.1) vs)[j]?=some br:=by simpa using ae);rw [←vR,Array.toList_zipIdx] at dA;rw [aO] at dA;simp only [tP,tw,pI] at dA;rw [bP] at hu;split at hu
          ·rename_i aw;rw [if_pos aw] at dA;exact eA.rel _ bG br hu dA
          ·rename_i aw;rw [if_neg aw] at dA;exact ao.rel j bG br hu (by simpa using dA)
        obtain ⟨du,ad,af⟩:=na parts parts' (setCells off bF cs) c8 _ hi (fun j x y al a0=>b9 (j+1) x y (by simpa using al) (by simpa using a0)) h bt;exact ⟨du,by simp only [Instr.fill,h4];rw [if_neg (by simp;omega)];exact ad,af⟩
       ·simp at h
      ·simp at h
     ·simp at h
end
end Go.Proofs.YtfakoboiahbhaaaGreat.Ab


namespace Go.Proofs.YtfakoboiahbhaaaGreat.Ab
open Go
section
variable {P:Program} {B:Nat} {J:List Nat} {w:World} {H:List au} {U:Nat→Option aI} {S:Nat→Nat→Prop}
theorem AD {α β:Type} (g:α→Sem β) (h:α→β):∀ (l:List α),(∀ x∈l,∀ w,(g x).run P w=.ok (h x) w)→∀ w,(l.mapM g).run P w=.ok (l.map h) w
 | [],_,w=>by simp
 | x::l,al,w=>by
   rw [List.mapM_cons];simp [al x (by simp),AD g h l (fun y a0=>al y (by simp [a0]))]
theorem E9 {t:TypeId} {parts:List (Nat×I)} {parts':Array (Nat×Value)} {r:I} (h:lk P t parts=some r) (hi:parts.map (·.1)=parts'.toList.map (·.1))
  (b9:∀ (j:Nat) (x:Nat×I) (y:Nat×Value),parts[j]?=some x→parts'.toList[j]?=some y→x.2.plain=true∧Rel J S w x.2 y.2) :
  ∃ v,(Instr.build t parts').run P w=.ok v w∧Rel J S w r v∧r.plain=true:=by
 have fin:∀ {c8:List I} {du:Array Value},c3 J S w c8 du.toList→Rel J S w (.agg c8) (.agg du):=fun {c8 du} h =>
  .agg _ _ (by simpa using h.len.symm) (fun u hu=>by
   obtain ⟨j,aw⟩:=tx.1 hu;have aU:=(sa.1 aw).1;exact (h.rel j u _ aw (sk (h.len ▸ aU))).1) (fun v ae=>by
   obtain ⟨j,aw⟩:=tx.1 ae;have aU:=(sa.1 aw).1
   exact (h.rel j _ v (sk (h.len ▸ aU)) aw).2.1) (fun j u v hu ae=>(h.rel j u v hu (by simpa using ae)).2.2)
 unfold lk at h;split at h
 ·rename_i z bE bm aZ;obtain ⟨i,dv,hi',ep,fD⟩:=hL (J:=J) (S:=S) (w:=w) bm;split at h
  ·rename_i c9;simp only [rZ] at h;obtain ⟨c8,aQ,rfl⟩:=h;obtain ⟨du,ad,af⟩:=na parts parts'.toList z c8 dv.cells hi b9 aQ fD;have yx:∀ f∈bE.toList,∃ s,bS P f.type=some s:=fun f aQ=>by
    have:=sy.1 c9 f aQ;exact Option.isSome_iff_exists.1 this
   have hm:=AD (P:=P) (fun f:Field=>Prod.mk f.offset <$> sizeOf f.type) (fun f:Field=>(f.offset,(bS P f.type).getD 0)) bE.toList (fun f aQ w=>by
    obtain ⟨s,ai⟩:=yx f aQ;simp [run_sizeOf ai,ai]) w
   have h4:(fun (i:Nat)=>(bE.map (fun f:Field=>(f.offset,(bS P f.type).getD 0)))[i]?)=(fun (i:Nat)=>(bE[i]?).bind fun f:Field=>(bS P f.type).map fun s=>(f.offset,s)):=by
    funext i;rw [vi];cases Cp:bE[i]? with
    | none=>rfl
    | some f =>
      obtain ⟨s,ai⟩:=yx f (by simpa using vJ Cp);simp [ai]
   refine ⟨.agg du,?_,fin af,rfl⟩;rw [←h4] at ad;simp only [vi] at ad;simp [Instr.build,j2 hi' ep,run_underlying aZ,Array.mapM_eq_mapM_toList,hm,ad]
  ·simp at h
 ·rename_i z n e bm aZ;obtain ⟨i,dv,hi',ep,fD⟩:=hL (J:=J) (S:=S) (w:=w) bm;simp only [se,rZ] at h;obtain ⟨s,ai,c8,aQ,rfl⟩:=h;obtain ⟨du,ad,af⟩:=na parts parts'.toList z c8 dv.cells hi b9 aQ fD;refine ⟨.agg du,?_,fin af,rfl⟩;simp [Instr.build,j2 hi' ep,run_underlying aZ,run_sizeOf ai,ad]
 ·simp at h
theorem AQ (ah:aL B U J S w H) {t:TypeId} {len:Nat} {parts:List (Nat×I)} {parts':Array (Nat×Value)} {cs:List I} {s:Nat} (h:iv P t len parts=some (cs,s))
  (hi:parts.map (·.1)=parts'.toList.map (·.1))
  (b9:∀ (j:Nat) (x:Nat×I) (y:Nat×Value),parts[j]?=some x→parts'.toList[j]?=some y→x.2.plain=true∧Rel J S w x.2 y.2) :
  ∃ b w',(Instr.buildSlice t len parts').run P w=.ok (.slice (some ⟨b,0,none⟩) len len) w'∧a1 B U J S w H (.ay cs len (.uniq s)) (.slice (some ⟨b,0,none⟩) len len) w':=by
 unfold iv at h;split at h
 ·rename_i e aZ;split at h
  ·rename_i aF z ai bm;split at h
   ·rename_i ao;obtain ⟨ad,af,aG⟩:=ao;simp only [rZ,Prod.mk.injEq] at h;obtain ⟨c8,aQ,rfl,rfl⟩:=h;obtain ⟨i,dv,hi',ep,fD⟩:=hL (J:=J) (S:=S) (w:=w) bm;have fG:=mQ fD (by omega) len;(have kE:z.length=dv.cells.size:=by simpa using fD.len);obtain ⟨du,q1,aW⟩:=na parts parts'.toList (eX len z) c8 ((Array.range (len*z.length)).map (fun i=>dv.cells[i % dv.cells.size]!)) hi b9 aQ fG;have pa:∀ (place:Nat→Option (Nat×Nat)) (parts:List (Nat×I)) (a b:List I),gm place a parts=some b→b.length=a.length:=by
     intro place parts
     induction parts with
     | nil=>intro a b h;simp [gm] at h;rw [h]
     | cons x parts a_ =>
       intro a b h;obtain ⟨i,u⟩:=x;simp only [gm] at h;split at h
       ·split at h
        ·split at h
         ·rw [a_ _ _ h,mL]
         ·simp at h
        ·simp at h
       ·simp at h
    have cC:c8.length=len*aF:=by rw [pa _ _ _ _ aQ,ie,af]
    have iL:=nN ah aW [] e len len aF ad cC (sc _) (by
     have:len≤len*aF:=uo _ ad
     simp only [maxLen];omega) (by rw [←aW.len,cC];simp)
    refine ⟨_,_,?_,iL⟩;simp only [sU,uq];rw [af] at q1;(have lO:¬ (16777216<len*aF):=by omega);by_cases aS:len*aF=0
    ·obtain rfl:len=0:=by
      rcases Nat.mul_eq_zero.1 aS with h | h
      ·exact h
      ·omega
     (have Ed:Instr.fill (fun i=>some (i*aF,aF)) #[] parts'.toList=some du:=by simpa [show Array.range 0=#[] from rfl] using q1);simp [Instr.buildSlice,run_underlying aZ,run_sizeOf ai,show Array.range 0=#[] from rfl,Ed,newRow,newObj,Sem.run,World.alloc_eq]
    ·simp [Instr.buildSlice,run_underlying aZ,run_sizeOf ai,aS,lO,j2 hi' ep,q1,newRow,newObj,Sem.run,World.alloc_eq]
   ·simp at h
  ·simp at h
 ·simp at h
end
end Go.Proofs.YtfakoboiahbhaaaGreat.Ab
