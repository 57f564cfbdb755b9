
import Derived.RangeFuncLeaves
import Derived.RangeFuncCalls
import Derived.KernelRfl
import Derived.Laws.AppendOwn
import Derived.OrdersIn
import Derived.Below
import Derived.IntWalk
import Derived.Laws.MakeOwn
set_option linter.unusedSimpArgs false
set_option linter.unusedVariables false
set_option linter.unusedSectionVars false

open Array renaming foldl_toList→vz,getD_eq_getD_getElem?→sB,getElem?_append_left→vY,getElem?_eq_getElem→sA,getElem?_eq_some_iff→sY,getElem?_map→uM,length_toList→tu,mem_of_getElem?→vb,size_append→vv,toArray_toList→uy
open Int renaming natCast_mul→vV,toNat_of_nonneg→tS
open List renaming all_eq_true→sv,append_assoc→sD,append_nil→sW,eq_nil_of_length_eq_zero→vX,forIn_cons→vU,getD_eq_getElem?_getD→sE,getElem?_append_left→sy,getElem?_append_right→sJ,getElem?_cons_succ→uz,getElem?_cons_zero→ud,getElem?_drop→sZ,getElem?_eq_getElem→sm,getElem?_eq_some_iff→sb,getElem?_map→ss,getElem?_set→u_,getElem?_set_ne→sj,getElem?_set_self→si,getElem?_take→sR,length_append→sr,length_cons→sM,length_drop→tE,length_eq_zero_iff→tA,length_set→tc,length_take→ta,mem_iff_getElem?→tg,mem_map→sk,mem_of_getElem?→sH,mem_of_mem_drop→vp,mem_of_mem_take→uw,set_set→sU,size_toArray→tL,take_zero→tj
open Nat renaming add_assoc→tD,add_comm→tf,add_mul→tn,add_zero→tK,le_mul_of_pos_right→ux,le_refl→sd,le_trans→sL,lt_or_ge→sT,lt_trichotomy→vu,min_eq_left→tM,mul_le_mul_right→tt,mul_pos→vW,sub_self→tR,zero_add→sS,zero_mul→vt
open Option renaming bind_eq_some_iff→sg,getD_some→uL,map_eq_some_iff→sa,map_some→sf
namespace Go.Proofs.YtfakoboiahbhaaaGreat.Ab
open Go
inductive hs where
 | shared | full | own (z:Nat) | uniq (z:Nat)
 deriving DecidableEq
inductive I where
 | junk
 | bool (b:Bool)
 | int (k:IntKind) (n:Int)
 | eG
 | ptr (id off:Nat)
 | bT (cells:List I)
 | ax (cells:List I) (len:Nat) (c:hs)
 | ref (id off len:Nat) (cap:Option Nat) (sz:Nat)
 | func (f:FuncId) (first captured:List I)
 | yield (id:Nat)
 | map (id:Nat)
 | agg (cs:List I)
 | tuple (vs:List I)
 | str (s:ByteArray)
 | raw (cells:List I) (len z:Nat)
 | ck (id gid len z:Nat)
 | dt
 | cY (as cells:List I) (len z:Nat) (bs:List I)
 deriving Inhabited
structure b2 where
 takes:List Bool:=[]
 mode:Nat:=0
structure db where
 bad:Bool:=false
 two:List (Nat×Nat):=[]
 ops:List (List b2):=[]
 h_:List (Nat×List Bool):=[]
 h':List (Nat×List Bool):=[]
inductive ar where
 | dead
 | cells (l:List I)
 | loop (st:LoopState) (cE:Option Code) (fn:FuncId) (tmps:List I) (params:List Nat) (assign body:Code) (jv:db)
 | map (es:List (Nat×I×I)) (clock:Nat)
 | iter (m since:Nat) (seen:List Nat) (kc:Nat)
 | grow (l:List I) (gid z:Nat)
structure a6 where
 T:List I
 H:List ar
inductive cz where
 | normal | exit (id:Nat) | ret
inductive e_ where
 | fn (f:FuncId)
 | yield (l:Nat)
abbrev b7:=e_→List I→List ar→Nat→Option (I×List ar)
def I.view:I→I
 | .ax c n (.own _)=>.ax c n .shared
 | .ax c n (.uniq _)=>.ax c n .shared
 | .raw _ _ _=>.junk
 | .cY _ _ _ _ _=>.junk
 | .ck id _ len z=>.ref id 0 len none z
 | v=>v
def I.gY:I→I
 | .ax c n .full=>.ax c n .shared
 | v=>v
def I.cq:I→I
 | .ax c n .full=>.ax c n .shared
 | .agg cs=>.agg (cs.map I.gY)
 | .tuple cs=>.tuple (cs.map I.gY)
 | v=>v
def ch:Nat→I→Bool
 | 0,_=>false
 | d+1,v=>match v with
   | .ax cells _ _=>cells.all (ch d)
   | .bT cells=>cells.all (ch d)
   | .agg cs=>cs.all (ch d)
   | .tuple cs=>cs.all (ch d)
   | .func _ a b=>a.all (ch d) && b.all (ch d)
   | .bool _ | .int _ _ | .str _ | .eG=>true
   | _=>false
def I.plain:I→Bool
 | .ax _ _ (.own _)=>false
 | .ax _ _ (.uniq _)=>false
 | .raw _ _ _=>false
 | .cY _ _ _ _ _=>false
 | .ck _ _ _ _=>false
 | _=>true
def I.cQ:I→Bool
 | .ax _ _ (.uniq _)=>false
 | _=>true
def I.settle:I→I
 | .ax c n (.uniq z)=>.ax c n (.own z)
 | v=>v
def I.cells:I→Option (List I)
 | .agg cs=>some cs
 | .junk=>none
 | .tuple _=>none
 | .raw _ _ _=>none
 | .cY _ _ _ _ _=>none
 | v=>some [v]
def hx:Value→I
 | .bool b=>.bool b
 | .int k n=>.int k n
 | .pointer none=>.eG
 | .string s=>.str s
 | .slice none 0 0=>.ax [] 0 .full
 | _=>.junk
noncomputable section
def c3 (T:List I) (t:Nat):I :=
 @List.rec I (fun _=>Nat→I) (fun _=>.junk) (fun h _ a9 n=>@Nat.rec (fun _=>I) h (fun m _=>a9 m) n) T t
def gQ (T:List I) (t:Nat) (v:I):List I :=
 @List.rec I (fun _=>Nat→List I) (fun _=>[]) (fun h x_ a9 n=>@Nat.rec (fun _=>List I) (v::x_) (fun m _=>h::a9 m) n) T t
theorem f' (T:List I):∀ t,c3 T t=T.getD t .junk:=by
 induction T with
 | nil=>intro t;rfl
 | cons h x_ a9=>intro t;cases t with
   | zero=>rfl
   | succ n=>exact a9 n
theorem gR (T:List I) (v:I):∀ t,gQ T t v=T.set t v:=by
 induction T with
 | nil=>intro t;rfl
 | cons h x_ a9=>intro t;cases t with
   | zero=>rfl
   | succ n=>exact congrArg (h::·) (a9 n)
def aA (T:List I):Operand→I
 | .tmp t=>c3 T t
 | .const v=>hx v
 | .func f=>.func f [] []
 | .global _=>.junk
def fR (T:List I) (t:Nat):I→List I
 | .ax c n (.uniq z)=>gQ T t (.ax c n (.own z))
 | _=>T
def rd:List I→List Bool→List Operand→List I×List I
 | T,_,[]=>([],T)
 | T,ts,.tmp t::rest =>
   match ts.headD false with
   | true=>let r:=rd (gQ T t .junk) ts.tail rest;(c3 T t::r.1,r.2)
   | false=>let r:=rd (fR T t (c3 T t)) ts.tail rest;((c3 T t).view::r.1,r.2)
 | T,ts,x::rest=>let r:=rd T ts.tail rest;(aA T x::r.1,r.2)
def eX:List Bool→List I→List I
 | b::bs,v::vs=>(match b with | true=>v | false=>.junk)::eX bs vs
 | [],vs=>vs
 | _,[]=>[]
def lZ (id:Nat):List (Nat×List Bool)→Option (List Bool)
 | []=>none
 | (i,k)::r=>match Nat.beq i id with | true=>some k | false=>lZ id r
def e2 (mF:List (Nat×List Bool)) (id:Nat) (s:a6):a6 :=
 match lZ id mF with
 | some k=>⟨eX k s.T,s.H⟩
 | none=>s
def opsOf (o:Oper):List Operand :=
 match o.op with
 | .call { callee:=.value f,args,.. }=>f::args.toList
 | .call { args,.. }=>args.toList
 | op=>op.operands.toList
def tmpsOf (xs:List Operand):List Nat:=xs.filterMap fun x=>match x with | .tmp t=>some t | _=>none
def cZ:List Bool→List Operand→List Nat
 | _,[]=>[]
 | ts,.tmp t::rest=>match ts.headD false with
   | true=>t::cZ ts.tail rest
   | false=>cZ ts.tail rest
 | ts,_::rest=>cZ ts.tail rest
def pa (ops:Array Oper) (o:Oper):List Nat:=match o.guard with
 | some (j,_)=>((ops[j]?).bind (·.dst)).toList
 | none=>[]
def e7 (ops:Array Oper) (o:Oper):List Nat:=pa ops o++tmpsOf (opsOf o)
def jz (xs ys:List Nat):Bool:=xs.all fun x=>!(ys.contains x)
def dj (o:Oper) (mode:Nat):Nat:=match o.op with
 | .load _ _=>if mode=0 then 1 else if mode=2 then 2 else if mode=3 then 0 else if mode=5 then 2 else 5
 | .box _ _=>if mode=0 then 6 else 0
 | .alloc _=>6
 | .makeSlice _ _ _=>if mode=0 then 2 else 0
 | .store _ _ _ | .makeMap _ _ | .mapUpdate _ _ _ _ | .lookup _ _ _ _ | .range _ _ | .entry _=>2
 | .move _ | .assign _=>if mode=0 then 0 else 2
 | .call c=>match c.callee with
   | .builtin b=>match b with
     | .append=>if mode=0 then 1 else 2
     | .len | .cap | .min | .max=>1
     | _=>2
   | .value _=>if mode=0 then 3 else if mode=3 then 0 else if mode=4 then 3 else if mode=6 then 3 else 2
   | .invoke _ _=>2
 | _=>0
def calm (o:Oper) (mode:Nat):Bool:=match o.op with
 | .move _ | .assign _=>mode == 0
 | _=>true
def bP (a b:Nat):Bool:=a == 0 || b == 0 || ((a == 1 || a == 3) && (b == 1 || b == 3)) || (a == 1 && b == 5) || (a == 5 && b == 1) || (a == 1 && b == 6)
def kW (bD:Oper) (de:Nat) (bQ:Oper):Bool:=match bD.op,bQ.op with
 | .load _ _,.mapUpdate _ _ _ _=>de == 0
 | _,_=>false
def indep (ops:Array Oper) (bD:Oper) (aC:b2) (bQ:Oper) (aI:b2):Bool :=
 jz bD.dst.toList (e7 ops bQ) && jz bQ.dst.toList (e7 ops bD) && jz bD.dst.toList bQ.dst.toList &&
 jz (cZ aC.takes (opsOf bD)) (e7 ops bQ) && jz (cZ aI.takes (opsOf bQ)) (e7 ops bD) &&
 calm bD aC.mode && calm bQ aI.mode && (bP (dj bD aC.mode) (dj bQ aI.mode) || kW bD aC.mode bQ)
def mL (ms:List Nat) (o:Oper):Nat:=o.after.toList.foldl (fun m e=>if Region.binds .any e then m ||| (ms.getD e.on 0 ||| 1 <<< e.on) else m) 0
def hc:List Oper→List Nat→List Nat
 | [],ms=>ms
 | o::r,ms=>hc r (ms++[mL ms o])
def z4 (ops:Array Oper) (as:List b2) (ms:List Nat):Bool :=
 (List.range ops.size).all fun j=>match ops[j]? with
  | none=>true
  | some c2=>(ms.getD j 0 == mL ms c2) && c2.after.toList.all (fun e=>!Region.binds .any e || Nat.blt e.on j) &&
    (List.range j).all fun i=>match ops[i]? with
     | none=>true
     | some cN=>(ms.getD j 0).testBit i || indep ops cN (as.getD i {}) c2 (as.getD j {})
def nq (ops:Array Oper) (as:List b2):Bool:=z4 ops as (hc ops.toList [])
def z5 (ops:Array Oper) (an:List b2) (ms:List Nat) (p q:Nat):Bool :=
 (List.range ops.size).all fun j=>match ops[j]? with
  | none=>true
  | some c2=>(ms.getD j 0 == mL ms c2) && c2.after.toList.all (fun e=>!Region.binds .any e || Nat.blt e.on j) &&
    (List.range j).all fun i=>match ops[i]? with
     | none=>true
     | some cN=>(ms.getD j 0).testBit i || indep ops cN (an.getD i {}) c2 (an.getD j {}) || (Nat.beq i p && Nat.beq j q)
def nr (ops:Array Oper) (an:List b2) (p q:Nat):Bool:=z5 ops an (hc ops.toList []) p q
def Bt (id:Nat):List (Nat×Nat)→Option Nat
 | []=>none
 | (i,p)::r=>match Nat.beq i id with | true=>some p | false=>Bt id r
def ke (A:db) (id:Nat):Bool→Option Nat
 | true=>Bt id A.two
 | false=>none
def xE (A:db) (id:Nat) (ops:Array Oper) (draw:Bool):Bool:=match ke A id draw with
 | some p=>Nat.blt (p+1) ops.size && nr ops (A.ops.getD id []) p (p+1)
 | none=>!draw || nq ops (A.ops.getD id [])
def codeOk (A:db):Code→Bool
 | .region id ops draw=>xE A id ops draw
 | .seq a b=>codeOk A a && codeOk A b
 | .cond _ a b=>codeOk A a && codeOk A b
 | .block _ c=>codeOk A c
 | .loop c=>codeOk A c
 | .scope c=>codeOk A c
 | .rangeFunc _ _ a b=>codeOk A a && codeOk A b
 | _=>true
section
variable (P:Program)
def bC (t:TypeId):Option Nat:=(P.info? t).map (·.size)
def dG (t:TypeId):Bool:=match P.underlying t with | some (.struct _) | some (.array _ _)=>true | _=>false
def zeroCells (t:TypeId):Option (List I):=((P.info? t).bind (·.zero)).bind fun v=>match v.cells.toList.all (·.oneCell') with | true=>some (v.cells.toList.map hx) | false=>none
def jt (op:BinOp) (k:IntKind) (a b:Int):Option I :=
 match op with
 | .add=>some (.int k (k.wrap (a+b)))
 | .sub=>some (.int k (k.wrap (a-b)))
 | .mul=>some (.int k (k.wrap (a*b)))
 | .quo=>if b=0 then none else some (.int k (k.wrap (a.tdiv b)))
 | .rem=>if b=0 then none else some (.int k (a.tmod b))
 | .eql=>some (.bool (a == b))
 | .neq=>some (.bool (a != b))
 | .lss=>some (.bool (decide (a<b)))
 | .leq=>some (.bool (decide (a≤b)))
 | .gtr=>some (.bool (decide (a > b)))
 | .geq=>some (.bool (decide (a≥b)))
 | .and=>some (.int k (k.wrap (BitVec.ofInt k.bits a &&& BitVec.ofInt k.bits b).toNat))
 | .or=>some (.int k (k.wrap (BitVec.ofInt k.bits a ||| BitVec.ofInt k.bits b).toNat))
 | .xor=>some (.int k (k.wrap (BitVec.ofInt k.bits a ^^^ BitVec.ofInt k.bits b).toNat))
 | .andNot=>some (.int k (k.wrap (BitVec.ofInt k.bits a &&& ~~~ (BitVec.ofInt k.bits b)).toNat))
 | _=>none
def hv (op:BinOp) (k:IntKind) (a b:Int):Option I :=
 if b<0 then none else
 match op with
 | .shl=>some (.int k (k.wrap (a*2 ^ (min b.toNat k.bits))))
 | .shr=>some (.int k (a.fdiv (2 ^ (min b.toNat k.bits))))
 | _=>none
def dJ:List I→List I→Option Bool
 | [],[]=>some true
 | .int k a::r,.int k' b::r'=>if k=k' then (dJ r r').map fun e=>(a == b) && e else none
 | _,_=>none
def gI:List Field→Nat→Bool
 | [],_=>true
 | f :: bl, n => (f.offset == n) && (f.name != "_") && (match P.underlying f.type, bC P f.type with | some (.int _), some 1 => true | _, _ => false) && gI bl (n + 1)
def fm (op:BinOp) (t:TypeId) (x y:I):Option I :=
 match x,y with
 | .int k a,.int k' b =>
   match op with
   | .shl=>hv .shl k a b
   | .shr=>hv .shr k a b
   | op=>if k=k' then jt op k a b else none
 | .bool a,.bool b =>
   match P.underlying t,op with
   | some .bool,.eql=>some (.bool (a == b))
   | some .bool,.neq=>some (.bool (!(a == b)))
   | _,_=>none
 | .agg xs,.agg ys =>
   match P.underlying t with
   | some (.array len e) =>
     match P.underlying e,bC P e with
     | some (.int _),some 1 =>
       if xs.length=len∧ys.length=len∧P.eqGuardType P.depth t=false then
        match op with
        | .eql=>(dJ xs ys).map fun e=>.bool e
        | .neq=>(dJ xs ys).map fun e=>.bool !e
        | _=>none
       else none
     | _,_=>none
   | some (.struct bl) =>
     if gI P bl.toList 0=true∧P.stoodInHeld t=false∧xs.length=bl.size∧ys.length=bl.size∧P.eqGuardType P.depth t=false then
      match op with
      | .eql=>(dJ xs ys).map fun e=>.bool e
      | .neq=>(dJ xs ys).map fun e=>.bool !e
      | _=>none
     else none
   | _=>none
 | _,_=>none
def km (op:UnOp):I→Option I
 | .bool b=>match op with | .not=>some (.bool !b) | _=>none
 | .int k n=>match op with | .neg=>some (.int k (k.wrap (-n))) | _=>none
 | _=>none
def setCells:Nat→List I→List I→List I
 | _,[],cs=>cs
 | off,v::vs,cs=>setCells (off+1) vs (cs.set off v)
def fz (place:Nat→Option (Nat×Nat)):List I→List (Nat×I)→Option (List I)
 | cs,[]=>some cs
 | cs,(i,v)::rest =>
   match place i with
   | some (off,size)=>match v.cells with
     | some vc=>if vc.length=size∧off+size≤cs.length then fz place (setCells off vc cs) rest else none
     | none=>none
   | none=>none
def e5:Nat→List I→List I
 | 0,_=>[]
 | n+1,z=>z++e5 n z
def lF (t:TypeId) (parts:List (Nat×I)):Option I :=
 match zeroCells P t,P.underlying t with
 | some z,some (.struct bl)=>match bl.toList.all (fun f=>(bC P f.type).isSome) with
   | true=>(fz (fun i=>(bl[i]?).bind fun f=>(bC P f.type).map fun s=>(f.offset,s)) z parts).map .agg
   | false=>none
 | some z,some (.array _ e)=>(bC P e).bind fun s=>(fz (fun i=>some (i*s,s)) z parts).map .agg
 | _,_=>none
def iX:List (Nat×I)→List (Nat×I)→Option (List (Nat×I)×Nat×List I×Nat×Nat×List (Nat×I))
 | _,[]=>none
 | pre,(i,.ax c n (.own z))::r=>some (pre,i,c,n,z,r)
 | pre,(i,.ax c n (.uniq z))::r=>some (pre,i,c,n,z,r)
 | pre,x::r=>iX (pre++[x]) r
def kk (t:TypeId) (parts:List (Nat×I)):Option I :=
 match zeroCells P t,P.underlying t,iX [] parts with
 | some z,some (.struct bl),some (pre,i,c,n,s,post) =>
   match bl.toList.all (fun f=>(bC P f.type).isSome),(bl[i]?).bind fun f=>(bC P f.type).map fun s=>(f.offset,s) with
   | true,some (off,1) =>
     match pre.all (fun x=>x.2.plain) && post.all (fun x=>x.2.plain) && post.all (fun x=>match (bl[x.1]?).bind fun f=>(bC P f.type).map fun s=>(f.offset,s) with | some (o,s)=>decide (off<o∨o+s≤off) | none=>false) with
     | true=>(fz (fun i=>(bl[i]?).bind fun f=>(bC P f.type).map fun s=>(f.offset,s)) z pre).bind fun eN=>if off<eN.length then
       (fz (fun i=>(bl[i]?).bind fun f=>(bC P f.type).map fun s=>(f.offset,s)) (eN.set off .junk) post).map fun ec=>.cY (ec.take off) c n s (ec.drop (off+1)) else none
     | false=>none
   | _,_=>none
 | _,_,_=>none
def iw (t:TypeId) (len:Nat) (parts:List (Nat×I)):Option (List I×Nat) :=
 match P.underlying t with
 | some (.slice e) =>
   match bC P e,zeroCells P e with
   | some s,some z=>if 0<s∧z.length=s∧len*s≤16777216 then (fz (fun i=>some (i*s,s)) (e5 len z) parts).map fun cs=>(cs,s) else none
   | _,_=>none
 | _=>none
def gW (i:Int) (len:Nat):Option Nat:=if 0≤i∧i<len then some i.toNat else none
def hW (t:TypeId) (x i:I):Option I :=
 match P.underlying t,x,i with
 | some (.slice e),.ax cells len _,.int _ n=>(bC P e).bind fun s=>(gW n len).map fun j=>.bT (cells.drop (j*s))
 | some (.slice e),.ref id off len _ _,.int _ n=>(bC P e).bind fun s=>(gW n len).map fun j=>.ptr id (off+j*s)
 | some (.array len e),.ptr id off,.int _ n=>(bC P e).bind fun s=>(gW n len).map fun j=>.ptr id (off+j*s)
 | some (.array len e),.bT cells,.int _ n=>(bC P e).bind fun s=>(gW n len).map fun j=>.bT (cells.drop (j*s))
 | _,_,_=>none
def ju (t:TypeId) (x:I) (f:Nat):Option I :=
 match P.underlying t,x with
 | some (.struct bl),.ptr id off=>(bl[f]?).bind fun g=>(bC P g.type).bind fun s=>if s=0 then none else some (.ptr id (off+g.offset))
 | some (.struct bl),.bT cells=>(bl[f]?).bind fun g=>(bC P g.type).bind fun s=>if s=0 then none else some (.bT (cells.drop g.offset))
 | _,_=>none
def iy (t:TypeId) (cs:List I) (off:Nat):Option I :=
 match dG P t with
 | true=>(bC P t).bind fun s=>if off+s≤cs.length then some (.agg ((cs.drop off).take s)) else none
 | false=>match P.underlying t with
   | some _=>cs[off]?
   | none=>none
def ng (t:TypeId) (x:I) (f:Nat):Option I :=
 match P.underlying t,x with
 | some (.struct bl),.agg cs=>(bl[f]?).bind fun g=>iy P g.type cs g.offset
 | _,_=>none
def oO (t:TypeId) (x i:I):Option I :=
 match P.underlying t,x,i with
 | some (.array len e),.agg cs,.int _ n=>(bC P e).bind fun s=>(gW n len).bind fun j=>iy P e cs (j*s)
 | some .string,.str b,.int _ n=>if 0≤n then (b[n.toNat]?).map fun x=>.int .u8 x.toNat else none
 | _,_,_=>none
def cG (x:Option I) (Ce most:Nat):Option Nat :=
 match x with
 | none=>some Ce
 | some (.int _ n)=>if 0≤n∧n≤most then some n.toNat else none
 | _=>none
def eY (t:TypeId) (x:I) (lo hi gJ:Option I):Option I :=
 match P.underlying t,x with
 | some (.slice e),.ax cells len c =>
   (bC P e).bind fun s =>
   match gJ,hi with
   | none,_ =>
     (cG hi len len).bind fun h=>(cG lo 0 h).bind fun l =>
     some (.ax ((cells.drop (l*s)).take ((h-l)*s)) (h-l) (if c=.full∧h=len then .full else .shared))
   | some _,some _ =>
     (cG gJ len len).bind fun m=>(cG hi m m).bind fun h=>(cG lo 0 h).bind fun l =>
     some (.ax ((cells.drop (l*s)).take ((h-l)*s)) (h-l) (if h=m then .full else .shared))
   | some _,none=>none
 | some (.slice e),.ref id off len cap sz =>
   (bC P e).bind fun s=>if s≠sz then none else
   match gJ,hi with
   | none,_ =>
     (cG hi len len).bind fun h=>(cG lo 0 h).bind fun l =>
     if l<len then some (.ref id (off+l*s) (h-l) (cap.map (·-l)) sz) else some (.ax [] 0 .shared)
   | some _,some _ =>
     (cG gJ len len).bind fun m=>(cG hi m m).bind fun h=>(cG lo 0 h).bind fun l =>
     if m=l then (if l=0 then some (.ref id off (h-l) (some (m-l)) sz) else none) else some (.ref id (off+l*s) (h-l) (some (m-l)) sz)
   | some _,none=>none
 | some (.array n e),.ptr id off =>
   (bC P e).bind fun s =>
   match gJ with
   | none=>(cG hi n n).bind fun h=>(cG lo 0 h).bind fun l =>
     if n=l then none else some (.ref id (off+l*s) (h-l) (some (n-l)) s)
   | some _=>none
 | _,_=>none
def rowOf (H:List ar):I→Option (List I)
 | .ax cells _ _=>some cells
 | .ref id off len _ sz=>match H[id]? with
   | some (.cells l)=>if off+len*sz≤l.length then some (((l.drop off).take (len*sz)).map I.view) else none
   | _=>none
 | _=>none
def lenOf:I→Option Nat
 | .ax _ len _=>some len
 | .ref _ _ len _ _=>some len
 | _=>none
def fv (n bytes:Nat):Bool:=Nat.ble (n*bytes) 140737488355328 && Nat.ble 1 bytes
def appended (H:List ar) (x:I):Option (Nat×List I) :=
 match lenOf x,rowOf H x with
 | some m,some row=>some (m,row)
 | _,_=>none
def e' (H:List ar) (t dp:TypeId) (s x:I):Option I :=
 match P.underlying t with
 | some (.slice e) =>
   match bC P e,(P.info? e).map (·.bytes),(zeroCells P e) with
   | some sz,some bytes,some z =>
     match Nat.beq t dp with
     | true =>
       match appended H x with
       | some (m,new) =>
         if new.length=m*sz∧0<sz∧z.length=sz∧fv m bytes then
          match s with
          | .ax cells len c =>
            match c with
            | .shared=>if m=0 then some s else none
            | .full=>if m=0 then (if len=0 then some (.ax [] 0 (.uniq sz)) else some s)
              else if fv (len+m) bytes∧cells.length=len*sz then some (.ax (cells++new) (len+m) (.uniq sz)) else none
            | .own z=>if z=sz∧fv (len+m) bytes then some (.ax (cells++new) (len+m) (.own z)) else none
            | .uniq z=>if z=sz∧fv (len+m) bytes then some (.ax (cells++new) (len+m) (.uniq z)) else none
          | .ref id off len (some cap) oC =>
            if cap=len∧oC=sz∧0<m then (rowOf H (.ref id off len (some cap) oC)).bind fun fN=>if fv (len+m) bytes then some (.ax (fN++new) (len+m) (.uniq sz)) else none
            else none
          | _=>none
         else none
       | none=>none
     | false =>
       match P.underlying dp,x,s with
       | some (.int _),.int .i64 n,.ax [] 0 .full =>
         if 0<n∧fv n.toNat bytes∧0<sz∧z.length=sz then some (.ax (e5 n.toNat z) n.toNat (.uniq sz)) else none
       | _,_,_=>none
   | _,_,_=>none
 | _=>none
def ev (t:TypeId) (cs:List I) (off:Nat):Option I :=
 match dG P t with
 | true=>(bC P t).bind fun s=>if off+s≤cs.length then some (.agg (((cs.drop off).take s).map I.view)) else none
 | false=>match P.underlying t with
   | some _=>(cs[off]?).map I.view
   | none=>none
def dP (H:List ar) (t:TypeId) (a:I):Option I :=
 match a with
 | .ptr id off=>match H[id]? with
   | some (.cells l)=>ev P t l off
   | some (.grow l _ _)=>ev P t l off
   | _=>none
 | .bT cells=>ev P t cells 0
 | _=>none
def fM (lo:Nat) (H:List ar) (id:Nat) (f:List I→Option (List I)):Option (List ar) :=
 if lo≤id then match H[id]? with
  | some (.cells l)=>(f l).map fun l'=>H.set id (.cells l')
  | _=>none
 else none
def hd (lo:Nat) (H:List ar) (id:Nat) (f:List I→Option (List I)):Option (List ar) :=
 if lo≤id then match H[id]? with
  | some (.cells l)=>(f l).map fun l'=>H.set id (.cells l')
  | some (.grow l g z)=>(f l).map fun l'=>H.set id (.grow l' g z)
  | _=>none
 else none
def iz (lo:Nat) (H:List ar) (t:TypeId) (a v:I):Option (List ar) :=
 match a,bC P t with
 | .ptr id off,some s=>match v.cells with
   | some vc=>hd lo H id fun l=>if vc.length=s∧off+s≤l.length then some (setCells off (vc.map I.settle) l) else none
   | none=>none
 | _,_=>none
def jk (t:TypeId) (n:Nat):Option (List I×Nat) :=
 match P.underlying t with
 | some (.slice e)=>match bC P e,zeroCells P e,(P.info? e).map (·.bytes) with
   | some s,some z,some bytes=>if z.length=s∧0<s∧fv n bytes then some (e5 n z,s) else none
   | _,_,_=>none
 | _=>none
def kZ:List I→Int→Option Int
 | [],a=>some a
 | .int _ b::r,a=>kZ r (if b<a then b else a)
 | _::_,_=>none
def kY:List I→Int→Option Int
 | [],a=>some a
 | .int _ b::r,a=>kY r (if b > a then b else a)
 | _::_,_=>none
def n3:List I→Option I
 | .int k a::r=>(kZ r a).map (.int k)
 | _=>none
def n2:List I→Option I
 | .int k a::r=>(kY r a).map (.int k)
 | _=>none
def g0 (cap:Option Nat) (n:Nat):hs:=match cap with | some c=>if c=n then .full else .shared | none=>.shared
def d' (f:I→Option I):List I→Option (List I)
 | []=>some []
 | x::xs=>match f x with
   | some y=>(d' f xs).map (y::·)
   | none=>none
def mapM (f:I→Option I):List (Nat×I×I)→Option (List (Nat×I×I))
 | []=>some []
 | (i,k,v)::xs=>match f k,f v with
   | some k',some bm=>(mapM f xs).map ((i,k',bm)::·)
   | _,_=>none
def bI (H:List ar) (lo id0 n:Nat):Nat→I→Option I
 | 0,_=>none
 | d+1,B4 =>
   match B4 with
   | .ax cells len c=>(d' (bI H lo id0 n d) cells).map fun cs=>.ax cs len c
   | .bT cells=>(d' (bI H lo id0 n d) cells).map .bT
   | .agg cs=>(d' (bI H lo id0 n d) cs).map .agg
   | .tuple cs=>(d' (bI H lo id0 n d) cs).map .tuple
   | .func f a b=>match d' (bI H lo id0 n d) a,d' (bI H lo id0 n d) b with
     | some a,some b=>some (.func f a b)
     | _,_=>none
   | .ptr id off=>if id<lo then some (.ptr id off) else if id=id0 then some (.ptr n off) else
     match H[id]? with
     | some (.cells l)=>(d' (bI H lo id0 n d) ((l.drop off).map I.view)).map .bT
     | _=>none
   | .ref id off len cap sz=>if id<lo then some (.ref id off len cap sz) else if id=id0 then some (.ref n off len cap sz) else
     match rowOf H (.ref id off len cap sz) with
     | some row=>(d' (bI H lo id0 n d) row).map fun cs=>.ax cs len (g0 cap len)
     | none=>none
   | .yield id=>if id<lo then some (.yield id) else none
   | .map id=>if id<lo then some (.map id) else if id=id0 then some (.map n) else none
   | .raw _ _ _=>none
   | .cY _ _ _ _ _=>none
   | .ck _ _ _ _=>none
   | v=>some v
def eL (parts:List (Nat×Operand)) (vs:List I):List (Nat×I):=(parts.map (·.1)).zip vs
def dn (vs:List I) (i:Nat):Option Operand→Option I
 | none=>none
 | some _=>vs[i]?
def xx:List I→Option I
 | [.bool c,a,b]=>some (match c with | true=>a | false=>b)
 | _=>none
def n_:List I→Option I
 | [.ptr id off]=>some (.ptr id off)
 | [.bT cells]=>some (.bT cells)
 | _=>none
def gg (f:I→I→Option I):List I→Option I
 | [x,y]=>f x y
 | _=>none
def e4 (f:I→Option I):List I→Option I
 | [x]=>f x
 | _=>none
def lG (src dst:TypeId):I→Option I
 | .int _ n=>match P.underlying src,P.underlying dst with | some _,some (.int k)=>some (.int k (k.wrap n)) | _,_=>none
 | _=>none
def mS (fn:Fn) (n m:Nat) (vs:List I):Option I :=
 match fn with
 | .func f=>if vs.length=n+m then some (.func f (vs.take n) (vs.drop n)) else none
 | _=>none
def eh (t:TypeId) (l h m:Option Operand):List I→Option I
 | x::vs =>
   let i1:=match l with | some _=>1 | none=>0
   let i2:=match h with | some _=>i1+1 | none=>i1
   match x,l,h,m with
   | .ax cells len (.uniq z),none,h,none =>
     match P.underlying t with
     | some (.slice e)=>(bC P e).bind fun _=>(cG (dn vs 0 h) len len).map fun n=>.ax (cells.take (n*z)) n (.uniq z)
     | _=>none
   | .ax cells len (.own z),some lo,none,none =>
     match P.underlying t with
     | some (.slice e)=>(bC P e).bind fun s=>if s=z then (cG (dn vs 0 (some lo)) 0 len).map fun l=>.ax (cells.drop (l*z)) (len-l) (.own z) else none
     | _=>none
   | .ck id gid len z,none,h,none =>
     match P.underlying t with
     | some (.slice e)=>(bC P e).bind fun _=>(cG (dn vs 0 h) len len).map fun n=>.ck id gid n z
     | _=>none
   | x,l,h,m=>eY P t x.view (dn vs 0 l) (dn vs i1 h) (dn vs i2 m)
 | []=>none
def nf (i:Nat):I→Option I
 | .tuple ws=>ws[i]?
 | _=>none
def iP:Operand→Bool
 | .const (.slice none 0 0)=>true
 | _=>false
def nd (op:BinOp) (t:TypeId) (x:I):Option I :=
 match P.underlying t with
 | some (.slice _) =>
   match x with
   | .ax _ (_+1) _ | .ref ..=>match op with
     | .eql=>some (.bool false)
     | .neq=>some (.bool true)
     | _=>none
   | .ax [] 0 _=>match op with
     | .eql | .neq=>some .dt
     | _=>none
   | _=>none
 | _=>none
def cw (o:Oper) (vs:List I):Option I :=
 match o.op with
 | .pick _ _ _=>xx vs
 | .build t parts=>lF P t (eL parts.toList vs)
 | .buildSlice t len parts=>(iw P t len (eL parts.toList vs)).map fun r=>.ax r.1 len (.uniq r.2)
 | .nilCheck _=>n_ vs
 | .binOp op t _ y _=>match iP y with
   | true=>match vs with
     | [x,_]=>nd P op t x
     | _=>none
   | false=>gg (fm P op t) vs
 | .unOp op _ _=>e4 (km op) vs
 | .convert src dst _=>e4 (lG P src dst) vs
 | .makeFunc fn first captured=>mS fn first.size captured.size vs
 | .slice t _ l h m=>eh P t l h m vs
 | .fieldAddr t _ f=>e4 (fun x=>ju P t x f) vs
 | .field t _ f=>(e4 (fun x=>ng P t x f) vs).map I.view
 | .indexAddr t _ _=>gg (hW P t) vs
 | .index t _ _=>(gg (oO P t) vs).map I.view
 | .extract _ i=>(e4 (nf i) vs).map I.view
 | _=>none
def dH (o:Oper) (mode:Nat):Bool :=
 match o.op with
 | .move _ | .assign _ | .store _ _ _ | .box _ _ | .call _ | .slice _ _ _ _ _=>true
 | .build _ _=>match mode with | 0=>false | _=>true
 | _=>false
def yO (lo:Nat):I→Option Nat
 | .ptr id _=>if lo≤id then some id else none
 | .ref id _ _ _ _=>if lo≤id then some id else none
 | .map id=>if lo≤id then some id else none
 | _=>none
def Co (lo:Nat):I→Option Nat
 | .tuple vs=>vs.findSome? (yO lo)
 | v=>yO lo v
def kb (H:List ar):I→I
 | .ref id off len cap sz=>match rowOf H (.ref id off len cap sz) with
   | some row=>.ax row len .shared
   | none=>.ref id off len cap sz
 | v=>v
def hN (H:List ar):I→I
 | .ptr id off=>match H[id]? with
   | some (.cells l)=>.bT (((l.drop off).map I.view).map (kb H))
   | _=>.ptr id off
 | .ref id off len cap sz=>kb H (.ref id off len cap sz)
 | v=>v
def im (H:List ar):I→I
 | .ptr id off=>hN H (.ptr id off)
 | .ref id off len cap sz=>hN H (.ref id off len cap sz)
 | .func f a b=>.func f (a.map (hN H)) (b.map (hN H))
 | v=>v
def gP:I→Bool
 | .bool _ | .int _ _ | .str _=>true
 | _=>false
def fw:I→Bool
 | .bool _ | .int _ _ | .str _=>true
 | .tuple vs=>vs.all gP
 | .ax cells _ (.uniq _)=>cells.all gP
 | _=>false
def eZ (C:b7) (lo mode:Nat) (bZ:e_) (args:List I) (H:List ar):Option (I×List ar) :=
 match mode with
 | 0=>(C bZ args H H.length).bind fun r=>(bI r.2 H.length r.2.length 0 8 r.1).map fun v=>(v,H)
 | 1=>C bZ args H lo
 | 3=>match bZ,args.all (ch 8) with
   | .fn _,true=>(C bZ (args.map I.cq) [] 0).bind fun r=>(bI r.2 0 r.2.length 0 8 r.1).map fun v=>(v.cq,H)
   | _,_=>none
 | 6=>match bZ,(args.map (im H)).all (ch 8) with
   | .fn _,true=>(C bZ ((args.map (im H)).map I.cq) [] 0).bind fun r=>(bI r.2 0 r.2.length 0 8 r.1).bind fun v=>match fw v with
     | true=>some (v.cq,H)
     | false=>none
   | _,_=>none
 | 7=>match bZ,args with
   | .fn _,[.ptr id 0]=>if lo≤id then match H[id]? with
     | some (.cells l)=>match ch 8 (.bT (l.map I.view)) with
       | true=>(C bZ [(I.bT (l.map I.view)).cq] [] 0).bind fun r=>(bI r.2 0 r.2.length 0 8 r.1).map fun v=>(v.cq,H.set id .dead)
       | false=>none
     | _=>none else none
   | _,_=>none
 | 4=>(C bZ (args.map I.cq) H H.length).bind fun r=>(bI r.2 H.length r.2.length 0 8 r.1).map fun v=>(v.cq,H)
 | _=>(C bZ args H H.length).bind fun r =>
   match Co H.length r.1 with
   | none=>(bI r.2 H.length r.2.length 0 8 r.1).map fun v=>(v,H)
   | some id0 =>
     match r.2[id0]? with
     | some (.cells l)=>if H.length≤id0 then
       match d' (bI r.2 H.length id0 H.length 8) l,bI r.2 H.length id0 H.length 8 r.1 with
       | some l',some v=>some (v,H++[.cells l'])
       | _,_=>none
       else none
     | some (.map es clock)=>if H.length≤id0 then
       match mapM (bI r.2 H.length id0 H.length 8) es,bI r.2 H.length id0 H.length 8 r.1 with
       | some es',some v=>some (v,H++[.map es' clock])
       | _,_=>none
       else none
     | _=>none
def kp (C:b7) (lo mode:Nat) (f:I) (args:List I) (H:List ar):Option (I×List ar) :=
 match f with
 | .func k first cap=>eZ C lo mode (.fn k) (first++args++cap) H
 | .yield l=>eZ C lo mode (.yield l) args H
 | _=>none
abbrev Out:=Option (I×List ar)
def eV (lo mode:Nat) (t:TypeId) (x:Operand) (H:List ar):List I→Out
 | [v] =>
   match mode with
   | 0=>match iP x,P.underlying t with
     | true,some (.slice e)=>(bC P e).map fun z=>(.ax [] 0 (.uniq z),H)
     | _,_=>some (v,H)
   | 1=>match v with
     | .ax cells len (.uniq z)=>if len=0 then some (v,H) else some (.ref H.length 0 len none z,H++[.cells cells])
     | .ax [] 0 .full=>some (v,H)
     | .ref ..=>some (v,H)
     | _=>none
   | 4=>match v with
     | .ck id gid n z=>if lo≤id then match H[id]? with
       | some (.grow l g cS)=>if g=gid∧cS=z∧n*z≤l.length∧(l.take (n*z)).all I.plain=true then some (.ax (l.take (n*z)) n (.uniq z),H.set id .dead) else none
       | _=>none else none
     | _=>some (v,H)
   | _=>match v with
     | .ref id _ _ cap _=>if lo≤id then (rowOf H v).bind fun row=>(lenOf v).map fun n =>
       (.ax row n (g0 cap n),H.set id .dead) else none
     | .ck id gid n z=>if lo≤id then match H[id]? with
       | some (.grow l g cS)=>if l.length=n*z then some (.ax (l.map I.view) n .shared,H.set id .dead) else none
       | _=>none else none
     | _=>some (v.view,H)
 | _=>none
def dM (lo mode:Nat) (t:TypeId) (H:List ar):List I→Out
 | [a] =>
   match mode with
   | 0=>(dP P H t a).map (·,H)
   | 3=>match a with
     | .bT cells=>(ev P t cells 0).map (·,H)
     | _=>none
   | 5=>match P.underlying t,a with
     | some (.slice _),.ptr id off=>match H[id]? with
       | some (.cells l)=>match l[off]? with
         | some (.ck i g n z)=>some (.ck i g n z,H)
         | some (.ax [] 0 .full)=>some (.ax [] 0 .full,H)
         | _=>none
       | _=>none
     | _,_=>none
   | _=>match P.underlying t,a with
     | some (.slice _),.ptr id off=>if lo≤id then match H[id]? with
       | some (.cells l)=>match l[off]? with
         | some (.ax c n (.own z))=>some (.ax c n (.own z),H.set id (.cells (l.set off (.ax c n .shared))))
         | some (.raw c n z)=>if mode=2 then (if n=0 then none else some (.ref H.length 0 n none z,H.set id (.cells (l.set off (.ref H.length 0 n none z)))++[.cells c]))
           else some (.ax c n (.uniq z),H.set id (.cells (l.set off .junk)))
         | some v=>some (v.view,H)
         | _=>none
       | some (.grow l g cS)=>match l[off]? with
         | some (.ax c n (.own z))=>some (.ax c n (.own z),H.set id (.grow (l.set off (.ax c n .shared)) g cS))
         | some (.ax c n .full)=>some (.ax c n .full,H)
         | _=>none
       | _=>none else none
     | _,_=>none
 | _=>none
def kl (lo:Nat) (H:List ar) (t:TypeId) (a v:I):Option (List ar) :=
 match a,v,bC P t with
 | .ptr id off,.ax c n (.uniq z),some 1=>if c.all gP=true∧n≠0 then fM lo H id fun l=>if off<l.length then some (l.set off (.raw c n z)) else none else none
 | _,_,_=>none
def lH (lo:Nat) (H:List ar) (t:TypeId) (a v:I):Option (List ar) :=
 match a,v,bC P t with
 | .ptr id off,.cY as c n z bs,some s=>if as.length+1+bs.length=s then fM lo H id fun l=>if off+s≤l.length then some (setCells off (as++.ax c n (.own z)::bs) l) else none else none
 | _,_,_=>none
def gM (lo mode:Nat) (t:TypeId) (H:List ar):List I→Out
 | [a,v]=>match mode with
   | 0=>(iz P lo H t a v).map fun H'=>(.junk,H')
   | 2=>(lH P lo H t a v).map fun H'=>(.junk,H')
   | _=>(kl P lo H t a v).map fun H'=>(.junk,H')
 | _=>none
def gL (mode:Nat) (H:List ar):List I→Out
 | [v]=>match mode with
   | 0=>v.cells.map fun vc=>(.ptr H.length 0,H++[.cells (vc.map I.settle)])
   | _=>match v.cells with
     | some vc=>match vc.all I.plain with
       | true=>some (.bT vc,H)
       | false=>none
     | none=>none
 | _=>none
def k2 (mode:Nat) (t:TypeId) (H:List ar):Out :=
 match mode with
 | 0=>(zeroCells P t).map fun z=>(.ptr H.length 0,H++[.cells z])
 | _=>match zeroCells P t,P.underlying t with
   | some [.ax [] 0 .full],some (.slice e)=>(bC P e).map fun s=>(.ptr H.length 0,H++[.cells [.ax [] 0 (.own s)]])
   | _,_=>none
def j4 (mode:Nat) (t:TypeId) (H:List ar):List I→Out
 | [.int _ n,.int _ c] =>
   if 0≤n∧n≤c then
    match mode with
    | 0=>(jk P t c.toNat).map fun r=>(.ref H.length 0 n.toNat (some c.toNat) r.2,H++[.cells r.1])
    | _=>if n=c∧0≤n then (jk P t c.toNat).map fun r=>(.ax r.1 n.toNat (.uniq r.2),H) else none
   else none
 | _=>none
def kT (t:TypeId):Bool:=match P.underlying t with
 | some (.int _)=>true
 | some (.struct bl)=>gI P bl.toList 0 && !P.stoodInHeld t
 | _=>false
def gB:I→I→Option Bool
 | .int k a,.int k' b=>if k=k' then some (a == b) else none
 | .agg xs,.agg ys=>dJ xs ys
 | _,_=>none
def isKey (t:TypeId) (k:I):Bool:=match P.underlying t,k with
 | some (.int q),.int fQ _=>q == fQ
 | some (.struct bl),.agg cs=>cs.length == bl.size
 | _,_=>false
def fD (k:I):List (Nat×I×I)→Nat→Option (Option Nat)
 | [],_=>some none
 | (_,k',_)::r,i=>match gB k k' with
   | some true=>some (some i)
   | some false=>fD k r (i+1)
   | none=>none
def jZ (t:TypeId):Option (TypeId×TypeId):=match P.underlying t with
 | some (.map k e)=>match kT P k with | true=>some (k,e) | false=>none
 | _=>none
def oI (t:TypeId):Option I:=((P.info? t).bind (·.zero)).bind fun v=>match v with
 | .agg cs=>match cs.toList.all (·.oneCell') with | true=>some (.agg (cs.toList.map hx)) | false=>none
 | v=>some (hx v)
def k5 (t:TypeId) (r:Option Operand) (H:List ar):Out :=
 match r,P.underlying t with
 | none,some (.map _ _)=>some (.map H.length,H++[.map [] 0])
 | _,_=>none
def iW (lo:Nat) (t:TypeId) (H:List ar):List I→Out
 | [.map id,k,v]=>match jZ P t with
   | some (dZ,_)=>match isKey P dZ k with
     | true=>if lo≤id then match H[id]? with
       | some (.map es clock)=>match fD k es 0 with
         | some (some i)=>some (.junk,H.set id (.map (es.modify i fun e=>(e.1,k,v)) clock))
         | some none=>some (.junk,H.set id (.map (es++[(clock,k,v)]) (clock+1)))
         | none=>none
       | _=>none else none
     | false=>none
   | none=>none
 | _=>none
def ie (t:TypeId) (ok:Bool) (H:List ar):List I→Out
 | [.map id,k]=>match jZ P t with
   | some (dZ,iB)=>match isKey P dZ k,H[id]? with
     | true,some (.map es _)=>match fD k es 0 with
       | some r =>
         (match r.bind fun i=>es[i]? with | some e=>some e.2.2 | none=>oI P iB).map fun v =>
          (if ok then .tuple [v,.bool r.isSome] else v,H)
       | none=>none
     | _,_=>none
   | none=>none
 | _=>none
def hI (lo:Nat) (ts:Array TypeId) (H:List ar):List I→Out
 | [.map id,k]=>match (ts[0]?).bind (jZ P) with
   | some (dZ,_)=>match isKey P dZ k with
     | true=>if lo≤id then match H[id]? with
       | some (.map es clock)=>match fD k es 0 with
         | some (some i)=>some (.tuple [],H.set id (.map (es.eraseIdx i) clock))
         | some none=>some (.tuple [],H)
         | none=>none
       | _=>none else none
     | false=>none
   | none=>none
 | _=>none
def k6 (t:TypeId) (H:List ar):List I→Out
 | [.map id]=>match P.underlying t,H[id]? with
   | some (.map _ _),some (.map _ clock)=>some (.ptr H.length 0,H++[.iter id clock [] clock])
   | _,_=>none
 | _=>none
def k4 (H:List ar):List I→Out
 | [.ptr r 0]=>match H[r]? with
   | some (.iter m _ seen kc)=>match seen.getLast?,H[m]? with
     | some gk,some (.map es clock)=>if clock=kc then match es.find? (fun e=>e.1 == gk) with
       | some e=>some (.tuple [e.2.1,e.2.2],H)
       | none=>none else none
     | _,_=>none
   | _=>none
 | _=>none
def iQ (t:Option TypeId):Bool:=match t.bind P.underlying with | some (.slice _)=>true | _=>false
def hh (ts:Array TypeId) (H:List ar):List I→Out
 | [x]=>match x with
   | .ax _ n _=>match iQ P ts[0]? with | true=>some (.int .i64 n,H) | false=>none
   | .ref _ _ n _ _=>match iQ P ts[0]? with | true=>some (.int .i64 n,H) | false=>none
   | .map id=>match (ts[0]?).bind P.underlying,H[id]? with | some (.map _ _),some (.map es _)=>some (.int .i64 es.length,H) | _,_=>none
   | _=>match (ts[0]?).bind P.underlying with | some (.array n _)=>some (.int .i64 n,H) | _=>none
 | _=>none
def j2 (ts:Array TypeId) (H:List ar):List I→Out
 | [.ax _ n .full]=>match iQ P ts[0]? with | true=>some (.int .i64 n,H) | false=>none
 | [.ref _ _ _ (some n) _]=>match iQ P ts[0]? with | true=>some (.int .i64 n,H) | false=>none
 | _=>none
def j3 (lo:Nat) (ts:Array TypeId) (H:List ar):List I→Out
 | [.ref id off len _ sz,x]=>match (ts[0]?).bind P.underlying with
   | some (.slice e)=>match bC P e,lenOf x,rowOf H x with
     | some s,some m,some row=>if s=sz∧row.length=m*sz then
       (fM lo H id fun l=>if off+len*sz≤l.length then some (setCells off (row.take (min m len*sz)) l) else none).map fun H'=>(.int .i64 (min m len:Nat),H') else none
     | _,_,_=>none
   | _=>none
 | _=>none
def k3 (lo:Nat) (ts:Array TypeId) (H:List ar):List I→Out
 | [.ref id off len _ sz]=>match (ts[0]?).bind P.underlying with
   | some (.slice e)=>match bC P e,zeroCells P e with
     | some s,some z=>if s=sz∧z.length=s∧0<s then
       (hd lo H id fun l=>if off+len*sz≤l.length then some (setCells off (e5 len z) l) else none).map fun H'=>(.tuple [],H') else none
     | _,_=>none
   | _=>none
 | [.ax [] 0 _]=>match iQ P ts[0]? with | true=>some (.tuple [],H) | false=>none
 | _=>none
def iU (ts:Array TypeId) (H:List ar):List I→Out
 | [s,x]=>match ts.toList with
   | [t,dp]=>(e' P H t dp s x).map (·,H)
   | _=>none
 | _=>none
def ic (lo:Nat) (ts:Array TypeId) (H:List ar):List I→Out
 | [s,x]=>match ts.toList with
   | [t,dp]=>match s with
     | .ax _ _ _=>match e' P H t dp s x with
       | some (.ax cells n (.uniq z))=>if n=0 then none else some (.ck H.length (H.length+1) n z,H++[.grow cells (H.length+1) z,.dead])
       | _=>none
     | .ck id gid len z=>if lo≤id then match P.underlying t,H[id]? with
       | some (.slice e),some (.grow l g cS)=>match bC P e,(P.info? e).map (·.bytes),zeroCells P e,appended H x with
         | some sz,some bytes,some gm,some (m,new) =>
           if t=dp∧g=gid∧cS=z∧z=sz∧l.length=len*z∧new.length=m*sz∧0<sz∧0<m∧gm.length=sz∧fv m bytes=true∧fv (len+m) bytes=true then
            some (.ck H.length (H.length+1) (len+m) z,H.set id .dead++[.grow (l++new) (H.length+1) z,.dead])
           else none
         | _,_,_,_=>none
       | _,_=>none else none
     | _=>none
   | _=>none
 | _=>none
def jc (lo:Nat) (H:List ar):List I→List ar
 | .ck id _ len z::_=>match H[id]? with
   | some (.grow l g cS)=>match Nat.blt (len*z) l.length && Nat.ble lo id with
     | true=>H.set id (.grow (l.take (len*z)) g cS)
     | false=>H
   | _=>H
 | _=>H
def iV (lo:Nat) (ts:Array TypeId) (H:List ar) (vs:List I):Out:=ic P lo ts (jc lo H vs) vs
def ew (lo:Nat) (b:Builtin) (ts:Array TypeId) (H:List ar) (vs:List I):Out :=
 match b with
 | .append=>iU P ts H vs
 | .len=>hh P ts H vs
 | .cap=>j2 P ts H vs
 | .copy=>j3 P lo ts H vs
 | .clear=>k3 P lo ts H vs
 | .delete=>hI P lo ts H vs
 | .min=>(n3 vs).map (·,H)
 | .max=>(n2 vs).map (·,H)
 | _=>none
def hH (C:b7) (lo mode:Nat) (H:List ar):List I→Out
 | f::args=>kp C lo mode f args H
 | []=>none
def a4 (C:b7) (lo:Nat) (o:Oper) (mode:Nat) (vs:List I) (H:List ar):Out :=
 match o.op with
 | .move x=>eV P lo mode o.type x H vs
 | .assign x=>eV P lo mode o.type x H vs
 | .load t _=>dM P lo mode t H vs
 | .store t _ _=>gM P lo mode t H vs
 | .box _ _=>gL mode H vs
 | .alloc t=>k2 P mode t H
 | .build t parts=>match mode with
   | 0=>(cw P o vs).map (·,H)
   | _=>(kk P t (eL parts.toList vs)).map (·,H)
 | .buildSlice t len parts=>match mode with
   | 0=>(cw P o vs).map (·,H)
   | _=>(iw P t len (eL parts.toList vs)).map fun r=>(.ax r.1 len .full,H)
 | .makeSlice t _ _=>j4 P mode t H vs
 | .makeMap t r=>k5 P t r H
 | .mapUpdate t _ _ _=>iW P lo t H vs
 | .lookup t _ _ ok=>ie P t ok H vs
 | .range t _=>k6 P t H vs
 | .entry _=>k4 H vs
 | .call c=>match c.callee with
   | .builtin b=>match b with
     | .append=>match mode with
       | 0=>ew P lo b c.argTypes H vs
       | _=>iV P lo c.argTypes H vs
     | _=>ew P lo b c.argTypes H vs
   | .value _=>hH C lo mode H vs
   | .invoke _ _=>none
 | _=>(cw P o vs).map (·,H)
def put (T:List I):Option Tmp→I→List I
 | some d,v=>gQ T d v
 | none,_=>T
def inPlace (o:Oper) (mode:Nat) (T:List I) (v:I):List I :=
 match mode with
 | 0=>T
 | 4=>T
 | _=>match o.op with
   | .move (.tmp t) | .assign (.tmp t)=>gQ T t v.view
   | _=>T
def execOp (C:b7) (lo:Nat) (o:Oper) (an:b2) (s:a6):Option a6 :=
 let r:=rd s.T an.takes (opsOf o)
 let vs:=match dH o an.mode with | true=>r.1 | false=>r.1.map I.view
 (a4 P C lo o an.mode vs s.H).map fun x=>⟨put (inPlace o an.mode r.2 x.1) o.dst x.1,x.2⟩
def ey (ops:Array Oper) (o:Oper) (T:List I):Option Bool :=
 match o.guard with
 | none=>some true
 | some (j,want)=>match (ops[j]?).bind (·.dst) with
   | some d=>match c3 T d with
     | .bool b=>some (b == want)
     | .tuple []=>some false
     | _=>none
   | none=>none
def eO (C:b7) (lo:Nat) (ops:Array Oper):List Oper→List b2→a6→Option a6
 | [],_,s=>some s
 | o::rest,as,s =>
   match ey ops o s.T with
   | some true=>(execOp P C lo o (as.headD {}) s).bind (eO C lo ops rest as.tail)
   | some false=>eO C lo ops rest as.tail ⟨put s.T o.dst (.tuple []),s.H⟩
   | none=>none
def ia (f:a6→Option (cz×a6)):Nat→a6→Option (cz×a6)
 | 0,_=>none
 | n+1,s=>match f s with
   | some (.normal,aF)=>ia f n aF
   | r=>r
def inLoop (H:List ar):Option Nat→Bool
 | none=>true
 | some l=>match H[l]? with
   | some (.loop ..)=>true
   | _=>false
def exec (A:db) (C:b7) (fn:FuncId) (lo d:Nat) (rl:Option Nat):Code→Nat→a6→Option (cz×a6)
 | .skip,_,s=>some (.normal,s)
 | .region id ops draw,_,s=>match ke A id draw with
   | some _=>none
   | none=>(eO P C lo ops ops.toList (A.ops.getD id []) (e2 A.h' id s)).map fun aF=>(.normal,aF)
 | .seq a b,a1,s=>match exec A C fn lo d rl a a1 s with
   | some (.normal,aF)=>exec A C fn lo d rl b a1 aF
   | r=>r
 | .cond c a b,a1,s=>match aA s.T c with
   | .bool true=>exec A C fn lo d rl a a1 s
   | .bool false=>exec A C fn lo d rl b a1 s
   | _=>none
 | .block id body,_,s=>match exec A C fn lo d rl body id s with
   | some (.exit bz,aF)=>if bz=id then some (.normal,aF) else some (.exit bz,aF)
   | r=>r
 | .loop body,a1,s=>ia (fun aF=>exec A C fn lo d rl body a1 (e2 A.h_ a1 aF)) d s
 | .exit id,_,s=>some (.exit id,s)
 | .ret,_,s=>some (.ret,s)
 | .scope body,a1,s=>exec A C fn lo d rl body a1 s
 | .label _,_,s=>some (.normal,s)
 | .rangeFunc f params assign body,_,s =>
   match inLoop s.H rl,aA s.T f with
   | true,.func k first cap =>
     match C (.fn k) (first++[.yield s.H.length]++cap) (s.H++[.loop .ready none fn (s.T.map I.view) params.toList assign body A]) lo with
     | some (_,H')=>match H'[s.H.length]? with
       | some (.loop st cE _ _ _ _ _ _) =>
         if st=.busy then none else
         match cE with
         | none=>some (.normal,⟨s.T.map I.settle,H'.set s.H.length .dead⟩)
         | some .ret=>some (.ret,⟨s.T.map I.settle,H'.set s.H.length .dead⟩)
         | some (.exit id)=>some (.exit id,⟨s.T.map I.settle,H'.set s.H.length .dead⟩)
         | _=>none
       | _=>none
     | none=>none
   | _,_=>none
 | _,_,_=>none
def fk (H:List ar) (T:List I):List ResultVar→Option (List I)
 | []=>some []
 | .tmp t::r=>(fk H T r).map (c3 T t::·)
 | .cell a t::r=>match dP P H t (c3 T a),fk H T r with
   | some v,some vs=>some (v::vs)
   | _,_=>none
def hj:List I→I
 | [v]=>v
 | vs=>.tuple (vs.map I.view)
def il:List Nat→List I→List I→Option (List I)
 | [],[],T=>some T
 | p::bn,v::vs,T=>il bn vs (gQ T p v)
 | _,_,_=>none
def fX (A:FuncId→db) (tab:b7):Nat→b7
 | 0,_,_,_,_=>none
 | d+1,.fn k,args,H,lo =>
   match tab (.fn k) args H lo with
   | some r=>some r
   | none =>
   match (A k).bad with
   | true=>none
   | false =>
   match P.funcs[k]? with
   | some f=>match f.body with
     | some c =>
       match exec P (A k) (fX A tab d) k lo d none c 0 ⟨args++List.replicate (f.ntmps-args.length) .junk,H⟩ with
       | some (.normal,s) | some (.ret,s)=>(fk P s.H s.T f.results.toList).map fun vs=>(hj vs,s.H)
       | _=>none
     | none=>none
   | none=>none
 | d+1,.yield l,args,H,lo =>
   if l<lo then none else
   match H[l]? with
   | some (.loop .ready _ fn T params assign body an) =>
     match il params args T with
     | some a' =>
       match exec P an (fX A tab d) fn lo d (some l) assign 0 ⟨a',H⟩ with
       | some (.normal,s) =>
         match s.H[l]? with
         | some (.loop .ready cE fn T params assign lL iA) =>
           match exec P an (fX A tab d) fn lo d (some l) body 0 ⟨s.T,s.H.set l (.loop .busy cE fn T params assign lL iA)⟩ with
           | some (e,s2) =>
             match s2.H[l]? with
             | some (.loop .busy _ fn T params assign lL iA) =>
               match e with
               | .normal=>some (.bool true,s2.H.set l (.loop .ready none fn T params assign lL iA))
               | .ret=>some (.bool false,s2.H.set l (.loop .done (some .ret) fn T params assign lL iA))
               | .exit id=>some (.bool false,s2.H.set l (.loop .done (some (.exit id)) fn T params assign lL iA))
             | _=>none
           | none=>none
         | _=>none
       | _=>none
     | none=>none
   | _=>none
end
end
end Go.Proofs.YtfakoboiahbhaaaGreat.Ab


namespace Go.Proofs.YtfakoboiahbhaaaGreat.Ab
open Go
inductive aH where
 | slot (i:Nat)
 | arg (i:Nat)
 | res
 | obj (id:Nat)
 | cell (id j:Nat)
 | mark
 deriving DecidableEq
inductive Rel (J:List Nat) (S:Nat→Nat→Prop) (w:World):I→Value→Prop
 | junk (v:Value):Rel J S w .junk v
 | bool (b:Bool):Rel J S w (.bool b) (.bool b)
 | dt (b:Bool):Rel J S w .dt (.bool b)
 | int (k:IntKind) (n:Int):Rel J S w (.int k n) (.int k n)
 | str (s:ByteArray):Rel J S w (.str s) (.string s)
 | eG:Rel J S w .eG (.pointer none)
 | ptr (id off b:Nat) (h:J[id]?=some b):Rel J S w (.ptr id off) (.pointer (some ⟨b,off,none⟩))
 | bT (cells:List I) (b o:Nat) (f:Nat→Value)
   (h:∀ (j:Nat) (u:I),cells[j]?=some u→S b (o+j)∧w.cell? ⟨b,o+j,none⟩=some (f j)∧u.plain=true∧(f j).oneCell'=true)
   (aj:∀ (j:Nat) (u:I),cells[j]?=some u→Rel J S w u (f j)):Rel J S w (.bT cells) (.pointer (some ⟨b,o,none⟩))
 | b1 (c:hs) (a:Option Addr):Rel J S w (.ax [] 0 c) (.slice a 0 0)
 | ax (cells:List I) (len:Nat) (c:hs) (b o cap:Nat) (f:Nat→Value)
   (al:c=.full→cap=len) (hle:len≤cap) (hu:∀ z,c≠.uniq z)
   (h:∀ (j:Nat) (u:I),cells[j]?=some u→S b (o+j)∧w.cell? ⟨b,o+j,none⟩=some (f j)∧u.plain=true∧(f j).oneCell'=true)
   (aj:∀ (j:Nat) (u:I),cells[j]?=some u→Rel J S w u (f j)):Rel J S w (.ax cells len c) (.slice (some ⟨b,o,none⟩) len cap)
 | cJ (cells:List I) (len z b o cap:Nat):Rel J S w (.ax cells len (.uniq z)) (.slice (some ⟨b,o,none⟩) len cap)
 | raw (cells:List I) (len z b o cap:Nat):Rel J S w (.raw cells len z) (.slice (some ⟨b,o,none⟩) len cap)
 | ref (id off len:Nat) (c:Option Nat) (sz b cap:Nat) (h:J[id]?=some b) (al:∀ n,c=some n→cap=n) (hle:len≤cap) :
   Rel J S w (.ref id off len c sz) (.slice (some ⟨b,off,none⟩) len cap)
 | ck (id gid len z b cap:Nat) (h:J[id]?=some b) (aO:J[gid]?=some cap) (hle:len≤cap):Rel J S w (.ck id gid len z) (.slice (some ⟨b,0,none⟩) len cap)
 | func (f:FuncId) (as bs:List I) (vs ws:Array Value) (ad:vs.size=as.length) (af:ws.size=bs.length)
   (bR:∀ u∈as,u.plain=true) (bY:∀ u∈bs,u.plain=true)
   (r1:∀ (j:Nat) (u:I) (v:Value),as[j]?=some u→vs[j]?=some v→Rel J S w u v)
   (r2:∀ (j:Nat) (u:I) (v:Value),bs[j]?=some u→ws[j]?=some v→Rel J S w u v):Rel J S w (.func f as bs) (.func (.func f) vs ws)
 | yield (id b:Nat) (h:J[id]?=some b):Rel J S w (.yield id) (.func (.yield b) #[] #[])
 | map (id b:Nat) (h:J[id]?=some b):Rel J S w (.map id) (.map (some b))
 | agg (as:List I) (vs:Array Value) (h:vs.size=as.length) (p:∀ u∈as,u.plain=true) (one:∀ v∈vs.toList,v.oneCell'=true)
   (r:∀ (j:Nat) (u:I) (v:Value),as[j]?=some u→vs[j]?=some v→Rel J S w u v):Rel J S w (.agg as) (.agg vs)
 | tuple (as:List I) (vs:Array Value) (h:vs.size=as.length) (p:∀ u∈as,u.plain=true)
   (r:∀ (j:Nat) (u:I) (v:Value),as[j]?=some u→vs[j]?=some v→Rel J S w u v):Rel J S w (.tuple as) (.tuple vs)
 | cY (as c:List I) (n z:Nat) (bs:List I) (vs:Array Value) (h:vs.size=as.length+1+bs.length) (la:∀ u∈as,u.plain=true) (lb:∀ u∈bs,u.plain=true) (one:∀ v∈vs.toList,v.oneCell'=true)
   (oc:∀ (j:Nat) (u:I) (v:Value),as[j]?=some u→vs[j]?=some v→Rel J S w u v)
   (ro:∀ v,vs[as.length]?=some v→Rel J S w (.ax c n (.own z)) v)
   (od:∀ (j:Nat) (u:I) (v:Value),bs[j]?=some u→vs[as.length+1+j]?=some v→Rel J S w u v):Rel J S w (.cY as c n z bs) (.agg vs)
def gv (U:Nat→Option aH) (S:Nat→Nat→Prop) (w:World) (l:aH) (cells:List I) (len z:Nat):Value→Prop
 | .slice (some a) _ cap=>(len=0∧cap=0∧cells=[]) ∨
   (U a.block=some l∧True∧a.spot=none∧len≤cap∧cap≤maxLen∧0<z∧cells.length=len*z ∧
    (∃ cur e,w.heap[a.block]?=some (.cells cur e (0,0))∧cur.size=a.off+cap*z)∧∀ o,a.off+cells.length≤o→¬ S a.block o)
 | _=>True
def aV (U:Nat→Option aH) (J:List Nat) (S:Nat→Nat→Prop) (w:World) (l:aH):I→Value→Prop
 | .ax cells len (.own z),.slice (some a) _ cap=>(len=0∧cap=0∧cells=[]) ∨
   (U a.block=some l∧True∧a.spot=none∧len≤cap∧cap≤maxLen∧0<z∧cells.length=len*z ∧
    (∃ cur e,w.heap[a.block]?=some (.cells cur e (0,0))∧cur.size=a.off+cap*z)∧∀ o,a.off+cells.length≤o→¬ S a.block o)
 | .ax cells len (.uniq z),.slice (some a) _ cap=>(len=0∧cap=0∧cells=[]) ∨
   (U a.block=some l∧a.off=0∧len≤cap∧cap≤maxLen∧0<z∧cells.length=len*z ∧
    (∃ cur e,w.heap[a.block]?=some (.cells cur e (0,0))∧cur.size=cap*z ∧
     ∀ (j:Nat) (u:I) (v:Value),cells[j]?=some u→cur[j]?=some v→u.plain=true∧v.oneCell'=true∧Rel J S w u v)∧∀ o,¬ S a.block o)
 | .raw cells len z,.slice (some a) _ cap =>
   U a.block=some l∧a.off=0∧len≤cap∧cap≤maxLen∧0<z∧cells.length=len*z∧cells.all gP=true ∧
     (∃ cur e,w.heap[a.block]?=some (.cells cur e (0,0))∧cur.size=cap*z ∧
      ∀ (j:Nat) (u:I) (v:Value),cells[j]?=some u→cur[j]?=some v→v.oneCell'=true∧Rel J S w u v)∧∀ o,¬ S a.block o
 | .cY as c n z _,.agg vs=>∀ v,vs[as.length]?=some v→gv U S w l c n z v
 | _,_=>True
theorem gv.at {U:Nat→Option aH} {J:List Nat} {S:Nat→Nat→Prop} {w:World} {l:aH} {c:List I} {n z:Nat} {v:Value} (h:gv U S w l c n z v):aV U J S w l (.ax c n (.own z)) v:=by
 cases v with
 | slice a len cap=>cases a with
   | some a=>exact h
   | none=>trivial
 | _=>trivial
theorem gv.of {U:Nat→Option aH} {J:List Nat} {S:Nat→Nat→Prop} {w:World} {l:aH} {c:List I} {n z:Nat} {v:Value} (h:aV U J S w l (.ax c n (.own z)) v):gv U S w l c n z v:=by
 cases v with
 | slice a len cap=>cases a with
   | some a=>exact h
   | none=>trivial
 | _=>trivial
structure bh (U:Nat→Option aH) (S:Nat→Nat→Prop) (w:World) (az:Nat→Option aH) (S':Nat→Nat→Prop) (w':World):Prop where
 os:w'.os=w.os
 tape:w'.tape=w.tape
 output:w'.output=w.output
 size:w.heap.size≤w'.heap.size
 cC:∀ b,b<w.heap.size→U b=none→w'.heap[b]?=w.heap[b]?
 set:∀ b o,S b o→S' b o∧w'.cell? ⟨b,o,none⟩=w.cell? ⟨b,o,none⟩
 fresh:∀ b o,S' b o→S b o∨U b≠none∨w.heap.size≤b
 own:∀ b,az b≠none→U b≠none∨w.heap.size≤b
theorem bh.refl (U:Nat→Option aH) (S:Nat→Nat→Prop) (w:World):bh U S w U S w :=
 ⟨rfl,rfl,rfl,sd _,fun _ _ _=>rfl,fun _ _ h=>⟨h,rfl⟩,fun _ _ h=>.inl h,fun _ h=>.inl h⟩
theorem bh.trans {U b4 bq:Nat→Option aH} {S a7 bK:Nat→Nat→Prop} {w bG bX:World} (h:bh U S w b4 a7 bG) (k:bh b4 a7 bG bq bK bX) :
  bh U S w bq bK bX where
 os:=k.os.trans h.os
 tape:=k.tape.trans h.tape
 output:=k.output.trans h.output
 size:=sL h.size k.size
 cC b ag aN:=by
  have ad:b4 b=none:=by
   cases hw:b4 b with
   | none=>rfl
   | some l =>
     rcases h.own b (by simp [hw]) with af | af
     ·exact absurd aN af
     ·omega
  rw [k.cC b (Nat.lt_of_lt_of_le ag h.size) ad,h.cC b ag aN]
 set b o ai:=by
  obtain ⟨ad,af⟩:=h.set b o ai;obtain ⟨aJ,aQ⟩:=k.set b o ad;exact ⟨aJ,aQ.trans af⟩
 fresh b o ai:=by
  rcases k.fresh b o ai with ad | ad | ad
  ·exact h.fresh b o ad
  ·rcases h.own b ad with af | af
   ·exact .inr (.inl af)
   ·exact .inr (.inr af)
  ·exact .inr (.inr (sL h.size ad))
 own b ag:=by
  rcases k.own b ag with ad | ad
  ·exact h.own b ad
  ·exact .inr (sL h.size ad)
def Ext (J bU:List Nat):Prop:=∀ (i b:Nat),J[i]?=some b→bU[i]?=some b
theorem Ext.refl (J:List Nat):Ext J J:=fun _ _ h=>h
theorem Ext.trans {a b c:List Nat} (h:Ext a b) (k:Ext b c):Ext a c:=fun i x ak=>k i x (h i x ak)
theorem Ext.append (a b:List Nat):Ext a (a++b):=fun i x ak=>by
 rw [sy (sb.1 ak).1];exact ak
theorem Rel.mono {J bU:List Nat} {S S':Nat→Nat→Prop} {w w':World} (bJ:Ext J bU)
  (cl:∀ b o,S b o→S' b o∧w'.cell? ⟨b,o,none⟩=w.cell? ⟨b,o,none⟩) {u:I} {v:Value} (h:Rel J S w u v):Rel bU S' w' u v:=by
 induction h with
 | junk v=>exact .junk v
 | bool b=>exact .bool b
 | dt b=>exact .dt b
 | int k n=>exact .int k n
 | str s=>exact .str s
 | eG=>exact .eG
 | ptr id off b h=>exact .ptr id off b (bJ _ _ h)
 | bT cells b o f h aj a9 =>
   exact .bT cells b o f (fun j u aw=>let ⟨ad,af,aG⟩:=h j u aw;⟨(cl _ _ ad).1,(cl _ _ ad).2.trans af,aG⟩) a9
 | b1 c a=>exact .b1 c a
 | ax cells len c b o cap f al hle hu h aj a9 =>
   exact .ax cells len c b o cap f al hle hu (fun j u aw=>let ⟨ad,af,aG⟩:=h j u aw;⟨(cl _ _ ad).1,(cl _ _ ad).2.trans af,aG⟩) a9
 | cJ cells len z b o cap=>exact .cJ cells len z b o cap
 | raw cells len z b o cap=>exact .raw cells len z b o cap
 | ref id off len c sz b cap h al hle=>exact .ref id off len c sz b cap (bJ _ _ h) al hle
 | ck id gid len z b cap h aO hle=>exact .ck id gid len z b cap (bJ _ _ h) (bJ _ _ aO) hle
 | func f as bs vs ws ad af bR bY r1 r2 i1 i2=>exact .func f as bs vs ws ad af bR bY i1 i2
 | yield id b h=>exact .yield id b (bJ _ _ h)
 | map id b h=>exact .map id b (bJ _ _ h)
 | agg as vs h p one r a9=>exact .agg as vs h p one a9
 | tuple as vs h p r a9=>exact .tuple as vs h p a9
 | cY as c n z bs vs h la lb one oc ro od kQ io xg=>exact .cY as c n z bs vs h la lb one kQ io xg
theorem gv.mono {U az:Nat→Option aH} {S S':Nat→Nat→Prop} {w w':World} {l l':aH}
  (fg:∀ b,U b=some l→az b=some l'∧w'.heap[b]?=w.heap[b]?∧∀ o,S' b o→S b o) {c:List I} {n z:Nat} {v:Value} (h:gv U S w l c n z v):gv az S' w' l' c n z v:=by
 unfold gv at h ⊢;split at h
 ·rcases h with h | ⟨ad,af,aG,a5,bL,bS,cI,⟨cur,e,cK,cM⟩,di⟩
  ·exact .inl h
  ·obtain ⟨aJ,aQ,cn⟩:=fg _ ad;exact .inr ⟨aJ,af,aG,a5,bL,bS,cI,⟨cur,e,aQ.trans cK,cM⟩,fun o aq ai=>di o aq (cn o ai)⟩
 ·trivial
theorem aV.mono {U az:Nat→Option aH} {J bU:List Nat} {S S':Nat→Nat→Prop} {w w':World} {l l':aH} (bJ:Ext J bU)
  (cl:∀ b o,S b o→S' b o∧w'.cell? ⟨b,o,none⟩=w.cell? ⟨b,o,none⟩)
  (fg:∀ b,U b=some l→az b=some l'∧w'.heap[b]?=w.heap[b]?∧∀ o,S' b o→S b o) {u:I} {v:Value} (h:aV U J S w l u v) :
  aV az bU S' w' l' u v:=by
 unfold aV at h ⊢;split at h
 ·rcases h with h | ⟨ad,af,aG,a5,bL,bS,cI,⟨cur,e,cK,cM⟩,di⟩
  ·exact .inl h
  ·obtain ⟨aJ,aQ,cn⟩:=fg _ ad;exact .inr ⟨aJ,af,aG,a5,bL,bS,cI,⟨cur,e,aQ.trans cK,cM⟩,fun o aq ai=>di o aq (cn o ai)⟩
 ·rcases h with h | ⟨ad,aU,a5,bL,bS,cI,⟨cur,e,cK,cM,di⟩,fo⟩
  ·exact .inl h
  ·obtain ⟨aJ,aQ,cn⟩:=fg _ ad;exact .inr ⟨aJ,aU,a5,bL,bS,cI,⟨cur,e,aQ.trans cK,cM,fun j u v hu ae=>⟨(di j u v hu ae).1,(di j u v hu ae).2.1,((di j u v hu ae).2.2).mono bJ cl⟩⟩,fun o ai=>fo o (cn o ai)⟩
 ·obtain ⟨ad,aU,a5,bL,bS,cI,ai,⟨cur,e,cK,cM,di⟩,fo⟩:=h;obtain ⟨aJ,aQ,cn⟩:=fg _ ad;exact ⟨aJ,aU,a5,bL,bS,cI,ai,⟨cur,e,aQ.trans cK,cM,fun j u v hu ae=>⟨(di j u v hu ae).1,((di j u v hu ae).2).mono bJ cl⟩⟩,fun o ai=>fo o (cn o ai)⟩
 ·exact fun v ae=>(h v ae).mono fg
 ·trivial
theorem aV.b3 {U:Nat→Option aH} {J:List Nat} {S:Nat→Nat→Prop} {w:World} {l:aH} {u:I} {v:Value} (h:u.plain=true):aV U J S w l u v:=by
 unfold aV;split <;> first | trivial | simp [I.plain] at h
def gu (U:Nat→Option aH) (J:List Nat) (S:Nat→Nat→Prop) (w:World) (id:Nat):ar→Prop
 | .dead=>True
 | .cells l=>∃ b cur e,J[id]?=some b∧U b=some (.obj id)∧w.heap[b]?=some (.cells cur e (0,0))∧l.length≤cur.size∧(∀ o,¬ S b o) ∧
   ∀ (j:Nat) (u:I) (v:Value),l[j]?=some u→cur[j]?=some v→u.cQ=true∧v.oneCell'=true∧Rel J S w u v∧aV U J S w (.cell id j) u v
 | .loop st cE fn T params assign body jv=>codeOk jv assign=true∧codeOk jv body=true∧∃ b L,J[id]?=some b∧U b=some (.obj id)∧w.heap[b]?=some (.loop L)∧L.state=st∧L.pending=cE∧True ∧
   L.tmps.size=T.length∧(∀ (i:Nat) (u:I) (v:Value),T[i]?=some u→L.tmps[i]?=some v→u.plain=true∧Rel J S w u v)∧L.params.toList=params∧L.assign=assign∧L.body=body
 | .map es clock=>∃ b bx,J[id]?=some b∧U b=some (.obj id)∧w.heap[b]?=some (.map bx clock)∧bx.size=es.length∧(∀ o,¬ S b o) ∧
   ∀ (j i:Nat) (k v:I) (x:MapEntry),es[j]?=some (i,k,v)→bx[j]?=some x→x.born=i∧k.plain=true∧Rel J S w k x.key∧v.plain=true∧Rel J S w v x.val
 | .grow l gid z=>∃ b cur e,J[id]?=some b∧U b=some (.obj id)∧w.heap[b]?=some (.cells cur e (0,0))∧l.length≤cur.size∧(∀ o,¬ S b o) ∧
   (∀ (j:Nat) (u:I) (v:Value),l[j]?=some u→cur[j]?=some v→u.cQ=true∧v.oneCell'=true∧Rel J S w u v∧aV U J S w (.cell id j) u v) ∧
   ∃ cap,J[gid]?=some cap∧cap≤maxLen∧0<z∧cur.size=cap*z
 | .iter m since seen kc=>∃ b eb,J[id]?=some b∧U b=some (.obj id)∧J[m]?=some eb∧w.heap[b]?=some (.mapIter (some eb) since seen.toArray kc)∧(∀ o,¬ S b o)
structure aK (B:Nat) (U:Nat→Option aH) (J:List Nat) (S:Nat→Nat→Prop) (w:World) (H:List ar):Prop where
 cD:J.length=H.length
 obj:∀ (id:Nat) (o:ar),H[id]?=some o→gu U J S w id o
 cc:∀ b o,S b o→∃ v,w.cell? ⟨b,o,none⟩=some v
 base:∀ b l,U b=some l→B≤b∧b<w.heap.size
 cV:B≤w.heap.size
structure a8 (bA:Nat→aH) (U:Nat→Option aH) (J:List Nat) (S:Nat→Nat→Prop) (w:World) (T:List I) (bg:List Value):Prop where
 len:T.length=bg.length
 rel:∀ (i:Nat) (u:I) (v:Value),T[i]?=some u→bg[i]?=some v→Rel J S w u v
 own:∀ (i:Nat) (u:I) (v:Value),T[i]?=some u→bg[i]?=some v→aV U J S w (bA i) u v
theorem A4 {J bU:List Nat} {S S':Nat→Nat→Prop} {w w':World} {u:I} {v:Value} (h:gP u=true) (aj:Rel J S w u v):Rel bU S' w' u v:=by
 cases aj <;> simp [gP] at h <;> constructor
theorem Ft {u:I} (h:gP u=true):u.plain=true:=by
 cases u <;> simp [gP] at h <;> rfl
theorem EN {U:Nat→Option aH} {J:List Nat} {S:Nat→Nat→Prop} {w:World} {l:aH} {c:List I} {n z:Nat} {v:Value} (aj:Rel J S w (.raw c n z) v) (aq:aV U J S w l (.raw c n z) v) :
  Rel J S w (.ax c n (.uniq z)) v∧aV U J S w l (.ax c n (.uniq z)) v:=by
 cases aj with
 | raw _ _ _ b o cap =>
   obtain ⟨ad,aU,a5,bL,bS,cI,ai,⟨cur,e,cK,cM,di⟩,fo⟩:=aq;rw [sv] at ai;exact ⟨.cJ _ _ _ _ _ _,.inr ⟨ad,aU,a5,bL,bS,cI,⟨cur,e,cK,cM,fun j u v hu ae=>⟨Ft (ai u (sH hu)),di j u v hu ae⟩⟩,fo⟩⟩
theorem Gl {U:Nat→Option aH} {J:List Nat} {S:Nat→Nat→Prop} {w:World} {l:aH} {c:List I} {n z:Nat} {v:Value} (aN:n≠0) (ai:c.all gP=true) (aj:Rel J S w (.ax c n (.uniq z)) v) (aq:aV U J S w l (.ax c n (.uniq z)) v) :
  Rel J S w (.raw c n z) v∧aV U J S w l (.raw c n z) v:=by
 cases aj with
 | b1 _ a=>exact absurd rfl aN
 | ax _ _ _ b o cap f al hle hu h aj=>exact absurd rfl (hu z)
 | cJ _ _ _ b o cap =>
   rcases aq with ⟨h,_,_⟩ | ⟨ad,aU,a5,bL,bS,cI,⟨cur,e,cK,cM,di⟩,fo⟩
   ·exact absurd h aN
   ·exact ⟨.raw _ _ _ _ _ _,ad,aU,a5,bL,bS,cI,ai,⟨cur,e,cK,cM,fun j u v hu ae=>(di j u v hu ae).2⟩,fo⟩
theorem mJ {w:World} {b o:Nat} {v:Value} (h:w.cell? ⟨b,o,none⟩=some v):b<w.heap.size:=World.block_lt_of_cell? w ⟨b,o,none⟩ h
end Go.Proofs.YtfakoboiahbhaaaGreat.Ab


namespace Go.Proofs.YtfakoboiahbhaaaGreat.Ab
open Go
structure ez (U:Nat→Option aH) (S:Nat→Nat→Prop) (az:Nat→Option aH) (S':Nat→Nat→Prop):Prop where
 set:∀ b o,S b o→S' b o
 fresh:∀ b o,S' b o→S b o∨∃ i,U b=some (.slot i)
 cC:∀ b l,U b=some l→(∀ i,l≠.slot i)→az b=some l
 none:∀ b,U b=none→az b=none
 slot:∀ b i,az b=some (.slot i)→U b=some (.slot i)
theorem ez.refl (U:Nat→Option aH) (S:Nat→Nat→Prop):ez U S U S :=
 ⟨fun _ _ h=>h,fun _ _ h=>.inl h,fun _ _ h _=>h,fun _ h=>h,fun _ _ h=>h⟩
theorem ez.trans {U b4 bq:Nat→Option aH} {S a7 bK:Nat→Nat→Prop} (h:ez U S b4 a7) (k:ez b4 a7 bq bK):ez U S bq bK where
 set b o ai:=k.set b o (h.set b o ai)
 fresh b o ai:=by
  rcases k.fresh b o ai with ad | ⟨i,ad⟩
  ·exact h.fresh b o ad
  ·exact .inr ⟨i,h.slot b i ad⟩
 cC b l ao aN:=k.cC b l (h.cC b l ao aN) aN
 none b ag:=k.none b (h.none b ag)
 slot b i ag:=h.slot b i (k.slot b i ag)
theorem ez.aA {U az:Nat→Option aH} {S S':Nat→Nat→Prop} (h:ez U S az S') (w:World):bh U S w az S' w where
 os:=rfl
 tape:=rfl
 output:=rfl
 size:=sd _
 cC _ _ _:=rfl
 set b o ai:=⟨h.set b o ai,rfl⟩
 fresh b o ai:=by
  rcases h.fresh b o ai with ad | ⟨i,ad⟩
  ·exact .inl ad
  ·exact .inr (.inl (by simp [ad]))
 own b ag:=by
  refine .inl fun aU=>ag (h.none b aU)
theorem aV.gs {U az:Nat→Option aH} {S S':Nat→Nat→Prop} (g:ez U S az S') {J:List Nat} {w:World} {l:aH} (ao:∀ i,l≠.slot i) {u:I} {v:Value}
  (h:aV U J S w l u v):aV az J S' w l u v:=by
 refine h.mono (Ext.refl J) (fun b o ai=>⟨g.set b o ai,rfl⟩) fun b ag=>⟨g.cC b l ag ao,rfl,fun o ai=>?_⟩;rcases g.fresh b o ai with ad | ⟨i,ad⟩
 ·exact ad
 ·rw [ag] at ad;cases ad;exact absurd rfl (ao i)
theorem Rel.gs {U az:Nat→Option aH} {S S':Nat→Nat→Prop} (g:ez U S az S') {J:List Nat} {w:World} {u:I} {v:Value} (h:Rel J S w u v):Rel J S' w u v :=
 h.mono (Ext.refl J) fun b o ai=>⟨g.set b o ai,rfl⟩
theorem gu.gs {U az:Nat→Option aH} {S S':Nat→Nat→Prop} (g:ez U S az S') {J:List Nat} {w:World} {id:Nat} {o:ar} (h:gu U J S w id o):gu az J S' w id o:=by
 have cl:∀ b bz,U b=some (.obj bz)→∀ o,S' b o→S b o:=fun b bz ag o ai=>by
  rcases g.fresh b o ai with ad | ⟨i,ad⟩
  ·exact ad
  ·rw [ag] at ad;cases ad
 cases o with
 | dead=>trivial
 | cells l =>
   obtain ⟨b,cur,e,ad,af,aG,a5,bL,bS⟩:=h
   exact ⟨b,cur,e,ad,g.cC b _ af (by simp),aG,a5,fun o ai=>bL o (cl b id af o ai),fun j u v hu ae =>
    let ⟨aC,js,aI,aR⟩:=bS j u v hu ae;⟨aC,js,aI.gs g,aR.gs g (by simp)⟩⟩
 | grow l gid z =>
   obtain ⟨b,cur,e,ad,af,aG,a5,bL,bS,cI⟩:=h
   exact ⟨b,cur,e,ad,g.cC b _ af (by simp),aG,a5,fun o ai=>bL o (cl b id af o ai),fun j u v hu ae =>
    let ⟨aC,js,aI,aR⟩:=bS j u v hu ae;⟨aC,js,aI.gs g,aR.gs g (by simp)⟩,cI⟩
 | loop st cE fn T params assign body jv =>
   obtain ⟨ak,aY,b,L,ad,af,aG,a5,bL,bS,cI,cK,cM⟩:=h;exact ⟨ak,aY,b,L,ad,g.cC b _ af (by simp),aG,a5,bL,bS,cI,fun i u v hu ae=>⟨(cK i u v hu ae).1,(cK i u v hu ae).2.gs g⟩,cM⟩
 | map es clock =>
   obtain ⟨b,bx,ad,af,aG,a5,bL,bS⟩:=h
   exact ⟨b,bx,ad,g.cC b _ af (by simp),aG,a5,fun o ai=>bL o (cl b id af o ai),fun j i k v x hu ae =>
    let ⟨aC,aI,aR,bk,bc⟩:=bS j i k v x hu ae;⟨aC,aI,aR.gs g,bk,bc.gs g⟩⟩
 | iter m s e t =>
   obtain ⟨b,eb,ad,af,aG,a5,bL⟩:=h;exact ⟨b,eb,ad,g.cC b _ af (by simp),aG,a5,fun o ai=>bL o (cl b id af o ai)⟩
theorem aK.gs {B:Nat} {U az:Nat→Option aH} {S S':Nat→Nat→Prop} (g:ez U S az S') {J:List Nat} {w:World} {H:List ar} (h:aK B U J S w H)
  (hw:∀ b o,S' b o→∃ v,w.cell? ⟨b,o,none⟩=some v):aK B az J S' w H where
 cD:=h.cD
 obj id o aq:=(h.obj id o aq).gs g
 cc:=hw
 base b l ao:=by
  cases ag:U b with
  | none=>rw [g.none b ag] at ao;cases ao
  | some l'=>exact h.base b l' ag
 cV:=h.cV
theorem lI (J:List Nat) (S:Nat→Nat→Prop) (w:World) (v:Value):Rel J S w (hx v) v:=by
 unfold hx;split
 ·exact .bool _
 ·exact .int _ _
 ·exact .eG
 ·exact .str _
 ·exact .b1 _ _
 ·exact .junk _
theorem nh (v:Value):(hx v).plain=true:=by
 unfold hx;split <;> rfl
theorem I.dg (u:I):u.view.plain=true:=by
 cases u with
 | ax c n k=>cases k <;> rfl
 | _=>rfl
theorem I.fu {u:I} (h:u.plain=true):u.cQ=true:=by
 unfold I.plain at h;unfold I.cQ;split at h <;> simp_all
theorem I.kj {u:I} (h:u.plain=true):u.view=u:=by
 unfold I.view;split <;> simp_all [I.plain]
theorem Rel.view {J:List Nat} {S:Nat→Nat→Prop} {w:World} {u:I} {v:Value} (h:Rel J S w u v) (aN:u.cQ=true):Rel J S w u.view v:=by
 cases h with
 | b1 c a=>cases c <;> simp [I.view] <;> exact .b1 _ _
 | ax cells len c b o cap f al hle hu h aj =>
   cases c with
   | shared=>exact .ax cells len .shared b o cap f al hle hu h aj
   | full=>exact .ax cells len .full b o cap f al hle hu h aj
   | own z=>exact .ax cells len .shared b o cap f (by simp) hle (by simp) h aj
   | uniq z=>exact absurd rfl (hu z)
 | cJ=>simp [I.cQ] at aN
 | raw=>exact .junk _
 | cY=>exact .junk _
 | ck id gid len z b cap h aO hle=>exact .ref id 0 len none z b cap h (by simp) hle
 | junk v=>exact .junk v
 | bool b=>exact .bool b
 | dt b=>exact .dt b
 | int k n=>exact .int k n
 | str s=>exact .str s
 | eG=>exact .eG
 | ptr id off b h=>exact .ptr id off b h
 | bT cells b o f h aj=>exact .bT cells b o f h aj
 | ref id off len c sz b cap h al hle=>exact .ref id off len c sz b cap h al hle
 | func f as bs vs ws ad af bR bY r1 r2=>exact .func f as bs vs ws ad af bR bY r1 r2
 | yield id b h=>exact .yield id b h
 | map id b h=>exact .map id b h
 | agg as vs h p one r=>exact .agg as vs h p one r
 | tuple as vs h p r=>exact .tuple as vs h p r
section
variable {B:Nat} {J:List Nat} {w:World} {H:List ar}
theorem a8.gs {bA:Nat→aH} (ao:∀ i k,bA i≠.slot k) {U az:Nat→Option aH} {S S':Nat→Nat→Prop} (g:ez U S az S') {T:List I} {bg:List Value} (h:a8 bA U J S w T bg) :
  a8 bA az J S' w T bg :=
 ⟨h.len,fun i u v hu ae=>(h.rel i u v hu ae).gs g,fun i u v hu ae=>(h.own i u v hu ae).gs g (ao i)⟩
theorem Gf {U:Nat→Option aH} {S:Nat→Nat→Prop} {T:List I} {bg:List Value} (l:aH) (ao:∀ i,l≠.slot i)
  (bW:a8 .slot U J S w T bg) (ah:aK B U J S w H) (t:Nat) :
  ∃ az,ez U S az S∧a8 .slot az J S w (T.set t .junk) bg∧aK B az J S w H ∧
    Rel J S w (T.getD t .junk) (bg.getD t undef)∧aV az J S w l (T.getD t .junk) (bg.getD t undef):=by
 classical
 refine ⟨fun b=>if U b=some (.slot t) then some l else U b,?_,?_,?_,?_,?_⟩
 ·refine ⟨fun _ _ h=>h,fun _ _ h=>.inl h,fun b l' h aN=>?_,fun b h=>?_,fun b i h=>?_⟩
  ·have:U b≠some (.slot t):=by rw [h];intro e;cases e;exact aN t rfl
   simp only [this,if_false];exact h
  ·simp [h]
  ·split at h
   ·cases h;exact absurd rfl (ao i)
   ·exact h
 ·refine ⟨by simpa using bW.len,fun i u v hu ae=>?_,fun i u v hu ae=>?_⟩
  ·rw [u_] at hu;split at hu
   ·split at hu
    ·cases hu;exact .junk _
    ·cases hu
   ·exact bW.rel i u v hu ae
  ·rw [u_] at hu;split at hu
   ·split at hu
    ·cases hu;exact aV.b3 rfl
    ·cases hu
   ·rename_i bN;refine (bW.own i u v hu ae).mono (Ext.refl J) (fun b o ai=>⟨ai,rfl⟩) fun b ag=>⟨?_,rfl,fun o ai=>ai⟩
    have:U b≠some (.slot t):=by rw [ag];intro e;cases e;exact bN rfl
    simp only [this,if_false];exact ag
 ·refine ah.gs ⟨fun _ _ h=>h,fun _ _ h=>.inl h,fun b l' h aN=>?_,fun b h=>?_,fun b i h=>?_⟩ ah.cc
  ·have:U b≠some (.slot t):=by rw [h];intro e;cases e;exact aN t rfl
   simp only [this,if_false];exact h
  ·simp [h]
  ·split at h
   ·cases h;exact absurd rfl (ao i)
   ·exact h
 ·cases hu:T[t]? with
  | none=>rw [sE,hu];exact .junk _
  | some u =>
    have aS:=(sb.1 hu).1;have ae:bg[t]?=some (bg[t]'(bW.len ▸ aS)):=sm _;rw [sE,hu,sE,ae];exact bW.rel t _ _ hu ae
 ·cases hu:T[t]? with
  | none=>rw [sE,hu];exact aV.b3 rfl
  | some u =>
    have aS:=(sb.1 hu).1;have ae:bg[t]?=some (bg[t]'(bW.len ▸ aS)):=sm _;rw [sE,hu,sE,ae];refine (bW.own t _ _ hu ae).mono (Ext.refl J) (fun b o ai=>⟨ai,rfl⟩) fun b ag=>⟨?_,rfl,fun o ai=>ai⟩;simp [ag]
theorem ka {U:Nat→Option aH} {S:Nat→Nat→Prop} {l:aH} {cells:List I} {len z:Nat} {v:Value} (ah:aK B U J S w H)
  (aj:Rel J S w (.ax cells len (.uniq z)) v) (aq:aV U J S w l (.ax cells len (.uniq z)) v) :
  ∃ S':Nat→Nat→Prop,(∀ b o,S b o→S' b o)∧(∀ b o,S' b o→S b o∨U b=some l)∧(∀ b o,S' b o→∃ v,w.cell? ⟨b,o,none⟩=some v) ∧
    Rel J S' w (.ax cells len .shared) v∧Rel J S' w (.ax cells len (.own z)) v∧aV U J S' w l (.ax cells len (.own z)) v:=by
 cases aj with
 | b1 c a=>exact ⟨S,fun _ _ h=>h,fun _ _ h=>.inl h,ah.cc,.b1 _ _,.b1 _ _,by cases a <;> first | trivial | exact .inl ⟨rfl,rfl,rfl⟩⟩
 | ax cells len c b o cap f al hle b_ h nJ=>exact absurd rfl (b_ z)
 | cJ cells len z b o cap =>
   rcases aq with ⟨rfl,rfl,rfl⟩ | ⟨ad,aU,af,aG,a5,bL,⟨cur,e,bS,cI,cK⟩,cM⟩
   ·refine ⟨S,fun _ _ h=>h,fun _ _ h=>.inl h,ah.cc,?_,?_,.inl ⟨rfl,rfl,rfl⟩⟩
    ·exact .ax [] 0 .shared b o 0 (fun _=>undef) (by simp) (sd _) (by simp) (by simp) (by simp)
    ·exact .ax [] 0 (.own z) b o 0 (fun _=>undef) (by simp) (sd _) (by simp) (by simp) (by simp)
   ·simp only at aU;subst aU;(have jF:cells.length≤cur.size:=by rw [cI,bL];exact tt _ af);have bw:∀ j,w.cell? ⟨b,j,none⟩=cur[j]?:=fun j=>by
     unfold World.cell?;simp only at bS;rw [bS];simp
    have aO:∀ au o,S au o→(S au o∨(au=b∧o<cells.length)):=fun _ _ h=>.inl h;have nH:∀ {u:I} {v:Value},Rel J S w u v→Rel J (fun au o=>S au o∨(au=b∧o<cells.length)) w u v:=fun h=>h.mono (Ext.refl J) fun b o ai=>⟨aO b o ai,rfl⟩;have yw:∀ (j:Nat) (u:I),cells[j]?=some u→(S b (0+j)∨(b=b∧0+j<cells.length))∧w.cell? ⟨b,0+j,none⟩=some (cur.getD j undef)∧u.plain=true∧(cur.getD j undef).oneCell'=true:=by
     intro j u aw;have jJ:=(sb.1 aw).1;have c4:cur[j]?=some (cur[j]'(by omega)):=sA _;refine ⟨.inr ⟨rfl,by omega⟩,?_,(cK j u _ aw c4).1,?_⟩
     ·rw [sS,bw,c4];simp [Array.getD,show j<cur.size by omega]
     ·have:=(cK j u _ aw c4).2.1;simpa [Array.getD,show j<cur.size by omega] using this
    have Ao:∀ (j:Nat) (u:I),cells[j]?=some u→Rel J (fun au o=>S au o∨(au=b∧o<cells.length)) w u (cur.getD j undef):=by
     intro j u aw;have jJ:=(sb.1 aw).1;have c4:cur[j]?=some (cur[j]'(by omega)):=sA _;have:=nH (cK j u _ aw c4).2.2;simpa [Array.getD,show j<cur.size by omega] using this
    refine ⟨fun au o=>S au o∨(au=b∧o<cells.length),aO,?_,?_,?_,?_,?_⟩
    ·rintro au o (h | ⟨rfl,h⟩)
     ·exact .inl h
     ·exact .inr ad
    ·rintro au o (h | ⟨rfl,h⟩)
     ·exact ah.cc au o h
     ·exact ⟨cur[o]'(by omega),by rw [bw];exact sA _⟩
    ·exact .ax cells len .shared b 0 cap (fun j=>cur.getD j undef) (by simp) af (by simp) yw Ao
    ·exact .ax cells len (.own z) b 0 cap (fun j=>cur.getD j undef) (by simp) af (by simp) yw Ao
    ·refine .inr ⟨ad,trivial,rfl,af,aG,a5,bL,⟨cur,e,bS,by simpa using cI⟩,fun o aq ai=>?_⟩;simp only [sS] at aq;rcases ai with ai | ⟨_,ai⟩
     ·exact cM o ai
     ·omega
theorem Fy {U:Nat→Option aH} {S:Nat→Nat→Prop} {T:List I} {bg:List Value}
  (bW:a8 .slot U J S w T bg) (ah:aK B U J S w H) (t:Nat) (cells:List I) (len z:Nat) (hu:T[t]?=some (.ax cells len (.uniq z))) :
  ∃ S',ez U S U S'∧a8 .slot U J S' w (T.set t (.ax cells len (.own z))) bg∧aK B U J S' w H ∧
    Rel J S' w (.ax cells len .shared) (bg.getD t undef):=by
 have aS:=(sb.1 hu).1;have ae:bg[t]?=some (bg[t]'(bW.len ▸ aS)):=sm _;have aj:=bW.rel t _ _ hu ae;have aq:=bW.own t _ _ hu ae;rw [sE,ae];simp only [uL];generalize bg[t]'(bW.len ▸ aS)=v at ae aj aq;obtain ⟨S',aJ,aQ,hw,r1,r2,eI⟩:=ka ah aj aq;have aO:ez U S U S':=⟨aJ,fun b o h=>(aQ b o h).imp id fun h=>⟨t,h⟩,fun _ _ h _=>h,fun _ h=>h,fun _ _ h=>h⟩;have DD:∀ b i,i≠t→U b=some (.slot i)→∀ o,S' b o→S b o:=fun b i hi ag o ai=>by
  rcases aQ b o ai with h | h
  ·exact h
  ·rw [ag] at h;cases h;exact absurd rfl hi
 refine ⟨S',aO,⟨by simpa using bW.len,fun i bF bm b_ bd=>?_,fun i bF bm b_ bd=>?_⟩,ah.gs aO hw,r1⟩
 ·rw [u_] at b_;split at b_
  ·rename_i heq;subst heq;cases b_;rw [ae] at bd;cases bd;exact r2
  ·exact (bW.rel i _ _ b_ bd).gs aO
 ·rw [u_] at b_;split at b_
  ·rename_i heq;subst heq;cases b_;rw [ae] at bd;cases bd;exact eI
  ·rename_i bN;exact (bW.own i _ _ b_ bd).mono (Ext.refl J) (fun b o ai=>⟨aO.set b o ai,rfl⟩) fun b ag=>⟨ag,rfl,fun o ai=>DD b i (fun e=>bN e.symm) ag o ai⟩
theorem a8.cons {bA:Nat→aH} {U:Nat→Option aH} {S:Nat→Nat→Prop} {u:I} {v:Value} {T:List I} {bg:List Value} (ad:Rel J S w u v) (af:aV U J S w (bA 0) u v)
  (h:a8 (fun i=>bA (i+1)) U J S w T bg):a8 bA U J S w (u::T) (v::bg):=by
 refine ⟨by simp [h.len],fun i bF bm hu ae=>?_,fun i bF bm hu ae=>?_⟩
 ·cases i with
  | zero=>simp at hu ae;subst hu ae;exact ad
  | succ i=>exact h.rel i bF bm (by simpa using hu) (by simpa using ae)
 ·cases i with
  | zero=>simp at hu ae;subst hu ae;exact af
  | succ i=>exact h.own i bF bm (by simpa using hu) (by simpa using ae)
theorem a8.nil {bA:Nat→aH} {U:Nat→Option aH} {S:Nat→Nat→Prop}:a8 bA U J S w [] []:=⟨rfl,by simp,by simp⟩
theorem EP (a:Act):∀ (ops:List Operand) (ts:List Bool) (T:List I) (k:Nat) (U:Nat→Option aH) (S:Nat→Nat→Prop),
  a8 .slot U J S w T a.tmps.toList→aK B U J S w H →
  ∃ az S',ez U S az S'∧a8 .slot az J S' w (rd T ts ops).2 a.tmps.toList∧aK B az J S' w H∧a8 (fun i=>.arg (k+i)) az J S' w (rd T ts ops).1 (ops.map a.eval):=by
 intro ops
 induction ops with
 | nil=>intro ts T k U S bW ah;exact ⟨U,S,ez.refl _ _,by simpa [rd] using bW,ah,by simpa [rd] using a8.nil⟩
 | cons x rest a9 =>
   intro ts T k U S bW ah;have ns:∀ u:I,Rel J S w u (a.eval x)→u.plain=true→(rd T ts (x::rest))=(u::(rd T ts.tail rest).1,(rd T ts.tail rest).2) →
     ∃ az S',ez U S az S'∧a8 .slot az J S' w (rd T ts (x::rest)).2 a.tmps.toList∧aK B az J S' w H ∧
       a8 (fun i=>.arg (k+i)) az J S' w (rd T ts (x::rest)).1 ((x::rest).map a.eval):=by
    intro u hu aB he;obtain ⟨az,S',g,l3,b9,ae⟩:=a9 ts.tail T (k+1) U S bW ah;rw [he];refine ⟨az,S',g,l3,b9,?_⟩;refine a8.cons (hu.gs g) (aV.b3 aB) ?_;simpa [tD,tf 1] using ae
   cases x with
   | const v =>
     exact ns (hx v) (lI J S w v) (nh v) rfl
   | func f=>exact ns (.func f [] []) (.func f [] [] #[] #[] rfl rfl (by simp) (by simp) (by simp) (by simp)) rfl rfl
   | global g=>exact ns .junk (.junk _) rfl rfl
   | tmp t =>
     (have jH:a.eval (.tmp t)=a.tmps.toList.getD t undef:=by simp [Act.eval,sB]);cases ay:ts.headD false with
     | true =>
       obtain ⟨b4,ca,ky,bV,dw,jR⟩:=Gf (.arg k) (by simp) bW ah t;obtain ⟨az,S',g,l3,b9,ae⟩:=a9 ts.tail (T.set t .junk) (k+1) b4 S ky bV;have he:rd T ts (.tmp t::rest)=(T.getD t .junk::(rd (T.set t .junk) ts.tail rest).1,(rd (T.set t .junk) ts.tail rest).2):=by
        simp only [rd,ay,gR,f']
       rw [he];refine ⟨az,S',ca.trans g,l3,b9,?_⟩;refine a8.cons ?_ ?_ ?_
       ·rw [jH];exact dw.gs g
       ·rw [jH];exact jR.gs g (by simp)
       ·simpa [tD,tf 1] using ae
     | false =>
       have he:rd T ts (.tmp t::rest)=((T.getD t .junk).view::(rd (fR T t (T.getD t .junk)) ts.tail rest).1,(rd (fR T t (T.getD t .junk)) ts.tail rest).2):=by
        simp only [rd,ay,f']
       by_cases aZ:∃ cells len z,T[t]?=some (.ax cells len (.uniq z))
       ·obtain ⟨cells,len,z,aZ⟩:=aZ;obtain ⟨a7,ca,ky,bV,dw⟩:=Fy bW ah t cells len z aZ;obtain ⟨az,S',g,l3,b9,ae⟩:=a9 ts.tail (T.set t (.ax cells len (.own z))) (k+1) U a7 ky bV;(have aO:T.getD t .junk=.ax cells len (.uniq z):=by rw [sE,aZ];rfl);rw [he,aO];simp only [fR,gR,I.view];refine ⟨az,S',ca.trans g,l3,b9,?_⟩;refine a8.cons ?_ (aV.b3 rfl) ?_
        ·rw [jH];exact dw.gs g
        ·simpa [tD,tf 1] using ae
       ·have pN:(T.getD t .junk).cQ=true:=by
         rw [sE];cases hu:T[t]? with
         | none=>rfl
         | some u =>
           simp only [uL];unfold I.cQ;split
           ·exact absurd ⟨_,_,_,hu⟩ aZ
           ·rfl
        have eD:fR T t (T.getD t .junk)=T:=by
         unfold fR;split
         ·rename_i h;rw [h] at pN;simp [I.cQ] at pN
         ·rfl
        have aj:Rel J S w (T.getD t .junk) (a.eval (.tmp t)):=by
         rw [jH];cases hu:T[t]? with
         | none=>rw [sE,hu];exact .junk _
         | some u =>
           have aS:=(sb.1 hu).1;have ae:a.tmps.toList[t]?=some (a.tmps.toList[t]'(bW.len ▸ aS)):=sm _;rw [sE,hu,sE,ae];exact bW.rel t _ _ hu ae
        refine ns (T.getD t .junk).view (aj.view pN) (I.dg _) ?_;rw [he,eD]
end
end Go.Proofs.YtfakoboiahbhaaaGreat.Ab


namespace Go.Proofs.YtfakoboiahbhaaaGreat.Ab
open Go
section
variable {P:Program} {B:Nat} {J:List Nat} {w:World} {H:List ar} {U:Nat→Option aH} {S:Nat→Nat→Prop}
def a0 (B:Nat) (U:Nat→Option aH) (J:List Nat) (S:Nat→Nat→Prop) (w:World) (H':List ar) (r:I) (v:Value) (w':World):Prop :=
 ∃ az bU S',Ext J bU∧bh U S w az S' w'∧aK B az bU S' w' H'∧Rel bU S' w' r v∧aV az bU S' w' .res r v
theorem a0.same (ah:aK B U J S w H) {r:I} {v:Value} (aj:Rel J S w r v) (aB:r.plain=true):a0 B U J S w H r v w :=
 ⟨U,J,S,Ext.refl J,bh.refl _ _ _,ah,aj,aV.b3 aB⟩
theorem aK.settle (ah:aK B U J S w H) {S':Nat→Nat→Prop} (ad:∀ b o,S b o→S' b o)
  (af:∀ b o,S' b o→S b o∨∃ l,U b=some l∧(∀ id,l≠.obj id)∧∀ id j,l≠.cell id j) (aG:∀ b o,S' b o→∃ v,w.cell? ⟨b,o,none⟩=some v):aK B U J S' w H:=by
 have hm:∀ {u:I} {v:Value},Rel J S w u v→Rel J S' w u v:=fun h=>h.mono (Ext.refl J) fun b o ai=>⟨ad b o ai,rfl⟩;refine ⟨ah.cD,fun id o aq=>?_,aG,ah.base,ah.cV⟩;have h:=ah.obj id o aq;cases o with
 | dead=>trivial
 | cells l =>
   obtain ⟨b,cur,e,aC,aI,aR,bk,bc,bf⟩:=h;refine ⟨b,cur,e,aC,aI,aR,bk,fun o ai=>?_,fun j u v hu ae=>?_⟩
   ·rcases af b o ai with h | ⟨l,h,b6,_⟩
    ·exact bc o h
    ·rw [aI] at h;cases h;exact b6 id rfl
   ·obtain ⟨a_,gV,ba,br⟩:=bf j u v hu ae;refine ⟨a_,gV,hm ba,br.mono (Ext.refl J) (fun b o ai=>⟨ad b o ai,rfl⟩) fun b ag=>⟨ag,rfl,fun o ai=>?_⟩⟩;rcases af b o ai with h | ⟨l,h,_,cg⟩
    ·exact h
    ·rw [ag] at h;cases h;exact absurd rfl (cg id j)
 | grow l gid z =>
   obtain ⟨b,cur,e,aC,aI,aR,bk,bc,bf,c9⟩:=h;refine ⟨b,cur,e,aC,aI,aR,bk,fun o ai=>?_,fun j u v hu ae=>?_,c9⟩
   ·rcases af b o ai with h | ⟨l,h,b6,_⟩
    ·exact bc o h
    ·rw [aI] at h;cases h;exact b6 id rfl
   ·obtain ⟨a_,gV,ba,br⟩:=bf j u v hu ae;refine ⟨a_,gV,hm ba,br.mono (Ext.refl J) (fun b o ai=>⟨ad b o ai,rfl⟩) fun b ag=>⟨ag,rfl,fun o ai=>?_⟩⟩;rcases af b o ai with h | ⟨l,h,_,cg⟩
    ·exact h
    ·rw [ag] at h;cases h;exact absurd rfl (cg id j)
 | loop st cE fn T params assign body jv =>
   obtain ⟨ak,aY,b,L,aC,aI,aR,bk,bc,bf,c9,dr,dS⟩:=h;exact ⟨ak,aY,b,L,aC,aI,aR,bk,bc,bf,c9,fun i u v hu ae=>⟨(dr i u v hu ae).1,hm (dr i u v hu ae).2⟩,dS⟩
 | map es clock =>
   obtain ⟨b,bx,aC,aI,aR,bk,bc,bf⟩:=h;refine ⟨b,bx,aC,aI,aR,bk,fun o ai=>?_,fun j i k v x hu ae=>?_⟩
   ·rcases af b o ai with h | ⟨l,h,b6,_⟩
    ·exact bc o h
    ·rw [aI] at h;cases h;exact b6 id rfl
   ·obtain ⟨a_,ba,br,b8,dV⟩:=bf j i k v x hu ae;exact ⟨a_,ba,hm br,b8,hm dV⟩
 | iter m s e t =>
   obtain ⟨b,eb,aC,aI,aR,bk,bc⟩:=h;refine ⟨b,eb,aC,aI,aR,bk,fun o ai=>?_⟩;rcases af b o ai with h | ⟨l,h,b6,_⟩
   ·exact bc o h
   ·rw [aI] at h;cases h;exact b6 id rfl
theorem bh.settle {S':Nat→Nat→Prop} (ad:∀ b o,S b o→S' b o) (af:∀ b o,S' b o→S b o∨∃ l,U b=some l):bh U S w U S' w :=
 ⟨rfl,rfl,rfl,sd _,fun _ _ _=>rfl,fun b o h=>⟨ad b o h,rfl⟩,fun b o h=>(af b o h).imp id fun ⟨l,ao⟩=>.inl (by simp [ao]),fun _ h=>.inl h⟩
theorem a8.gS {bA:Nat→aH} {u:I} {T:List I} {bg:List Value} (h:a8 bA U J S w (u::T) bg) :
  ∃ v hO,bg=v::hO∧Rel J S w u v∧aV U J S w (bA 0) u v∧a8 (fun i=>bA (i+1)) U J S w T hO:=by
 cases bg with
 | nil=>exact absurd h.len (by simp)
 | cons v hO =>
   exact ⟨v,hO,rfl,h.rel 0 u v rfl rfl,h.own 0 u v rfl rfl,by simpa using h.len,fun i bF bm hu ae=>h.rel (i+1) bF bm (by simpa using hu) (by simpa using ae),
    fun i bF bm hu ae=>h.own (i+1) bF bm (by simpa using hu) (by simpa using ae)⟩
theorem Fx:∀ (T:List I) (bg:List Value) (bA:Nat→aH) (S:Nat→Nat→Prop),(∀ i j,bA i=bA j→i=j)→(∀ i id,bA i≠.obj id)→(∀ i id j,bA i≠.cell id j) →
  a8 bA U J S w T bg→aK B U J S w H →
  ∃ S':Nat→Nat→Prop,(∀ b o,S b o→S' b o)∧(∀ b o,S' b o→S b o∨∃ i,U b=some (bA i))∧aK B U J S' w H∧a8 bA U J S' w (T.map I.view) bg:=by
 intro T
 induction T with
 | nil=>intro bg bA S _ _ _ ae ah;exact ⟨S,fun _ _ h=>h,fun _ _ h=>.inl h,ah,by simpa using ae⟩
 | cons u T a9 =>
   intro bg bA S aw b6 cg ae ah;obtain ⟨v,hO,rfl,aj,aq,ay⟩:=ae.gS;have first:∃ a7:Nat→Nat→Prop,(∀ b o,S b o→a7 b o)∧(∀ b o,a7 b o→S b o∨U b=some (bA 0))∧aK B U J a7 w H∧Rel J a7 w u.view v:=by
    by_cases hu:u.cQ=true
    ·exact ⟨S,fun _ _ h=>h,fun _ _ h=>.inl h,ah,aj.view hu⟩
    ·obtain ⟨cells,len,z,rfl⟩:∃ cells len z,u=.ax cells len (.uniq z):=by
      unfold I.cQ at hu;split at hu
      ·exact ⟨_,_,_,rfl⟩
      ·simp at hu
     obtain ⟨a7,aJ,aQ,cn,r1,_,_⟩:=ka ah aj aq;exact ⟨a7,aJ,aQ,ah.settle aJ (fun b o h=>(aQ b o h).imp id fun h=>⟨_,h,b6 0,cg 0⟩) cn,r1⟩
   (obtain ⟨a7,aJ,aQ,bV,dw⟩:=first);have pV:a8 (fun i=>bA (i+1)) U J a7 w T hO:=by
    refine ⟨ay.len,fun i bF bm hu ae=>(ay.rel i bF bm hu ae).mono (Ext.refl J) fun b o ai=>⟨aJ b o ai,rfl⟩,fun i bF bm hu ae=>?_⟩;refine (ay.own i bF bm hu ae).mono (Ext.refl J) (fun b o ai=>⟨aJ b o ai,rfl⟩) fun b ag=>⟨ag,rfl,fun o ai=>?_⟩;rcases aQ b o ai with h | h
    ·exact h
    ·rw [ag] at h;injection h with h;exact absurd (aw _ _ h) (by omega)
   obtain ⟨S',dy,dm,b9,bd⟩:=a9 hO (fun i=>bA (i+1)) a7 (fun i j h=>by have:=aw _ _ h;omega) (fun i=>b6 (i+1)) (fun i=>cg (i+1)) pV bV;refine ⟨S',fun b o h=>dy b o (aJ b o h),fun b o h=>?_,b9,?_⟩
   ·rcases dm b o h with h | ⟨i,h⟩
    ·exact (aQ b o h).imp id fun h=>⟨0,h⟩
    ·exact .inr ⟨i+1,h⟩
   ·exact a8.cons (dw.mono (Ext.refl J) fun b o ai=>⟨dy b o ai,rfl⟩) (aV.b3 (I.dg _)) bd
theorem Rel.dc {k:IntKind} {n:Int} {v:Value} (h:Rel J S w (.int k n) v):v=.int k n:=by cases h;rfl
theorem Rel.hY {b:Bool} {v:Value} (h:Rel J S w (.bool b) v):v=.bool b:=by cases h;rfl
theorem Rel.BV {v:Value} (h:Rel J S w .dt v):∃ b,v=.bool b:=by cases h;exact ⟨_,rfl⟩
def e9 (P:Program) (o:Oper) (aT:Operand→Value) (J:List Nat) (S:Nat→Nat→Prop) (w:World) (r:I):Prop :=
 ∃ v,(Go.execOp aT o).run P w=.ok (.value v) w∧Rel J S w r v
theorem zN {o:Oper} {aT:Operand→Value} {c a b:Operand} (aq:o.op=.pick c a b) {x:Bool} {fx gl:I} (ad:Rel J S w (.bool x) (aT c))
  (af:Rel J S w fx (aT a)) (aG:Rel J S w gl (aT b)):e9 P o aT J S w (match x with | true=>fx | false=>gl):=by
 have e:=ad.hY;cases x with
 | true=>exact ⟨aT a,by simp [Go.execOp,aq,e,asBool],af⟩
 | false=>exact ⟨aT b,by simp [Go.execOp,aq,e,asBool],aG⟩
theorem Ej {o:Oper} {aT:Operand→Value} {x:Operand} (aq:o.op=.nilCheck x) {id off:Nat} (ad:Rel J S w (.ptr id off) (aT x)) :
  e9 P o aT J S w (.ptr id off):=by
 refine ⟨aT x,?_,ad⟩;generalize ak:aT x=cy at ad ⊢;cases ad with
 | ptr id off b h=>simp [Go.execOp,aq,ak]
theorem Ek {o:Oper} {aT:Operand→Value} {x:Operand} (aq:o.op=.nilCheck x) {cells:List I} (ad:Rel J S w (.bT cells) (aT x)) :
  e9 P o aT J S w (.bT cells):=by
 generalize ae:aT x=v at ad;have af:=ad;cases ad with
 | bT _ b cL f h aj=>exact ⟨.pointer (some ⟨b,cL,none⟩),by simp [Go.execOp,aq,ae],af⟩
theorem El {o:Oper} {aT:Operand→Value} {op:UnOp} {t:TypeId} {x:Operand} (aq:o.op=.unOp op t x) {u r:I} (aj:km op u=some r) (ad:Rel J S w u (aT x)) :
  e9 P o aT J S w r:=by
 unfold km at aj;split at aj
 ·have e:=ad.hY;cases op <;> simp at aj;subst aj;exact ⟨_,by simp [Go.execOp,aq,e,Op.unary],.bool _⟩
 ·have e:=ad.dc;cases op <;> simp at aj;subst aj;exact ⟨_,by simp [Go.execOp,aq,e,Op.unary,Op.intArith],.int _ _⟩
 ·simp at aj
theorem Eb {o:Oper} {aT:Operand→Value} {s d:TypeId} {x:Operand} (aq:o.op=.convert s d x) {u r:I} (aj:lG P s d u=some r) (ad:Rel J S w u (aT x)):e9 P o aT J S w r:=by
 unfold lG at aj;split at aj
 ·have e:=ad.dc;split at aj
  ·rename_i ds k CT av;simp at aj;subst aj;refine ⟨_,?_,.int _ _⟩;simp only [Go.execOp,aq,e,convert,Sem.run_bind,run_underlying CT,run_underlying av,Result.andThen_ok];cases ds <;> simp [Conv.intToInt]
  ·simp at aj
 ·simp at aj
theorem Eg {o:Oper} {aT:Operand→Value} {fn:Fn} {first captured:Array Operand} (aq:o.op=.makeFunc fn first captured) {us:List I} {r:I}
  (aj:mS fn first.size captured.size us=some r) {bA:Nat→aH} (ae:a8 bA U J S w us ((first++captured).toList.map aT)) (aB:∀ u∈us,u.plain=true) :
  e9 P o aT J S w r:=by
 unfold mS at aj;split at aj
 ·rename_i f;split at aj
  ·rename_i ao;simp at aj;subst aj;refine ⟨.func (.func f) (first.map aT) (captured.map aT),by simp [Go.execOp,aq,Instr.makeFunc],.func f _ _ _ _ ?_ ?_ ?_ ?_ ?_ ?_⟩
   ·simp;omega
   ·simp;omega
   ·exact fun u hu=>aB u (uw hu)
   ·exact fun u hu=>aB u (vp hu)
   ·intro j u v hu bd;refine ae.rel j u v ?_ ?_
    ·rw [sR] at hu;split at hu <;> simp_all
    ·simp only [uM,sa] at bd;obtain ⟨x,ak,rfl⟩:=bd;have:=(sY.1 ak).1;rw [sA this] at ak;cases ak;simp [sy,this]
   ·intro j u v hu bd;refine ae.rel (first.size+j) u v ?_ ?_
    ·simpa [sZ] using hu
    ·simp only [uM,sa] at bd;obtain ⟨x,ak,rfl⟩:=bd;simp [sJ,ak]
  ·simp at aj
 ·simp at aj
theorem Ed {o:Oper} {aT:Operand→Value} {x:Operand} {i:Nat} (aq:o.op=.extract x i) {u r:I} (aj:nf i u=some r) (ad:Rel J S w u (aT x)) :
  e9 P o aT J S w r.view:=by
 unfold nf at aj;generalize ak:aT x=cy at ad;split at aj
 ·cases ad with
  | tuple as vs h p m0 =>
    have aS:=(sb.1 aj).1;have ae:vs[i]?=some (vs[i]'(by omega)):=sA _;have aB:r.plain=true:=p r (sH aj);refine ⟨vs[i]'(by omega),?_,?_⟩
    ·simp [Go.execOp,aq,ak,Instr.extract,ae]
    ·rw [I.kj aB];exact m0 i _ _ aj ae
 ·simp at aj
theorem Fg {op:BinOp} {t:TypeId} {x y:Operand} {k k':IntKind} {a b:Int}:(eqGuard op t x y (.int k a) (.int k' b)).run P w=.ok () w:=by
 unfold eqGuard;split <;> simp
theorem Ff {op:BinOp} {t:TypeId} {k k':IntKind} {a b:Int} {r:I} (aj:fm P op t (.int k a) (.int k' b)=some r) :
  ∃ v,(Go.binOp op t (.int k a) (.int k' b)).run P w=.ok v w∧Rel J S w r v:=by
 have Fz:∀ mQ,(mQ=.shl∨mQ=.shr)→hv mQ k a b=some r→∃ v,(Op.shift mQ k a k' b).run P w=.ok v w∧Rel J S w r v:=by
  intro mQ aD h;unfold hv at h;split at h
  ·simp at h
  ·rename_i ag;rcases aD with rfl | rfl <;> simp at h <;> subst h
   ·exact ⟨_,by simp [Op.shift,ag],.int _ _⟩
   ·exact ⟨_,by simp [Op.shift,ag],.int _ _⟩
 have B0:k=k'→jt op k a b=some r→∃ v,(Go.binOp op t (.int k a) (.int k' b)).run P w=.ok v w∧Rel J S w r v:=by
  rintro rfl h;cases op <;> simp only [jt,Option.some.injEq,reduceCtorEq] at h
  case quo =>
   split at h
   ·simp at h
   ·rename_i ag;simp at h;subst h;exact ⟨_,by simp [Go.binOp,Op.intDiv,ag],.int _ _⟩
  case rem =>
   split at h
   ·simp at h
   ·rename_i ag;simp at h;subst h;exact ⟨_,by simp [Go.binOp,Op.intDiv,ag],.int _ _⟩
  all_goals subst h
  all_goals first
   | (refine ⟨_,?_,.bool _⟩;simp [Go.binOp,Op.intCmp];done)
   | (refine ⟨_,?_,.int _ _⟩;simp [Go.binOp,Op.intArith];done)
   | (refine ⟨_,?_,.int _ _⟩;simp [Go.binOp,Op.intBits];done)
 unfold fm at aj;cases op <;> simp only at aj <;> first
  | (obtain ⟨v,ad,af⟩:=Fz _ (by simp) aj;exact ⟨v,by simpa [Go.binOp] using ad,af⟩)
  | (split at aj
     ·exact B0 ‹_› aj
     ·simp at aj)
theorem Ea {o:Oper} {aT:Operand→Value} {op:BinOp} {t iq:TypeId} {x y:Operand} (aq:o.op=.binOp op t x y iq) {k k':IntKind} {a b:Int} {r:I}
  (aj:fm P op t (.int k a) (.int k' b)=some r) (ad:Rel J S w (.int k a) (aT x)) (af:Rel J S w (.int k' b) (aT y)):e9 P o aT J S w r:=by
 obtain ⟨v,ae,b0⟩:=Ff (P:=P) (w:=w) (J:=J) (S:=S) (t:=t) aj;refine ⟨v,?_,b0⟩;simp only [Go.execOp,aq,ad.dc,af.dc,Sem.run_bind,Fg,ae,Result.andThen_ok,Sem.run_pure]
theorem m6 {t:TypeId} {s:Nat} (h:bC P t=some s):∃ i,P.info? t=some i∧i.size=s:=by
 simp only [bC,sa] at h;exact h
theorem run_sizeOf {t:TypeId} {s:Nat} (h:bC P t=some s):(sizeOf t).run P w=.ok s w:=by
 obtain ⟨i,hi,rfl⟩:=m6 h;simp [sizeOf,typeInfo,hi]
theorem gO {t:TypeId} {d:TypeDesc} (h:P.underlying t=some d):(isAgg t).run P w=.ok (dG P t) w:=by
 simp only [isAgg,dG,h,Sem.run_bind,run_underlying h,Result.andThen_ok];cases d <;> simp
theorem lP {i:Int} {len j:Nat} (h:gW i len=some j):0≤i∧i<len∧j=i.toNat:=by
 unfold gW at h;split at h
 ·simp at h;exact ⟨by omega,by omega,h.symm⟩
 ·simp at h
theorem add_lit (b o n:Nat):(⟨b,o,none⟩:Addr).add n=⟨b,o+n,none⟩:=by
 unfold Addr.add;split <;> simp_all
theorem Rel.drop {cells:List I} {b o:Nat} {f:Nat→Value} (n:Nat)
  (h:∀ (j:Nat) (u:I),cells[j]?=some u→S b (o+j)∧w.cell? ⟨b,o+j,none⟩=some (f j)∧u.plain=true∧(f j).oneCell'=true)
  (aj:∀ (j:Nat) (u:I),cells[j]?=some u→Rel J S w u (f j)):Rel J S w (.bT (cells.drop n)) (.pointer (some ⟨b,o+n,none⟩)):=by
 refine .bT _ b (o+n) (fun j=>f (n+j)) (fun j u hu=>?_) (fun j u hu=>?_)
 ·rw [sZ] at hu;have:=h (n+j) u hu
  rwa [show o+n+j=o+(n+j) by omega]
 ·rw [sZ] at hu;exact aj (n+j) u hu
theorem Ei {o:Oper} {aT:Operand→Value} {t:TypeId} {x i:Operand} (aq:o.op=.indexAddr t x i) {fx gl r:I} (aj:hW P t fx gl=some r)
  (ad:Rel J S w fx (aT x)) (af:Rel J S w gl (aT i)) (aN:fx.cQ=true):e9 P o aT J S w r:=by
 unfold hW at aj;generalize ak:aT x=cy at ad;split at aj
 ·rename_i a2;simp only [sg,sa] at aj;obtain ⟨s,ai,j,aw,rfl⟩:=aj;obtain ⟨dy,dm,rfl⟩:=lP aw;have e:=af.dc;cases ad with
  | b1 c a=>exact absurd dm (by simp;omega)
  | cJ=>simp [I.cQ] at aN
  | ax cells len c b j1 cap f al hle hu h fr =>
    refine ⟨_,?_,Rel.drop _ h fr⟩;simp [Go.execOp,aq,ak,e,Instr.indexAt,asIntOf,run_underlying a2,dy,dm,run_sizeOf ai,add_lit]
 ·rename_i a2;simp only [sg,sa] at aj;obtain ⟨s,ai,j,aw,rfl⟩:=aj;obtain ⟨dy,dm,rfl⟩:=lP aw;have e:=af.dc;cases ad with
  | ref id off len c sz b cap h al hle =>
    refine ⟨_,?_,.ptr _ _ b h⟩;simp [Go.execOp,aq,ak,e,Instr.indexAt,asIntOf,run_underlying a2,dy,dm,run_sizeOf ai,add_lit]
 ·rename_i a2;simp only [sg,sa] at aj;obtain ⟨s,ai,j,aw,rfl⟩:=aj;obtain ⟨dy,dm,rfl⟩:=lP aw;have e:=af.dc;cases ad with
  | ptr id off b h =>
    refine ⟨_,?_,.ptr _ _ b h⟩;simp [Go.execOp,aq,ak,e,Instr.indexAt,asIntOf,Instr.sureAddr,run_underlying a2,dy,dm,run_sizeOf ai,add_lit]
 ·rename_i a2;simp only [sg,sa] at aj;obtain ⟨s,ai,j,aw,rfl⟩:=aj;obtain ⟨dy,dm,rfl⟩:=lP aw;have e:=af.dc;cases ad with
  | bT cells b j1 f h fr =>
    refine ⟨_,?_,Rel.drop _ h fr⟩;simp [Go.execOp,aq,ak,e,Instr.indexAt,asIntOf,Instr.sureAddr,run_underlying a2,dy,dm,run_sizeOf ai,add_lit]
 ·simp at aj
theorem AY {b o s:Nat} {g:Field} (ai:bC P g.type=some s) (aU:s≠0):(fieldPlace ⟨b,o,none⟩ g).run P w=.ok ⟨b,o+g.offset,none⟩ w:=by
 simp [fieldPlace,run_sizeOf ai,aU,add_lit]
theorem Ef {o:Oper} {aT:Operand→Value} {t:TypeId} {x:Operand} {lY:Nat} (aq:o.op=.fieldAddr t x lY) {u r:I} (aj:ju P t u lY=some r)
  (ad:Rel J S w u (aT x)):e9 P o aT J S w r:=by
 unfold ju at aj;generalize ak:aT x=cy at ad;split at aj
 ·rename_i a2;simp only [sg] at aj;obtain ⟨g,aO,s,ai,aj⟩:=aj;split at aj
  ·simp at aj
  ·rename_i aU;simp at aj;subst aj;cases ad with
   | ptr id off b h =>
     refine ⟨_,?_,.ptr _ _ b h⟩;simp [Go.execOp,aq,ak,Instr.fieldAt,Instr.sureAddr,run_underlying a2,aO,AY ai aU]
 ·rename_i a2;simp only [sg] at aj;obtain ⟨g,aO,s,ai,aj⟩:=aj;split at aj
  ·simp at aj
  ·rename_i aU;simp at aj;subst aj;cases ad with
   | bT cells b j1 f h fr =>
     refine ⟨_,?_,Rel.drop _ h fr⟩;simp [Go.execOp,aq,ak,Instr.fieldAt,Instr.sureAddr,run_underlying a2,aO,AY ai aU]
 ·simp at aj
theorem zq {t:TypeId} (h:dG P t=true):∃ d,P.underlying t=some d:=by
 unfold dG at h;split at h <;> first | exact ⟨_,by assumption⟩ | simp at h
theorem A2 {t:TypeId} {as:List I} {vs:Array Value} {off:Nat} {r:I} (aj:iy P t as off=some r) (ao:vs.size=as.length)
  (aB:∀ u∈as,u.plain=true) (er:∀ v∈vs.toList,v.oneCell'=true) (b0:∀ (j:Nat) (u:I) (v:Value),as[j]?=some u→vs[j]?=some v→Rel J S w u v) :
  ∃ v,(part t vs off).run P w=.ok v w∧Rel J S w r v∧r.plain=true:=by
 unfold iy at aj;cases cd:dG P t with
 | true =>
   obtain ⟨d,a2⟩:=zq cd;rw [cd] at aj;simp only [sg] at aj;obtain ⟨s,ai,aj⟩:=aj;split at aj
   ·rename_i hle;simp at aj;subst aj;refine ⟨.agg (vs.extract off (off+s)),by simp [part,gO a2,cd,run_sizeOf ai],.agg _ _ ?_ ?_ ?_ ?_,rfl⟩
    ·simp;omega
    ·exact fun u hu=>aB u (vp (uw hu))
    ·exact fun v ae=>er v (by rw [Array.toList_extract] at ae;exact vp (uw ae))
    ·intro j u v hu ae;rw [sR] at hu;split at hu
     ·rw [sZ] at hu;rw [Array.getElem?_extract] at ae;split at ae
      ·exact b0 _ u v hu ae
      ·simp at ae
     ·simp at hu
   ·simp at aj
 | false =>
   rw [cd] at aj;simp only at aj;split at aj
   ·rename_i d a2;have aS:=(sb.1 aj).1;have ae:vs[off]?=some (vs[off]'(by omega)):=sA _;exact ⟨_,by simp [part,gO a2,cd,ae],b0 off _ _ aj ae,aB r (sH aj)⟩
   ·simp at aj
theorem Ee {o:Oper} {aT:Operand→Value} {t:TypeId} {x:Operand} {lY:Nat} (aq:o.op=.field t x lY) {u r:I} (aj:ng P t u lY=some r)
  (ad:Rel J S w u (aT x)):e9 P o aT J S w r.view:=by
 unfold ng at aj;generalize ak:aT x=cy at ad;split at aj
 ·rename_i a2;simp only [sg] at aj;obtain ⟨g,aO,aj⟩:=aj;cases ad with
  | agg as vs h p one m0 =>
    obtain ⟨v,ae,b0,g6⟩:=A2 (w:=w) aj h p one m0;refine ⟨v,?_,by rw [I.kj g6];exact b0⟩;simp [Go.execOp,aq,ak,Instr.field,run_underlying a2,aO,asAgg,ae]
 ·simp at aj
theorem Eh {o:Oper} {aT:Operand→Value} {t:TypeId} {x i:Operand} (aq:o.op=.index t x i) {fx gl r:I} (aj:oO P t fx gl=some r)
  (ad:Rel J S w fx (aT x)) (af:Rel J S w gl (aT i)):e9 P o aT J S w r.view:=by
 unfold oO at aj;generalize ak:aT x=cy at ad;split at aj
 ·rename_i a2;simp only [sg] at aj;obtain ⟨s,ai,j,aw,aj⟩:=aj;obtain ⟨dy,dm,rfl⟩:=lP aw;have e:=af.dc;cases ad with
  | agg as vs h p one m0 =>
    obtain ⟨v,ae,b0,g6⟩:=A2 (w:=w) aj h p one m0;refine ⟨v,?_,by rw [I.kj g6];exact b0⟩;simp [Go.execOp,aq,ak,e,Instr.index,asIntOf,run_underlying a2,dy,dm,run_sizeOf ai,ae]
 ·rename_i b k n a2;have e:=af.dc;split at aj
  ·rename_i aU;simp only [sa] at aj;obtain ⟨y,aY,rfl⟩:=aj;cases ad with
   | str b =>
     refine ⟨_,?_,.int _ _⟩;simp [Go.execOp,aq,ak,e,Instr.index,asIntOf,run_underlying a2,aU,aY]
  ·simp at aj
 ·simp at aj
theorem Fi {t e:TypeId} (d:Nat) (ay:P.underlying t=some (.slice e)) (a:Addr) (len cap:Nat) :
  (Op.equalIn (d+1) t (.slice (some a) len cap) (.slice none 0 0)).run P w=.ok false w:=by
 rw [Op.equalIn];simp [run_underlying ay]
theorem ov {t e:TypeId} (ay:P.underlying t=some (.slice e)) (a:Addr) (len cap:Nat) :
  (Op.equal t (.slice (some a) len cap) (.slice none 0 0)).run P w=.ok false w:=Fi 9999 ay a len cap
theorem run_equalIn_bool {t:TypeId} (d:Nat) (ay:P.underlying t=some .bool) (a b:Bool):(Op.equalIn (d+1) t (.bool a) (.bool b)).run P w=.ok (a == b) w:=by
 rw [Op.equalIn];simp [run_underlying ay]
theorem run_equal_bool {t:TypeId} (ay:P.underlying t=some .bool) (a b:Bool):(Op.equal t (.bool a) (.bool b)).run P w=.ok (a == b) w:=run_equalIn_bool 9999 ay a b
theorem Fj {t e:TypeId} (d:Nat) (ay:P.underlying t=some (.slice e)) (len cap:Nat) :
  (Op.equalIn (d+1) t (.slice none len cap) (.slice none 0 0)).run P w=.ok true w:=by
 rw [Op.equalIn];simp [run_underlying ay]
theorem AX {t e:TypeId} (ay:P.underlying t=some (.slice e)) (len cap:Nat) :
  (Op.equal t (.slice none len cap) (.slice none 0 0)).run P w=.ok true w:=Fj 9999 ay len cap
theorem Ec {o:Oper} {aT:Operand→Value} {op:BinOp} {t iq:TypeId} {x y:Operand} (aq:o.op=.binOp op t x y iq) (aY:iP y=true) {u r:I}
  (aj:nd P op t u=some r) (ad:Rel J S w u (aT x)) (eT:∀ v,aT (.const v)=v):e9 P o aT J S w r:=by
 have DI:y=.const (.slice none 0 0):=by
  unfold iP at aY;split at aY
  ·rfl
  ·simp at aY
 subst DI;generalize ak:aT x=cy at ad;unfold nd at aj;split at aj
 ·rename_i e ay;have ai:((∃ b j1 len cap,cy=.slice (some ⟨b,j1,none⟩) len cap)∧((op=.eql∧r=.bool false)∨(op=.neq∧r=.bool true))) ∨
    ((∃ a len cap,cy=.slice a len cap)∧(op=.eql∨op=.neq)∧r=.dt):=by
   split at aj
   ·refine .inl ⟨?_,by split at aj <;> simp_all⟩;cases ad with
    | ax cells len c b j1 cap f al hle hu h fr=>exact ⟨_,_,_,_,rfl⟩
    | cJ=>exact ⟨_,_,_,_,rfl⟩
   ·refine .inl ⟨?_,by split at aj <;> simp_all⟩;cases ad with
    | ref id off len c sz b cap h al hle=>exact ⟨_,_,_,_,rfl⟩
   ·refine .inr ⟨?_,by split at aj <;> simp_all⟩;cases ad with
    | b1 c a=>exact ⟨_,_,_,rfl⟩
    | ax cells len c b j1 cap f al hle hu h fr=>exact ⟨_,_,_,rfl⟩
    | cJ=>exact ⟨_,_,_,rfl⟩
   ·simp at aj
  rcases ai with ⟨⟨b,j1,len,cap,rfl⟩,⟨rfl,rfl⟩ | ⟨rfl,rfl⟩⟩ | ⟨⟨a,len,cap,rfl⟩,aD,rfl⟩
  ·exact ⟨.bool false,by simp [Go.execOp,aq,ak,eT,eqGuard,Go.binOp,ov ay],.bool _⟩
  ·exact ⟨.bool true,by simp [Go.execOp,aq,ak,eT,eqGuard,Go.binOp,ov ay],.bool _⟩
  ·rcases aD with rfl | rfl
   ·cases a with
    | none=>exact ⟨.bool true,by simp [Go.execOp,aq,ak,eT,eqGuard,Go.binOp,AX ay],.dt _⟩
    | some a=>exact ⟨.bool false,by simp [Go.execOp,aq,ak,eT,eqGuard,Go.binOp,ov ay],.dt _⟩
   ·cases a with
    | none=>exact ⟨.bool false,by simp [Go.execOp,aq,ak,eT,eqGuard,Go.binOp,AX ay],.dt _⟩
    | some a=>exact ⟨.bool true,by simp [Go.execOp,aq,ak,eT,eqGuard,Go.binOp,ov ay],.dt _⟩
 ·simp at aj
theorem D' {o:Oper} {aT:Operand→Value} {op:BinOp} {t iq:TypeId} {x y:Operand} (aq:o.op=.binOp op t x y iq) {a b:Bool} {r:I}
  (aj:fm P op t (.bool a) (.bool b)=some r) (ad:Rel J S w (.bool a) (aT x)) (af:Rel J S w (.bool b) (aT y)):e9 P o aT J S w r:=by
 simp only [fm] at aj;have e1:=ad.hY;have b':=af.hY;split at aj
 ·rename_i ay;simp at aj;subst aj;exact ⟨_,by simp [Go.execOp,aq,e1,b',eqGuard,Go.binOp,run_equal_bool ay],.bool _⟩
 ·rename_i ay;simp at aj;subst aj;exact ⟨_,by simp [Go.execOp,aq,e1,b',eqGuard,Go.binOp,run_equal_bool ay],.bool _⟩
 ·simp at aj
theorem nt {x y:I} {xs ys:List I} {e:Bool} (h:dJ (x::xs) (y::ys)=some e) :
  ∃ k a b cW,x=.int k a∧y=.int k b∧dJ xs ys=some cW∧e=((a == b) && cW):=by
 cases x <;> cases y <;> simp only [dJ,reduceCtorEq] at h;split at h
 ·rename_i av;subst av;simp only [sa] at h;obtain ⟨cW,ad,af⟩:=h;exact ⟨_,_,_,cW,rfl,rfl,ad,af.symm⟩
 ·simp at h
theorem Fe {e:TypeId} {dd:IntKind} (d:Nat) (he:P.underlying e=some (.int dd)) (ai:dG P e=false):∀ (xs ys:List I) (vs ws:List Value) (off:Nat) (eq:Bool),
  dJ xs ys=some eq→a8 (fun _=>.res) U J S w xs vs→a8 (fun _=>.res) U J S w ys ws→∀ (V W:Array Value),(∀ j,vs[j]?=V[off+j]?)→(∀ j,ws[j]?=W[off+j]?) →
  (forIn (List.range' off xs.length) ((none,()):Option Bool×PUnit) (fun i (_:Option Bool×PUnit)=>(do
    let a ←part e V i
    let b ←part e W i
    let c ←Op.equalIn (d+1) e a b
    if c=false then pure (ForInStep.done (some false,())) else pure (ForInStep.yield (none,())):Sem (ForInStep (Option Bool×PUnit))))).run P w =
   .ok (if eq then none else some false,()) w:=by
 intro xs
 induction xs with
 | nil=>intro ys vs ws off eq h _ _ V W _ _;cases ys <;> simp [dJ] at h;subst h;simp
 | cons x xs a9 =>
   intro ys vs ws off eq h ae hw V W jC l4;cases ys with
   | nil=>cases x <;> simp [dJ] at h
   | cons y ys =>
     obtain ⟨k,a,b,cW,rfl,rfl,aX,rfl⟩:=nt h;obtain ⟨v,cU,rfl,r1,_,bd⟩:=ae.gS;obtain ⟨w',ye,rfl,r2,_,mv⟩:=hw.gS;have e1:=r1.dc;have b':=r2.dc;subst e1 b';(have bR:V[off]?=some (.int k a):=by have:=jC 0;simpa using this.symm);(have bY:W[off]?=some (.int k b):=by have:=l4 0;simpa using this.symm);have xh:=a9 ys cU ye (off+1) cW aX bd mv V W (fun j=>by have:=jC (j+1);simpa [tD,tf 1] using this) (fun j=>by have:=l4 (j+1);simpa [tD,tf 1] using this);(have q1:(part e V off).run P w=.ok (.int k a) w:=by simp [part,gO he,ai,bR]);(have aW:(part e W off).run P w=.ok (.int k b) w:=by simp [part,gO he,ai,bY]);(have cx:(Op.equalIn (d+1) e (.int k a) (.int k b)).run P w=.ok (a == b) w:=by rw [Op.equalIn];simp [run_underlying he]);simp only [sM,List.range'_succ,vU,Sem.run_bind,q1,aW,cx,Result.andThen_ok];by_cases jD:a=b
     ·subst jD;simpa using xh
     ·simp [jD]
theorem Fh {t e:TypeId} {len:Nat} {dd:IntKind} (d:Nat) (ay:P.underlying t=some (.array len e)) (he:P.underlying e=some (.int dd)) (gG:bC P e=some 1)
  {xs ys:List I} {V W:Array Value} {eq:Bool} (ak:xs.length=len) (h:dJ xs ys=some eq) (r1:Rel J S w (.agg xs) (.agg V)) (r2:Rel J S w (.agg ys) (.agg W)) :
  (Op.equalIn (d+2) t (.agg V) (.agg W)).run P w=.ok eq w:=by
 have cd:dG P e=false:=by unfold dG;rw [he]
 rw [Op.equalIn];simp only [run_underlying ay,run_sizeOf gG,Sem.run_bind,Result.andThen_ok];cases r1 with
 | agg xs V ae bR bD q1 =>
   cases r2 with
   | agg ys W hw bY bQ aW =>
     have:=Fe (U:=fun _=>none) (P:=P) (w:=w) (J:=J) (S:=S) d he cd xs ys V.toList W.toList 0 eq h ⟨by simp [ae],fun i u v a b=>q1 i u v a (by simpa using b),fun i u v a _=>aV.b3 (bR u (sH a))⟩
      ⟨by simp [hw],fun i u v a b=>aW i u v a (by simpa using b),fun i u v a _=>aV.b3 (bY u (sH a))⟩ V W (by simp) (by simp)
     rw [ak] at this;simp [this];cases eq <;> simp
theorem zo {f:Field} {bl:List Field} {n:Nat} (h:gI P (f::bl) n=true) :
  f.offset = n ∧ f.name ≠ "_" ∧ (∃ k, P.underlying f.type = some (.int k)) ∧ bC P f.type = some 1 ∧ dG P f.type = false ∧ gI P bl (n + 1) = true := by
 simp only [gI,Bool.and_eq_true,beq_iff_eq,bne_iff_ne] at h;obtain ⟨⟨⟨ad,af⟩,aG⟩,a5⟩:=h;split at aG
 ·rename_i k hu ai;exact ⟨ad,af,⟨k,hu⟩,ai,by unfold dG;rw [hu],a5⟩
 ·simp at aG
theorem Fl (d:Nat):∀ (bl:List Field) (xs ys:List I) (vs ws:List Value) (off:Nat) (eq:Bool),gI P bl off=true→xs.length=bl.length→ys.length=bl.length →
  dJ xs ys=some eq→a8 (fun _=>.res) U J S w xs vs→a8 (fun _=>.res) U J S w ys ws→∀ (V W:Array Value),(∀ j,vs[j]?=V[off+j]?)→(∀ j,ws[j]?=W[off+j]?) →
  (forIn bl ((none,()):Option Bool×PUnit) (fun f (_:Option Bool×PUnit) =>
    if f.name = "_" then pure (ForInStep.yield (none, ())) else (do
    let a ←part f.type V f.offset
    let b ←part f.type W f.offset
    let c ←Op.equalIn (d+1) f.type a b
    if c=false then pure (ForInStep.done (some false,())) else pure (ForInStep.yield (none,())):Sem (ForInStep (Option Bool×PUnit))))).run P w =
   .ok (if eq then none else some false,()) w:=by
 intro bl
 induction bl with
 | nil =>
   intro xs ys vs ws off eq _ ak aY h _ _ V W _ _;obtain rfl:=tA.1 ak;obtain rfl:=tA.1 aY;simp [dJ] at h;subst h;simp
 | cons f bl a9 =>
   intro xs ys vs ws off eq aP ak aY h ae hw V W jC l4;cases xs with
   | nil=>simp at ak
   | cons x xs =>
     cases ys with
     | nil=>simp at aY
     | cons y ys =>
       obtain ⟨k,a,b,cW,rfl,rfl,aX,rfl⟩:=nt h;obtain ⟨v,cU,rfl,r1,_,bd⟩:=ae.gS;obtain ⟨w',ye,rfl,r2,_,mv⟩:=hw.gS;obtain ⟨f1,f2,⟨dd,f3⟩,f4,f5,f6⟩:=zo aP;have e1:=r1.dc;have b':=r2.dc;subst e1 b';(have bR:V[off]?=some (.int k a):=by have:=jC 0;simpa using this.symm);(have bY:W[off]?=some (.int k b):=by have:=l4 0;simpa using this.symm);have xh:=a9 xs ys cU ye (off+1) cW f6 (by simpa using ak) (by simpa using aY) aX bd mv V W (fun j=>by have:=jC (j+1);simpa [tD,tf 1] using this) (fun j=>by have:=l4 (j+1);simpa [tD,tf 1] using this);(have q1:(part f.type V f.offset).run P w=.ok (.int k a) w:=by simp [part,gO f3,f5,f1,bR]);(have aW:(part f.type W f.offset).run P w=.ok (.int k b) w:=by simp [part,gO f3,f5,f1,bY]);(have cx:(Op.equalIn (d+1) f.type (.int k a) (.int k b)).run P w=.ok (a == b) w:=by rw [Op.equalIn];simp [run_underlying f3]);simp only [vU,f2,if_false,Sem.run_bind,q1,aW,cx,Result.andThen_ok];by_cases jD:a=b
       ·subst jD;simpa using xh
       ·simp [jD]
theorem run_equalIn_struct {t:TypeId} {bl:Array Field} (d:Nat) (ay:P.underlying t=some (.struct bl)) (aP:gI P bl.toList 0=true) (h9:P.stoodInHeld t=false)
  {xs ys:List I} {V W:Array Value} {eq:Bool} (ak:xs.length=bl.size) (aY:ys.length=bl.size) (h:dJ xs ys=some eq) (r1:Rel J S w (.agg xs) (.agg V)) (r2:Rel J S w (.agg ys) (.agg W)) :
  (Op.equalIn (d+2) t (.agg V) (.agg W)).run P w=.ok eq w:=by
 rw [Op.equalIn];cases r1 with
 | agg xs V ae bR bD q1 =>
   cases r2 with
   | agg ys W hw bY bQ aW =>
     have:=Fl (U:=fun _=>none) (P:=P) (w:=w) (J:=J) (S:=S) d bl.toList xs ys V.toList W.toList 0 eq aP (by simpa using ak) (by simpa using aY) h ⟨by simp [ae],fun i u v a b=>q1 i u v a (by simpa using b),fun i u v a _=>aV.b3 (bR u (sH a))⟩
      ⟨by simp [hw],fun i u v a b=>aW i u v a (by simpa using b),fun i u v a _=>aV.b3 (bY u (sH a))⟩ V W (by simp) (by simp)
     simp only [run_underlying ay,Sem.run_bind,Result.andThen_ok,program,Sem.run,h9];rw [Array.forIn_toList] at this;simp [this];cases eq <;> simp
theorem D_ {o:Oper} {aT:Operand→Value} {op:BinOp} {t iq:TypeId} {x y:Operand} (aq:o.op=.binOp op t x y iq) {xs ys:List I} {r:I}
  (aj:fm P op t (.agg xs) (.agg ys)=some r) (ad:Rel J S w (.agg xs) (aT x)) (af:Rel J S w (.agg ys) (aT y)):e9 P o aT J S w r:=by
 simp only [fm] at aj;split at aj
 ·rename_i len e ay;split at aj
  ·rename_i dd he gG;split at aj
   ·rename_i al;obtain ⟨ak,aY,aO⟩:=al;generalize gf:aT x=cy at ad;generalize mu:aT y=yc at af;(have e1:∃ V,cy=.agg V:=by cases ad with | agg as vs=>exact ⟨_,rfl⟩);(have b':∃ V,yc=.agg V:=by cases af with | agg as vs=>exact ⟨_,rfl⟩);obtain ⟨V,rfl⟩:=e1;obtain ⟨W,rfl⟩:=b';have key:∀ eq,dJ xs ys=some eq→(Op.equal t (.agg V) (.agg W)).run P w=.ok eq w:=fun eq h=>Fh 9998 ay he gG ak h ad af;split at aj
    ·simp only [sa] at aj;obtain ⟨eq,h,rfl⟩:=aj;exact ⟨.bool eq,by simp [Go.execOp,aq,gf,mu,eqGuard,aO,Go.binOp,key eq h,program,Sem.run],.bool _⟩
    ·simp only [sa] at aj;obtain ⟨eq,h,rfl⟩:=aj;exact ⟨.bool (!eq),by simp [Go.execOp,aq,gf,mu,eqGuard,aO,Go.binOp,key eq h,program,Sem.run],.bool _⟩
    ·simp at aj
   ·simp at aj
  ·simp at aj
 ·rename_i bl ay;split at aj
  ·rename_i al;obtain ⟨aP,h9,ak,aY,aO⟩:=al;generalize gf:aT x=cy at ad;generalize mu:aT y=yc at af;(have e1:∃ V,cy=.agg V:=by cases ad with | agg as vs=>exact ⟨_,rfl⟩);(have b':∃ V,yc=.agg V:=by cases af with | agg as vs=>exact ⟨_,rfl⟩);obtain ⟨V,rfl⟩:=e1;obtain ⟨W,rfl⟩:=b';have key:∀ eq,dJ xs ys=some eq→(Op.equal t (.agg V) (.agg W)).run P w=.ok eq w:=fun eq h=>run_equalIn_struct 9998 ay aP h9 ak aY h ad af;split at aj
   ·simp only [sa] at aj;obtain ⟨eq,h,rfl⟩:=aj;exact ⟨.bool eq,by simp [Go.execOp,aq,gf,mu,eqGuard,aO,Go.binOp,key eq h,program,Sem.run],.bool _⟩
   ·simp only [sa] at aj;obtain ⟨eq,h,rfl⟩:=aj;exact ⟨.bool (!eq),by simp [Go.execOp,aq,gf,mu,eqGuard,aO,Go.binOp,key eq h,program,Sem.run],.bool _⟩
   ·simp at aj
  ·simp at aj
 ·simp at aj
end
end Go.Proofs.YtfakoboiahbhaaaGreat.Ab


namespace Go.Proofs.YtfakoboiahbhaaaGreat.Ab
open Go
section
variable {P:Program} {B:Nat} {J:List Nat} {w:World} {H:List ar} {U:Nat→Option aH} {S:Nat→Nat→Prop}
def eM (J:List Nat) (S:Nat→Nat→Prop) (w:World):Option I→Option Value→Prop
 | none,none=>True
 | some u,some v=>Rel J S w u v
 | _,_=>False
theorem m1 {x:Option I} {v:Option Value} {d y yf r:Nat} (h:cG x d y=some r) (ak:eM J S w x v) (aY:y≤yf) :
  (∃ k n,v=some (.int k n)∧x.isSome∧(∀ code,(Instr.sliceBound (.int k n) yf code).run P w=.ok r w)∧r≤y)∨(v=none∧x=none∧r=d):=by
 unfold cG at h;split at h
 ·cases v with
  | none=>simp at h;exact .inr ⟨rfl,rfl,h.symm⟩
  | some v=>simp [eM] at ak
 ·cases v with
  | none=>simp [eM] at ak
  | some v =>
    have e:=Rel.dc ak;subst e;split at h
    ·rename_i ag;simp at h;subst h;refine .inl ⟨_,_,rfl,rfl,fun code=>?_,by omega⟩;have ad:=ag.1;have af:_≤(yf:Int):=Int.le_trans ag.2 (Int.ofNat_le.2 aY);simp [Instr.sliceBound,asIntOf,ad,af]
    ·simp at h
 ·simp at h
theorem hM {lo hi:Option I} {lo' hi':Option Value} {isS:Bool} {len cap h l:Nat} (bH:cG hi len len=some h) (ao:cG lo 0 h=some l) (hle:len≤cap)
  (r1:eM J S w lo lo') (r2:eM J S w hi hi'):(Instr.sliceBounds isS len cap lo' hi' none).run P w=.ok (l,h,cap) w∧l≤h∧h≤len:=by
 rcases m1 (P:=P) bH r2 hle with ⟨k,n,rfl,_,q,ag⟩ | ⟨rfl,_,rfl⟩ <;> rcases m1 (P:=P) ao r1 (sd _) with ⟨k',iS,rfl,_,fQ,bt⟩ | ⟨rfl,_,rfl⟩ <;>
  refine ⟨?_,by omega,by omega⟩ <;> simp [Instr.sliceBounds, *]
theorem xX {lo hi gJ:Option I} {lo' hi' iR:Option Value} {isS:Bool} {len cap m h l:Nat} (hm:cG gJ len len=some m) (De:gJ.isSome) (C4:hi.isSome)
  (bH:cG hi m m=some h) (ao:cG lo 0 h=some l) (hle:len≤cap)
  (r1:eM J S w lo lo') (r2:eM J S w hi hi') (eI:eM J S w gJ iR):(Instr.sliceBounds isS len cap lo' hi' iR).run P w=.ok (l,h,m) w∧l≤h∧h≤m∧m≤len:=by
 rcases m1 (P:=P) hm eI hle with ⟨k,n,rfl,_,q,ag⟩ | ⟨rfl,rfl,_⟩
 ·rcases m1 (P:=P) bH r2 (sd _) with ⟨aQ,cg,rfl,_,aW,gE⟩ | ⟨rfl,rfl,_⟩
  ·rcases m1 (P:=P) ao r1 (sd _) with ⟨k',iS,rfl,_,fQ,bt⟩ | ⟨rfl,_,rfl⟩ <;>
    refine ⟨?_,by omega,by omega,by omega⟩ <;> simp [Instr.sliceBounds, *]
  ·simp at C4
 ·simp at De
theorem Rel.sub {cells:List I} {b o cap' n k:Nat} {f:Nat→Value} (d:Nat) (dU:hs) (al:dU=.full→cap'=n) (hle:n≤cap') (hu:∀ z,dU≠.uniq z)
  (h:∀ (j:Nat) (u:I),cells[j]?=some u→S b (o+j)∧w.cell? ⟨b,o+j,none⟩=some (f j)∧u.plain=true∧(f j).oneCell'=true)
  (aj:∀ (j:Nat) (u:I),cells[j]?=some u→Rel J S w u (f j)):Rel J S w (.ax ((cells.drop d).take k) n dU) (.slice (some ⟨b,o+d,none⟩) n cap'):=by
 refine .ax _ n dU b (o+d) cap' (fun j=>f (d+j)) al hle hu (fun j u b_=>?_) (fun j u b_=>?_)
 ·rw [sR] at b_;split at b_
  ·rw [sZ] at b_;have:=h (d+j) u b_
   rwa [show o+d+j=o+(d+j) by omega]
  ·simp at b_
 ·rw [sR] at b_;split at b_
  ·rw [sZ] at b_;exact aj (d+j) u b_
  ·simp at b_
theorem Rel.empty (c:hs) (hu:∀ z,c≠.uniq z) (b o cap:Nat) (al:c=.full→cap=0):Rel J S w (.ax [] 0 c) (.slice (some ⟨b,o,none⟩) 0 cap) :=
 .ax [] 0 c b o cap (fun _=>undef) al (Nat.zero_le _) hu (by simp) (by simp)
theorem Fk {t:TypeId} {u r:I} {x:Value} {lo hi gJ:Option I} {lo' hi' iR:Option Value} (aj:eY P t u lo hi gJ=some r) (aB:u.plain=true)
  (ad:Rel J S w u x) (r1:eM J S w lo lo') (r2:eM J S w hi hi') (eI:eM J S w gJ iR) :
  ∃ v,(Instr.sliceAt t x lo' hi' iR).run P w=.ok v w∧Rel J S w r v∧r.plain=true:=by
 unfold eY at aj;split at aj
 ·rename_i e cells len c a2;simp only [sg] at aj;obtain ⟨s,ai,aj⟩:=aj;have pl:∀ (cs:List I) (n:Nat) (p:Prop) [Decidable p],(I.ax cs n (if p then .full else .shared)).plain=true:=fun cs n p _=>by split <;> rfl
  have pz:∀ (p:Prop) [Decidable p] (z:Nat),(if p then hs.full else hs.shared)≠.uniq z:=fun p _ z=>by split <;> simp
  split at aj
  ·simp only [sg] at aj;obtain ⟨h,bH,l,ao,aj⟩:=aj;simp at aj;subst aj;cases iR with
   | some _=>simp [eM] at eI
   | none =>
   cases ad with
   | b1 c a =>
     obtain ⟨q,q1,aW⟩:=hM (P:=P) (isS:=true) (cap:=0) bH ao (by omega) r1 r2;(obtain rfl:h=0:=by omega);(obtain rfl:l=0:=by omega);exact ⟨.slice a 0 0,by cases a <;> simp [Instr.sliceAt,Instr.slice,run_underlying a2,q,run_sizeOf ai,Addr.add],by simpa using .b1 _ _,pl _ _ _⟩
   | cJ=>simp [I.plain] at aB
   | ax cells len c b o cap f al hle hu bw b0 =>
     obtain ⟨q,q1,aW⟩:=hM (P:=P) (isS:=true) (cap:=cap) bH ao hle r1 r2;refine ⟨_,by simp [Instr.sliceAt,Instr.slice,run_underlying a2,q,run_sizeOf ai];rfl,?_,pl _ _ _⟩;by_cases ep:cap=l
     ·(obtain rfl:h=l:=by omega);simp only [ep,if_true,tR,vt,tj];exact Rel.empty _ (pz _) _ _ _ (by simp)
     ·simp only [ep,if_false,add_lit];refine Rel.sub _ _ (fun he=>?_) (by omega) (pz _) bw b0;split at he
      ·rename_i h0;rw [al h0.1,h0.2]
      ·simp at he
  ·rename_i GZ GO;simp only [sg] at aj;obtain ⟨m,hm,h,bH,l,ao,aj⟩:=aj;simp at aj;subst aj;cases ad with
   | b1 c a =>
     obtain ⟨q,q1,aW,cx⟩:=xX (P:=P) (isS:=true) (cap:=0) hm rfl rfl bH ao (by omega) r1 r2 eI;(obtain rfl:m=0:=by omega);(obtain rfl:h=0:=by omega);(obtain rfl:l=0:=by omega);exact ⟨.slice a 0 0,by cases a <;> simp [Instr.sliceAt,Instr.slice,run_underlying a2,q,run_sizeOf ai,Addr.add],by simpa using .b1 _ _,pl _ _ _⟩
   | cJ=>simp [I.plain] at aB
   | ax cells len c b o cap f al hle hu bw b0 =>
     obtain ⟨q,q1,aW,cx⟩:=xX (P:=P) (isS:=true) (cap:=cap) hm rfl rfl bH ao hle r1 r2 eI;refine ⟨_,by simp [Instr.sliceAt,Instr.slice,run_underlying a2,q,run_sizeOf ai];rfl,?_,pl _ _ _⟩;by_cases ep:m=l
     ·(obtain rfl:h=l:=by omega);simp only [ep,if_true,tR,vt,tj];exact Rel.empty _ (by simp) _ _ _ (by simp)
     ·simp only [ep,if_false,add_lit];refine Rel.sub _ _ (fun he=>?_) (by omega) (pz _) bw b0;split at he
      ·rename_i h0;rw [h0]
      ·simp at he
  ·simp at aj
 ·rename_i e id off len cap sz a2;simp only [sg] at aj;obtain ⟨s,ai,aj⟩:=aj;split at aj
  ·simp at aj
  ·rename_i bO;(obtain rfl:s=sz:=by simpa using bO);split at aj
   ·simp only [sg] at aj;obtain ⟨h,bH,l,ao,aj⟩:=aj;cases iR with
    | some _=>simp [eM] at eI
    | none =>
    cases ad with
    | ref id off len c sz b cap' ag al hle =>
      obtain ⟨q,q1,aW⟩:=hM (P:=P) (isS:=true) (cap:=cap') bH ao hle r1 r2;split at aj
      ·rename_i GV;simp at aj;subst aj
       have:cap'≠l:=by omega
       refine ⟨_,by simp [Instr.sliceAt,Instr.slice,run_underlying a2,q,run_sizeOf ai,this,add_lit];rfl,.ref _ _ _ _ _ b _ ag (fun n aN=>?_) (by omega),rfl⟩;simp only [sa] at aN;obtain ⟨gV,CL,rfl⟩:=aN;rw [al gV CL]
      ·simp at aj;subst aj;(obtain rfl:h=l:=by omega);refine ⟨_,by simp [Instr.sliceAt,Instr.slice,run_underlying a2,q,run_sizeOf ai];rfl,?_,rfl⟩;split
       ·exact Rel.empty _ (by simp) _ _ _ (by simp)
       ·simp only [add_lit];exact Rel.empty _ (by simp) _ _ _ (by simp)
   ·simp only [sg] at aj;obtain ⟨m,hm,h,bH,l,ao,aj⟩:=aj;cases ad with
    | ref id off len c sz b cap' ag al hle =>
      obtain ⟨q,q1,aW,cx⟩:=xX (P:=P) (isS:=true) (cap:=cap') hm rfl rfl bH ao hle r1 r2 eI;split at aj
      ·rename_i ep;split at aj
       ·rename_i jL;simp at aj;subst aj;refine ⟨_,by simp [Instr.sliceAt,Instr.slice,run_underlying a2,q,run_sizeOf ai,ep];rfl,.ref _ _ _ _ _ b _ ag (fun n aN=>by simpa [ep] using aN) (by omega),rfl⟩
       ·simp at aj
      ·rename_i ep;simp at aj;subst aj;exact ⟨_,by simp [Instr.sliceAt,Instr.slice,run_underlying a2,q,run_sizeOf ai,ep,add_lit];rfl,.ref _ _ _ _ _ b _ ag (fun n aN=>by simpa using aN) (by omega),rfl⟩
   ·simp at aj
 ·rename_i n e id off a2;simp only [sg] at aj;obtain ⟨s,ai,aj⟩:=aj;split at aj
  ·simp only [sg] at aj;obtain ⟨h,bH,l,ao,aj⟩:=aj;cases iR with
   | some _=>simp [eM] at eI
   | none =>
   cases ad with
   | ptr id off b ag =>
     obtain ⟨q,q1,aW⟩:=hM (P:=P) (isS:=false) (cap:=n) bH ao (sd _) r1 r2;split at aj
     ·simp at aj
     ·rename_i ep;simp at aj;subst aj;exact ⟨_,by simp [Instr.sliceAt,Instr.sureAddr,run_underlying a2,q,run_sizeOf ai,ep,add_lit];rfl,.ref _ _ _ _ _ b _ ag (fun n aN=>by simpa using aN) (by omega),rfl⟩
  ·simp at aj
 ·simp at aj
end
end Go.Proofs.YtfakoboiahbhaaaGreat.Ab


namespace Go.Proofs.YtfakoboiahbhaaaGreat.Ab
open Go
section
variable {P:Program} {B:Nat} {J:List Nat} {w:World} {H:List ar} {U:Nat→Option aH} {S:Nat→Nat→Prop}
theorem gu.frame {az:Nat→Option aH} {bU:List Nat} {S':Nat→Nat→Prop} {w':World} (bJ:Ext J bU)
  (cl:∀ b o,S b o→S' b o∧w'.cell? ⟨b,o,none⟩=w.cell? ⟨b,o,none⟩) {id:Nat}
  (av:∀ b l,U b=some l→(l=.obj id∨∃ j,l=.cell id j)→az b=some l∧w'.heap[b]?=w.heap[b]?∧∀ o,S' b o→S b o)
  {o:ar} (h:gu U J S w id o):gu az bU S' w' id o:=by
 cases o with
 | dead=>trivial
 | cells l =>
   obtain ⟨b,cur,e,aC,aI,aR,bk,bc,bf⟩:=h;obtain ⟨aJ,aQ,cn⟩:=av b _ aI (.inl rfl);refine ⟨b,cur,e,bJ _ _ aC,aJ,aQ.trans aR,bk,fun o ai=>bc o (cn o ai),fun j u v hu ae=>?_⟩;obtain ⟨a_,gV,ba,br⟩:=bf j u v hu ae;exact ⟨a_,gV,ba.mono bJ cl,br.mono bJ cl fun b ag=>av b _ ag (.inr ⟨j,rfl⟩)⟩
 | grow l gid z =>
   obtain ⟨b,cur,e,aC,aI,aR,bk,bc,bf,cap,c9,dr⟩:=h;obtain ⟨aJ,aQ,cn⟩:=av b _ aI (.inl rfl);refine ⟨b,cur,e,bJ _ _ aC,aJ,aQ.trans aR,bk,fun o ai=>bc o (cn o ai),fun j u v hu ae=>?_,cap,bJ _ _ c9,dr⟩;obtain ⟨a_,gV,ba,br⟩:=bf j u v hu ae;exact ⟨a_,gV,ba.mono bJ cl,br.mono bJ cl fun b ag=>av b _ ag (.inr ⟨j,rfl⟩)⟩
 | loop st cE fn T params assign body jv =>
   obtain ⟨ak,aY,b,L,aC,aI,aR,bk,bc,bf,c9,dr,dS⟩:=h;obtain ⟨aJ,aQ,cn⟩:=av b _ aI (.inl rfl);exact ⟨ak,aY,b,L,bJ _ _ aC,aJ,aQ.trans aR,bk,bc,bf,c9,fun i u v hu ae=>⟨(dr i u v hu ae).1,(dr i u v hu ae).2.mono bJ cl⟩,dS⟩
 | map es clock =>
   obtain ⟨b,bx,aC,aI,aR,bk,bc,bf⟩:=h;obtain ⟨aJ,aQ,cn⟩:=av b _ aI (.inl rfl)
   exact ⟨b,bx,bJ _ _ aC,aJ,aQ.trans aR,bk,fun o ai=>bc o (cn o ai),fun j i k v x hu ae =>
    let ⟨a_,ba,br,b8,dV⟩:=bf j i k v x hu ae;⟨a_,ba,br.mono bJ cl,b8,dV.mono bJ cl⟩⟩
 | iter m s e t =>
   obtain ⟨b,eb,aC,aI,aR,bk,bc⟩:=h;obtain ⟨aJ,aQ,cn⟩:=av b _ aI (.inl rfl);exact ⟨b,eb,bJ _ _ aC,aJ,bJ _ _ aR,aQ.trans bk,fun o ai=>bc o (cn o ai)⟩
theorem aK.frame {az:Nat→Option aH} {S':Nat→Nat→Prop} {w':World} (ah:aK B U J S w H) (aA:bh U S w az S' w')
  (av:∀ b l,U b=some l→((∃ id,l=.obj id)∨∃ id j,l=.cell id j)→az b=some l∧w'.heap[b]?=w.heap[b]?∧∀ o,S' b o→S b o)
  (aG:∀ b o,S' b o→∃ v,w'.cell? ⟨b,o,none⟩=some v) (a5:∀ b l,az b=some l→B≤b∧b<w'.heap.size):aK B az J S' w' H :=
 ⟨ah.cD,fun id o aq=>(ah.obj id o aq).frame (Ext.refl J) aA.set (fun b l ag ao=>av b l ag (by
  rcases ao with rfl | ⟨j,rfl⟩
  ·exact .inl ⟨id,rfl⟩
  ·exact .inr ⟨id,j,rfl⟩)),aG,a5,sL ah.cV aA.size⟩
theorem aK.push (ah:aK B U J S w H) (n:Nat) {o:ar} (aq:gu U (J++[n]) S w H.length o):aK B U (J++[n]) S w (H++[o]) where
 cD:=by simp [ah.cD]
 obj id cL h:=by
  rcases vu id H.length with aS | rfl | GN
  ·rw [sy aS] at h;exact (ah.obj id cL h).frame (Ext.append J [n]) (fun b o ai=>⟨ai,rfl⟩) fun b l ag _=>⟨ag,rfl,fun o ai=>ai⟩
  ·simp at h;subst h;exact aq
  ·rw [sJ (by omega)] at h
   have:id-H.length≠0:=by omega
   obtain ⟨k,av⟩:=Nat.exists_eq_succ_of_ne_zero this;rw [av] at h;simp at h
 cc:=ah.cc
 base:=ah.base
 cV:=ah.cV
theorem aK.oF (ah:aK B U J S w H) {id:Nat} {l:List I} {g z:Nat} (aE:H[id]?=some (.grow l g z)):aK B U J S w (H.set id (.cells l)):=by
 refine ⟨by simpa using ah.cD,fun bz o aq=>?_,ah.cc,ah.base,ah.cV⟩;by_cases cr:bz=id
 ·subst cr;rw [si (sb.1 aE).1] at aq;cases aq;obtain ⟨b,cur,e,aC,aI,aR,bk,bc,bf,_⟩:=ah.obj bz _ aE;exact ⟨b,cur,e,aC,aI,aR,bk,bc,bf⟩
 ·rw [sj (Ne.symm cr)] at aq;exact ah.obj bz o aq
theorem aK.xG (ah:aK B U J S w H) {id:Nat} {l:List I} {g z b cap:Nat} {cur:Array Value} {e:TypeId} (aE:H[id]?=some (.cells l)) (ag:J[id]?=some b) (aO:J[g]?=some cap)
  (hm:cap≤maxLen) (bj:0<z) (al:w.heap[b]?=some (.cells cur e (0,0))) (ai:cur.size=cap*z):aK B U J S w (H.set id (.grow l g z)):=by
 refine ⟨by simpa using ah.cD,fun bz o aq=>?_,ah.cc,ah.base,ah.cV⟩;by_cases cr:bz=id
 ·subst cr;rw [si (sb.1 aE).1] at aq;cases aq;obtain ⟨au,cur',cW,aC,aI,aR,bk,bc,bf⟩:=ah.obj bz _ aE;rw [ag] at aC;cases aC;rw [al] at aR;cases aR;exact ⟨b,cur,e,ag,aI,al,bk,bc,bf,cap,aO,hm,bj,ai⟩
 ·rw [sj (Ne.symm cr)] at aq;exact ah.obj bz o aq
def lay (U:Nat→Option aH) (n:Nat) (l:aH):Nat→Option aH:=fun b=>if b=n then some l else U b
theorem oW (o:Obj) {b i:Nat} (ag:b<w.heap.size):(w.alloc o).cell? ⟨b,i,none⟩=w.cell? ⟨b,i,none⟩:=by
 have:(w.alloc o).heap[b]?=w.heap[b]?:=heap_alloc_old w o b ag
 unfold World.cell?;simp only [this]
theorem kr (ah:aK B U J S w H) (o:Obj) (l:aH):bh U S w (lay U w.heap.size l) S (w.alloc o) where
 os:=rfl
 tape:=rfl
 output:=rfl
 size:=by simp
 cC b ag _:=heap_alloc_old w o b ag
 set b cL ai:=⟨ai,by obtain ⟨v,ae⟩:=ah.cc b cL ai;exact oW o (mJ ae)⟩
 fresh _ _ ai:=.inl ai
 own b ag:=by
  unfold lay at ag;split at ag
  ·rename_i h;exact .inr (by omega)
  ·exact .inl ag
theorem nL (ah:aK B U J S w H) (o:Obj) (l:aH):aK B (lay U w.heap.size l) J S (w.alloc o) H:=by
 have aA:=kr ah o l;refine ah.frame aA (fun b l' ag _=>?_) (fun b cL ai=>?_) (fun b l' ag=>?_)
 ·have:=(ah.base b l' ag).2;exact ⟨by simp [lay,show b≠w.heap.size by omega,ag],heap_alloc_old w o b this,fun o ai=>ai⟩
 ·obtain ⟨v,ae⟩:=ah.cc b cL ai;exact ⟨v,((aA.set b cL ai).2).trans ae⟩
 ·unfold lay at ag;split at ag
  ·rename_i h;subst h;exact ⟨ah.cV,by simp⟩
  ·have:=ah.base b l' ag;exact ⟨this.1,by simp;omega⟩
theorem kq (U:Nat→Option aH) (S:Nat→Nat→Prop) (w:World):bh U S w U S w.drew :=
 ⟨rfl,rfl,rfl,sd _,fun _ _ _=>rfl,fun _ _ h=>⟨h,rfl⟩,fun _ _ h=>.inl h,fun _ h=>.inl h⟩
theorem mo (ah:aK B U J S w H):aK B U J S w.drew H :=
 ah.frame (kq U S w) (fun _ _ ag _=>⟨ag,rfl,fun _ h=>h⟩) ah.cc ah.base
theorem mO (ah:aK B U J S w H) (o:Nat):¬ S w.heap.size o:=fun ai=>by
 obtain ⟨v,ae⟩:=ah.cc _ o ai;exact absurd (mJ ae) (Nat.lt_irrefl _)
structure c1 (J:List Nat) (S:Nat→Nat→Prop) (w:World) (cs:List I) (vs:List Value):Prop where
 len:cs.length=vs.length
 rel:∀ (j:Nat) (u:I) (v:Value),cs[j]?=some u→vs[j]?=some v→u.plain=true∧v.oneCell'=true∧Rel J S w u v
theorem c1.mono {bU:List Nat} {S':Nat→Nat→Prop} {w':World} {cs:List I} {vs:List Value} (h:c1 J S w cs vs) (bJ:Ext J bU)
  (cl:∀ b o,S b o→S' b o∧w'.cell? ⟨b,o,none⟩=w.cell? ⟨b,o,none⟩):c1 bU S' w' cs vs :=
 ⟨h.len,fun j u v hu ae=>let ⟨a,b,c⟩:=h.rel j u v hu ae;⟨a,b,c.mono bJ cl⟩⟩
theorem c1.append {a b:List I} {c d:List Value} (h:c1 J S w a c) (k:c1 J S w b d):c1 J S w (a++b) (c++d):=by
 refine ⟨by simp [h.len,k.len],fun j u v hu ae=>?_⟩;rcases sT j a.length with aw | aw
 ·rw [sy aw] at hu;rw [sy (h.len ▸ aw)] at ae;exact h.rel j u v hu ae
 ·rw [sJ aw] at hu;rw [sJ (h.len ▸ aw),←h.len] at ae;exact k.rel _ u v hu ae
theorem n5 (ah:aK B U J S w H) {cs:List I} {vs:List Value} (al:c1 J S w cs vs) (spare:List Value) (e:TypeId) (len cap z:Nat) (bj:0<z) (ao:cs.length=len*z)
  (pn:len≤cap) (hm:cap≤maxLen) (ai:vs.length+spare.length=cap*z) :
  a0 B U J S w H (.ax cs len (.uniq z)) (.slice (some ⟨w.heap.size,0,none⟩) len cap) (w.alloc (.cells (vs++spare).toArray e)):=by
 have aA:=kr ah (.cells (vs++spare).toArray e) .res;refine ⟨_,J,S,Ext.refl J,aA,nL ah _ .res,.cJ _ _ _ _ _ _,.inr ⟨by simp [lay],rfl,pn,hm,bj,ao,⟨_,e,heap_alloc_new w _,by simp [ai],fun j u v hu ae=>?_⟩,mO ah⟩⟩;have aw:j<vs.length:=al.len ▸ (sb.1 hu).1;have bd:vs[j]?=some v:=by simpa [sy aw] using ae
 obtain ⟨a,b,c⟩:=al.rel j u v hu bd;exact ⟨a,b,c.mono (Ext.refl J) aA.set⟩
end
end Go.Proofs.YtfakoboiahbhaaaGreat.Ab


namespace Go.Proofs.YtfakoboiahbhaaaGreat.Ab
open Go
section
variable {P:Program} {B:Nat} {J:List Nat} {w:World} {H:List ar} {U:Nat→Option aH} {S:Nat→Nat→Prop}
theorem AZ {t:TypeId} {cs:List I} {b base off:Nat} {g:Nat→Value} {r:I}
  (al:∀ (j:Nat) (u:I),cs[j]?=some u→w.cell? ⟨b,base+j,none⟩=some (g j)∧(g j).oneCell'=true∧Rel J S w u.view (g j)) (aj:ev P t cs off=some r) :
  ∃ v,(loadVar t ⟨b,base+off,none⟩).run P w=.ok v w∧Rel J S w r v∧r.plain=true:=by
 unfold ev at aj;cases cd:dG P t with
 | true =>
   obtain ⟨d,a2⟩:=zq cd;rw [cd] at aj;simp only [sg] at aj;obtain ⟨s,ai,aj⟩:=aj;split at aj
   ·rename_i hle;simp only [Option.some.injEq] at aj;subst aj;have bw:∀ j,j<s→w.cell? ((⟨b,base+off,none⟩:Addr).add j)=some (g (off+j)):=fun j aw=>by
     (have aS:off+j<cs.length:=by omega);rw [add_lit,tD];exact (al (off+j) _ (sm aS)).1
    have ao:=run_loadCells (P:=P) (w:=w) ⟨b,base+off,none⟩ s (fun j=>g (off+j)) bw;refine ⟨_,by simp only [loadVar,Sem.run_bind,gO a2,cd,Result.andThen_ok,if_true,run_sizeOf ai,ao];rfl,.agg _ _ ?_ ?_ ?_ ?_,rfl⟩
    ·simp;omega
    ·intro u hu;obtain ⟨x,_,rfl⟩:=sk.1 hu;exact I.dg x
    ·intro v ae;obtain ⟨j,aw,rfl⟩:=sk.1 ae;have aw:=List.mem_range.1 aw;(have aS:off+j<cs.length:=by omega);exact (al (off+j) _ (sm aS)).2.1
    ·intro j u v hu ae;simp only [ss,sa] at hu;obtain ⟨x,ak,rfl⟩:=hu;rw [sR] at ak;split at ak
     ·rename_i aw;rw [sZ] at ak;simp [aw] at ae;subst ae;exact (al (off+j) x ak).2.2
     ·simp at ak
   ·simp at aj
 | false =>
   rw [cd] at aj;simp only at aj;split at aj
   ·rename_i d a2;simp only [sa] at aj;obtain ⟨u,hu,rfl⟩:=aj;obtain ⟨ad,af,aG⟩:=al off u hu;exact ⟨g off,by simp [loadVar,gO a2,cd,load,Sem.run,ad],aG,I.dg u⟩
   ·simp at aj
theorem lj (ah:aK B U J S w H) {t:TypeId} {a r:I} {v:Value} (aj:dP P H t a=some r) (ad:Rel J S w a v) :
  ∃ x,(Instr.loadAt t v).run P w=.ok x w∧Rel J S w r x∧r.plain=true:=by
 unfold dP at aj;split at aj
 ·rename_i id off
  have key:∀ l:List I,(∃ b cur e,J[id]?=some b∧U b=some (.obj id)∧w.heap[b]?=some (.cells cur e (0,0))∧l.length≤cur.size∧(∀ o,¬ S b o) ∧
    ∀ (j:Nat) (u:I) (v:Value),l[j]?=some u→cur[j]?=some v→u.cQ=true∧v.oneCell'=true∧Rel J S w u v∧aV U J S w (.cell id j) u v)→ev P t l off=some r →
    ∃ x,(Instr.loadAt t v).run P w=.ok x w∧Rel J S w r x∧r.plain=true:=by
   rintro l ⟨b,cur,e,aC,aI,aR,bk,bc,bf⟩ aj;cases ad with
   | ptr id off au ag =>
     rw [aC] at ag;cases ag;have facts:∀ (j:Nat) (u:I),l[j]?=some u→w.cell? ⟨b,0+j,none⟩=some (cur.getD j undef)∧(cur.getD j undef).oneCell'=true∧Rel J S w u.view (cur.getD j undef):=by
      intro j u hu;(have aw:j<cur.size:=by have:=(sb.1 hu).1;omega);have c4:cur[j]?=some cur[j]:=sA _;obtain ⟨a_,gV,ba,_⟩:=bf j u _ hu c4;(have aO:cur.getD j undef=cur[j]:=by simp [Array.getD,aw]);rw [aO];exact ⟨by rw [cell_of_row w b _ cur e (0,0) aR,sS,c4],gV,ba.view a_⟩
     obtain ⟨x,ak,b0⟩:=AZ facts aj;rw [sS] at ak;exact ⟨x,by simp [Instr.loadAt,Instr.sureAddr,ak],b0⟩
  split at aj
  ·rename_i l aE;exact key l (ah.obj id _ aE) aj
  ·rename_i l g z aE;obtain ⟨b,cur,e,aC,aI,aR,bk,bc,bf,_⟩:=ah.obj id _ aE;exact key l ⟨b,cur,e,aC,aI,aR,bk,bc,bf⟩ aj
  ·simp at aj
 ·cases ad with
  | bT cells b o f h fr =>
    obtain ⟨x,ak,b0⟩:=AZ (J:=J) (S:=S) (w:=w) (b:=b) (base:=o) (g:=f) (fun j u hu=>⟨(h j u hu).2.1,(h j u hu).2.2.2,(fr j u hu).view (I.fu (h j u hu).2.2.1)⟩) aj;rw [tK] at ak;exact ⟨x,by simp [Instr.loadAt,Instr.sureAddr,ak],b0⟩
 ·simp at aj
theorem oX (ah:aK B U J S w H) {l:aH} (b6:∀ id,l≠.obj id) (cg:∀ id j,l≠.cell id j) {u:I} {v:Value} {vc:List I} (al:u.cells=some vc) (aj:Rel J S w u v) (aq:aV U J S w l u v) :
  ∃ S':Nat→Nat→Prop,(∀ b o,S b o→S' b o)∧(∀ b o,S' b o→S b o∨U b=some l)∧aK B U J S' w H∧v.cells.size=vc.length ∧
    (∀ x∈v.cells.toList,x.oneCell'=true) ∧
    ∀ (j:Nat) (bF:I) (bm:Value),(vc.map I.settle)[j]?=some bF→v.cells[j]?=some bm→bF.cQ=true∧Rel J S' w bF bm∧(bF.plain=true∨(j=0∧vc=[u]∧aV U J S' w l bF bm)):=by
 have single:vc=[u]→v.cells=#[v]→v.oneCell'=true→∃ S':Nat→Nat→Prop,(∀ b o,S b o→S' b o)∧(∀ b o,S' b o→S b o∨U b=some l)∧aK B U J S' w H∧v.cells.size=vc.length ∧
   (∀ x∈v.cells.toList,x.oneCell'=true) ∧
   ∀ (j:Nat) (bF:I) (bm:Value),(vc.map I.settle)[j]?=some bF→v.cells[j]?=some bm→bF.cQ=true∧Rel J S' w bF bm∧(bF.plain=true∨(j=0∧vc=[u]∧aV U J S' w l bF bm)):=by
  intro fJ ae ad;subst fJ;rw [ae];by_cases hu:u.cQ=true
  ·refine ⟨S,fun _ _ h=>h,fun _ _ h=>.inl h,ah,rfl,by simp [ad],fun j bF bm aw ed=>?_⟩;have ai:u.settle=u:=by
    unfold I.settle;split
    ·simp [I.cQ] at hu
    ·rfl
   cases j with
   | zero=>simp [ai] at aw ed;subst aw ed;exact ⟨hu,aj,.inr ⟨rfl,rfl,aq⟩⟩
   | succ j=>simp at aw
  ·obtain ⟨cells,len,z,rfl⟩:∃ cells len z,u=.ax cells len (.uniq z):=by
    unfold I.cQ at hu;split at hu
    ·exact ⟨_,_,_,rfl⟩
    ·simp at hu
   obtain ⟨a7,aJ,aQ,cn,_,r2,eI⟩:=ka ah aj aq;refine ⟨a7,aJ,aQ,ah.settle aJ (fun b o h=>(aQ b o h).imp id fun h=>⟨_,h,b6,cg⟩) cn,rfl,by simp [ad],fun j bF bm aw ed=>?_⟩;cases j with
   | zero=>simp [I.settle] at aw ed;subst aw ed;exact ⟨rfl,r2,.inr ⟨rfl,rfl,eI⟩⟩
   | succ j=>simp at aw
 cases aj with
 | agg as vs h p one r =>
   simp [I.cells] at al;subst al;refine ⟨S,fun _ _ h=>h,fun _ _ h=>.inl h,ah,h,one,fun j bF bm aw ed=>?_⟩;simp only [ss,sa] at aw;obtain ⟨x,ak,rfl⟩:=aw;have aB:=p x (sH ak);have ai:x.settle=x:=by
    unfold I.settle;split
    ·simp [I.plain] at aB
    ·rfl
   rw [ai];exact ⟨I.fu aB,r j x bm ak ed,.inl aB⟩
 | junk v=>simp [I.cells] at al
 | tuple as vs h p r=>simp [I.cells] at al
 | raw=>simp [I.cells] at al
 | cY=>simp [I.cells] at al
 | _=>simp [I.cells] at al;exact single al.symm rfl rfl
theorem Ext.last (ah:aK B U J S w H) (n:Nat):(J++[n])[H.length]?=some n:=by rw [←ah.cD];simp
theorem n4 (ah:aK B U J S w H) (l:aH) (b6:∀ id,l≠.obj id) (cg:∀ id j,l≠.cell id j) {cs:List I} {vs:Array Value} (e:TypeId) (hlen:cs.length≤vs.size)
  (al:∀ (j:Nat) (u:I) (v:Value),cs[j]?=some u→vs[j]?=some v→u.cQ=true∧v.oneCell'=true∧Rel J S w u v∧(u.plain=true∨(j=0∧aV U J S w l u v))) :
  ∃ az,bh U S w az S (w.alloc (.cells vs e))∧aK B az (J++[w.heap.size]) S (w.alloc (.cells vs e)) (H++[.cells cs]):=by
 classical
 let az:Nat→Option aH:=fun b=>if b=w.heap.size then some (.obj H.length) else if U b=some l then some (.cell H.length 0) else U b
 have bN:∀ b l',U b=some l'→b≠w.heap.size:=fun b l' h=>by have:=(ah.base b l' h).2;omega
 have aA:bh U S w az S (w.alloc (.cells vs e)):=by
  have fY:=kr ah (.cells vs e) (.obj H.length);refine ⟨fY.os,fY.tape,fY.output,fY.size,fY.cC,fY.set,fY.fresh,fun b ag=>?_⟩;by_cases h:b=w.heap.size
  ·exact .inr (by omega)
  ·refine .inl fun aU=>ag ?_;simp [az,h,aU]
 have bV:aK B az J S (w.alloc (.cells vs e)) H:=by
  refine ah.frame aA (fun b l' ag ao=>?_) (fun b o ai=>?_) (fun b l' ag=>?_)
  ·have h:=bN b l' ag;(have c7:l'≠l:=by rcases ao with ⟨id,rfl⟩ | ⟨id,j,rfl⟩ <;> intro e <;> first | exact b6 _ e.symm | exact cg _ _ e.symm);refine ⟨?_,heap_alloc_old w _ b (ah.base b l' ag).2,fun o ai=>ai⟩;simp [az,h,ag,c7]
  ·obtain ⟨v,ae⟩:=ah.cc b o ai;exact ⟨v,((aA.set b o ai).2).trans ae⟩
  ·by_cases h:b=w.heap.size
   ·subst h;exact ⟨ah.cV,by simp⟩
   ·have:∃ ct,U b=some ct:=by
     cases aU:U b with
     | none=>simp [az,h,aU] at ag
     | some ct=>exact ⟨ct,rfl⟩
    obtain ⟨ct,aU⟩:=this;have:=ah.base b ct aU;exact ⟨this.1,by simp;omega⟩
 refine ⟨az,aA,bV.push w.heap.size ⟨w.heap.size,vs,e,Ext.last ah _,by simp [az],heap_alloc_new w _,hlen,mO ah,fun j u v hu ae=>?_⟩⟩;obtain ⟨a_,ba,br,b8⟩:=al j u v hu ae;refine ⟨a_,ba,br.mono (Ext.append J _) aA.set,?_⟩;rcases b8 with b8 | ⟨rfl,b8⟩
 ·exact aV.b3 b8
 ·refine b8.mono (Ext.append J _) aA.set fun b ag=>⟨?_,heap_alloc_old w _ b (ah.base b l ag).2,fun o ai=>ai⟩;simp [az,bN b l ag,ag]
theorem FI (ah:aK B U J S w H) {l:aH} (b6:∀ id,l≠.obj id) (cg:∀ id j,l≠.cell id j) {u:I} {v:Value} {vc:List I} (al:u.cells=some vc) (aj:Rel J S w u v) (aq:aV U J S w l u v) (e:TypeId) :
  ∃ x w',(Instr.box e v).run P w=.ok x w'∧a0 B U J S w (H++[.cells (vc.map I.settle)]) (.ptr H.length 0) x w':=by
 obtain ⟨S',aJ,aQ,b9,bO,er,cT⟩:=oX ah b6 cg al aj aq
 obtain ⟨az,aA,jA⟩:=n4 (cs:=vc.map I.settle) (vs:=v.cells) b9 l b6 cg e (by simp [bO]) (fun j bF bm hu ae=>by
  obtain ⟨aC,aI,aR⟩:=cT j bF bm hu ae
  exact ⟨aC,er bm (by simpa using vb ae),aI,aR.imp id fun ⟨x,_,y⟩=>⟨x,y⟩⟩)
 refine ⟨.pointer (some ⟨w.heap.size,0,none⟩),w.alloc (.cells v.cells e),?_,az,_,S',Ext.append J _,(bh.settle aJ (fun b o h=>(aQ b o h).imp id fun h=>⟨_,h⟩)).trans aA,jA,
  .ptr _ _ _ (Ext.last ah _),aV.b3 rfl⟩
 simp [Instr.box,newVar,newRow,newObj,Sem.run,World.alloc_eq]
theorem FJ (ah:aK B U J S w H) {u:I} {v:Value} {vc:List I} (al:u.cells=some vc) (aB:vc.all I.plain=true) (aj:Rel J S w u v) (e:TypeId) :
  ∃ x w',(Instr.box e v).run P w=.ok x w'∧a0 B U J S w H (.bT vc) x w':=by
 rw [sv] at aB;have CN:v.cells.size=vc.length∧(∀ x∈v.cells.toList,x.oneCell'=true)∧∀ (j:Nat) (bF:I) (bm:Value),vc[j]?=some bF→v.cells[j]?=some bm→Rel J S w bF bm:=by
  have single:vc=[u]→v.cells=#[v]→v.oneCell'=true→v.cells.size=vc.length∧(∀ x∈v.cells.toList,x.oneCell'=true)∧∀ (j:Nat) (bF:I) (bm:Value),vc[j]?=some bF→v.cells[j]?=some bm→Rel J S w bF bm:=by
   intro fJ ae ad;subst fJ;rw [ae];refine ⟨rfl,by simp [ad],fun j bF bm aw ed=>?_⟩;cases j with
   | zero=>simp at aw ed;subst aw ed;exact aj
   | succ j=>simp at aw
  cases aj with
  | agg as vs h p one r =>
    simp [I.cells] at al;subst al;exact ⟨h,one,r⟩
  | junk v=>simp [I.cells] at al
  | tuple as vs h p r=>simp [I.cells] at al
  | raw=>simp [I.cells] at al
  | cY=>simp [I.cells] at al
  | _=>simp [I.cells] at al;exact single al.symm rfl rfl
 obtain ⟨bO,er,cT⟩:=CN
 let S':Nat→Nat→Prop:=fun b o=>S b o∨(b=w.heap.size∧o<vc.length)
 have hnew:(w.alloc (.cells v.cells e)).heap[w.heap.size]?=some (.cells v.cells e (0,0)):=heap_alloc_new w _;have bw:∀ o,(w.alloc (.cells v.cells e)).cell? ⟨w.heap.size,o,none⟩=v.cells[o]?:=fun o=>cell_of_row _ _ o v.cells e (0,0) hnew;have hold:∀ b o,S b o→(w.alloc (.cells v.cells e)).cell? ⟨b,o,none⟩=w.cell? ⟨b,o,none⟩:=fun b o ai=>by
  obtain ⟨x,ak⟩:=ah.cc b o ai;exact oW _ (mJ ak)
 have aA:bh U S w U S' (w.alloc (.cells v.cells e)):=by
  refine ⟨rfl,rfl,rfl,by simp,fun b ag _=>heap_alloc_old w _ b ag,fun b o ai=>⟨.inl ai,hold b o ai⟩,fun b o ai=>?_,fun b ag=>.inl ag⟩;rcases ai with ai | ⟨rfl,_⟩
  ·exact .inl ai
  ·exact .inr (.inr (sd _))
 refine ⟨.pointer (some ⟨w.heap.size,0,none⟩),w.alloc (.cells v.cells e),by simp [Instr.box,newVar,newRow,newObj,Sem.run,World.alloc_eq],U,J,S',Ext.refl J,aA,ah.frame aA (fun b l ag _=>?_) (fun b o ai=>?_) (fun b l ag=>?_),
  .bT _ _ _ (fun j=>v.cells.getD j undef) (fun j bF aw=>?_) (fun j bF aw=>?_),aV.b3 rfl⟩
 ·have aS:=(ah.base b l ag).2;exact ⟨ag,heap_alloc_old w _ b aS,fun o ai=>ai.resolve_right fun h=>by omega⟩
 ·rcases ai with ai | ⟨rfl,aq⟩
  ·obtain ⟨x,ak⟩:=ah.cc b o ai;exact ⟨x,(hold b o ai).trans ak⟩
  ·exact ⟨_,(bw o).trans (sA (by omega))⟩
 ·have:=ah.base b l ag;exact ⟨this.1,by simp;omega⟩
 ·have aS:=(sb.1 aw).1;have ed:v.cells[j]?=some (v.cells.getD j undef):=by simp [Array.getD,bO,aS]
  rw [sS];exact ⟨.inr ⟨rfl,aS⟩,(bw j).trans ed,aB bF (sH aw),er _ (by simpa using vb ed)⟩
 ·have aS:=(sb.1 aw).1;have ed:v.cells[j]?=some (v.cells.getD j undef):=by simp [Array.getD,bO,aS]
  exact (cT j bF _ aw ed).mono (Ext.refl J) aA.set
theorem Gz {t:TypeId} {z:List I} (h:zeroCells P t=some z):∃ i v,P.info? t=some i∧i.zero=some v∧z=v.cells.toList.map hx∧∀ x∈v.cells.toList,x.oneCell'=true:=by
 simp only [zeroCells,sg] at h;obtain ⟨v,⟨i,hi,ae⟩,h⟩:=h;split at h
 ·rename_i cT;simp at h;exact ⟨i,v,hi,ae,h.symm,sv.1 cT⟩
 ·simp at h
theorem hr {t:TypeId} {z:List I} (h:zeroCells P t=some z):∃ i v,P.info? t=some i∧i.zero=some v∧c1 J S w z v.cells.toList:=by
 obtain ⟨i,v,hi,ae,rfl,er⟩:=Gz h;refine ⟨i,v,hi,ae,by simp,fun j u bm hu bd=>?_⟩;simp only [ss,bd,sf,Option.some.injEq] at hu;subst hu;exact ⟨nh _,er bm (sH bd),lI _ _ _ _⟩
theorem i' {t:TypeId} {i:TypeInfo} {v:Value} (hi:P.info? t=some i) (ae:i.zero=some v):(zeroValue t).run P w=.ok v w:=by
 simp [zeroValue,typeInfo,hi,ae]
theorem FE (ah:aK B U J S w H) {t:TypeId} {z:List I} (bj:zeroCells P t=some z) (fN:Value) :
  ∃ x w',(Instr.alloc t true fN).run P w=.ok x w'∧a0 B U J S w (H++[.cells z]) (.ptr H.length 0) x w':=by
 obtain ⟨i,v,hi,ae,al⟩:=hr (J:=J) (S:=S) (w:=w) bj
 obtain ⟨az,aA,b9⟩:=n4 (cs:=z) (vs:=v.cells) ah .res (by simp) (by simp) t (by have:=al.len;simp at this;omega) (fun j u bm hu bd=>by
  obtain ⟨a,b,c⟩:=al.rel j u bm hu (by simpa using bd)
  exact ⟨I.fu a,b,c,.inl a⟩)
 refine ⟨.pointer (some ⟨w.heap.size,0,none⟩),w.alloc (.cells v.cells t),?_,az,_,S,Ext.append J _,aA,b9,.ptr _ _ _ (Ext.last ah _),aV.b3 rfl⟩;cases fN <;> simp [Instr.alloc,i' hi ae,newVar,newRow,newObj,Sem.run,World.alloc_eq]
theorem FF (ah:aK B U J S w H) {t:TypeId} {s:Nat} (bj:zeroCells P t=some [.ax [] 0 .full]) (fN:Value) :
  ∃ x w',(Instr.alloc t true fN).run P w=.ok x w'∧a0 B U J S w (H++[.cells [.ax [] 0 (.own s)]]) (.ptr H.length 0) x w':=by
 obtain ⟨i,v,hi,ae,al⟩:=hr (J:=J) (S:=S) (w:=w) bj
 obtain ⟨az,aA,b9⟩:=n4 (cs:=[.ax [] 0 (.own s)]) (vs:=v.cells) ah .res (by simp) (by simp) t (by have:=al.len;simp at this;simp;omega) (fun j u bm hu bd=>by
  cases j with
  | succ j=>simp at hu
  | zero =>
    simp at hu;subst hu;obtain ⟨a,b,c⟩:=al.rel 0 _ bm rfl (by simpa using bd);refine ⟨rfl,b,?_,.inr ⟨rfl,?_⟩⟩
    ·cases c with
     | b1 _ a=>exact .b1 _ a
     | ax _ _ _ bp o cap f al hle hu h aj=>exact .ax _ _ _ bp o cap f (fun h=>by cases h) hle (fun z h=>by cases h) h aj
    ·cases c with
     | b1 _ a=>cases a with
       | none=>trivial
       | some a=>exact .inl ⟨rfl,rfl,rfl⟩
     | ax _ _ _ b o cap f al hle hu h aj=>exact .inl ⟨rfl,al rfl,rfl⟩)
 refine ⟨.pointer (some ⟨w.heap.size,0,none⟩),w.alloc (.cells v.cells t),?_,az,_,S,Ext.append J _,aA,b9,.ptr _ _ _ (Ext.last ah _),aV.b3 rfl⟩;cases fN <;> simp [Instr.alloc,i' hi ae,newVar,newRow,newObj,Sem.run,World.alloc_eq]
theorem ih (z:List I):∀ n,(e5 n z).length=n*z.length
 | 0=>by simp [e5]
 | n+1=>by simp [e5,ih z n,Nat.succ_mul,tf]
theorem At (z:List I):∀ (n j:Nat),j<n*z.length→(e5 n z)[j]?=z[j % z.length]?
 | 0,j,h=>by simp at h
 | n+1,j,h=>by
   simp only [e5];rcases sT j z.length with aw | aw
   ·rw [sy aw,Nat.mod_eq_of_lt aw]
   ·rw [sJ aw,At z n _ (by rw [Nat.succ_mul] at h;omega),Nat.mod_eq_sub_mod aw]
theorem m9 {z:List I} {gm:Array Value} (h:c1 J S w z gm.toList) (bj:0<z.length) (n:Nat) :
  c1 J S w (e5 n z) ((Array.range (n*z.length)).map (fun i=>gm[i % gm.size]!)).toList:=by
 have ao:z.length=gm.size:=by simpa using h.len
 refine ⟨by simp [ih],fun j u v hu ae=>?_⟩;have aw:j<n*z.length:=by have:=(sb.1 hu).1;rwa [ih] at this
 rw [At z n j aw] at hu;have hm:j % z.length<z.length:=Nat.mod_lt _ bj;refine h.rel (j % z.length) u v hu ?_;simp [aw] at ae;rw [←ao] at ae;have nG:j % z.length<gm.size:=ao ▸ hm;rw [getElem!_pos gm _ nG] at ae;simp [nG,ae]
theorem ij {n bytes:Nat} (h:fv n bytes=true):n*bytes≤140737488355328∧1≤bytes:=by
 simpa [fv] using h
theorem FY (ah:aK B U J S w H) {t:TypeId} {n c:Int} {k k':IntKind} {z:List I} {sz:Nat} (aU:0≤n) (iM:n≤c) (bj:jk P t c.toNat=some (z,sz)) :
  ∃ x w',(Instr.makeSlice t (.int k n) (.int k' c)).run P w=.ok x w'∧a0 B U J S w (H++[.cells z]) (.ref H.length 0 n.toNat (some c.toNat) sz) x w':=by
 unfold jk at bj;split at bj
 ·rename_i e he;split at bj
  ·rename_i s lz bytes ai xe ag;split at bj
   ·rename_i al;obtain ⟨jE,h0,pj⟩:=al;simp only [Option.some.injEq,Prod.mk.injEq] at bj;obtain ⟨rfl,rfl⟩:=bj;obtain ⟨i,v,hi,ae,eC⟩:=hr (J:=J) (S:=S) (w:=w) xe;simp only [hi,sf,Option.some.injEq] at ag;subst ag;obtain ⟨r1,r2⟩:=ij pj;have fK:=m9 eC (by omega) c.toNat;have po:c.toNat≤140737488355328:=sL (ux _ r2) r1;(have eu:lz.length=v.cells.size:=by simpa using eC.len);(have bO:i.size=s:=by obtain ⟨jV,hi',h⟩:=m6 ai;rw [hi] at hi';cases hi';exact h);have l6:(i.bytes:Int)*c≤281474976710656:=by
     have:(i.bytes:Int)*c=((c.toNat*i.bytes:Nat):Int):=by rw [vV,tS (by omega),Int.mul_comm]
     rw [this];omega
    have dK:=run_make (P:=P) w t e i v he hi ae k k' n c aU iM l6 (by omega);have pH:(madeCells v.cells (c.toNat*i.size)).toList=((Array.range (c.toNat*lz.length)).map (fun i=>v.cells[i % v.cells.size]!)).toList:=by
     rw [bO,←jE];rfl
    rw [←pH] at fK
    obtain ⟨az,aA,b9⟩:=n4 (cs:=e5 c.toNat lz) (vs:=madeCells v.cells (c.toNat*i.size)) ah .res (by simp) (by simp) e (by have:=fK.len;simp at this ⊢;omega) (fun j u bm hu bd=>by
     obtain ⟨a,b,c⟩:=fK.rel j u bm hu (by simpa using bd)
     exact ⟨I.fu a,b,c,.inl a⟩)
    exact ⟨_,_,dK,az,_,S,Ext.append J _,aA,b9,.ref _ _ _ _ _ _ _ (Ext.last ah _) (fun m hm=>by simpa using hm) (by omega),aV.b3 rfl⟩
   ·simp at bj
  ·simp at bj
 ·simp at bj
theorem FZ (ah:aK B U J S w H) {t:TypeId} {c:Int} {k k':IntKind} {z:List I} {sz:Nat} (aU:0≤c) (bj:jk P t c.toNat=some (z,sz)) :
  ∃ x w',(Instr.makeSlice t (.int k c) (.int k' c)).run P w=.ok x w'∧a0 B U J S w H (.ax z c.toNat (.uniq sz)) x w':=by
 unfold jk at bj;split at bj
 ·rename_i e he;split at bj
  ·rename_i s lz bytes ai xe ag;split at bj
   ·rename_i al;obtain ⟨jE,h0,pj⟩:=al;simp only [Option.some.injEq,Prod.mk.injEq] at bj;obtain ⟨rfl,rfl⟩:=bj;obtain ⟨i,v,hi,ae,eC⟩:=hr (J:=J) (S:=S) (w:=w) xe;simp only [hi,sf,Option.some.injEq] at ag;subst ag;obtain ⟨r1,r2⟩:=ij pj;have fK:=m9 eC (by omega) c.toNat;have po:c.toNat≤140737488355328:=sL (ux _ r2) r1;(have eu:lz.length=v.cells.size:=by simpa using eC.len);(have bO:i.size=s:=by obtain ⟨jV,hi',h⟩:=m6 ai;rw [hi] at hi';cases hi';exact h);have l6:(i.bytes:Int)*c≤281474976710656:=by
     have:(i.bytes:Int)*c=((c.toNat*i.bytes:Nat):Int):=by rw [vV,tS (by omega),Int.mul_comm]
     rw [this];omega
    have dK:=run_make (P:=P) w t e i v he hi ae k k' c c (by omega) (Int.le_refl _) l6 (by omega);have pH:(madeCells v.cells (c.toNat*i.size)).toList=((Array.range (c.toNat*lz.length)).map (fun i=>v.cells[i % v.cells.size]!)).toList:=by
     rw [bO,←jE];rfl
    rw [←pH] at fK;have iN:=n5 ah fK [] e c.toNat c.toNat s h0 (by rw [ih,jE]) (sd _) (by simp only [maxLen];omega) (by rw [←fK.len,ih,jE];simp);simp only [sW,uy] at iN;exact ⟨_,_,dK,iN⟩
   ·simp at bj
  ·simp at bj
 ·simp at bj
end
end Go.Proofs.YtfakoboiahbhaaaGreat.Ab


namespace Go.Proofs.YtfakoboiahbhaaaGreat.Ab
open Go
section
variable {P:Program} {B:Nat} {J:List Nat} {w:World} {H:List ar} {U:Nat→Option aH} {S:Nat→Nat→Prop}
theorem lk:∀ (vs:List I) (off:Nat) (cs:List I),(setCells off vs cs).length=cs.length
 | [],_,_=>rfl
 | v::vs,off,cs=>by simp [setCells,lk vs]
theorem m3:∀ (vs:List I) (off:Nat) (cs:List I) (j:Nat),off+vs.length≤cs.length →
  (setCells off vs cs)[j]?=if off≤j∧j<off+vs.length then vs[j-off]? else cs[j]?
 | [],off,cs,j,_=>by simp [setCells];omega
 | v::vs,off,cs,j,h=>by
   simp only [sM] at h;rw [setCells,m3 vs (off+1) _ j (by simp;omega)];by_cases ad:j=off
   ·subst ad
    have:¬ (j+1≤j∧j<j+1+vs.length):=by omega
    rw [if_neg this,if_pos (by simp)];simp [show j<cs.length by omega]
   ·by_cases af:off+1≤j∧j<off+1+vs.length
    ·rw [if_pos af,if_pos (by simp;omega)];obtain ⟨k,rfl⟩:∃ k,j=off+1+k:=⟨j-(off+1),by omega⟩;rw [show off+1+k-off=k+1 by omega,show off+1+k-(off+1)=k by omega];simp
    ·rw [if_neg af,if_neg (by simp;omega)];rw [sj (fun e=>ad e.symm)]
theorem ja (cur vs:List Value) (off j:Nat) (h:off+vs.length≤cur.length) :
  (cur.take off++vs++cur.drop (off+vs.length))[j]?=if off≤j∧j<off+vs.length then vs[j-off]? else cur[j]?:=by
 have ay:(cur.take off).length=off:=by simp;omega
 by_cases ad:j<off
 ·rw [if_neg (by omega),sD,sy (by omega),sR,if_pos ad]
 ·by_cases af:j<off+vs.length
  ·rw [if_pos ⟨by omega,af⟩,sD,sJ (by omega),ay,sy (by omega)]
  ·rw [if_neg (by omega),sJ (by simp;omega)];simp only [sr,ay,sZ];congr 1;omega
theorem n9 (ah:aK B U J S w H) {id:Nat} {l l':List I} (aE:H[id]?=some (.cells l)) {b:Nat} {cur cur':Array Value} {e:TypeId} (aC:J[id]?=some b) (aI:U b=some (.obj id))
  (aR:w.heap[b]?=some (.cells cur e (0,0))) (bc:∀ o,¬ S b o) (L:aH) (b6:∀ id,L≠.obj id) (cg:∀ id j,L≠.cell id j) (ao:l'.length≤cur'.size) (zs:Nat)
  (al:∀ (j:Nat) (u:I) (v:Value),l'[j]?=some u→cur'[j]?=some v→u.cQ=true∧v.oneCell'=true∧Rel J S w u v ∧
   (u.plain=true∨aV U J S w (.cell id j) u v∨(j=zs∧aV U J S w L u v))) :
  ∃ az,bh U S w az S (w.setRow b cur')∧aK B az J S (w.setRow b cur') (H.set id (.cells l')):=by
 classical
 let az:Nat→Option aH:=fun au=>if U au=some L then some (.cell id zs) else U au
 have bw:∀ au o,au≠b→(w.setRow b cur').cell? ⟨au,o,none⟩=w.cell? ⟨au,o,none⟩:=fun au o h=>by
  unfold World.cell?;simp only [setRow_other w b au cur' h]
 have hz:∀ au o,S au o→au≠b:=fun au o ai e=>bc o (e ▸ ai);have yR:L≠.obj id:=b6 id;have jK:∀ au ct,U au=some ct→ct≠L→az au=some ct:=fun au ct h aN=>by
  have:¬ U au=some L:=by rw [h];intro e;cases e;exact aN rfl
  simp [az,h,aN]
 have bO:(w.setRow b cur').heap.size=w.heap.size:=by simp [World.setRow]
 have aA:bh U S w az S (w.setRow b cur'):=by
  refine ⟨rfl,rfl,rfl,by omega,fun au bt aN=>setRow_other w b au cur' (fun e=>by subst e;rw [aI] at aN;cases aN),fun au o ai=>⟨ai,bw au o (hz au o ai)⟩,fun au o ai=>.inl ai,fun au bt=>?_⟩;refine .inl fun aU=>bt ?_;simp [az,aU]
 refine ⟨az,aA,by simpa using ah.cD,fun bz o aq=>?_,fun au o ai=>?_,fun au ct bt=>?_,by rw [bO];exact ah.cV⟩
 ·by_cases g2:bz=id
  ·subst g2;rw [si (sb.1 aE).1] at aq;cases aq;refine ⟨b,cur',e,aC,jK b _ aI (fun e=>yR e.symm),setRow_heap w b cur cur' e (0,0) aR,ao,bc,fun j u v hu ae=>?_⟩;obtain ⟨a_,ba,br,b8⟩:=al j u v hu ae;refine ⟨a_,ba,br.mono (Ext.refl J) aA.set,?_⟩;rcases b8 with b8 | b8 | ⟨rfl,b8⟩
   ·exact aV.b3 b8
   ·exact b8.mono (Ext.refl J) aA.set fun au bt=>⟨jK au _ bt (fun e=>cg _ _ e.symm),setRow_other w b au cur' (fun e=>by subst e;rw [aI] at bt;cases bt),fun o ai=>ai⟩
   ·exact b8.mono (Ext.refl J) aA.set fun au bt=>⟨by simp [az,bt],setRow_other w b au cur' (fun e=>by subst e;rw [aI] at bt;cases bt;exact yR rfl),fun o ai=>ai⟩
  ·rw [sj (fun e=>g2 e.symm)] at aq;refine (ah.obj bz o aq).frame (Ext.refl J) aA.set fun au ct bt jL=>?_;have bN:au≠b:=fun e=>by
    subst e;rw [aI] at bt;cases bt;rcases jL with h | ⟨j,h⟩
    ·cases h;exact g2 rfl
    ·cases h
   exact ⟨jK au ct bt (by rcases jL with rfl | ⟨j,rfl⟩ <;> intro e <;> first | exact b6 _ e.symm | exact cg _ _ e.symm),setRow_other w b au cur' bN,fun o ai=>ai⟩
 ·obtain ⟨v,ae⟩:=ah.cc au o ai;exact ⟨v,(bw au o (hz au o ai)).trans ae⟩
 ·rw [bO];by_cases h:U au=some L
  ·exact ah.base au L h
  ·simp only [az,h,if_false] at bt;exact ah.base au ct bt
theorem F7 (ah:aK B U J S w H) {l:aH} (b6:∀ id,l≠.obj id) (cg:∀ id j,l≠.cell id j) {lo:Nat} {t:TypeId} {a u:I} {x v:Value} {H':List ar} (h:iz P lo H t a u=some H')
  (cb:Rel J S w a x) (aj:Rel J S w u v) (aq:aV U J S w l u v) (y:Value) :
  ∃ w',(Instr.storeAt t x v).run P w=.ok () w'∧a0 B U J S w H' .junk y w':=by
 have key:∀ {H H':List ar} (_:aK B U J S w H) {id off s:Nat} (_:bC P t=some s) {vc:List I} (_:u.cells=some vc) {ll l':List I} (_:H[id]?=some (.cells ll))
   (_:(if vc.length=s∧off+s≤ll.length then some (setCells off (vc.map I.settle) ll) else none)=some l') (_:Rel J S w (.ptr id off) x) (_:H'=H.set id (.cells l')),
   ∃ w' b cur,(Instr.storeAt t x v).run P w=.ok () w'∧a0 B U J S w H' .junk y w'∧J[id]?=some b∧(∃ e,w.heap[b]?=some (.cells cur e (0,0)))∧∃ cur' e,w'.heap[b]?=some (.cells cur' e (0,0))∧cur'.size=cur.size:=by
  intro H H' ah id off s ai vc fJ ll l' aE c7 cb b9;subst b9
  ·
     split at c7
     ·rename_i g1;obtain ⟨a_,ba⟩:=g1;simp only [Option.some.injEq] at c7;subst c7;obtain ⟨S',aJ,aQ,b9,bO,er,cT⟩:=oX ah b6 cg fJ aj aq;obtain ⟨b,cur,e,aC,aI,aR,bk,bc,bf⟩:=b9.obj id _ aE;cases cb with
      | ptr id off au ag =>
        rw [aC] at ag;cases ag;have cB:=run_storeCells_at P b off e v.cells.toList 0 cur w aR (by simp [bO];omega) er;simp only [tK] at cB;obtain ⟨az,aA,jA⟩:=n9 (cur':=(cur.toList.take off++v.cells.toList++cur.toList.drop (off+v.cells.toList.length)).toArray) (l':=setCells off (vc.map I.settle) ll) b9 aE aC aI aR bc l b6 cg
         (by simp [lk,bO];omega) off (fun j bF bm hu ae=>by
          rw [m3 _ _ _ _ (by simp;omega)] at hu;(have ae:(cur.toList.take off++v.cells.toList++cur.toList.drop (off+v.cells.toList.length))[j]?=some bm:=by simpa using ae);rw [ja _ _ _ _ (by simp [bO];omega)] at ae;simp only [List.length_map,tu,bO] at hu ae;split at hu
          ·rename_i aw;rw [if_pos aw] at ae;obtain ⟨d1,d2,d3⟩:=cT (j-off) bF bm hu (by simpa using ae);refine ⟨d1,er bm (sH ae),d2,?_⟩;rcases d3 with d3 | ⟨d3,_,d4⟩
           ·exact .inl d3
           ·exact .inr (.inr ⟨by omega,d4⟩)
          ·rename_i aw;rw [if_neg aw] at ae;obtain ⟨d1,d0,d2,d3⟩:=bf j bF bm hu (by simpa using ae)
           exact ⟨d1,d0,d2,.inr (.inl d3)⟩)
        refine ⟨_,b,cur,?_,⟨az,J,S',Ext.refl J,(bh.settle aJ (fun b o h=>(aQ b o h).imp (fun h=>h) fun h=>⟨_,h⟩)).trans aA,jA,.junk y,aV.b3 rfl⟩,aC,⟨e,aR⟩,_,e,setRow_heap w b cur _ e (0,0) aR,?_⟩
        ·simp only [Instr.storeAt,Instr.sureAddr,storeVar,Sem.run_bind,Sem.run_pure,Result.andThen_ok,run_sizeOf ai];rw [if_neg (by rw [bO,a_];simp)];exact cB
        ·simp [bO];omega
     ·simp at c7
 unfold iz at h;split at h
 ·rename_i id off s ai;split at h
  ·rename_i vc fJ;unfold hd at h;split at h
   ·split at h
    ·rename_i lo' ll aE;simp only [sa] at h;obtain ⟨l',c7,rfl⟩:=h;obtain ⟨w',_,_,q1,aW,_⟩:=key ah ai fJ aE c7 cb rfl;exact ⟨w',q1,aW⟩
    ·rename_i lo' ll g z aE;simp only [sa] at h;obtain ⟨l',c7,rfl⟩:=h;have aS:=(sb.1 aE).1;obtain ⟨b,cur,e,aC,aI,aR,bk,bc,bf,cap,c9,dr,dS,gw⟩:=ah.obj id _ aE;obtain ⟨w',au,Cd,q1,⟨az,bU,S',bR,bY,ea,fO⟩,cx,⟨fY,dC⟩,cur',cW,mX,xB⟩:=key (ah.oF aE) ai fJ (ll:=ll) (by rw [si aS]) c7 cb rfl;rw [aC] at cx;cases cx;rw [aR] at dC;cases dC;have aO:=ea.xG (g:=g) (z:=z) (by rw [si (by simpa using aS)]) (bR _ _ aC) (bR _ _ c9) dr dS mX (by rw [xB,gw]);rw [sU,sU] at aO;exact ⟨w',q1,az,bU,S',bR,bY,aO,fO⟩
    ·simp at h
   ·simp at h
  ·simp at h
 ·simp at h
theorem F9 (ah:aK B U J S w H) {l:aH} (b6:∀ id,l≠.obj id) (cg:∀ id j,l≠.cell id j) {lo:Nat} {t:TypeId} {a u:I} {x v:Value} {H':List ar} (h:kl P lo H t a u=some H')
  (cb:Rel J S w a x) (aj:Rel J S w u v) (aq:aV U J S w l u v) (y:Value) :
  ∃ w',(Instr.storeAt t x v).run P w=.ok () w'∧a0 B U J S w H' .junk y w':=by
 unfold kl at h;split at h
 ·rename_i id off c n z ai;split at h
  ·rename_i al;obtain ⟨r1,r2⟩:=Gl al.2 al.1 aj aq;unfold fM at h;split at h
   ·split at h
    ·rename_i lo' ll aE;simp only [sa] at h;obtain ⟨l',c7,rfl⟩:=h;split at c7
     ·rename_i cO;simp only [Option.some.injEq] at c7;subst c7;obtain ⟨b,cur,e,aC,aI,aR,bk,bc,bf⟩:=ah.obj id _ aE;cases cb with
      | ptr id off au ag =>
        rw [aC] at ag;cases ag;(have er:∃ b o cap,v=.slice (some ⟨b,o,none⟩) n cap:=by cases r1 with | raw _ _ _ b o cap=>exact ⟨b,o,cap,rfl⟩);(have dX:v.cells=#[v]∧v.oneCell'=true:=by obtain ⟨b,o,cap,rfl⟩:=er;exact ⟨rfl,rfl⟩);have cB:=run_storeCells_at P b off e v.cells.toList 0 cur w aR (by rw [dX.1];simp;omega) (by rw [dX.1];simp [dX.2]);simp only [tK,dX.1] at cB;obtain ⟨az,aA,jA⟩:=n9 (cur':=(cur.toList.take off++[v]++cur.toList.drop (off+1)).toArray) (l':=ll.set off (.raw c n z)) ah aE aC aI aR bc l b6 cg
         (by simp;omega) off (fun j bF bm hu ae=>by
          (have ae:(cur.toList.take off++[v]++cur.toList.drop (off+1))[j]?=some bm:=by simpa using ae);have c_:=ja cur.toList [v] off j (by simp;omega);simp only [List.length_singleton] at c_;rw [c_] at ae;by_cases aw:off=j
          ·subst aw;rw [si cO] at hu;cases hu;rw [if_pos ⟨by omega,by omega⟩] at ae;simp at ae;subst ae;exact ⟨rfl,dX.2,r1,.inr (.inr ⟨rfl,r2⟩)⟩
          ·rw [sj aw] at hu;rw [if_neg (by omega)] at ae;obtain ⟨d1,d0,d2,d3⟩:=bf j bF bm hu (by simpa using ae)
           exact ⟨d1,d0,d2,.inr (.inl d3)⟩)
        refine ⟨_,?_,az,J,S,Ext.refl J,aA,jA,.junk y,aV.b3 rfl⟩;simp only [Instr.storeAt,Instr.sureAddr,storeVar,Sem.run_bind,Sem.run_pure,Result.andThen_ok,run_sizeOf ai];rw [if_neg (by rw [dX.1];simp),dX.1];exact cB
     ·simp at c7
    ·simp at h
   ·simp at h
  ·simp at h
 ·simp at h
theorem F8 (ah:aK B U J S w H) {l:aH} (b6:∀ id,l≠.obj id) (cg:∀ id j,l≠.cell id j) {lo:Nat} {t:TypeId} {a u:I} {x v:Value} {H':List ar} (h:lH P lo H t a u=some H')
  (cb:Rel J S w a x) (aj:Rel J S w u v) (aq:aV U J S w l u v) (y:Value) :
  ∃ w',(Instr.storeAt t x v).run P w=.ok () w'∧a0 B U J S w H' .junk y w':=by
 unfold lH at h;split at h
 ·rename_i id off as c n z bs s ai;split at h
  ·rename_i GM;unfold fM at h;split at h
   ·split at h
    ·rename_i lo' ll aE;simp only [sa] at h;obtain ⟨l',c7,rfl⟩:=h;split at c7
     ·rename_i cO;simp only [Option.some.injEq] at c7;subst c7;obtain ⟨b,cur,e,aC,aI,aR,bk,bc,bf⟩:=ah.obj id _ aE;cases cb with
      | ptr id off au ag =>
        rw [aC] at ag;cases ag;cases aj with
        | cY _ _ _ _ _ vs hG la lb one oc ro od =>
          have jQ:∀ v,vs[as.length]?=some v→gv U S w l c n z v:=aq;have cB:=run_storeCells_at P b off e vs.toList 0 cur w aR (by simp;omega) one;simp only [tK] at cB;obtain ⟨az,aA,jA⟩:=n9 (cur':=(cur.toList.take off++vs.toList++cur.toList.drop (off+vs.toList.length)).toArray) (l':=setCells off (as++.ax c n (.own z)::bs) ll) ah aE aC aI aR bc l b6 cg
           (by simp [lk];omega) (off+as.length) (fun j bF bm hu ae=>by
            rw [m3 _ _ _ _ (by simp;omega)] at hu;(have ae:(cur.toList.take off++vs.toList++cur.toList.drop (off+vs.toList.length))[j]?=some bm:=by simpa using ae);rw [ja _ _ _ _ (by simp;omega)] at ae;simp only [sr,sM,tu] at hu ae;split at hu
            ·rename_i aw;rw [if_pos (by omega)] at ae;(have ae:vs[j-off]?=some bm:=by simpa using ae);have ad:=one bm (by simpa using vb ae);rcases vu (j-off) as.length with af | af | af
             ·rw [sy af] at hu;have aB:=la bF (sH hu);exact ⟨I.fu aB,ad,oc _ bF bm hu ae,.inl aB⟩
             ·rw [af,sJ (sd _),tR] at hu;simp only [ud,Option.some.injEq] at hu;subst hu;rw [af] at ae;exact ⟨rfl,ad,ro bm ae,.inr (.inr ⟨by omega,(jQ bm ae).at⟩)⟩
             ·obtain ⟨k,av⟩:∃ k,j-off=as.length+1+k:=⟨j-off-(as.length+1),by omega⟩;rw [av,sJ (by omega),show as.length+1+k-as.length=k+1 by omega,uz] at hu;rw [av] at ae;have aB:=lb bF (sH hu);exact ⟨I.fu aB,ad,od _ bF bm hu ae,.inl aB⟩
            ·rename_i aw;rw [if_neg (by omega)] at ae;obtain ⟨d1,d0,d2,d3⟩:=bf j bF bm hu (by simpa using ae)
             exact ⟨d1,d0,d2,.inr (.inl d3)⟩)
          refine ⟨_,?_,az,J,S,Ext.refl J,aA,jA,.junk y,aV.b3 rfl⟩;simp only [Instr.storeAt,Instr.sureAddr,storeVar,Sem.run_bind,Sem.run_pure,Result.andThen_ok,run_sizeOf ai];(have bO:(Value.agg vs).cells.size=s:=by show vs.size=s;omega);rw [if_neg (by rw [bO];simp)];exact cB
     ·simp at c7
    ·simp at h
   ·simp at h
  ·simp at h
 ·simp at h
theorem hJ (ah:aK B U J S w H) {l:aH} (b6:∀ id,l≠.obj id) (cg:∀ id j,l≠.cell id j) {u:I} {v:Value} (aj:Rel J S w u v) (aq:aV U J S w l u v) :
  a0 B U J S w H u v w:=by
 classical
 let az:Nat→Option aH:=fun b=>if U b=some l then some .res else U b
 have aA:bh U S w az S w:=⟨rfl,rfl,rfl,sd _,fun _ _ _=>rfl,fun _ _ h=>⟨h,rfl⟩,fun _ _ h=>.inl h,fun b ag=>.inl fun aU=>ag (by simp [az,aU])⟩;refine ⟨az,J,S,Ext.refl J,aA,ah.frame aA (fun b l' ag ao=>?_) ah.cc (fun b l' ag=>?_),aj,aq.mono (Ext.refl J) aA.set fun b ag=>⟨by simp [az,ag],rfl,fun _ h=>h⟩⟩
 ·have bN:l'≠l:=by rcases ao with ⟨id,rfl⟩ | ⟨id,j,rfl⟩ <;> intro e <;> first | exact b6 _ e.symm | exact cg _ _ e.symm
  exact ⟨by simp [az,ag,bN],rfl,fun _ h=>h⟩
 ·by_cases h:U b=some l
  ·exact ah.base b l h
  ·simp only [az,h,if_false] at ag;exact ah.base b l' ag
theorem z' (ah:aK B U J S w H) {l:aH} (b6:∀ id,l≠.obj id) (cg:∀ id j,l≠.cell id j) {cells:List I} {len z:Nat} (aU:len≠0) {v:Value}
  (aj:Rel J S w (.ax cells len (.uniq z)) v) (aq:aV U J S w l (.ax cells len (.uniq z)) v) :
  a0 B U J S w (H++[.cells cells]) (.ref H.length 0 len none z) v w:=by
 classical
 cases aj with
 | b1 c a=>exact absurd rfl aU
 | ax cells len c b o cap f al hle hu h fr=>exact absurd rfl (hu z)
 | cJ cells len z b o cap =>
   rcases aq with ⟨rfl,_,_⟩ | ⟨ad,aq,af,aG,a5,bL,⟨cur,e,bS,cI,cK⟩,cM⟩
   ·exact absurd rfl aU
   ·simp only at ad bS cM aq;subst aq
    let az:Nat→Option aH:=fun au=>if au=b then some (.obj H.length) else U au
    have aA:bh U S w az S w:=⟨rfl,rfl,rfl,sd _,fun _ _ _=>rfl,fun _ _ h=>⟨h,rfl⟩,fun _ _ h=>.inl h,fun au ag=>by
     by_cases dE:au=b
     ·subst dE;exact .inl (by simp [ad])
     ·simp only [az,dE,if_false] at ag;exact .inl ag⟩
    have bV:aK B az J S w H:=by
     refine ah.frame aA (fun au l' ag ao=>?_) ah.cc (fun au l' ag=>?_)
     ·have bN:au≠b:=fun e=>by
       subst e;rw [ad] at ag;cases ag;rcases ao with ⟨id,h⟩ | ⟨id,j,h⟩
       ·exact b6 _ h
       ·exact cg _ _ h
      exact ⟨by simp [az,bN,ag],rfl,fun _ h=>h⟩
     ·by_cases dE:au=b
      ·subst dE;exact ah.base _ l ad
      ·simp only [az,dE,if_false] at ag;exact ah.base au l' ag
    refine ⟨az,_,S,Ext.append J [b],aA,bV.push b ⟨b,cur,e,Ext.last ah _,by simp [az],bS,by rw [cI,bL];exact tt _ af,cM,fun j u v hu ae=>?_⟩,
     .ref _ _ _ _ _ b _ (Ext.last ah _) (by simp) af,aV.b3 rfl⟩
    obtain ⟨a_,ba,br⟩:=cK j u v hu ae;exact ⟨I.fu a_,ba,br.mono (Ext.append J _) aA.set,aV.b3 a_⟩
theorem xW (ah:aK B U J S w H) {u:I} {v:Value} {row:List I} (h:rowOf H u=some row) (aj:Rel J S w u v) (aN:u.cQ=true) :
  (row=[]∧∃ a c,v=.slice a 0 c)∨∃ b o n c vs,v=.slice (some ⟨b,o,none⟩) n c∧c1 J S w row vs∧(∀ j x,vs[j]?=some x→w.cell? ⟨b,o+j,none⟩=some x):=by
 unfold rowOf at h;split at h
 ·rename_i cells len c;simp at h;subst h;cases aj with
  | b1 c a=>exact .inl ⟨rfl,a,_,rfl⟩
  | cJ=>simp [I.cQ] at aN
  | ax _ _ _ b o cap f al hle hu bw b0 =>
    refine .inr ⟨b,o,len,cap,(List.range cells.length).map f,rfl,⟨by simp,fun j u v b_ bd=>?_⟩,fun j x ak=>?_⟩
    ·have aw:=(sb.1 b_).1;simp [aw] at bd;subst bd;exact ⟨(bw j u b_).2.2.1,(bw j u b_).2.2.2,b0 j u b_⟩
    ·simp only [ss,sa] at ak;obtain ⟨k,av,rfl⟩:=ak;(have aw:j<cells.length:=by have:=(sb.1 av).1;simpa using this);simp [aw] at av;subst av;exact (bw j _ (sm aw)).2.1
 ·rename_i id off len cap sz;split at h
  ·rename_i l aE;split at h
   ·rename_i hle;simp only [Option.some.injEq] at h;subst h;obtain ⟨b,cur,e,aC,aI,aR,bk,bc,bf⟩:=ah.obj id _ aE;cases aj with
    | ref id off len c sz au cap' ag al Da =>
      rw [aC] at ag;cases ag;refine .inr ⟨b,off,len,cap',(cur.toList.drop off).take (len*sz),rfl,⟨by simp;omega,fun j u v b_ bd=>?_⟩,fun j x ak=>?_⟩
      ·simp only [ss,sa] at b_;obtain ⟨y,aY,rfl⟩:=b_;rw [sR] at aY bd;split at aY
       ·rename_i aw;rw [if_pos aw] at bd;rw [sZ] at aY bd;obtain ⟨d1,d0,d2,_⟩:=bf (off+j) y v aY (by simpa using bd);exact ⟨I.dg y,d0,d2.view d1⟩
       ·simp at aY
      ·rw [sR] at ak;split at ak
       ·rw [sZ] at ak;rw [cell_of_row w b _ cur e (0,0) aR];simpa using ak
       ·simp at ak
   ·simp at h
  ·simp at h
 ·simp at h
theorem mH {u:I} {v:Value} {n:Nat} (h:lenOf u=some n) (aj:Rel J S w u v):∃ a c,v=.slice a n c:=by
 unfold lenOf at h;split at h
 ·simp at h;subst h;cases aj with
  | b1 c a=>exact ⟨_,_,rfl⟩
  | ax=>exact ⟨_,_,rfl⟩
  | cJ=>exact ⟨_,_,rfl⟩
 ·simp at h;subst h;cases aj with
  | ref=>exact ⟨_,_,rfl⟩
 ·simp at h
end
end Go.Proofs.YtfakoboiahbhaaaGreat.Ab


namespace Go.Proofs.YtfakoboiahbhaaaGreat.Ab
open Go
section
variable {P:Program} {B:Nat} {J:List Nat} {w:World} {H:List ar} {U:Nat→Option aH} {S:Nat→Nat→Prop}
theorem a0.after {b4:Nat→Option aH} {c0:List Nat} {a7:Nat→Nat→Prop} {bG:World} (bJ:Ext J c0) (aA:bh U S w b4 a7 bG) {H':List ar} {r:I} {v:Value} {w':World} (h:a0 B b4 c0 a7 bG H' r v w'):a0 B U J S w H' r v w':=by
 obtain ⟨az,bU,S',a,b,c,d,e⟩:=h;exact ⟨az,bU,S',bJ.trans a,aA.trans b,c,d,e⟩
theorem a0.settle {cells:List I} {len z:Nat} {v:Value} {w':World} {H':List ar} (h:a0 B U J S w H' (.ax cells len (.uniq z)) v w'):a0 B U J S w H' (.ax cells len (.own z)) v w':=by
 obtain ⟨az,bU,S',a,b,c,d,e⟩:=h;obtain ⟨a7,aJ,aQ,cn,r1,r2,eI⟩:=ka c d e;exact ⟨az,bU,a7,a,b.trans (bh.settle aJ fun b o h=>(aQ b o h).imp (fun h=>h) fun h=>⟨_,h⟩),c.settle aJ (fun b o h=>(aQ b o h).imp (fun h=>h) fun h=>⟨_,h,by simp,by simp⟩) cn,r2,eI⟩
theorem AR (t ty e:TypeId) (i:TypeInfo) (ay:P.underlying t=some (.slice e)) (hi:P.info? e=some i) (base:Option Addr) (eK ho:Nat) (hle:eK≤ho) (a:Option Addr) (c:Nat) :
  (Builtin.append_ #[t,t] ty #[.slice base eK ho,.slice a 0 c]).run P w=.ok (.slice base eK ho) w:=by
 cases a <;> cases base <;> simp [Builtin.append_,run_underlying ay,sizeOf,typeInfo,hi,Builtin.lenOf,hle,Builtin.firstCells,loadCells,loadCellsFrom,storeCells]
theorem AQ (w:World) (t ty e:TypeId) (i:TypeInfo) (ay:P.underlying t=some (.slice e)) (hi:P.info? e=some i)
  (g eK ho:Nat) (cur:Array Value) (ce:TypeId) (aO:w.heap[g]?=some (.cells cur ce (0,0)))
  (a:Addr) (m c:Nat) (news:List Value) (ao:news.length=m*i.size) (pM:∀ j u,news[j]?=some u→w.cell? (a.add j)=some u) (ad:∀ u∈news,u.oneCell'=true)
  (et:eK+m≤ho) (dF:eK*i.size+news.length≤cur.size) :
  (Builtin.append_ #[t,t] ty #[.slice (some ⟨g,0,none⟩) eK ho,.slice (some a) m c]).run P w =
   .ok (.slice (some ⟨g,0,none⟩) (eK+m) ho) (w.setRow g (cur.toList.take (eK*i.size)++news++cur.toList.drop (eK*i.size+news.length)).toArray):=by
 have aP:=run_firstCells_some (P:=P) w i.size m a m c news ao pM;have cB:=run_storeCells_at P g (eK*i.size) ce news 0 cur w aO (by simpa using dF) ad;simp only [tK] at cB;simp [Builtin.append_,run_underlying ay,sizeOf,typeInfo,hi,Builtin.lenOf,et,aP,Addr.add_lit,cB]
theorem Fb (w:World) (t ty e:TypeId) (i:TypeInfo) (ay:P.underlying t=some (.slice e)) (hi:P.info? e=some i)
  (g k eK ho:Nat) (cur:Array Value) (ce:TypeId) (aO:w.heap[g]?=some (.cells cur ce (0,0)))
  (a:Addr) (m c:Nat) (news:List Value) (ao:news.length=m*i.size) (pM:∀ j u,news[j]?=some u→w.cell? (a.add j)=some u) (ad:∀ u∈news,u.oneCell'=true)
  (et:eK+m≤ho) (dF:k+eK*i.size+news.length≤cur.size) :
  (Builtin.append_ #[t,t] ty #[.slice (some ⟨g,k,none⟩) eK ho,.slice (some a) m c]).run P w =
   .ok (.slice (some ⟨g,k,none⟩) (eK+m) ho) (w.setRow g (cur.toList.take (k+eK*i.size)++news++cur.toList.drop (k+eK*i.size+news.length)).toArray):=by
 have aP:=run_firstCells_some (P:=P) w i.size m a m c news ao pM;have cB:=run_storeCells_at P g (k+eK*i.size) ce news 0 cur w aO (by simpa using dF) ad;simp only [tK] at cB;simp [Builtin.append_,run_underlying ay,sizeOf,typeInfo,hi,Builtin.lenOf,et,aP,Addr.add_lit,cB]
section grow
variable {t ty e:TypeId} {i:TypeInfo} {z:Value} {Hf:List I}
theorem hX (ah:aK B U J S w H) (ay:P.underlying t=some (.slice e)) (hi:P.info? e=some i) (bj:i.zero=some z) (eu:z.cells.size=i.size) (bO:0<i.size)
  (v:Value) (len cap:Nat) (iT:List Value) (ae:((∃ a,v=.slice a 0 0)∧len=0∧cap=0∧iT=[])∨∃ b o,v=.slice (some ⟨b,o,none⟩) len cap∧∀ j x,iT[j]?=some x→w.cell? ⟨b,o+j,none⟩=some x)
  {cs:List I} (gF:c1 J S w cs iT) (fH:cs.length=len*i.size)
  {au cL m c:Nat} {new:List I} {news:List Value} (hnew:c1 J S w new news) (bw:∀ j x,news[j]?=some x→w.cell? ⟨au,cL+j,none⟩=some x) (cX:new.length=m*i.size)
  (hm:0<m) (nD:cap<len+m) (et:(len+m)*i.bytes≤140737488355328) (gD:1≤i.bytes) :
  ∃ x w',(Builtin.append_ #[t,t] ty #[v,.slice (some ⟨au,cL,none⟩) m c]).run P w=.ok x w'∧a0 B U J S w H (.ax (cs++new) (len+m) (.uniq i.size)) x w':=by
 have Db:len+m≤140737488355328:=sL (ux _ gD) et;have ep:len+m≤maxLen:=by simp only [maxLen];omega
 have eR:news.length=m*i.size:=hnew.len ▸ cX;have y9:iT.length=len*i.size:=gF.len ▸ fH;have kA:∀ j x,news[j]?=some x→w.cell? ((⟨au,cL,none⟩:Addr).add j)=some x:=fun j x h=>by rw [add_lit];exact bw j x h
 have fin:∀ fa:Nat,fa=grownCap w (len+m) cap e →
   a0 B U J S w H (.ax (cs++new) (len+m) (.uniq i.size)) (.slice (some ⟨w.heap.size,0,none⟩) (len+m) fa)
    (w.drew.alloc (.cells (iT.toArray++news.toArray++Builtin.zeroCells z.cells (fa-(len+m))) e)):=by
  rintro fa rfl;have fe:=grownCap_ge w (len+m) cap e;have hle:=grownCap_le_maxLen w (len+m) cap e ep;generalize grownCap w (len+m) cap e=fa at fe hle;have aA:=kq U S w;have h:=n5 (mo ah) ((gF.append hnew).mono (Ext.refl J) aA.set) (Builtin.zeroCells z.cells (fa-(len+m))).toList e (len+m) fa i.size bO
   (by rw [sr,fH,cX,tn]) fe hle (by
    rw [sr,y9,eR,←tn,tu,size_zeroCells,eu,←tn];congr 1;omega)
  have he:(iT++news++(Builtin.zeroCells z.cells (fa-(len+m))).toList).toArray=iT.toArray++news.toArray++Builtin.zeroCells z.cells (fa-(len+m)):=by
   apply Array.ext';simp
  rw [he] at h;exact a0.after (Ext.refl J) aA h
 rcases ae with ⟨⟨js,rfl⟩,rfl,rfl,rfl⟩ | ⟨b,o,rfl,hold⟩
 ·cases js with
  | none =>
    have aj:=run_append_nil (P:=P) w t ty e i z ay hi bj ⟨au,cL,none⟩ m c news eR kA hm (by omega) (by rw [sS] at et;omega);have f:=fin _ rfl;refine ⟨_,_,aj,?_⟩;simpa using f
  | some lJ =>
    have aj:=run_append_grow (P:=P) w t ty e i z ay hi bj lJ 0 0 [] (by simp) (by simp) ⟨au,cL,none⟩ m c news eR kA nD (by omega) (growslice_fits nD et);exact ⟨_,_,aj,fin _ rfl⟩
 ·have aj:=run_append_grow (P:=P) w t ty e i z ay hi bj ⟨b,o,none⟩ len cap iT y9 (fun j x h=>by rw [add_lit];exact hold j x h) ⟨au,cL,none⟩ m c news eR kA nD (by omega) (growslice_fits nD et);exact ⟨_,_,aj,fin _ rfl⟩
theorem BX (ah:aK B U J S w H) (ay:P.underlying t=some (.slice e)) (hi:P.info? e=some i) (bO:0<i.size) {l:aH} (b6:∀ id,l≠.obj id) (cg:∀ id j,l≠.cell id j)
  {cells:List I} {len b cap:Nat} {cur:Array Value} {ce:TypeId} (bD:U b=some l) (k0:cap≤maxLen) (ib:cells.length=len*i.size)
  (hf:w.heap[b]?=some (.cells cur ce (0,0))) (gK:cur.size=cap*i.size) (j0:∀ (j:Nat) (u:I) (v:Value),cells[j]?=some u→cur[j]?=some v→u.plain=true∧v.oneCell'=true∧Rel J S w u v)
  (hg:∀ o,¬ S b o)
  {au cL m c:Nat} {new:List I} {news:List Value} (hnew:c1 J S w new news) (bw:∀ j x,news[j]?=some x→w.cell? ⟨au,cL+j,none⟩=some x) (cX:new.length=m*i.size) (dF:len+m≤cap) :
  ∃ x w',(Builtin.append_ #[t,t] ty #[.slice (some ⟨b,0,none⟩) len cap,.slice (some ⟨au,cL,none⟩) m c]).run P w=.ok x w'∧a0 B U J S w H (.ax (cells++new) (len+m) (.uniq i.size)) x w':=by
 classical
 have eR:news.length=m*i.size:=hnew.len ▸ cX;have jF:(len+m)*i.size≤cap*i.size:=tt _ dF;rw [tn] at jF;have er:∀ u∈news,u.oneCell'=true:=fun u hu=>by
  obtain ⟨j,aw⟩:=tg.1 hu;have aS:=(sb.1 aw).1;exact (hnew.rel j _ u (sm (hnew.len ▸ aS)) aw).2.1
 have aj:=AQ w t ty e i ay hi b len cap cur ce hf ⟨au,cL,none⟩ m c news eR (fun j x h=>by rw [add_lit];exact bw j x h) er dF (by rw [gK];omega)
 let cur':Array Value:=(cur.toList.take (len*i.size)++news++cur.toList.drop (len*i.size+news.length)).toArray
 have ny:∀ bp o,bp≠b→(w.setRow b cur').cell? ⟨bp,o,none⟩=w.cell? ⟨bp,o,none⟩:=fun bp o h=>by
  unfold World.cell?;simp only [setRow_other w b bp cur' h]
 let az:Nat→Option aH:=fun bp=>if bp=b then some .res else U bp
 have kM:(w.setRow b cur').heap.size=w.heap.size:=by simp [World.setRow]
 have aA:bh U S w az S (w.setRow b cur'):=by
  refine ⟨rfl,rfl,rfl,by omega,fun bp ag aN=>setRow_other w b bp cur' (fun e=>by subst e;rw [bD] at aN;cases aN),fun bp o ai=>⟨ai,ny bp o (fun e=>hg o (e ▸ ai))⟩,fun _ _ ai=>.inl ai,fun bp ag=>?_⟩;by_cases h:bp=b
  ·subst h;exact .inl (by simp [bD])
  ·simp only [az,h,if_false] at ag;exact .inl ag
 refine ⟨_,_,aj,az,J,S,Ext.refl J,aA,ah.frame aA (fun bp l' ag ao=>?_) (fun bp o ai=>?_) (fun bp l' ag=>?_),.cJ _ _ _ _ _ _,.inr ⟨by simp [az],rfl,dF,k0,bO,by rw [sr,ib,cX,tn],⟨cur',ce,setRow_heap w b cur cur' ce (0,0) hf,?_,fun j u v hu ae=>?_⟩,hg⟩⟩
 ·have bN:bp≠b:=fun e=>by
   subst e;rw [bD] at ag;cases ag;rcases ao with ⟨id,h⟩ | ⟨id,j,h⟩
   ·exact b6 _ h
   ·exact cg _ _ h
  exact ⟨by simp [az,bN,ag],setRow_other w b bp cur' bN,fun _ h=>h⟩
 ·obtain ⟨v,ae⟩:=ah.cc bp o ai;exact ⟨v,(ny bp o (fun e=>hg o (e ▸ ai))).trans ae⟩
 ·rw [kM];by_cases h:bp=b
  ·subst h;exact ah.base _ l bD
  ·simp only [az,h,if_false] at ag;exact ah.base bp l' ag
 ·have ad:cur.toList.length=cap*i.size:=by simp [gK]
  show (List.toArray _).size=_;rw [tL,sr,sr,ta,tE,ad,eR,tM (by omega)];omega
 ·have ae:(cur.toList.take (len*i.size)++news++cur.toList.drop (len*i.size+news.length))[j]?=some v:=by simpa [cur'] using ae
  have ad:cur.toList.length=cap*i.size:=by simp [gK]
  rw [ja _ _ _ _ (by rw [ad];omega)] at ae;by_cases aw:j<cells.length
  ·rw [sy aw] at hu;rw [if_neg (by omega)] at ae;obtain ⟨a_,ba,br⟩:=j0 j u v hu (by simpa using ae);exact ⟨a_,ba,br.mono (Ext.refl J) aA.set⟩
  ·rw [sJ (by omega)] at hu;have nF:=(sb.1 hu).1;rw [if_pos ⟨by omega,by rw [eR,←cX];omega⟩] at ae;rw [ib] at hu;obtain ⟨a_,ba,br⟩:=hnew.rel _ u v hu ae;exact ⟨a_,ba,br.mono (Ext.refl J) aA.set⟩
theorem BW (ah:aK B U J S w H) (ay:P.underlying t=some (.slice e)) (hi:P.info? e=some i) (bO:0<i.size) {l:aH} (b6:∀ id,l≠.obj id) (cg:∀ id j,l≠.cell id j)
  {cells:List I} {len b k cap:Nat} {cur:Array Value} {ce:TypeId} {f:Nat→Value} (bD:U b=some l) (k0:cap≤maxLen) (ib:cells.length=len*i.size)
  (hf:w.heap[b]?=some (.cells cur ce (0,0))) (gK:cur.size=k+cap*i.size)
  (h:∀ (j:Nat) (u:I),cells[j]?=some u→S b (k+j)∧w.cell? ⟨b,k+j,none⟩=some (f j)∧u.plain=true∧(f j).oneCell'=true)
  (aj:∀ (j:Nat) (u:I),cells[j]?=some u→Rel J S w u (f j)) (hg:∀ o,k+cells.length≤o→¬ S b o)
  {au cL m c:Nat} {new:List I} {news:List Value} (hnew:c1 J S w new news) (bw:∀ j x,news[j]?=some x→w.cell? ⟨au,cL+j,none⟩=some x) (cX:new.length=m*i.size) (dF:len+m≤cap) :
  ∃ x w',(Builtin.append_ #[t,t] ty #[.slice (some ⟨b,k,none⟩) len cap,.slice (some ⟨au,cL,none⟩) m c]).run P w=.ok x w'∧a0 B U J S w H (.ax (cells++new) (len+m) (.own i.size)) x w':=by
 classical
 have eR:news.length=m*i.size:=hnew.len ▸ cX;have jF:(len+m)*i.size≤cap*i.size:=tt _ dF;rw [tn] at jF;have er:∀ u∈news,u.oneCell'=true:=fun u hu=>by
  obtain ⟨j,aw⟩:=tg.1 hu;have aS:=(sb.1 aw).1;exact (hnew.rel j _ u (sm (hnew.len ▸ aS)) aw).2.1
 have dK:=Fb w t ty e i ay hi b k len cap cur ce hf ⟨au,cL,none⟩ m c news eR (fun j x h=>by rw [add_lit];exact bw j x h) er dF (by rw [gK];omega)
 let cur':Array Value:=(cur.toList.take (k+len*i.size)++news++cur.toList.drop (k+len*i.size+news.length)).toArray
 have pr:∀ j:Nat,cur'[j]?=if k+len*i.size≤j∧j<k+len*i.size+news.length then news[j-(k+len*i.size)]? else cur[j]?:=fun j=>by
  have ad:cur.toList.length=k+cap*i.size:=by simp [gK]
  have:=ja cur.toList news (k+len*i.size) j (by rw [ad];omega);simpa [cur'] using this
 have kA:∀ j,(w.setRow b cur').cell? ⟨b,j,none⟩=cur'[j]?:=fun j=>cell_of_row _ b j cur' ce (0,0) (setRow_heap w b cur cur' ce (0,0) hf);have fG:∀ j,w.cell? ⟨b,j,none⟩=cur[j]?:=fun j=>cell_of_row _ b j cur ce (0,0) hf;have ny:∀ bp o,bp≠b→(w.setRow b cur').cell? ⟨bp,o,none⟩=w.cell? ⟨bp,o,none⟩:=fun bp o h=>by
  unfold World.cell?;simp only [setRow_other w b bp cur' h]
 let az:Nat→Option aH:=fun bp=>if bp=b then some .res else U bp
 let S':Nat→Nat→Prop:=fun bp o=>S bp o∨(bp=b∧k+cells.length≤o∧o<k+cells.length+new.length)
 have kM:(w.setRow b cur').heap.size=w.heap.size:=by simp [World.setRow]
 have cl:∀ bp o,S bp o→(w.setRow b cur').cell? ⟨bp,o,none⟩=w.cell? ⟨bp,o,none⟩:=fun bp o ai=>by
  by_cases ag:bp=b
  ·subst ag;have aq:o<k+cells.length:=by
    rcases sT o (k+cells.length) with h | h
    ·exact h
    ·exact absurd ai (hg o h)
   rw [kA,pr,if_neg (by omega),fG]
  ·exact ny bp o ag
 have aA:bh U S w az S' (w.setRow b cur'):=by
  refine ⟨rfl,rfl,rfl,by omega,fun bp ag aN=>setRow_other w b bp cur' (fun e=>by subst e;rw [bD] at aN;cases aN),fun bp o ai=>⟨.inl ai,cl bp o ai⟩,fun bp o ai=>?_,fun bp ag=>?_⟩
  ·rcases ai with ai | ⟨rfl,_⟩
   ·exact .inl ai
   ·exact .inr (.inl (by simp [bD]))
  ·by_cases h:bp=b
   ·subst h;exact .inl (by simp [bD])
   ·simp only [az,h,if_false] at ag;exact .inl ag
 have pL:∀ (j:Nat) (u:I),(cells++new)[j]?=some u→S' b (k+j)∧(w.setRow b cur').cell? ⟨b,k+j,none⟩=some (cur'.getD (k+j) undef)∧u.plain=true∧(cur'.getD (k+j) undef).oneCell'=true∧Rel J S' (w.setRow b cur') u (cur'.getD (k+j) undef):=by
  intro j u hu;rw [kA];by_cases aw:j<cells.length
  ·rw [sy aw] at hu;obtain ⟨ad,af,aG,a5⟩:=h j u hu;rw [fG] at af;(have al:cur'[k+j]?=some (f j):=by rw [pr,if_neg (by omega),af]);(have aO:cur'.getD (k+j) undef=f j:=by rw [sB,al];rfl);rw [aO];exact ⟨.inl ad,al,aG,a5,(aj j u hu).mono (Ext.refl J) aA.set⟩
  ·rw [sJ (by omega)] at hu;have nF:=(sb.1 hu).1;have me:j-cells.length<news.length:=hnew.len ▸ nF;have al:cur'[k+j]?=some (news[j-cells.length]):=by
    rw [pr,if_pos ⟨by omega,by omega⟩,←ib,Nat.add_sub_add_left];exact sm me
   (have aO:cur'.getD (k+j) undef=news[j-cells.length]:=by rw [sB,al];rfl);obtain ⟨a_,ba,br⟩:=hnew.rel _ u _ hu (sm me);rw [aO];exact ⟨.inr ⟨rfl,by omega,by omega⟩,al,a_,ba,br.mono (Ext.refl J) aA.set⟩
 refine ⟨_,_,dK,az,J,S',Ext.refl J,aA,ah.frame aA (fun bp l' ag ao=>?_) (fun bp o ai=>?_) (fun bp l' ag=>?_),
  .ax _ _ _ b k cap (fun j=>cur'.getD (k+j) undef) (by simp) dF (by simp) (fun j u hu=>let ⟨aC,aI,aR,bk,_⟩:=pL j u hu;⟨aC,aI,aR,bk⟩) (fun j u hu=>(pL j u hu).2.2.2.2),
  .inr ⟨by simp [az],trivial,rfl,dF,k0,bO,by rw [sr,ib,cX,tn],⟨cur',ce,setRow_heap w b cur cur' ce (0,0) hf,?_⟩,fun o aq ai=>?_⟩⟩
 ·have bN:bp≠b:=fun e=>by
   subst e;rw [bD] at ag;cases ag;rcases ao with ⟨id,h⟩ | ⟨id,j,h⟩
   ·exact b6 _ h
   ·exact cg _ _ h
  refine ⟨by simp [az,bN,ag],setRow_other w b bp cur' bN,fun o ai=>?_⟩;rcases ai with ai | ⟨h,_⟩
  ·exact ai
  ·exact absurd h bN
 ·rcases ai with ai | ⟨rfl,ad,af⟩
  ·obtain ⟨v,ae⟩:=ah.cc bp o ai;exact ⟨v,(cl bp o ai).trans ae⟩
  ·obtain ⟨u,hu⟩:∃ u,(cells++new)[o-k]?=some u:=⟨_,sm (by simp;omega)⟩;have:=(pL (o-k) u hu).2.1;rw [Nat.add_sub_cancel' (by omega)] at this;exact ⟨_,this⟩
 ·rw [kM];by_cases h:bp=b
  ·subst h;exact ah.base _ l bD
  ·simp only [az,h,if_false] at ag;exact ah.base bp l' ag
 ·have ad:cur.toList.length=k+cap*i.size:=by simp [gK]
  show (List.toArray _).size=k+cap*i.size;rw [tL,sr,sr,ta,tE,ad,eR,tM (by omega)];omega
 ·simp only [sr] at aq;rcases ai with ai | ⟨_,ad,af⟩
  ·exact hg o (by omega) ai
  ·omega
end grow
theorem yl (ah:aK B U J S w H) {x:I} {cy:Value} {m:Nat} {new:List I} (h:appended H x=some (m,new)) (aj:Rel J S w x cy) (aN:x.cQ=true) :
  (new=[]∧∃ a c,cy=.slice a m c)∨∃ b o c vs,cy=.slice (some ⟨b,o,none⟩) m c∧c1 J S w new vs∧(∀ j y,vs[j]?=some y→w.cell? ⟨b,o+j,none⟩=some y):=by
 unfold appended at h;split at h
 ·rename_i hb row hm cP;simp only [Option.some.injEq,Prod.mk.injEq] at h;obtain ⟨rfl,rfl⟩:=h;obtain ⟨a,c,ae⟩:=mH hm aj;rcases xW ah cP aj aN with ⟨ad,n,dU,af⟩ | ⟨b,o,n,dU,vs,af,aG,a5⟩
  ·rw [af] at ae;cases ae;exact .inl ⟨ad,_,_,af⟩
  ·rw [af] at ae;cases ae;exact .inr ⟨b,o,_,vs,af,aG,a5⟩
 ·simp at h
end
end Go.Proofs.YtfakoboiahbhaaaGreat.Ab


namespace Go.Proofs.YtfakoboiahbhaaaGreat.Ab
open Go
section
variable {P:Program} {B:Nat} {J:List Nat} {w:World} {H:List ar} {U:Nat→Option aH} {S:Nat→Nat→Prop}
theorem mI (ah:aK B U J S w H) {l:aH} (b6:∀ id,l≠.obj id) (cg:∀ id j,l≠.cell id j) {u:I} {v:Value} (aj:Rel J S w u v) (aq:aV U J S w l u v) :
  ∃ S':Nat→Nat→Prop,(∀ b o,S b o→S' b o)∧(∀ b o,S' b o→S b o∨U b=some l)∧aK B U J S' w H∧Rel J S' w u.view v:=by
 by_cases hu:u.cQ=true
 ·exact ⟨S,fun _ _ h=>h,fun _ _ h=>.inl h,ah,aj.view hu⟩
 ·obtain ⟨cells,len,z,rfl⟩:∃ cells len z,u=.ax cells len (.uniq z):=by
   unfold I.cQ at hu;split at hu
   ·exact ⟨_,_,_,rfl⟩
   ·simp at hu
  obtain ⟨a7,aJ,aQ,cn,r1,_,_⟩:=ka ah aj aq;exact ⟨a7,aJ,aQ,ah.settle aJ (fun b o h=>(aQ b o h).imp (fun h=>h) fun h=>⟨_,h,b6,cg⟩) cn,r1⟩
theorem ym {u:I} {r:Nat×List I} (h:appended H u=some r):appended H u.view=some r:=by
 cases u <;> try exact h
 ·rename_i cells len c;cases c <;> exact h
 ·simp [appended,lenOf] at h
theorem Fc (t dp ty e:TypeId) (i:TypeInfo) (z:Value) (dd:IntKind) (ay:P.underlying t=some (.slice e)) (xd:P.underlying dp=some (.int dd)) (hi:P.info? e=some i) (bj:i.zero=some z)
  (base:Option Addr) (n:Int) (aU:0<n) (ag:n.toNat*i.bytes≤140737488355328) (gD:1≤i.bytes) (bO:0<i.size) :
  (Builtin.append_ #[t,dp] ty #[.slice base 0 0,.int .i64 n]).run P w =
   .ok (.slice (some ⟨w.heap.size,0,none⟩) n.toNat (grownCap w n.toNat 0 e)) (w.drew.alloc (.cells (Builtin.zeroCells z.cells n.toNat++Builtin.zeroCells z.cells (grownCap w n.toNat 0 e-n.toNat)) e)):=by
 have aN:n.toNat≤140737488355328:=sL (ux _ gD) ag;have bG:IntKind.i64.wrap n=n:=IntWalk.i64_in _ (by omega);have kF:n*(i.bytes:Int)=((n.toNat*i.bytes:Nat):Int):=by rw [vV,tS (by omega)]
 have pn:Builtin.nextslicecap n.toNat 0=n.toNat:=by unfold Builtin.nextslicecap;rw [if_pos (by omega)]
 have ad:¬ n<0:=by omega
 have af:¬ ((281474976710656:Int)<n*i.bytes):=by rw [kF];omega
 have a5:¬ (281474976710656<n.toNat*i.bytes):=by omega
 have bL:¬ (9223372036854775807<max n 0):=by omega
 have bS:n.toNat*i.size≠0:=by have:0<n.toNat:=by omega
                              have:=vW this bO;omega
 have cI:¬ n≤0:=by omega
 cases base <;> simp [Builtin.append_,run_underlying ay,run_underlying xd,sizeOf,typeInfo,hi,asInt,asIntOf,bG,ad,af,cI,bL,a5,bS,Builtin.lenOf,Builtin.firstCells,loadCells,loadCellsFrom,pn,zeroValue,bj,grownCap,Question.forced,newRow]
theorem Ba (ah:aK B U J S w H) {t dp:TypeId} (ty:TypeId) {u x r:I} {v cy:Value} {ct dI:aH} (b6:∀ id,ct≠.obj id) (cg:∀ id j,ct≠.cell id j) (de:∀ id,dI≠.obj id) (df:∀ id j,dI≠.cell id j) (bN:ct≠dI)
  (h:e' P H t dp u x=some r) (aj:Rel J S w u v) (aq:aV U J S w ct u v) (ef:Rel J S w x cy) (h7:aV U J S w dI x cy) :
  ∃ y w',(Builtin.append_ #[t,dp] ty #[v,cy]).run P w=.ok y w'∧a0 B U J S w H r y w':=by
 obtain ⟨a7,aJ,aQ,bV,jU⟩:=mI ah de df ef h7;have dv:bh U S w U a7 w:=bh.settle aJ fun b o h=>(aQ b o h).imp (fun h=>h) fun h=>⟨_,h⟩;have dw:Rel J a7 w u v:=aj.mono (Ext.refl J) dv.set
 have jR:aV U J a7 w ct u v:=aq.mono (Ext.refl J) dv.set fun b ag=>⟨ag,rfl,fun o ai=>by
  rcases aQ b o ai with h | h
  ·exact h
  ·rw [ag] at h;cases h;exact absurd rfl bN⟩
 suffices ai:∃ y w',(Builtin.append_ #[t,dp] ty #[v,cy]).run P w=.ok y w'∧a0 B U J a7 w H r y w' by
  obtain ⟨y,w',a,b⟩:=ai;exact ⟨y,w',a,a0.after (Ext.refl J) dv b⟩
 clear aj aq ef h7 dv aJ aQ ah;unfold e' at h;split at h
 ·rename_i e ay;split at h
  ·rename_i sz bytes z ai ag bj;obtain ⟨i,hi,rfl⟩:=m6 ai;simp only [hi,sf,Option.some.injEq] at ag;subst ag;obtain ⟨jV,c',hi',dY,fc⟩:=hr (J:=J) (S:=a7) (w:=w) bj;rw [hi] at hi';cases hi';(have kP:z.length=c'.cells.size:=by simpa using fc.len);split at h
   ·rename_i nx;obtain rfl:t=dp:=Nat.eq_of_beq_eq_true nx;split at h
    ·rename_i m new eP;replace eP:=ym eP;split at h
     ·rename_i al;obtain ⟨cX,bO,eu,zh⟩:=al;(have gH:c'.cells.size=i.size:=by omega);obtain ⟨G1,G2⟩:=ij zh;have ak:=yl bV eP jU (I.fu (I.dg x));have zero:m=0→∀ base len cap,v=.slice base len cap→len≤cap→(Builtin.append_ #[t,t] ty #[v,cy]).run P w=.ok v w:=by
       rintro rfl base len cap rfl hle;rcases ak with ⟨_,js,c,rfl⟩ | ⟨b,o,c,vs,rfl,_,_⟩
       ·exact AR (P:=P) (w:=w) t ty e i ay hi base len cap hle js c
       ·exact AR (P:=P) (w:=w) t ty e i ay hi base len cap hle _ c
      have oB:0<m→∃ b o c vs,cy=.slice (some ⟨b,o,none⟩) m c∧c1 J a7 w new vs∧(∀ j y,vs[j]?=some y→w.cell? ⟨b,o+j,none⟩=some y):=by
       intro hm;rcases ak with ⟨aU,_,c,rfl⟩ | h
       ·rw [aU] at cX;simp at cX;have:=vW hm bO;omega
       ·exact h
      split at h
      ·rename_i cells len c;split at h
       ·
        split at h
        ·rename_i hm;cases h;have ae:∃ base cap,v=.slice base len cap∧len≤cap:=by
          cases dw with
          | b1=>exact ⟨_,_,rfl,sd _⟩
          | ax _ _ _ b o cap f _ hle=>exact ⟨_,_,rfl,hle⟩
         obtain ⟨base,cap,ae,hle⟩:=ae;exact ⟨v,w,zero hm base len cap ae hle,a0.same bV dw rfl⟩
        ·simp at h
       ·
        have ae:((∃ a,v=.slice a 0 0)∧len=0∧cells=[])∨∃ b o,∃ f:Nat→Value,v=.slice (some ⟨b,o,none⟩) len len ∧
          (∀ (j:Nat) (u:I),cells[j]?=some u→a7 b (o+j)∧w.cell? ⟨b,o+j,none⟩=some (f j)∧u.plain=true∧(f j).oneCell'=true)∧(∀ (j:Nat) (u:I),cells[j]?=some u→Rel J a7 w u (f j)):=by
         cases dw with
         | b1 _ a=>exact .inl ⟨⟨a,rfl⟩,rfl,rfl⟩
         | ax _ _ _ b o cap f al hle hu bw b0=>exact .inr ⟨b,o,f,by rw [al rfl],bw,b0⟩
        split at h
        ·rename_i hm;split at h
         ·rename_i aU;cases h;subst aU;rcases ae with ⟨⟨a,ae⟩,_,_⟩ | ⟨b,o,f,ae,_,_⟩
          ·exact ⟨v,w,zero hm _ _ _ ae (sd _),U,J,a7,Ext.refl J,bh.refl _ _ _,bV,ae ▸ .b1 _ _,by rw [ae];cases a <;> first | trivial | exact .inl ⟨rfl,rfl,rfl⟩⟩
          ·exact ⟨v,w,zero hm _ _ _ ae (sd _),U,J,a7,Ext.refl J,bh.refl _ _ _,bV,ae ▸ .cJ _ _ _ _ _ _,by rw [ae];exact .inl ⟨rfl,rfl,rfl⟩⟩
         ·cases h;rcases ae with ⟨⟨a,ae⟩,rfl,_⟩ | ⟨b,o,f,ae,_,_⟩
          ·exact ⟨v,w,zero hm _ _ _ ae (sd _),a0.same bV dw rfl⟩
          ·exact ⟨v,w,zero hm _ _ _ ae (sd _),a0.same bV dw rfl⟩
        ·rename_i hm;split at h
         ·rename_i g1;obtain ⟨et,cA⟩:=g1;cases h;obtain ⟨q1,aW⟩:=ij et;obtain ⟨au,cL,dU,vs,rfl,hnew,bw⟩:=oB (by omega);rcases ae with ⟨ae,rfl,rfl⟩ | ⟨b,o,f,ae,fG,mn⟩
          ·exact hX bV ay hi dY gH bO v 0 0 [] (.inl ⟨ae,rfl,rfl,rfl⟩) ⟨rfl,by simp⟩ (by simp) hnew bw cX (by omega) (by omega) q1 aW
          ·refine hX bV ay hi dY gH bO v len len ((List.range cells.length).map f) (.inr ⟨b,o,ae,fun j y aY=>?_⟩) ⟨by simp,fun j bF bm b_ bd=>?_⟩ cA hnew bw cX (by omega) (by omega) q1 aW
           ·simp only [ss,sa] at aY;obtain ⟨k,av,rfl⟩:=aY;(have aw:j<cells.length:=by have:=(sb.1 av).1;simpa using this);simp [aw] at av;subst av;exact (fG j _ (sm aw)).2.1
           ·have aw:=(sb.1 b_).1;simp [aw] at bd;subst bd;exact ⟨(fG j bF b_).2.2.1,(fG j bF b_).2.2.2,mn j bF b_⟩
         ·simp at h
       ·
        rename_i cS;split at h
        ·rename_i g1;obtain ⟨rfl,et⟩:=g1;cases h;obtain ⟨q1,aW⟩:=ij et;by_cases hm:m=0
         ·have pK:new=[]:=vX (by rw [cX,hm];simp);have ae:∃ base cap,v=.slice base len cap∧len≤cap:=by
           cases dw with
           | b1=>exact ⟨_,_,rfl,sd _⟩
           | ax _ _ _ b o cap f _ hle=>exact ⟨_,_,rfl,hle⟩
          obtain ⟨base,cap,ae,hle⟩:=ae;refine ⟨v,w,zero hm base len cap ae hle,?_⟩;rw [pK,hm,sW,tK];exact hJ bV b6 cg dw jR
         ·have hm:0<m:=Nat.pos_of_ne_zero hm;obtain ⟨au,cL,dU,vs,rfl,hnew,bw⟩:=oB hm;cases dw with
          | b1 _ a =>
            obtain ⟨y,w',aC,aI⟩:=hX (ty:=ty) bV ay hi dY gH bO (.slice a 0 0) 0 0 [] (.inl ⟨⟨a,rfl⟩,rfl,rfl,rfl⟩) (cs:=[]) ⟨rfl,by simp⟩ (by simp) hnew bw cX hm (by omega) q1 aW;exact ⟨y,w',aC,aI.settle⟩
          | ax _ _ _ b o cap f al hle hu fG mn =>
            have gF:c1 J a7 w cells ((List.range cells.length).map f):=⟨by simp,fun j bF bm b_ bd=>by
             have aw:=(sb.1 b_).1;simp [aw] at bd;subst bd
             exact ⟨(fG j bF b_).2.2.1,(fG j bF b_).2.2.2,mn j bF b_⟩⟩
            have cA:∀ j y,((List.range cells.length).map f)[j]?=some y→w.cell? ⟨b,o+j,none⟩=some y:=fun j y aY=>by
             simp only [ss,sa] at aY;obtain ⟨k,av,rfl⟩:=aY;(have aw:j<cells.length:=by have:=(sb.1 av).1;simpa using this);simp [aw] at av;subst av;exact (fG j _ (sm aw)).2.1
            have y7:cells.length=len*i.size→cap<len+m→_:=fun ao aO =>
             hX (ty:=ty) (c:=dU) bV ay hi dY gH bO (.slice (some ⟨b,o,none⟩) len cap) len cap _ (.inr ⟨b,o,rfl,cA⟩) gF ao hnew bw cX hm aO q1 aW
            rcases jR with ⟨aU,ad,af⟩ | ⟨bR,bY,_,ea,fO,_,k9,⟨cur,ce,k_,mU⟩,mV⟩
            ·obtain ⟨y,w',aC,aI⟩:=y7 (by rw [af,aU];simp) (by omega);exact ⟨y,w',aC,aI.settle⟩
            ·simp only at bR k_ mU mV;by_cases dF:len+m≤cap
             ·exact BW bV ay hi bO b6 cg bR fO k9 k_ mU fG mn mV hnew bw cX dF
             ·obtain ⟨y,w',aC,aI⟩:=y7 k9 (by omega);exact ⟨y,w',aC,aI.settle⟩
        ·simp at h
       ·
        rename_i cS;split at h
        ·rename_i g1;obtain ⟨rfl,et⟩:=g1;cases h;obtain ⟨q1,aW⟩:=ij et;by_cases hm:m=0
         ·have pK:new=[]:=vX (by rw [cX,hm];simp);have ae:∃ base cap,v=.slice base len cap∧len≤cap:=by
           cases dw with
           | b1=>exact ⟨_,_,rfl,sd _⟩
           | ax _ _ _ b o cap f _ hle=>exact ⟨_,_,rfl,hle⟩
           | cJ _ _ _ b o cap =>
             refine ⟨_,_,rfl,?_⟩;rcases jR with ⟨aU,ad,af⟩ | ⟨_,_,h,_⟩
             ·omega
             ·exact h
          obtain ⟨base,cap,ae,hle⟩:=ae;refine ⟨v,w,zero hm base len cap ae hle,?_⟩;rw [pK,hm,sW,tK];exact hJ bV b6 cg dw jR
         ·have hm:0<m:=Nat.pos_of_ne_zero hm;obtain ⟨au,cL,dU,vs,rfl,hnew,bw⟩:=oB hm;cases dw with
          | b1 _ a =>
            exact hX (ty:=ty) bV ay hi dY gH bO (.slice a 0 0) 0 0 [] (.inl ⟨⟨a,rfl⟩,rfl,rfl,rfl⟩) (cs:=[]) ⟨rfl,by simp⟩ (by simp) hnew bw cX hm (by omega) q1 aW
          | ax _ _ _ b o cap f al hle hu fG mn=>exact absurd rfl (hu _)
          | cJ _ _ _ b o cap =>
            rcases jR with ⟨aU,ad,af⟩ | ⟨bR,bY,ea,fO,_,k9,⟨cur,ce,k_,mU,z3⟩,mV⟩
            ·refine hX (ty:=ty) bV ay hi dY gH bO (.slice (some ⟨b,o,none⟩) len cap) len cap [] (.inr ⟨b,o,rfl,by simp⟩) ?_ (by rw [af,aU];simp) hnew bw cX hm (by omega) q1 aW;rw [af];exact ⟨rfl,by simp⟩
            ·simp only at bR bY k_ mV;subst bY;(have jF:cells.length≤cur.size:=by rw [mU,k9];exact tt _ ea);by_cases dF:len+m≤cap
             ·exact BX bV ay hi bO b6 cg bR fO k9 k_ mU z3 mV hnew bw cX dF
             ·refine hX (ty:=ty) bV ay hi dY gH bO (.slice (some ⟨b,0,none⟩) len cap) len cap (cur.toList.take cells.length) (.inr ⟨b,0,rfl,fun j y aY=>?_⟩) ⟨by simp;omega,fun j bF bm b_ bd=>?_⟩ k9 hnew bw cX hm (by omega) q1 aW
              ·rw [sR] at aY;split at aY
               ·rw [sS,cell_of_row w b _ cur ce (0,0) k_];simpa using aY
               ·simp at aY
              ·rw [sR] at bd;split at bd
               ·exact z3 j bF bm b_ (by simpa using bd)
               ·simp at bd
        ·simp at h
      ·
       rename_i id off len cap oC;split at h
       ·rename_i g1;obtain ⟨rfl,rfl,hm⟩:=g1;simp only [sg] at h;obtain ⟨fN,hold,h⟩:=h;split at h
        ·rename_i et;cases h;obtain ⟨q1,aW⟩:=ij et;obtain ⟨au,cL,dU,vs,rfl,hnew,bw⟩:=oB hm;have fH:fN.length=cap*i.size:=by
          simp only [rowOf] at hold;split at hold
          ·split at hold
           ·simp at hold;rw [←hold];simp;omega
           ·simp at hold
          ·simp at hold
         have fJ:∃ b o,v=.slice (some ⟨b,o,none⟩) cap cap:=by
          cases dw with
          | ref _ _ _ _ _ b cap' _ al _=>exact ⟨b,off,by rw [al cap rfl]⟩
         obtain ⟨dB,G5,gd⟩:=fJ;rcases xW bV hold dw rfl with ⟨Dx,n,c,ae⟩ | ⟨b,o,n,c,cU,ae,gF,fG⟩
         ·rw [ae] at gd;cases gd;subst Dx;exact hX bV ay hi dY gH bO v _ _ [] (.inl ⟨⟨_,ae⟩,rfl,rfl,rfl⟩) ⟨rfl,by simp⟩ fH hnew bw cX hm (by omega) q1 aW
         ·rw [ae] at gd;simp only [Value.slice.injEq,Option.some.injEq,Addr.mk.injEq] at gd;obtain ⟨⟨rfl,rfl,_⟩,rfl,rfl⟩:=gd;exact hX bV ay hi dY gH bO v _ _ cU (.inr ⟨b,o,ae,fG⟩) gF fH hnew bw cX hm (by omega) q1 aW
        ·simp at h
       ·simp at h
      ·simp at h
     ·simp at h
    ·simp at h
   ·
    split at h
    ·rename_i dd n xd;split at h
     ·rename_i al;obtain ⟨aU,et,bO,eu⟩:=al;cases h;obtain ⟨q1,aW⟩:=ij et;have gf:cy=.int .i64 n:=Rel.dc jU;have ae:∃ base,v=.slice base 0 0:=by
       cases dw with
       | b1=>exact ⟨_,rfl⟩
       | ax _ _ _ b o cap f al _=>exact ⟨_,by rw [al rfl]⟩
      obtain ⟨base,rfl⟩:=ae;subst gf;have aj:=Fc (P:=P) (w:=w) t dp ty e i c' dd ay xd hi dY base n aU q1 aW bO;have fe:=grownCap_ge w n.toNat 0 e;have aN:n.toNat≤140737488355328:=sL (ux _ aW) q1;have hle:=grownCap_le_maxLen w n.toNat 0 e (by simp only [maxLen];omega);generalize grownCap w n.toNat 0 e=fa at fe hle aj;have aA:=kq U a7 w;have fK:=(m9 fc (by omega) n.toNat).mono (Ext.refl J) aA.set
      have iN:=n5 (mo bV) fK (Builtin.zeroCells c'.cells (fa-n.toNat)).toList e n.toNat fa i.size bO (by rw [ih,eu]) fe hle (by
       rw [←fK.len,ih,eu,tu,size_zeroCells,←kP,eu,←tn];congr 1;omega)
      refine ⟨_,_,aj,a0.after (Ext.refl J) aA ?_⟩;have he:(((Array.range (n.toNat*z.length)).map (fun i=>c'.cells[i % c'.cells.size]!)).toList++(Builtin.zeroCells c'.cells (fa-n.toNat)).toList).toArray =
        Builtin.zeroCells c'.cells n.toNat++Builtin.zeroCells c'.cells (fa-n.toNat):=by
       apply Array.ext';simp [Builtin.zeroCells,kP]
      rw [he] at iN;exact iN
     ·simp at h
    ·simp at h
  ·simp at h
 ·simp at h
theorem z_ (ah:aK B U J S w H) {id:Nat} {l:List I} {b z:Nat} {cur:Array Value} (aE:id<H.length) (aI:U b=some (.obj id)) (bc:∀ o,¬ S b o)
  (bf:∀ (j:Nat) (u:I) (v:Value),l[j]?=some u→cur[j]?=some v→u.cQ=true∧v.oneCell'=true∧Rel J S w u v∧aV U J S w (.cell id j) u v)
  {bG:World} {nb cap1 xn:Nat} {jy:Array Value} {e1:TypeId} (aq:bG.os=w.os) (ay:bG.tape=w.tape) (pR:bG.output=w.output) (kM:w.heap.size≤bG.heap.size)
  (hold:∀ au,au<w.heap.size→au≠b→bG.heap[au]?=w.heap[au]?) (kF:nb=b∨nb=w.heap.size) (Di:nb<bG.heap.size) (jE:bG.heap[nb]?=some (.cells jy e1 (0,0)))
  (gG:jy.size=cap1*z) (hm:cap1≤maxLen) (bj:0<z) {new:List I} {news:List Value} (hnew:c1 J S w new news) (dF:l.length+new.length≤jy.size)
  (C1:∀ j,j<l.length→jy[j]?=cur[j]?) (C2:∀ (j:Nat) (v:Value),news[j]?=some v→jy[l.length+j]?=some v) (hlen:xn≤cap1) :
  a0 B U J S w (H.set id .dead++[.grow (l++new) (H.length+1) z,.dead]) (.ck H.length (H.length+1) xn z) (.slice (some ⟨nb,0,none⟩) xn cap1) bG:=by
 classical
 let az:Nat→Option aH:=fun au=>if au=nb then some (.obj H.length) else if au=b then none else match U au with
  | some (.cell i j)=>if i=id then some (.cell H.length j) else some (.cell i j)
  | o=>o
 have aS:∀ au l',U au=some l'→au<w.heap.size:=fun au l' h=>(ah.base au l' h).2;have y8:∀ au l',U au=some l'→au≠b→au≠nb:=fun au l' h ag e=>by
  subst e;rcases kF with e | e
  ·exact ag e
  ·have:=aS _ _ h;omega
 have hz:∀ au o,S au o→au≠b:=fun au o ai e=>bc o (e ▸ ai);have bw:∀ au o,S au o→bG.cell? ⟨au,o,none⟩=w.cell? ⟨au,o,none⟩:=fun au o ai=>by
  obtain ⟨v,ae⟩:=ah.cc au o ai;unfold World.cell?;simp only [hold au (mJ ae) (hz au o ai)]
 have nI:∀ au,az au≠none→U au≠none∨w.heap.size≤au:=fun au ag=>by
  by_cases ad:au=nb
  ·rcases kF with e | e
   ·exact .inl (by rw [ad,e,aI];simp)
   ·exact .inr (by omega)
  ·refine .inl fun aU=>ag ?_;by_cases af:au=b
   ·simp only [az,ad,af,if_false,if_true];rw [if_neg (by rw [←af];exact ad)]
   ·simp only [az,ad,af,if_false,aU]
 have aA:bh U S w az S bG:=⟨aq,ay,pR,kM,fun au ag aN=>hold au ag (fun e=>by subst e;rw [aI] at aN;cases aN),fun au o ai=>⟨ai,bw au o ai⟩,fun _ _ h=>.inl h,nI⟩;have mf:(J++[nb,cap1])[H.length]?=some nb:=by rw [←ah.cD];simp
 have mg:(J++[nb,cap1])[H.length+1]?=some cap1:=by rw [←ah.cD];simp
 refine ⟨az,J++[nb,cap1],S,Ext.append J _,aA,⟨by simp [ah.cD],fun bz o h=>?_,fun au o ai=>?_,fun au l' ag=>?_,sL ah.cV kM⟩,.ck _ _ _ _ nb cap1 mf mg hlen,trivial⟩
 ·rcases vu bz H.length with ao | rfl | ao
  ·rw [sy (by simpa using ao)] at h;by_cases cr:bz=id
   ·subst cr;rw [si ao] at h;cases h;trivial
   ·rw [sj (Ne.symm cr)] at h;refine (ah.obj bz o h).frame (Ext.append J _) aA.set fun au l' ag c7=>?_;have bN:au≠b:=fun e=>by
     subst e;rw [aI] at ag;cases ag;rcases c7 with h | ⟨j,h⟩
     ·cases h;exact cr rfl
     ·cases h
    refine ⟨?_,hold au (aS _ _ ag) bN,fun _ h=>h⟩;simp only [az,y8 au l' ag bN,bN,if_false,ag];rcases c7 with rfl | ⟨j,rfl⟩
    ·rfl
    ·simp [cr]
  ·rw [sJ (by simp)] at h;simp only [tc,tR,ud,Option.some.injEq] at h;subst h;refine ⟨nb,jy,e1,mf,by simp [az],jE,by rw [sr];exact dF,?_,fun j u v hu ae=>?_,cap1,mg,hm,bj,gG⟩
   ·rcases kF with rfl | rfl
    ·exact bc
    ·exact mO ah
   ·by_cases aw:j<l.length
    ·rw [sy aw] at hu;rw [C1 j aw] at ae;obtain ⟨a_,ba,br,b8⟩:=bf j u v hu ae;refine ⟨a_,ba,br.mono (Ext.append J _) aA.set,b8.mono (Ext.append J _) aA.set fun au ag=>?_⟩;(have bN:au≠b:=fun e=>by subst e;rw [aI] at ag;cases ag);refine ⟨?_,hold au (aS _ _ ag) bN,fun _ h=>h⟩;simp only [az,y8 au _ ag bN,bN,if_false,ag,if_true]
    ·rw [sJ (by omega)] at hu;have nF:=(sb.1 hu).1;have me:j-l.length<news.length:=hnew.len ▸ nF;have bd:=C2 (j-l.length) _ (sm me);rw [show l.length+(j-l.length)=j by omega,ae] at bd;obtain ⟨a_,ba,br⟩:=hnew.rel _ u v hu (by rw [sm me,bd]);exact ⟨I.fu a_,ba,br.mono (Ext.append J _) aA.set,aV.b3 a_⟩
  ·rw [sJ (by simp;omega)] at h;rw [tc] at h;obtain ⟨k,av⟩:∃ k,bz-H.length=k+1:=⟨bz-H.length-1,by omega⟩;rw [av] at h;cases k with
   | zero=>simp at h;subst h;trivial
   | succ k=>simp at h
 ·obtain ⟨v,ae⟩:=ah.cc au o ai;exact ⟨v,(bw au o ai).trans ae⟩
 ·by_cases ad:au=nb
  ·rw [ad];refine ⟨?_,Di⟩;rcases kF with e | e
   ·rw [e];exact (ah.base b _ aI).1
   ·rw [e];exact ah.cV
  ·have:∃ ct,U au=some ct:=by
    rcases nI au (by rw [ag];simp) with h | h
    ·cases aU:U au with
     | none=>exact absurd aU h
     | some ct=>exact ⟨ct,rfl⟩
    ·exfalso;by_cases af:au=b
     ·have:=aS b _ aI;omega
     ·have aU:U au=none:=by
       cases aU:U au with
       | none=>rfl
       | some ct=>have:=aS au _ aU;omega
      simp [az,ad,af,aU] at ag
   obtain ⟨ct,aU⟩:=this;have:=ah.base au ct aU;exact ⟨this.1,by omega⟩
theorem EE (ah:aK B U J S w H) {l:aH} (b6:∀ id,l≠.obj id) (cg:∀ id j,l≠.cell id j) {cells:List I} {len z:Nat} (aU:len≠0) {v:Value}
  (aj:Rel J S w (.ax cells len (.uniq z)) v) (aq:aV U J S w l (.ax cells len (.uniq z)) v) :
  a0 B U J S w (H++[.grow cells (H.length+1) z,.dead]) (.ck H.length (H.length+1) len z) v w:=by
 classical
 cases aj with
 | b1 c a=>exact absurd rfl aU
 | ax cells len c b o cap f al hle hu h fr=>exact absurd rfl (hu z)
 | cJ cells len z b o cap =>
   rcases aq with ⟨rfl,_,_⟩ | ⟨ad,aq,af,aG,a5,bL,⟨cur,e,bS,cI,cK⟩,cM⟩
   ·exact absurd rfl aU
   ·simp only at ad bS cM aq;subst aq
    let az:Nat→Option aH:=fun au=>if au=b then some (.obj H.length) else U au
    have aA:bh U S w az S w:=⟨rfl,rfl,rfl,sd _,fun _ _ _=>rfl,fun _ _ h=>⟨h,rfl⟩,fun _ _ h=>.inl h,fun au ag=>by
     by_cases dE:au=b
     ·subst dE;exact .inl (by simp [ad])
     ·simp only [az,dE,if_false] at ag;exact .inl ag⟩
    have bV:aK B az J S w H:=by
     refine ah.frame aA (fun au l' ag ao=>?_) ah.cc (fun au l' ag=>?_)
     ·have bN:au≠b:=fun e=>by
       subst e;rw [ad] at ag;cases ag;rcases ao with ⟨id,h⟩ | ⟨id,j,h⟩
       ·exact b6 _ h
       ·exact cg _ _ h
      exact ⟨by simp [az,bN,ag],rfl,fun _ h=>h⟩
     ·by_cases dE:au=b
      ·subst dE;exact ah.base _ l ad
      ·simp only [az,dE,if_false] at ag;exact ah.base au l' ag
    have cm:=(bV.push cap (o:=.dead) trivial);(have mf:(J++[b,cap])[H.length]?=some b:=by rw [←ah.cD];simp);(have mg:(J++[b,cap])[H.length+1]?=some cap:=by rw [←ah.cD];simp);refine ⟨az,J++[b,cap],S,Ext.append J _,aA,⟨by simp [ah.cD],fun bz o bH=>?_,ah.cc,bV.base,ah.cV⟩,.ck _ _ _ _ b cap mf mg af,trivial⟩;rcases vu bz H.length with ao | rfl | ao
    ·rw [sy ao] at bH;exact (bV.obj bz o bH).frame (Ext.append J _) (fun b o ai=>⟨ai,rfl⟩) fun b l ag _=>⟨ag,rfl,fun o ai=>ai⟩
    ·rw [sJ (sd _)] at bH;simp only [tR,ud,Option.some.injEq] at bH;subst bH;refine ⟨b,cur,e,mf,by simp [az],bS,by rw [cI,bL];exact tt _ af,cM,fun j u v hu ae=>?_,cap,mg,aG,a5,cI⟩;obtain ⟨a_,ba,br⟩:=cK j u v hu ae;exact ⟨I.fu a_,ba,br.mono (Ext.append J _) aA.set,aV.b3 a_⟩
    ·rw [sJ (by omega)] at bH;obtain ⟨k,av⟩:∃ k,bz-H.length=k+1:=⟨bz-H.length-1,by omega⟩;rw [av] at bH;cases k with
     | zero=>simp at bH;subst bH;trivial
     | succ k=>simp at bH
theorem FH (ah:aK B U J S w H) {lo:Nat} {ts:Array TypeId} (ty:TypeId) {u x r:I} {v cy:Value} {ct dI:aH} (b6:∀ id,ct≠.obj id) (cg:∀ id j,ct≠.cell id j) (de:∀ id,dI≠.obj id) (df:∀ id j,dI≠.cell id j) (bN:ct≠dI)
  {H':List ar} (h:ic P lo ts H [u,x]=some (r,H')) (aj:Rel J S w u v) (aq:aV U J S w ct u v) (ef:Rel J S w x cy) (h7:aV U J S w dI x cy) :
  ∃ y w',(Builtin.append_ ts ty #[v,cy]).run P w=.ok y w'∧a0 B U J S w H' r y w':=by
 unfold ic at h;simp only at h;split at h
 ·rename_i t dp g9;obtain rfl:ts=#[t,dp]:=by rw [←uy (xs:=ts),g9]
  split at h
  ·
   rename_i s c n ej;split at h
   ·rename_i cells iS z eP;split at h
    ·simp at h
    ·rename_i aN;simp only [Option.some.injEq,Prod.mk.injEq] at h;obtain ⟨rfl,rfl⟩:=h;obtain ⟨y,w',q1,bq,cj,bK,bR,bY,ea,fO,mT⟩:=Ba ah ty b6 cg de df bN eP aj aq ef h7;have q:=EE ea (l:=.res) (by simp) (by simp) aN fO mT;exact ⟨y,w',q1,a0.after bR bY q⟩
   ·simp at h
  ·
   rename_i s id gid len z;split at h
   ·split at h
    ·rename_i e l g cS ay aE;split at h
     ·rename_i sz bytes gm m new bO ag bj eP;split at h
      ·rename_i al;obtain ⟨rfl,rfl,rfl,rfl,ao,cX,aU,hm,eu,zh,et⟩:=al;simp only [Option.some.injEq,Prod.mk.injEq] at h;obtain ⟨rfl,rfl⟩:=h;obtain ⟨i,hi,rfl⟩:=m6 bO;simp only [hi,sf,Option.some.injEq] at ag;subst ag;obtain ⟨a7,aJ,aQ,bV,jU⟩:=mI ah de df ef h7;have dv:bh U S w U a7 w:=bh.settle aJ fun b o h=>(aQ b o h).imp (fun h=>h) fun h=>⟨_,h⟩;obtain ⟨jV,c',hi',dY,fc⟩:=hr (J:=J) (S:=a7) (w:=w) bj;rw [hi] at hi';cases hi';(have kP:gm.length=c'.cells.size:=by simpa using fc.len);(have gH:c'.cells.size=i.size:=by omega);obtain ⟨q1,aW⟩:=ij et;replace eP:=ym eP;have aS:=(sb.1 aE).1;obtain ⟨au,cL,dU,vs,rfl,hnew,bw⟩:∃ b o c vs,cy=.slice (some ⟨b,o,none⟩) m c∧c1 J a7 w new vs∧(∀ j y,vs[j]?=some y→w.cell? ⟨b,o+j,none⟩=some y):=by
        rcases yl bV eP jU (I.fu (I.dg x)) with ⟨ad,_,c,rfl⟩ | h
        ·rw [ad] at cX;simp at cX;have:=vW hm aU;omega
        ·exact h
       have eR:vs.length=m*i.size:=hnew.len ▸ cX;obtain ⟨b,cur,ce,aC,aI,aR,bk,bc,bf,cap,c9,dr,dS,gw⟩:=bV.obj id _ aE;cases aj with
       | ck _ _ _ _ dB GG iG y0 hle =>
         rw [aC] at iG;cases iG;rw [c9] at y0;cases y0;have er:∀ u∈vs,u.oneCell'=true:=fun u hu=>by
          obtain ⟨j,aw⟩:=tg.1 hu;have aS:=(sb.1 aw).1;exact (hnew.rel j _ u (sm (hnew.len ▸ aS)) aw).2.1
         have CI:b<w.heap.size:=(sY.1 aR).1
         suffices ai:∃ y w',(Builtin.append_ #[t,t] ty #[.slice (some ⟨b,0,none⟩) len cap,.slice (some ⟨au,cL,none⟩) m dU]).run P w=.ok y w'∧a0 B U J a7 w (H.set id .dead++[.grow (l++new) (H.length+1) i.size,.dead]) (.ck H.length (H.length+1) (len+m) i.size) y w' by
          obtain ⟨y,w',bR,bY⟩:=ai;exact ⟨y,w',bR,a0.after (Ext.refl J) dv bY⟩
         by_cases dF:len+m≤cap
         ·have jF:(len+m)*i.size≤cap*i.size:=tt _ dF;rw [tn] at jF;have aj:=AQ (P:=P) w t ty e i ay hi b len cap cur ce aR ⟨au,cL,none⟩ m dU vs eR (fun j x h=>by rw [add_lit];exact bw j x h) er dF (by rw [gw];omega);(have ad:cur.toList.length=cap*i.size:=by simp [gw]);refine ⟨_,_,aj,?_⟩;refine z_ bV aS aI bc bf (nb:=b) (cap1:=cap) (e1:=ce) (hnew:=hnew) (by exact rfl) (by exact rfl) (by exact rfl) (by simp [World.setRow]) (fun bp _ gD=>by exact setRow_other w b bp _ gD) (.inl rfl) (by simpa [World.setRow] using CI) (by exact setRow_heap w b cur _ ce (0,0) aR) ?_ dr dS ?_ (fun j aw=>?_) (fun j v aw=>?_) dF
          ·rw [tL,sr,sr,ta,tE,ad,eR,tM (by omega)];omega
          ·rw [tL,sr,sr,ta,tE,ad,eR,tM (by omega),ao,cX];omega
          ·have:=ja cur.toList vs (len*i.size) j (by rw [ad];omega);rw [if_neg (by omega)] at this;simpa using this
          ·have jJ:=(sb.1 aw).1;have:=ja cur.toList vs (len*i.size) (l.length+j) (by rw [ad];omega);rw [if_pos ⟨by omega,by omega⟩,ao,show len*i.size+j-len*i.size=j by omega,aw] at this;rw [ao];simpa using this
         ·have Db:len+m≤140737488355328:=sL (ux _ aW) q1;(have ep:len+m≤maxLen:=by simp only [maxLen];omega);have cA:len*i.size≤cap*i.size:=tt _ hle;have fH:(cur.toList.take (len*i.size)).length=len*i.size:=by rw [ta];simp;omega
          have aj:=run_append_grow (P:=P) w t ty e i c' ay hi dY ⟨b,0,none⟩ len cap (cur.toList.take (len*i.size)) fH (fun j x h=>by
           rw [sR] at h;split at h
           ·rw [add_lit,sS,cell_of_row w b _ cur ce (0,0) aR];simpa using h
           ·simp at h) ⟨au,cL,none⟩ m dU vs eR (fun j x h=>by rw [add_lit];exact bw j x h) (by omega) (by omega) (growslice_fits (by omega) q1)
          have fe:=grownCap_ge w (len+m) cap e;have y3:=grownCap_le_maxLen w (len+m) cap e ep;generalize grownCap w (len+m) cap e=fa at fe y3 aj;refine ⟨_,_,aj,?_⟩;refine z_ bV aS aI bc bf (nb:=w.heap.size) (cap1:=fa) (e1:=e) (hnew:=hnew) (by exact rfl) (by exact rfl) (by exact rfl) (by simp) (fun bp gD _=>by exact heap_alloc_old w.drew _ bp gD) (.inr rfl) (by simp) (by exact heap_alloc_new w.drew _) ?_ y3 dS ?_ (fun j aw=>?_) (fun j v aw=>?_) fe
          ·simp only [vv,tL,fH,eR,size_zeroCells,gH];rw [←tn,←tn];congr 1;omega
          ·simp only [vv,tL,fH,eR,size_zeroCells,gH,ao,cX];omega
          ·rw [ao] at aw;rw [vY (by simp only [vv,tL,fH];omega),vY (by simp only [tL,fH];omega)];simp [aw]
          ·have jJ:=(sb.1 aw).1;rw [ao,vY (by simp only [vv,tL,fH];omega),Array.getElem?_append_right (by simp only [tL,fH];omega)];simp only [tL,fH,show len*i.size+j-len*i.size=j by omega];simpa using aw
      ·simp at h
     ·simp at h
    ·simp at h
   ·simp at h
  ·simp at h
 ·simp at h
theorem FB (ah:aK B U J S w H) (lo:Nat) (vs:List I):aK B U J S w (jc lo H vs):=by
 unfold jc;split
 ·rename_i id _ len z _;split
  ·rename_i l g cS aE;split
   ·refine ⟨by simpa using ah.cD,fun bz o aq=>?_,ah.cc,ah.base,ah.cV⟩;by_cases cr:bz=id
    ·subst cr;rw [si (sb.1 aE).1] at aq;cases aq;obtain ⟨b,cur,e,aC,aI,aR,bk,bc,bf,c9⟩:=ah.obj bz _ aE;refine ⟨b,cur,e,aC,aI,aR,sL (by rw [ta];omega) bk,bc,fun j u v hu ae=>?_,c9⟩;rw [sR] at hu;split at hu
     ·exact bf j u v hu ae
     ·simp at hu
    ·rw [sj (Ne.symm cr)] at aq;exact ah.obj bz o aq
   ·exact ah
  ·exact ah
 ·exact ah
theorem FG (ah:aK B U J S w H) {lo:Nat} {ts:Array TypeId} (ty:TypeId) {u x r:I} {v cy:Value} {ct dI:aH} (b6:∀ id,ct≠.obj id) (cg:∀ id j,ct≠.cell id j) (de:∀ id,dI≠.obj id) (df:∀ id j,dI≠.cell id j) (bN:ct≠dI)
  {H':List ar} (h:iV P lo ts H [u,x]=some (r,H')) (aj:Rel J S w u v) (aq:aV U J S w ct u v) (ef:Rel J S w x cy) (h7:aV U J S w dI x cy) :
  ∃ y w',(Builtin.append_ ts ty #[v,cy]).run P w=.ok y w'∧a0 B U J S w H' r y w' :=
 FH (FB ah lo [u,x]) ty b6 cg de df bN h aj aq ef h7
end
end Go.Proofs.YtfakoboiahbhaaaGreat.Ab


namespace Go.Proofs.YtfakoboiahbhaaaGreat.Ab
open Go
section
variable {P:Program} {B:Nat} {J:List Nat} {w:World} {H:List ar} {U:Nat→Option aH} {S:Nat→Nat→Prop}
theorem mA {ts:Array TypeId} (h:iQ P ts[0]?=true):∃ t e,ts[0]?=some t∧P.underlying t=some (.slice e):=by
 unfold iQ at h;split at h
 ·rename_i e he;simp only [sg] at he;obtain ⟨t,ad,af⟩:=he;exact ⟨t,e,ad,af⟩
 ·simp at h
theorem FT (ah:aK B U J S w H) {ts:Array TypeId} (ty:TypeId) {u r:I} {H':List ar} {v:Value} (h:hh P ts H [u]=some (r,H')) (aj:Rel J S w u v) :
  ∃ y,(Builtin.len_ ts ty #[v]).run P w=.ok y w∧a0 B U J S w H' r y w:=by
 simp only [hh] at h;split at h
 ·split at h
  ·rename_i ai;obtain ⟨t,e,ay,he⟩:=mA ai;simp only [Option.some.injEq,Prod.mk.injEq] at h;obtain ⟨rfl,rfl⟩:=h;have ae:∃ a c,v=.slice a _ c:=mH (n:=_) rfl aj;obtain ⟨a,c,rfl⟩:=ae;exact ⟨_,by simp [Builtin.len_,ay,run_underlying he,goInt],a0.same ah (.int _ _) rfl⟩
  ·simp at h
 ·split at h
  ·rename_i ai;obtain ⟨t,e,ay,he⟩:=mA ai;simp only [Option.some.injEq,Prod.mk.injEq] at h;obtain ⟨rfl,rfl⟩:=h;have ae:∃ a c,v=.slice a _ c:=mH (n:=_) rfl aj;obtain ⟨a,c,rfl⟩:=ae;exact ⟨_,by simp [Builtin.len_,ay,run_underlying he,goInt],a0.same ah (.int _ _) rfl⟩
  ·simp at h
 ·split at h
  ·rename_i _ _ ay aE;simp only [sg] at ay;obtain ⟨t,ay,he⟩:=ay;simp only [Option.some.injEq,Prod.mk.injEq] at h;obtain ⟨rfl,rfl⟩:=h;obtain ⟨b,bx,aC,aI,aR,bk,bc,bf⟩:=ah.obj _ _ aE;cases aj with
   | map _ au k =>
     rw [aC] at k;cases k;exact ⟨_,by simp [Builtin.len_,ay,run_underlying he,goInt,getObj,Sem.run,aR,bk],a0.same ah (.int _ _) rfl⟩
  ·simp at h
 ·split at h
  ·rename_i n e he;simp only [sg] at he;obtain ⟨t,ay,he⟩:=he;simp only [Option.some.injEq,Prod.mk.injEq] at h;obtain ⟨rfl,rfl⟩:=h;exact ⟨_,by simp [Builtin.len_,ay,run_underlying he,goInt],a0.same ah (.int _ _) rfl⟩
  ·simp at h
theorem FN (ah:aK B U J S w H) {ts:Array TypeId} (ty:TypeId) {u r:I} {H':List ar} {v:Value} (h:j2 P ts H [u]=some (r,H')) (aj:Rel J S w u v) :
  ∃ y,(Builtin.cap_ ts ty #[v]).run P w=.ok y w∧a0 B U J S w H' r y w:=by
 unfold j2 at h;split at h
 ·rename_i cs n heq;simp only [List.cons.injEq,and_true] at heq;subst heq;split at h
  ·rename_i ai;obtain ⟨t,e,ay,he⟩:=mA ai;simp only [Option.some.injEq,Prod.mk.injEq] at h;obtain ⟨rfl,rfl⟩:=h;have ae:∃ a,v=.slice a n n:=by
    cases aj with
    | b1=>exact ⟨_,rfl⟩
    | ax _ _ _ b o cap f al=>exact ⟨_,by rw [al rfl]⟩
   obtain ⟨a,rfl⟩:=ae;exact ⟨_,by simp [Builtin.cap_,ay,run_underlying he,goInt],a0.same ah (.int _ _) rfl⟩
  ·simp at h
 ·rename_i id off len n sz heq;simp only [List.cons.injEq,and_true] at heq;subst heq;split at h
  ·rename_i ai;obtain ⟨t,e,ay,he⟩:=mA ai;simp only [Option.some.injEq,Prod.mk.injEq] at h;obtain ⟨rfl,rfl⟩:=h;have ae:∃ a,v=.slice a len n:=by
    cases aj with
    | ref _ _ _ _ _ b cap _ al=>exact ⟨_,by rw [al n rfl]⟩
   obtain ⟨a,rfl⟩:=ae;exact ⟨_,by simp [Builtin.cap_,ay,run_underlying he,goInt],a0.same ah (.int _ _) rfl⟩
  ·simp at h
 ·simp at h
theorem A1 {k:IntKind}:∀ (us:List I) (a n:Int) (vs:List Value) (bA:Nat→aH),kZ us a=some n→a8 bA U J S w us vs→(vs.foldlM Builtin.min2 (.int k a)).run P w=.ok (.int k n) w
 | [],a,n,vs,bA,h,ae=>by
   cases vs with
   | cons=>exact absurd ae.len (by simp)
   | nil=>simp only [kZ,Option.some.injEq] at h;subst h;rfl
 | u::us,a,n,vs,bA,h,ae=>by
   obtain ⟨v1,t1,rfl,r1,_,c_⟩:=ae.gS;unfold kZ at h;split at h
   ·rename_i heq;simp at heq
   ·rename_i k' b r _ heq;simp only [List.cons.injEq] at heq;obtain ⟨rfl,rfl⟩:=heq;have e1:=r1.dc;subst e1;simp only [List.foldlM_cons,Builtin.min2,pure_bind];exact A1 _ _ _ _ _ h c_
   ·cases h
theorem A0 {k:IntKind}:∀ (us:List I) (a n:Int) (vs:List Value) (bA:Nat→aH),kY us a=some n→a8 bA U J S w us vs→(vs.foldlM Builtin.max2 (.int k a)).run P w=.ok (.int k n) w
 | [],a,n,vs,bA,h,ae=>by
   cases vs with
   | cons=>exact absurd ae.len (by simp)
   | nil=>simp only [kY,Option.some.injEq] at h;subst h;rfl
 | u::us,a,n,vs,bA,h,ae=>by
   obtain ⟨v1,t1,rfl,r1,_,c_⟩:=ae.gS;unfold kY at h;split at h
   ·rename_i heq;simp at heq
   ·rename_i k' b r _ heq;simp only [List.cons.injEq] at heq;obtain ⟨rfl,rfl⟩:=heq;have e1:=r1.dc;subst e1;simp only [List.foldlM_cons,Builtin.max2,pure_bind];exact A0 _ _ _ _ _ h c_
   ·cases h
theorem F2 {us:List I} {r:I} (ts:Array TypeId) (ty:TypeId) {bA:Nat→aH} {vs:List Value} (h:n3 us=some r) (ae:a8 bA U J S w us vs) :
  ∃ y,(Builtin.min_ ts ty vs.toArray).run P w=.ok y w∧Rel J S w r y∧r.plain=true:=by
 unfold n3 at h;split at h
 ·simp only [sa] at h;obtain ⟨n,h,rfl⟩:=h;obtain ⟨v1,t1,rfl,r1,_,c_⟩:=ae.gS;have e1:=r1.dc;subst e1;exact ⟨_,by simp only [Builtin.min_];exact A1 _ _ _ _ _ h c_,.int _ _,rfl⟩
 ·simp at h
theorem F1 {us:List I} {r:I} (ts:Array TypeId) (ty:TypeId) {bA:Nat→aH} {vs:List Value} (h:n2 us=some r) (ae:a8 bA U J S w us vs) :
  ∃ y,(Builtin.max_ ts ty vs.toArray).run P w=.ok y w∧Rel J S w r y∧r.plain=true:=by
 unfold n2 at h;split at h
 ·simp only [sa] at h;obtain ⟨n,h,rfl⟩:=h;obtain ⟨v1,t1,rfl,r1,_,c_⟩:=ae.gS;have e1:=r1.dc;subst e1;exact ⟨_,by simp only [Builtin.max_];exact A0 _ _ _ _ _ h c_,.int _ _,rfl⟩
 ·simp at h
theorem BC (ah:aK B U J S w H) {lo id off len sz n:Nat} {H':List ar} {cs:List I} {vs:List Value} (eC:c1 J S w cs vs) (cA:cs.length=n) (aN:n≤len*sz)
  (h:fM lo H id (fun l=>if off+len*sz≤l.length then some (setCells off cs l) else none)=some H') {b:Nat} (ag:J[id]?=some b) :
  ∃ w',(storeCells ⟨b,off,none⟩ vs).run P w=.ok () w'∧∃ az,bh U S w az S w'∧aK B az J S w' H'∧∃ cur e cur' cW,w.heap[b]?=some (.cells cur e (0,0))∧w'.heap[b]?=some (.cells cur' cW (0,0))∧cur'.size=cur.size:=by
 unfold fM at h;split at h
 ·split at h
  ·rename_i ll aE;simp only [sa] at h;obtain ⟨l',c7,rfl⟩:=h;split at c7
   ·rename_i al;cases c7;obtain ⟨au,cur,e,aC,aI,aR,bk,bc,bf⟩:=ah.obj id _ aE;rw [ag] at aC;cases aC;have xb:vs.length=n:=eC.len ▸ cA;have er:∀ u∈vs,u.oneCell'=true:=fun u hu=>by
     obtain ⟨j,aw⟩:=tg.1 hu;have aS:=(sb.1 aw).1;exact (eC.rel j _ u (sm (eC.len ▸ aS)) aw).2.1
    have cB:=run_storeCells_at P b off e vs 0 cur w aR (by omega) er;simp only [tK] at cB;obtain ⟨az,aA,b9⟩:=n9 (cur':=(cur.toList.take off++vs++cur.toList.drop (off+vs.length)).toArray) (l':=setCells off cs ll) ah aE ag aI aR bc .res (by simp) (by simp)
     (by simp [lk];omega) 0 (fun j bF bm hu ae=>by
      rw [m3 _ _ _ _ (by omega)] at hu;(have ae:(cur.toList.take off++vs++cur.toList.drop (off+vs.length))[j]?=some bm:=by simpa using ae);rw [ja cur.toList vs off j (by have CO:cur.toList.length=cur.size:=tu;omega)] at ae;rw [eC.len] at hu;split at hu
      ·rename_i aw;rw [if_pos aw] at ae;obtain ⟨a_,ba,br⟩:=eC.rel _ bF bm hu ae;exact ⟨I.fu a_,ba,br,.inl a_⟩
      ·rename_i aw;rw [if_neg aw] at ae;obtain ⟨d1,d0,d2,d3⟩:=bf j bF bm hu (by simpa using ae)
       exact ⟨d1,d0,d2,.inr (.inl d3)⟩)
    exact ⟨_,cB,az,aA,b9,cur,e,_,e,aR,setRow_heap w b cur _ e (0,0) aR,by have CO:cur.toList.length=cur.size:=tu;simp;omega⟩
   ·simp at c7
  ·simp at h
 ·simp at h
theorem BB (ah:aK B U J S w H) {lo id off len sz n:Nat} {H':List ar} {cs:List I} {vs:List Value} (eC:c1 J S w cs vs) (cA:cs.length=n) (aN:n≤len*sz)
  (h:fM lo H id (fun l=>if off+len*sz≤l.length then some (setCells off cs l) else none)=some H') {b:Nat} (ag:J[id]?=some b) :
  ∃ w',(storeCells ⟨b,off,none⟩ vs).run P w=.ok () w'∧∃ az,bh U S w az S w'∧aK B az J S w' H':=by
 obtain ⟨w',ad,az,af,aG,_⟩:=BC (P:=P) ah eC cA aN h ag;exact ⟨w',ad,az,af,aG⟩
theorem Gu (ah:aK B U J S w H) {lo id off len sz n:Nat} {H':List ar} {cs:List I} {vs:List Value} (eC:c1 J S w cs vs) (cA:cs.length=n) (aN:n≤len*sz)
  (h:hd lo H id (fun l=>if off+len*sz≤l.length then some (setCells off cs l) else none)=some H') {b:Nat} (ag:J[id]?=some b) :
  ∃ w',(storeCells ⟨b,off,none⟩ vs).run P w=.ok () w'∧∃ az,bh U S w az S w'∧aK B az J S w' H':=by
 unfold hd at h;split at h
 ·rename_i bB;split at h
  ·rename_i ll aE;exact BB (P:=P) (lo:=lo) ah eC cA aN (by unfold fM;rw [if_pos bB,aE];exact h) ag
  ·rename_i ll g z aE;simp only [sa] at h;obtain ⟨l',c7,rfl⟩:=h;have aS:=(sb.1 aE).1;obtain ⟨dB,cur,e,aC,aI,aR,bk,bc,bf,cap,c9,dr,dS,gw⟩:=ah.obj id _ aE;rw [ag] at aC;cases aC
   obtain ⟨w',q1,az,aW,cx,Cd,fY,jy,e1,dC,mX,xB⟩:=BC (P:=P) (lo:=lo) (id:=id) (H':=(H.set id (.cells ll)).set id (.cells l')) (ah.oF aE) eC cA aN (by
    unfold fM;rw [if_pos bB,si aS];exact congrArg (Option.map _) c7) ag
   rw [aR] at dC;cases dC;have aO:=cx.xG (g:=g) (z:=z) (by rw [si (by simpa using aS)]) ag c9 dr dS mX (by rw [xB,gw]);rw [sU,sU] at aO;exact ⟨w',q1,az,aW,aO⟩
  ·simp at h
 ·simp at h
theorem FP (ah:aK B U J S w H) {lo:Nat} {ts:Array TypeId} (ty:TypeId) {u x r:I} {H':List ar} {v cy:Value} {dI:aH} (de:∀ id,dI≠.obj id) (df:∀ id j,dI≠.cell id j)
  (h:j3 P lo ts H [u,x]=some (r,H')) (aj:Rel J S w u v) (ef:Rel J S w x cy) (h7:aV U J S w dI x cy) :
  ∃ y w',(Builtin.copy_ ts ty #[v,cy]).run P w=.ok y w'∧a0 B U J S w H' r y w':=by
 obtain ⟨a7,aJ,aQ,bV,jU⟩:=mI ah de df ef h7;have dv:bh U S w U a7 w:=bh.settle aJ fun b o h=>(aQ b o h).imp (fun h=>h) fun h=>⟨_,h⟩;unfold j3 at h;split at h
 ·rename_i id off len cap sz oG heq;simp only [List.cons.injEq,and_true] at heq;obtain ⟨rfl,rfl⟩:=heq;split at h
  ·rename_i e he;simp only [sg] at he;obtain ⟨t,ay,he⟩:=he;split at h
   ·rename_i s m row ai hm cP;split at h
    ·rename_i al;obtain ⟨rfl,Dw⟩:=al;simp only [sa] at h;obtain ⟨a3,hw,h⟩:=h;simp only [Prod.mk.injEq] at h;obtain ⟨rfl,rfl⟩:=h;have Df:lenOf x.view=some m:=by
      cases x <;> try exact hm
      ·rename_i c;cases c <;> exact hm
      ·simp [lenOf] at hm
     have nM:rowOf H x.view=some row:=by
      cases x <;> try exact cP
      ·rename_i c;cases c <;> exact cP
      ·simp [rowOf] at cP
     have g6:=I.fu (I.dg x);cases aj with
     | ref _ _ _ _ _ b cap' ag CM hle =>
       obtain ⟨a,c,gf⟩:=mH Df jU;have Dz:∃ vs,c1 J a7 w row vs∧∀ n,n≤m→(Builtin.firstCells s n cy).run P w=.ok (vs.take (n*s)).toArray w:=by
        rcases xW bV nM jU g6 with ⟨aU,n,dU,ae⟩ | ⟨cH,bQ,n,dU,vs,ae,gF,bw⟩
        ·refine ⟨[],⟨by simp [aU],by simp [aU]⟩,fun iS aN=>?_⟩;(have GX:m=0:=by rw [ae] at gf;cases gf;rfl);rw [ae];(obtain rfl:iS=0:=by omega);cases n <;> simp [Builtin.firstCells,loadCells,loadCellsFrom]
        ·refine ⟨vs,gF,fun iS aN=>?_⟩;rw [ae] at gf ⊢;cases gf;have xb:vs.length=m*s:=gF.len ▸ Dw;have Da:iS*s≤m*s:=tt _ aN
         exact run_firstCells_some (P:=P) w s iS ⟨cH,bQ,none⟩ m c (vs.take (iS*s)) (by simp;omega) (fun j y aY=>by
          rw [sR] at aY;split at aY
          ·rw [add_lit];exact bw j y aY
          ·simp at aY)
       obtain ⟨vs,gF,CW⟩:=Dz;have GY:min m len*s≤m*s:=tt _ (Nat.min_le_left _ _)
       have CR:c1 J a7 w (row.take (min m len*s)) (vs.take (min m len*s)):=⟨by simp [gF.len],fun j bF bm b_ bd=>by
        rw [sR] at b_ bd;split at b_
        ·rename_i aw;rw [if_pos aw] at bd;exact gF.rel j bF bm b_ bd
        ·simp at b_⟩
       obtain ⟨w',cB,az,aA,b9⟩:=BB (P:=P) (n:=min m len*s) bV CR (by simp;omega) (tt _ (Nat.min_le_right _ _)) hw ag;refine ⟨.int .i64 (min m len:Nat),w',?_,az,J,a7,Ext.refl J,dv.trans aA,b9,.int _ _,aV.b3 rfl⟩;subst gf;have aP:=CW (min m len) (Nat.min_le_left _ _);simp only [Builtin.copy_,ay,List.getElem?_toArray,ud,uz,Sem.run_bind,run_underlying he,Result.andThen_ok,Builtin.lenOf,Sem.run_pure,run_sizeOf ai];rw [show Nat.min m len=min m len from rfl,aP];simp [cB,goInt]
    ·simp at h
   ·simp at h
  ·simp at h
 ·simp at h
theorem FO (ah:aK B U J S w H) {lo:Nat} {ts:Array TypeId} (ty:TypeId) {u r:I} {H':List ar} {v:Value} (h:k3 P lo ts H [u]=some (r,H')) (aj:Rel J S w u v) :
  ∃ y w',(Builtin.clear_ ts ty #[v]).run P w=.ok y w'∧a0 B U J S w H' r y w':=by
 have done:∀ {a3:List ar},aK B U J S w a3→a0 B U J S w a3 (.tuple []) (.tuple #[]) w:=fun cm=>a0.same cm (.tuple [] #[] rfl (by simp) (by simp)) rfl;unfold k3 at h;split at h
 ·rename_i id off len cap sz heq;simp only [List.cons.injEq,and_true] at heq;subst heq;split at h
  ·rename_i e he;simp only [sg] at he;obtain ⟨t,ay,he⟩:=he;split at h
   ·rename_i s z ai bj;split at h
    ·rename_i al;obtain ⟨rfl,eu,bO⟩:=al;simp only [sa,Prod.mk.injEq] at h;obtain ⟨a3,hw,rfl,rfl⟩:=h;obtain ⟨i,c',hi,dY,fc⟩:=hr (J:=J) (S:=S) (w:=w) bj;have fK:=m9 fc (by omega) len;cases aj with
     | ref _ _ _ _ _ b cap' ag CM hle =>
       obtain ⟨w',cB,az,aA,b9⟩:=Gu (P:=P) (n:=len*s) ah fK (by rw [ih,eu]) (sd _) hw ag;(have kP:z.length=c'.cells.size:=by simpa using fc.len);have heq:(Builtin.zeroCells c'.cells len).toList=((Array.range (len*z.length)).map (fun i=>c'.cells[i % c'.cells.size]!)).toList:=by
        simp [Builtin.zeroCells,kP]
       rw [←heq] at cB;cases len with
       | zero =>
         have mv:w'=w:=by
          (have aU:(Builtin.zeroCells c'.cells 0).toList=[]:=by simp [Builtin.zeroCells]);rw [aU] at cB;simp [storeCells] at cB;exact cB.symm
         subst mv;refine ⟨.tuple #[],w',by simp [Builtin.clear_,ay,run_underlying he],az,J,S,Ext.refl J,aA,b9,.tuple [] #[] rfl (by simp) (by simp),aV.b3 rfl⟩
       | succ n =>
         refine ⟨.tuple #[],w',?_,az,J,S,Ext.refl J,aA,b9,.tuple [] #[] rfl (by simp) (by simp),aV.b3 rfl⟩;simp [Builtin.clear_,ay,run_underlying he,i' hi dY,cB]
    ·simp at h
   ·simp at h
  ·simp at h
 ·rename_i c heq;simp only [List.cons.injEq,and_true] at heq;subst heq;split at h
  ·rename_i ai;obtain ⟨t,e,ay,he⟩:=mA ai;simp only [Option.some.injEq,Prod.mk.injEq] at h;obtain ⟨rfl,rfl⟩:=h;have ae:∃ a c,v=.slice a 0 c:=mH (n:=0) rfl aj;obtain ⟨a,c,rfl⟩:=ae;refine ⟨.tuple #[],w,?_,done ah⟩;cases a <;> simp [Builtin.clear_,ay,run_underlying he]
  ·simp at h
 ·simp at h
theorem o7 (off:Nat):∀ (xs:List Value) (k:Nat) (cells:Array Value) (j:Nat),off+k+xs.length≤cells.size →
  ((xs.zipIdx k).foldl (fun cs (x:Value×Nat)=>cs.setIfInBounds (off+x.2) x.1) cells)[j]?=if off+k≤j∧j<off+k+xs.length then xs[j-(off+k)]? else cells[j]?
 | [],k,cells,j,_=>by simp;omega
 | x::xs,k,cells,j,h=>by
   simp only [sM] at h;simp only [List.zipIdx_cons,List.foldl_cons];rw [o7 off xs (k+1) _ j (by simp;omega)];by_cases ad:j=off+k
   ·subst ad;rw [if_neg (by omega),if_pos (by simp)];simp [show off+k<cells.size by omega]
   ·by_cases af:off+(k+1)≤j∧j<off+(k+1)+xs.length
    ·rw [if_pos af,if_pos (by simp;omega)];obtain ⟨m,rfl⟩:∃ m,j=off+(k+1)+m:=⟨j-(off+(k+1)),by omega⟩;rw [show off+(k+1)+m-(off+(k+1))=m by omega,show off+(k+1)+m-(off+k)=m+1 by omega];simp
    ·rw [if_neg af,if_neg (by simp;omega),Array.getElem?_setIfInBounds_ne (by omega)]
theorem EA {u:I} {v:Value} {vc:List I} (al:u.cells=some vc) (aj:Rel J S w u v) (aB:u.plain=true):c1 J S w vc v.cells.toList:=by
 have single:vc=[u]→v.cells=#[v]→v.oneCell'=true→c1 J S w vc v.cells.toList:=by
  intro ad af aG;subst ad;rw [af];refine ⟨rfl,fun j bF bm hu ae=>?_⟩;cases j with
  | zero=>simp at hu ae;subst hu ae;exact ⟨aB,aG,aj⟩
  | succ j=>simp at hu
 cases aj with
 | agg as vs h p one r =>
   simp [I.cells] at al;subst al;exact ⟨by simpa [Value.cells] using h.symm,fun j bF bm hu ae=>⟨p bF (sH hu),one bm (sH ae),r j bF bm hu (by simpa [Value.cells] using ae)⟩⟩
 | junk v=>simp [I.cells] at al
 | tuple as vs h p r=>simp [I.cells] at al
 | raw=>simp [I.cells] at al
 | cY=>simp [I.cells] at al
 | _=>simp [I.cells] at al;exact single al.symm rfl rfl
theorem kt {place:Nat→Option (Nat×Nat)}:∀ (parts:List (Nat×I)) (parts':List (Nat×Value)) (cs c6:List I) (vs:Array Value),
  parts.map (·.1)=parts'.map (·.1)→(∀ (j:Nat) (x:Nat×I) (y:Nat×Value),parts[j]?=some x→parts'[j]?=some y→x.2.plain=true∧Rel J S w x.2 y.2) →
  fz place cs parts=some c6→c1 J S w cs vs.toList→∃ cU,Instr.fill place vs parts'=some cU∧c1 J S w c6 cU.toList
 | [],parts',cs,c6,vs,hi,_,h,al=>by
   cases parts' with
   | nil=>simp [fz] at h;subst h;exact ⟨vs,rfl,al⟩
   | cons=>simp at hi
 | (i,u)::parts,parts',cs,c6,vs,hi,b0,h,al=>by
   cases parts' with
   | nil=>simp at hi
   | cons y parts' =>
     obtain ⟨jV,v⟩:=y;simp only [List.map_cons,List.cons.injEq] at hi;obtain ⟨rfl,hi⟩:=hi;obtain ⟨aB,aj⟩:=b0 0 (i,u) (i,v) rfl rfl;simp only [fz] at h;split at h
     ·rename_i off size g6;split at h
      ·rename_i vc fJ;split at h
       ·rename_i g1;obtain ⟨bO,hle⟩:=g1;have eC:=EA fJ aj aB;(have xb:v.cells.size=size:=by have:=eC.len;simp at this;omega);(have cA:vs.size=cs.length:=by have:=al.len;simp at this;omega);have bu:c1 J S w (setCells off vc cs) (v.cells.zipIdx.foldl (fun cs (x:Value×Nat)=>cs.setIfInBounds (off+x.2) x.1) vs).toList:=by
         refine ⟨?_,fun j bF bm hu ae=>?_⟩
         ·rw [lk];have px:∀ (l:List (Value×Nat)) (a:Array Value),(l.foldl (fun cs (x:Value×Nat)=>cs.setIfInBounds (off+x.2) x.1) a).size=a.size:=by
           intro l;induction l with
           | nil=>intro a;rfl
           | cons x l a9=>intro a;simp [a9]
          have:=px v.cells.zipIdx.toList vs;simp only [tu];rw [←cA,←this,←vz]
         ·rw [m3 _ _ _ _ (by omega)] at hu;have aO:=o7 off v.cells.toList 0 vs j (by simp;omega);(have c_:(v.cells.zipIdx.foldl (fun cs (x:Value×Nat)=>cs.setIfInBounds (off+x.2) x.1) vs)[j]?=some bm:=by simpa using ae);rw [←vz,Array.toList_zipIdx] at c_;rw [aO] at c_;simp only [tK,tu,xb] at c_;rw [bO] at hu;split at hu
          ·rename_i aw;rw [if_pos aw] at c_;exact eC.rel _ bF bm hu c_
          ·rename_i aw;rw [if_neg aw] at c_;exact al.rel j bF bm hu (by simpa using c_)
        obtain ⟨cU,ad,af⟩:=kt parts parts' (setCells off vc cs) c6 _ hi (fun j x y ak aY=>b0 (j+1) x y (by simpa using ak) (by simpa using aY)) h bu;exact ⟨cU,by simp only [Instr.fill,g6];rw [if_neg (by simp;omega)];exact ad,af⟩
       ·simp at h
      ·simp at h
     ·simp at h
end
end Go.Proofs.YtfakoboiahbhaaaGreat.Ab
