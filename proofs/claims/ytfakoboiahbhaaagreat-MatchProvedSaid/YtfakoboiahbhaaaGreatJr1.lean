
import Derived.RangeFuncLeaves
import Derived.RangeFuncCalls
import Derived.KernelRfl
import Derived.Laws.AppendOwn
import Derived.OrdersIn
import Derived.Below
import Derived.IntWalk
import Derived.Laws.MakeOwn
set_option linter.unusedSimpArgs false
set_option linter.unusedVariables false
set_option linter.unusedSectionVars false

open Array renaming foldl_toList→wh,getD_eq_getD_getElem?→sO,getElem?_append_left→wc,getElem?_eq_getElem→sT,getElem?_eq_some_iff→tp,getElem?_map→vF,length_toList→tU,mem_of_getElem?→v9,size_append→vM,toArray_toList→uR
open Int renaming natCast_mul→v_,toNat_of_nonneg→uH
open List renaming all_eq_true→sS,append_assoc→sD,append_nil→sU,eq_nil_of_length_eq_zero→wb,forIn_cons→v7,getD_eq_getElem?_getD→sV,getElem?_append_left→sR,getElem?_append_right→sZ,getElem?_cons_zero→uS,getElem?_drop→tq,getElem?_eq_getElem→sI,getElem?_eq_some_iff→ss,getElem?_map→sN,getElem?_set→vD,getElem?_set_ne→sG,getElem?_set_self→sE,getElem?_take→th,length_append→sA,length_cons→sP,length_drop→uq,length_eq_zero_iff→tt,length_set→tC,length_take→ta,mem_iff_getElem?→tV,mem_map→sJ,mem_of_getElem?→sY,mem_of_mem_drop→vE,mem_of_mem_take→uP,set_set→td,size_toArray→uh,take_zero→tu
open Nat renaming add_assoc→t_,add_comm→tF,add_mul→tJ,add_zero→ug,le_mul_of_pos_right→uQ,le_refl→sx,le_trans→sW,lt_or_ge→tg,lt_trichotomy→v8,min_eq_left→tK,mul_le_mul_right→tP,mul_pos→wa,pos_of_ne_zero→vL,sub_self→ua,zero_add→tc,zero_mul→vH
open Option renaming bind_eq_some_iff→sC,getD_some→u6,map_eq_some_iff→sr,map_some→sB
namespace Go.Proofs.YtfakoboiahbhaaaGreat.Ab
open Go
inductive iB where
 | shared | full | own (z:Nat) | uniq (z:Nat)
 deriving DecidableEq
inductive I where
 | junk
 | bool (b:Bool)
 | int (k:IntKind) (n:Int)
 | eH
 | ptr (id off:Nat)
 | bW (cells:List I)
 | ay (cells:List I) (len:Nat) (c:iB)
 | ref (id off len:Nat) (cap:Option Nat) (sz:Nat)
 | func (f:FuncId) (first captured:List I)
 | yield (id:Nat)
 | map (id:Nat)
 | agg (cs:List I)
 | tuple (vs:List I)
 | str (s:ByteArray)
 | raw (cells:List I) (len z:Nat)
 | cn (id gid len z:Nat)
 | du
 deriving Inhabited
structure b7 where
 cC:List Bool:=[]
 mode:Nat:=0
structure c' where
 bad:Bool:=false
 two:List (Nat×Nat):=[]
 ops:List (List b7):=[]
 ig:List (Nat×List Bool):=[]
 ih:List (Nat×List Bool):=[]
inductive au where
 | dead
 | cells (l:List I)
 | loop (st:LoopState) (cI:Option Code) (fn:FuncId) (tmps:List I) (params:List Nat) (assign body:Code) (jz:c')
 | map (es:List (Nat×I×I)) (clock:Nat)
 | iter (m since:Nat) (seen:List Nat) (kg:Nat)
 | grow (l:List I) (gid z:Nat)
structure a7 where
 T:List I
 H:List au
inductive cE where
 | normal | exit (id:Nat) | ret
inductive e' where
 | fn (f:FuncId)
 | yield (l:Nat)
abbrev b8:=e'→List I→List au→Nat→Option (I×List au)
def I.view:I→I
 | .ay c n (.own _)=>.ay c n .shared
 | .ay c n (.uniq _)=>.ay c n .shared
 | .raw _ _ _=>.junk
 | .cn id _ len z=>.ref id 0 len none z
 | v=>v
def I.g0:I→I
 | .ay c n .full=>.ay c n .shared
 | v=>v
def I.cu:I→I
 | .ay c n .full=>.ay c n .shared
 | .agg cs=>.agg (cs.map I.g0)
 | .tuple cs=>.tuple (cs.map I.g0)
 | v=>v
def ct:Nat→I→Bool
 | 0,_=>false
 | d+1,v=>match v with
   | .ay cells _ _=>cells.all (ct d)
   | .bW cells=>cells.all (ct d)
   | .agg cs=>cs.all (ct d)
   | .tuple cs=>cs.all (ct d)
   | .func _ a b=>a.all (ct d) && b.all (ct d)
   | .bool _ | .int _ _ | .str _ | .eH=>true
   | _=>false
def I.plain:I→Bool
 | .ay _ _ (.own _)=>false
 | .ay _ _ (.uniq _)=>false
 | .raw _ _ _=>false
 | .cn _ _ _ _=>false
 | _=>true
def I.cW:I→Bool
 | .ay _ _ (.uniq _)=>false
 | _=>true
def I.settle:I→I
 | .ay c n (.uniq z)=>.ay c n (.own z)
 | v=>v
def I.cells:I→Option (List I)
 | .agg cs=>some cs
 | .junk=>none
 | .tuple _=>none
 | .raw _ _ _=>none
 | v=>some [v]
def hx:Value→I
 | .bool b=>.bool b
 | .int k n=>.int k n
 | .pointer none=>.eH
 | .string s=>.str s
 | .slice none 0 0=>.ay [] 0 .full
 | _=>.junk
noncomputable section
def c8 (T:List I) (t:Nat):I :=
 @List.rec I (fun _=>Nat→I) (fun _=>.junk) (fun h _ bb n=>@Nat.rec (fun _=>I) h (fun m _=>bb m) n) T t
def gR (T:List I) (t:Nat) (v:I):List I :=
 @List.rec I (fun _=>Nat→List I) (fun _=>[]) (fun h xZ bb n=>@Nat.rec (fun _=>List I) (v::xZ) (fun m _=>h::bb m) n) T t
theorem f_ (T:List I):∀ t,c8 T t=T.getD t .junk:=by
 induction T with
 | nil=>intro t;rfl
 | cons h xZ bb=>intro t;cases t with
   | zero=>rfl
   | succ n=>exact bb n
theorem gS (T:List I) (v:I):∀ t,gR T t v=T.set t v:=by
 induction T with
 | nil=>intro t;rfl
 | cons h xZ bb=>intro t;cases t with
   | zero=>rfl
   | succ n=>exact congrArg (h::·) (bb n)
def aA (T:List I):Operand→I
 | .tmp t=>c8 T t
 | .const v=>hx v
 | .func f=>.func f [] []
 | .global _=>.junk
def fU (T:List I) (t:Nat):I→List I
 | .ay c n (.uniq z)=>gR T t (.ay c n (.own z))
 | _=>T
def rd:List I→List Bool→List Operand→List I×List I
 | T,_,[]=>([],T)
 | T,ts,.tmp t::rest =>
   match ts.headD false with
   | true=>let r:=rd (gR T t .junk) ts.tail rest;(c8 T t::r.1,r.2)
   | false=>let r:=rd (fU T t (c8 T t)) ts.tail rest;((c8 T t).view::r.1,r.2)
 | T,ts,x::rest=>let r:=rd T ts.tail rest;(aA T x::r.1,r.2)
def eX:List Bool→List I→List I
 | b::bs,v::vs=>(match b with | true=>v | false=>.junk)::eX bs vs
 | [],vs=>vs
 | _,[]=>[]
def lP (id:Nat):List (Nat×List Bool)→Option (List Bool)
 | []=>none
 | (i,k)::r=>match Nat.beq i id with | true=>some k | false=>lP id r
def e3 (mx:List (Nat×List Bool)) (id:Nat) (s:a7):a7 :=
 match lP id mx with
 | some k=>⟨eX k s.T,s.H⟩
 | none=>s
def opsOf (o:Oper):List Operand :=
 match o.op with
 | .call { callee:=.value f,args,.. }=>f::args.toList
 | .call { args,.. }=>args.toList
 | op=>op.operands.toList
def tmpsOf (xs:List Operand):List Nat:=xs.filterMap fun x=>match x with | .tmp t=>some t | _=>none
def c3:List Bool→List Operand→List Nat
 | _,[]=>[]
 | ts,.tmp t::rest=>match ts.headD false with
   | true=>t::c3 ts.tail rest
   | false=>c3 ts.tail rest
 | ts,_::rest=>c3 ts.tail rest
def o3 (ops:Array Oper) (o:Oper):List Nat:=match o.guard with
 | some (j,_)=>((ops[j]?).bind (·.dst)).toList
 | none=>[]
def e7 (ops:Array Oper) (o:Oper):List Nat:=o3 ops o++tmpsOf (opsOf o)
def jD (xs ys:List Nat):Bool:=xs.all fun x=>!(ys.contains x)
def dn (o:Oper) (mode:Nat):Nat:=match o.op with
 | .load _ _=>if mode=0 then 1 else if mode=2 then 2 else if mode=3 then 0 else if mode=5 then 2 else 5
 | .box _ _=>if mode=0 then 6 else 0
 | .alloc _=>6
 | .makeSlice _ _ _=>if mode=0 then 2 else 0
 | .store _ _ _ | .makeMap _ _ | .mapUpdate _ _ _ _ | .lookup _ _ _ _ | .range _ _ | .entry _=>2
 | .move _ | .assign _=>if mode=0 then 0 else 2
 | .call c=>match c.callee with
   | .builtin b=>match b with
     | .append=>if mode=0 then 1 else 2
     | .len | .cap | .min | .max=>1
     | _=>2
   | .value _=>if mode=0 then 3 else if mode=3 then 0 else if mode=4 then 3 else if mode=6 then 3 else 2
   | .invoke _ _=>2
 | _=>0
def calm (o:Oper) (mode:Nat):Bool:=match o.op with
 | .move _ | .assign _=>mode == 0
 | _=>true
def bQ (a b:Nat):Bool:=a == 0 || b == 0 || ((a == 1 || a == 3) && (b == 1 || b == 3)) || (a == 1 && b == 5) || (a == 5 && b == 1) || (a == 1 && b == 6)
def kU (bD:Oper) (dh:Nat) (bS:Oper):Bool:=match bD.op,bS.op with
 | .load _ _,.mapUpdate _ _ _ _=>dh == 0
 | _,_=>false
def indep (ops:Array Oper) (bD:Oper) (aB:b7) (bS:Oper) (aH:b7):Bool :=
 jD bD.dst.toList (e7 ops bS) && jD bS.dst.toList (e7 ops bD) && jD bD.dst.toList bS.dst.toList &&
 jD (c3 aB.cC (opsOf bD)) (e7 ops bS) && jD (c3 aH.cC (opsOf bS)) (e7 ops bD) &&
 calm bD aB.mode && calm bS aH.mode && (bQ (dn bD aB.mode) (dn bS aH.mode) || kU bD aB.mode bS)
def mD (ms:List Nat) (o:Oper):Nat:=o.after.toList.foldl (fun m e=>if Region.binds .any e then m ||| (ms.getD e.on 0 ||| 1 <<< e.on) else m) 0
def hc:List Oper→List Nat→List Nat
 | [],ms=>ms
 | o::r,ms=>hc r (ms++[mD ms o])
def zN (ops:Array Oper) (as:List b7) (ms:List Nat):Bool :=
 (List.range ops.size).all fun j=>match ops[j]? with
  | none=>true
  | some c5=>(ms.getD j 0 == mD ms c5) && c5.after.toList.all (fun e=>!Region.binds .any e || Nat.blt e.on j) &&
    (List.range j).all fun i=>match ops[i]? with
     | none=>true
     | some cR=>(ms.getD j 0).testBit i || indep ops cR (as.getD i {}) c5 (as.getD j {})
def nf (ops:Array Oper) (as:List b7):Bool:=zN ops as (hc ops.toList [])
def zO (ops:Array Oper) (an:List b7) (ms:List Nat) (p q:Nat):Bool :=
 (List.range ops.size).all fun j=>match ops[j]? with
  | none=>true
  | some c5=>(ms.getD j 0 == mD ms c5) && c5.after.toList.all (fun e=>!Region.binds .any e || Nat.blt e.on j) &&
    (List.range j).all fun i=>match ops[i]? with
     | none=>true
     | some cR=>(ms.getD j 0).testBit i || indep ops cR (an.getD i {}) c5 (an.getD j {}) || (Nat.beq i p && Nat.beq j q)
def ng (ops:Array Oper) (an:List b7) (p q:Nat):Bool:=zO ops an (hc ops.toList []) p q
def Bc (id:Nat):List (Nat×Nat)→Option Nat
 | []=>none
 | (i,p)::r=>match Nat.beq i id with | true=>some p | false=>Bc id r
def kh (A:c') (id:Nat):Bool→Option Nat
 | true=>Bc id A.two
 | false=>none
def xu (A:c') (id:Nat) (ops:Array Oper) (draw:Bool):Bool:=match kh A id draw with
 | some p=>Nat.blt (p+1) ops.size && ng ops (A.ops.getD id []) p (p+1)
 | none=>!draw || nf ops (A.ops.getD id [])
def codeOk (A:c'):Code→Bool
 | .region id ops draw=>xu A id ops draw
 | .seq a b=>codeOk A a && codeOk A b
 | .cond _ a b=>codeOk A a && codeOk A b
 | .block _ c=>codeOk A c
 | .loop c=>codeOk A c
 | .scope c=>codeOk A c
 | .rangeFunc _ _ a b=>codeOk A a && codeOk A b
 | _=>true
section
variable (P:Program)
def bU (t:TypeId):Option Nat:=(P.info? t).map (·.size)
def dN (t:TypeId):Bool:=match P.underlying t with | some (.struct _) | some (.array _ _)=>true | _=>false
def zeroCells (t:TypeId):Option (List I):=((P.info? t).bind (·.zero)).bind fun v=>match v.cells.toList.all (·.oneCell') with | true=>some (v.cells.toList.map hx) | false=>none
def jx (op:BinOp) (k:IntKind) (a b:Int):Option I :=
 match op with
 | .add=>some (.int k (k.wrap (a+b)))
 | .sub=>some (.int k (k.wrap (a-b)))
 | .mul=>some (.int k (k.wrap (a*b)))
 | .quo=>if b=0 then none else some (.int k (k.wrap (a.tdiv b)))
 | .rem=>if b=0 then none else some (.int k (a.tmod b))
 | .eql=>some (.bool (a == b))
 | .neq=>some (.bool (a != b))
 | .lss=>some (.bool (decide (a<b)))
 | .leq=>some (.bool (decide (a≤b)))
 | .gtr=>some (.bool (decide (a > b)))
 | .geq=>some (.bool (decide (a≥b)))
 | .and=>some (.int k (k.wrap (BitVec.ofInt k.bits a &&& BitVec.ofInt k.bits b).toNat))
 | .or=>some (.int k (k.wrap (BitVec.ofInt k.bits a ||| BitVec.ofInt k.bits b).toNat))
 | .xor=>some (.int k (k.wrap (BitVec.ofInt k.bits a ^^^ BitVec.ofInt k.bits b).toNat))
 | .andNot=>some (.int k (k.wrap (BitVec.ofInt k.bits a &&& ~~~ (BitVec.ofInt k.bits b)).toNat))
 | _=>none
def hv (op:BinOp) (k:IntKind) (a b:Int):Option I :=
 if b<0 then none else
 match op with
 | .shl=>some (.int k (k.wrap (a*2 ^ (min b.toNat k.bits))))
 | .shr=>some (.int k (a.fdiv (2 ^ (min b.toNat k.bits))))
 | _=>none
def dP:List I→List I→Option Bool
 | [],[]=>some true
 | .int k a::r,.int k' b::r'=>if k=k' then (dP r r').map fun e=>(a == b) && e else none
 | _,_=>none
def gJ:List Field→Nat→Bool
 | [],_=>true
 | f :: bH, n => (f.offset == n) && (f.name != "_") && (match P.underlying f.type, bU P f.type with | some (.int _), some 1 => true | _, _ => false) && gJ bH (n + 1)
def fp (op:BinOp) (t:TypeId) (x y:I):Option I :=
 match x,y with
 | .int k a,.int k' b =>
   match op with
   | .shl=>hv .shl k a b
   | .shr=>hv .shr k a b
   | op=>if k=k' then jx op k a b else none
 | .bool a,.bool b =>
   match P.underlying t,op with
   | some .bool,.eql=>some (.bool (a == b))
   | some .bool,.neq=>some (.bool (!(a == b)))
   | _,_=>none
 | .agg xs,.agg ys =>
   match P.underlying t with
   | some (.array len e) =>
     match P.underlying e,bU P e with
     | some (.int _),some 1 =>
       if xs.length=len∧ys.length=len∧P.eqGuardType P.depth t=false then
        match op with
        | .eql=>(dP xs ys).map fun e=>.bool e
        | .neq=>(dP xs ys).map fun e=>.bool !e
        | _=>none
       else none
     | _,_=>none
   | some (.struct bH) =>
     if gJ P bH.toList 0=true∧P.stoodInHeld t=false∧xs.length=bH.size∧ys.length=bH.size∧P.eqGuardType P.depth t=false then
      match op with
      | .eql=>(dP xs ys).map fun e=>.bool e
      | .neq=>(dP xs ys).map fun e=>.bool !e
      | _=>none
     else none
   | _=>none
 | _,_=>none
def km (op:UnOp):I→Option I
 | .bool b=>match op with | .not=>some (.bool !b) | _=>none
 | .int k n=>match op with | .neg=>some (.int k (k.wrap (-n))) | _=>none
 | _=>none
def setCells:Nat→List I→List I→List I
 | _,[],cs=>cs
 | off,v::vs,cs=>setCells (off+1) vs (cs.set off v)
def gy (place:Nat→Option (Nat×Nat)):List I→List (Nat×I)→Option (List I)
 | cs,[]=>some cs
 | cs,(i,v)::rest =>
   match place i with
   | some (off,size)=>match v.cells with
     | some vc=>if vc.length=size∧off+size≤cs.length then gy place (setCells off vc cs) rest else none
     | none=>none
   | none=>none
def e5:Nat→List I→List I
 | 0,_=>[]
 | n+1,z=>z++e5 n z
def lz (t:TypeId) (parts:List (Nat×I)):Option I :=
 match zeroCells P t,P.underlying t with
 | some z,some (.struct bH)=>match bH.toList.all (fun f=>(bU P f.type).isSome) with
   | true=>(gy (fun i=>(bH[i]?).bind fun f=>(bU P f.type).map fun s=>(f.offset,s)) z parts).map .agg
   | false=>none
 | some z,some (.array _ e)=>(bU P e).bind fun s=>(gy (fun i=>some (i*s,s)) z parts).map .agg
 | _,_=>none
def iG (t:TypeId) (len:Nat) (parts:List (Nat×I)):Option (List I×Nat) :=
 match P.underlying t with
 | some (.slice e) =>
   match bU P e,zeroCells P e with
   | some s,some z=>if 0<s∧z.length=s∧len*s≤16777216 then (gy (fun i=>some (i*s,s)) (e5 len z) parts).map fun cs=>(cs,s) else none
   | _,_=>none
 | _=>none
def gY (i:Int) (len:Nat):Option Nat:=if 0≤i∧i<len then some i.toNat else none
def h1 (t:TypeId) (x i:I):Option I :=
 match P.underlying t,x,i with
 | some (.slice e),.ay cells len _,.int _ n=>(bU P e).bind fun s=>(gY n len).map fun j=>.bW (cells.drop (j*s))
 | some (.slice e),.ref id off len _ _,.int _ n=>(bU P e).bind fun s=>(gY n len).map fun j=>.ptr id (off+j*s)
 | some (.array len e),.ptr id off,.int _ n=>(bU P e).bind fun s=>(gY n len).map fun j=>.ptr id (off+j*s)
 | some (.array len e),.bW cells,.int _ n=>(bU P e).bind fun s=>(gY n len).map fun j=>.bW (cells.drop (j*s))
 | _,_,_=>none
def jy (t:TypeId) (x:I) (f:Nat):Option I :=
 match P.underlying t,x with
 | some (.struct bH),.ptr id off=>(bH[f]?).bind fun g=>(bU P g.type).bind fun s=>if s=0 then none else some (.ptr id (off+g.offset))
 | some (.struct bH),.bW cells=>(bH[f]?).bind fun g=>(bU P g.type).bind fun s=>if s=0 then none else some (.bW (cells.drop g.offset))
 | _,_=>none
def iH (t:TypeId) (cs:List I) (off:Nat):Option I :=
 match dN P t with
 | true=>(bU P t).bind fun s=>if off+s≤cs.length then some (.agg ((cs.drop off).take s)) else none
 | false=>match P.underlying t with
   | some _=>cs[off]?
   | none=>none
def m7 (t:TypeId) (x:I) (f:Nat):Option I :=
 match P.underlying t,x with
 | some (.struct bH),.agg cs=>(bH[f]?).bind fun g=>iH P g.type cs g.offset
 | _,_=>none
def oE (t:TypeId) (x i:I):Option I :=
 match P.underlying t,x,i with
 | some (.array len e),.agg cs,.int _ n=>(bU P e).bind fun s=>(gY n len).bind fun j=>iH P e cs (j*s)
 | some .string,.str b,.int _ n=>if 0≤n then (b[n.toNat]?).map fun x=>.int .u8 x.toNat else none
 | _,_,_=>none
def cK (x:Option I) (BT DU:Nat):Option Nat :=
 match x with
 | none=>some BT
 | some (.int _ n)=>if 0≤n∧n≤DU then some n.toNat else none
 | _=>none
def eY (t:TypeId) (x:I) (lo hi gK:Option I):Option I :=
 match P.underlying t,x with
 | some (.slice e),.ay cells len c =>
   (bU P e).bind fun s =>
   match gK,hi with
   | none,_ =>
     (cK hi len len).bind fun h=>(cK lo 0 h).bind fun l =>
     some (.ay ((cells.drop (l*s)).take ((h-l)*s)) (h-l) (if c=.full∧h=len then .full else .shared))
   | some _,some _ =>
     (cK gK len len).bind fun m=>(cK hi m m).bind fun h=>(cK lo 0 h).bind fun l =>
     some (.ay ((cells.drop (l*s)).take ((h-l)*s)) (h-l) (if h=m then .full else .shared))
   | some _,none=>none
 | some (.slice e),.ref id off len cap sz =>
   (bU P e).bind fun s=>if s≠sz then none else
   match gK,hi with
   | none,_ =>
     (cK hi len len).bind fun h=>(cK lo 0 h).bind fun l =>
     if l<len then some (.ref id (off+l*s) (h-l) (cap.map (·-l)) sz) else some (.ay [] 0 .shared)
   | some _,some _ =>
     (cK gK len len).bind fun m=>(cK hi m m).bind fun h=>(cK lo 0 h).bind fun l =>
     if m=l then (if l=0 then some (.ref id off (h-l) (some (m-l)) sz) else none) else some (.ref id (off+l*s) (h-l) (some (m-l)) sz)
   | some _,none=>none
 | some (.array n e),.ptr id off =>
   (bU P e).bind fun s =>
   match gK with
   | none=>(cK hi n n).bind fun h=>(cK lo 0 h).bind fun l =>
     if n=l then none else some (.ref id (off+l*s) (h-l) (some (n-l)) s)
   | some _=>none
 | _,_=>none
def rowOf (H:List au):I→Option (List I)
 | .ay cells _ _=>some cells
 | .ref id off len _ sz=>match H[id]? with
   | some (.cells l)=>if off+len*sz≤l.length then some (((l.drop off).take (len*sz)).map I.view) else none
   | _=>none
 | _=>none
def lenOf:I→Option Nat
 | .ay _ len _=>some len
 | .ref _ _ len _ _=>some len
 | _=>none
def fx (n bytes:Nat):Bool:=Nat.ble (n*bytes) 140737488355328 && Nat.ble 1 bytes
def appended (H:List au) (x:I):Option (Nat×List I) :=
 match lenOf x,rowOf H x with
 | some m,some row=>some (m,row)
 | _,_=>none
def fa (H:List au) (t dt:TypeId) (s x:I):Option I :=
 match P.underlying t with
 | some (.slice e) =>
   match bU P e,(P.info? e).map (·.bytes),(zeroCells P e) with
   | some sz,some bytes,some z =>
     match Nat.beq t dt with
     | true =>
       match appended H x with
       | some (m,new) =>
         if new.length=m*sz∧0<sz∧z.length=sz∧fx m bytes then
          match s with
          | .ay cells len c =>
            match c with
            | .shared=>if m=0 then some s else none
            | .full=>if m=0 then (if len=0 then some (.ay [] 0 (.uniq sz)) else some s)
              else if fx (len+m) bytes∧cells.length=len*sz then some (.ay (cells++new) (len+m) (.uniq sz)) else none
            | .own z=>if z=sz∧fx (len+m) bytes then some (.ay (cells++new) (len+m) (.own z)) else none
            | .uniq z=>if z=sz∧fx (len+m) bytes then some (.ay (cells++new) (len+m) (.uniq z)) else none
          | .ref id off len (some cap) om =>
            if cap=len∧om=sz∧0<m then (rowOf H (.ref id off len (some cap) om)).bind fun fQ=>if fx (len+m) bytes then some (.ay (fQ++new) (len+m) (.uniq sz)) else none
            else none
          | _=>none
         else none
       | none=>none
     | false =>
       match P.underlying dt,x,s with
       | some (.int _),.int .i64 n,.ay [] 0 .full =>
         if 0<n∧fx n.toNat bytes∧0<sz∧z.length=sz then some (.ay (e5 n.toNat z) n.toNat (.uniq sz)) else none
       | _,_,_=>none
   | _,_,_=>none
 | _=>none
def ez (t:TypeId) (cs:List I) (off:Nat):Option I :=
 match dN P t with
 | true=>(bU P t).bind fun s=>if off+s≤cs.length then some (.agg (((cs.drop off).take s).map I.view)) else none
 | false=>match P.underlying t with
   | some _=>(cs[off]?).map I.view
   | none=>none
def dW (H:List au) (t:TypeId) (a:I):Option I :=
 match a with
 | .ptr id off=>match H[id]? with
   | some (.cells l)=>ez P t l off
   | some (.grow l _ _)=>ez P t l off
   | _=>none
 | .bW cells=>ez P t cells 0
 | _=>none
def hd (lo:Nat) (H:List au) (id:Nat) (f:List I→Option (List I)):Option (List au) :=
 if lo≤id then match H[id]? with
  | some (.cells l)=>(f l).map fun l'=>H.set id (.cells l')
  | _=>none
 else none
def hf (lo:Nat) (H:List au) (id:Nat) (f:List I→Option (List I)):Option (List au) :=
 if lo≤id then match H[id]? with
  | some (.cells l)=>(f l).map fun l'=>H.set id (.cells l')
  | some (.grow l g z)=>(f l).map fun l'=>H.set id (.grow l' g z)
  | _=>none
 else none
def iI (lo:Nat) (H:List au) (t:TypeId) (a v:I):Option (List au) :=
 match a,bU P t with
 | .ptr id off,some s=>match v.cells with
   | some vc=>hf lo H id fun l=>if vc.length=s∧off+s≤l.length then some (setCells off (vc.map I.settle) l) else none
   | none=>none
 | _,_=>none
def jo (t:TypeId) (n:Nat):Option (List I×Nat) :=
 match P.underlying t with
 | some (.slice e)=>match bU P e,zeroCells P e,(P.info? e).map (·.bytes) with
   | some s,some z,some bytes=>if z.length=s∧0<s∧fx n bytes then some (e5 n z,s) else none
   | _,_,_=>none
 | _=>none
def kX:List I→Int→Option Int
 | [],a=>some a
 | .int _ b::r,a=>kX r (if b<a then b else a)
 | _::_,_=>none
def kW:List I→Int→Option Int
 | [],a=>some a
 | .int _ b::r,a=>kW r (if b > a then b else a)
 | _::_,_=>none
def nU:List I→Option I
 | .int k a::r=>(kX r a).map (.int k)
 | _=>none
def nT:List I→Option I
 | .int k a::r=>(kW r a).map (.int k)
 | _=>none
def g2 (cap:Option Nat) (n:Nat):iB:=match cap with | some c=>if c=n then .full else .shared | none=>.shared
def eh (f:I→Option I):List I→Option (List I)
 | []=>some []
 | x::xs=>match f x with
   | some y=>(eh f xs).map (y::·)
   | none=>none
def mapM (f:I→Option I):List (Nat×I×I)→Option (List (Nat×I×I))
 | []=>some []
 | (i,k,v)::xs=>match f k,f v with
   | some k',some bw=>(mapM f xs).map ((i,k',bw)::·)
   | _,_=>none
def bL (H:List au) (lo id0 n:Nat):Nat→I→Option I
 | 0,_=>none
 | d+1,BI =>
   match BI with
   | .ay cells len c=>(eh (bL H lo id0 n d) cells).map fun cs=>.ay cs len c
   | .bW cells=>(eh (bL H lo id0 n d) cells).map .bW
   | .agg cs=>(eh (bL H lo id0 n d) cs).map .agg
   | .tuple cs=>(eh (bL H lo id0 n d) cs).map .tuple
   | .func f a b=>match eh (bL H lo id0 n d) a,eh (bL H lo id0 n d) b with
     | some a,some b=>some (.func f a b)
     | _,_=>none
   | .ptr id off=>if id<lo then some (.ptr id off) else if id=id0 then some (.ptr n off) else
     match H[id]? with
     | some (.cells l)=>(eh (bL H lo id0 n d) ((l.drop off).map I.view)).map .bW
     | _=>none
   | .ref id off len cap sz=>if id<lo then some (.ref id off len cap sz) else if id=id0 then some (.ref n off len cap sz) else
     match rowOf H (.ref id off len cap sz) with
     | some row=>(eh (bL H lo id0 n d) row).map fun cs=>.ay cs len (g2 cap len)
     | none=>none
   | .yield id=>if id<lo then some (.yield id) else none
   | .map id=>if id<lo then some (.map id) else if id=id0 then some (.map n) else none
   | .raw _ _ _=>none
   | .cn _ _ _ _=>none
   | v=>some v
def fz (parts:List (Nat×Operand)) (vs:List I):List (Nat×I):=(parts.map (·.1)).zip vs
def dr (vs:List I) (i:Nat):Option Operand→Option I
 | none=>none
 | some _=>vs[i]?
def xm:List I→Option I
 | [.bool c,a,b]=>some (match c with | true=>a | false=>b)
 | _=>none
def n0:List I→Option I
 | [.ptr id off]=>some (.ptr id off)
 | [.bW cells]=>some (.bW cells)
 | _=>none
def gg (f:I→I→Option I):List I→Option I
 | [x,y]=>f x y
 | _=>none
def e4 (f:I→Option I):List I→Option I
 | [x]=>f x
 | _=>none
def lA (src dst:TypeId):I→Option I
 | .int _ n=>match P.underlying src,P.underlying dst with | some _,some (.int k)=>some (.int k (k.wrap n)) | _,_=>none
 | _=>none
def mJ (fn:Fn) (n m:Nat) (vs:List I):Option I :=
 match fn with
 | .func f=>if vs.length=n+m then some (.func f (vs.take n) (vs.drop n)) else none
 | _=>none
def ep (t:TypeId) (l h m:Option Operand):List I→Option I
 | x::vs =>
   let i1:=match l with | some _=>1 | none=>0
   let i2:=match h with | some _=>i1+1 | none=>i1
   match x,l,h,m with
   | .ay cells len (.uniq z),none,h,none =>
     match P.underlying t with
     | some (.slice e)=>(bU P e).bind fun _=>(cK (dr vs 0 h) len len).map fun n=>.ay (cells.take (n*z)) n (.uniq z)
     | _=>none
   | .ay cells len (.own z),some lo,none,none =>
     match P.underlying t with
     | some (.slice e)=>(bU P e).bind fun s=>if s=z then (cK (dr vs 0 (some lo)) 0 len).map fun l=>.ay (cells.drop (l*z)) (len-l) (.own z) else none
     | _=>none
   | .cn id gid len z,none,h,none =>
     match P.underlying t with
     | some (.slice e)=>(bU P e).bind fun _=>(cK (dr vs 0 h) len len).map fun n=>.cn id gid n z
     | _=>none
   | x,l,h,m=>eY P t x.view (dr vs 0 l) (dr vs i1 h) (dr vs i2 m)
 | []=>none
def m6 (i:Nat):I→Option I
 | .tuple ws=>ws[i]?
 | _=>none
def iY:Operand→Bool
 | .const (.slice none 0 0)=>true
 | _=>false
def m5 (op:BinOp) (t:TypeId) (x:I):Option I :=
 match P.underlying t with
 | some (.slice _) =>
   match x with
   | .ay _ (_+1) _ | .ref ..=>match op with
     | .eql=>some (.bool false)
     | .neq=>some (.bool true)
     | _=>none
   | .ay [] 0 _=>match op with
     | .eql | .neq=>some .du
     | _=>none
   | _=>none
 | _=>none
def cA (o:Oper) (vs:List I):Option I :=
 match o.op with
 | .pick _ _ _=>xm vs
 | .build t parts=>lz P t (fz parts.toList vs)
 | .buildSlice t len parts=>(iG P t len (fz parts.toList vs)).map fun r=>.ay r.1 len (.uniq r.2)
 | .nilCheck _=>n0 vs
 | .binOp op t _ y _=>match iY y with
   | true=>match vs with
     | [x,_]=>m5 P op t x
     | _=>none
   | false=>gg (fp P op t) vs
 | .unOp op _ _=>e4 (km op) vs
 | .convert src dst _=>e4 (lA P src dst) vs
 | .makeFunc fn first captured=>mJ fn first.size captured.size vs
 | .slice t _ l h m=>ep P t l h m vs
 | .fieldAddr t _ f=>e4 (fun x=>jy P t x f) vs
 | .field t _ f=>(e4 (fun x=>m7 P t x f) vs).map I.view
 | .indexAddr t _ _=>gg (h1 P t) vs
 | .index t _ _=>(gg (oE P t) vs).map I.view
 | .extract _ i=>(e4 (m6 i) vs).map I.view
 | _=>none
def dS (o:Oper):Bool :=
 match o.op with
 | .move _ | .assign _ | .store _ _ _ | .box _ _ | .call _ | .slice _ _ _ _ _=>true
 | _=>false
def yA (lo:Nat):I→Option Nat
 | .ptr id _=>if lo≤id then some id else none
 | .ref id _ _ _ _=>if lo≤id then some id else none
 | .map id=>if lo≤id then some id else none
 | _=>none
def B0 (lo:Nat):I→Option Nat
 | .tuple vs=>vs.findSome? (yA lo)
 | v=>yA lo v
def kf (H:List au):I→I
 | .ref id off len cap sz=>match rowOf H (.ref id off len cap sz) with
   | some row=>.ay row len .shared
   | none=>.ref id off len cap sz
 | v=>v
def hO (H:List au):I→I
 | .ptr id off=>match H[id]? with
   | some (.cells l)=>.bW (((l.drop off).map I.view).map (kf H))
   | _=>.ptr id off
 | .ref id off len cap sz=>kf H (.ref id off len cap sz)
 | v=>v
def iz (H:List au):I→I
 | .ptr id off=>hO H (.ptr id off)
 | .ref id off len cap sz=>hO H (.ref id off len cap sz)
 | .func f a b=>.func f (a.map (hO H)) (b.map (hO H))
 | v=>v
def gQ:I→Bool
 | .bool _ | .int _ _ | .str _=>true
 | _=>false
def gl:I→Bool
 | .bool _ | .int _ _ | .str _=>true
 | .tuple vs=>vs.all gQ
 | .ay cells _ (.uniq _)=>cells.all gQ
 | _=>false
def eZ (C:b8) (lo mode:Nat) (b2:e') (args:List I) (H:List au):Option (I×List au) :=
 match mode with
 | 0=>(C b2 args H H.length).bind fun r=>(bL r.2 H.length r.2.length 0 8 r.1).map fun v=>(v,H)
 | 1=>C b2 args H lo
 | 3=>match b2,args.all (ct 8) with
   | .fn _,true=>(C b2 (args.map I.cu) [] 0).bind fun r=>(bL r.2 0 r.2.length 0 8 r.1).map fun v=>(v.cu,H)
   | _,_=>none
 | 6=>match b2,(args.map (iz H)).all (ct 8) with
   | .fn _,true=>(C b2 ((args.map (iz H)).map I.cu) [] 0).bind fun r=>(bL r.2 0 r.2.length 0 8 r.1).bind fun v=>match gl v with
     | true=>some (v.cu,H)
     | false=>none
   | _,_=>none
 | 7=>match b2,args with
   | .fn _,[.ptr id 0]=>if lo≤id then match H[id]? with
     | some (.cells l)=>match ct 8 (.bW (l.map I.view)) with
       | true=>(C b2 [(I.bW (l.map I.view)).cu] [] 0).bind fun r=>(bL r.2 0 r.2.length 0 8 r.1).map fun v=>(v.cu,H.set id .dead)
       | false=>none
     | _=>none else none
   | _,_=>none
 | 4=>(C b2 (args.map I.cu) H H.length).bind fun r=>(bL r.2 H.length r.2.length 0 8 r.1).map fun v=>(v.cu,H)
 | _=>(C b2 args H H.length).bind fun r =>
   match B0 H.length r.1 with
   | none=>(bL r.2 H.length r.2.length 0 8 r.1).map fun v=>(v,H)
   | some id0 =>
     match r.2[id0]? with
     | some (.cells l)=>if H.length≤id0 then
       match eh (bL r.2 H.length id0 H.length 8) l,bL r.2 H.length id0 H.length 8 r.1 with
       | some l',some v=>some (v,H++[.cells l'])
       | _,_=>none
       else none
     | some (.map es clock)=>if H.length≤id0 then
       match mapM (bL r.2 H.length id0 H.length 8) es,bL r.2 H.length id0 H.length 8 r.1 with
       | some es',some v=>some (v,H++[.map es' clock])
       | _,_=>none
       else none
     | _=>none
def kp (C:b8) (lo mode:Nat) (f:I) (args:List I) (H:List au):Option (I×List au) :=
 match f with
 | .func k first cap=>eZ C lo mode (.fn k) (first++args++cap) H
 | .yield l=>eZ C lo mode (.yield l) args H
 | _=>none
abbrev Out:=Option (I×List au)
def eW (lo mode:Nat) (t:TypeId) (x:Operand) (H:List au):List I→Out
 | [v] =>
   match mode with
   | 0=>match iY x,P.underlying t with
     | true,some (.slice e)=>(bU P e).map fun z=>(.ay [] 0 (.uniq z),H)
     | _,_=>some (v,H)
   | 1=>match v with
     | .ay cells len (.uniq z)=>if len=0 then some (v,H) else some (.ref H.length 0 len none z,H++[.cells cells])
     | .ay [] 0 .full=>some (v,H)
     | .ref ..=>some (v,H)
     | _=>none
   | 4=>match v with
     | .cn id gid n z=>if lo≤id then match H[id]? with
       | some (.grow l g cX)=>if g=gid∧cX=z∧n*z≤l.length∧(l.take (n*z)).all I.plain=true then some (.ay (l.take (n*z)) n (.uniq z),H.set id .dead) else none
       | _=>none else none
     | _=>some (v,H)
   | _=>match v with
     | .ref id _ _ cap _=>if lo≤id then (rowOf H v).bind fun row=>(lenOf v).map fun n =>
       (.ay row n (g2 cap n),H.set id .dead) else none
     | .cn id gid n z=>if lo≤id then match H[id]? with
       | some (.grow l g cX)=>if l.length=n*z then some (.ay (l.map I.view) n .shared,H.set id .dead) else none
       | _=>none else none
     | _=>some (v.view,H)
 | _=>none
def dT (lo mode:Nat) (t:TypeId) (H:List au):List I→Out
 | [a] =>
   match mode with
   | 0=>(dW P H t a).map (·,H)
   | 3=>match a with
     | .bW cells=>(ez P t cells 0).map (·,H)
     | _=>none
   | 5=>match P.underlying t,a with
     | some (.slice _),.ptr id off=>match H[id]? with
       | some (.cells l)=>match l[off]? with
         | some (.cn i g n z)=>some (.cn i g n z,H)
         | some (.ay [] 0 .full)=>some (.ay [] 0 .full,H)
         | _=>none
       | _=>none
     | _,_=>none
   | _=>match P.underlying t,a with
     | some (.slice _),.ptr id off=>if lo≤id then match H[id]? with
       | some (.cells l)=>match l[off]? with
         | some (.ay c n (.own z))=>some (.ay c n (.own z),H.set id (.cells (l.set off (.ay c n .shared))))
         | some (.raw c n z)=>if mode=2 then (if n=0 then none else some (.ref H.length 0 n none z,H.set id (.cells (l.set off (.ref H.length 0 n none z)))++[.cells c]))
           else some (.ay c n (.uniq z),H.set id (.cells (l.set off .junk)))
         | some v=>some (v.view,H)
         | _=>none
       | some (.grow l g cX)=>match l[off]? with
         | some (.ay c n (.own z))=>some (.ay c n (.own z),H.set id (.grow (l.set off (.ay c n .shared)) g cX))
         | some (.ay c n .full)=>some (.ay c n .full,H)
         | _=>none
       | _=>none else none
     | _,_=>none
 | _=>none
def lB (lo:Nat) (H:List au) (t:TypeId) (a v:I):Option (List au) :=
 match a,v,bU P t with
 | .ptr id off,.ay c n (.uniq z),some 1=>if c.all gQ=true∧n≠0 then hd lo H id fun l=>if off<l.length then some (l.set off (.raw c n z)) else none else none
 | _,_,_=>none
def hJ (lo mode:Nat) (t:TypeId) (H:List au):List I→Out
 | [a,v]=>match mode with
   | 0=>(iI P lo H t a v).map fun H'=>(.junk,H')
   | _=>(lB P lo H t a v).map fun H'=>(.junk,H')
 | _=>none
def gM (mode:Nat) (H:List au):List I→Out
 | [v]=>match mode with
   | 0=>v.cells.map fun vc=>(.ptr H.length 0,H++[.cells (vc.map I.settle)])
   | _=>match v.cells with
     | some vc=>match vc.all I.plain with
       | true=>some (.bW vc,H)
       | false=>none
     | none=>none
 | _=>none
def k0 (mode:Nat) (t:TypeId) (H:List au):Out :=
 match mode with
 | 0=>(zeroCells P t).map fun z=>(.ptr H.length 0,H++[.cells z])
 | _=>match zeroCells P t,P.underlying t with
   | some [.ay [] 0 .full],some (.slice e)=>(bU P e).map fun s=>(.ptr H.length 0,H++[.cells [.ay [] 0 (.own s)]])
   | _,_=>none
def j4 (mode:Nat) (t:TypeId) (H:List au):List I→Out
 | [.int _ n,.int _ c] =>
   if 0≤n∧n≤c then
    match mode with
    | 0=>(jo P t c.toNat).map fun r=>(.ref H.length 0 n.toNat (some c.toNat) r.2,H++[.cells r.1])
    | _=>if n=c∧0≤n then (jo P t c.toNat).map fun r=>(.ay r.1 n.toNat (.uniq r.2),H) else none
   else none
 | _=>none
def kR (t:TypeId):Bool:=match P.underlying t with
 | some (.int _)=>true
 | some (.struct bH)=>gJ P bH.toList 0 && !P.stoodInHeld t
 | _=>false
def gF:I→I→Option Bool
 | .int k a,.int k' b=>if k=k' then some (a == b) else none
 | .agg xs,.agg ys=>dP xs ys
 | _,_=>none
def isKey (t:TypeId) (k:I):Bool:=match P.underlying t,k with
 | some (.int q),.int fT _=>q == fT
 | some (.struct bH),.agg cs=>cs.length == bH.size
 | _,_=>false
def fG (k:I):List (Nat×I×I)→Nat→Option (Option Nat)
 | [],_=>some none
 | (_,k',_)::r,i=>match gF k k' with
   | some true=>some (some i)
   | some false=>fG k r (i+1)
   | none=>none
def jZ (t:TypeId):Option (TypeId×TypeId):=match P.underlying t with
 | some (.map k e)=>match kR P k with | true=>some (k,e) | false=>none
 | _=>none
def oy (t:TypeId):Option I:=((P.info? t).bind (·.zero)).bind fun v=>match v with
 | .agg cs=>match cs.toList.all (·.oneCell') with | true=>some (.agg (cs.toList.map hx)) | false=>none
 | v=>some (hx v)
def k3 (t:TypeId) (r:Option Operand) (H:List au):Out :=
 match r,P.underlying t with
 | none,some (.map _ _)=>some (.map H.length,H++[.map [] 0])
 | _,_=>none
def je (lo:Nat) (t:TypeId) (H:List au):List I→Out
 | [.map id,k,v]=>match jZ P t with
   | some (ef,_)=>match isKey P ef k with
     | true=>if lo≤id then match H[id]? with
       | some (.map es clock)=>match fG k es 0 with
         | some (some i)=>some (.junk,H.set id (.map (es.modify i fun e=>(e.1,k,v)) clock))
         | some none=>some (.junk,H.set id (.map (es++[(clock,k,v)]) (clock+1)))
         | none=>none
       | _=>none else none
     | false=>none
   | none=>none
 | _=>none
def im (t:TypeId) (ok:Bool) (H:List au):List I→Out
 | [.map id,k]=>match jZ P t with
   | some (ef,iL)=>match isKey P ef k,H[id]? with
     | true,some (.map es _)=>match fG k es 0 with
       | some r =>
         (match r.bind fun i=>es[i]? with | some e=>some e.2.2 | none=>oy P iL).map fun v =>
          (if ok then .tuple [v,.bool r.isSome] else v,H)
       | none=>none
     | _,_=>none
   | none=>none
 | _=>none
def hI (lo:Nat) (ts:Array TypeId) (H:List au):List I→Out
 | [.map id,k]=>match (ts[0]?).bind (jZ P) with
   | some (ef,_)=>match isKey P ef k with
     | true=>if lo≤id then match H[id]? with
       | some (.map es clock)=>match fG k es 0 with
         | some (some i)=>some (.tuple [],H.set id (.map (es.eraseIdx i) clock))
         | some none=>some (.tuple [],H)
         | none=>none
       | _=>none else none
     | false=>none
   | none=>none
 | _=>none
def k4 (t:TypeId) (H:List au):List I→Out
 | [.map id]=>match P.underlying t,H[id]? with
   | some (.map _ _),some (.map _ clock)=>some (.ptr H.length 0,H++[.iter id clock [] clock])
   | _,_=>none
 | _=>none
def k2 (H:List au):List I→Out
 | [.ptr r 0]=>match H[r]? with
   | some (.iter m _ seen kg)=>match seen.getLast?,H[m]? with
     | some gm,some (.map es clock)=>if clock=kg then match es.find? (fun e=>e.1 == gm) with
       | some e=>some (.tuple [e.2.1,e.2.2],H)
       | none=>none else none
     | _,_=>none
   | _=>none
 | _=>none
def iZ (t:Option TypeId):Bool:=match t.bind P.underlying with | some (.slice _)=>true | _=>false
def hj (ts:Array TypeId) (H:List au):List I→Out
 | [x]=>match x with
   | .ay _ n _=>match iZ P ts[0]? with | true=>some (.int .i64 n,H) | false=>none
   | .ref _ _ n _ _=>match iZ P ts[0]? with | true=>some (.int .i64 n,H) | false=>none
   | .map id=>match (ts[0]?).bind P.underlying,H[id]? with | some (.map _ _),some (.map es _)=>some (.int .i64 es.length,H) | _,_=>none
   | _=>match (ts[0]?).bind P.underlying with | some (.array n _)=>some (.int .i64 n,H) | _=>none
 | _=>none
def j2 (ts:Array TypeId) (H:List au):List I→Out
 | [.ay _ n .full]=>match iZ P ts[0]? with | true=>some (.int .i64 n,H) | false=>none
 | [.ref _ _ _ (some n) _]=>match iZ P ts[0]? with | true=>some (.int .i64 n,H) | false=>none
 | _=>none
def j3 (lo:Nat) (ts:Array TypeId) (H:List au):List I→Out
 | [.ref id off len _ sz,x]=>match (ts[0]?).bind P.underlying with
   | some (.slice e)=>match bU P e,lenOf x,rowOf H x with
     | some s,some m,some row=>if s=sz∧row.length=m*sz then
       (hd lo H id fun l=>if off+len*sz≤l.length then some (setCells off (row.take (min m len*sz)) l) else none).map fun H'=>(.int .i64 (min m len:Nat),H') else none
     | _,_,_=>none
   | _=>none
 | _=>none
def k1 (lo:Nat) (ts:Array TypeId) (H:List au):List I→Out
 | [.ref id off len _ sz]=>match (ts[0]?).bind P.underlying with
   | some (.slice e)=>match bU P e,zeroCells P e with
     | some s,some z=>if s=sz∧z.length=s∧0<s then
       (hf lo H id fun l=>if off+len*sz≤l.length then some (setCells off (e5 len z) l) else none).map fun H'=>(.tuple [],H') else none
     | _,_=>none
   | _=>none
 | [.ay [] 0 _]=>match iZ P ts[0]? with | true=>some (.tuple [],H) | false=>none
 | _=>none
def jc (ts:Array TypeId) (H:List au):List I→Out
 | [s,x]=>match ts.toList with
   | [t,dt]=>(fa P H t dt s x).map (·,H)
   | _=>none
 | _=>none
def il (lo:Nat) (ts:Array TypeId) (H:List au):List I→Out
 | [s,x]=>match ts.toList with
   | [t,dt]=>match s with
     | .ay _ _ _=>match fa P H t dt s x with
       | some (.ay cells n (.uniq z))=>if n=0 then none else some (.cn H.length (H.length+1) n z,H++[.grow cells (H.length+1) z,.dead])
       | _=>none
     | .cn id gid len z=>if lo≤id then match P.underlying t,H[id]? with
       | some (.slice e),some (.grow l g cX)=>match bU P e,(P.info? e).map (·.bytes),zeroCells P e,appended H x with
         | some sz,some bytes,some gp,some (m,new) =>
           if t=dt∧g=gid∧cX=z∧z=sz∧l.length=len*z∧new.length=m*sz∧0<sz∧0<m∧gp.length=sz∧fx m bytes=true∧fx (len+m) bytes=true then
            some (.cn H.length (H.length+1) (len+m) z,H.set id .dead++[.grow (l++new) (H.length+1) z,.dead])
           else none
         | _,_,_,_=>none
       | _,_=>none else none
     | _=>none
   | _=>none
 | _=>none
def ji (lo:Nat) (H:List au):List I→List au
 | .cn id _ len z::_=>match H[id]? with
   | some (.grow l g cX)=>match Nat.blt (len*z) l.length && Nat.ble lo id with
     | true=>H.set id (.grow (l.take (len*z)) g cX)
     | false=>H
   | _=>H
 | _=>H
def jd (lo:Nat) (ts:Array TypeId) (H:List au) (vs:List I):Out:=il P lo ts (ji lo H vs) vs
def eA (lo:Nat) (b:Builtin) (ts:Array TypeId) (H:List au) (vs:List I):Out :=
 match b with
 | .append=>jc P ts H vs
 | .len=>hj P ts H vs
 | .cap=>j2 P ts H vs
 | .copy=>j3 P lo ts H vs
 | .clear=>k1 P lo ts H vs
 | .delete=>hI P lo ts H vs
 | .min=>(nU vs).map (·,H)
 | .max=>(nT vs).map (·,H)
 | _=>none
def hH (C:b8) (lo mode:Nat) (H:List au):List I→Out
 | f::args=>kp C lo mode f args H
 | []=>none
def a_ (C:b8) (lo:Nat) (o:Oper) (mode:Nat) (vs:List I) (H:List au):Out :=
 match o.op with
 | .move x=>eW P lo mode o.type x H vs
 | .assign x=>eW P lo mode o.type x H vs
 | .load t _=>dT P lo mode t H vs
 | .store t _ _=>hJ P lo mode t H vs
 | .box _ _=>gM mode H vs
 | .alloc t=>k0 P mode t H
 | .buildSlice t len parts=>match mode with
   | 0=>(cA P o vs).map (·,H)
   | _=>(iG P t len (fz parts.toList vs)).map fun r=>(.ay r.1 len .full,H)
 | .makeSlice t _ _=>j4 P mode t H vs
 | .makeMap t r=>k3 P t r H
 | .mapUpdate t _ _ _=>je P lo t H vs
 | .lookup t _ _ ok=>im P t ok H vs
 | .range t _=>k4 P t H vs
 | .entry _=>k2 H vs
 | .call c=>match c.callee with
   | .builtin b=>match b with
     | .append=>match mode with
       | 0=>eA P lo b c.argTypes H vs
       | _=>jd P lo c.argTypes H vs
     | _=>eA P lo b c.argTypes H vs
   | .value _=>hH C lo mode H vs
   | .invoke _ _=>none
 | _=>(cA P o vs).map (·,H)
def put (T:List I):Option Tmp→I→List I
 | some d,v=>gR T d v
 | none,_=>T
def inPlace (o:Oper) (mode:Nat) (T:List I) (v:I):List I :=
 match mode with
 | 0=>T
 | 4=>T
 | _=>match o.op with
   | .move (.tmp t) | .assign (.tmp t)=>gR T t v.view
   | _=>T
def execOp (C:b8) (lo:Nat) (o:Oper) (an:b7) (s:a7):Option a7 :=
 let r:=rd s.T an.cC (opsOf o)
 let vs:=match dS o with | true=>r.1 | false=>r.1.map I.view
 (a_ P C lo o an.mode vs s.H).map fun x=>⟨put (inPlace o an.mode r.2 x.1) o.dst x.1,x.2⟩
def eB (ops:Array Oper) (o:Oper) (T:List I):Option Bool :=
 match o.guard with
 | none=>some true
 | some (j,want)=>match (ops[j]?).bind (·.dst) with
   | some d=>match c8 T d with
     | .bool b=>some (b == want)
     | .tuple []=>some false
     | _=>none
   | none=>none
def eN (C:b8) (lo:Nat) (ops:Array Oper):List Oper→List b7→a7→Option a7
 | [],_,s=>some s
 | o::rest,as,s =>
   match eB ops o s.T with
   | some true=>(execOp P C lo o (as.headD {}) s).bind (eN C lo ops rest as.tail)
   | some false=>eN C lo ops rest as.tail ⟨put s.T o.dst (.tuple []),s.H⟩
   | none=>none
def ij (f:a7→Option (cE×a7)):Nat→a7→Option (cE×a7)
 | 0,_=>none
 | n+1,s=>match f s with
   | some (.normal,aF)=>ij f n aF
   | r=>r
def inLoop (H:List au):Option Nat→Bool
 | none=>true
 | some l=>match H[l]? with
   | some (.loop ..)=>true
   | _=>false
def exec (A:c') (C:b8) (fn:FuncId) (lo d:Nat) (rl:Option Nat):Code→Nat→a7→Option (cE×a7)
 | .skip,_,s=>some (.normal,s)
 | .region id ops draw,_,s=>match kh A id draw with
   | some _=>none
   | none=>(eN P C lo ops ops.toList (A.ops.getD id []) (e3 A.ih id s)).map fun aF=>(.normal,aF)
 | .seq a b,a0,s=>match exec A C fn lo d rl a a0 s with
   | some (.normal,aF)=>exec A C fn lo d rl b a0 aF
   | r=>r
 | .cond c a b,a0,s=>match aA s.T c with
   | .bool true=>exec A C fn lo d rl a a0 s
   | .bool false=>exec A C fn lo d rl b a0 s
   | _=>none
 | .block id body,_,s=>match exec A C fn lo d rl body id s with
   | some (.exit bB,aF)=>if bB=id then some (.normal,aF) else some (.exit bB,aF)
   | r=>r
 | .loop body,a0,s=>ij (fun aF=>exec A C fn lo d rl body a0 (e3 A.ig a0 aF)) d s
 | .exit id,_,s=>some (.exit id,s)
 | .ret,_,s=>some (.ret,s)
 | .scope body,a0,s=>exec A C fn lo d rl body a0 s
 | .label _,_,s=>some (.normal,s)
 | .rangeFunc f params assign body,_,s =>
   match inLoop s.H rl,aA s.T f with
   | true,.func k first cap =>
     match C (.fn k) (first++[.yield s.H.length]++cap) (s.H++[.loop .ready none fn (s.T.map I.view) params.toList assign body A]) lo with
     | some (_,H')=>match H'[s.H.length]? with
       | some (.loop st cI _ _ _ _ _ _) =>
         if st=.busy then none else
         match cI with
         | none=>some (.normal,⟨s.T.map I.settle,H'.set s.H.length .dead⟩)
         | some .ret=>some (.ret,⟨s.T.map I.settle,H'.set s.H.length .dead⟩)
         | some (.exit id)=>some (.exit id,⟨s.T.map I.settle,H'.set s.H.length .dead⟩)
         | _=>none
       | _=>none
     | none=>none
   | _,_=>none
 | _,_,_=>none
def fl (H:List au) (T:List I):List ResultVar→Option (List I)
 | []=>some []
 | .tmp t::r=>(fl H T r).map (c8 T t::·)
 | .cell a t::r=>match dW P H t (c8 T a),fl H T r with
   | some v,some vs=>some (v::vs)
   | _,_=>none
def hk:List I→I
 | [v]=>v
 | vs=>.tuple (vs.map I.view)
def hq:List Nat→List I→List I→Option (List I)
 | [],[],T=>some T
 | p::bl,v::vs,T=>hq bl vs (gR T p v)
 | _,_,_=>none
def fX (A:FuncId→c') (tab:b8):Nat→b8
 | 0,_,_,_,_=>none
 | d+1,.fn k,args,H,lo =>
   match tab (.fn k) args H lo with
   | some r=>some r
   | none =>
   match (A k).bad with
   | true=>none
   | false =>
   match P.funcs[k]? with
   | some f=>match f.body with
     | some c =>
       match exec P (A k) (fX A tab d) k lo d none c 0 ⟨args++List.replicate (f.ntmps-args.length) .junk,H⟩ with
       | some (.normal,s) | some (.ret,s)=>(fl P s.H s.T f.results.toList).map fun vs=>(hk vs,s.H)
       | _=>none
     | none=>none
   | none=>none
 | d+1,.yield l,args,H,lo =>
   if l<lo then none else
   match H[l]? with
   | some (.loop .ready _ fn T params assign body an) =>
     match hq params args T with
     | some a9 =>
       match exec P an (fX A tab d) fn lo d (some l) assign 0 ⟨a9,H⟩ with
       | some (.normal,s) =>
         match s.H[l]? with
         | some (.loop .ready cI fn T params assign lF iJ) =>
           match exec P an (fX A tab d) fn lo d (some l) body 0 ⟨s.T,s.H.set l (.loop .busy cI fn T params assign lF iJ)⟩ with
           | some (e,s2) =>
             match s2.H[l]? with
             | some (.loop .busy _ fn T params assign lF iJ) =>
               match e with
               | .normal=>some (.bool true,s2.H.set l (.loop .ready none fn T params assign lF iJ))
               | .ret=>some (.bool false,s2.H.set l (.loop .done (some .ret) fn T params assign lF iJ))
               | .exit id=>some (.bool false,s2.H.set l (.loop .done (some (.exit id)) fn T params assign lF iJ))
             | _=>none
           | none=>none
         | _=>none
       | _=>none
     | none=>none
   | _=>none
end
end
end Go.Proofs.YtfakoboiahbhaaaGreat.Ab


namespace Go.Proofs.YtfakoboiahbhaaaGreat.Ab
open Go
inductive aI where
 | slot (i:Nat)
 | arg (i:Nat)
 | res
 | obj (id:Nat)
 | cell (id j:Nat)
 | mark
 deriving DecidableEq
inductive Rel (J:List Nat) (S:Nat→Nat→Prop) (w:World):I→Value→Prop
 | junk (v:Value):Rel J S w .junk v
 | bool (b:Bool):Rel J S w (.bool b) (.bool b)
 | du (b:Bool):Rel J S w .du (.bool b)
 | int (k:IntKind) (n:Int):Rel J S w (.int k n) (.int k n)
 | str (s:ByteArray):Rel J S w (.str s) (.string s)
 | eH:Rel J S w .eH (.pointer none)
 | ptr (id off b:Nat) (h:J[id]?=some b):Rel J S w (.ptr id off) (.pointer (some ⟨b,off,none⟩))
 | bW (cells:List I) (b o:Nat) (f:Nat→Value)
   (h:∀ (j:Nat) (u:I),cells[j]?=some u→S b (o+j)∧w.cell? ⟨b,o+j,none⟩=some (f j)∧u.plain=true∧(f j).oneCell'=true)
   (aj:∀ (j:Nat) (u:I),cells[j]?=some u→Rel J S w u (f j)):Rel J S w (.bW cells) (.pointer (some ⟨b,o,none⟩))
 | b3 (c:iB) (a:Option Addr):Rel J S w (.ay [] 0 c) (.slice a 0 0)
 | ay (cells:List I) (len:Nat) (c:iB) (b o cap:Nat) (f:Nat→Value)
   (ao:c=.full→cap=len) (hle:len≤cap) (hu:∀ z,c≠.uniq z)
   (h:∀ (j:Nat) (u:I),cells[j]?=some u→S b (o+j)∧w.cell? ⟨b,o+j,none⟩=some (f j)∧u.plain=true∧(f j).oneCell'=true)
   (aj:∀ (j:Nat) (u:I),cells[j]?=some u→Rel J S w u (f j)):Rel J S w (.ay cells len c) (.slice (some ⟨b,o,none⟩) len cap)
 | cN (cells:List I) (len z b o cap:Nat):Rel J S w (.ay cells len (.uniq z)) (.slice (some ⟨b,o,none⟩) len cap)
 | raw (cells:List I) (len z b o cap:Nat):Rel J S w (.raw cells len z) (.slice (some ⟨b,o,none⟩) len cap)
 | ref (id off len:Nat) (c:Option Nat) (sz b cap:Nat) (h:J[id]?=some b) (ao:∀ n,c=some n→cap=n) (hle:len≤cap) :
   Rel J S w (.ref id off len c sz) (.slice (some ⟨b,off,none⟩) len cap)
 | cn (id gid len z b cap:Nat) (h:J[id]?=some b) (aO:J[gid]?=some cap) (hle:len≤cap):Rel J S w (.cn id gid len z) (.slice (some ⟨b,0,none⟩) len cap)
 | func (f:FuncId) (as bs:List I) (vs ws:Array Value) (ad:vs.size=as.length) (af:ws.size=bs.length)
   (bT:∀ u∈as,u.plain=true) (b6:∀ u∈bs,u.plain=true)
   (r1:∀ (j:Nat) (u:I) (v:Value),as[j]?=some u→vs[j]?=some v→Rel J S w u v)
   (r2:∀ (j:Nat) (u:I) (v:Value),bs[j]?=some u→ws[j]?=some v→Rel J S w u v):Rel J S w (.func f as bs) (.func (.func f) vs ws)
 | yield (id b:Nat) (h:J[id]?=some b):Rel J S w (.yield id) (.func (.yield b) #[] #[])
 | map (id b:Nat) (h:J[id]?=some b):Rel J S w (.map id) (.map (some b))
 | agg (as:List I) (vs:Array Value) (h:vs.size=as.length) (p:∀ u∈as,u.plain=true) (one:∀ v∈vs.toList,v.oneCell'=true)
   (r:∀ (j:Nat) (u:I) (v:Value),as[j]?=some u→vs[j]?=some v→Rel J S w u v):Rel J S w (.agg as) (.agg vs)
 | tuple (as:List I) (vs:Array Value) (h:vs.size=as.length) (p:∀ u∈as,u.plain=true)
   (r:∀ (j:Nat) (u:I) (v:Value),as[j]?=some u→vs[j]?=some v→Rel J S w u v):Rel J S w (.tuple as) (.tuple vs)
def aW (U:Nat→Option aI) (J:List Nat) (S:Nat→Nat→Prop) (w:World) (l:aI):I→Value→Prop
 | .ay cells len (.own z),.slice (some a) _ cap=>(len=0∧cap=0∧cells=[]) ∨
   (U a.block=some l∧True∧a.spot=none∧len≤cap∧cap≤maxLen∧0<z∧cells.length=len*z ∧
    (∃ cur e,w.heap[a.block]?=some (.cells cur e (0,0))∧cur.size=a.off+cap*z)∧∀ o,a.off+cells.length≤o→¬ S a.block o)
 | .ay cells len (.uniq z),.slice (some a) _ cap=>(len=0∧cap=0∧cells=[]) ∨
   (U a.block=some l∧a.off=0∧len≤cap∧cap≤maxLen∧0<z∧cells.length=len*z ∧
    (∃ cur e,w.heap[a.block]?=some (.cells cur e (0,0))∧cur.size=cap*z ∧
     ∀ (j:Nat) (u:I) (v:Value),cells[j]?=some u→cur[j]?=some v→u.plain=true∧v.oneCell'=true∧Rel J S w u v)∧∀ o,¬ S a.block o)
 | .raw cells len z,.slice (some a) _ cap =>
   U a.block=some l∧a.off=0∧len≤cap∧cap≤maxLen∧0<z∧cells.length=len*z∧cells.all gQ=true ∧
     (∃ cur e,w.heap[a.block]?=some (.cells cur e (0,0))∧cur.size=cap*z ∧
      ∀ (j:Nat) (u:I) (v:Value),cells[j]?=some u→cur[j]?=some v→v.oneCell'=true∧Rel J S w u v)∧∀ o,¬ S a.block o
 | _,_=>True
structure bk (U:Nat→Option aI) (S:Nat→Nat→Prop) (w:World) (az:Nat→Option aI) (S':Nat→Nat→Prop) (w':World):Prop where
 os:w'.os=w.os
 tape:w'.tape=w.tape
 output:w'.output=w.output
 size:w.heap.size≤w'.heap.size
 cG:∀ b,b<w.heap.size→U b=none→w'.heap[b]?=w.heap[b]?
 set:∀ b o,S b o→S' b o∧w'.cell? ⟨b,o,none⟩=w.cell? ⟨b,o,none⟩
 fresh:∀ b o,S' b o→S b o∨U b≠none∨w.heap.size≤b
 own:∀ b,az b≠none→U b≠none∨w.heap.size≤b
theorem bk.refl (U:Nat→Option aI) (S:Nat→Nat→Prop) (w:World):bk U S w U S w :=
 ⟨rfl,rfl,rfl,sx _,fun _ _ _=>rfl,fun _ _ h=>⟨h,rfl⟩,fun _ _ h=>.inl h,fun _ h=>.inl h⟩
theorem bk.trans {U b4 bq:Nat→Option aI} {S a6 bJ:Nat→Nat→Prop} {w bF bV:World} (h:bk U S w b4 a6 bF) (k:bk b4 a6 bF bq bJ bV) :
  bk U S w bq bJ bV where
 os:=k.os.trans h.os
 tape:=k.tape.trans h.tape
 output:=k.output.trans h.output
 size:=sW h.size k.size
 cG b ag aN:=by
  have ad:b4 b=none:=by
   cases hw:b4 b with
   | none=>rfl
   | some l =>
     rcases h.own b (by simp [hw]) with af | af
     ·exact absurd aN af
     ·omega
  rw [k.cG b (Nat.lt_of_lt_of_le ag h.size) ad,h.cG b ag aN]
 set b o ai:=by
  obtain ⟨ad,af⟩:=h.set b o ai;obtain ⟨aJ,aP⟩:=k.set b o ad;exact ⟨aJ,aP.trans af⟩
 fresh b o ai:=by
  rcases k.fresh b o ai with ad | ad | ad
  ·exact h.fresh b o ad
  ·rcases h.own b ad with af | af
   ·exact .inr (.inl af)
   ·exact .inr (.inr af)
  ·exact .inr (.inr (sW h.size ad))
 own b ag:=by
  rcases k.own b ag with ad | ad
  ·exact h.own b ad
  ·exact .inr (sW h.size ad)
def Ext (J b1:List Nat):Prop:=∀ (i b:Nat),J[i]?=some b→b1[i]?=some b
theorem Ext.refl (J:List Nat):Ext J J:=fun _ _ h=>h
theorem Ext.trans {a b c:List Nat} (h:Ext a b) (k:Ext b c):Ext a c:=fun i x al=>k i x (h i x al)
theorem Ext.append (a b:List Nat):Ext a (a++b):=fun i x al=>by
 rw [sR (ss.1 al).1];exact al
theorem Rel.mono {J b1:List Nat} {S S':Nat→Nat→Prop} {w w':World} (bM:Ext J b1)
  (cp:∀ b o,S b o→S' b o∧w'.cell? ⟨b,o,none⟩=w.cell? ⟨b,o,none⟩) {u:I} {v:Value} (h:Rel J S w u v):Rel b1 S' w' u v:=by
 induction h with
 | junk v=>exact .junk v
 | bool b=>exact .bool b
 | du b=>exact .du b
 | int k n=>exact .int k n
 | str s=>exact .str s
 | eH=>exact .eH
 | ptr id off b h=>exact .ptr id off b (bM _ _ h)
 | bW cells b o f h aj bb =>
   exact .bW cells b o f (fun j u aw=>let ⟨ad,af,aG⟩:=h j u aw;⟨(cp _ _ ad).1,(cp _ _ ad).2.trans af,aG⟩) bb
 | b3 c a=>exact .b3 c a
 | ay cells len c b o cap f ao hle hu h aj bb =>
   exact .ay cells len c b o cap f ao hle hu (fun j u aw=>let ⟨ad,af,aG⟩:=h j u aw;⟨(cp _ _ ad).1,(cp _ _ ad).2.trans af,aG⟩) bb
 | cN cells len z b o cap=>exact .cN cells len z b o cap
 | raw cells len z b o cap=>exact .raw cells len z b o cap
 | ref id off len c sz b cap h ao hle=>exact .ref id off len c sz b cap (bM _ _ h) ao hle
 | cn id gid len z b cap h aO hle=>exact .cn id gid len z b cap (bM _ _ h) (bM _ _ aO) hle
 | func f as bs vs ws ad af bT b6 r1 r2 i1 i2=>exact .func f as bs vs ws ad af bT b6 i1 i2
 | yield id b h=>exact .yield id b (bM _ _ h)
 | map id b h=>exact .map id b (bM _ _ h)
 | agg as vs h p one r bb=>exact .agg as vs h p one bb
 | tuple as vs h p r bb=>exact .tuple as vs h p bb
theorem aW.mono {U az:Nat→Option aI} {J b1:List Nat} {S S':Nat→Nat→Prop} {w w':World} {l l':aI} (bM:Ext J b1)
  (cp:∀ b o,S b o→S' b o∧w'.cell? ⟨b,o,none⟩=w.cell? ⟨b,o,none⟩)
  (gf:∀ b,U b=some l→az b=some l'∧w'.heap[b]?=w.heap[b]?∧∀ o,S' b o→S b o) {u:I} {v:Value} (h:aW U J S w l u v) :
  aW az b1 S' w' l' u v:=by
 unfold aW at h ⊢;split at h
 ·rcases h with h | ⟨ad,af,aG,a8,bN,bX,cQ,⟨cur,e,cU,cY⟩,dD⟩
  ·exact .inl h
  ·obtain ⟨aJ,aP,cl⟩:=gf _ ad;exact .inr ⟨aJ,af,aG,a8,bN,bX,cQ,⟨cur,e,aP.trans cU,cY⟩,fun o aq ai=>dD o aq (cl o ai)⟩
 ·rcases h with h | ⟨ad,aS,a8,bN,bX,cQ,⟨cur,e,cU,cY,dD⟩,fq⟩
  ·exact .inl h
  ·obtain ⟨aJ,aP,cl⟩:=gf _ ad;exact .inr ⟨aJ,aS,a8,bN,bX,cQ,⟨cur,e,aP.trans cU,cY,fun j u v hu ae=>⟨(dD j u v hu ae).1,(dD j u v hu ae).2.1,((dD j u v hu ae).2.2).mono bM cp⟩⟩,fun o ai=>fq o (cl o ai)⟩
 ·obtain ⟨ad,aS,a8,bN,bX,cQ,ai,⟨cur,e,cU,cY,dD⟩,fq⟩:=h;obtain ⟨aJ,aP,cl⟩:=gf _ ad;exact ⟨aJ,aS,a8,bN,bX,cQ,ai,⟨cur,e,aP.trans cU,cY,fun j u v hu ae=>⟨(dD j u v hu ae).1,((dD j u v hu ae).2).mono bM cp⟩⟩,fun o ai=>fq o (cl o ai)⟩
 ·trivial
theorem aW.b5 {U:Nat→Option aI} {J:List Nat} {S:Nat→Nat→Prop} {w:World} {l:aI} {u:I} {v:Value} (h:u.plain=true):aW U J S w l u v:=by
 unfold aW;split <;> first | trivial | simp [I.plain] at h
def gx (U:Nat→Option aI) (J:List Nat) (S:Nat→Nat→Prop) (w:World) (id:Nat):au→Prop
 | .dead=>True
 | .cells l=>∃ b cur e,J[id]?=some b∧U b=some (.obj id)∧w.heap[b]?=some (.cells cur e (0,0))∧l.length≤cur.size∧(∀ o,¬ S b o) ∧
   ∀ (j:Nat) (u:I) (v:Value),l[j]?=some u→cur[j]?=some v→u.cW=true∧v.oneCell'=true∧Rel J S w u v∧aW U J S w (.cell id j) u v
 | .loop st cI fn T params assign body jz=>codeOk jz assign=true∧codeOk jz body=true∧∃ b L,J[id]?=some b∧U b=some (.obj id)∧w.heap[b]?=some (.loop L)∧L.state=st∧L.pending=cI∧True ∧
   L.tmps.size=T.length∧(∀ (i:Nat) (u:I) (v:Value),T[i]?=some u→L.tmps[i]?=some v→u.plain=true∧Rel J S w u v)∧L.params.toList=params∧L.assign=assign∧L.body=body
 | .map es clock=>∃ b bA,J[id]?=some b∧U b=some (.obj id)∧w.heap[b]?=some (.map bA clock)∧bA.size=es.length∧(∀ o,¬ S b o) ∧
   ∀ (j i:Nat) (k v:I) (x:MapEntry),es[j]?=some (i,k,v)→bA[j]?=some x→x.born=i∧k.plain=true∧Rel J S w k x.key∧v.plain=true∧Rel J S w v x.val
 | .grow l gid z=>∃ b cur e,J[id]?=some b∧U b=some (.obj id)∧w.heap[b]?=some (.cells cur e (0,0))∧l.length≤cur.size∧(∀ o,¬ S b o) ∧
   (∀ (j:Nat) (u:I) (v:Value),l[j]?=some u→cur[j]?=some v→u.cW=true∧v.oneCell'=true∧Rel J S w u v∧aW U J S w (.cell id j) u v) ∧
   ∃ cap,J[gid]?=some cap∧cap≤maxLen∧0<z∧cur.size=cap*z
 | .iter m since seen kg=>∃ b ei,J[id]?=some b∧U b=some (.obj id)∧J[m]?=some ei∧w.heap[b]?=some (.mapIter (some ei) since seen.toArray kg)∧(∀ o,¬ S b o)
structure aL (B:Nat) (U:Nat→Option aI) (J:List Nat) (S:Nat→Nat→Prop) (w:World) (H:List au):Prop where
 cH:J.length=H.length
 obj:∀ (id:Nat) (o:au),H[id]?=some o→gx U J S w id o
 ch:∀ b o,S b o→∃ v,w.cell? ⟨b,o,none⟩=some v
 base:∀ b l,U b=some l→B≤b∧b<w.heap.size
 c1:B≤w.heap.size
structure a' (bC:Nat→aI) (U:Nat→Option aI) (J:List Nat) (S:Nat→Nat→Prop) (w:World) (T:List I) (bh:List Value):Prop where
 len:T.length=bh.length
 rel:∀ (i:Nat) (u:I) (v:Value),T[i]?=some u→bh[i]?=some v→Rel J S w u v
 own:∀ (i:Nat) (u:I) (v:Value),T[i]?=some u→bh[i]?=some v→aW U J S w (bC i) u v
theorem AP {J b1:List Nat} {S S':Nat→Nat→Prop} {w w':World} {u:I} {v:Value} (h:gQ u=true) (aj:Rel J S w u v):Rel b1 S' w' u v:=by
 cases aj <;> simp [gQ] at h <;> constructor
theorem EW {u:I} (h:gQ u=true):u.plain=true:=by
 cases u <;> simp [gQ] at h <;> rfl
theorem Ei {U:Nat→Option aI} {J:List Nat} {S:Nat→Nat→Prop} {w:World} {l:aI} {c:List I} {n z:Nat} {v:Value} (aj:Rel J S w (.raw c n z) v) (aq:aW U J S w l (.raw c n z) v) :
  Rel J S w (.ay c n (.uniq z)) v∧aW U J S w l (.ay c n (.uniq z)) v:=by
 cases aj with
 | raw _ _ _ b o cap =>
   obtain ⟨ad,aS,a8,bN,bX,cQ,ai,⟨cur,e,cU,cY,dD⟩,fq⟩:=aq;rw [sS] at ai;exact ⟨.cN _ _ _ _ _ _,.inr ⟨ad,aS,a8,bN,bX,cQ,⟨cur,e,cU,cY,fun j u v hu ae=>⟨EW (ai u (sY hu)),dD j u v hu ae⟩⟩,fq⟩⟩
theorem FN {U:Nat→Option aI} {J:List Nat} {S:Nat→Nat→Prop} {w:World} {l:aI} {c:List I} {n z:Nat} {v:Value} (aN:n≠0) (ai:c.all gQ=true) (aj:Rel J S w (.ay c n (.uniq z)) v) (aq:aW U J S w l (.ay c n (.uniq z)) v) :
  Rel J S w (.raw c n z) v∧aW U J S w l (.raw c n z) v:=by
 cases aj with
 | b3 _ a=>exact absurd rfl aN
 | ay _ _ _ b o cap f ao hle hu h aj=>exact absurd rfl (hu z)
 | cN _ _ _ b o cap =>
   rcases aq with ⟨h,_,_⟩ | ⟨ad,aS,a8,bN,bX,cQ,⟨cur,e,cU,cY,dD⟩,fq⟩
   ·exact absurd h aN
   ·exact ⟨.raw _ _ _ _ _ _,ad,aS,a8,bN,bX,cQ,ai,⟨cur,e,cU,cY,fun j u v hu ae=>(dD j u v hu ae).2⟩,fq⟩
theorem mB {w:World} {b o:Nat} {v:Value} (h:w.cell? ⟨b,o,none⟩=some v):b<w.heap.size:=World.block_lt_of_cell? w ⟨b,o,none⟩ h
end Go.Proofs.YtfakoboiahbhaaaGreat.Ab


namespace Go.Proofs.YtfakoboiahbhaaaGreat.Ab
open Go
structure eC (U:Nat→Option aI) (S:Nat→Nat→Prop) (az:Nat→Option aI) (S':Nat→Nat→Prop):Prop where
 set:∀ b o,S b o→S' b o
 fresh:∀ b o,S' b o→S b o∨∃ i,U b=some (.slot i)
 cG:∀ b l,U b=some l→(∀ i,l≠.slot i)→az b=some l
 none:∀ b,U b=none→az b=none
 slot:∀ b i,az b=some (.slot i)→U b=some (.slot i)
theorem eC.refl (U:Nat→Option aI) (S:Nat→Nat→Prop):eC U S U S :=
 ⟨fun _ _ h=>h,fun _ _ h=>.inl h,fun _ _ h _=>h,fun _ h=>h,fun _ _ h=>h⟩
theorem eC.trans {U b4 bq:Nat→Option aI} {S a6 bJ:Nat→Nat→Prop} (h:eC U S b4 a6) (k:eC b4 a6 bq bJ):eC U S bq bJ where
 set b o ai:=k.set b o (h.set b o ai)
 fresh b o ai:=by
  rcases k.fresh b o ai with ad | ⟨i,ad⟩
  ·exact h.fresh b o ad
  ·exact .inr ⟨i,h.slot b i ad⟩
 cG b l ak aN:=k.cG b l (h.cG b l ak aN) aN
 none b ag:=k.none b (h.none b ag)
 slot b i ag:=h.slot b i (k.slot b i ag)
theorem eC.aA {U az:Nat→Option aI} {S S':Nat→Nat→Prop} (h:eC U S az S') (w:World):bk U S w az S' w where
 os:=rfl
 tape:=rfl
 output:=rfl
 size:=sx _
 cG _ _ _:=rfl
 set b o ai:=⟨h.set b o ai,rfl⟩
 fresh b o ai:=by
  rcases h.fresh b o ai with ad | ⟨i,ad⟩
  ·exact .inl ad
  ·exact .inr (.inl (by simp [ad]))
 own b ag:=by
  refine .inl fun aS=>ag (h.none b aS)
theorem aW.gs {U az:Nat→Option aI} {S S':Nat→Nat→Prop} (g:eC U S az S') {J:List Nat} {w:World} {l:aI} (ak:∀ i,l≠.slot i) {u:I} {v:Value}
  (h:aW U J S w l u v):aW az J S' w l u v:=by
 refine h.mono (Ext.refl J) (fun b o ai=>⟨g.set b o ai,rfl⟩) fun b ag=>⟨g.cG b l ag ak,rfl,fun o ai=>?_⟩;rcases g.fresh b o ai with ad | ⟨i,ad⟩
 ·exact ad
 ·rw [ag] at ad;cases ad;exact absurd rfl (ak i)
theorem Rel.gs {U az:Nat→Option aI} {S S':Nat→Nat→Prop} (g:eC U S az S') {J:List Nat} {w:World} {u:I} {v:Value} (h:Rel J S w u v):Rel J S' w u v :=
 h.mono (Ext.refl J) fun b o ai=>⟨g.set b o ai,rfl⟩
theorem gx.gs {U az:Nat→Option aI} {S S':Nat→Nat→Prop} (g:eC U S az S') {J:List Nat} {w:World} {id:Nat} {o:au} (h:gx U J S w id o):gx az J S' w id o:=by
 have cp:∀ b bB,U b=some (.obj bB)→∀ o,S' b o→S b o:=fun b bB ag o ai=>by
  rcases g.fresh b o ai with ad | ⟨i,ad⟩
  ·exact ad
  ·rw [ag] at ad;cases ad
 cases o with
 | dead=>trivial
 | cells l =>
   obtain ⟨b,cur,e,ad,af,aG,a8,bN,bX⟩:=h
   exact ⟨b,cur,e,ad,g.cG b _ af (by simp),aG,a8,fun o ai=>bN o (cp b id af o ai),fun j u v hu ae =>
    let ⟨aB,jw,aH,aR⟩:=bX j u v hu ae;⟨aB,jw,aH.gs g,aR.gs g (by simp)⟩⟩
 | grow l gid z =>
   obtain ⟨b,cur,e,ad,af,aG,a8,bN,bX,cQ⟩:=h
   exact ⟨b,cur,e,ad,g.cG b _ af (by simp),aG,a8,fun o ai=>bN o (cp b id af o ai),fun j u v hu ae =>
    let ⟨aB,jw,aH,aR⟩:=bX j u v hu ae;⟨aB,jw,aH.gs g,aR.gs g (by simp)⟩,cQ⟩
 | loop st cI fn T params assign body jz =>
   obtain ⟨al,a2,b,L,ad,af,aG,a8,bN,bX,cQ,cU,cY⟩:=h;exact ⟨al,a2,b,L,ad,g.cG b _ af (by simp),aG,a8,bN,bX,cQ,fun i u v hu ae=>⟨(cU i u v hu ae).1,(cU i u v hu ae).2.gs g⟩,cY⟩
 | map es clock =>
   obtain ⟨b,bA,ad,af,aG,a8,bN,bX⟩:=h
   exact ⟨b,bA,ad,g.cG b _ af (by simp),aG,a8,fun o ai=>bN o (cp b id af o ai),fun j i k v x hu ae =>
    let ⟨aB,aH,aR,bm,bf⟩:=bX j i k v x hu ae;⟨aB,aH,aR.gs g,bm,bf.gs g⟩⟩
 | iter m s e t =>
   obtain ⟨b,ei,ad,af,aG,a8,bN⟩:=h;exact ⟨b,ei,ad,g.cG b _ af (by simp),aG,a8,fun o ai=>bN o (cp b id af o ai)⟩
theorem aL.gs {B:Nat} {U az:Nat→Option aI} {S S':Nat→Nat→Prop} (g:eC U S az S') {J:List Nat} {w:World} {H:List au} (h:aL B U J S w H)
  (hw:∀ b o,S' b o→∃ v,w.cell? ⟨b,o,none⟩=some v):aL B az J S' w H where
 cH:=h.cH
 obj id o aq:=(h.obj id o aq).gs g
 ch:=hw
 base b l ak:=by
  cases ag:U b with
  | none=>rw [g.none b ag] at ak;cases ak
  | some l'=>exact h.base b l' ag
 c1:=h.c1
theorem lC (J:List Nat) (S:Nat→Nat→Prop) (w:World) (v:Value):Rel J S w (hx v) v:=by
 unfold hx;split
 ·exact .bool _
 ·exact .int _ _
 ·exact .eH
 ·exact .str _
 ·exact .b3 _ _
 ·exact .junk _
theorem m8 (v:Value):(hx v).plain=true:=by
 unfold hx;split <;> rfl
theorem I.dk (u:I):u.view.plain=true:=by
 unfold I.view;split <;> first | rfl | skip
 rename_i ad af aG a8;unfold I.plain;split
 ·exact absurd rfl (ad _ _ _)
 ·exact absurd rfl (af _ _ _)
 ·exact absurd rfl (aG _ _ _)
 ·exact absurd rfl (a8 _ _ _ _)
 ·rfl
theorem I.gh {u:I} (h:u.plain=true):u.cW=true:=by
 unfold I.plain at h;unfold I.cW;split at h <;> simp_all
theorem I.kl {u:I} (h:u.plain=true):u.view=u:=by
 unfold I.view;split <;> simp_all [I.plain]
theorem Rel.view {J:List Nat} {S:Nat→Nat→Prop} {w:World} {u:I} {v:Value} (h:Rel J S w u v) (aN:u.cW=true):Rel J S w u.view v:=by
 cases h with
 | b3 c a=>cases c <;> simp [I.view] <;> exact .b3 _ _
 | ay cells len c b o cap f ao hle hu h aj =>
   cases c with
   | shared=>exact .ay cells len .shared b o cap f ao hle hu h aj
   | full=>exact .ay cells len .full b o cap f ao hle hu h aj
   | own z=>exact .ay cells len .shared b o cap f (by simp) hle (by simp) h aj
   | uniq z=>exact absurd rfl (hu z)
 | cN=>simp [I.cW] at aN
 | raw=>exact .junk _
 | cn id gid len z b cap h aO hle=>exact .ref id 0 len none z b cap h (by simp) hle
 | junk v=>exact .junk v
 | bool b=>exact .bool b
 | du b=>exact .du b
 | int k n=>exact .int k n
 | str s=>exact .str s
 | eH=>exact .eH
 | ptr id off b h=>exact .ptr id off b h
 | bW cells b o f h aj=>exact .bW cells b o f h aj
 | ref id off len c sz b cap h ao hle=>exact .ref id off len c sz b cap h ao hle
 | func f as bs vs ws ad af bT b6 r1 r2=>exact .func f as bs vs ws ad af bT b6 r1 r2
 | yield id b h=>exact .yield id b h
 | map id b h=>exact .map id b h
 | agg as vs h p one r=>exact .agg as vs h p one r
 | tuple as vs h p r=>exact .tuple as vs h p r
section
variable {B:Nat} {J:List Nat} {w:World} {H:List au}
theorem a'.gs {bC:Nat→aI} (ak:∀ i k,bC i≠.slot k) {U az:Nat→Option aI} {S S':Nat→Nat→Prop} (g:eC U S az S') {T:List I} {bh:List Value} (h:a' bC U J S w T bh) :
  a' bC az J S' w T bh :=
 ⟨h.len,fun i u v hu ae=>(h.rel i u v hu ae).gs g,fun i u v hu ae=>(h.own i u v hu ae).gs g (ak i)⟩
theorem FI {U:Nat→Option aI} {S:Nat→Nat→Prop} {T:List I} {bh:List Value} (l:aI) (ak:∀ i,l≠.slot i)
  (bZ:a' .slot U J S w T bh) (ah:aL B U J S w H) (t:Nat) :
  ∃ az,eC U S az S∧a' .slot az J S w (T.set t .junk) bh∧aL B az J S w H ∧
    Rel J S w (T.getD t .junk) (bh.getD t undef)∧aW az J S w l (T.getD t .junk) (bh.getD t undef):=by
 classical
 refine ⟨fun b=>if U b=some (.slot t) then some l else U b,?_,?_,?_,?_,?_⟩
 ·refine ⟨fun _ _ h=>h,fun _ _ h=>.inl h,fun b l' h aN=>?_,fun b h=>?_,fun b i h=>?_⟩
  ·have:U b≠some (.slot t):=by rw [h];intro e;cases e;exact aN t rfl
   simp only [this,if_false];exact h
  ·simp [h]
  ·split at h
   ·cases h;exact absurd rfl (ak i)
   ·exact h
 ·refine ⟨by simpa using bZ.len,fun i u v hu ae=>?_,fun i u v hu ae=>?_⟩
  ·rw [vD] at hu;split at hu
   ·split at hu
    ·cases hu;exact .junk _
    ·cases hu
   ·exact bZ.rel i u v hu ae
  ·rw [vD] at hu;split at hu
   ·split at hu
    ·cases hu;exact aW.b5 rfl
    ·cases hu
   ·rename_i bO;refine (bZ.own i u v hu ae).mono (Ext.refl J) (fun b o ai=>⟨ai,rfl⟩) fun b ag=>⟨?_,rfl,fun o ai=>ai⟩
    have:U b≠some (.slot t):=by rw [ag];intro e;cases e;exact bO rfl
    simp only [this,if_false];exact ag
 ·refine ah.gs ⟨fun _ _ h=>h,fun _ _ h=>.inl h,fun b l' h aN=>?_,fun b h=>?_,fun b i h=>?_⟩ ah.ch
  ·have:U b≠some (.slot t):=by rw [h];intro e;cases e;exact aN t rfl
   simp only [this,if_false];exact h
  ·simp [h]
  ·split at h
   ·cases h;exact absurd rfl (ak i)
   ·exact h
 ·cases hu:T[t]? with
  | none=>rw [sV,hu];exact .junk _
  | some u =>
    have aU:=(ss.1 hu).1;have ae:bh[t]?=some (bh[t]'(bZ.len ▸ aU)):=sI _;rw [sV,hu,sV,ae];exact bZ.rel t _ _ hu ae
 ·cases hu:T[t]? with
  | none=>rw [sV,hu];exact aW.b5 rfl
  | some u =>
    have aU:=(ss.1 hu).1;have ae:bh[t]?=some (bh[t]'(bZ.len ▸ aU)):=sI _;rw [sV,hu,sV,ae];refine (bZ.own t _ _ hu ae).mono (Ext.refl J) (fun b o ai=>⟨ai,rfl⟩) fun b ag=>⟨?_,rfl,fun o ai=>ai⟩;simp [ag]
theorem ke {U:Nat→Option aI} {S:Nat→Nat→Prop} {l:aI} {cells:List I} {len z:Nat} {v:Value} (ah:aL B U J S w H)
  (aj:Rel J S w (.ay cells len (.uniq z)) v) (aq:aW U J S w l (.ay cells len (.uniq z)) v) :
  ∃ S':Nat→Nat→Prop,(∀ b o,S b o→S' b o)∧(∀ b o,S' b o→S b o∨U b=some l)∧(∀ b o,S' b o→∃ v,w.cell? ⟨b,o,none⟩=some v) ∧
    Rel J S' w (.ay cells len .shared) v∧Rel J S' w (.ay cells len (.own z)) v∧aW U J S' w l (.ay cells len (.own z)) v:=by
 cases aj with
 | b3 c a=>exact ⟨S,fun _ _ h=>h,fun _ _ h=>.inl h,ah.ch,.b3 _ _,.b3 _ _,by cases a <;> first | trivial | exact .inl ⟨rfl,rfl,rfl⟩⟩
 | ay cells len c b o cap f ao hle ca h yZ=>exact absurd rfl (ca z)
 | cN cells len z b o cap =>
   rcases aq with ⟨rfl,rfl,rfl⟩ | ⟨ad,aS,af,aG,a8,bN,⟨cur,e,bX,cQ,cU⟩,cY⟩
   ·refine ⟨S,fun _ _ h=>h,fun _ _ h=>.inl h,ah.ch,?_,?_,.inl ⟨rfl,rfl,rfl⟩⟩
    ·exact .ay [] 0 .shared b o 0 (fun _=>undef) (by simp) (sx _) (by simp) (by simp) (by simp)
    ·exact .ay [] 0 (.own z) b o 0 (fun _=>undef) (by simp) (sx _) (by simp) (by simp) (by simp)
   ·simp only at aS;subst aS;(have jK:cells.length≤cur.size:=by rw [cQ,bN];exact tP _ af);have bz:∀ j,w.cell? ⟨b,j,none⟩=cur[j]?:=fun j=>by
     unfold World.cell?;simp only at bX;rw [bX];simp
    have aO:∀ ar o,S ar o→(S ar o∨(ar=b∧o<cells.length)):=fun _ _ h=>.inl h;have CN:∀ {u:I} {v:Value},Rel J S w u v→Rel J (fun ar o=>S ar o∨(ar=b∧o<cells.length)) w u v:=fun h=>h.mono (Ext.refl J) fun b o ai=>⟨aO b o ai,rfl⟩;have yi:∀ (j:Nat) (u:I),cells[j]?=some u→(S b (0+j)∨(b=b∧0+j<cells.length))∧w.cell? ⟨b,0+j,none⟩=some (cur.getD j undef)∧u.plain=true∧(cur.getD j undef).oneCell'=true:=by
     intro j u aw;have l4:=(ss.1 aw).1;have c9:cur[j]?=some (cur[j]'(by omega)):=sT _;refine ⟨.inr ⟨rfl,by omega⟩,?_,(cU j u _ aw c9).1,?_⟩
     ·rw [tc,bz,c9];simp [Array.getD,show j<cur.size by omega]
     ·have:=(cU j u _ aw c9).2.1;simpa [Array.getD,show j<cur.size by omega] using this
    have z9:∀ (j:Nat) (u:I),cells[j]?=some u→Rel J (fun ar o=>S ar o∨(ar=b∧o<cells.length)) w u (cur.getD j undef):=by
     intro j u aw;have l4:=(ss.1 aw).1;have c9:cur[j]?=some (cur[j]'(by omega)):=sT _;have:=CN (cU j u _ aw c9).2.2;simpa [Array.getD,show j<cur.size by omega] using this
    refine ⟨fun ar o=>S ar o∨(ar=b∧o<cells.length),aO,?_,?_,?_,?_,?_⟩
    ·rintro ar o (h | ⟨rfl,h⟩)
     ·exact .inl h
     ·exact .inr ad
    ·rintro ar o (h | ⟨rfl,h⟩)
     ·exact ah.ch ar o h
     ·exact ⟨cur[o]'(by omega),by rw [bz];exact sT _⟩
    ·exact .ay cells len .shared b 0 cap (fun j=>cur.getD j undef) (by simp) af (by simp) yi z9
    ·exact .ay cells len (.own z) b 0 cap (fun j=>cur.getD j undef) (by simp) af (by simp) yi z9
    ·refine .inr ⟨ad,trivial,rfl,af,aG,a8,bN,⟨cur,e,bX,by simpa using cQ⟩,fun o aq ai=>?_⟩;simp only [tc] at aq;rcases ai with ai | ⟨_,ai⟩
     ·exact cY o ai
     ·omega
theorem E1 {U:Nat→Option aI} {S:Nat→Nat→Prop} {T:List I} {bh:List Value}
  (bZ:a' .slot U J S w T bh) (ah:aL B U J S w H) (t:Nat) (cells:List I) (len z:Nat) (hu:T[t]?=some (.ay cells len (.uniq z))) :
  ∃ S',eC U S U S'∧a' .slot U J S' w (T.set t (.ay cells len (.own z))) bh∧aL B U J S' w H ∧
    Rel J S' w (.ay cells len .shared) (bh.getD t undef):=by
 have aU:=(ss.1 hu).1;have ae:bh[t]?=some (bh[t]'(bZ.len ▸ aU)):=sI _;have aj:=bZ.rel t _ _ hu ae;have aq:=bZ.own t _ _ hu ae;rw [sV,ae];simp only [u6];generalize bh[t]'(bZ.len ▸ aU)=v at ae aj aq;obtain ⟨S',aJ,aP,hw,r1,r2,eJ⟩:=ke ah aj aq;have aO:eC U S U S':=⟨aJ,fun b o h=>(aP b o h).imp id fun h=>⟨t,h⟩,fun _ _ h _=>h,fun _ h=>h,fun _ _ h=>h⟩;have Db:∀ b i,i≠t→U b=some (.slot i)→∀ o,S' b o→S b o:=fun b i hi ag o ai=>by
  rcases aP b o ai with h | h
  ·exact h
  ·rw [ag] at h;cases h;exact absurd rfl hi
 refine ⟨S',aO,⟨by simpa using bZ.len,fun i bI bw ca bg=>?_,fun i bI bw ca bg=>?_⟩,ah.gs aO hw,r1⟩
 ·rw [vD] at ca;split at ca
  ·rename_i heq;subst heq;cases ca;rw [ae] at bg;cases bg;exact r2
  ·exact (bZ.rel i _ _ ca bg).gs aO
 ·rw [vD] at ca;split at ca
  ·rename_i heq;subst heq;cases ca;rw [ae] at bg;cases bg;exact eJ
  ·rename_i bO;exact (bZ.own i _ _ ca bg).mono (Ext.refl J) (fun b o ai=>⟨aO.set b o ai,rfl⟩) fun b ag=>⟨ag,rfl,fun o ai=>Db b i (fun e=>bO e.symm) ag o ai⟩
theorem a'.cons {bC:Nat→aI} {U:Nat→Option aI} {S:Nat→Nat→Prop} {u:I} {v:Value} {T:List I} {bh:List Value} (ad:Rel J S w u v) (af:aW U J S w (bC 0) u v)
  (h:a' (fun i=>bC (i+1)) U J S w T bh):a' bC U J S w (u::T) (v::bh):=by
 refine ⟨by simp [h.len],fun i bI bw hu ae=>?_,fun i bI bw hu ae=>?_⟩
 ·cases i with
  | zero=>simp at hu ae;subst hu ae;exact ad
  | succ i=>exact h.rel i bI bw (by simpa using hu) (by simpa using ae)
 ·cases i with
  | zero=>simp at hu ae;subst hu ae;exact af
  | succ i=>exact h.own i bI bw (by simpa using hu) (by simpa using ae)
theorem a'.nil {bC:Nat→aI} {U:Nat→Option aI} {S:Nat→Nat→Prop}:a' bC U J S w [] []:=⟨rfl,by simp,by simp⟩
theorem Ek (a:Act):∀ (ops:List Operand) (ts:List Bool) (T:List I) (k:Nat) (U:Nat→Option aI) (S:Nat→Nat→Prop),
  a' .slot U J S w T a.tmps.toList→aL B U J S w H →
  ∃ az S',eC U S az S'∧a' .slot az J S' w (rd T ts ops).2 a.tmps.toList∧aL B az J S' w H∧a' (fun i=>.arg (k+i)) az J S' w (rd T ts ops).1 (ops.map a.eval):=by
 intro ops
 induction ops with
 | nil=>intro ts T k U S bZ ah;exact ⟨U,S,eC.refl _ _,by simpa [rd] using bZ,ah,by simpa [rd] using a'.nil⟩
 | cons x rest bb =>
   intro ts T k U S bZ ah;have easy:∀ u:I,Rel J S w u (a.eval x)→u.plain=true→(rd T ts (x::rest))=(u::(rd T ts.tail rest).1,(rd T ts.tail rest).2) →
     ∃ az S',eC U S az S'∧a' .slot az J S' w (rd T ts (x::rest)).2 a.tmps.toList∧aL B az J S' w H ∧
       a' (fun i=>.arg (k+i)) az J S' w (rd T ts (x::rest)).1 ((x::rest).map a.eval):=by
    intro u hu aC he;obtain ⟨az,S',g,lV,cf,ae⟩:=bb ts.tail T (k+1) U S bZ ah;rw [he];refine ⟨az,S',g,lV,cf,?_⟩;refine a'.cons (hu.gs g) (aW.b5 aC) ?_;simpa [t_,tF 1] using ae
   cases x with
   | const v =>
     exact easy (hx v) (lC J S w v) (m8 v) rfl
   | func f=>exact easy (.func f [] []) (.func f [] [] #[] #[] rfl rfl (by simp) (by simp) (by simp) (by simp)) rfl rfl
   | global g=>exact easy .junk (.junk _) rfl rfl
   | tmp t =>
     (have jM:a.eval (.tmp t)=a.tmps.toList.getD t undef:=by simp [Act.eval,sO]);cases ax:ts.headD false with
     | true =>
       obtain ⟨b4,cd,ky,bY,dv,jR⟩:=FI (.arg k) (by simp) bZ ah t;obtain ⟨az,S',g,lV,cf,ae⟩:=bb ts.tail (T.set t .junk) (k+1) b4 S ky bY;have he:rd T ts (.tmp t::rest)=(T.getD t .junk::(rd (T.set t .junk) ts.tail rest).1,(rd (T.set t .junk) ts.tail rest).2):=by
        simp only [rd,ax,gS,f_]
       rw [he];refine ⟨az,S',cd.trans g,lV,cf,?_⟩;refine a'.cons ?_ ?_ ?_
       ·rw [jM];exact dv.gs g
       ·rw [jM];exact jR.gs g (by simp)
       ·simpa [t_,tF 1] using ae
     | false =>
       have he:rd T ts (.tmp t::rest)=((T.getD t .junk).view::(rd (fU T t (T.getD t .junk)) ts.tail rest).1,(rd (fU T t (T.getD t .junk)) ts.tail rest).2):=by
        simp only [rd,ax,f_]
       by_cases a5:∃ cells len z,T[t]?=some (.ay cells len (.uniq z))
       ·obtain ⟨cells,len,z,a5⟩:=a5;obtain ⟨a6,cd,ky,bY,dv⟩:=E1 bZ ah t cells len z a5;obtain ⟨az,S',g,lV,cf,ae⟩:=bb ts.tail (T.set t (.ay cells len (.own z))) (k+1) U a6 ky bY;(have aO:T.getD t .junk=.ay cells len (.uniq z):=by rw [sV,a5];rfl);rw [he,aO];simp only [fU,gS,I.view];refine ⟨az,S',cd.trans g,lV,cf,?_⟩;refine a'.cons ?_ (aW.b5 rfl) ?_
        ·rw [jM];exact dv.gs g
        ·simpa [t_,tF 1] using ae
       ·have pH:(T.getD t .junk).cW=true:=by
         rw [sV];cases hu:T[t]? with
         | none=>rfl
         | some u =>
           simp only [u6];unfold I.cW;split
           ·exact absurd ⟨_,_,_,hu⟩ a5
           ·rfl
        have eo:fU T t (T.getD t .junk)=T:=by
         unfold fU;split
         ·rename_i h;rw [h] at pH;simp [I.cW] at pH
         ·rfl
        have aj:Rel J S w (T.getD t .junk) (a.eval (.tmp t)):=by
         rw [jM];cases hu:T[t]? with
         | none=>rw [sV,hu];exact .junk _
         | some u =>
           have aU:=(ss.1 hu).1;have ae:a.tmps.toList[t]?=some (a.tmps.toList[t]'(bZ.len ▸ aU)):=sI _;rw [sV,hu,sV,ae];exact bZ.rel t _ _ hu ae
        refine easy (T.getD t .junk).view (aj.view pH) (I.dk _) ?_;rw [he,eo]
end
end Go.Proofs.YtfakoboiahbhaaaGreat.Ab


namespace Go.Proofs.YtfakoboiahbhaaaGreat.Ab
open Go
section
variable {P:Program} {B:Nat} {J:List Nat} {w:World} {H:List au} {U:Nat→Option aI} {S:Nat→Nat→Prop}
def a3 (B:Nat) (U:Nat→Option aI) (J:List Nat) (S:Nat→Nat→Prop) (w:World) (H':List au) (r:I) (v:Value) (w':World):Prop :=
 ∃ az b1 S',Ext J b1∧bk U S w az S' w'∧aL B az b1 S' w' H'∧Rel b1 S' w' r v∧aW az b1 S' w' .res r v
theorem a3.same (ah:aL B U J S w H) {r:I} {v:Value} (aj:Rel J S w r v) (aC:r.plain=true):a3 B U J S w H r v w :=
 ⟨U,J,S,Ext.refl J,bk.refl _ _ _,ah,aj,aW.b5 aC⟩
theorem aL.settle (ah:aL B U J S w H) {S':Nat→Nat→Prop} (ad:∀ b o,S b o→S' b o)
  (af:∀ b o,S' b o→S b o∨∃ l,U b=some l∧(∀ id,l≠.obj id)∧∀ id j,l≠.cell id j) (aG:∀ b o,S' b o→∃ v,w.cell? ⟨b,o,none⟩=some v):aL B U J S' w H:=by
 have hm:∀ {u:I} {v:Value},Rel J S w u v→Rel J S' w u v:=fun h=>h.mono (Ext.refl J) fun b o ai=>⟨ad b o ai,rfl⟩;refine ⟨ah.cH,fun id o aq=>?_,aG,ah.base,ah.c1⟩;have h:=ah.obj id o aq;cases o with
 | dead=>trivial
 | cells l =>
   obtain ⟨b,cur,e,aB,aH,aR,bm,bf,bj⟩:=h;refine ⟨b,cur,e,aB,aH,aR,bm,fun o ai=>?_,fun j u v hu ae=>?_⟩
   ·rcases af b o ai with h | ⟨l,h,cc,_⟩
    ·exact bf o h
    ·rw [aH] at h;cases h;exact cc id rfl
   ·obtain ⟨bc,c0,bn,bu⟩:=bj j u v hu ae;refine ⟨bc,c0,hm bn,bu.mono (Ext.refl J) (fun b o ai=>⟨ad b o ai,rfl⟩) fun b ag=>⟨ag,rfl,fun o ai=>?_⟩⟩;rcases af b o ai with h | ⟨l,h,_,cq⟩
    ·exact h
    ·rw [ag] at h;cases h;exact absurd rfl (cq id j)
 | grow l gid z =>
   obtain ⟨b,cur,e,aB,aH,aR,bm,bf,bj,c4⟩:=h;refine ⟨b,cur,e,aB,aH,aR,bm,fun o ai=>?_,fun j u v hu ae=>?_,c4⟩
   ·rcases af b o ai with h | ⟨l,h,cc,_⟩
    ·exact bf o h
    ·rw [aH] at h;cases h;exact cc id rfl
   ·obtain ⟨bc,c0,bn,bu⟩:=bj j u v hu ae;refine ⟨bc,c0,hm bn,bu.mono (Ext.refl J) (fun b o ai=>⟨ad b o ai,rfl⟩) fun b ag=>⟨ag,rfl,fun o ai=>?_⟩⟩;rcases af b o ai with h | ⟨l,h,_,cq⟩
    ·exact h
    ·rw [ag] at h;cases h;exact absurd rfl (cq id j)
 | loop st cI fn T params assign body jz =>
   obtain ⟨al,a2,b,L,aB,aH,aR,bm,bf,bj,c4,dd,dI⟩:=h;exact ⟨al,a2,b,L,aB,aH,aR,bm,bf,bj,c4,fun i u v hu ae=>⟨(dd i u v hu ae).1,hm (dd i u v hu ae).2⟩,dI⟩
 | map es clock =>
   obtain ⟨b,bA,aB,aH,aR,bm,bf,bj⟩:=h;refine ⟨b,bA,aB,aH,aR,bm,fun o ai=>?_,fun j i k v x hu ae=>?_⟩
   ·rcases af b o ai with h | ⟨l,h,cc,_⟩
    ·exact bf o h
    ·rw [aH] at h;cases h;exact cc id rfl
   ·obtain ⟨bc,bn,bu,b9,d'⟩:=bj j i k v x hu ae;exact ⟨bc,bn,hm bu,b9,hm d'⟩
 | iter m s e t =>
   obtain ⟨b,ei,aB,aH,aR,bm,bf⟩:=h;refine ⟨b,ei,aB,aH,aR,bm,fun o ai=>?_⟩;rcases af b o ai with h | ⟨l,h,cc,_⟩
   ·exact bf o h
   ·rw [aH] at h;cases h;exact cc id rfl
theorem bk.settle {S':Nat→Nat→Prop} (ad:∀ b o,S b o→S' b o) (af:∀ b o,S' b o→S b o∨∃ l,U b=some l):bk U S w U S' w :=
 ⟨rfl,rfl,rfl,sx _,fun _ _ _=>rfl,fun b o h=>⟨ad b o h,rfl⟩,fun b o h=>(af b o h).imp id fun ⟨l,ak⟩=>.inl (by simp [ak]),fun _ h=>.inl h⟩
theorem a'.gU {bC:Nat→aI} {u:I} {T:List I} {bh:List Value} (h:a' bC U J S w (u::T) bh) :
  ∃ v hQ,bh=v::hQ∧Rel J S w u v∧aW U J S w (bC 0) u v∧a' (fun i=>bC (i+1)) U J S w T hQ:=by
 cases bh with
 | nil=>exact absurd h.len (by simp)
 | cons v hQ =>
   exact ⟨v,hQ,rfl,h.rel 0 u v rfl rfl,h.own 0 u v rfl rfl,by simpa using h.len,fun i bI bw hu ae=>h.rel (i+1) bI bw (by simpa using hu) (by simpa using ae),
    fun i bI bw hu ae=>h.own (i+1) bI bw (by simpa using hu) (by simpa using ae)⟩
theorem E0:∀ (T:List I) (bh:List Value) (bC:Nat→aI) (S:Nat→Nat→Prop),(∀ i j,bC i=bC j→i=j)→(∀ i id,bC i≠.obj id)→(∀ i id j,bC i≠.cell id j) →
  a' bC U J S w T bh→aL B U J S w H →
  ∃ S':Nat→Nat→Prop,(∀ b o,S b o→S' b o)∧(∀ b o,S' b o→S b o∨∃ i,U b=some (bC i))∧aL B U J S' w H∧a' bC U J S' w (T.map I.view) bh:=by
 intro T
 induction T with
 | nil=>intro bh bC S _ _ _ ae ah;exact ⟨S,fun _ _ h=>h,fun _ _ h=>.inl h,ah,by simpa using ae⟩
 | cons u T bb =>
   intro bh bC S aw cc cq ae ah;obtain ⟨v,hQ,rfl,aj,aq,ax⟩:=ae.gU;have first:∃ a6:Nat→Nat→Prop,(∀ b o,S b o→a6 b o)∧(∀ b o,a6 b o→S b o∨U b=some (bC 0))∧aL B U J a6 w H∧Rel J a6 w u.view v:=by
    by_cases hu:u.cW=true
    ·exact ⟨S,fun _ _ h=>h,fun _ _ h=>.inl h,ah,aj.view hu⟩
    ·obtain ⟨cells,len,z,rfl⟩:∃ cells len z,u=.ay cells len (.uniq z):=by
      unfold I.cW at hu;split at hu
      ·exact ⟨_,_,_,rfl⟩
      ·simp at hu
     obtain ⟨a6,aJ,aP,cl,r1,_,_⟩:=ke ah aj aq;exact ⟨a6,aJ,aP,ah.settle aJ (fun b o h=>(aP b o h).imp id fun h=>⟨_,h,cc 0,cq 0⟩) cl,r1⟩
   (obtain ⟨a6,aJ,aP,bY,dv⟩:=first);have pO:a' (fun i=>bC (i+1)) U J a6 w T hQ:=by
    refine ⟨ax.len,fun i bI bw hu ae=>(ax.rel i bI bw hu ae).mono (Ext.refl J) fun b o ai=>⟨aJ b o ai,rfl⟩,fun i bI bw hu ae=>?_⟩;refine (ax.own i bI bw hu ae).mono (Ext.refl J) (fun b o ai=>⟨aJ b o ai,rfl⟩) fun b ag=>⟨ag,rfl,fun o ai=>?_⟩;rcases aP b o ai with h | h
    ·exact h
    ·rw [ag] at h;injection h with h;exact absurd (aw _ _ h) (by omega)
   obtain ⟨S',dx,dq,cf,bg⟩:=bb hQ (fun i=>bC (i+1)) a6 (fun i j h=>by have:=aw _ _ h;omega) (fun i=>cc (i+1)) (fun i=>cq (i+1)) pO bY;refine ⟨S',fun b o h=>dx b o (aJ b o h),fun b o h=>?_,cf,?_⟩
   ·rcases dq b o h with h | ⟨i,h⟩
    ·exact (aP b o h).imp id fun h=>⟨0,h⟩
    ·exact .inr ⟨i+1,h⟩
   ·exact a'.cons (dv.mono (Ext.refl J) fun b o ai=>⟨dx b o ai,rfl⟩) (aW.b5 (I.dk _)) bg
theorem Rel.df {k:IntKind} {n:Int} {v:Value} (h:Rel J S w (.int k n) v):v=.int k n:=by cases h;rfl
theorem Rel.h3 {b:Bool} {v:Value} (h:Rel J S w (.bool b) v):v=.bool b:=by cases h;rfl
theorem Rel.BA {v:Value} (h:Rel J S w .du v):∃ b,v=.bool b:=by cases h;exact ⟨_,rfl⟩
def e9 (P:Program) (o:Oper) (aT:Operand→Value) (J:List Nat) (S:Nat→Nat→Prop) (w:World) (r:I):Prop :=
 ∃ v,(Go.execOp aT o).run P w=.ok (.value v) w∧Rel J S w r v
theorem zx {o:Oper} {aT:Operand→Value} {c a b:Operand} (aq:o.op=.pick c a b) {x:Bool} {fy gn:I} (ad:Rel J S w (.bool x) (aT c))
  (af:Rel J S w fy (aT a)) (aG:Rel J S w gn (aT b)):e9 P o aT J S w (match x with | true=>fy | false=>gn):=by
 have e:=ad.h3;cases x with
 | true=>exact ⟨aT a,by simp [Go.execOp,aq,e,asBool],af⟩
 | false=>exact ⟨aT b,by simp [Go.execOp,aq,e,asBool],aG⟩
theorem DR {o:Oper} {aT:Operand→Value} {x:Operand} (aq:o.op=.nilCheck x) {id off:Nat} (ad:Rel J S w (.ptr id off) (aT x)) :
  e9 P o aT J S w (.ptr id off):=by
 refine ⟨aT x,?_,ad⟩;generalize al:aT x=cD at ad ⊢;cases ad with
 | ptr id off b h=>simp [Go.execOp,aq,al]
theorem DS {o:Oper} {aT:Operand→Value} {x:Operand} (aq:o.op=.nilCheck x) {cells:List I} (ad:Rel J S w (.bW cells) (aT x)) :
  e9 P o aT J S w (.bW cells):=by
 generalize ae:aT x=v at ad;have af:=ad;cases ad with
 | bW _ b cO f h aj=>exact ⟨.pointer (some ⟨b,cO,none⟩),by simp [Go.execOp,aq,ae],af⟩
theorem DT {o:Oper} {aT:Operand→Value} {op:UnOp} {t:TypeId} {x:Operand} (aq:o.op=.unOp op t x) {u r:I} (aj:km op u=some r) (ad:Rel J S w u (aT x)) :
  e9 P o aT J S w r:=by
 unfold km at aj;split at aj
 ·have e:=ad.h3;cases op <;> simp at aj;subst aj;exact ⟨_,by simp [Go.execOp,aq,e,Op.unary],.bool _⟩
 ·have e:=ad.df;cases op <;> simp at aj;subst aj;exact ⟨_,by simp [Go.execOp,aq,e,Op.unary,Op.intArith],.int _ _⟩
 ·simp at aj
theorem DJ {o:Oper} {aT:Operand→Value} {s d:TypeId} {x:Operand} (aq:o.op=.convert s d x) {u r:I} (aj:lA P s d u=some r) (ad:Rel J S w u (aT x)):e9 P o aT J S w r:=by
 unfold lA at aj;split at aj
 ·have e:=ad.df;split at aj
  ·rename_i ds k Cp av;simp at aj;subst aj;refine ⟨_,?_,.int _ _⟩;simp only [Go.execOp,aq,e,convert,Sem.run_bind,run_underlying Cp,run_underlying av,Result.andThen_ok];cases ds <;> simp [Conv.intToInt]
  ·simp at aj
 ·simp at aj
theorem DO {o:Oper} {aT:Operand→Value} {fn:Fn} {first captured:Array Operand} (aq:o.op=.makeFunc fn first captured) {us:List I} {r:I}
  (aj:mJ fn first.size captured.size us=some r) {bC:Nat→aI} (ae:a' bC U J S w us ((first++captured).toList.map aT)) (aC:∀ u∈us,u.plain=true) :
  e9 P o aT J S w r:=by
 unfold mJ at aj;split at aj
 ·rename_i f;split at aj
  ·rename_i ak;simp at aj;subst aj;refine ⟨.func (.func f) (first.map aT) (captured.map aT),by simp [Go.execOp,aq,Instr.makeFunc],.func f _ _ _ _ ?_ ?_ ?_ ?_ ?_ ?_⟩
   ·simp;omega
   ·simp;omega
   ·exact fun u hu=>aC u (uP hu)
   ·exact fun u hu=>aC u (vE hu)
   ·intro j u v hu bg;refine ae.rel j u v ?_ ?_
    ·rw [th] at hu;split at hu <;> simp_all
    ·simp only [vF,sr] at bg;obtain ⟨x,al,rfl⟩:=bg;have:=(tp.1 al).1;rw [sT this] at al;cases al;simp [sR,this]
   ·intro j u v hu bg;refine ae.rel (first.size+j) u v ?_ ?_
    ·simpa [tq] using hu
    ·simp only [vF,sr] at bg;obtain ⟨x,al,rfl⟩:=bg;simp [sZ,al]
  ·simp at aj
 ·simp at aj
theorem DL {o:Oper} {aT:Operand→Value} {x:Operand} {i:Nat} (aq:o.op=.extract x i) {u r:I} (aj:m6 i u=some r) (ad:Rel J S w u (aT x)) :
  e9 P o aT J S w r.view:=by
 unfold m6 at aj;generalize al:aT x=cD at ad;split at aj
 ·cases ad with
  | tuple as vs h p mR =>
    have aU:=(ss.1 aj).1;have ae:vs[i]?=some (vs[i]'(by omega)):=sT _;have aC:r.plain=true:=p r (sY aj);refine ⟨vs[i]'(by omega),?_,?_⟩
    ·simp [Go.execOp,aq,al,Instr.extract,ae]
    ·rw [I.kl aC];exact mR i _ _ aj ae
 ·simp at aj
theorem EK {op:BinOp} {t:TypeId} {x y:Operand} {k k':IntKind} {a b:Int}:(eqGuard op t x y (.int k a) (.int k' b)).run P w=.ok () w:=by
 unfold eqGuard;split <;> simp
theorem EJ {op:BinOp} {t:TypeId} {k k':IntKind} {a b:Int} {r:I} (aj:fp P op t (.int k a) (.int k' b)=some r) :
  ∃ v,(Go.binOp op t (.int k a) (.int k' b)).run P w=.ok v w∧Rel J S w r v:=by
 have E2:∀ mH,(mH=.shl∨mH=.shr)→hv mH k a b=some r→∃ v,(Op.shift mH k a k' b).run P w=.ok v w∧Rel J S w r v:=by
  intro mH aD h;unfold hv at h;split at h
  ·simp at h
  ·rename_i ag;rcases aD with rfl | rfl <;> simp at h <;> subst h
   ·exact ⟨_,by simp [Op.shift,ag],.int _ _⟩
   ·exact ⟨_,by simp [Op.shift,ag],.int _ _⟩
 have BE:k=k'→jx op k a b=some r→∃ v,(Go.binOp op t (.int k a) (.int k' b)).run P w=.ok v w∧Rel J S w r v:=by
  rintro rfl h;cases op <;> simp only [jx,Option.some.injEq,reduceCtorEq] at h
  case quo =>
   split at h
   ·simp at h
   ·rename_i ag;simp at h;subst h;exact ⟨_,by simp [Go.binOp,Op.intDiv,ag],.int _ _⟩
  case rem =>
   split at h
   ·simp at h
   ·rename_i ag;simp at h;subst h;exact ⟨_,by simp [Go.binOp,Op.intDiv,ag],.int _ _⟩
  all_goals subst h
  all_goals first
   | (refine ⟨_,?_,.bool _⟩;simp [Go.binOp,Op.intCmp];done)
   | (refine ⟨_,?_,.int _ _⟩;simp [Go.binOp,Op.intArith];done)
   | (refine ⟨_,?_,.int _ _⟩;simp [Go.binOp,Op.intBits];done)
 unfold fp at aj;cases op <;> simp only at aj <;> first
  | (obtain ⟨v,ad,af⟩:=E2 _ (by simp) aj;exact ⟨v,by simpa [Go.binOp] using ad,af⟩)
  | (split at aj
     ·exact BE ‹_› aj
     ·simp at aj)
theorem DI {o:Oper} {aT:Operand→Value} {op:BinOp} {t iA:TypeId} {x y:Operand} (aq:o.op=.binOp op t x y iA) {k k':IntKind} {a b:Int} {r:I}
  (aj:fp P op t (.int k a) (.int k' b)=some r) (ad:Rel J S w (.int k a) (aT x)) (af:Rel J S w (.int k' b) (aT y)):e9 P o aT J S w r:=by
 obtain ⟨v,ae,b'⟩:=EJ (P:=P) (w:=w) (J:=J) (S:=S) (t:=t) aj;refine ⟨v,?_,b'⟩;simp only [Go.execOp,aq,ad.df,af.df,Sem.run_bind,EK,ae,Result.andThen_ok,Sem.run_pure]
theorem mX {t:TypeId} {s:Nat} (h:bU P t=some s):∃ i,P.info? t=some i∧i.size=s:=by
 simp only [bU,sr] at h;exact h
theorem run_sizeOf {t:TypeId} {s:Nat} (h:bU P t=some s):(sizeOf t).run P w=.ok s w:=by
 obtain ⟨i,hi,rfl⟩:=mX h;simp [sizeOf,typeInfo,hi]
theorem gP {t:TypeId} {d:TypeDesc} (h:P.underlying t=some d):(isAgg t).run P w=.ok (dN P t) w:=by
 simp only [isAgg,dN,h,Sem.run_bind,run_underlying h,Result.andThen_ok];cases d <;> simp
theorem lJ {i:Int} {len j:Nat} (h:gY i len=some j):0≤i∧i<len∧j=i.toNat:=by
 unfold gY at h;split at h
 ·simp at h;exact ⟨by omega,by omega,h.symm⟩
 ·simp at h
theorem add_lit (b o n:Nat):(⟨b,o,none⟩:Addr).add n=⟨b,o+n,none⟩:=by
 unfold Addr.add;split <;> simp_all
theorem Rel.drop {cells:List I} {b o:Nat} {f:Nat→Value} (n:Nat)
  (h:∀ (j:Nat) (u:I),cells[j]?=some u→S b (o+j)∧w.cell? ⟨b,o+j,none⟩=some (f j)∧u.plain=true∧(f j).oneCell'=true)
  (aj:∀ (j:Nat) (u:I),cells[j]?=some u→Rel J S w u (f j)):Rel J S w (.bW (cells.drop n)) (.pointer (some ⟨b,o+n,none⟩)):=by
 refine .bW _ b (o+n) (fun j=>f (n+j)) (fun j u hu=>?_) (fun j u hu=>?_)
 ·rw [tq] at hu;have:=h (n+j) u hu
  rwa [show o+n+j=o+(n+j) by omega]
 ·rw [tq] at hu;exact aj (n+j) u hu
theorem DQ {o:Oper} {aT:Operand→Value} {t:TypeId} {x i:Operand} (aq:o.op=.indexAddr t x i) {fy gn r:I} (aj:h1 P t fy gn=some r)
  (ad:Rel J S w fy (aT x)) (af:Rel J S w gn (aT i)) (aN:fy.cW=true):e9 P o aT J S w r:=by
 unfold h1 at aj;generalize al:aT x=cD at ad;split at aj
 ·rename_i a1;simp only [sC,sr] at aj;obtain ⟨s,ai,j,aw,rfl⟩:=aj;obtain ⟨dx,dq,rfl⟩:=lJ aw;have e:=af.df;cases ad with
  | b3 c a=>exact absurd dq (by simp;omega)
  | cN=>simp [I.cW] at aN
  | ay cells len c b j1 cap f ao hle hu h fu =>
    refine ⟨_,?_,Rel.drop _ h fu⟩;simp [Go.execOp,aq,al,e,Instr.indexAt,asIntOf,run_underlying a1,dx,dq,run_sizeOf ai,add_lit]
 ·rename_i a1;simp only [sC,sr] at aj;obtain ⟨s,ai,j,aw,rfl⟩:=aj;obtain ⟨dx,dq,rfl⟩:=lJ aw;have e:=af.df;cases ad with
  | ref id off len c sz b cap h ao hle =>
    refine ⟨_,?_,.ptr _ _ b h⟩;simp [Go.execOp,aq,al,e,Instr.indexAt,asIntOf,run_underlying a1,dx,dq,run_sizeOf ai,add_lit]
 ·rename_i a1;simp only [sC,sr] at aj;obtain ⟨s,ai,j,aw,rfl⟩:=aj;obtain ⟨dx,dq,rfl⟩:=lJ aw;have e:=af.df;cases ad with
  | ptr id off b h =>
    refine ⟨_,?_,.ptr _ _ b h⟩;simp [Go.execOp,aq,al,e,Instr.indexAt,asIntOf,Instr.sureAddr,run_underlying a1,dx,dq,run_sizeOf ai,add_lit]
 ·rename_i a1;simp only [sC,sr] at aj;obtain ⟨s,ai,j,aw,rfl⟩:=aj;obtain ⟨dx,dq,rfl⟩:=lJ aw;have e:=af.df;cases ad with
  | bW cells b j1 f h fu =>
    refine ⟨_,?_,Rel.drop _ h fu⟩;simp [Go.execOp,aq,al,e,Instr.indexAt,asIntOf,Instr.sureAddr,run_underlying a1,dx,dq,run_sizeOf ai,add_lit]
 ·simp at aj
theorem AI {b o s:Nat} {g:Field} (ai:bU P g.type=some s) (aS:s≠0):(fieldPlace ⟨b,o,none⟩ g).run P w=.ok ⟨b,o+g.offset,none⟩ w:=by
 simp [fieldPlace,run_sizeOf ai,aS,add_lit]
theorem DN {o:Oper} {aT:Operand→Value} {t:TypeId} {x:Operand} {lO:Nat} (aq:o.op=.fieldAddr t x lO) {u r:I} (aj:jy P t u lO=some r)
  (ad:Rel J S w u (aT x)):e9 P o aT J S w r:=by
 unfold jy at aj;generalize al:aT x=cD at ad;split at aj
 ·rename_i a1;simp only [sC] at aj;obtain ⟨g,aO,s,ai,aj⟩:=aj;split at aj
  ·simp at aj
  ·rename_i aS;simp at aj;subst aj;cases ad with
   | ptr id off b h =>
     refine ⟨_,?_,.ptr _ _ b h⟩;simp [Go.execOp,aq,al,Instr.fieldAt,Instr.sureAddr,run_underlying a1,aO,AI ai aS]
 ·rename_i a1;simp only [sC] at aj;obtain ⟨g,aO,s,ai,aj⟩:=aj;split at aj
  ·simp at aj
  ·rename_i aS;simp at aj;subst aj;cases ad with
   | bW cells b j1 f h fu =>
     refine ⟨_,?_,Rel.drop _ h fu⟩;simp [Go.execOp,aq,al,Instr.fieldAt,Instr.sureAddr,run_underlying a1,aO,AI ai aS]
 ·simp at aj
theorem zb {t:TypeId} (h:dN P t=true):∃ d,P.underlying t=some d:=by
 unfold dN at h;split at h <;> first | exact ⟨_,by assumption⟩ | simp at h
theorem AN {t:TypeId} {as:List I} {vs:Array Value} {off:Nat} {r:I} (aj:iH P t as off=some r) (ak:vs.size=as.length)
  (aC:∀ u∈as,u.plain=true) (eu:∀ v∈vs.toList,v.oneCell'=true) (b':∀ (j:Nat) (u:I) (v:Value),as[j]?=some u→vs[j]?=some v→Rel J S w u v) :
  ∃ v,(part t vs off).run P w=.ok v w∧Rel J S w r v∧r.plain=true:=by
 unfold iH at aj;cases ck:dN P t with
 | true =>
   obtain ⟨d,a1⟩:=zb ck;rw [ck] at aj;simp only [sC] at aj;obtain ⟨s,ai,aj⟩:=aj;split at aj
   ·rename_i hle;simp at aj;subst aj;refine ⟨.agg (vs.extract off (off+s)),by simp [part,gP a1,ck,run_sizeOf ai],.agg _ _ ?_ ?_ ?_ ?_,rfl⟩
    ·simp;omega
    ·exact fun u hu=>aC u (vE (uP hu))
    ·exact fun v ae=>eu v (by rw [Array.toList_extract] at ae;exact vE (uP ae))
    ·intro j u v hu ae;rw [th] at hu;split at hu
     ·rw [tq] at hu;rw [Array.getElem?_extract] at ae;split at ae
      ·exact b' _ u v hu ae
      ·simp at ae
     ·simp at hu
   ·simp at aj
 | false =>
   rw [ck] at aj;simp only at aj;split at aj
   ·rename_i d a1;have aU:=(ss.1 aj).1;have ae:vs[off]?=some (vs[off]'(by omega)):=sT _;exact ⟨_,by simp [part,gP a1,ck,ae],b' off _ _ aj ae,aC r (sY aj)⟩
   ·simp at aj
theorem DM {o:Oper} {aT:Operand→Value} {t:TypeId} {x:Operand} {lO:Nat} (aq:o.op=.field t x lO) {u r:I} (aj:m7 P t u lO=some r)
  (ad:Rel J S w u (aT x)):e9 P o aT J S w r.view:=by
 unfold m7 at aj;generalize al:aT x=cD at ad;split at aj
 ·rename_i a1;simp only [sC] at aj;obtain ⟨g,aO,aj⟩:=aj;cases ad with
  | agg as vs h p one mR =>
    obtain ⟨v,ae,b',ib⟩:=AN (w:=w) aj h p one mR;refine ⟨v,?_,by rw [I.kl ib];exact b'⟩;simp [Go.execOp,aq,al,Instr.field,run_underlying a1,aO,asAgg,ae]
 ·simp at aj
theorem DP {o:Oper} {aT:Operand→Value} {t:TypeId} {x i:Operand} (aq:o.op=.index t x i) {fy gn r:I} (aj:oE P t fy gn=some r)
  (ad:Rel J S w fy (aT x)) (af:Rel J S w gn (aT i)):e9 P o aT J S w r.view:=by
 unfold oE at aj;generalize al:aT x=cD at ad;split at aj
 ·rename_i a1;simp only [sC] at aj;obtain ⟨s,ai,j,aw,aj⟩:=aj;obtain ⟨dx,dq,rfl⟩:=lJ aw;have e:=af.df;cases ad with
  | agg as vs h p one mR =>
    obtain ⟨v,ae,b',ib⟩:=AN (w:=w) aj h p one mR;refine ⟨v,?_,by rw [I.kl ib];exact b'⟩;simp [Go.execOp,aq,al,e,Instr.index,asIntOf,run_underlying a1,dx,dq,run_sizeOf ai,ae]
 ·rename_i b k n a1;have e:=af.df;split at aj
  ·rename_i aS;simp only [sr] at aj;obtain ⟨y,a2,rfl⟩:=aj;cases ad with
   | str b =>
     refine ⟨_,?_,.int _ _⟩;simp [Go.execOp,aq,al,e,Instr.index,asIntOf,run_underlying a1,aS,a2]
  ·simp at aj
 ·simp at aj
theorem EM {t e:TypeId} (d:Nat) (ax:P.underlying t=some (.slice e)) (a:Addr) (len cap:Nat) :
  (Op.equalIn (d+1) t (.slice (some a) len cap) (.slice none 0 0)).run P w=.ok false w:=by
 rw [Op.equalIn];simp [run_underlying ax]
theorem ob {t e:TypeId} (ax:P.underlying t=some (.slice e)) (a:Addr) (len cap:Nat) :
  (Op.equal t (.slice (some a) len cap) (.slice none 0 0)).run P w=.ok false w:=EM 9999 ax a len cap
theorem run_equalIn_bool {t:TypeId} (d:Nat) (ax:P.underlying t=some .bool) (a b:Bool):(Op.equalIn (d+1) t (.bool a) (.bool b)).run P w=.ok (a == b) w:=by
 rw [Op.equalIn];simp [run_underlying ax]
theorem run_equal_bool {t:TypeId} (ax:P.underlying t=some .bool) (a b:Bool):(Op.equal t (.bool a) (.bool b)).run P w=.ok (a == b) w:=run_equalIn_bool 9999 ax a b
theorem EN {t e:TypeId} (d:Nat) (ax:P.underlying t=some (.slice e)) (len cap:Nat) :
  (Op.equalIn (d+1) t (.slice none len cap) (.slice none 0 0)).run P w=.ok true w:=by
 rw [Op.equalIn];simp [run_underlying ax]
theorem AH {t e:TypeId} (ax:P.underlying t=some (.slice e)) (len cap:Nat) :
  (Op.equal t (.slice none len cap) (.slice none 0 0)).run P w=.ok true w:=EN 9999 ax len cap
theorem DK {o:Oper} {aT:Operand→Value} {op:BinOp} {t iA:TypeId} {x y:Operand} (aq:o.op=.binOp op t x y iA) (a2:iY y=true) {u r:I}
  (aj:m5 P op t u=some r) (ad:Rel J S w u (aT x)) (eR:∀ v,aT (.const v)=v):e9 P o aT J S w r:=by
 have Df:y=.const (.slice none 0 0):=by
  unfold iY at a2;split at a2
  ·rfl
  ·simp at a2
 subst Df;generalize al:aT x=cD at ad;unfold m5 at aj;split at aj
 ·rename_i e ax;have ai:((∃ b j1 len cap,cD=.slice (some ⟨b,j1,none⟩) len cap)∧((op=.eql∧r=.bool false)∨(op=.neq∧r=.bool true))) ∨
    ((∃ a len cap,cD=.slice a len cap)∧(op=.eql∨op=.neq)∧r=.du):=by
   split at aj
   ·refine .inl ⟨?_,by split at aj <;> simp_all⟩;cases ad with
    | ay cells len c b j1 cap f ao hle hu h fu=>exact ⟨_,_,_,_,rfl⟩
    | cN=>exact ⟨_,_,_,_,rfl⟩
   ·refine .inl ⟨?_,by split at aj <;> simp_all⟩;cases ad with
    | ref id off len c sz b cap h ao hle=>exact ⟨_,_,_,_,rfl⟩
   ·refine .inr ⟨?_,by split at aj <;> simp_all⟩;cases ad with
    | b3 c a=>exact ⟨_,_,_,rfl⟩
    | ay cells len c b j1 cap f ao hle hu h fu=>exact ⟨_,_,_,rfl⟩
    | cN=>exact ⟨_,_,_,rfl⟩
   ·simp at aj
  rcases ai with ⟨⟨b,j1,len,cap,rfl⟩,⟨rfl,rfl⟩ | ⟨rfl,rfl⟩⟩ | ⟨⟨a,len,cap,rfl⟩,aD,rfl⟩
  ·exact ⟨.bool false,by simp [Go.execOp,aq,al,eR,eqGuard,Go.binOp,ob ax],.bool _⟩
  ·exact ⟨.bool true,by simp [Go.execOp,aq,al,eR,eqGuard,Go.binOp,ob ax],.bool _⟩
  ·rcases aD with rfl | rfl
   ·cases a with
    | none=>exact ⟨.bool true,by simp [Go.execOp,aq,al,eR,eqGuard,Go.binOp,AH ax],.du _⟩
    | some a=>exact ⟨.bool false,by simp [Go.execOp,aq,al,eR,eqGuard,Go.binOp,ob ax],.du _⟩
   ·cases a with
    | none=>exact ⟨.bool false,by simp [Go.execOp,aq,al,eR,eqGuard,Go.binOp,AH ax],.du _⟩
    | some a=>exact ⟨.bool true,by simp [Go.execOp,aq,al,eR,eqGuard,Go.binOp,ob ax],.du _⟩
 ·simp at aj
theorem DH {o:Oper} {aT:Operand→Value} {op:BinOp} {t iA:TypeId} {x y:Operand} (aq:o.op=.binOp op t x y iA) {a b:Bool} {r:I}
  (aj:fp P op t (.bool a) (.bool b)=some r) (ad:Rel J S w (.bool a) (aT x)) (af:Rel J S w (.bool b) (aT y)):e9 P o aT J S w r:=by
 simp only [fp] at aj;have e1:=ad.h3;have cm:=af.h3;split at aj
 ·rename_i ax;simp at aj;subst aj;exact ⟨_,by simp [Go.execOp,aq,e1,cm,eqGuard,Go.binOp,run_equal_bool ax],.bool _⟩
 ·rename_i ax;simp at aj;subst aj;exact ⟨_,by simp [Go.execOp,aq,e1,cm,eqGuard,Go.binOp,run_equal_bool ax],.bool _⟩
 ·simp at aj
theorem nh {x y:I} {xs ys:List I} {e:Bool} (h:dP (x::xs) (y::ys)=some e) :
  ∃ k a b cP,x=.int k a∧y=.int k b∧dP xs ys=some cP∧e=((a == b) && cP):=by
 cases x <;> cases y <;> simp only [dP,reduceCtorEq] at h;split at h
 ·rename_i av;subst av;simp only [sr] at h;obtain ⟨cP,ad,af⟩:=h;exact ⟨_,_,_,cP,rfl,rfl,ad,af.symm⟩
 ·simp at h
theorem EI {e:TypeId} {dg:IntKind} (d:Nat) (he:P.underlying e=some (.int dg)) (ai:dN P e=false):∀ (xs ys:List I) (vs ws:List Value) (off:Nat) (eq:Bool),
  dP xs ys=some eq→a' (fun _=>.res) U J S w xs vs→a' (fun _=>.res) U J S w ys ws→∀ (V W:Array Value),(∀ j,vs[j]?=V[off+j]?)→(∀ j,ws[j]?=W[off+j]?) →
  (forIn (List.range' off xs.length) ((none,()):Option Bool×PUnit) (fun i (_:Option Bool×PUnit)=>(do
    let a ←part e V i
    let b ←part e W i
    let c ←Op.equalIn (d+1) e a b
    if c=false then pure (ForInStep.done (some false,())) else pure (ForInStep.yield (none,())):Sem (ForInStep (Option Bool×PUnit))))).run P w =
   .ok (if eq then none else some false,()) w:=by
 intro xs
 induction xs with
 | nil=>intro ys vs ws off eq h _ _ V W _ _;cases ys <;> simp [dP] at h;subst h;simp
 | cons x xs bb =>
   intro ys vs ws off eq h ae hw V W jH lW;cases ys with
   | nil=>cases x <;> simp [dP] at h
   | cons y ys =>
     obtain ⟨k,a,b,cP,rfl,rfl,aY,rfl⟩:=nh h;obtain ⟨v,dz,rfl,r1,_,bg⟩:=ae.gU;obtain ⟨w',x4,rfl,r2,_,ml⟩:=hw.gU;have e1:=r1.df;have cm:=r2.df;subst e1 cm;(have bT:V[off]?=some (.int k a):=by have:=jH 0;simpa using this.symm);(have b6:W[off]?=some (.int k b):=by have:=lW 0;simpa using this.symm);have pW:=bb ys dz x4 (off+1) cP aY bg ml V W (fun j=>by have:=jH (j+1);simpa [t_,tF 1] using this) (fun j=>by have:=lW (j+1);simpa [t_,tF 1] using this);(have aV:(part e V off).run P w=.ok (.int k a) w:=by simp [part,gP he,ai,bT]);(have aX:(part e W off).run P w=.ok (.int k b) w:=by simp [part,gP he,ai,b6]);(have cB:(Op.equalIn (d+1) e (.int k a) (.int k b)).run P w=.ok (a == b) w:=by rw [Op.equalIn];simp [run_underlying he]);simp only [sP,List.range'_succ,v7,Sem.run_bind,aV,aX,cB,Result.andThen_ok];by_cases jI:a=b
     ·subst jI;simpa using pW
     ·simp [jI]
theorem EL {t e:TypeId} {len:Nat} {dg:IntKind} (d:Nat) (ax:P.underlying t=some (.array len e)) (he:P.underlying e=some (.int dg)) (gH:bU P e=some 1)
  {xs ys:List I} {V W:Array Value} {eq:Bool} (al:xs.length=len) (h:dP xs ys=some eq) (r1:Rel J S w (.agg xs) (.agg V)) (r2:Rel J S w (.agg ys) (.agg W)) :
  (Op.equalIn (d+2) t (.agg V) (.agg W)).run P w=.ok eq w:=by
 have ck:dN P e=false:=by unfold dN;rw [he]
 rw [Op.equalIn];simp only [run_underlying ax,run_sizeOf gH,Sem.run_bind,Result.andThen_ok];cases r1 with
 | agg xs V ae bT bD aV =>
   cases r2 with
   | agg ys W hw b6 bS aX =>
     have:=EI (U:=fun _=>none) (P:=P) (w:=w) (J:=J) (S:=S) d he ck xs ys V.toList W.toList 0 eq h ⟨by simp [ae],fun i u v a b=>aV i u v a (by simpa using b),fun i u v a _=>aW.b5 (bT u (sY a))⟩
      ⟨by simp [hw],fun i u v a b=>aX i u v a (by simpa using b),fun i u v a _=>aW.b5 (b6 u (sY a))⟩ V W (by simp) (by simp)
     rw [al] at this;simp [this];cases eq <;> simp
theorem y' {f:Field} {bH:List Field} {n:Nat} (h:gJ P (f::bH) n=true) :
  f.offset = n ∧ f.name ≠ "_" ∧ (∃ k, P.underlying f.type = some (.int k)) ∧ bU P f.type = some 1 ∧ dN P f.type = false ∧ gJ P bH (n + 1) = true := by
 simp only [gJ,Bool.and_eq_true,beq_iff_eq,bne_iff_ne] at h;obtain ⟨⟨⟨ad,af⟩,aG⟩,a8⟩:=h;split at aG
 ·rename_i k hu ai;exact ⟨ad,af,⟨k,hu⟩,ai,by unfold dN;rw [hu],a8⟩
 ·simp at aG
theorem EP (d:Nat):∀ (bH:List Field) (xs ys:List I) (vs ws:List Value) (off:Nat) (eq:Bool),gJ P bH off=true→xs.length=bH.length→ys.length=bH.length →
  dP xs ys=some eq→a' (fun _=>.res) U J S w xs vs→a' (fun _=>.res) U J S w ys ws→∀ (V W:Array Value),(∀ j,vs[j]?=V[off+j]?)→(∀ j,ws[j]?=W[off+j]?) →
  (forIn bH ((none,()):Option Bool×PUnit) (fun f (_:Option Bool×PUnit) =>
    if f.name = "_" then pure (ForInStep.yield (none, ())) else (do
    let a ←part f.type V f.offset
    let b ←part f.type W f.offset
    let c ←Op.equalIn (d+1) f.type a b
    if c=false then pure (ForInStep.done (some false,())) else pure (ForInStep.yield (none,())):Sem (ForInStep (Option Bool×PUnit))))).run P w =
   .ok (if eq then none else some false,()) w:=by
 intro bH
 induction bH with
 | nil =>
   intro xs ys vs ws off eq _ al a2 h _ _ V W _ _;obtain rfl:=tt.1 al;obtain rfl:=tt.1 a2;simp [dP] at h;subst h;simp
 | cons f bH bb =>
   intro xs ys vs ws off eq aQ al a2 h ae hw V W jH lW;cases xs with
   | nil=>simp at al
   | cons x xs =>
     cases ys with
     | nil=>simp at a2
     | cons y ys =>
       obtain ⟨k,a,b,cP,rfl,rfl,aY,rfl⟩:=nh h;obtain ⟨v,dz,rfl,r1,_,bg⟩:=ae.gU;obtain ⟨w',x4,rfl,r2,_,ml⟩:=hw.gU;obtain ⟨f1,f2,⟨dg,f3⟩,f4,f5,f6⟩:=y' aQ;have e1:=r1.df;have cm:=r2.df;subst e1 cm;(have bT:V[off]?=some (.int k a):=by have:=jH 0;simpa using this.symm);(have b6:W[off]?=some (.int k b):=by have:=lW 0;simpa using this.symm);have pW:=bb xs ys dz x4 (off+1) cP f6 (by simpa using al) (by simpa using a2) aY bg ml V W (fun j=>by have:=jH (j+1);simpa [t_,tF 1] using this) (fun j=>by have:=lW (j+1);simpa [t_,tF 1] using this);(have aV:(part f.type V f.offset).run P w=.ok (.int k a) w:=by simp [part,gP f3,f5,f1,bT]);(have aX:(part f.type W f.offset).run P w=.ok (.int k b) w:=by simp [part,gP f3,f5,f1,b6]);(have cB:(Op.equalIn (d+1) f.type (.int k a) (.int k b)).run P w=.ok (a == b) w:=by rw [Op.equalIn];simp [run_underlying f3]);simp only [v7,f2,if_false,Sem.run_bind,aV,aX,cB,Result.andThen_ok];by_cases jI:a=b
       ·subst jI;simpa using pW
       ·simp [jI]
theorem run_equalIn_struct {t:TypeId} {bH:Array Field} (d:Nat) (ax:P.underlying t=some (.struct bH)) (aQ:gJ P bH.toList 0=true) (ic:P.stoodInHeld t=false)
  {xs ys:List I} {V W:Array Value} {eq:Bool} (al:xs.length=bH.size) (a2:ys.length=bH.size) (h:dP xs ys=some eq) (r1:Rel J S w (.agg xs) (.agg V)) (r2:Rel J S w (.agg ys) (.agg W)) :
  (Op.equalIn (d+2) t (.agg V) (.agg W)).run P w=.ok eq w:=by
 rw [Op.equalIn];cases r1 with
 | agg xs V ae bT bD aV =>
   cases r2 with
   | agg ys W hw b6 bS aX =>
     have:=EP (U:=fun _=>none) (P:=P) (w:=w) (J:=J) (S:=S) d bH.toList xs ys V.toList W.toList 0 eq aQ (by simpa using al) (by simpa using a2) h ⟨by simp [ae],fun i u v a b=>aV i u v a (by simpa using b),fun i u v a _=>aW.b5 (bT u (sY a))⟩
      ⟨by simp [hw],fun i u v a b=>aX i u v a (by simpa using b),fun i u v a _=>aW.b5 (b6 u (sY a))⟩ V W (by simp) (by simp)
     simp only [run_underlying ax,Sem.run_bind,Result.andThen_ok,program,Sem.run,ic];rw [Array.forIn_toList] at this;simp [this];cases eq <;> simp
theorem DG {o:Oper} {aT:Operand→Value} {op:BinOp} {t iA:TypeId} {x y:Operand} (aq:o.op=.binOp op t x y iA) {xs ys:List I} {r:I}
  (aj:fp P op t (.agg xs) (.agg ys)=some r) (ad:Rel J S w (.agg xs) (aT x)) (af:Rel J S w (.agg ys) (aT y)):e9 P o aT J S w r:=by
 simp only [fp] at aj;split at aj
 ·rename_i len e ax;split at aj
  ·rename_i dg he gH;split at aj
   ·rename_i ao;obtain ⟨al,a2,aO⟩:=ao;generalize gd:aT x=cD at ad;generalize mj:aT y=x2 at af;(have e1:∃ V,cD=.agg V:=by cases ad with | agg as vs=>exact ⟨_,rfl⟩);(have cm:∃ V,x2=.agg V:=by cases af with | agg as vs=>exact ⟨_,rfl⟩);obtain ⟨V,rfl⟩:=e1;obtain ⟨W,rfl⟩:=cm;have key:∀ eq,dP xs ys=some eq→(Op.equal t (.agg V) (.agg W)).run P w=.ok eq w:=fun eq h=>EL 9998 ax he gH al h ad af;split at aj
    ·simp only [sr] at aj;obtain ⟨eq,h,rfl⟩:=aj;exact ⟨.bool eq,by simp [Go.execOp,aq,gd,mj,eqGuard,aO,Go.binOp,key eq h,program,Sem.run],.bool _⟩
    ·simp only [sr] at aj;obtain ⟨eq,h,rfl⟩:=aj;exact ⟨.bool (!eq),by simp [Go.execOp,aq,gd,mj,eqGuard,aO,Go.binOp,key eq h,program,Sem.run],.bool _⟩
    ·simp at aj
   ·simp at aj
  ·simp at aj
 ·rename_i bH ax;split at aj
  ·rename_i ao;obtain ⟨aQ,ic,al,a2,aO⟩:=ao;generalize gd:aT x=cD at ad;generalize mj:aT y=x2 at af;(have e1:∃ V,cD=.agg V:=by cases ad with | agg as vs=>exact ⟨_,rfl⟩);(have cm:∃ V,x2=.agg V:=by cases af with | agg as vs=>exact ⟨_,rfl⟩);obtain ⟨V,rfl⟩:=e1;obtain ⟨W,rfl⟩:=cm;have key:∀ eq,dP xs ys=some eq→(Op.equal t (.agg V) (.agg W)).run P w=.ok eq w:=fun eq h=>run_equalIn_struct 9998 ax aQ ic al a2 h ad af;split at aj
   ·simp only [sr] at aj;obtain ⟨eq,h,rfl⟩:=aj;exact ⟨.bool eq,by simp [Go.execOp,aq,gd,mj,eqGuard,aO,Go.binOp,key eq h,program,Sem.run],.bool _⟩
   ·simp only [sr] at aj;obtain ⟨eq,h,rfl⟩:=aj;exact ⟨.bool (!eq),by simp [Go.execOp,aq,gd,mj,eqGuard,aO,Go.binOp,key eq h,program,Sem.run],.bool _⟩
   ·simp at aj
  ·simp at aj
 ·simp at aj
end
end Go.Proofs.YtfakoboiahbhaaaGreat.Ab


namespace Go.Proofs.YtfakoboiahbhaaaGreat.Ab
open Go
section
variable {P:Program} {B:Nat} {J:List Nat} {w:World} {H:List au} {U:Nat→Option aI} {S:Nat→Nat→Prop}
def eM (J:List Nat) (S:Nat→Nat→Prop) (w:World):Option I→Option Value→Prop
 | none,none=>True
 | some u,some v=>Rel J S w u v
 | _,_=>False
theorem mS {x:Option I} {v:Option Value} {d y x5 r:Nat} (h:cK x d y=some r) (al:eM J S w x v) (a2:y≤x5) :
  (∃ k n,v=some (.int k n)∧x.isSome∧(∀ code,(Instr.sliceBound (.int k n) x5 code).run P w=.ok r w)∧r≤y)∨(v=none∧x=none∧r=d):=by
 unfold cK at h;split at h
 ·cases v with
  | none=>simp at h;exact .inr ⟨rfl,rfl,h.symm⟩
  | some v=>simp [eM] at al
 ·cases v with
  | none=>simp [eM] at al
  | some v =>
    have e:=Rel.df al;subst e;split at h
    ·rename_i ag;simp at h;subst h;refine .inl ⟨_,_,rfl,rfl,fun code=>?_,by omega⟩;have ad:=ag.1;have af:_≤(x5:Int):=Int.le_trans ag.2 (Int.ofNat_le.2 a2);simp [Instr.sliceBound,asIntOf,ad,af]
    ·simp at h
 ·simp at h
theorem hN {lo hi:Option I} {lo' hi':Option Value} {isS:Bool} {len cap h l:Nat} (bK:cK hi len len=some h) (ak:cK lo 0 h=some l) (hle:len≤cap)
  (r1:eM J S w lo lo') (r2:eM J S w hi hi'):(Instr.sliceBounds isS len cap lo' hi' none).run P w=.ok (l,h,cap) w∧l≤h∧h≤len:=by
 rcases mS (P:=P) bK r2 hle with ⟨k,n,rfl,_,q,ag⟩ | ⟨rfl,_,rfl⟩ <;> rcases mS (P:=P) ak r1 (sx _) with ⟨k',ja,rfl,_,fT,bt⟩ | ⟨rfl,_,rfl⟩ <;>
  refine ⟨?_,by omega,by omega⟩ <;> simp [Instr.sliceBounds, *]
theorem xM {lo hi gK:Option I} {lo' hi' i':Option Value} {isS:Bool} {len cap m h l:Nat} (hm:cK gK len len=some m) (CO:gK.isSome) (CB:hi.isSome)
  (bK:cK hi m m=some h) (ak:cK lo 0 h=some l) (hle:len≤cap)
  (r1:eM J S w lo lo') (r2:eM J S w hi hi') (eJ:eM J S w gK i'):(Instr.sliceBounds isS len cap lo' hi' i').run P w=.ok (l,h,m) w∧l≤h∧h≤m∧m≤len:=by
 rcases mS (P:=P) hm eJ hle with ⟨k,n,rfl,_,q,ag⟩ | ⟨rfl,rfl,_⟩
 ·rcases mS (P:=P) bK r2 (sx _) with ⟨aP,cq,rfl,_,aX,fs⟩ | ⟨rfl,rfl,_⟩
  ·rcases mS (P:=P) ak r1 (sx _) with ⟨k',ja,rfl,_,fT,bt⟩ | ⟨rfl,_,rfl⟩ <;>
    refine ⟨?_,by omega,by omega,by omega⟩ <;> simp [Instr.sliceBounds, *]
  ·simp at CB
 ·simp at CO
theorem Rel.sub {cells:List I} {b o cap' n k:Nat} {f:Nat→Value} (d:Nat) (d_:iB) (ao:d_=.full→cap'=n) (hle:n≤cap') (hu:∀ z,d_≠.uniq z)
  (h:∀ (j:Nat) (u:I),cells[j]?=some u→S b (o+j)∧w.cell? ⟨b,o+j,none⟩=some (f j)∧u.plain=true∧(f j).oneCell'=true)
  (aj:∀ (j:Nat) (u:I),cells[j]?=some u→Rel J S w u (f j)):Rel J S w (.ay ((cells.drop d).take k) n d_) (.slice (some ⟨b,o+d,none⟩) n cap'):=by
 refine .ay _ n d_ b (o+d) cap' (fun j=>f (d+j)) ao hle hu (fun j u ca=>?_) (fun j u ca=>?_)
 ·rw [th] at ca;split at ca
  ·rw [tq] at ca;have:=h (d+j) u ca
   rwa [show o+d+j=o+(d+j) by omega]
  ·simp at ca
 ·rw [th] at ca;split at ca
  ·rw [tq] at ca;exact aj (d+j) u ca
  ·simp at ca
theorem Rel.empty (c:iB) (hu:∀ z,c≠.uniq z) (b o cap:Nat) (ao:c=.full→cap=0):Rel J S w (.ay [] 0 c) (.slice (some ⟨b,o,none⟩) 0 cap) :=
 .ay [] 0 c b o cap (fun _=>undef) ao (Nat.zero_le _) hu (by simp) (by simp)
theorem EO {t:TypeId} {u r:I} {x:Value} {lo hi gK:Option I} {lo' hi' i':Option Value} (aj:eY P t u lo hi gK=some r) (aC:u.plain=true)
  (ad:Rel J S w u x) (r1:eM J S w lo lo') (r2:eM J S w hi hi') (eJ:eM J S w gK i') :
  ∃ v,(Instr.sliceAt t x lo' hi' i').run P w=.ok v w∧Rel J S w r v∧r.plain=true:=by
 unfold eY at aj;split at aj
 ·rename_i e cells len c a1;simp only [sC] at aj;obtain ⟨s,ai,aj⟩:=aj;have pl:∀ (cs:List I) (n:Nat) (p:Prop) [Decidable p],(I.ay cs n (if p then .full else .shared)).plain=true:=fun cs n p _=>by split <;> rfl
  have po:∀ (p:Prop) [Decidable p] (z:Nat),(if p then iB.full else iB.shared)≠.uniq z:=fun p _ z=>by split <;> simp
  split at aj
  ·simp only [sC] at aj;obtain ⟨h,bK,l,ak,aj⟩:=aj;simp at aj;subst aj;cases i' with
   | some _=>simp [eM] at eJ
   | none =>
   cases ad with
   | b3 c a =>
     obtain ⟨q,aV,aX⟩:=hN (P:=P) (isS:=true) (cap:=0) bK ak (by omega) r1 r2;(obtain rfl:h=0:=by omega);(obtain rfl:l=0:=by omega);exact ⟨.slice a 0 0,by cases a <;> simp [Instr.sliceAt,Instr.slice,run_underlying a1,q,run_sizeOf ai,Addr.add],by simpa using .b3 _ _,pl _ _ _⟩
   | cN=>simp [I.plain] at aC
   | ay cells len c b o cap f ao hle hu bz b' =>
     obtain ⟨q,aV,aX⟩:=hN (P:=P) (isS:=true) (cap:=cap) bK ak hle r1 r2;refine ⟨_,by simp [Instr.sliceAt,Instr.slice,run_underlying a1,q,run_sizeOf ai];rfl,?_,pl _ _ _⟩;by_cases et:cap=l
     ·(obtain rfl:h=l:=by omega);simp only [et,if_true,ua,vH,tu];exact Rel.empty _ (po _) _ _ _ (by simp)
     ·simp only [et,if_false,add_lit];refine Rel.sub _ _ (fun he=>?_) (by omega) (po _) bz b';split at he
      ·rename_i h5;rw [ao h5.1,h5.2]
      ·simp at he
  ·rename_i Gi Ge;simp only [sC] at aj;obtain ⟨m,hm,h,bK,l,ak,aj⟩:=aj;simp at aj;subst aj;cases ad with
   | b3 c a =>
     obtain ⟨q,aV,aX,cB⟩:=xM (P:=P) (isS:=true) (cap:=0) hm rfl rfl bK ak (by omega) r1 r2 eJ;(obtain rfl:m=0:=by omega);(obtain rfl:h=0:=by omega);(obtain rfl:l=0:=by omega);exact ⟨.slice a 0 0,by cases a <;> simp [Instr.sliceAt,Instr.slice,run_underlying a1,q,run_sizeOf ai,Addr.add],by simpa using .b3 _ _,pl _ _ _⟩
   | cN=>simp [I.plain] at aC
   | ay cells len c b o cap f ao hle hu bz b' =>
     obtain ⟨q,aV,aX,cB⟩:=xM (P:=P) (isS:=true) (cap:=cap) hm rfl rfl bK ak hle r1 r2 eJ;refine ⟨_,by simp [Instr.sliceAt,Instr.slice,run_underlying a1,q,run_sizeOf ai];rfl,?_,pl _ _ _⟩;by_cases et:m=l
     ·(obtain rfl:h=l:=by omega);simp only [et,if_true,ua,vH,tu];exact Rel.empty _ (by simp) _ _ _ (by simp)
     ·simp only [et,if_false,add_lit];refine Rel.sub _ _ (fun he=>?_) (by omega) (po _) bz b';split at he
      ·rename_i h5;rw [h5]
      ·simp at he
  ·simp at aj
 ·rename_i e id off len cap sz a1;simp only [sC] at aj;obtain ⟨s,ai,aj⟩:=aj;split at aj
  ·simp at aj
  ·rename_i bR;(obtain rfl:s=sz:=by simpa using bR);split at aj
   ·simp only [sC] at aj;obtain ⟨h,bK,l,ak,aj⟩:=aj;cases i' with
    | some _=>simp [eM] at eJ
    | none =>
    cases ad with
    | ref id off len c sz b cap' ag ao hle =>
      obtain ⟨q,aV,aX⟩:=hN (P:=P) (isS:=true) (cap:=cap') bK ak hle r1 r2;split at aj
      ·rename_i Gf;simp at aj;subst aj
       have:cap'≠l:=by omega
       refine ⟨_,by simp [Instr.sliceAt,Instr.slice,run_underlying a1,q,run_sizeOf ai,this,add_lit];rfl,.ref _ _ _ _ _ b _ ag (fun n aN=>?_) (by omega),rfl⟩;simp only [sr] at aN;obtain ⟨c0,Ch,rfl⟩:=aN;rw [ao c0 Ch]
      ·simp at aj;subst aj;(obtain rfl:h=l:=by omega);refine ⟨_,by simp [Instr.sliceAt,Instr.slice,run_underlying a1,q,run_sizeOf ai];rfl,?_,rfl⟩;split
       ·exact Rel.empty _ (by simp) _ _ _ (by simp)
       ·simp only [add_lit];exact Rel.empty _ (by simp) _ _ _ (by simp)
   ·simp only [sC] at aj;obtain ⟨m,hm,h,bK,l,ak,aj⟩:=aj;cases ad with
    | ref id off len c sz b cap' ag ao hle =>
      obtain ⟨q,aV,aX,cB⟩:=xM (P:=P) (isS:=true) (cap:=cap') hm rfl rfl bK ak hle r1 r2 eJ;split at aj
      ·rename_i et;split at aj
       ·rename_i jO;simp at aj;subst aj;refine ⟨_,by simp [Instr.sliceAt,Instr.slice,run_underlying a1,q,run_sizeOf ai,et];rfl,.ref _ _ _ _ _ b _ ag (fun n aN=>by simpa [et] using aN) (by omega),rfl⟩
       ·simp at aj
      ·rename_i et;simp at aj;subst aj;exact ⟨_,by simp [Instr.sliceAt,Instr.slice,run_underlying a1,q,run_sizeOf ai,et,add_lit];rfl,.ref _ _ _ _ _ b _ ag (fun n aN=>by simpa using aN) (by omega),rfl⟩
   ·simp at aj
 ·rename_i n e id off a1;simp only [sC] at aj;obtain ⟨s,ai,aj⟩:=aj;split at aj
  ·simp only [sC] at aj;obtain ⟨h,bK,l,ak,aj⟩:=aj;cases i' with
   | some _=>simp [eM] at eJ
   | none =>
   cases ad with
   | ptr id off b ag =>
     obtain ⟨q,aV,aX⟩:=hN (P:=P) (isS:=false) (cap:=n) bK ak (sx _) r1 r2;split at aj
     ·simp at aj
     ·rename_i et;simp at aj;subst aj;exact ⟨_,by simp [Instr.sliceAt,Instr.sureAddr,run_underlying a1,q,run_sizeOf ai,et,add_lit];rfl,.ref _ _ _ _ _ b _ ag (fun n aN=>by simpa using aN) (by omega),rfl⟩
  ·simp at aj
 ·simp at aj
end
end Go.Proofs.YtfakoboiahbhaaaGreat.Ab


namespace Go.Proofs.YtfakoboiahbhaaaGreat.Ab
open Go
section
variable {P:Program} {B:Nat} {J:List Nat} {w:World} {H:List au} {U:Nat→Option aI} {S:Nat→Nat→Prop}
theorem gx.frame {az:Nat→Option aI} {b1:List Nat} {S':Nat→Nat→Prop} {w':World} (bM:Ext J b1)
  (cp:∀ b o,S b o→S' b o∧w'.cell? ⟨b,o,none⟩=w.cell? ⟨b,o,none⟩) {id:Nat}
  (av:∀ b l,U b=some l→(l=.obj id∨∃ j,l=.cell id j)→az b=some l∧w'.heap[b]?=w.heap[b]?∧∀ o,S' b o→S b o)
  {o:au} (h:gx U J S w id o):gx az b1 S' w' id o:=by
 cases o with
 | dead=>trivial
 | cells l =>
   obtain ⟨b,cur,e,aB,aH,aR,bm,bf,bj⟩:=h;obtain ⟨aJ,aP,cl⟩:=av b _ aH (.inl rfl);refine ⟨b,cur,e,bM _ _ aB,aJ,aP.trans aR,bm,fun o ai=>bf o (cl o ai),fun j u v hu ae=>?_⟩;obtain ⟨bc,c0,bn,bu⟩:=bj j u v hu ae;exact ⟨bc,c0,bn.mono bM cp,bu.mono bM cp fun b ag=>av b _ ag (.inr ⟨j,rfl⟩)⟩
 | grow l gid z =>
   obtain ⟨b,cur,e,aB,aH,aR,bm,bf,bj,cap,c4,dd⟩:=h;obtain ⟨aJ,aP,cl⟩:=av b _ aH (.inl rfl);refine ⟨b,cur,e,bM _ _ aB,aJ,aP.trans aR,bm,fun o ai=>bf o (cl o ai),fun j u v hu ae=>?_,cap,bM _ _ c4,dd⟩;obtain ⟨bc,c0,bn,bu⟩:=bj j u v hu ae;exact ⟨bc,c0,bn.mono bM cp,bu.mono bM cp fun b ag=>av b _ ag (.inr ⟨j,rfl⟩)⟩
 | loop st cI fn T params assign body jz =>
   obtain ⟨al,a2,b,L,aB,aH,aR,bm,bf,bj,c4,dd,dI⟩:=h;obtain ⟨aJ,aP,cl⟩:=av b _ aH (.inl rfl);exact ⟨al,a2,b,L,bM _ _ aB,aJ,aP.trans aR,bm,bf,bj,c4,fun i u v hu ae=>⟨(dd i u v hu ae).1,(dd i u v hu ae).2.mono bM cp⟩,dI⟩
 | map es clock =>
   obtain ⟨b,bA,aB,aH,aR,bm,bf,bj⟩:=h;obtain ⟨aJ,aP,cl⟩:=av b _ aH (.inl rfl)
   exact ⟨b,bA,bM _ _ aB,aJ,aP.trans aR,bm,fun o ai=>bf o (cl o ai),fun j i k v x hu ae =>
    let ⟨bc,bn,bu,b9,d'⟩:=bj j i k v x hu ae;⟨bc,bn,bu.mono bM cp,b9,d'.mono bM cp⟩⟩
 | iter m s e t =>
   obtain ⟨b,ei,aB,aH,aR,bm,bf⟩:=h;obtain ⟨aJ,aP,cl⟩:=av b _ aH (.inl rfl);exact ⟨b,ei,bM _ _ aB,aJ,bM _ _ aR,aP.trans bm,fun o ai=>bf o (cl o ai)⟩
theorem aL.frame {az:Nat→Option aI} {S':Nat→Nat→Prop} {w':World} (ah:aL B U J S w H) (aA:bk U S w az S' w')
  (av:∀ b l,U b=some l→((∃ id,l=.obj id)∨∃ id j,l=.cell id j)→az b=some l∧w'.heap[b]?=w.heap[b]?∧∀ o,S' b o→S b o)
  (aG:∀ b o,S' b o→∃ v,w'.cell? ⟨b,o,none⟩=some v) (a8:∀ b l,az b=some l→B≤b∧b<w'.heap.size):aL B az J S' w' H :=
 ⟨ah.cH,fun id o aq=>(ah.obj id o aq).frame (Ext.refl J) aA.set (fun b l ag ak=>av b l ag (by
  rcases ak with rfl | ⟨j,rfl⟩
  ·exact .inl ⟨id,rfl⟩
  ·exact .inr ⟨id,j,rfl⟩)),aG,a8,sW ah.c1 aA.size⟩
theorem aL.push (ah:aL B U J S w H) (n:Nat) {o:au} (aq:gx U (J++[n]) S w H.length o):aL B U (J++[n]) S w (H++[o]) where
 cH:=by simp [ah.cH]
 obj id cO h:=by
  rcases v8 id H.length with aU | rfl | Gd
  ·rw [sR aU] at h;exact (ah.obj id cO h).frame (Ext.append J [n]) (fun b o ai=>⟨ai,rfl⟩) fun b l ag _=>⟨ag,rfl,fun o ai=>ai⟩
  ·simp at h;subst h;exact aq
  ·rw [sZ (by omega)] at h
   have:id-H.length≠0:=by omega
   obtain ⟨k,av⟩:=Nat.exists_eq_succ_of_ne_zero this;rw [av] at h;simp at h
 ch:=ah.ch
 base:=ah.base
 c1:=ah.c1
theorem aL.ot (ah:aL B U J S w H) {id:Nat} {l:List I} {g z:Nat} (aE:H[id]?=some (.grow l g z)):aL B U J S w (H.set id (.cells l)):=by
 refine ⟨by simpa using ah.cH,fun bB o aq=>?_,ah.ch,ah.base,ah.c1⟩;by_cases cw:bB=id
 ·subst cw;rw [sE (ss.1 aE).1] at aq;cases aq;obtain ⟨b,cur,e,aB,aH,aR,bm,bf,bj,_⟩:=ah.obj bB _ aE;exact ⟨b,cur,e,aB,aH,aR,bm,bf,bj⟩
 ·rw [sG (Ne.symm cw)] at aq;exact ah.obj bB o aq
theorem aL.xw (ah:aL B U J S w H) {id:Nat} {l:List I} {g z b cap:Nat} {cur:Array Value} {e:TypeId} (aE:H[id]?=some (.cells l)) (ag:J[id]?=some b) (aO:J[g]?=some cap)
  (hm:cap≤maxLen) (bp:0<z) (ao:w.heap[b]?=some (.cells cur e (0,0))) (ai:cur.size=cap*z):aL B U J S w (H.set id (.grow l g z)):=by
 refine ⟨by simpa using ah.cH,fun bB o aq=>?_,ah.ch,ah.base,ah.c1⟩;by_cases cw:bB=id
 ·subst cw;rw [sE (ss.1 aE).1] at aq;cases aq;obtain ⟨ar,cur',cP,aB,aH,aR,bm,bf,bj⟩:=ah.obj bB _ aE;rw [ag] at aB;cases aB;rw [ao] at aR;cases aR;exact ⟨b,cur,e,ag,aH,ao,bm,bf,bj,cap,aO,hm,bp,ai⟩
 ·rw [sG (Ne.symm cw)] at aq;exact ah.obj bB o aq
def lay (U:Nat→Option aI) (n:Nat) (l:aI):Nat→Option aI:=fun b=>if b=n then some l else U b
theorem oM (o:Obj) {b i:Nat} (ag:b<w.heap.size):(w.alloc o).cell? ⟨b,i,none⟩=w.cell? ⟨b,i,none⟩:=by
 have:(w.alloc o).heap[b]?=w.heap[b]?:=heap_alloc_old w o b ag
 unfold World.cell?;simp only [this]
theorem kr (ah:aL B U J S w H) (o:Obj) (l:aI):bk U S w (lay U w.heap.size l) S (w.alloc o) where
 os:=rfl
 tape:=rfl
 output:=rfl
 size:=by simp
 cG b ag _:=heap_alloc_old w o b ag
 set b cO ai:=⟨ai,by obtain ⟨v,ae⟩:=ah.ch b cO ai;exact oM o (mB ae)⟩
 fresh _ _ ai:=.inl ai
 own b ag:=by
  unfold lay at ag;split at ag
  ·rename_i h;exact .inr (by omega)
  ·exact .inl ag
theorem nC (ah:aL B U J S w H) (o:Obj) (l:aI):aL B (lay U w.heap.size l) J S (w.alloc o) H:=by
 have aA:=kr ah o l;refine ah.frame aA (fun b l' ag _=>?_) (fun b cO ai=>?_) (fun b l' ag=>?_)
 ·have:=(ah.base b l' ag).2;exact ⟨by simp [lay,show b≠w.heap.size by omega,ag],heap_alloc_old w o b this,fun o ai=>ai⟩
 ·obtain ⟨v,ae⟩:=ah.ch b cO ai;exact ⟨v,((aA.set b cO ai).2).trans ae⟩
 ·unfold lay at ag;split at ag
  ·rename_i h;subst h;exact ⟨ah.c1,by simp⟩
  ·have:=ah.base b l' ag;exact ⟨this.1,by simp;omega⟩
theorem kq (U:Nat→Option aI) (S:Nat→Nat→Prop) (w:World):bk U S w U S w.drew :=
 ⟨rfl,rfl,rfl,sx _,fun _ _ _=>rfl,fun _ _ h=>⟨h,rfl⟩,fun _ _ h=>.inl h,fun _ h=>.inl h⟩
theorem mf (ah:aL B U J S w H):aL B U J S w.drew H :=
 ah.frame (kq U S w) (fun _ _ ag _=>⟨ag,rfl,fun _ h=>h⟩) ah.ch ah.base
theorem mF (ah:aL B U J S w H) (o:Nat):¬ S w.heap.size o:=fun ai=>by
 obtain ⟨v,ae⟩:=ah.ch _ o ai;exact absurd (mB ae) (Nat.lt_irrefl _)
structure c7 (J:List Nat) (S:Nat→Nat→Prop) (w:World) (cs:List I) (vs:List Value):Prop where
 len:cs.length=vs.length
 rel:∀ (j:Nat) (u:I) (v:Value),cs[j]?=some u→vs[j]?=some v→u.plain=true∧v.oneCell'=true∧Rel J S w u v
theorem c7.mono {b1:List Nat} {S':Nat→Nat→Prop} {w':World} {cs:List I} {vs:List Value} (h:c7 J S w cs vs) (bM:Ext J b1)
  (cp:∀ b o,S b o→S' b o∧w'.cell? ⟨b,o,none⟩=w.cell? ⟨b,o,none⟩):c7 b1 S' w' cs vs :=
 ⟨h.len,fun j u v hu ae=>let ⟨a,b,c⟩:=h.rel j u v hu ae;⟨a,b,c.mono bM cp⟩⟩
theorem c7.append {a b:List I} {c d:List Value} (h:c7 J S w a c) (k:c7 J S w b d):c7 J S w (a++b) (c++d):=by
 refine ⟨by simp [h.len,k.len],fun j u v hu ae=>?_⟩;rcases tg j a.length with aw | aw
 ·rw [sR aw] at hu;rw [sR (h.len ▸ aw)] at ae;exact h.rel j u v hu ae
 ·rw [sZ aw] at hu;rw [sZ (h.len ▸ aw),←h.len] at ae;exact k.rel _ u v hu ae
theorem nW (ah:aL B U J S w H) {cs:List I} {vs:List Value} (ao:c7 J S w cs vs) (spare:List Value) (e:TypeId) (len cap z:Nat) (bp:0<z) (ak:cs.length=len*z)
  (pe:len≤cap) (hm:cap≤maxLen) (ai:vs.length+spare.length=cap*z) :
  a3 B U J S w H (.ay cs len (.uniq z)) (.slice (some ⟨w.heap.size,0,none⟩) len cap) (w.alloc (.cells (vs++spare).toArray e)):=by
 have aA:=kr ah (.cells (vs++spare).toArray e) .res;refine ⟨_,J,S,Ext.refl J,aA,nC ah _ .res,.cN _ _ _ _ _ _,.inr ⟨by simp [lay],rfl,pe,hm,bp,ak,⟨_,e,heap_alloc_new w _,by simp [ai],fun j u v hu ae=>?_⟩,mF ah⟩⟩;have aw:j<vs.length:=ao.len ▸ (ss.1 hu).1;have bg:vs[j]?=some v:=by simpa [sR aw] using ae
 obtain ⟨a,b,c⟩:=ao.rel j u v hu bg;exact ⟨a,b,c.mono (Ext.refl J) aA.set⟩
end
end Go.Proofs.YtfakoboiahbhaaaGreat.Ab


namespace Go.Proofs.YtfakoboiahbhaaaGreat.Ab
open Go
section
variable {P:Program} {B:Nat} {J:List Nat} {w:World} {H:List au} {U:Nat→Option aI} {S:Nat→Nat→Prop}
theorem AJ {t:TypeId} {cs:List I} {b base off:Nat} {g:Nat→Value} {r:I}
  (ao:∀ (j:Nat) (u:I),cs[j]?=some u→w.cell? ⟨b,base+j,none⟩=some (g j)∧(g j).oneCell'=true∧Rel J S w u.view (g j)) (aj:ez P t cs off=some r) :
  ∃ v,(loadVar t ⟨b,base+off,none⟩).run P w=.ok v w∧Rel J S w r v∧r.plain=true:=by
 unfold ez at aj;cases ck:dN P t with
 | true =>
   obtain ⟨d,a1⟩:=zb ck;rw [ck] at aj;simp only [sC] at aj;obtain ⟨s,ai,aj⟩:=aj;split at aj
   ·rename_i hle;simp only [Option.some.injEq] at aj;subst aj;have bz:∀ j,j<s→w.cell? ((⟨b,base+off,none⟩:Addr).add j)=some (g (off+j)):=fun j aw=>by
     (have aU:off+j<cs.length:=by omega);rw [add_lit,t_];exact (ao (off+j) _ (sI aU)).1
    have ak:=run_loadCells (P:=P) (w:=w) ⟨b,base+off,none⟩ s (fun j=>g (off+j)) bz;refine ⟨_,by simp only [loadVar,Sem.run_bind,gP a1,ck,Result.andThen_ok,if_true,run_sizeOf ai,ak];rfl,.agg _ _ ?_ ?_ ?_ ?_,rfl⟩
    ·simp;omega
    ·intro u hu;obtain ⟨x,_,rfl⟩:=sJ.1 hu;exact I.dk x
    ·intro v ae;obtain ⟨j,aw,rfl⟩:=sJ.1 ae;have aw:=List.mem_range.1 aw;(have aU:off+j<cs.length:=by omega);exact (ao (off+j) _ (sI aU)).2.1
    ·intro j u v hu ae;simp only [sN,sr] at hu;obtain ⟨x,al,rfl⟩:=hu;rw [th] at al;split at al
     ·rename_i aw;rw [tq] at al;simp [aw] at ae;subst ae;exact (ao (off+j) x al).2.2
     ·simp at al
   ·simp at aj
 | false =>
   rw [ck] at aj;simp only at aj;split at aj
   ·rename_i d a1;simp only [sr] at aj;obtain ⟨u,hu,rfl⟩:=aj;obtain ⟨ad,af,aG⟩:=ao off u hu;exact ⟨g off,by simp [loadVar,gP a1,ck,load,Sem.run,ad],aG,I.dk u⟩
   ·simp at aj
theorem lb (ah:aL B U J S w H) {t:TypeId} {a r:I} {v:Value} (aj:dW P H t a=some r) (ad:Rel J S w a v) :
  ∃ x,(Instr.loadAt t v).run P w=.ok x w∧Rel J S w r x∧r.plain=true:=by
 unfold dW at aj;split at aj
 ·rename_i id off
  have key:∀ l:List I,(∃ b cur e,J[id]?=some b∧U b=some (.obj id)∧w.heap[b]?=some (.cells cur e (0,0))∧l.length≤cur.size∧(∀ o,¬ S b o) ∧
    ∀ (j:Nat) (u:I) (v:Value),l[j]?=some u→cur[j]?=some v→u.cW=true∧v.oneCell'=true∧Rel J S w u v∧aW U J S w (.cell id j) u v)→ez P t l off=some r →
    ∃ x,(Instr.loadAt t v).run P w=.ok x w∧Rel J S w r x∧r.plain=true:=by
   rintro l ⟨b,cur,e,aB,aH,aR,bm,bf,bj⟩ aj;cases ad with
   | ptr id off ar ag =>
     rw [aB] at ag;cases ag;have facts:∀ (j:Nat) (u:I),l[j]?=some u→w.cell? ⟨b,0+j,none⟩=some (cur.getD j undef)∧(cur.getD j undef).oneCell'=true∧Rel J S w u.view (cur.getD j undef):=by
      intro j u hu;(have aw:j<cur.size:=by have:=(ss.1 hu).1;omega);have c9:cur[j]?=some cur[j]:=sT _;obtain ⟨bc,c0,bn,_⟩:=bj j u _ hu c9;(have aO:cur.getD j undef=cur[j]:=by simp [Array.getD,aw]);rw [aO];exact ⟨by rw [cell_of_row w b _ cur e (0,0) aR,tc,c9],c0,bn.view bc⟩
     obtain ⟨x,al,b'⟩:=AJ facts aj;rw [tc] at al;exact ⟨x,by simp [Instr.loadAt,Instr.sureAddr,al],b'⟩
  split at aj
  ·rename_i l aE;exact key l (ah.obj id _ aE) aj
  ·rename_i l g z aE;obtain ⟨b,cur,e,aB,aH,aR,bm,bf,bj,_⟩:=ah.obj id _ aE;exact key l ⟨b,cur,e,aB,aH,aR,bm,bf,bj⟩ aj
  ·simp at aj
 ·cases ad with
  | bW cells b o f h fu =>
    obtain ⟨x,al,b'⟩:=AJ (J:=J) (S:=S) (w:=w) (b:=b) (base:=o) (g:=f) (fun j u hu=>⟨(h j u hu).2.1,(h j u hu).2.2.2,(fu j u hu).view (I.gh (h j u hu).2.2.1)⟩) aj;rw [ug] at al;exact ⟨x,by simp [Instr.loadAt,Instr.sureAddr,al],b'⟩
 ·simp at aj
theorem yj (ah:aL B U J S w H) {l:aI} (cc:∀ id,l≠.obj id) (cq:∀ id j,l≠.cell id j) {u:I} {v:Value} {vc:List I} (ao:u.cells=some vc) (aj:Rel J S w u v) (aq:aW U J S w l u v) :
  ∃ S':Nat→Nat→Prop,(∀ b o,S b o→S' b o)∧(∀ b o,S' b o→S b o∨U b=some l)∧aL B U J S' w H∧v.cells.size=vc.length ∧
    (∀ x∈v.cells.toList,x.oneCell'=true) ∧
    ∀ (j:Nat) (bI:I) (bw:Value),(vc.map I.settle)[j]?=some bI→v.cells[j]?=some bw→bI.cW=true∧Rel J S' w bI bw∧(bI.plain=true∨(j=0∧vc=[u]∧aW U J S' w l bI bw)):=by
 have single:vc=[u]→v.cells=#[v]→v.oneCell'=true→∃ S':Nat→Nat→Prop,(∀ b o,S b o→S' b o)∧(∀ b o,S' b o→S b o∨U b=some l)∧aL B U J S' w H∧v.cells.size=vc.length ∧
   (∀ x∈v.cells.toList,x.oneCell'=true) ∧
   ∀ (j:Nat) (bI:I) (bw:Value),(vc.map I.settle)[j]?=some bI→v.cells[j]?=some bw→bI.cW=true∧Rel J S' w bI bw∧(bI.plain=true∨(j=0∧vc=[u]∧aW U J S' w l bI bw)):=by
  intro fN ae ad;subst fN;rw [ae];by_cases hu:u.cW=true
  ·refine ⟨S,fun _ _ h=>h,fun _ _ h=>.inl h,ah,rfl,by simp [ad],fun j bI bw aw ej=>?_⟩;have ai:u.settle=u:=by
    unfold I.settle;split
    ·simp [I.cW] at hu
    ·rfl
   cases j with
   | zero=>simp [ai] at aw ej;subst aw ej;exact ⟨hu,aj,.inr ⟨rfl,rfl,aq⟩⟩
   | succ j=>simp at aw
  ·obtain ⟨cells,len,z,rfl⟩:∃ cells len z,u=.ay cells len (.uniq z):=by
    unfold I.cW at hu;split at hu
    ·exact ⟨_,_,_,rfl⟩
    ·simp at hu
   obtain ⟨a6,aJ,aP,cl,_,r2,eJ⟩:=ke ah aj aq;refine ⟨a6,aJ,aP,ah.settle aJ (fun b o h=>(aP b o h).imp id fun h=>⟨_,h,cc,cq⟩) cl,rfl,by simp [ad],fun j bI bw aw ej=>?_⟩;cases j with
   | zero=>simp [I.settle] at aw ej;subst aw ej;exact ⟨rfl,r2,.inr ⟨rfl,rfl,eJ⟩⟩
   | succ j=>simp at aw
 cases aj with
 | agg as vs h p one r =>
   simp [I.cells] at ao;subst ao;refine ⟨S,fun _ _ h=>h,fun _ _ h=>.inl h,ah,h,one,fun j bI bw aw ej=>?_⟩;simp only [sN,sr] at aw;obtain ⟨x,al,rfl⟩:=aw;have aC:=p x (sY al);have ai:x.settle=x:=by
    unfold I.settle;split
    ·simp [I.plain] at aC
    ·rfl
   rw [ai];exact ⟨I.gh aC,r j x bw al ej,.inl aC⟩
 | junk v=>simp [I.cells] at ao
 | tuple as vs h p r=>simp [I.cells] at ao
 | raw=>simp [I.cells] at ao
 | _=>simp [I.cells] at ao;exact single ao.symm rfl rfl
theorem Ext.last (ah:aL B U J S w H) (n:Nat):(J++[n])[H.length]?=some n:=by rw [←ah.cH];simp
theorem nV (ah:aL B U J S w H) (l:aI) (cc:∀ id,l≠.obj id) (cq:∀ id j,l≠.cell id j) {cs:List I} {vs:Array Value} (e:TypeId) (hlen:cs.length≤vs.size)
  (ao:∀ (j:Nat) (u:I) (v:Value),cs[j]?=some u→vs[j]?=some v→u.cW=true∧v.oneCell'=true∧Rel J S w u v∧(u.plain=true∨(j=0∧aW U J S w l u v))) :
  ∃ az,bk U S w az S (w.alloc (.cells vs e))∧aL B az (J++[w.heap.size]) S (w.alloc (.cells vs e)) (H++[.cells cs]):=by
 classical
 let az:Nat→Option aI:=fun b=>if b=w.heap.size then some (.obj H.length) else if U b=some l then some (.cell H.length 0) else U b
 have bO:∀ b l',U b=some l'→b≠w.heap.size:=fun b l' h=>by have:=(ah.base b l' h).2;omega
 have aA:bk U S w az S (w.alloc (.cells vs e)):=by
  have fY:=kr ah (.cells vs e) (.obj H.length);refine ⟨fY.os,fY.tape,fY.output,fY.size,fY.cG,fY.set,fY.fresh,fun b ag=>?_⟩;by_cases h:b=w.heap.size
  ·exact .inr (by omega)
  ·refine .inl fun aS=>ag ?_;simp [az,h,aS]
 have bY:aL B az J S (w.alloc (.cells vs e)) H:=by
  refine ah.frame aA (fun b l' ag ak=>?_) (fun b o ai=>?_) (fun b l' ag=>?_)
  ·have h:=bO b l' ag;(have dE:l'≠l:=by rcases ak with ⟨id,rfl⟩ | ⟨id,j,rfl⟩ <;> intro e <;> first | exact cc _ e.symm | exact cq _ _ e.symm);refine ⟨?_,heap_alloc_old w _ b (ah.base b l' ag).2,fun o ai=>ai⟩;simp [az,h,ag,dE]
  ·obtain ⟨v,ae⟩:=ah.ch b o ai;exact ⟨v,((aA.set b o ai).2).trans ae⟩
  ·by_cases h:b=w.heap.size
   ·subst h;exact ⟨ah.c1,by simp⟩
   ·have:∃ cx,U b=some cx:=by
     cases aS:U b with
     | none=>simp [az,h,aS] at ag
     | some cx=>exact ⟨cx,rfl⟩
    obtain ⟨cx,aS⟩:=this;have:=ah.base b cx aS;exact ⟨this.1,by simp;omega⟩
 refine ⟨az,aA,bY.push w.heap.size ⟨w.heap.size,vs,e,Ext.last ah _,by simp [az],heap_alloc_new w _,hlen,mF ah,fun j u v hu ae=>?_⟩⟩;obtain ⟨bc,bn,bu,b9⟩:=ao j u v hu ae;refine ⟨bc,bn,bu.mono (Ext.append J _) aA.set,?_⟩;rcases b9 with b9 | ⟨rfl,b9⟩
 ·exact aW.b5 b9
 ·refine b9.mono (Ext.append J _) aA.set fun b ag=>⟨?_,heap_alloc_old w _ b (ah.base b l ag).2,fun o ai=>ai⟩;simp [az,bO b l ag,ag]
theorem E' (ah:aL B U J S w H) {l:aI} (cc:∀ id,l≠.obj id) (cq:∀ id j,l≠.cell id j) {u:I} {v:Value} {vc:List I} (ao:u.cells=some vc) (aj:Rel J S w u v) (aq:aW U J S w l u v) (e:TypeId) :
  ∃ x w',(Instr.box e v).run P w=.ok x w'∧a3 B U J S w (H++[.cells (vc.map I.settle)]) (.ptr H.length 0) x w':=by
 obtain ⟨S',aJ,aP,cf,bR,eu,db⟩:=yj ah cc cq ao aj aq
 obtain ⟨az,aA,lT⟩:=nV (cs:=vc.map I.settle) (vs:=v.cells) cf l cc cq e (by simp [bR]) (fun j bI bw hu ae=>by
  obtain ⟨aB,aH,aR⟩:=db j bI bw hu ae
  exact ⟨aB,eu bw (by simpa using v9 ae),aH,aR.imp id fun ⟨x,_,y⟩=>⟨x,y⟩⟩)
 refine ⟨.pointer (some ⟨w.heap.size,0,none⟩),w.alloc (.cells v.cells e),?_,az,_,S',Ext.append J _,(bk.settle aJ (fun b o h=>(aP b o h).imp id fun h=>⟨_,h⟩)).trans aA,lT,
  .ptr _ _ _ (Ext.last ah _),aW.b5 rfl⟩
 simp [Instr.box,newVar,newRow,newObj,Sem.run,World.alloc_eq]
theorem Fa (ah:aL B U J S w H) {u:I} {v:Value} {vc:List I} (ao:u.cells=some vc) (aC:vc.all I.plain=true) (aj:Rel J S w u v) (e:TypeId) :
  ∃ x w',(Instr.box e v).run P w=.ok x w'∧a3 B U J S w H (.bW vc) x w':=by
 rw [sS] at aC;have Cj:v.cells.size=vc.length∧(∀ x∈v.cells.toList,x.oneCell'=true)∧∀ (j:Nat) (bI:I) (bw:Value),vc[j]?=some bI→v.cells[j]?=some bw→Rel J S w bI bw:=by
  have single:vc=[u]→v.cells=#[v]→v.oneCell'=true→v.cells.size=vc.length∧(∀ x∈v.cells.toList,x.oneCell'=true)∧∀ (j:Nat) (bI:I) (bw:Value),vc[j]?=some bI→v.cells[j]?=some bw→Rel J S w bI bw:=by
   intro fN ae ad;subst fN;rw [ae];refine ⟨rfl,by simp [ad],fun j bI bw aw ej=>?_⟩;cases j with
   | zero=>simp at aw ej;subst aw ej;exact aj
   | succ j=>simp at aw
  cases aj with
  | agg as vs h p one r =>
    simp [I.cells] at ao;subst ao;exact ⟨h,one,r⟩
  | junk v=>simp [I.cells] at ao
  | tuple as vs h p r=>simp [I.cells] at ao
  | raw=>simp [I.cells] at ao
  | _=>simp [I.cells] at ao;exact single ao.symm rfl rfl
 obtain ⟨bR,eu,db⟩:=Cj
 let S':Nat→Nat→Prop:=fun b o=>S b o∨(b=w.heap.size∧o<vc.length)
 have hnew:(w.alloc (.cells v.cells e)).heap[w.heap.size]?=some (.cells v.cells e (0,0)):=heap_alloc_new w _;have bz:∀ o,(w.alloc (.cells v.cells e)).cell? ⟨w.heap.size,o,none⟩=v.cells[o]?:=fun o=>cell_of_row _ _ o v.cells e (0,0) hnew;have hold:∀ b o,S b o→(w.alloc (.cells v.cells e)).cell? ⟨b,o,none⟩=w.cell? ⟨b,o,none⟩:=fun b o ai=>by
  obtain ⟨x,al⟩:=ah.ch b o ai;exact oM _ (mB al)
 have aA:bk U S w U S' (w.alloc (.cells v.cells e)):=by
  refine ⟨rfl,rfl,rfl,by simp,fun b ag _=>heap_alloc_old w _ b ag,fun b o ai=>⟨.inl ai,hold b o ai⟩,fun b o ai=>?_,fun b ag=>.inl ag⟩;rcases ai with ai | ⟨rfl,_⟩
  ·exact .inl ai
  ·exact .inr (.inr (sx _))
 refine ⟨.pointer (some ⟨w.heap.size,0,none⟩),w.alloc (.cells v.cells e),by simp [Instr.box,newVar,newRow,newObj,Sem.run,World.alloc_eq],U,J,S',Ext.refl J,aA,ah.frame aA (fun b l ag _=>?_) (fun b o ai=>?_) (fun b l ag=>?_),
  .bW _ _ _ (fun j=>v.cells.getD j undef) (fun j bI aw=>?_) (fun j bI aw=>?_),aW.b5 rfl⟩
 ·have aU:=(ah.base b l ag).2;exact ⟨ag,heap_alloc_old w _ b aU,fun o ai=>ai.resolve_right fun h=>by omega⟩
 ·rcases ai with ai | ⟨rfl,aq⟩
  ·obtain ⟨x,al⟩:=ah.ch b o ai;exact ⟨x,(hold b o ai).trans al⟩
  ·exact ⟨_,(bz o).trans (sT (by omega))⟩
 ·have:=ah.base b l ag;exact ⟨this.1,by simp;omega⟩
 ·have aU:=(ss.1 aw).1;have ej:v.cells[j]?=some (v.cells.getD j undef):=by simp [Array.getD,bR,aU]
  rw [tc];exact ⟨.inr ⟨rfl,aU⟩,(bz j).trans ej,aC bI (sY aw),eu _ (by simpa using v9 ej)⟩
 ·have aU:=(ss.1 aw).1;have ej:v.cells[j]?=some (v.cells.getD j undef):=by simp [Array.getD,bR,aU]
  exact (db j bI _ aw ej).mono (Ext.refl J) aA.set
theorem F2 {t:TypeId} {z:List I} (h:zeroCells P t=some z):∃ i v,P.info? t=some i∧i.zero=some v∧z=v.cells.toList.map hx∧∀ x∈v.cells.toList,x.oneCell'=true:=by
 simp only [zeroCells,sC] at h;obtain ⟨v,⟨i,hi,ae⟩,h⟩:=h;split at h
 ·rename_i db;simp at h;exact ⟨i,v,hi,ae,h.symm,sS.1 db⟩
 ·simp at h
theorem hU {t:TypeId} {z:List I} (h:zeroCells P t=some z):∃ i v,P.info? t=some i∧i.zero=some v∧c7 J S w z v.cells.toList:=by
 obtain ⟨i,v,hi,ae,rfl,eu⟩:=F2 h;refine ⟨i,v,hi,ae,by simp,fun j u bw hu bg=>?_⟩;simp only [sN,bg,sB,Option.some.injEq] at hu;subst hu;exact ⟨m8 _,eu bw (sY bg),lC _ _ _ _⟩
theorem ka {t:TypeId} {i:TypeInfo} {v:Value} (hi:P.info? t=some i) (ae:i.zero=some v):(zeroValue t).run P w=.ok v w:=by
 simp [zeroValue,typeInfo,hi,ae]
theorem E7 (ah:aL B U J S w H) {t:TypeId} {z:List I} (bp:zeroCells P t=some z) (fQ:Value) :
  ∃ x w',(Instr.alloc t true fQ).run P w=.ok x w'∧a3 B U J S w (H++[.cells z]) (.ptr H.length 0) x w':=by
 obtain ⟨i,v,hi,ae,ao⟩:=hU (J:=J) (S:=S) (w:=w) bp
 obtain ⟨az,aA,cf⟩:=nV (cs:=z) (vs:=v.cells) ah .res (by simp) (by simp) t (by have:=ao.len;simp at this;omega) (fun j u bw hu bg=>by
  obtain ⟨a,b,c⟩:=ao.rel j u bw hu (by simpa using bg)
  exact ⟨I.gh a,b,c,.inl a⟩)
 refine ⟨.pointer (some ⟨w.heap.size,0,none⟩),w.alloc (.cells v.cells t),?_,az,_,S,Ext.append J _,aA,cf,.ptr _ _ _ (Ext.last ah _),aW.b5 rfl⟩;cases fQ <;> simp [Instr.alloc,ka hi ae,newVar,newRow,newObj,Sem.run,World.alloc_eq]
theorem E8 (ah:aL B U J S w H) {t:TypeId} {s:Nat} (bp:zeroCells P t=some [.ay [] 0 .full]) (fQ:Value) :
  ∃ x w',(Instr.alloc t true fQ).run P w=.ok x w'∧a3 B U J S w (H++[.cells [.ay [] 0 (.own s)]]) (.ptr H.length 0) x w':=by
 obtain ⟨i,v,hi,ae,ao⟩:=hU (J:=J) (S:=S) (w:=w) bp
 obtain ⟨az,aA,cf⟩:=nV (cs:=[.ay [] 0 (.own s)]) (vs:=v.cells) ah .res (by simp) (by simp) t (by have:=ao.len;simp at this;simp;omega) (fun j u bw hu bg=>by
  cases j with
  | succ j=>simp at hu
  | zero =>
    simp at hu;subst hu;obtain ⟨a,b,c⟩:=ao.rel 0 _ bw rfl (by simpa using bg);refine ⟨rfl,b,?_,.inr ⟨rfl,?_⟩⟩
    ·cases c with
     | b3 _ a=>exact .b3 _ a
     | ay _ _ _ br o cap f ao hle hu h aj=>exact .ay _ _ _ br o cap f (fun h=>by cases h) hle (fun z h=>by cases h) h aj
    ·cases c with
     | b3 _ a=>cases a with
       | none=>trivial
       | some a=>exact .inl ⟨rfl,rfl,rfl⟩
     | ay _ _ _ b o cap f ao hle hu h aj=>exact .inl ⟨rfl,ao rfl,rfl⟩)
 refine ⟨.pointer (some ⟨w.heap.size,0,none⟩),w.alloc (.cells v.cells t),?_,az,_,S,Ext.append J _,aA,cf,.ptr _ _ _ (Ext.last ah _),aW.b5 rfl⟩;cases fQ <;> simp [Instr.alloc,ka hi ae,newVar,newRow,newObj,Sem.run,World.alloc_eq]
theorem iv (z:List I):∀ n,(e5 n z).length=n*z.length
 | 0=>by simp [e5]
 | n+1=>by simp [e5,iv z n,Nat.succ_mul,tF]
theorem Ad (z:List I):∀ (n j:Nat),j<n*z.length→(e5 n z)[j]?=z[j % z.length]?
 | 0,j,h=>by simp at h
 | n+1,j,h=>by
   simp only [e5];rcases tg j z.length with aw | aw
   ·rw [sR aw,Nat.mod_eq_of_lt aw]
   ·rw [sZ aw,Ad z n _ (by rw [Nat.succ_mul] at h;omega),Nat.mod_eq_sub_mod aw]
theorem m0 {z:List I} {gp:Array Value} (h:c7 J S w z gp.toList) (bp:0<z.length) (n:Nat) :
  c7 J S w (e5 n z) ((Array.range (n*z.length)).map (fun i=>gp[i % gp.size]!)).toList:=by
 have ak:z.length=gp.size:=by simpa using h.len
 refine ⟨by simp [iv],fun j u v hu ae=>?_⟩;have aw:j<n*z.length:=by have:=(ss.1 hu).1;rwa [iv] at this
 rw [Ad z n j aw] at hu;have hm:j % z.length<z.length:=Nat.mod_lt _ bp;refine h.rel (j % z.length) u v hu ?_;simp [aw] at ae;rw [←ak] at ae;have nx:j % z.length<gp.size:=ak ▸ hm;rw [getElem!_pos gp _ nx] at ae;simp [nx,ae]
theorem iw {n bytes:Nat} (h:fx n bytes=true):n*bytes≤140737488355328∧1≤bytes:=by
 simpa [fx] using h
theorem Fp (ah:aL B U J S w H) {t:TypeId} {n c:Int} {k k':IntKind} {z:List I} {sz:Nat} (aS:0≤n) (iU:n≤c) (bp:jo P t c.toNat=some (z,sz)) :
  ∃ x w',(Instr.makeSlice t (.int k n) (.int k' c)).run P w=.ok x w'∧a3 B U J S w (H++[.cells z]) (.ref H.length 0 n.toNat (some c.toNat) sz) x w':=by
 unfold jo at bp;split at bp
 ·rename_i e he;split at bp
  ·rename_i s lr bytes ai pT ag;split at bp
   ·rename_i ao;obtain ⟨jJ,h5,pc⟩:=ao;simp only [Option.some.injEq,Prod.mk.injEq] at bp;obtain ⟨rfl,rfl⟩:=bp;obtain ⟨i,v,hi,ae,eG⟩:=hU (J:=J) (S:=S) (w:=w) pT;simp only [hi,sB,Option.some.injEq] at ag;subst ag;obtain ⟨r1,r2⟩:=iw pc;have fO:=m0 eG (by omega) c.toNat;have pf:c.toNat≤140737488355328:=sW (uQ _ r2) r1;(have ew:lr.length=v.cells.size:=by simpa using eG.len);(have bR:i.size=s:=by obtain ⟨nH,hi',h⟩:=mX ai;rw [hi] at hi';cases hi';exact h);have lX:(i.bytes:Int)*c≤281474976710656:=by
     have:(i.bytes:Int)*c=((c.toNat*i.bytes:Nat):Int):=by rw [v_,uH (by omega),Int.mul_comm]
     rw [this];omega
    have dQ:=run_make (P:=P) w t e i v he hi ae k k' n c aS iU lX (by omega);have pB:(madeCells v.cells (c.toNat*i.size)).toList=((Array.range (c.toNat*lr.length)).map (fun i=>v.cells[i % v.cells.size]!)).toList:=by
     rw [bR,←jJ];rfl
    rw [←pB] at fO
    obtain ⟨az,aA,cf⟩:=nV (cs:=e5 c.toNat lr) (vs:=madeCells v.cells (c.toNat*i.size)) ah .res (by simp) (by simp) e (by have:=fO.len;simp at this ⊢;omega) (fun j u bw hu bg=>by
     obtain ⟨a,b,c⟩:=fO.rel j u bw hu (by simpa using bg)
     exact ⟨I.gh a,b,c,.inl a⟩)
    exact ⟨_,_,dQ,az,_,S,Ext.append J _,aA,cf,.ref _ _ _ _ _ _ _ (Ext.last ah _) (fun m hm=>by simpa using hm) (by omega),aW.b5 rfl⟩
   ·simp at bp
  ·simp at bp
 ·simp at bp
theorem Fq (ah:aL B U J S w H) {t:TypeId} {c:Int} {k k':IntKind} {z:List I} {sz:Nat} (aS:0≤c) (bp:jo P t c.toNat=some (z,sz)) :
  ∃ x w',(Instr.makeSlice t (.int k c) (.int k' c)).run P w=.ok x w'∧a3 B U J S w H (.ay z c.toNat (.uniq sz)) x w':=by
 unfold jo at bp;split at bp
 ·rename_i e he;split at bp
  ·rename_i s lr bytes ai pT ag;split at bp
   ·rename_i ao;obtain ⟨jJ,h5,pc⟩:=ao;simp only [Option.some.injEq,Prod.mk.injEq] at bp;obtain ⟨rfl,rfl⟩:=bp;obtain ⟨i,v,hi,ae,eG⟩:=hU (J:=J) (S:=S) (w:=w) pT;simp only [hi,sB,Option.some.injEq] at ag;subst ag;obtain ⟨r1,r2⟩:=iw pc;have fO:=m0 eG (by omega) c.toNat;have pf:c.toNat≤140737488355328:=sW (uQ _ r2) r1;(have ew:lr.length=v.cells.size:=by simpa using eG.len);(have bR:i.size=s:=by obtain ⟨nH,hi',h⟩:=mX ai;rw [hi] at hi';cases hi';exact h);have lX:(i.bytes:Int)*c≤281474976710656:=by
     have:(i.bytes:Int)*c=((c.toNat*i.bytes:Nat):Int):=by rw [v_,uH (by omega),Int.mul_comm]
     rw [this];omega
    have dQ:=run_make (P:=P) w t e i v he hi ae k k' c c (by omega) (Int.le_refl _) lX (by omega);have pB:(madeCells v.cells (c.toNat*i.size)).toList=((Array.range (c.toNat*lr.length)).map (fun i=>v.cells[i % v.cells.size]!)).toList:=by
     rw [bR,←jJ];rfl
    rw [←pB] at fO;have iV:=nW ah fO [] e c.toNat c.toNat s h5 (by rw [iv,jJ]) (sx _) (by simp only [maxLen];omega) (by rw [←fO.len,iv,jJ];simp);simp only [sU,uR] at iV;exact ⟨_,_,dQ,iV⟩
   ·simp at bp
  ·simp at bp
 ·simp at bp
end
end Go.Proofs.YtfakoboiahbhaaaGreat.Ab


namespace Go.Proofs.YtfakoboiahbhaaaGreat.Ab
open Go
section
variable {P:Program} {B:Nat} {J:List Nat} {w:World} {H:List au} {U:Nat→Option aI} {S:Nat→Nat→Prop}
theorem mU:∀ (vs:List I) (off:Nat) (cs:List I),(setCells off vs cs).length=cs.length
 | [],_,_=>rfl
 | v::vs,off,cs=>by simp [setCells,mU vs]
theorem oe:∀ (vs:List I) (off:Nat) (cs:List I) (j:Nat),off+vs.length≤cs.length →
  (setCells off vs cs)[j]?=if off≤j∧j<off+vs.length then vs[j-off]? else cs[j]?
 | [],off,cs,j,_=>by simp [setCells];omega
 | v::vs,off,cs,j,h=>by
   simp only [sP] at h;rw [setCells,oe vs (off+1) _ j (by simp;omega)];by_cases ad:j=off
   ·subst ad
    have:¬ (j+1≤j∧j<j+1+vs.length):=by omega
    rw [if_neg this,if_pos (by simp)];simp [show j<cs.length by omega]
   ·by_cases af:off+1≤j∧j<off+1+vs.length
    ·rw [if_pos af,if_pos (by simp;omega)];obtain ⟨k,rfl⟩:∃ k,j=off+1+k:=⟨j-(off+1),by omega⟩;rw [show off+1+k-off=k+1 by omega,show off+1+k-(off+1)=k by omega];simp
    ·rw [if_neg af,if_neg (by simp;omega)];rw [sG (fun e=>ad e.symm)]
theorem kb (cur vs:List Value) (off j:Nat) (h:off+vs.length≤cur.length) :
  (cur.take off++vs++cur.drop (off+vs.length))[j]?=if off≤j∧j<off+vs.length then vs[j-off]? else cur[j]?:=by
 have ax:(cur.take off).length=off:=by simp;omega
 by_cases ad:j<off
 ·rw [if_neg (by omega),sD,sR (by omega),th,if_pos ad]
 ·by_cases af:j<off+vs.length
  ·rw [if_pos ⟨by omega,af⟩,sD,sZ (by omega),ax,sR (by omega)]
  ·rw [if_neg (by omega),sZ (by simp;omega)];simp only [sA,ax,tq];congr 1;omega
theorem xl (ah:aL B U J S w H) {id:Nat} {l l':List I} (aE:H[id]?=some (.cells l)) {b:Nat} {cur cur':Array Value} {e:TypeId} (aB:J[id]?=some b) (aH:U b=some (.obj id))
  (aR:w.heap[b]?=some (.cells cur e (0,0))) (bf:∀ o,¬ S b o) (L:aI) (cc:∀ id,L≠.obj id) (cq:∀ id j,L≠.cell id j) (ak:l'.length≤cur'.size) (zd:Nat)
  (ao:∀ (j:Nat) (u:I) (v:Value),l'[j]?=some u→cur'[j]?=some v→u.cW=true∧v.oneCell'=true∧Rel J S w u v ∧
   (u.plain=true∨aW U J S w (.cell id j) u v∨(j=zd∧aW U J S w L u v))) :
  ∃ az,bk U S w az S (w.setRow b cur')∧aL B az J S (w.setRow b cur') (H.set id (.cells l')):=by
 classical
 let az:Nat→Option aI:=fun ar=>if U ar=some L then some (.cell id zd) else U ar
 have bz:∀ ar o,ar≠b→(w.setRow b cur').cell? ⟨ar,o,none⟩=w.cell? ⟨ar,o,none⟩:=fun ar o h=>by
  unfold World.cell?;simp only [setRow_other w b ar cur' h]
 have hA:∀ ar o,S ar o→ar≠b:=fun ar o ai e=>bf o (e ▸ ai);have yC:L≠.obj id:=cc id;have py:∀ ar cx,U ar=some cx→cx≠L→az ar=some cx:=fun ar cx h aN=>by
  have:¬ U ar=some L:=by rw [h];intro e;cases e;exact aN rfl
  simp [az,h,aN]
 have bR:(w.setRow b cur').heap.size=w.heap.size:=by simp [World.setRow]
 have aA:bk U S w az S (w.setRow b cur'):=by
  refine ⟨rfl,rfl,rfl,by omega,fun ar bt aN=>setRow_other w b ar cur' (fun e=>by subst e;rw [aH] at aN;cases aN),fun ar o ai=>⟨ai,bz ar o (hA ar o ai)⟩,fun ar o ai=>.inl ai,fun ar bt=>?_⟩;refine .inl fun aS=>bt ?_;simp [az,aS]
 refine ⟨az,aA,by simpa using ah.cH,fun bB o aq=>?_,fun ar o ai=>?_,fun ar cx bt=>?_,by rw [bR];exact ah.c1⟩
 ·by_cases g4:bB=id
  ·subst g4;rw [sE (ss.1 aE).1] at aq;cases aq;refine ⟨b,cur',e,aB,py b _ aH (fun e=>yC e.symm),setRow_heap w b cur cur' e (0,0) aR,ak,bf,fun j u v hu ae=>?_⟩;obtain ⟨bc,bn,bu,b9⟩:=ao j u v hu ae;refine ⟨bc,bn,bu.mono (Ext.refl J) aA.set,?_⟩;rcases b9 with b9 | b9 | ⟨rfl,b9⟩
   ·exact aW.b5 b9
   ·exact b9.mono (Ext.refl J) aA.set fun ar bt=>⟨py ar _ bt (fun e=>cq _ _ e.symm),setRow_other w b ar cur' (fun e=>by subst e;rw [aH] at bt;cases bt),fun o ai=>ai⟩
   ·exact b9.mono (Ext.refl J) aA.set fun ar bt=>⟨by simp [az,bt],setRow_other w b ar cur' (fun e=>by subst e;rw [aH] at bt;cases bt;exact yC rfl),fun o ai=>ai⟩
  ·rw [sG (fun e=>g4 e.symm)] at aq;refine (ah.obj bB o aq).frame (Ext.refl J) aA.set fun ar cx bt jO=>?_;have bO:ar≠b:=fun e=>by
    subst e;rw [aH] at bt;cases bt;rcases jO with h | ⟨j,h⟩
    ·cases h;exact g4 rfl
    ·cases h
   exact ⟨py ar cx bt (by rcases jO with rfl | ⟨j,rfl⟩ <;> intro e <;> first | exact cc _ e.symm | exact cq _ _ e.symm),setRow_other w b ar cur' bO,fun o ai=>ai⟩
 ·obtain ⟨v,ae⟩:=ah.ch ar o ai;exact ⟨v,(bz ar o (hA ar o ai)).trans ae⟩
 ·rw [bR];by_cases h:U ar=some L
  ·exact ah.base ar L h
  ·simp only [az,h,if_false] at bt;exact ah.base ar cx bt
theorem Fz (ah:aL B U J S w H) {l:aI} (cc:∀ id,l≠.obj id) (cq:∀ id j,l≠.cell id j) {lo:Nat} {t:TypeId} {a u:I} {x v:Value} {H':List au} (h:iI P lo H t a u=some H')
  (cg:Rel J S w a x) (aj:Rel J S w u v) (aq:aW U J S w l u v) (y:Value) :
  ∃ w',(Instr.storeAt t x v).run P w=.ok () w'∧a3 B U J S w H' .junk y w':=by
 have key:∀ {H H':List au} (_:aL B U J S w H) {id off s:Nat} (_:bU P t=some s) {vc:List I} (_:u.cells=some vc) {ll l':List I} (_:H[id]?=some (.cells ll))
   (_:(if vc.length=s∧off+s≤ll.length then some (setCells off (vc.map I.settle) ll) else none)=some l') (_:Rel J S w (.ptr id off) x) (_:H'=H.set id (.cells l')),
   ∃ w' b cur,(Instr.storeAt t x v).run P w=.ok () w'∧a3 B U J S w H' .junk y w'∧J[id]?=some b∧(∃ e,w.heap[b]?=some (.cells cur e (0,0)))∧∃ cur' e,w'.heap[b]?=some (.cells cur' e (0,0))∧cur'.size=cur.size:=by
  intro H H' ah id off s ai vc fN ll l' aE dE cg cf;subst cf
  ·
     split at dE
     ·rename_i g3;obtain ⟨bc,bn⟩:=g3;simp only [Option.some.injEq] at dE;subst dE;obtain ⟨S',aJ,aP,cf,bR,eu,db⟩:=yj ah cc cq fN aj aq;obtain ⟨b,cur,e,aB,aH,aR,bm,bf,bj⟩:=cf.obj id _ aE;cases cg with
      | ptr id off ar ag =>
        rw [aB] at ag;cases ag;have cM:=run_storeCells_at P b off e v.cells.toList 0 cur w aR (by simp [bR];omega) eu;simp only [ug] at cM;obtain ⟨az,aA,lT⟩:=xl (cur':=(cur.toList.take off++v.cells.toList++cur.toList.drop (off+v.cells.toList.length)).toArray) (l':=setCells off (vc.map I.settle) ll) cf aE aB aH aR bf l cc cq
         (by simp [mU,bR];omega) off (fun j bI bw hu ae=>by
          rw [oe _ _ _ _ (by simp;omega)] at hu;(have ae:(cur.toList.take off++v.cells.toList++cur.toList.drop (off+v.cells.toList.length))[j]?=some bw:=by simpa using ae);rw [kb _ _ _ _ (by simp [bR];omega)] at ae;simp only [List.length_map,tU,bR] at hu ae;split at hu
          ·rename_i aw;rw [if_pos aw] at ae;obtain ⟨d1,d2,d3⟩:=db (j-off) bI bw hu (by simpa using ae);refine ⟨d1,eu bw (sY ae),d2,?_⟩;rcases d3 with d3 | ⟨d3,_,d4⟩
           ·exact .inl d3
           ·exact .inr (.inr ⟨by omega,d4⟩)
          ·rename_i aw;rw [if_neg aw] at ae;obtain ⟨d1,d0,d2,d3⟩:=bj j bI bw hu (by simpa using ae)
           exact ⟨d1,d0,d2,.inr (.inl d3)⟩)
        refine ⟨_,b,cur,?_,⟨az,J,S',Ext.refl J,(bk.settle aJ (fun b o h=>(aP b o h).imp (fun h=>h) fun h=>⟨_,h⟩)).trans aA,lT,.junk y,aW.b5 rfl⟩,aB,⟨e,aR⟩,_,e,setRow_heap w b cur _ e (0,0) aR,?_⟩
        ·simp only [Instr.storeAt,Instr.sureAddr,storeVar,Sem.run_bind,Sem.run_pure,Result.andThen_ok,run_sizeOf ai];rw [if_neg (by rw [bR,bc];simp)];exact cM
        ·simp [bR];omega
     ·simp at dE
 unfold iI at h;split at h
 ·rename_i id off s ai;split at h
  ·rename_i vc fN;unfold hf at h;split at h
   ·split at h
    ·rename_i lo' ll aE;simp only [sr] at h;obtain ⟨l',dE,rfl⟩:=h;obtain ⟨w',_,_,aV,aX,_⟩:=key ah ai fN aE dE cg rfl;exact ⟨w',aV,aX⟩
    ·rename_i lo' ll g z aE;simp only [sr] at h;obtain ⟨l',dE,rfl⟩:=h;have aU:=(ss.1 aE).1;obtain ⟨b,cur,e,aB,aH,aR,bm,bf,bj,cap,c4,dd,dI,fC⟩:=ah.obj id _ aE;obtain ⟨w',ar,BS,aV,⟨az,b1,S',bT,b6,eI,fR⟩,cB,⟨fY,dU⟩,cur',cP,mO,xq⟩:=key (ah.ot aE) ai fN (ll:=ll) (by rw [sE aU]) dE cg rfl;rw [aB] at cB;cases cB;rw [aR] at dU;cases dU;have aO:=eI.xw (g:=g) (z:=z) (by rw [sE (by simpa using aU)]) (bT _ _ aB) (bT _ _ c4) dd dI mO (by rw [xq,fC]);rw [td,td] at aO;exact ⟨w',aV,az,b1,S',bT,b6,aO,fR⟩
    ·simp at h
   ·simp at h
  ·simp at h
 ·simp at h
theorem FA (ah:aL B U J S w H) {l:aI} (cc:∀ id,l≠.obj id) (cq:∀ id j,l≠.cell id j) {lo:Nat} {t:TypeId} {a u:I} {x v:Value} {H':List au} (h:lB P lo H t a u=some H')
  (cg:Rel J S w a x) (aj:Rel J S w u v) (aq:aW U J S w l u v) (y:Value) :
  ∃ w',(Instr.storeAt t x v).run P w=.ok () w'∧a3 B U J S w H' .junk y w':=by
 unfold lB at h;split at h
 ·rename_i id off c n z ai;split at h
  ·rename_i ao;obtain ⟨r1,r2⟩:=FN ao.2 ao.1 aj aq;unfold hd at h;split at h
   ·split at h
    ·rename_i lo' ll aE;simp only [sr] at h;obtain ⟨l',dE,rfl⟩:=h;split at dE
     ·rename_i cZ;simp only [Option.some.injEq] at dE;subst dE;obtain ⟨b,cur,e,aB,aH,aR,bm,bf,bj⟩:=ah.obj id _ aE;cases cg with
      | ptr id off ar ag =>
        rw [aB] at ag;cases ag;(have eu:∃ b o cap,v=.slice (some ⟨b,o,none⟩) n cap:=by cases r1 with | raw _ _ _ b o cap=>exact ⟨b,o,cap,rfl⟩);(have ed:v.cells=#[v]∧v.oneCell'=true:=by obtain ⟨b,o,cap,rfl⟩:=eu;exact ⟨rfl,rfl⟩);have cM:=run_storeCells_at P b off e v.cells.toList 0 cur w aR (by rw [ed.1];simp;omega) (by rw [ed.1];simp [ed.2]);simp only [ug,ed.1] at cM;obtain ⟨az,aA,lT⟩:=xl (cur':=(cur.toList.take off++[v]++cur.toList.drop (off+1)).toArray) (l':=ll.set off (.raw c n z)) ah aE aB aH aR bf l cc cq
         (by simp;omega) off (fun j bI bw hu ae=>by
          (have ae:(cur.toList.take off++[v]++cur.toList.drop (off+1))[j]?=some bw:=by simpa using ae);have dF:=kb cur.toList [v] off j (by simp;omega);simp only [List.length_singleton] at dF;rw [dF] at ae;by_cases aw:off=j
          ·subst aw;rw [sE cZ] at hu;cases hu;rw [if_pos ⟨by omega,by omega⟩] at ae;simp at ae;subst ae;exact ⟨rfl,ed.2,r1,.inr (.inr ⟨rfl,r2⟩)⟩
          ·rw [sG aw] at hu;rw [if_neg (by omega)] at ae;obtain ⟨d1,d0,d2,d3⟩:=bj j bI bw hu (by simpa using ae)
           exact ⟨d1,d0,d2,.inr (.inl d3)⟩)
        refine ⟨_,?_,az,J,S,Ext.refl J,aA,lT,.junk y,aW.b5 rfl⟩;simp only [Instr.storeAt,Instr.sureAddr,storeVar,Sem.run_bind,Sem.run_pure,Result.andThen_ok,run_sizeOf ai];rw [if_neg (by rw [ed.1];simp),ed.1];exact cM
     ·simp at dE
    ·simp at h
   ·simp at h
  ·simp at h
 ·simp at h
theorem iu (ah:aL B U J S w H) {l:aI} (cc:∀ id,l≠.obj id) (cq:∀ id j,l≠.cell id j) {u:I} {v:Value} (aj:Rel J S w u v) (aq:aW U J S w l u v) :
  a3 B U J S w H u v w:=by
 classical
 let az:Nat→Option aI:=fun b=>if U b=some l then some .res else U b
 have aA:bk U S w az S w:=⟨rfl,rfl,rfl,sx _,fun _ _ _=>rfl,fun _ _ h=>⟨h,rfl⟩,fun _ _ h=>.inl h,fun b ag=>.inl fun aS=>ag (by simp [az,aS])⟩;refine ⟨az,J,S,Ext.refl J,aA,ah.frame aA (fun b l' ag ak=>?_) ah.ch (fun b l' ag=>?_),aj,aq.mono (Ext.refl J) aA.set fun b ag=>⟨by simp [az,ag],rfl,fun _ h=>h⟩⟩
 ·have bO:l'≠l:=by rcases ak with ⟨id,rfl⟩ | ⟨id,j,rfl⟩ <;> intro e <;> first | exact cc _ e.symm | exact cq _ _ e.symm
  exact ⟨by simp [az,ag,bO],rfl,fun _ h=>h⟩
 ·by_cases h:U b=some l
  ·exact ah.base b l h
  ·simp only [az,h,if_false] at ag;exact ah.base b l' ag
theorem zT (ah:aL B U J S w H) {l:aI} (cc:∀ id,l≠.obj id) (cq:∀ id j,l≠.cell id j) {cells:List I} {len z:Nat} (aS:len≠0) {v:Value}
  (aj:Rel J S w (.ay cells len (.uniq z)) v) (aq:aW U J S w l (.ay cells len (.uniq z)) v) :
  a3 B U J S w (H++[.cells cells]) (.ref H.length 0 len none z) v w:=by
 classical
 cases aj with
 | b3 c a=>exact absurd rfl aS
 | ay cells len c b o cap f ao hle hu h fu=>exact absurd rfl (hu z)
 | cN cells len z b o cap =>
   rcases aq with ⟨rfl,_,_⟩ | ⟨ad,aq,af,aG,a8,bN,⟨cur,e,bX,cQ,cU⟩,cY⟩
   ·exact absurd rfl aS
   ·simp only at ad bX cY aq;subst aq
    let az:Nat→Option aI:=fun ar=>if ar=b then some (.obj H.length) else U ar
    have aA:bk U S w az S w:=⟨rfl,rfl,rfl,sx _,fun _ _ _=>rfl,fun _ _ h=>⟨h,rfl⟩,fun _ _ h=>.inl h,fun ar ag=>by
     by_cases dK:ar=b
     ·subst dK;exact .inl (by simp [ad])
     ·simp only [az,dK,if_false] at ag;exact .inl ag⟩
    have bY:aL B az J S w H:=by
     refine ah.frame aA (fun ar l' ag ak=>?_) ah.ch (fun ar l' ag=>?_)
     ·have bO:ar≠b:=fun e=>by
       subst e;rw [ad] at ag;cases ag;rcases ak with ⟨id,h⟩ | ⟨id,j,h⟩
       ·exact cc _ h
       ·exact cq _ _ h
      exact ⟨by simp [az,bO,ag],rfl,fun _ h=>h⟩
     ·by_cases dK:ar=b
      ·subst dK;exact ah.base _ l ad
      ·simp only [az,dK,if_false] at ag;exact ah.base ar l' ag
    refine ⟨az,_,S,Ext.append J [b],aA,bY.push b ⟨b,cur,e,Ext.last ah _,by simp [az],bX,by rw [cQ,bN];exact tP _ af,cY,fun j u v hu ae=>?_⟩,
     .ref _ _ _ _ _ b _ (Ext.last ah _) (by simp) af,aW.b5 rfl⟩
    obtain ⟨bc,bn,bu⟩:=cU j u v hu ae;exact ⟨I.gh bc,bn,bu.mono (Ext.append J _) aA.set,aW.b5 bc⟩
theorem xL (ah:aL B U J S w H) {u:I} {v:Value} {row:List I} (h:rowOf H u=some row) (aj:Rel J S w u v) (aN:u.cW=true) :
  (row=[]∧∃ a c,v=.slice a 0 c)∨∃ b o n c vs,v=.slice (some ⟨b,o,none⟩) n c∧c7 J S w row vs∧(∀ j x,vs[j]?=some x→w.cell? ⟨b,o+j,none⟩=some x):=by
 unfold rowOf at h;split at h
 ·rename_i cells len c;simp at h;subst h;cases aj with
  | b3 c a=>exact .inl ⟨rfl,a,_,rfl⟩
  | cN=>simp [I.cW] at aN
  | ay _ _ _ b o cap f ao hle hu bz b' =>
    refine .inr ⟨b,o,len,cap,(List.range cells.length).map f,rfl,⟨by simp,fun j u v ca bg=>?_⟩,fun j x al=>?_⟩
    ·have aw:=(ss.1 ca).1;simp [aw] at bg;subst bg;exact ⟨(bz j u ca).2.2.1,(bz j u ca).2.2.2,b' j u ca⟩
    ·simp only [sN,sr] at al;obtain ⟨k,av,rfl⟩:=al;(have aw:j<cells.length:=by have:=(ss.1 av).1;simpa using this);simp [aw] at av;subst av;exact (bz j _ (sI aw)).2.1
 ·rename_i id off len cap sz;split at h
  ·rename_i l aE;split at h
   ·rename_i hle;simp only [Option.some.injEq] at h;subst h;obtain ⟨b,cur,e,aB,aH,aR,bm,bf,bj⟩:=ah.obj id _ aE;cases aj with
    | ref id off len c sz ar cap' ag ao CJ =>
      rw [aB] at ag;cases ag;refine .inr ⟨b,off,len,cap',(cur.toList.drop off).take (len*sz),rfl,⟨by simp;omega,fun j u v ca bg=>?_⟩,fun j x al=>?_⟩
      ·simp only [sN,sr] at ca;obtain ⟨y,a2,rfl⟩:=ca;rw [th] at a2 bg;split at a2
       ·rename_i aw;rw [if_pos aw] at bg;rw [tq] at a2 bg;obtain ⟨d1,d0,d2,_⟩:=bj (off+j) y v a2 (by simpa using bg);exact ⟨I.dk y,d0,d2.view d1⟩
       ·simp at a2
      ·rw [th] at al;split at al
       ·rw [tq] at al;rw [cell_of_row w b _ cur e (0,0) aR];simpa using al
       ·simp at al
   ·simp at h
  ·simp at h
 ·simp at h
theorem mz {u:I} {v:Value} {n:Nat} (h:lenOf u=some n) (aj:Rel J S w u v):∃ a c,v=.slice a n c:=by
 unfold lenOf at h;split at h
 ·simp at h;subst h;cases aj with
  | b3 c a=>exact ⟨_,_,rfl⟩
  | ay=>exact ⟨_,_,rfl⟩
  | cN=>exact ⟨_,_,rfl⟩
 ·simp at h;subst h;cases aj with
  | ref=>exact ⟨_,_,rfl⟩
 ·simp at h
end
end Go.Proofs.YtfakoboiahbhaaaGreat.Ab


namespace Go.Proofs.YtfakoboiahbhaaaGreat.Ab
open Go
section
variable {P:Program} {B:Nat} {J:List Nat} {w:World} {H:List au} {U:Nat→Option aI} {S:Nat→Nat→Prop}
theorem a3.after {b4:Nat→Option aI} {cT:List Nat} {a6:Nat→Nat→Prop} {bF:World} (bM:Ext J cT) (aA:bk U S w b4 a6 bF) {H':List au} {r:I} {v:Value} {w':World} (h:a3 B b4 cT a6 bF H' r v w'):a3 B U J S w H' r v w':=by
 obtain ⟨az,b1,S',a,b,c,d,e⟩:=h;exact ⟨az,b1,S',bM.trans a,aA.trans b,c,d,e⟩
theorem a3.settle {cells:List I} {len z:Nat} {v:Value} {w':World} {H':List au} (h:a3 B U J S w H' (.ay cells len (.uniq z)) v w'):a3 B U J S w H' (.ay cells len (.own z)) v w':=by
 obtain ⟨az,b1,S',a,b,c,d,e⟩:=h;obtain ⟨a6,aJ,aP,cl,r1,r2,eJ⟩:=ke c d e;exact ⟨az,b1,a6,a,b.trans (bk.settle aJ fun b o h=>(aP b o h).imp (fun h=>h) fun h=>⟨_,h⟩),c.settle aJ (fun b o h=>(aP b o h).imp (fun h=>h) fun h=>⟨_,h,by simp,by simp⟩) cl,r2,eJ⟩
theorem AD (t ty e:TypeId) (i:TypeInfo) (ax:P.underlying t=some (.slice e)) (hi:P.info? e=some i) (base:Option Addr) (eL hp:Nat) (hle:eL≤hp) (a:Option Addr) (c:Nat) :
  (Builtin.append_ #[t,t] ty #[.slice base eL hp,.slice a 0 c]).run P w=.ok (.slice base eL hp) w:=by
 cases a <;> cases base <;> simp [Builtin.append_,run_underlying ax,sizeOf,typeInfo,hi,Builtin.lenOf,hle,Builtin.firstCells,loadCells,loadCellsFrom,storeCells]
theorem AB (w:World) (t ty e:TypeId) (i:TypeInfo) (ax:P.underlying t=some (.slice e)) (hi:P.info? e=some i)
  (g eL hp:Nat) (cur:Array Value) (ce:TypeId) (aO:w.heap[g]?=some (.cells cur ce (0,0)))
  (a:Addr) (m c:Nat) (news:List Value) (ak:news.length=m*i.size) (pG:∀ j u,news[j]?=some u→w.cell? (a.add j)=some u) (ad:∀ u∈news,u.oneCell'=true)
  (ev:eL+m≤hp) (dL:eL*i.size+news.length≤cur.size) :
  (Builtin.append_ #[t,t] ty #[.slice (some ⟨g,0,none⟩) eL hp,.slice (some a) m c]).run P w =
   .ok (.slice (some ⟨g,0,none⟩) (eL+m) hp) (w.setRow g (cur.toList.take (eL*i.size)++news++cur.toList.drop (eL*i.size+news.length)).toArray):=by
 have aQ:=run_firstCells_some (P:=P) w i.size m a m c news ak pG;have cM:=run_storeCells_at P g (eL*i.size) ce news 0 cur w aO (by simpa using dL) ad;simp only [ug] at cM;simp [Builtin.append_,run_underlying ax,sizeOf,typeInfo,hi,Builtin.lenOf,ev,aQ,Addr.add_lit,cM]
theorem EG (w:World) (t ty e:TypeId) (i:TypeInfo) (ax:P.underlying t=some (.slice e)) (hi:P.info? e=some i)
  (g k eL hp:Nat) (cur:Array Value) (ce:TypeId) (aO:w.heap[g]?=some (.cells cur ce (0,0)))
  (a:Addr) (m c:Nat) (news:List Value) (ak:news.length=m*i.size) (pG:∀ j u,news[j]?=some u→w.cell? (a.add j)=some u) (ad:∀ u∈news,u.oneCell'=true)
  (ev:eL+m≤hp) (dL:k+eL*i.size+news.length≤cur.size) :
  (Builtin.append_ #[t,t] ty #[.slice (some ⟨g,k,none⟩) eL hp,.slice (some a) m c]).run P w =
   .ok (.slice (some ⟨g,k,none⟩) (eL+m) hp) (w.setRow g (cur.toList.take (k+eL*i.size)++news++cur.toList.drop (k+eL*i.size+news.length)).toArray):=by
 have aQ:=run_firstCells_some (P:=P) w i.size m a m c news ak pG;have cM:=run_storeCells_at P g (k+eL*i.size) ce news 0 cur w aO (by simpa using dL) ad;simp only [ug] at cM;simp [Builtin.append_,run_underlying ax,sizeOf,typeInfo,hi,Builtin.lenOf,ev,aQ,Addr.add_lit,cM]
section grow
variable {t ty e:TypeId} {i:TypeInfo} {z:Value} {GM:List I}
theorem h2 (ah:aL B U J S w H) (ax:P.underlying t=some (.slice e)) (hi:P.info? e=some i) (bp:i.zero=some z) (ew:z.cells.size=i.size) (bR:0<i.size)
  (v:Value) (len cap:Nat) (jb:List Value) (ae:((∃ a,v=.slice a 0 0)∧len=0∧cap=0∧jb=[])∨∃ b o,v=.slice (some ⟨b,o,none⟩) len cap∧∀ j x,jb[j]?=some x→w.cell? ⟨b,o+j,none⟩=some x)
  {cs:List I} (gG:c7 J S w cs jb) (fM:cs.length=len*i.size)
  {ar cO m c:Nat} {new:List I} {news:List Value} (hnew:c7 J S w new news) (bz:∀ j x,news[j]?=some x→w.cell? ⟨ar,cO+j,none⟩=some x) (c2:new.length=m*i.size)
  (hm:0<m) (nu:cap<len+m) (ev:(len+m)*i.bytes≤140737488355328) (e0:1≤i.bytes) :
  ∃ x w',(Builtin.append_ #[t,t] ty #[v,.slice (some ⟨ar,cO,none⟩) m c]).run P w=.ok x w'∧a3 B U J S w H (.ay (cs++new) (len+m) (.uniq i.size)) x w':=by
 have CK:len+m≤140737488355328:=sW (uQ _ e0) ev;have et:len+m≤maxLen:=by simp only [maxLen];omega
 have eQ:news.length=m*i.size:=hnew.len ▸ c2;have yV:jb.length=len*i.size:=gG.len ▸ fM;have kA:∀ j x,news[j]?=some x→w.cell? ((⟨ar,cO,none⟩:Addr).add j)=some x:=fun j x h=>by rw [add_lit];exact bz j x h
 have fin:∀ fb:Nat,fb=grownCap w (len+m) cap e →
   a3 B U J S w H (.ay (cs++new) (len+m) (.uniq i.size)) (.slice (some ⟨w.heap.size,0,none⟩) (len+m) fb)
    (w.drew.alloc (.cells (jb.toArray++news.toArray++Builtin.zeroCells z.cells (fb-(len+m))) e)):=by
  rintro fb rfl;have fe:=grownCap_ge w (len+m) cap e;have hle:=grownCap_le_maxLen w (len+m) cap e et;generalize grownCap w (len+m) cap e=fb at fe hle;have aA:=kq U S w;have h:=nW (mf ah) ((gG.append hnew).mono (Ext.refl J) aA.set) (Builtin.zeroCells z.cells (fb-(len+m))).toList e (len+m) fb i.size bR
   (by rw [sA,fM,c2,tJ]) fe hle (by
    rw [sA,yV,eQ,←tJ,tU,size_zeroCells,ew,←tJ];congr 1;omega)
  have he:(jb++news++(Builtin.zeroCells z.cells (fb-(len+m))).toList).toArray=jb.toArray++news.toArray++Builtin.zeroCells z.cells (fb-(len+m)):=by
   apply Array.ext';simp
  rw [he] at h;exact a3.after (Ext.refl J) aA h
 rcases ae with ⟨⟨jw,rfl⟩,rfl,rfl,rfl⟩ | ⟨b,o,rfl,hold⟩
 ·cases jw with
  | none =>
    have aj:=run_append_nil (P:=P) w t ty e i z ax hi bp ⟨ar,cO,none⟩ m c news eQ kA hm (by omega) (by rw [tc] at ev;omega);have f:=fin _ rfl;refine ⟨_,_,aj,?_⟩;simpa using f
  | some lD =>
    have aj:=run_append_grow (P:=P) w t ty e i z ax hi bp lD 0 0 [] (by simp) (by simp) ⟨ar,cO,none⟩ m c news eQ kA nu (by omega) (growslice_fits nu ev);exact ⟨_,_,aj,fin _ rfl⟩
 ·have aj:=run_append_grow (P:=P) w t ty e i z ax hi bp ⟨b,o,none⟩ len cap jb yV (fun j x h=>by rw [add_lit];exact hold j x h) ⟨ar,cO,none⟩ m c news eQ kA nu (by omega) (growslice_fits nu ev);exact ⟨_,_,aj,fin _ rfl⟩
theorem BC (ah:aL B U J S w H) (ax:P.underlying t=some (.slice e)) (hi:P.info? e=some i) (bR:0<i.size) {l:aI} (cc:∀ id,l≠.obj id) (cq:∀ id j,l≠.cell id j)
  {cells:List I} {len b cap:Nat} {cur:Array Value} {ce:TypeId} (bD:U b=some l) (kY:cap≤maxLen) (ik:cells.length=len*i.size)
  (hg:w.heap[b]?=some (.cells cur ce (0,0))) (gL:cur.size=cap*i.size) (j0:∀ (j:Nat) (u:I) (v:Value),cells[j]?=some u→cur[j]?=some v→u.plain=true∧v.oneCell'=true∧Rel J S w u v)
  (hh:∀ o,¬ S b o)
  {ar cO m c:Nat} {new:List I} {news:List Value} (hnew:c7 J S w new news) (bz:∀ j x,news[j]?=some x→w.cell? ⟨ar,cO+j,none⟩=some x) (c2:new.length=m*i.size) (dL:len+m≤cap) :
  ∃ x w',(Builtin.append_ #[t,t] ty #[.slice (some ⟨b,0,none⟩) len cap,.slice (some ⟨ar,cO,none⟩) m c]).run P w=.ok x w'∧a3 B U J S w H (.ay (cells++new) (len+m) (.uniq i.size)) x w':=by
 classical
 have eQ:news.length=m*i.size:=hnew.len ▸ c2;have jK:(len+m)*i.size≤cap*i.size:=tP _ dL;rw [tJ] at jK;have eu:∀ u∈news,u.oneCell'=true:=fun u hu=>by
  obtain ⟨j,aw⟩:=tV.1 hu;have aU:=(ss.1 aw).1;exact (hnew.rel j _ u (sI (hnew.len ▸ aU)) aw).2.1
 have aj:=AB w t ty e i ax hi b len cap cur ce hg ⟨ar,cO,none⟩ m c news eQ (fun j x h=>by rw [add_lit];exact bz j x h) eu dL (by rw [gL];omega)
 let cur':Array Value:=(cur.toList.take (len*i.size)++news++cur.toList.drop (len*i.size+news.length)).toArray
 have nq:∀ br o,br≠b→(w.setRow b cur').cell? ⟨br,o,none⟩=w.cell? ⟨br,o,none⟩:=fun br o h=>by
  unfold World.cell?;simp only [setRow_other w b br cur' h]
 let az:Nat→Option aI:=fun br=>if br=b then some .res else U br
 have kL:(w.setRow b cur').heap.size=w.heap.size:=by simp [World.setRow]
 have aA:bk U S w az S (w.setRow b cur'):=by
  refine ⟨rfl,rfl,rfl,by omega,fun br ag aN=>setRow_other w b br cur' (fun e=>by subst e;rw [bD] at aN;cases aN),fun br o ai=>⟨ai,nq br o (fun e=>hh o (e ▸ ai))⟩,fun _ _ ai=>.inl ai,fun br ag=>?_⟩;by_cases h:br=b
  ·subst h;exact .inl (by simp [bD])
  ·simp only [az,h,if_false] at ag;exact .inl ag
 refine ⟨_,_,aj,az,J,S,Ext.refl J,aA,ah.frame aA (fun br l' ag ak=>?_) (fun br o ai=>?_) (fun br l' ag=>?_),.cN _ _ _ _ _ _,.inr ⟨by simp [az],rfl,dL,kY,bR,by rw [sA,ik,c2,tJ],⟨cur',ce,setRow_heap w b cur cur' ce (0,0) hg,?_,fun j u v hu ae=>?_⟩,hh⟩⟩
 ·have bO:br≠b:=fun e=>by
   subst e;rw [bD] at ag;cases ag;rcases ak with ⟨id,h⟩ | ⟨id,j,h⟩
   ·exact cc _ h
   ·exact cq _ _ h
  exact ⟨by simp [az,bO,ag],setRow_other w b br cur' bO,fun _ h=>h⟩
 ·obtain ⟨v,ae⟩:=ah.ch br o ai;exact ⟨v,(nq br o (fun e=>hh o (e ▸ ai))).trans ae⟩
 ·rw [kL];by_cases h:br=b
  ·subst h;exact ah.base _ l bD
  ·simp only [az,h,if_false] at ag;exact ah.base br l' ag
 ·have ad:cur.toList.length=cap*i.size:=by simp [gL]
  show (List.toArray _).size=_;rw [uh,sA,sA,ta,uq,ad,eQ,tK (by omega)];omega
 ·have ae:(cur.toList.take (len*i.size)++news++cur.toList.drop (len*i.size+news.length))[j]?=some v:=by simpa [cur'] using ae
  have ad:cur.toList.length=cap*i.size:=by simp [gL]
  rw [kb _ _ _ _ (by rw [ad];omega)] at ae;by_cases aw:j<cells.length
  ·rw [sR aw] at hu;rw [if_neg (by omega)] at ae;obtain ⟨bc,bn,bu⟩:=j0 j u v hu (by simpa using ae);exact ⟨bc,bn,bu.mono (Ext.refl J) aA.set⟩
  ·rw [sZ (by omega)] at hu;have nw:=(ss.1 hu).1;rw [if_pos ⟨by omega,by rw [eQ,←c2];omega⟩] at ae;rw [ik] at hu;obtain ⟨bc,bn,bu⟩:=hnew.rel _ u v hu ae;exact ⟨bc,bn,bu.mono (Ext.refl J) aA.set⟩
theorem BB (ah:aL B U J S w H) (ax:P.underlying t=some (.slice e)) (hi:P.info? e=some i) (bR:0<i.size) {l:aI} (cc:∀ id,l≠.obj id) (cq:∀ id j,l≠.cell id j)
  {cells:List I} {len b k cap:Nat} {cur:Array Value} {ce:TypeId} {f:Nat→Value} (bD:U b=some l) (kY:cap≤maxLen) (ik:cells.length=len*i.size)
  (hg:w.heap[b]?=some (.cells cur ce (0,0))) (gL:cur.size=k+cap*i.size)
  (h:∀ (j:Nat) (u:I),cells[j]?=some u→S b (k+j)∧w.cell? ⟨b,k+j,none⟩=some (f j)∧u.plain=true∧(f j).oneCell'=true)
  (aj:∀ (j:Nat) (u:I),cells[j]?=some u→Rel J S w u (f j)) (hh:∀ o,k+cells.length≤o→¬ S b o)
  {ar cO m c:Nat} {new:List I} {news:List Value} (hnew:c7 J S w new news) (bz:∀ j x,news[j]?=some x→w.cell? ⟨ar,cO+j,none⟩=some x) (c2:new.length=m*i.size) (dL:len+m≤cap) :
  ∃ x w',(Builtin.append_ #[t,t] ty #[.slice (some ⟨b,k,none⟩) len cap,.slice (some ⟨ar,cO,none⟩) m c]).run P w=.ok x w'∧a3 B U J S w H (.ay (cells++new) (len+m) (.own i.size)) x w':=by
 classical
 have eQ:news.length=m*i.size:=hnew.len ▸ c2;have jK:(len+m)*i.size≤cap*i.size:=tP _ dL;rw [tJ] at jK;have eu:∀ u∈news,u.oneCell'=true:=fun u hu=>by
  obtain ⟨j,aw⟩:=tV.1 hu;have aU:=(ss.1 aw).1;exact (hnew.rel j _ u (sI (hnew.len ▸ aU)) aw).2.1
 have dQ:=EG w t ty e i ax hi b k len cap cur ce hg ⟨ar,cO,none⟩ m c news eQ (fun j x h=>by rw [add_lit];exact bz j x h) eu dL (by rw [gL];omega)
 let cur':Array Value:=(cur.toList.take (k+len*i.size)++news++cur.toList.drop (k+len*i.size+news.length)).toArray
 have ph:∀ j:Nat,cur'[j]?=if k+len*i.size≤j∧j<k+len*i.size+news.length then news[j-(k+len*i.size)]? else cur[j]?:=fun j=>by
  have ad:cur.toList.length=k+cap*i.size:=by simp [gL]
  have:=kb cur.toList news (k+len*i.size) j (by rw [ad];omega);simpa [cur'] using this
 have kA:∀ j,(w.setRow b cur').cell? ⟨b,j,none⟩=cur'[j]?:=fun j=>cell_of_row _ b j cur' ce (0,0) (setRow_heap w b cur cur' ce (0,0) hg);have fK:∀ j,w.cell? ⟨b,j,none⟩=cur[j]?:=fun j=>cell_of_row _ b j cur ce (0,0) hg;have nq:∀ br o,br≠b→(w.setRow b cur').cell? ⟨br,o,none⟩=w.cell? ⟨br,o,none⟩:=fun br o h=>by
  unfold World.cell?;simp only [setRow_other w b br cur' h]
 let az:Nat→Option aI:=fun br=>if br=b then some .res else U br
 let S':Nat→Nat→Prop:=fun br o=>S br o∨(br=b∧k+cells.length≤o∧o<k+cells.length+new.length)
 have kL:(w.setRow b cur').heap.size=w.heap.size:=by simp [World.setRow]
 have cp:∀ br o,S br o→(w.setRow b cur').cell? ⟨br,o,none⟩=w.cell? ⟨br,o,none⟩:=fun br o ai=>by
  by_cases ag:br=b
  ·subst ag;have aq:o<k+cells.length:=by
    rcases tg o (k+cells.length) with h | h
    ·exact h
    ·exact absurd ai (hh o h)
   rw [kA,ph,if_neg (by omega),fK]
  ·exact nq br o ag
 have aA:bk U S w az S' (w.setRow b cur'):=by
  refine ⟨rfl,rfl,rfl,by omega,fun br ag aN=>setRow_other w b br cur' (fun e=>by subst e;rw [bD] at aN;cases aN),fun br o ai=>⟨.inl ai,cp br o ai⟩,fun br o ai=>?_,fun br ag=>?_⟩
  ·rcases ai with ai | ⟨rfl,_⟩
   ·exact .inl ai
   ·exact .inr (.inl (by simp [bD]))
  ·by_cases h:br=b
   ·subst h;exact .inl (by simp [bD])
   ·simp only [az,h,if_false] at ag;exact .inl ag
 have pF:∀ (j:Nat) (u:I),(cells++new)[j]?=some u→S' b (k+j)∧(w.setRow b cur').cell? ⟨b,k+j,none⟩=some (cur'.getD (k+j) undef)∧u.plain=true∧(cur'.getD (k+j) undef).oneCell'=true∧Rel J S' (w.setRow b cur') u (cur'.getD (k+j) undef):=by
  intro j u hu;rw [kA];by_cases aw:j<cells.length
  ·rw [sR aw] at hu;obtain ⟨ad,af,aG,a8⟩:=h j u hu;rw [fK] at af;(have ao:cur'[k+j]?=some (f j):=by rw [ph,if_neg (by omega),af]);(have aO:cur'.getD (k+j) undef=f j:=by rw [sO,ao];rfl);rw [aO];exact ⟨.inl ad,ao,aG,a8,(aj j u hu).mono (Ext.refl J) aA.set⟩
  ·rw [sZ (by omega)] at hu;have nw:=(ss.1 hu).1;have l5:j-cells.length<news.length:=hnew.len ▸ nw;have ao:cur'[k+j]?=some (news[j-cells.length]):=by
    rw [ph,if_pos ⟨by omega,by omega⟩,←ik,Nat.add_sub_add_left];exact sI l5
   (have aO:cur'.getD (k+j) undef=news[j-cells.length]:=by rw [sO,ao];rfl);obtain ⟨bc,bn,bu⟩:=hnew.rel _ u _ hu (sI l5);rw [aO];exact ⟨.inr ⟨rfl,by omega,by omega⟩,ao,bc,bn,bu.mono (Ext.refl J) aA.set⟩
 refine ⟨_,_,dQ,az,J,S',Ext.refl J,aA,ah.frame aA (fun br l' ag ak=>?_) (fun br o ai=>?_) (fun br l' ag=>?_),
  .ay _ _ _ b k cap (fun j=>cur'.getD (k+j) undef) (by simp) dL (by simp) (fun j u hu=>let ⟨aB,aH,aR,bm,_⟩:=pF j u hu;⟨aB,aH,aR,bm⟩) (fun j u hu=>(pF j u hu).2.2.2.2),
  .inr ⟨by simp [az],trivial,rfl,dL,kY,bR,by rw [sA,ik,c2,tJ],⟨cur',ce,setRow_heap w b cur cur' ce (0,0) hg,?_⟩,fun o aq ai=>?_⟩⟩
 ·have bO:br≠b:=fun e=>by
   subst e;rw [bD] at ag;cases ag;rcases ak with ⟨id,h⟩ | ⟨id,j,h⟩
   ·exact cc _ h
   ·exact cq _ _ h
  refine ⟨by simp [az,bO,ag],setRow_other w b br cur' bO,fun o ai=>?_⟩;rcases ai with ai | ⟨h,_⟩
  ·exact ai
  ·exact absurd h bO
 ·rcases ai with ai | ⟨rfl,ad,af⟩
  ·obtain ⟨v,ae⟩:=ah.ch br o ai;exact ⟨v,(cp br o ai).trans ae⟩
  ·obtain ⟨u,hu⟩:∃ u,(cells++new)[o-k]?=some u:=⟨_,sI (by simp;omega)⟩;have:=(pF (o-k) u hu).2.1;rw [Nat.add_sub_cancel' (by omega)] at this;exact ⟨_,this⟩
 ·rw [kL];by_cases h:br=b
  ·subst h;exact ah.base _ l bD
  ·simp only [az,h,if_false] at ag;exact ah.base br l' ag
 ·have ad:cur.toList.length=k+cap*i.size:=by simp [gL]
  show (List.toArray _).size=k+cap*i.size;rw [uh,sA,sA,ta,uq,ad,eQ,tK (by omega)];omega
 ·simp only [sA] at aq;rcases ai with ai | ⟨_,ad,af⟩
  ·exact hh o (by omega) ai
  ·omega
end grow
theorem x' (ah:aL B U J S w H) {x:I} {cD:Value} {m:Nat} {new:List I} (h:appended H x=some (m,new)) (aj:Rel J S w x cD) (aN:x.cW=true) :
  (new=[]∧∃ a c,cD=.slice a m c)∨∃ b o c vs,cD=.slice (some ⟨b,o,none⟩) m c∧c7 J S w new vs∧(∀ j y,vs[j]?=some y→w.cell? ⟨b,o+j,none⟩=some y):=by
 unfold appended at h;split at h
 ·rename_i hb row hm cV;simp only [Option.some.injEq,Prod.mk.injEq] at h;obtain ⟨rfl,rfl⟩:=h;obtain ⟨a,c,ae⟩:=mz hm aj;rcases xL ah cV aj aN with ⟨ad,n,d_,af⟩ | ⟨b,o,n,d_,vs,af,aG,a8⟩
  ·rw [af] at ae;cases ae;exact .inl ⟨ad,_,_,af⟩
  ·rw [af] at ae;cases ae;exact .inr ⟨b,o,_,vs,af,aG,a8⟩
 ·simp at h
end
end Go.Proofs.YtfakoboiahbhaaaGreat.Ab


namespace Go.Proofs.YtfakoboiahbhaaaGreat.Ab
open Go
section
variable {P:Program} {B:Nat} {J:List Nat} {w:World} {H:List au} {U:Nat→Option aI} {S:Nat→Nat→Prop}
theorem mA (ah:aL B U J S w H) {l:aI} (cc:∀ id,l≠.obj id) (cq:∀ id j,l≠.cell id j) {u:I} {v:Value} (aj:Rel J S w u v) (aq:aW U J S w l u v) :
  ∃ S':Nat→Nat→Prop,(∀ b o,S b o→S' b o)∧(∀ b o,S' b o→S b o∨U b=some l)∧aL B U J S' w H∧Rel J S' w u.view v:=by
 by_cases hu:u.cW=true
 ·exact ⟨S,fun _ _ h=>h,fun _ _ h=>.inl h,ah,aj.view hu⟩
 ·obtain ⟨cells,len,z,rfl⟩:∃ cells len z,u=.ay cells len (.uniq z):=by
   unfold I.cW at hu;split at hu
   ·exact ⟨_,_,_,rfl⟩
   ·simp at hu
  obtain ⟨a6,aJ,aP,cl,r1,_,_⟩:=ke ah aj aq;exact ⟨a6,aJ,aP,ah.settle aJ (fun b o h=>(aP b o h).imp (fun h=>h) fun h=>⟨_,h,cc,cq⟩) cl,r1⟩
theorem ya {u:I} {r:Nat×List I} (h:appended H u=some r):appended H u.view=some r:=by
 cases u <;> try exact h
 ·rename_i cells len c;cases c <;> exact h
 ·simp [appended,lenOf] at h
theorem EH (t dt ty e:TypeId) (i:TypeInfo) (z:Value) (dg:IntKind) (ax:P.underlying t=some (.slice e)) (pS:P.underlying dt=some (.int dg)) (hi:P.info? e=some i) (bp:i.zero=some z)
  (base:Option Addr) (n:Int) (aS:0<n) (ag:n.toNat*i.bytes≤140737488355328) (e0:1≤i.bytes) (bR:0<i.size) :
  (Builtin.append_ #[t,dt] ty #[.slice base 0 0,.int .i64 n]).run P w =
   .ok (.slice (some ⟨w.heap.size,0,none⟩) n.toNat (grownCap w n.toNat 0 e)) (w.drew.alloc (.cells (Builtin.zeroCells z.cells n.toNat++Builtin.zeroCells z.cells (grownCap w n.toNat 0 e-n.toNat)) e)):=by
 have aN:n.toNat≤140737488355328:=sW (uQ _ e0) ag;have bF:IntKind.i64.wrap n=n:=IntWalk.i64_in _ (by omega);have kG:n*(i.bytes:Int)=((n.toNat*i.bytes:Nat):Int):=by rw [v_,uH (by omega)]
 have pe:Builtin.nextslicecap n.toNat 0=n.toNat:=by unfold Builtin.nextslicecap;rw [if_pos (by omega)]
 have ad:¬ n<0:=by omega
 have af:¬ ((281474976710656:Int)<n*i.bytes):=by rw [kG];omega
 have a8:¬ (281474976710656<n.toNat*i.bytes):=by omega
 have bN:¬ (9223372036854775807<max n 0):=by omega
 have bX:n.toNat*i.size≠0:=by have:0<n.toNat:=by omega
                              have:=wa this bR;omega
 have cQ:¬ n≤0:=by omega
 cases base <;> simp [Builtin.append_,run_underlying ax,run_underlying pS,sizeOf,typeInfo,hi,asInt,asIntOf,bF,ad,af,cQ,bN,a8,bX,Builtin.lenOf,Builtin.firstCells,loadCells,loadCellsFrom,pe,zeroValue,bp,grownCap,Question.forced,newRow]
theorem AW (ah:aL B U J S w H) {t dt:TypeId} (ty:TypeId) {u x r:I} {v cD:Value} {cx dO:aI} (cc:∀ id,cx≠.obj id) (cq:∀ id j,cx≠.cell id j) (dh:∀ id,dO≠.obj id) (di:∀ id j,dO≠.cell id j) (bO:cx≠dO)
  (h:fa P H t dt u x=some r) (aj:Rel J S w u v) (aq:aW U J S w cx u v) (en:Rel J S w x cD) (ia:aW U J S w dO x cD) :
  ∃ y w',(Builtin.append_ #[t,dt] ty #[v,cD]).run P w=.ok y w'∧a3 B U J S w H r y w':=by
 obtain ⟨a6,aJ,aP,bY,jV⟩:=mA ah dh di en ia;have de:bk U S w U a6 w:=bk.settle aJ fun b o h=>(aP b o h).imp (fun h=>h) fun h=>⟨_,h⟩;have dv:Rel J a6 w u v:=aj.mono (Ext.refl J) de.set
 have jR:aW U J a6 w cx u v:=aq.mono (Ext.refl J) de.set fun b ag=>⟨ag,rfl,fun o ai=>by
  rcases aP b o ai with h | h
  ·exact h
  ·rw [ag] at h;cases h;exact absurd rfl bO⟩
 suffices ai:∃ y w',(Builtin.append_ #[t,dt] ty #[v,cD]).run P w=.ok y w'∧a3 B U J a6 w H r y w' by
  obtain ⟨y,w',a,b⟩:=ai;exact ⟨y,w',a,a3.after (Ext.refl J) de b⟩
 clear aj aq en ia de aJ aP ah;unfold fa at h;split at h
 ·rename_i e ax;split at h
  ·rename_i sz bytes z ai ag bp;obtain ⟨i,hi,rfl⟩:=mX ai;simp only [hi,sB,Option.some.injEq] at ag;subst ag;obtain ⟨nH,dA,hi',ey,fL⟩:=hU (J:=J) (S:=a6) (w:=w) bp;rw [hi] at hi';cases hi';(have kO:z.length=dA.cells.size:=by simpa using fL.len);split at h
   ·rename_i np;obtain rfl:t=dt:=Nat.eq_of_beq_eq_true np;split at h
    ·rename_i m new eO;replace eO:=ya eO;split at h
     ·rename_i ao;obtain ⟨c2,bR,ew,y3⟩:=ao;(have gI:dA.cells.size=i.size:=by omega);obtain ⟨Gj,Gk⟩:=iw y3;have al:=x' bY eO jV (I.gh (I.dk x));have zero:m=0→∀ base len cap,v=.slice base len cap→len≤cap→(Builtin.append_ #[t,t] ty #[v,cD]).run P w=.ok v w:=by
       rintro rfl base len cap rfl hle;rcases al with ⟨_,jw,c,rfl⟩ | ⟨b,o,c,vs,rfl,_,_⟩
       ·exact AD (P:=P) (w:=w) t ty e i ax hi base len cap hle jw c
       ·exact AD (P:=P) (w:=w) t ty e i ax hi base len cap hle _ c
      have oj:0<m→∃ b o c vs,cD=.slice (some ⟨b,o,none⟩) m c∧c7 J a6 w new vs∧(∀ j y,vs[j]?=some y→w.cell? ⟨b,o+j,none⟩=some y):=by
       intro hm;rcases al with ⟨aS,_,c,rfl⟩ | h
       ·rw [aS] at c2;simp at c2;have:=wa hm bR;omega
       ·exact h
      split at h
      ·rename_i cells len c;split at h
       ·
        split at h
        ·rename_i hm;cases h;have ae:∃ base cap,v=.slice base len cap∧len≤cap:=by
          cases dv with
          | b3=>exact ⟨_,_,rfl,sx _⟩
          | ay _ _ _ b o cap f _ hle=>exact ⟨_,_,rfl,hle⟩
         obtain ⟨base,cap,ae,hle⟩:=ae;exact ⟨v,w,zero hm base len cap ae hle,a3.same bY dv rfl⟩
        ·simp at h
       ·
        have ae:((∃ a,v=.slice a 0 0)∧len=0∧cells=[])∨∃ b o,∃ f:Nat→Value,v=.slice (some ⟨b,o,none⟩) len len ∧
          (∀ (j:Nat) (u:I),cells[j]?=some u→a6 b (o+j)∧w.cell? ⟨b,o+j,none⟩=some (f j)∧u.plain=true∧(f j).oneCell'=true)∧(∀ (j:Nat) (u:I),cells[j]?=some u→Rel J a6 w u (f j)):=by
         cases dv with
         | b3 _ a=>exact .inl ⟨⟨a,rfl⟩,rfl,rfl⟩
         | ay _ _ _ b o cap f ao hle hu bz b'=>exact .inr ⟨b,o,f,by rw [ao rfl],bz,b'⟩
        split at h
        ·rename_i hm;split at h
         ·rename_i aS;cases h;subst aS;rcases ae with ⟨⟨a,ae⟩,_,_⟩ | ⟨b,o,f,ae,_,_⟩
          ·exact ⟨v,w,zero hm _ _ _ ae (sx _),U,J,a6,Ext.refl J,bk.refl _ _ _,bY,ae ▸ .b3 _ _,by rw [ae];cases a <;> first | trivial | exact .inl ⟨rfl,rfl,rfl⟩⟩
          ·exact ⟨v,w,zero hm _ _ _ ae (sx _),U,J,a6,Ext.refl J,bk.refl _ _ _,bY,ae ▸ .cN _ _ _ _ _ _,by rw [ae];exact .inl ⟨rfl,rfl,rfl⟩⟩
         ·cases h;rcases ae with ⟨⟨a,ae⟩,rfl,_⟩ | ⟨b,o,f,ae,_,_⟩
          ·exact ⟨v,w,zero hm _ _ _ ae (sx _),a3.same bY dv rfl⟩
          ·exact ⟨v,w,zero hm _ _ _ ae (sx _),a3.same bY dv rfl⟩
        ·rename_i hm;split at h
         ·rename_i g3;obtain ⟨ev,cF⟩:=g3;cases h;obtain ⟨aV,aX⟩:=iw ev;obtain ⟨ar,cO,d_,vs,rfl,hnew,bz⟩:=oj (by omega);rcases ae with ⟨ae,rfl,rfl⟩ | ⟨b,o,f,ae,fK,me⟩
          ·exact h2 bY ax hi ey gI bR v 0 0 [] (.inl ⟨ae,rfl,rfl,rfl⟩) ⟨rfl,by simp⟩ (by simp) hnew bz c2 (by omega) (by omega) aV aX
          ·refine h2 bY ax hi ey gI bR v len len ((List.range cells.length).map f) (.inr ⟨b,o,ae,fun j y a2=>?_⟩) ⟨by simp,fun j bI bw ca bg=>?_⟩ cF hnew bz c2 (by omega) (by omega) aV aX
           ·simp only [sN,sr] at a2;obtain ⟨k,av,rfl⟩:=a2;(have aw:j<cells.length:=by have:=(ss.1 av).1;simpa using this);simp [aw] at av;subst av;exact (fK j _ (sI aw)).2.1
           ·have aw:=(ss.1 ca).1;simp [aw] at bg;subst bg;exact ⟨(fK j bI ca).2.2.1,(fK j bI ca).2.2.2,me j bI ca⟩
         ·simp at h
       ·
        rename_i cX;split at h
        ·rename_i g3;obtain ⟨rfl,ev⟩:=g3;cases h;obtain ⟨aV,aX⟩:=iw ev;by_cases hm:m=0
         ·have pE:new=[]:=wb (by rw [c2,hm];simp);have ae:∃ base cap,v=.slice base len cap∧len≤cap:=by
           cases dv with
           | b3=>exact ⟨_,_,rfl,sx _⟩
           | ay _ _ _ b o cap f _ hle=>exact ⟨_,_,rfl,hle⟩
          obtain ⟨base,cap,ae,hle⟩:=ae;refine ⟨v,w,zero hm base len cap ae hle,?_⟩;rw [pE,hm,sU,ug];exact iu bY cc cq dv jR
         ·have hm:0<m:=vL hm;obtain ⟨ar,cO,d_,vs,rfl,hnew,bz⟩:=oj hm;cases dv with
          | b3 _ a =>
            obtain ⟨y,w',aB,aH⟩:=h2 (ty:=ty) bY ax hi ey gI bR (.slice a 0 0) 0 0 [] (.inl ⟨⟨a,rfl⟩,rfl,rfl,rfl⟩) (cs:=[]) ⟨rfl,by simp⟩ (by simp) hnew bz c2 hm (by omega) aV aX;exact ⟨y,w',aB,aH.settle⟩
          | ay _ _ _ b o cap f ao hle hu fK me =>
            have gG:c7 J a6 w cells ((List.range cells.length).map f):=⟨by simp,fun j bI bw ca bg=>by
             have aw:=(ss.1 ca).1;simp [aw] at bg;subst bg
             exact ⟨(fK j bI ca).2.2.1,(fK j bI ca).2.2.2,me j bI ca⟩⟩
            have cF:∀ j y,((List.range cells.length).map f)[j]?=some y→w.cell? ⟨b,o+j,none⟩=some y:=fun j y a2=>by
             simp only [sN,sr] at a2;obtain ⟨k,av,rfl⟩:=a2;(have aw:j<cells.length:=by have:=(ss.1 av).1;simpa using this);simp [aw] at av;subst av;exact (fK j _ (sI aw)).2.1
            have yT:cells.length=len*i.size→cap<len+m→_:=fun ak aO =>
             h2 (ty:=ty) (c:=d_) bY ax hi ey gI bR (.slice (some ⟨b,o,none⟩) len cap) len cap _ (.inr ⟨b,o,rfl,cF⟩) gG ak hnew bz c2 hm aO aV aX
            rcases jR with ⟨aS,ad,af⟩ | ⟨bT,b6,_,eI,fR,_,k7,⟨cur,ce,k8,mL⟩,mM⟩
            ·obtain ⟨y,w',aB,aH⟩:=yT (by rw [af,aS];simp) (by omega);exact ⟨y,w',aB,aH.settle⟩
            ·simp only at bT k8 mL mM;by_cases dL:len+m≤cap
             ·exact BB bY ax hi bR cc cq bT fR k7 k8 mL fK me mM hnew bz c2 dL
             ·obtain ⟨y,w',aB,aH⟩:=yT k7 (by omega);exact ⟨y,w',aB,aH.settle⟩
        ·simp at h
       ·
        rename_i cX;split at h
        ·rename_i g3;obtain ⟨rfl,ev⟩:=g3;cases h;obtain ⟨aV,aX⟩:=iw ev;by_cases hm:m=0
         ·have pE:new=[]:=wb (by rw [c2,hm];simp);have ae:∃ base cap,v=.slice base len cap∧len≤cap:=by
           cases dv with
           | b3=>exact ⟨_,_,rfl,sx _⟩
           | ay _ _ _ b o cap f _ hle=>exact ⟨_,_,rfl,hle⟩
           | cN _ _ _ b o cap =>
             refine ⟨_,_,rfl,?_⟩;rcases jR with ⟨aS,ad,af⟩ | ⟨_,_,h,_⟩
             ·omega
             ·exact h
          obtain ⟨base,cap,ae,hle⟩:=ae;refine ⟨v,w,zero hm base len cap ae hle,?_⟩;rw [pE,hm,sU,ug];exact iu bY cc cq dv jR
         ·have hm:0<m:=vL hm;obtain ⟨ar,cO,d_,vs,rfl,hnew,bz⟩:=oj hm;cases dv with
          | b3 _ a =>
            exact h2 (ty:=ty) bY ax hi ey gI bR (.slice a 0 0) 0 0 [] (.inl ⟨⟨a,rfl⟩,rfl,rfl,rfl⟩) (cs:=[]) ⟨rfl,by simp⟩ (by simp) hnew bz c2 hm (by omega) aV aX
          | ay _ _ _ b o cap f ao hle hu fK me=>exact absurd rfl (hu _)
          | cN _ _ _ b o cap =>
            rcases jR with ⟨aS,ad,af⟩ | ⟨bT,b6,eI,fR,_,k7,⟨cur,ce,k8,mL,zM⟩,mM⟩
            ·refine h2 (ty:=ty) bY ax hi ey gI bR (.slice (some ⟨b,o,none⟩) len cap) len cap [] (.inr ⟨b,o,rfl,by simp⟩) ?_ (by rw [af,aS];simp) hnew bz c2 hm (by omega) aV aX;rw [af];exact ⟨rfl,by simp⟩
            ·simp only at bT b6 k8 mM;subst b6;(have jK:cells.length≤cur.size:=by rw [mL,k7];exact tP _ eI);by_cases dL:len+m≤cap
             ·exact BC bY ax hi bR cc cq bT fR k7 k8 mL zM mM hnew bz c2 dL
             ·refine h2 (ty:=ty) bY ax hi ey gI bR (.slice (some ⟨b,0,none⟩) len cap) len cap (cur.toList.take cells.length) (.inr ⟨b,0,rfl,fun j y a2=>?_⟩) ⟨by simp;omega,fun j bI bw ca bg=>?_⟩ k7 hnew bz c2 hm (by omega) aV aX
              ·rw [th] at a2;split at a2
               ·rw [tc,cell_of_row w b _ cur ce (0,0) k8];simpa using a2
               ·simp at a2
              ·rw [th] at bg;split at bg
               ·exact zM j bI bw ca (by simpa using bg)
               ·simp at bg
        ·simp at h
      ·
       rename_i id off len cap om;split at h
       ·rename_i g3;obtain ⟨rfl,rfl,hm⟩:=g3;simp only [sC] at h;obtain ⟨fQ,hold,h⟩:=h;split at h
        ·rename_i ev;cases h;obtain ⟨aV,aX⟩:=iw ev;obtain ⟨ar,cO,d_,vs,rfl,hnew,bz⟩:=oj hm;have fM:fQ.length=cap*i.size:=by
          simp only [rowOf] at hold;split at hold
          ·split at hold
           ·simp at hold;rw [←hold];simp;omega
           ·simp at hold
          ·simp at hold
         have fN:∃ b o,v=.slice (some ⟨b,o,none⟩) cap cap:=by
          cases dv with
          | ref _ _ _ _ _ b cap' _ ao _=>exact ⟨b,off,by rw [ao cap rfl]⟩
         obtain ⟨dC,Gu,gb⟩:=fN;rcases xL bY hold dv rfl with ⟨C7,n,c,ae⟩ | ⟨b,o,n,c,dz,ae,gG,fK⟩
         ·rw [ae] at gb;cases gb;subst C7;exact h2 bY ax hi ey gI bR v _ _ [] (.inl ⟨⟨_,ae⟩,rfl,rfl,rfl⟩) ⟨rfl,by simp⟩ fM hnew bz c2 hm (by omega) aV aX
         ·rw [ae] at gb;simp only [Value.slice.injEq,Option.some.injEq,Addr.mk.injEq] at gb;obtain ⟨⟨rfl,rfl,_⟩,rfl,rfl⟩:=gb;exact h2 bY ax hi ey gI bR v _ _ dz (.inr ⟨b,o,ae,fK⟩) gG fM hnew bz c2 hm (by omega) aV aX
        ·simp at h
       ·simp at h
      ·simp at h
     ·simp at h
    ·simp at h
   ·
    split at h
    ·rename_i dg n pS;split at h
     ·rename_i ao;obtain ⟨aS,ev,bR,ew⟩:=ao;cases h;obtain ⟨aV,aX⟩:=iw ev;have gd:cD=.int .i64 n:=Rel.df jV;have ae:∃ base,v=.slice base 0 0:=by
       cases dv with
       | b3=>exact ⟨_,rfl⟩
       | ay _ _ _ b o cap f ao _=>exact ⟨_,by rw [ao rfl]⟩
      obtain ⟨base,rfl⟩:=ae;subst gd;have aj:=EH (P:=P) (w:=w) t dt ty e i dA dg ax pS hi ey base n aS aV aX bR;have fe:=grownCap_ge w n.toNat 0 e;have aN:n.toNat≤140737488355328:=sW (uQ _ aX) aV;have hle:=grownCap_le_maxLen w n.toNat 0 e (by simp only [maxLen];omega);generalize grownCap w n.toNat 0 e=fb at fe hle aj;have aA:=kq U a6 w;have fO:=(m0 fL (by omega) n.toNat).mono (Ext.refl J) aA.set
      have iV:=nW (mf bY) fO (Builtin.zeroCells dA.cells (fb-n.toNat)).toList e n.toNat fb i.size bR (by rw [iv,ew]) fe hle (by
       rw [←fO.len,iv,ew,tU,size_zeroCells,←kO,ew,←tJ];congr 1;omega)
      refine ⟨_,_,aj,a3.after (Ext.refl J) aA ?_⟩;have he:(((Array.range (n.toNat*z.length)).map (fun i=>dA.cells[i % dA.cells.size]!)).toList++(Builtin.zeroCells dA.cells (fb-n.toNat)).toList).toArray =
        Builtin.zeroCells dA.cells n.toNat++Builtin.zeroCells dA.cells (fb-n.toNat):=by
       apply Array.ext';simp [Builtin.zeroCells,kO]
      rw [he] at iV;exact iV
     ·simp at h
    ·simp at h
  ·simp at h
 ·simp at h
theorem zS (ah:aL B U J S w H) {id:Nat} {l:List I} {b z:Nat} {cur:Array Value} (aE:id<H.length) (aH:U b=some (.obj id)) (bf:∀ o,¬ S b o)
  (bj:∀ (j:Nat) (u:I) (v:Value),l[j]?=some u→cur[j]?=some v→u.cW=true∧v.oneCell'=true∧Rel J S w u v∧aW U J S w (.cell id j) u v)
  {bF:World} {nb cap1 xd:Nat} {jC:Array Value} {e1:TypeId} (aq:bF.os=w.os) (ax:bF.tape=w.tape) (CW:bF.output=w.output) (kL:w.heap.size≤bF.heap.size)
  (hold:∀ ar,ar<w.heap.size→ar≠b→bF.heap[ar]?=w.heap[ar]?) (kG:nb=b∨nb=w.heap.size) (CS:nb<bF.heap.size) (jJ:bF.heap[nb]?=some (.cells jC e1 (0,0)))
  (gH:jC.size=cap1*z) (hm:cap1≤maxLen) (bp:0<z) {new:List I} {news:List Value} (hnew:c7 J S w new news) (dL:l.length+new.length≤jC.size)
  (Cy:∀ j,j<l.length→jC[j]?=cur[j]?) (Cz:∀ (j:Nat) (v:Value),news[j]?=some v→jC[l.length+j]?=some v) (hlen:xd≤cap1) :
  a3 B U J S w (H.set id .dead++[.grow (l++new) (H.length+1) z,.dead]) (.cn H.length (H.length+1) xd z) (.slice (some ⟨nb,0,none⟩) xd cap1) bF:=by
 classical
 let az:Nat→Option aI:=fun ar=>if ar=nb then some (.obj H.length) else if ar=b then none else match U ar with
  | some (.cell i j)=>if i=id then some (.cell H.length j) else some (.cell i j)
  | o=>o
 have aU:∀ ar l',U ar=some l'→ar<w.heap.size:=fun ar l' h=>(ah.base ar l' h).2;have yU:∀ ar l',U ar=some l'→ar≠b→ar≠nb:=fun ar l' h ag e=>by
  subst e;rcases kG with e | e
  ·exact ag e
  ·have:=aU _ _ h;omega
 have hA:∀ ar o,S ar o→ar≠b:=fun ar o ai e=>bf o (e ▸ ai);have bz:∀ ar o,S ar o→bF.cell? ⟨ar,o,none⟩=w.cell? ⟨ar,o,none⟩:=fun ar o ai=>by
  obtain ⟨v,ae⟩:=ah.ch ar o ai;unfold World.cell?;simp only [hold ar (mB ae) (hA ar o ai)]
 have ny:∀ ar,az ar≠none→U ar≠none∨w.heap.size≤ar:=fun ar ag=>by
  by_cases ad:ar=nb
  ·rcases kG with e | e
   ·exact .inl (by rw [ad,e,aH];simp)
   ·exact .inr (by omega)
  ·refine .inl fun aS=>ag ?_;by_cases af:ar=b
   ·simp only [az,ad,af,if_false,if_true];rw [if_neg (by rw [←af];exact ad)]
   ·simp only [az,ad,af,if_false,aS]
 have aA:bk U S w az S bF:=⟨aq,ax,CW,kL,fun ar ag aN=>hold ar ag (fun e=>by subst e;rw [aH] at aN;cases aN),fun ar o ai=>⟨ai,bz ar o ai⟩,fun _ _ h=>.inl h,ny⟩;have l6:(J++[nb,cap1])[H.length]?=some nb:=by rw [←ah.cH];simp
 have l7:(J++[nb,cap1])[H.length+1]?=some cap1:=by rw [←ah.cH];simp
 refine ⟨az,J++[nb,cap1],S,Ext.append J _,aA,⟨by simp [ah.cH],fun bB o h=>?_,fun ar o ai=>?_,fun ar l' ag=>?_,sW ah.c1 kL⟩,.cn _ _ _ _ nb cap1 l6 l7 hlen,trivial⟩
 ·rcases v8 bB H.length with ak | rfl | ak
  ·rw [sR (by simpa using ak)] at h;by_cases cw:bB=id
   ·subst cw;rw [sE ak] at h;cases h;trivial
   ·rw [sG (Ne.symm cw)] at h;refine (ah.obj bB o h).frame (Ext.append J _) aA.set fun ar l' ag dE=>?_;have bO:ar≠b:=fun e=>by
     subst e;rw [aH] at ag;cases ag;rcases dE with h | ⟨j,h⟩
     ·cases h;exact cw rfl
     ·cases h
    refine ⟨?_,hold ar (aU _ _ ag) bO,fun _ h=>h⟩;simp only [az,yU ar l' ag bO,bO,if_false,ag];rcases dE with rfl | ⟨j,rfl⟩
    ·rfl
    ·simp [cw]
  ·rw [sZ (by simp)] at h;simp only [tC,ua,uS,Option.some.injEq] at h;subst h;refine ⟨nb,jC,e1,l6,by simp [az],jJ,by rw [sA];exact dL,?_,fun j u v hu ae=>?_,cap1,l7,hm,bp,gH⟩
   ·rcases kG with rfl | rfl
    ·exact bf
    ·exact mF ah
   ·by_cases aw:j<l.length
    ·rw [sR aw] at hu;rw [Cy j aw] at ae;obtain ⟨bc,bn,bu,b9⟩:=bj j u v hu ae;refine ⟨bc,bn,bu.mono (Ext.append J _) aA.set,b9.mono (Ext.append J _) aA.set fun ar ag=>?_⟩;(have bO:ar≠b:=fun e=>by subst e;rw [aH] at ag;cases ag);refine ⟨?_,hold ar (aU _ _ ag) bO,fun _ h=>h⟩;simp only [az,yU ar _ ag bO,bO,if_false,ag,if_true]
    ·rw [sZ (by omega)] at hu;have nw:=(ss.1 hu).1;have l5:j-l.length<news.length:=hnew.len ▸ nw;have bg:=Cz (j-l.length) _ (sI l5);rw [show l.length+(j-l.length)=j by omega,ae] at bg;obtain ⟨bc,bn,bu⟩:=hnew.rel _ u v hu (by rw [sI l5,bg]);exact ⟨I.gh bc,bn,bu.mono (Ext.append J _) aA.set,aW.b5 bc⟩
  ·rw [sZ (by simp;omega)] at h;rw [tC] at h;obtain ⟨k,av⟩:∃ k,bB-H.length=k+1:=⟨bB-H.length-1,by omega⟩;rw [av] at h;cases k with
   | zero=>simp at h;subst h;trivial
   | succ k=>simp at h
 ·obtain ⟨v,ae⟩:=ah.ch ar o ai;exact ⟨v,(bz ar o ai).trans ae⟩
 ·by_cases ad:ar=nb
  ·rw [ad];refine ⟨?_,CS⟩;rcases kG with e | e
   ·rw [e];exact (ah.base b _ aH).1
   ·rw [e];exact ah.c1
  ·have:∃ cx,U ar=some cx:=by
    rcases ny ar (by rw [ag];simp) with h | h
    ·cases aS:U ar with
     | none=>exact absurd aS h
     | some cx=>exact ⟨cx,rfl⟩
    ·exfalso;by_cases af:ar=b
     ·have:=aU b _ aH;omega
     ·have aS:U ar=none:=by
       cases aS:U ar with
       | none=>rfl
       | some cx=>have:=aU ar _ aS;omega
      simp [az,ad,af,aS] at ag
   obtain ⟨cx,aS⟩:=this;have:=ah.base ar cx aS;exact ⟨this.1,by omega⟩
theorem Ec (ah:aL B U J S w H) {l:aI} (cc:∀ id,l≠.obj id) (cq:∀ id j,l≠.cell id j) {cells:List I} {len z:Nat} (aS:len≠0) {v:Value}
  (aj:Rel J S w (.ay cells len (.uniq z)) v) (aq:aW U J S w l (.ay cells len (.uniq z)) v) :
  a3 B U J S w (H++[.grow cells (H.length+1) z,.dead]) (.cn H.length (H.length+1) len z) v w:=by
 classical
 cases aj with
 | b3 c a=>exact absurd rfl aS
 | ay cells len c b o cap f ao hle hu h fu=>exact absurd rfl (hu z)
 | cN cells len z b o cap =>
   rcases aq with ⟨rfl,_,_⟩ | ⟨ad,aq,af,aG,a8,bN,⟨cur,e,bX,cQ,cU⟩,cY⟩
   ·exact absurd rfl aS
   ·simp only at ad bX cY aq;subst aq
    let az:Nat→Option aI:=fun ar=>if ar=b then some (.obj H.length) else U ar
    have aA:bk U S w az S w:=⟨rfl,rfl,rfl,sx _,fun _ _ _=>rfl,fun _ _ h=>⟨h,rfl⟩,fun _ _ h=>.inl h,fun ar ag=>by
     by_cases dK:ar=b
     ·subst dK;exact .inl (by simp [ad])
     ·simp only [az,dK,if_false] at ag;exact .inl ag⟩
    have bY:aL B az J S w H:=by
     refine ah.frame aA (fun ar l' ag ak=>?_) ah.ch (fun ar l' ag=>?_)
     ·have bO:ar≠b:=fun e=>by
       subst e;rw [ad] at ag;cases ag;rcases ak with ⟨id,h⟩ | ⟨id,j,h⟩
       ·exact cc _ h
       ·exact cq _ _ h
      exact ⟨by simp [az,bO,ag],rfl,fun _ h=>h⟩
     ·by_cases dK:ar=b
      ·subst dK;exact ah.base _ l ad
      ·simp only [az,dK,if_false] at ag;exact ah.base ar l' ag
    have cr:=(bY.push cap (o:=.dead) trivial);(have l6:(J++[b,cap])[H.length]?=some b:=by rw [←ah.cH];simp);(have l7:(J++[b,cap])[H.length+1]?=some cap:=by rw [←ah.cH];simp);refine ⟨az,J++[b,cap],S,Ext.append J _,aA,⟨by simp [ah.cH],fun bB o bK=>?_,ah.ch,bY.base,ah.c1⟩,.cn _ _ _ _ b cap l6 l7 af,trivial⟩;rcases v8 bB H.length with ak | rfl | ak
    ·rw [sR ak] at bK;exact (bY.obj bB o bK).frame (Ext.append J _) (fun b o ai=>⟨ai,rfl⟩) fun b l ag _=>⟨ag,rfl,fun o ai=>ai⟩
    ·rw [sZ (sx _)] at bK;simp only [ua,uS,Option.some.injEq] at bK;subst bK;refine ⟨b,cur,e,l6,by simp [az],bX,by rw [cQ,bN];exact tP _ af,cY,fun j u v hu ae=>?_,cap,l7,aG,a8,cQ⟩;obtain ⟨bc,bn,bu⟩:=cU j u v hu ae;exact ⟨I.gh bc,bn,bu.mono (Ext.append J _) aA.set,aW.b5 bc⟩
    ·rw [sZ (by omega)] at bK;obtain ⟨k,av⟩:∃ k,bB-H.length=k+1:=⟨bB-H.length-1,by omega⟩;rw [av] at bK;cases k with
     | zero=>simp at bK;subst bK;trivial
     | succ k=>simp at bK
theorem E_ (ah:aL B U J S w H) {lo:Nat} {ts:Array TypeId} (ty:TypeId) {u x r:I} {v cD:Value} {cx dO:aI} (cc:∀ id,cx≠.obj id) (cq:∀ id j,cx≠.cell id j) (dh:∀ id,dO≠.obj id) (di:∀ id j,dO≠.cell id j) (bO:cx≠dO)
  {H':List au} (h:il P lo ts H [u,x]=some (r,H')) (aj:Rel J S w u v) (aq:aW U J S w cx u v) (en:Rel J S w x cD) (ia:aW U J S w dO x cD) :
  ∃ y w',(Builtin.append_ ts ty #[v,cD]).run P w=.ok y w'∧a3 B U J S w H' r y w':=by
 unfold il at h;simp only at h;split at h
 ·rename_i t dt g_;obtain rfl:ts=#[t,dt]:=by rw [←uR (xs:=ts),g_]
  split at h
  ·
   rename_i s c n gE;split at h
   ·rename_i cells ja z eO;split at h
    ·simp at h
    ·rename_i aN;simp only [Option.some.injEq,Prod.mk.injEq] at h;obtain ⟨rfl,rfl⟩:=h;obtain ⟨y,w',aV,bq,cj,bJ,bT,b6,eI,fR,mK⟩:=AW ah ty cc cq dh di bO eO aj aq en ia;have q:=Ec eI (l:=.res) (by simp) (by simp) aN fR mK;exact ⟨y,w',aV,a3.after bT b6 q⟩
   ·simp at h
  ·
   rename_i s id gid len z;split at h
   ·split at h
    ·rename_i e l g cX ax aE;split at h
     ·rename_i sz bytes gp m new bR ag bp eO;split at h
      ·rename_i ao;obtain ⟨rfl,rfl,rfl,rfl,ak,c2,aS,hm,ew,y3,ev⟩:=ao;simp only [Option.some.injEq,Prod.mk.injEq] at h;obtain ⟨rfl,rfl⟩:=h;obtain ⟨i,hi,rfl⟩:=mX bR;simp only [hi,sB,Option.some.injEq] at ag;subst ag;obtain ⟨a6,aJ,aP,bY,jV⟩:=mA ah dh di en ia;have de:bk U S w U a6 w:=bk.settle aJ fun b o h=>(aP b o h).imp (fun h=>h) fun h=>⟨_,h⟩;obtain ⟨nH,dA,hi',ey,fL⟩:=hU (J:=J) (S:=a6) (w:=w) bp;rw [hi] at hi';cases hi';(have kO:gp.length=dA.cells.size:=by simpa using fL.len);(have gI:dA.cells.size=i.size:=by omega);obtain ⟨aV,aX⟩:=iw ev;replace eO:=ya eO;have aU:=(ss.1 aE).1;obtain ⟨ar,cO,d_,vs,rfl,hnew,bz⟩:∃ b o c vs,cD=.slice (some ⟨b,o,none⟩) m c∧c7 J a6 w new vs∧(∀ j y,vs[j]?=some y→w.cell? ⟨b,o+j,none⟩=some y):=by
        rcases x' bY eO jV (I.gh (I.dk x)) with ⟨ad,_,c,rfl⟩ | h
        ·rw [ad] at c2;simp at c2;have:=wa hm aS;omega
        ·exact h
       have eQ:vs.length=m*i.size:=hnew.len ▸ c2;obtain ⟨b,cur,ce,aB,aH,aR,bm,bf,bj,cap,c4,dd,dI,fC⟩:=bY.obj id _ aE;cases aj with
       | cn _ _ _ _ dC F8 iO yM hle =>
         rw [aB] at iO;cases iO;rw [c4] at yM;cases yM;have eu:∀ u∈vs,u.oneCell'=true:=fun u hu=>by
          obtain ⟨j,aw⟩:=tV.1 hu;have aU:=(ss.1 aw).1;exact (hnew.rel j _ u (sI (hnew.len ▸ aU)) aw).2.1
         have Cf:b<w.heap.size:=(tp.1 aR).1
         suffices ai:∃ y w',(Builtin.append_ #[t,t] ty #[.slice (some ⟨b,0,none⟩) len cap,.slice (some ⟨ar,cO,none⟩) m d_]).run P w=.ok y w'∧a3 B U J a6 w (H.set id .dead++[.grow (l++new) (H.length+1) i.size,.dead]) (.cn H.length (H.length+1) (len+m) i.size) y w' by
          obtain ⟨y,w',bT,b6⟩:=ai;exact ⟨y,w',bT,a3.after (Ext.refl J) de b6⟩
         by_cases dL:len+m≤cap
         ·have jK:(len+m)*i.size≤cap*i.size:=tP _ dL;rw [tJ] at jK;have aj:=AB (P:=P) w t ty e i ax hi b len cap cur ce aR ⟨ar,cO,none⟩ m d_ vs eQ (fun j x h=>by rw [add_lit];exact bz j x h) eu dL (by rw [fC];omega);(have ad:cur.toList.length=cap*i.size:=by simp [fC]);refine ⟨_,_,aj,?_⟩;refine zS bY aU aH bf bj (nb:=b) (cap1:=cap) (e1:=ce) (hnew:=hnew) (by exact rfl) (by exact rfl) (by exact rfl) (by simp [World.setRow]) (fun br _ e0=>by exact setRow_other w b br _ e0) (.inl rfl) (by simpa [World.setRow] using Cf) (by exact setRow_heap w b cur _ ce (0,0) aR) ?_ dd dI ?_ (fun j aw=>?_) (fun j v aw=>?_) dL
          ·rw [uh,sA,sA,ta,uq,ad,eQ,tK (by omega)];omega
          ·rw [uh,sA,sA,ta,uq,ad,eQ,tK (by omega),ak,c2];omega
          ·have:=kb cur.toList vs (len*i.size) j (by rw [ad];omega);rw [if_neg (by omega)] at this;simpa using this
          ·have l4:=(ss.1 aw).1;have:=kb cur.toList vs (len*i.size) (l.length+j) (by rw [ad];omega);rw [if_pos ⟨by omega,by omega⟩,ak,show len*i.size+j-len*i.size=j by omega,aw] at this;rw [ak];simpa using this
         ·have CK:len+m≤140737488355328:=sW (uQ _ aX) aV;(have et:len+m≤maxLen:=by simp only [maxLen];omega);have cF:len*i.size≤cap*i.size:=tP _ hle;have fM:(cur.toList.take (len*i.size)).length=len*i.size:=by rw [ta];simp;omega
          have aj:=run_append_grow (P:=P) w t ty e i dA ax hi ey ⟨b,0,none⟩ len cap (cur.toList.take (len*i.size)) fM (fun j x h=>by
           rw [th] at h;split at h
           ·rw [add_lit,tc,cell_of_row w b _ cur ce (0,0) aR];simpa using h
           ·simp at h) ⟨ar,cO,none⟩ m d_ vs eQ (fun j x h=>by rw [add_lit];exact bz j x h) (by omega) (by omega) (growslice_fits (by omega) aV)
          have fe:=grownCap_ge w (len+m) cap e;have yP:=grownCap_le_maxLen w (len+m) cap e et;generalize grownCap w (len+m) cap e=fb at fe yP aj;refine ⟨_,_,aj,?_⟩;refine zS bY aU aH bf bj (nb:=w.heap.size) (cap1:=fb) (e1:=e) (hnew:=hnew) (by exact rfl) (by exact rfl) (by exact rfl) (by simp) (fun br e0 _=>by exact heap_alloc_old w.drew _ br e0) (.inr rfl) (by simp) (by exact heap_alloc_new w.drew _) ?_ yP dI ?_ (fun j aw=>?_) (fun j v aw=>?_) fe
          ·simp only [vM,uh,fM,eQ,size_zeroCells,gI];rw [←tJ,←tJ];congr 1;omega
          ·simp only [vM,uh,fM,eQ,size_zeroCells,gI,ak,c2];omega
          ·rw [ak] at aw;rw [wc (by simp only [vM,uh,fM];omega),wc (by simp only [uh,fM];omega)];simp [aw]
          ·have l4:=(ss.1 aw).1;rw [ak,wc (by simp only [vM,uh,fM];omega),Array.getElem?_append_right (by simp only [uh,fM];omega)];simp only [uh,fM,show len*i.size+j-len*i.size=j by omega];simpa using aw
      ·simp at h
     ·simp at h
    ·simp at h
   ·simp at h
  ·simp at h
 ·simp at h
theorem E4 (ah:aL B U J S w H) (lo:Nat) (vs:List I):aL B U J S w (ji lo H vs):=by
 unfold ji;split
 ·rename_i id _ len z _;split
  ·rename_i l g cX aE;split
   ·refine ⟨by simpa using ah.cH,fun bB o aq=>?_,ah.ch,ah.base,ah.c1⟩;by_cases cw:bB=id
    ·subst cw;rw [sE (ss.1 aE).1] at aq;cases aq;obtain ⟨b,cur,e,aB,aH,aR,bm,bf,bj,c4⟩:=ah.obj bB _ aE;refine ⟨b,cur,e,aB,aH,aR,sW (by rw [ta];omega) bm,bf,fun j u v hu ae=>?_,c4⟩;rw [th] at hu;split at hu
     ·exact bj j u v hu ae
     ·simp at hu
    ·rw [sG (Ne.symm cw)] at aq;exact ah.obj bB o aq
   ·exact ah
  ·exact ah
 ·exact ah
theorem E9 (ah:aL B U J S w H) {lo:Nat} {ts:Array TypeId} (ty:TypeId) {u x r:I} {v cD:Value} {cx dO:aI} (cc:∀ id,cx≠.obj id) (cq:∀ id j,cx≠.cell id j) (dh:∀ id,dO≠.obj id) (di:∀ id j,dO≠.cell id j) (bO:cx≠dO)
  {H':List au} (h:jd P lo ts H [u,x]=some (r,H')) (aj:Rel J S w u v) (aq:aW U J S w cx u v) (en:Rel J S w x cD) (ia:aW U J S w dO x cD) :
  ∃ y w',(Builtin.append_ ts ty #[v,cD]).run P w=.ok y w'∧a3 B U J S w H' r y w' :=
 E_ (E4 ah lo [u,x]) ty cc cq dh di bO h aj aq en ia
end
end Go.Proofs.YtfakoboiahbhaaaGreat.Ab


namespace Go.Proofs.YtfakoboiahbhaaaGreat.Ab
open Go
section
variable {P:Program} {B:Nat} {J:List Nat} {w:World} {H:List au} {U:Nat→Option aI} {S:Nat→Nat→Prop}
theorem mr {ts:Array TypeId} (h:iZ P ts[0]?=true):∃ t e,ts[0]?=some t∧P.underlying t=some (.slice e):=by
 unfold iZ at h;split at h
 ·rename_i e he;simp only [sC] at he;obtain ⟨t,ad,af⟩:=he;exact ⟨t,e,ad,af⟩
 ·simp at h
theorem Fj (ah:aL B U J S w H) {ts:Array TypeId} (ty:TypeId) {u r:I} {H':List au} {v:Value} (h:hj P ts H [u]=some (r,H')) (aj:Rel J S w u v) :
  ∃ y,(Builtin.len_ ts ty #[v]).run P w=.ok y w∧a3 B U J S w H' r y w:=by
 simp only [hj] at h;split at h
 ·split at h
  ·rename_i ai;obtain ⟨t,e,ax,he⟩:=mr ai;simp only [Option.some.injEq,Prod.mk.injEq] at h;obtain ⟨rfl,rfl⟩:=h;have ae:∃ a c,v=.slice a _ c:=mz (n:=_) rfl aj;obtain ⟨a,c,rfl⟩:=ae;exact ⟨_,by simp [Builtin.len_,ax,run_underlying he,goInt],a3.same ah (.int _ _) rfl⟩
  ·simp at h
 ·split at h
  ·rename_i ai;obtain ⟨t,e,ax,he⟩:=mr ai;simp only [Option.some.injEq,Prod.mk.injEq] at h;obtain ⟨rfl,rfl⟩:=h;have ae:∃ a c,v=.slice a _ c:=mz (n:=_) rfl aj;obtain ⟨a,c,rfl⟩:=ae;exact ⟨_,by simp [Builtin.len_,ax,run_underlying he,goInt],a3.same ah (.int _ _) rfl⟩
  ·simp at h
 ·split at h
  ·rename_i _ _ ax aE;simp only [sC] at ax;obtain ⟨t,ax,he⟩:=ax;simp only [Option.some.injEq,Prod.mk.injEq] at h;obtain ⟨rfl,rfl⟩:=h;obtain ⟨b,bA,aB,aH,aR,bm,bf,bj⟩:=ah.obj _ _ aE;cases aj with
   | map _ ar k =>
     rw [aB] at k;cases k;exact ⟨_,by simp [Builtin.len_,ax,run_underlying he,goInt,getObj,Sem.run,aR,bm],a3.same ah (.int _ _) rfl⟩
  ·simp at h
 ·split at h
  ·rename_i n e he;simp only [sC] at he;obtain ⟨t,ax,he⟩:=he;simp only [Option.some.injEq,Prod.mk.injEq] at h;obtain ⟨rfl,rfl⟩:=h;exact ⟨_,by simp [Builtin.len_,ax,run_underlying he,goInt],a3.same ah (.int _ _) rfl⟩
  ·simp at h
theorem Fe (ah:aL B U J S w H) {ts:Array TypeId} (ty:TypeId) {u r:I} {H':List au} {v:Value} (h:j2 P ts H [u]=some (r,H')) (aj:Rel J S w u v) :
  ∃ y,(Builtin.cap_ ts ty #[v]).run P w=.ok y w∧a3 B U J S w H' r y w:=by
 unfold j2 at h;split at h
 ·rename_i cs n heq;simp only [List.cons.injEq,and_true] at heq;subst heq;split at h
  ·rename_i ai;obtain ⟨t,e,ax,he⟩:=mr ai;simp only [Option.some.injEq,Prod.mk.injEq] at h;obtain ⟨rfl,rfl⟩:=h;have ae:∃ a,v=.slice a n n:=by
    cases aj with
    | b3=>exact ⟨_,rfl⟩
    | ay _ _ _ b o cap f ao=>exact ⟨_,by rw [ao rfl]⟩
   obtain ⟨a,rfl⟩:=ae;exact ⟨_,by simp [Builtin.cap_,ax,run_underlying he,goInt],a3.same ah (.int _ _) rfl⟩
  ·simp at h
 ·rename_i id off len n sz heq;simp only [List.cons.injEq,and_true] at heq;subst heq;split at h
  ·rename_i ai;obtain ⟨t,e,ax,he⟩:=mr ai;simp only [Option.some.injEq,Prod.mk.injEq] at h;obtain ⟨rfl,rfl⟩:=h;have ae:∃ a,v=.slice a len n:=by
    cases aj with
    | ref _ _ _ _ _ b cap _ ao=>exact ⟨_,by rw [ao n rfl]⟩
   obtain ⟨a,rfl⟩:=ae;exact ⟨_,by simp [Builtin.cap_,ax,run_underlying he,goInt],a3.same ah (.int _ _) rfl⟩
  ·simp at h
 ·simp at h
theorem AM {k:IntKind}:∀ (us:List I) (a n:Int) (vs:List Value) (bC:Nat→aI),kX us a=some n→a' bC U J S w us vs→(vs.foldlM Builtin.min2 (.int k a)).run P w=.ok (.int k n) w
 | [],a,n,vs,bC,h,ae=>by
   cases vs with
   | cons=>exact absurd ae.len (by simp)
   | nil=>simp only [kX,Option.some.injEq] at h;subst h;rfl
 | u::us,a,n,vs,bC,h,ae=>by
   obtain ⟨v1,t1,rfl,r1,_,dF⟩:=ae.gU;unfold kX at h;split at h
   ·rename_i heq;simp at heq
   ·rename_i k' b r _ heq;simp only [List.cons.injEq] at heq;obtain ⟨rfl,rfl⟩:=heq;have e1:=r1.df;subst e1;simp only [List.foldlM_cons,Builtin.min2,pure_bind];exact AM _ _ _ _ _ h dF
   ·cases h
theorem AL {k:IntKind}:∀ (us:List I) (a n:Int) (vs:List Value) (bC:Nat→aI),kW us a=some n→a' bC U J S w us vs→(vs.foldlM Builtin.max2 (.int k a)).run P w=.ok (.int k n) w
 | [],a,n,vs,bC,h,ae=>by
   cases vs with
   | cons=>exact absurd ae.len (by simp)
   | nil=>simp only [kW,Option.some.injEq] at h;subst h;rfl
 | u::us,a,n,vs,bC,h,ae=>by
   obtain ⟨v1,t1,rfl,r1,_,dF⟩:=ae.gU;unfold kW at h;split at h
   ·rename_i heq;simp at heq
   ·rename_i k' b r _ heq;simp only [List.cons.injEq] at heq;obtain ⟨rfl,rfl⟩:=heq;have e1:=r1.df;subst e1;simp only [List.foldlM_cons,Builtin.max2,pure_bind];exact AL _ _ _ _ _ h dF
   ·cases h
theorem Fu {us:List I} {r:I} (ts:Array TypeId) (ty:TypeId) {bC:Nat→aI} {vs:List Value} (h:nU us=some r) (ae:a' bC U J S w us vs) :
  ∃ y,(Builtin.min_ ts ty vs.toArray).run P w=.ok y w∧Rel J S w r y∧r.plain=true:=by
 unfold nU at h;split at h
 ·simp only [sr] at h;obtain ⟨n,h,rfl⟩:=h;obtain ⟨v1,t1,rfl,r1,_,dF⟩:=ae.gU;have e1:=r1.df;subst e1;exact ⟨_,by simp only [Builtin.min_];exact AM _ _ _ _ _ h dF,.int _ _,rfl⟩
 ·simp at h
theorem Ft {us:List I} {r:I} (ts:Array TypeId) (ty:TypeId) {bC:Nat→aI} {vs:List Value} (h:nT us=some r) (ae:a' bC U J S w us vs) :
  ∃ y,(Builtin.max_ ts ty vs.toArray).run P w=.ok y w∧Rel J S w r y∧r.plain=true:=by
 unfold nT at h;split at h
 ·simp only [sr] at h;obtain ⟨n,h,rfl⟩:=h;obtain ⟨v1,t1,rfl,r1,_,dF⟩:=ae.gU;have e1:=r1.df;subst e1;exact ⟨_,by simp only [Builtin.max_];exact AL _ _ _ _ _ h dF,.int _ _,rfl⟩
 ·simp at h
theorem Bj (ah:aL B U J S w H) {lo id off len sz n:Nat} {H':List au} {cs:List I} {vs:List Value} (eG:c7 J S w cs vs) (cF:cs.length=n) (aN:n≤len*sz)
  (h:hd lo H id (fun l=>if off+len*sz≤l.length then some (setCells off cs l) else none)=some H') {b:Nat} (ag:J[id]?=some b) :
  ∃ w',(storeCells ⟨b,off,none⟩ vs).run P w=.ok () w'∧∃ az,bk U S w az S w'∧aL B az J S w' H'∧∃ cur e cur' cP,w.heap[b]?=some (.cells cur e (0,0))∧w'.heap[b]?=some (.cells cur' cP (0,0))∧cur'.size=cur.size:=by
 unfold hd at h;split at h
 ·split at h
  ·rename_i ll aE;simp only [sr] at h;obtain ⟨l',dE,rfl⟩:=h;split at dE
   ·rename_i ao;cases dE;obtain ⟨ar,cur,e,aB,aH,aR,bm,bf,bj⟩:=ah.obj id _ aE;rw [ag] at aB;cases aB;have pR:vs.length=n:=eG.len ▸ cF;have eu:∀ u∈vs,u.oneCell'=true:=fun u hu=>by
     obtain ⟨j,aw⟩:=tV.1 hu;have aU:=(ss.1 aw).1;exact (eG.rel j _ u (sI (eG.len ▸ aU)) aw).2.1
    have cM:=run_storeCells_at P b off e vs 0 cur w aR (by omega) eu;simp only [ug] at cM;obtain ⟨az,aA,cf⟩:=xl (cur':=(cur.toList.take off++vs++cur.toList.drop (off+vs.length)).toArray) (l':=setCells off cs ll) ah aE ag aH aR bf .res (by simp) (by simp)
     (by simp [mU];omega) 0 (fun j bI bw hu ae=>by
      rw [oe _ _ _ _ (by omega)] at hu;(have ae:(cur.toList.take off++vs++cur.toList.drop (off+vs.length))[j]?=some bw:=by simpa using ae);rw [kb cur.toList vs off j (by have Ck:cur.toList.length=cur.size:=tU;omega)] at ae;rw [eG.len] at hu;split at hu
      ·rename_i aw;rw [if_pos aw] at ae;obtain ⟨bc,bn,bu⟩:=eG.rel _ bI bw hu ae;exact ⟨I.gh bc,bn,bu,.inl bc⟩
      ·rename_i aw;rw [if_neg aw] at ae;obtain ⟨d1,d0,d2,d3⟩:=bj j bI bw hu (by simpa using ae)
       exact ⟨d1,d0,d2,.inr (.inl d3)⟩)
    exact ⟨_,cM,az,aA,cf,cur,e,_,e,aR,setRow_heap w b cur _ e (0,0) aR,by have Ck:cur.toList.length=cur.size:=tU;simp;omega⟩
   ·simp at dE
  ·simp at h
 ·simp at h
theorem Bi (ah:aL B U J S w H) {lo id off len sz n:Nat} {H':List au} {cs:List I} {vs:List Value} (eG:c7 J S w cs vs) (cF:cs.length=n) (aN:n≤len*sz)
  (h:hd lo H id (fun l=>if off+len*sz≤l.length then some (setCells off cs l) else none)=some H') {b:Nat} (ag:J[id]?=some b) :
  ∃ w',(storeCells ⟨b,off,none⟩ vs).run P w=.ok () w'∧∃ az,bk U S w az S w'∧aL B az J S w' H':=by
 obtain ⟨w',ad,az,af,aG,_⟩:=Bj (P:=P) ah eG cF aN h ag;exact ⟨w',ad,az,af,aG⟩
theorem FX (ah:aL B U J S w H) {lo id off len sz n:Nat} {H':List au} {cs:List I} {vs:List Value} (eG:c7 J S w cs vs) (cF:cs.length=n) (aN:n≤len*sz)
  (h:hf lo H id (fun l=>if off+len*sz≤l.length then some (setCells off cs l) else none)=some H') {b:Nat} (ag:J[id]?=some b) :
  ∃ w',(storeCells ⟨b,off,none⟩ vs).run P w=.ok () w'∧∃ az,bk U S w az S w'∧aL B az J S w' H':=by
 unfold hf at h;split at h
 ·rename_i bG;split at h
  ·rename_i ll aE;exact Bi (P:=P) (lo:=lo) ah eG cF aN (by unfold hd;rw [if_pos bG,aE];exact h) ag
  ·rename_i ll g z aE;simp only [sr] at h;obtain ⟨l',dE,rfl⟩:=h;have aU:=(ss.1 aE).1;obtain ⟨dC,cur,e,aB,aH,aR,bm,bf,bj,cap,c4,dd,dI,fC⟩:=ah.obj id _ aE;rw [ag] at aB;cases aB
   obtain ⟨w',aV,az,aX,cB,BS,fY,jC,e1,dU,mO,xq⟩:=Bj (P:=P) (lo:=lo) (id:=id) (H':=(H.set id (.cells ll)).set id (.cells l')) (ah.ot aE) eG cF aN (by
    unfold hd;rw [if_pos bG,sE aU];exact congrArg (Option.map _) dE) ag
   rw [aR] at dU;cases dU;have aO:=cB.xw (g:=g) (z:=z) (by rw [sE (by simpa using aU)]) ag c4 dd dI mO (by rw [xq,fC]);rw [td,td] at aO;exact ⟨w',aV,az,aX,aO⟩
  ·simp at h
 ·simp at h
theorem Fg (ah:aL B U J S w H) {lo:Nat} {ts:Array TypeId} (ty:TypeId) {u x r:I} {H':List au} {v cD:Value} {dO:aI} (dh:∀ id,dO≠.obj id) (di:∀ id j,dO≠.cell id j)
  (h:j3 P lo ts H [u,x]=some (r,H')) (aj:Rel J S w u v) (en:Rel J S w x cD) (ia:aW U J S w dO x cD) :
  ∃ y w',(Builtin.copy_ ts ty #[v,cD]).run P w=.ok y w'∧a3 B U J S w H' r y w':=by
 obtain ⟨a6,aJ,aP,bY,jV⟩:=mA ah dh di en ia;have de:bk U S w U a6 w:=bk.settle aJ fun b o h=>(aP b o h).imp (fun h=>h) fun h=>⟨_,h⟩;unfold j3 at h;split at h
 ·rename_i id off len cap sz ow heq;simp only [List.cons.injEq,and_true] at heq;obtain ⟨rfl,rfl⟩:=heq;split at h
  ·rename_i e he;simp only [sC] at he;obtain ⟨t,ax,he⟩:=he;split at h
   ·rename_i s m row ai hm cV;split at h
    ·rename_i ao;obtain ⟨rfl,C6⟩:=ao;simp only [sr] at h;obtain ⟨a4,hw,h⟩:=h;simp only [Prod.mk.injEq] at h;obtain ⟨rfl,rfl⟩:=h;have CP:lenOf x.view=some m:=by
      cases x <;> try exact hm
      ·rename_i c;cases c <;> exact hm
      ·simp [lenOf] at hm
     have nD:rowOf H x.view=some row:=by
      cases x <;> try exact cV
      ·rename_i c;cases c <;> exact cV
      ·simp [rowOf] at cV
     have ib:=I.gh (I.dk x);cases aj with
     | ref _ _ _ _ _ b cap' ag Ci hle =>
       obtain ⟨a,c,gd⟩:=mz CP jV;have C9:∃ vs,c7 J a6 w row vs∧∀ n,n≤m→(Builtin.firstCells s n cD).run P w=.ok (vs.take (n*s)).toArray w:=by
        rcases xL bY nD jV ib with ⟨aS,n,d_,ae⟩ | ⟨cL,bS,n,d_,vs,ae,gG,bz⟩
        ·refine ⟨[],⟨by simp [aS],by simp [aS]⟩,fun ja aN=>?_⟩;(have Gg:m=0:=by rw [ae] at gd;cases gd;rfl);rw [ae];(obtain rfl:ja=0:=by omega);cases n <;> simp [Builtin.firstCells,loadCells,loadCellsFrom]
        ·refine ⟨vs,gG,fun ja aN=>?_⟩;rw [ae] at gd ⊢;cases gd;have pR:vs.length=m*s:=gG.len ▸ C6;have CJ:ja*s≤m*s:=tP _ aN
         exact run_firstCells_some (P:=P) w s ja ⟨cL,bS,none⟩ m c (vs.take (ja*s)) (by simp;omega) (fun j y a2=>by
          rw [th] at a2;split at a2
          ·rw [add_lit];exact bz j y a2
          ·simp at a2)
       obtain ⟨vs,gG,Ct⟩:=C9;have Gh:min m len*s≤m*s:=tP _ (Nat.min_le_left _ _)
       have Cn:c7 J a6 w (row.take (min m len*s)) (vs.take (min m len*s)):=⟨by simp [gG.len],fun j bI bw ca bg=>by
        rw [th] at ca bg;split at ca
        ·rename_i aw;rw [if_pos aw] at bg;exact gG.rel j bI bw ca bg
        ·simp at ca⟩
       obtain ⟨w',cM,az,aA,cf⟩:=Bi (P:=P) (n:=min m len*s) bY Cn (by simp;omega) (tP _ (Nat.min_le_right _ _)) hw ag;refine ⟨.int .i64 (min m len:Nat),w',?_,az,J,a6,Ext.refl J,de.trans aA,cf,.int _ _,aW.b5 rfl⟩;subst gd;have aQ:=Ct (min m len) (Nat.min_le_left _ _);simp only [Builtin.copy_,ax,List.getElem?_toArray,uS,List.getElem?_cons_succ,Sem.run_bind,run_underlying he,Result.andThen_ok,Builtin.lenOf,Sem.run_pure,run_sizeOf ai];rw [show Nat.min m len=min m len from rfl,aQ];simp [cM,goInt]
    ·simp at h
   ·simp at h
  ·simp at h
 ·simp at h
theorem Ff (ah:aL B U J S w H) {lo:Nat} {ts:Array TypeId} (ty:TypeId) {u r:I} {H':List au} {v:Value} (h:k1 P lo ts H [u]=some (r,H')) (aj:Rel J S w u v) :
  ∃ y w',(Builtin.clear_ ts ty #[v]).run P w=.ok y w'∧a3 B U J S w H' r y w':=by
 have done:∀ {a4:List au},aL B U J S w a4→a3 B U J S w a4 (.tuple []) (.tuple #[]) w:=fun cr=>a3.same cr (.tuple [] #[] rfl (by simp) (by simp)) rfl;unfold k1 at h;split at h
 ·rename_i id off len cap sz heq;simp only [List.cons.injEq,and_true] at heq;subst heq;split at h
  ·rename_i e he;simp only [sC] at he;obtain ⟨t,ax,he⟩:=he;split at h
   ·rename_i s z ai bp;split at h
    ·rename_i ao;obtain ⟨rfl,ew,bR⟩:=ao;simp only [sr,Prod.mk.injEq] at h;obtain ⟨a4,hw,rfl,rfl⟩:=h;obtain ⟨i,dA,hi,ey,fL⟩:=hU (J:=J) (S:=S) (w:=w) bp;have fO:=m0 fL (by omega) len;cases aj with
     | ref _ _ _ _ _ b cap' ag Ci hle =>
       obtain ⟨w',cM,az,aA,cf⟩:=FX (P:=P) (n:=len*s) ah fO (by rw [iv,ew]) (sx _) hw ag;(have kO:z.length=dA.cells.size:=by simpa using fL.len);have heq:(Builtin.zeroCells dA.cells len).toList=((Array.range (len*z.length)).map (fun i=>dA.cells[i % dA.cells.size]!)).toList:=by
        simp [Builtin.zeroCells,kO]
       rw [←heq] at cM;cases len with
       | zero =>
         have ml:w'=w:=by
          (have aS:(Builtin.zeroCells dA.cells 0).toList=[]:=by simp [Builtin.zeroCells]);rw [aS] at cM;simp [storeCells] at cM;exact cM.symm
         subst ml;refine ⟨.tuple #[],w',by simp [Builtin.clear_,ax,run_underlying he],az,J,S,Ext.refl J,aA,cf,.tuple [] #[] rfl (by simp) (by simp),aW.b5 rfl⟩
       | succ n =>
         refine ⟨.tuple #[],w',?_,az,J,S,Ext.refl J,aA,cf,.tuple [] #[] rfl (by simp) (by simp),aW.b5 rfl⟩;simp [Builtin.clear_,ax,run_underlying he,ka hi ey,cM]
    ·simp at h
   ·simp at h
  ·simp at h
 ·rename_i c heq;simp only [List.cons.injEq,and_true] at heq;subst heq;split at h
  ·rename_i ai;obtain ⟨t,e,ax,he⟩:=mr ai;simp only [Option.some.injEq,Prod.mk.injEq] at h;obtain ⟨rfl,rfl⟩:=h;have ae:∃ a c,v=.slice a 0 c:=mz (n:=0) rfl aj;obtain ⟨a,c,rfl⟩:=ae;refine ⟨.tuple #[],w,?_,done ah⟩;cases a <;> simp [Builtin.clear_,ax,run_underlying he]
  ·simp at h
 ·simp at h
theorem yz (off:Nat):∀ (xs:List Value) (k:Nat) (cells:Array Value) (j:Nat),off+k+xs.length≤cells.size →
  ((xs.zipIdx k).foldl (fun cs (x:Value×Nat)=>cs.setIfInBounds (off+x.2) x.1) cells)[j]?=if off+k≤j∧j<off+k+xs.length then xs[j-(off+k)]? else cells[j]?
 | [],k,cells,j,_=>by simp;omega
 | x::xs,k,cells,j,h=>by
   simp only [sP] at h;simp only [List.zipIdx_cons,List.foldl_cons];rw [yz off xs (k+1) _ j (by simp;omega)];by_cases ad:j=off+k
   ·subst ad;rw [if_neg (by omega),if_pos (by simp)];simp [show off+k<cells.size by omega]
   ·by_cases af:off+(k+1)≤j∧j<off+(k+1)+xs.length
    ·rw [if_pos af,if_pos (by simp;omega)];obtain ⟨m,rfl⟩:∃ m,j=off+(k+1)+m:=⟨j-(off+(k+1)),by omega⟩;rw [show off+(k+1)+m-(off+(k+1))=m by omega,show off+(k+1)+m-(off+k)=m+1 by omega];simp
    ·rw [if_neg af,if_neg (by simp;omega),Array.getElem?_setIfInBounds_ne (by omega)]
theorem D_ {u:I} {v:Value} {vc:List I} (ao:u.cells=some vc) (aj:Rel J S w u v) (aC:u.plain=true):c7 J S w vc v.cells.toList:=by
 have single:vc=[u]→v.cells=#[v]→v.oneCell'=true→c7 J S w vc v.cells.toList:=by
  intro ad af aG;subst ad;rw [af];refine ⟨rfl,fun j bI bw hu ae=>?_⟩;cases j with
  | zero=>simp at hu ae;subst hu ae;exact ⟨aC,aG,aj⟩
  | succ j=>simp at hu
 cases aj with
 | agg as vs h p one r =>
   simp [I.cells] at ao;subst ao;exact ⟨by simpa [Value.cells] using h.symm,fun j bI bw hu ae=>⟨p bI (sY hu),one bw (sY ae),r j bI bw hu (by simpa [Value.cells] using ae)⟩⟩
 | junk v=>simp [I.cells] at ao
 | tuple as vs h p r=>simp [I.cells] at ao
 | raw=>simp [I.cells] at ao
 | _=>simp [I.cells] at ao;exact single ao.symm rfl rfl
theorem nm {place:Nat→Option (Nat×Nat)}:∀ (parts:List (Nat×I)) (parts':List (Nat×Value)) (cs da:List I) (vs:Array Value),
  parts.map (·.1)=parts'.map (·.1)→(∀ (j:Nat) (x:Nat×I) (y:Nat×Value),parts[j]?=some x→parts'[j]?=some y→x.2.plain=true∧Rel J S w x.2 y.2) →
  gy place cs parts=some da→c7 J S w cs vs.toList→∃ dz,Instr.fill place vs parts'=some dz∧c7 J S w da dz.toList
 | [],parts',cs,da,vs,hi,_,h,ao=>by
   cases parts' with
   | nil=>simp [gy] at h;subst h;exact ⟨vs,rfl,ao⟩
   | cons=>simp at hi
 | (i,u)::parts,parts',cs,da,vs,hi,b',h,ao=>by
   cases parts' with
   | nil=>simp at hi
   | cons y parts' =>
     obtain ⟨nH,v⟩:=y;simp only [List.map_cons,List.cons.injEq] at hi;obtain ⟨rfl,hi⟩:=hi;obtain ⟨aC,aj⟩:=b' 0 (i,u) (i,v) rfl rfl;simp only [gy] at h;split at h
     ·rename_i off size ib;split at h
      ·rename_i vc fN;split at h
       ·rename_i g3;obtain ⟨bR,hle⟩:=g3;have eG:=D_ fN aj aC;(have pR:v.cells.size=size:=by have:=eG.len;simp at this;omega);(have cF:vs.size=cs.length:=by have:=ao.len;simp at this;omega);have bx:c7 J S w (setCells off vc cs) (v.cells.zipIdx.foldl (fun cs (x:Value×Nat)=>cs.setIfInBounds (off+x.2) x.1) vs).toList:=by
         refine ⟨?_,fun j bI bw hu ae=>?_⟩
         ·rw [mU];have pk:∀ (l:List (Value×Nat)) (a:Array Value),(l.foldl (fun cs (x:Value×Nat)=>cs.setIfInBounds (off+x.2) x.1) a).size=a.size:=by
           intro l;induction l with
           | nil=>intro a;rfl
           | cons x l bb=>intro a;simp [bb]
          have:=pk v.cells.zipIdx.toList vs;simp only [tU];rw [←cF,←this,←wh]
         ·rw [oe _ _ _ _ (by omega)] at hu;have aO:=yz off v.cells.toList 0 vs j (by simp;omega);(have dF:(v.cells.zipIdx.foldl (fun cs (x:Value×Nat)=>cs.setIfInBounds (off+x.2) x.1) vs)[j]?=some bw:=by simpa using ae);rw [←wh,Array.toList_zipIdx] at dF;rw [aO] at dF;simp only [ug,tU,pR] at dF;rw [bR] at hu;split at hu
          ·rename_i aw;rw [if_pos aw] at dF;exact eG.rel _ bI bw hu dF
          ·rename_i aw;rw [if_neg aw] at dF;exact ao.rel j bI bw hu (by simpa using dF)
        obtain ⟨dz,ad,af⟩:=nm parts parts' (setCells off vc cs) da _ hi (fun j x y al a2=>b' (j+1) x y (by simpa using al) (by simpa using a2)) h bx;exact ⟨dz,by simp only [Instr.fill,ib];rw [if_neg (by simp;omega)];exact ad,af⟩
       ·simp at h
      ·simp at h
     ·simp at h
end
end Go.Proofs.YtfakoboiahbhaaaGreat.Ab


namespace Go.Proofs.YtfakoboiahbhaaaGreat.Ab
open Go
section
variable {P:Program} {B:Nat} {J:List Nat} {w:World} {H:List au} {U:Nat→Option aI} {S:Nat→Nat→Prop}
theorem AK {α β:Type} (g:α→Sem β) (h:α→β):∀ (l:List α),(∀ x∈l,∀ w,(g x).run P w=.ok (h x) w)→∀ w,(l.mapM g).run P w=.ok (l.map h) w
 | [],_,w=>by simp
 | x::l,al,w=>by
   rw [List.mapM_cons];simp [al x (by simp),AK g h l (fun y a2=>al y (by simp [a2]))]
theorem Fb {t:TypeId} {parts:List (Nat×I)} {parts':Array (Nat×Value)} {r:I} (h:lz P t parts=some r) (hi:parts.map (·.1)=parts'.toList.map (·.1))
  (b':∀ (j:Nat) (x:Nat×I) (y:Nat×Value),parts[j]?=some x→parts'.toList[j]?=some y→x.2.plain=true∧Rel J S w x.2 y.2) :
  ∃ v,(Instr.build t parts').run P w=.ok v w∧Rel J S w r v∧r.plain=true:=by
 have fin:∀ {da:List I} {dz:Array Value},c7 J S w da dz.toList→Rel J S w (.agg da) (.agg dz):=fun {da dz} h =>
  .agg _ _ (by simpa using h.len.symm) (fun u hu=>by
   obtain ⟨j,aw⟩:=tV.1 hu;have aU:=(ss.1 aw).1;exact (h.rel j u _ aw (sI (h.len ▸ aU))).1) (fun v ae=>by
   obtain ⟨j,aw⟩:=tV.1 ae;have aU:=(ss.1 aw).1
   exact (h.rel j _ v (sI (h.len ▸ aU)) aw).2.1) (fun j u v hu ae=>(h.rel j u v hu (by simpa using ae)).2.2)
 unfold lz at h;split at h
 ·rename_i z bH bp a1;obtain ⟨i,dA,hi',ey,fL⟩:=hU (J:=J) (S:=S) (w:=w) bp;split at h
  ·rename_i db;simp only [sr] at h;obtain ⟨da,aQ,rfl⟩:=h;obtain ⟨dz,ad,af⟩:=nm parts parts'.toList z da dA.cells hi b' aQ fL;have yE:∀ f∈bH.toList,∃ s,bU P f.type=some s:=fun f aQ=>by
    have:=sS.1 db f aQ;exact Option.isSome_iff_exists.1 this
   have hm:=AK (P:=P) (fun f:Field=>Prod.mk f.offset <$> sizeOf f.type) (fun f:Field=>(f.offset,(bU P f.type).getD 0)) bH.toList (fun f aQ w=>by
    obtain ⟨s,ai⟩:=yE f aQ;simp [run_sizeOf ai,ai]) w
   have ib:(fun (i:Nat)=>(bH.map (fun f:Field=>(f.offset,(bU P f.type).getD 0)))[i]?)=(fun (i:Nat)=>(bH[i]?).bind fun f:Field=>(bU P f.type).map fun s=>(f.offset,s)):=by
    funext i;rw [vF];cases Cs:bH[i]? with
    | none=>rfl
    | some f =>
      obtain ⟨s,ai⟩:=yE f (by simpa using v9 Cs);simp [ai]
   refine ⟨.agg dz,?_,fin af,rfl⟩;rw [←ib] at ad;simp only [vF] at ad;simp [Instr.build,ka hi' ey,run_underlying a1,Array.mapM_eq_mapM_toList,hm,ad]
  ·simp at h
 ·rename_i z n e bp a1;obtain ⟨i,dA,hi',ey,fL⟩:=hU (J:=J) (S:=S) (w:=w) bp;simp only [sC,sr] at h;obtain ⟨s,ai,da,aQ,rfl⟩:=h;obtain ⟨dz,ad,af⟩:=nm parts parts'.toList z da dA.cells hi b' aQ fL;refine ⟨.agg dz,?_,fin af,rfl⟩;simp [Instr.build,ka hi' ey,run_underlying a1,run_sizeOf ai,ad]
 ·simp at h
theorem AX (ah:aL B U J S w H) {t:TypeId} {len:Nat} {parts:List (Nat×I)} {parts':Array (Nat×Value)} {cs:List I} {s:Nat} (h:iG P t len parts=some (cs,s))
  (hi:parts.map (·.1)=parts'.toList.map (·.1))
  (b':∀ (j:Nat) (x:Nat×I) (y:Nat×Value),parts[j]?=some x→parts'.toList[j]?=some y→x.2.plain=true∧Rel J S w x.2 y.2) :
  ∃ b w',(Instr.buildSlice t len parts').run P w=.ok (.slice (some ⟨b,0,none⟩) len len) w'∧a3 B U J S w H (.ay cs len (.uniq s)) (.slice (some ⟨b,0,none⟩) len len) w':=by
 unfold iG at h;split at h
 ·rename_i e a1;split at h
  ·rename_i aF z ai bp;split at h
   ·rename_i ao;obtain ⟨ad,af,aG⟩:=ao;simp only [sr,Prod.mk.injEq] at h;obtain ⟨da,aQ,rfl,rfl⟩:=h;obtain ⟨i,dA,hi',ey,fL⟩:=hU (J:=J) (S:=S) (w:=w) bp;have fO:=m0 fL (by omega) len;(have kO:z.length=dA.cells.size:=by simpa using fL.len);obtain ⟨dz,aV,aX⟩:=nm parts parts'.toList (e5 len z) da ((Array.range (len*z.length)).map (fun i=>dA.cells[i % dA.cells.size]!)) hi b' aQ fO;have pk:∀ (place:Nat→Option (Nat×Nat)) (parts:List (Nat×I)) (a b:List I),gy place a parts=some b→b.length=a.length:=by
     intro place parts
     induction parts with
     | nil=>intro a b h;simp [gy] at h;rw [h]
     | cons x parts bb =>
       intro a b h;obtain ⟨i,u⟩:=x;simp only [gy] at h;split at h
       ·split at h
        ·split at h
         ·rw [bb _ _ h,mU]
         ·simp at h
        ·simp at h
       ·simp at h
    have cF:da.length=len*aF:=by rw [pk _ _ _ _ aQ,iv,af]
    have iV:=nW ah aX [] e len len aF ad cF (sx _) (by
     have:len≤len*aF:=uQ _ ad
     simp only [maxLen];omega) (by rw [←aX.len,cF];simp)
    refine ⟨_,_,?_,iV⟩;simp only [sU,uR];rw [af] at aV;(have lX:¬ (16777216<len*aF):=by omega);by_cases aS:len*aF=0
    ·obtain rfl:len=0:=by
      rcases Nat.mul_eq_zero.1 aS with h | h
      ·exact h
      ·omega
     (have Eh:Instr.fill (fun i=>some (i*aF,aF)) #[] parts'.toList=some dz:=by simpa [show Array.range 0=#[] from rfl] using aV);simp [Instr.buildSlice,run_underlying a1,run_sizeOf ai,show Array.range 0=#[] from rfl,Eh,newRow,newObj,Sem.run,World.alloc_eq]
    ·simp [Instr.buildSlice,run_underlying a1,run_sizeOf ai,aS,lX,ka hi' ey,aV,newRow,newObj,Sem.run,World.alloc_eq]
   ·simp at h
  ·simp at h
 ·simp at h
end
end Go.Proofs.YtfakoboiahbhaaaGreat.Ab
