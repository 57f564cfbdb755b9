
import Derived.RangeFuncLeaves
import Derived.RangeFuncCalls
import Derived.KernelRfl
import Derived.Laws.AppendOwn
import Derived.OrdersIn
import Derived.Below
import Derived.IntWalk
import Derived.Laws.MakeOwn
set_option linter.unusedSimpArgs false
set_option linter.unusedVariables false
set_option linter.unusedSectionVars false

open Array renaming foldl_toList→vS,getD_eq_getD_getElem?→sy,getElem?_append_left→vO,getElem?_eq_getElem→sD,getElem?_eq_some_iff→sW,getElem?_map→vm,length_toList→tE,mem_of_getElem?→vK,size_append→vt,toArray_toList→uC
open Int renaming natCast_mul→vL,toNat_of_nonneg→uj
open List renaming all_eq_true→sC,append_assoc→sj,append_nil→sN,eq_nil_of_length_eq_zero→vN,forIn_cons→vH,getD_eq_getElem?_getD→sG,getElem?_append_left→sA,getElem?_append_right→sL,getElem?_cons_zero→uD,getElem?_drop→sX,getElem?_eq_getElem→sq,getElem?_eq_some_iff→sa,getElem?_map→su,getElem?_set→vk,getElem?_set_ne→si,getElem?_set_self→sg,getElem?_take→sV,length_append→sm,length_cons→sH,length_drop→tV,length_eq_zero_iff→s_,length_set→td,length_take→sR,mem_iff_getElem?→tF,mem_map→ss,mem_of_getElem?→sK,mem_of_mem_drop→vl,mem_of_mem_take→uA,set_set→sQ,size_toArray→tP,take_zero→tf
open Nat renaming add_assoc→tK,add_comm→te,add_mul→tp,add_zero→tU,le_mul_of_pos_right→uB,le_refl→sb,le_trans→sI,lt_or_ge→sU,lt_trichotomy→vJ,min_eq_left→tq,mul_le_mul_right→tA,mul_pos→vM,pos_of_ne_zero→vr,sub_self→tL,zero_add→sP,zero_mul→vo
open Option renaming bind_eq_some_iff→sf,getD_some→uM,map_eq_some_iff→rZ,map_some→sd
namespace Go.Proofs.YtfakoboiahbhaaaGreat.Ab
open Go
inductive iq where
 | shared | full | own (z:Nat) | uniq (z:Nat)
 deriving DecidableEq
inductive I where
 | junk
 | bool (b:Bool)
 | int (k:IntKind) (n:Int)
 | eD
 | ptr (id off:Nat)
 | bU (cells:List I)
 | ay (cells:List I) (len:Nat) (c:iq)
 | ref (id off len:Nat) (cap:Option Nat) (sz:Nat)
 | func (f:FuncId) (first captured:List I)
 | yield (id:Nat)
 | map (id:Nat)
 | agg (cs:List I)
 | tuple (vs:List I)
 | str (s:ByteArray)
 | raw (cells:List I) (len z:Nat)
 | cl (id gid len z:Nat)
 | dq
 deriving Inhabited
structure b5 where
 takes:List Bool:=[]
 mode:Nat:=0
structure c8 where
 bad:Bool:=false
 two:List (Nat×Nat):=[]
 ops:List (List b5):=[]
 h9:List (Nat×List Bool):=[]
 h_:List (Nat×List Bool):=[]
inductive au where
 | dead
 | cells (l:List I)
 | loop (st:LoopState) (cF:Option Code) (fn:FuncId) (tmps:List I) (params:List Nat) (assign body:Code) (jr:c8)
 | map (es:List (Nat×I×I)) (clock:Nat)
 | iter (m since:Nat) (seen:List Nat) (j9:Nat)
 | grow (l:List I) (gid z:Nat)
structure a5 where
 T:List I
 H:List au
inductive cB where
 | normal | exit (id:Nat) | ret
inductive e6 where
 | fn (f:FuncId)
 | yield (l:Nat)
abbrev b6:=e6→List I→List au→Nat→Option (I×List au)
def I.view:I→I
 | .ay c n (.own _)=>.ay c n .shared
 | .ay c n (.uniq _)=>.ay c n .shared
 | .raw _ _ _=>.junk
 | .cl id _ len z=>.ref id 0 len none z
 | v=>v
def I.gT:I→I
 | .ay c n .full=>.ay c n .shared
 | v=>v
def I.cr:I→I
 | .ay c n .full=>.ay c n .shared
 | .agg cs=>.agg (cs.map I.gT)
 | .tuple cs=>.tuple (cs.map I.gT)
 | v=>v
def cq:Nat→I→Bool
 | 0,_=>false
 | d+1,v=>match v with
   | .ay cells _ _=>cells.all (cq d)
   | .bU cells=>cells.all (cq d)
   | .agg cs=>cs.all (cq d)
   | .tuple cs=>cs.all (cq d)
   | .func _ a b=>a.all (cq d) && b.all (cq d)
   | .bool _ | .int _ _ | .str _ | .eD=>true
   | _=>false
def I.plain:I→Bool
 | .ay _ _ (.own _)=>false
 | .ay _ _ (.uniq _)=>false
 | .raw _ _ _=>false
 | .cl _ _ _ _=>false
 | _=>true
def I.cT:I→Bool
 | .ay _ _ (.uniq _)=>false
 | _=>true
def I.settle:I→I
 | .ay c n (.uniq z)=>.ay c n (.own z)
 | v=>v
def I.cells:I→Option (List I)
 | .agg cs=>some cs
 | .junk=>none
 | .tuple _=>none
 | .raw _ _ _=>none
 | v=>some [v]
def ho:Value→I
 | .bool b=>.bool b
 | .int k n=>.int k n
 | .pointer none=>.eD
 | .string s=>.str s
 | .slice none 0 0=>.ay [] 0 .full
 | _=>.junk
noncomputable section
def c5 (T:List I) (t:Nat):I :=
 @List.rec I (fun _=>Nat→I) (fun _=>.junk) (fun h _ a_ n=>@Nat.rec (fun _=>I) h (fun m _=>a_ m) n) T t
def gK (T:List I) (t:Nat) (v:I):List I :=
 @List.rec I (fun _=>Nat→List I) (fun _=>[]) (fun h xR a_ n=>@Nat.rec (fun _=>List I) (v::xR) (fun m _=>h::a_ m) n) T t
theorem fV (T:List I):∀ t,c5 T t=T.getD t .junk:=by
 induction T with
 | nil=>intro t;rfl
 | cons h xR a_=>intro t;cases t with
   | zero=>rfl
   | succ n=>exact a_ n
theorem gL (T:List I) (v:I):∀ t,gK T t v=T.set t v:=by
 induction T with
 | nil=>intro t;rfl
 | cons h xR a_=>intro t;cases t with
   | zero=>rfl
   | succ n=>exact congrArg (h::·) (a_ n)
def aA (T:List I):Operand→I
 | .tmp t=>c5 T t
 | .const v=>ho v
 | .func f=>.func f [] []
 | .global _=>.junk
def fP (T:List I) (t:Nat):I→List I
 | .ay c n (.uniq z)=>gK T t (.ay c n (.own z))
 | _=>T
def rd:List I→List Bool→List Operand→List I×List I
 | T,_,[]=>([],T)
 | T,ts,.tmp t::rest =>
   match ts.headD false with
   | true=>let r:=rd (gK T t .junk) ts.tail rest;(c5 T t::r.1,r.2)
   | false=>let r:=rd (fP T t (c5 T t)) ts.tail rest;((c5 T t).view::r.1,r.2)
 | T,ts,x::rest=>let r:=rd T ts.tail rest;(aA T x::r.1,r.2)
def eT:List Bool→List I→List I
 | b::bs,v::vs=>(match b with | true=>v | false=>.junk)::eT bs vs
 | [],vs=>vs
 | _,[]=>[]
def lH (id:Nat):List (Nat×List Bool)→Option (List Bool)
 | []=>none
 | (i,k)::r=>match Nat.beq i id with | true=>some k | false=>lH id r
def eY (mm:List (Nat×List Bool)) (id:Nat) (s:a5):a5 :=
 match lH id mm with
 | some k=>⟨eT k s.T,s.H⟩
 | none=>s
def opsOf (o:Oper):List Operand :=
 match o.op with
 | .call { callee:=.value f,args,.. }=>f::args.toList
 | .call { args,.. }=>args.toList
 | op=>op.operands.toList
def tmpsOf (xs:List Operand):List Nat:=xs.filterMap fun x=>match x with | .tmp t=>some t | _=>none
def cZ:List Bool→List Operand→List Nat
 | _,[]=>[]
 | ts,.tmp t::rest=>match ts.headD false with
   | true=>t::cZ ts.tail rest
   | false=>cZ ts.tail rest
 | ts,_::rest=>cZ ts.tail rest
def oW (ops:Array Oper) (o:Oper):List Nat:=match o.guard with
 | some (j,_)=>((ops[j]?).bind (·.dst)).toList
 | none=>[]
def e3 (ops:Array Oper) (o:Oper):List Nat:=oW ops o++tmpsOf (opsOf o)
def jv (xs ys:List Nat):Bool:=xs.all fun x=>!(ys.contains x)
def dj (o:Oper) (mode:Nat):Nat:=match o.op with
 | .load _ _=>if mode=0 then 1 else if mode=2 then 2 else if mode=3 then 0 else if mode=5 then 2 else 5
 | .box _ _=>if mode=0 then 6 else 0
 | .alloc _=>6
 | .makeSlice _ _ _=>if mode=0 then 2 else 0
 | .store _ _ _ | .makeMap _ _ | .mapUpdate _ _ _ _ | .lookup _ _ _ _ | .range _ _ | .entry _=>2
 | .move _ | .assign _=>if mode=0 then 0 else 2
 | .call c=>match c.callee with
   | .builtin b=>match b with
     | .append=>if mode=0 then 1 else 2
     | .len | .cap | .min | .max=>1
     | _=>2
   | .value _=>if mode=0 then 3 else if mode=3 then 0 else if mode=4 then 3 else if mode=6 then 3 else 2
   | .invoke _ _=>2
 | _=>0
def calm (o:Oper) (mode:Nat):Bool:=match o.op with
 | .move _ | .assign _=>mode == 0
 | _=>true
def bO (a b:Nat):Bool:=a == 0 || b == 0 || ((a == 1 || a == 3) && (b == 1 || b == 3)) || (a == 1 && b == 5) || (a == 5 && b == 1) || (a == 1 && b == 6)
def kM (bA:Oper) (de:Nat) (bQ:Oper):Bool:=match bA.op,bQ.op with
 | .load _ _,.mapUpdate _ _ _ _=>de == 0
 | _,_=>false
def indep (ops:Array Oper) (bA:Oper) (aB:b5) (bQ:Oper) (aH:b5):Bool :=
 jv bA.dst.toList (e3 ops bQ) && jv bQ.dst.toList (e3 ops bA) && jv bA.dst.toList bQ.dst.toList &&
 jv (cZ aB.takes (opsOf bA)) (e3 ops bQ) && jv (cZ aH.takes (opsOf bQ)) (e3 ops bA) &&
 calm bA aB.mode && calm bQ aH.mode && (bO (dj bA aB.mode) (dj bQ aH.mode) || kM bA aB.mode bQ)
def mv (ms:List Nat) (o:Oper):Nat:=o.after.toList.foldl (fun m e=>if Region.binds .any e then m ||| (ms.getD e.on 0 ||| 1 <<< e.on) else m) 0
def g7:List Oper→List Nat→List Nat
 | [],ms=>ms
 | o::r,ms=>g7 r (ms++[mv ms o])
def zF (ops:Array Oper) (as:List b5) (ms:List Nat):Bool :=
 (List.range ops.size).all fun j=>match ops[j]? with
  | none=>true
  | some c2=>(ms.getD j 0 == mv ms c2) && c2.after.toList.all (fun e=>!Region.binds .any e || Nat.blt e.on j) &&
    (List.range j).all fun i=>match ops[i]? with
     | none=>true
     | some cO=>(ms.getD j 0).testBit i || indep ops cO (as.getD i {}) c2 (as.getD j {})
def m7 (ops:Array Oper) (as:List b5):Bool:=zF ops as (g7 ops.toList [])
def zG (ops:Array Oper) (an:List b5) (ms:List Nat) (p q:Nat):Bool :=
 (List.range ops.size).all fun j=>match ops[j]? with
  | none=>true
  | some c2=>(ms.getD j 0 == mv ms c2) && c2.after.toList.all (fun e=>!Region.binds .any e || Nat.blt e.on j) &&
    (List.range j).all fun i=>match ops[i]? with
     | none=>true
     | some cO=>(ms.getD j 0).testBit i || indep ops cO (an.getD i {}) c2 (an.getD j {}) || (Nat.beq i p && Nat.beq j q)
def m8 (ops:Array Oper) (an:List b5) (p q:Nat):Bool:=zG ops an (g7 ops.toList []) p q
def A8 (id:Nat):List (Nat×Nat)→Option Nat
 | []=>none
 | (i,p)::r=>match Nat.beq i id with | true=>some p | false=>A8 id r
def j_ (A:c8) (id:Nat):Bool→Option Nat
 | true=>A8 id A.two
 | false=>none
def xm (A:c8) (id:Nat) (ops:Array Oper) (draw:Bool):Bool:=match j_ A id draw with
 | some p=>Nat.blt (p+1) ops.size && m8 ops (A.ops.getD id []) p (p+1)
 | none=>!draw || m7 ops (A.ops.getD id [])
def codeOk (A:c8):Code→Bool
 | .region id ops draw=>xm A id ops draw
 | .seq a b=>codeOk A a && codeOk A b
 | .cond _ a b=>codeOk A a && codeOk A b
 | .block _ c=>codeOk A c
 | .loop c=>codeOk A c
 | .scope c=>codeOk A c
 | .rangeFunc _ _ a b=>codeOk A a && codeOk A b
 | _=>true
section
variable (P:Program)
def bS (t:TypeId):Option Nat:=(P.info? t).map (·.size)
def dK (t:TypeId):Bool:=match P.underlying t with | some (.struct _) | some (.array _ _)=>true | _=>false
def zeroCells (t:TypeId):Option (List I):=((P.info? t).bind (·.zero)).bind fun v=>match v.cells.toList.all (·.oneCell') with | true=>some (v.cells.toList.map ho) | false=>none
def jo (op:BinOp) (k:IntKind) (a b:Int):Option I :=
 match op with
 | .add=>some (.int k (k.wrap (a+b)))
 | .sub=>some (.int k (k.wrap (a-b)))
 | .mul=>some (.int k (k.wrap (a*b)))
 | .quo=>if b=0 then none else some (.int k (k.wrap (a.tdiv b)))
 | .rem=>if b=0 then none else some (.int k (a.tmod b))
 | .eql=>some (.bool (a == b))
 | .neq=>some (.bool (a != b))
 | .lss=>some (.bool (decide (a<b)))
 | .leq=>some (.bool (decide (a≤b)))
 | .gtr=>some (.bool (decide (a > b)))
 | .geq=>some (.bool (decide (a≥b)))
 | .and=>some (.int k (k.wrap (BitVec.ofInt k.bits a &&& BitVec.ofInt k.bits b).toNat))
 | .or=>some (.int k (k.wrap (BitVec.ofInt k.bits a ||| BitVec.ofInt k.bits b).toNat))
 | .xor=>some (.int k (k.wrap (BitVec.ofInt k.bits a ^^^ BitVec.ofInt k.bits b).toNat))
 | .andNot=>some (.int k (k.wrap (BitVec.ofInt k.bits a &&& ~~~ (BitVec.ofInt k.bits b)).toNat))
 | _=>none
def hn (op:BinOp) (k:IntKind) (a b:Int):Option I :=
 if b<0 then none else
 match op with
 | .shl=>some (.int k (k.wrap (a*2 ^ (min b.toNat k.bits))))
 | .shr=>some (.int k (a.fdiv (2 ^ (min b.toNat k.bits))))
 | _=>none
def dM:List I→List I→Option Bool
 | [],[]=>some true
 | .int k a::r,.int k' b::r'=>if k=k' then (dM r r').map fun e=>(a == b) && e else none
 | _,_=>none
def gC:List Field→Nat→Bool
 | [],_=>true
 | f :: bE, n => (f.offset == n) && (f.name != "_") && (match P.underlying f.type, bS P f.type with | some (.int _), some 1 => true | _, _ => false) && gC bE (n + 1)
def fj (op:BinOp) (t:TypeId) (x y:I):Option I :=
 match x,y with
 | .int k a,.int k' b =>
   match op with
   | .shl=>hn .shl k a b
   | .shr=>hn .shr k a b
   | op=>if k=k' then jo op k a b else none
 | .bool a,.bool b =>
   match P.underlying t,op with
   | some .bool,.eql=>some (.bool (a == b))
   | some .bool,.neq=>some (.bool (!(a == b)))
   | _,_=>none
 | .agg xs,.agg ys =>
   match P.underlying t with
   | some (.array len e) =>
     match P.underlying e,bS P e with
     | some (.int _),some 1 =>
       if xs.length=len∧ys.length=len∧P.eqGuardType P.depth t=false then
        match op with
        | .eql=>(dM xs ys).map fun e=>.bool e
        | .neq=>(dM xs ys).map fun e=>.bool !e
        | _=>none
       else none
     | _,_=>none
   | some (.struct bE) =>
     if gC P bE.toList 0=true∧P.stoodInHeld t=false∧xs.length=bE.size∧ys.length=bE.size∧P.eqGuardType P.depth t=false then
      match op with
      | .eql=>(dM xs ys).map fun e=>.bool e
      | .neq=>(dM xs ys).map fun e=>.bool !e
      | _=>none
     else none
   | _=>none
 | _,_=>none
def ke (op:UnOp):I→Option I
 | .bool b=>match op with | .not=>some (.bool !b) | _=>none
 | .int k n=>match op with | .neg=>some (.int k (k.wrap (-n))) | _=>none
 | _=>none
def setCells:Nat→List I→List I→List I
 | _,[],cs=>cs
 | off,v::vs,cs=>setCells (off+1) vs (cs.set off v)
def gq (place:Nat→Option (Nat×Nat)):List I→List (Nat×I)→Option (List I)
 | cs,[]=>some cs
 | cs,(i,v)::rest =>
   match place i with
   | some (off,size)=>match v.cells with
     | some bF=>if bF.length=size∧off+size≤cs.length then gq place (setCells off bF cs) rest else none
     | none=>none
   | none=>none
def e0:Nat→List I→List I
 | 0,_=>[]
 | n+1,z=>z++e0 n z
def ln (t:TypeId) (parts:List (Nat×I)):Option I :=
 match zeroCells P t,P.underlying t with
 | some z,some (.struct bE)=>match bE.toList.all (fun f=>(bS P f.type).isSome) with
   | true=>(gq (fun i=>(bE[i]?).bind fun f=>(bS P f.type).map fun s=>(f.offset,s)) z parts).map .agg
   | false=>none
 | some z,some (.array _ e)=>(bS P e).bind fun s=>(gq (fun i=>some (i*s,s)) z parts).map .agg
 | _,_=>none
def iy (t:TypeId) (len:Nat) (parts:List (Nat×I)):Option (List I×Nat) :=
 match P.underlying t with
 | some (.slice e) =>
   match bS P e,zeroCells P e with
   | some s,some z=>if 0<s∧z.length=s∧len*s≤16777216 then (gq (fun i=>some (i*s,s)) (e0 len z) parts).map fun cs=>(cs,s) else none
   | _,_=>none
 | _=>none
def gR (i:Int) (len:Nat):Option Nat:=if 0≤i∧i<len then some i.toNat else none
def hU (t:TypeId) (x i:I):Option I :=
 match P.underlying t,x,i with
 | some (.slice e),.ay cells len _,.int _ n=>(bS P e).bind fun s=>(gR n len).map fun j=>.bU (cells.drop (j*s))
 | some (.slice e),.ref id off len _ _,.int _ n=>(bS P e).bind fun s=>(gR n len).map fun j=>.ptr id (off+j*s)
 | some (.array len e),.ptr id off,.int _ n=>(bS P e).bind fun s=>(gR n len).map fun j=>.ptr id (off+j*s)
 | some (.array len e),.bU cells,.int _ n=>(bS P e).bind fun s=>(gR n len).map fun j=>.bU (cells.drop (j*s))
 | _,_,_=>none
def jq (t:TypeId) (x:I) (f:Nat):Option I :=
 match P.underlying t,x with
 | some (.struct bE),.ptr id off=>(bE[f]?).bind fun g=>(bS P g.type).bind fun s=>if s=0 then none else some (.ptr id (off+g.offset))
 | some (.struct bE),.bU cells=>(bE[f]?).bind fun g=>(bS P g.type).bind fun s=>if s=0 then none else some (.bU (cells.drop g.offset))
 | _,_=>none
def iz (t:TypeId) (cs:List I) (off:Nat):Option I :=
 match dK P t with
 | true=>(bS P t).bind fun s=>if off+s≤cs.length then some (.agg ((cs.drop off).take s)) else none
 | false=>match P.underlying t with
   | some _=>cs[off]?
   | none=>none
def mZ (t:TypeId) (x:I) (f:Nat):Option I :=
 match P.underlying t,x with
 | some (.struct bE),.agg cs=>(bE[f]?).bind fun g=>iz P g.type cs g.offset
 | _,_=>none
def ox (t:TypeId) (x i:I):Option I :=
 match P.underlying t,x,i with
 | some (.array len e),.agg cs,.int _ n=>(bS P e).bind fun s=>(gR n len).bind fun j=>iz P e cs (j*s)
 | some .string,.str b,.int _ n=>if 0≤n then (b[n.toNat]?).map fun x=>.int .u8 x.toNat else none
 | _,_,_=>none
def cH (x:Option I) (BN most:Nat):Option Nat :=
 match x with
 | none=>some BN
 | some (.int _ n)=>if 0≤n∧n≤most then some n.toNat else none
 | _=>none
def eU (t:TypeId) (x:I) (lo hi gD:Option I):Option I :=
 match P.underlying t,x with
 | some (.slice e),.ay cells len c =>
   (bS P e).bind fun s =>
   match gD,hi with
   | none,_ =>
     (cH hi len len).bind fun h=>(cH lo 0 h).bind fun l =>
     some (.ay ((cells.drop (l*s)).take ((h-l)*s)) (h-l) (if c=.full∧h=len then .full else .shared))
   | some _,some _ =>
     (cH gD len len).bind fun m=>(cH hi m m).bind fun h=>(cH lo 0 h).bind fun l =>
     some (.ay ((cells.drop (l*s)).take ((h-l)*s)) (h-l) (if h=m then .full else .shared))
   | some _,none=>none
 | some (.slice e),.ref id off len cap sz =>
   (bS P e).bind fun s=>if s≠sz then none else
   match gD,hi with
   | none,_ =>
     (cH hi len len).bind fun h=>(cH lo 0 h).bind fun l =>
     if l<len then some (.ref id (off+l*s) (h-l) (cap.map (·-l)) sz) else some (.ay [] 0 .shared)
   | some _,some _ =>
     (cH gD len len).bind fun m=>(cH hi m m).bind fun h=>(cH lo 0 h).bind fun l =>
     if m=l then (if l=0 then some (.ref id off (h-l) (some (m-l)) sz) else none) else some (.ref id (off+l*s) (h-l) (some (m-l)) sz)
   | some _,none=>none
 | some (.array n e),.ptr id off =>
   (bS P e).bind fun s =>
   match gD with
   | none=>(cH hi n n).bind fun h=>(cH lo 0 h).bind fun l =>
     if n=l then none else some (.ref id (off+l*s) (h-l) (some (n-l)) s)
   | some _=>none
 | _,_=>none
def rowOf (H:List au):I→Option (List I)
 | .ay cells _ _=>some cells
 | .ref id off len _ sz=>match H[id]? with
   | some (.cells l)=>if off+len*sz≤l.length then some (((l.drop off).take (len*sz)).map I.view) else none
   | _=>none
 | _=>none
def lenOf:I→Option Nat
 | .ay _ len _=>some len
 | .ref _ _ len _ _=>some len
 | _=>none
def fs (n bytes:Nat):Bool:=Nat.ble (n*bytes) 140737488355328 && Nat.ble 1 bytes
def appended (H:List au) (x:I):Option (Nat×List I) :=
 match lenOf x,rowOf H x with
 | some m,some row=>some (m,row)
 | _,_=>none
def e7 (H:List au) (t dp:TypeId) (s x:I):Option I :=
 match P.underlying t with
 | some (.slice e) =>
   match bS P e,(P.info? e).map (·.bytes),(zeroCells P e) with
   | some sz,some bytes,some z =>
     match Nat.beq t dp with
     | true =>
       match appended H x with
       | some (m,new) =>
         if new.length=m*sz∧0<sz∧z.length=sz∧fs m bytes then
          match s with
          | .ay cells len c =>
            match c with
            | .shared=>if m=0 then some s else none
            | .full=>if m=0 then (if len=0 then some (.ay [] 0 (.uniq sz)) else some s)
              else if fs (len+m) bytes∧cells.length=len*sz then some (.ay (cells++new) (len+m) (.uniq sz)) else none
            | .own z=>if z=sz∧fs (len+m) bytes then some (.ay (cells++new) (len+m) (.own z)) else none
            | .uniq z=>if z=sz∧fs (len+m) bytes then some (.ay (cells++new) (len+m) (.uniq z)) else none
          | .ref id off len (some cap) oc =>
            if cap=len∧oc=sz∧0<m then (rowOf H (.ref id off len (some cap) oc)).bind fun fL=>if fs (len+m) bytes then some (.ay (fL++new) (len+m) (.uniq sz)) else none
            else none
          | _=>none
         else none
       | none=>none
     | false =>
       match P.underlying dp,x,s with
       | some (.int _),.int .i64 n,.ay [] 0 .full =>
         if 0<n∧fs n.toNat bytes∧0<sz∧z.length=sz then some (.ay (e0 n.toNat z) n.toNat (.uniq sz)) else none
       | _,_,_=>none
   | _,_,_=>none
 | _=>none
def eu (t:TypeId) (cs:List I) (off:Nat):Option I :=
 match dK P t with
 | true=>(bS P t).bind fun s=>if off+s≤cs.length then some (.agg (((cs.drop off).take s).map I.view)) else none
 | false=>match P.underlying t with
   | some _=>(cs[off]?).map I.view
   | none=>none
def dT (H:List au) (t:TypeId) (a:I):Option I :=
 match a with
 | .ptr id off=>match H[id]? with
   | some (.cells l)=>eu P t l off
   | some (.grow l _ _)=>eu P t l off
   | _=>none
 | .bU cells=>eu P t cells 0
 | _=>none
def g8 (lo:Nat) (H:List au) (id:Nat) (f:List I→Option (List I)):Option (List au) :=
 if lo≤id then match H[id]? with
  | some (.cells l)=>(f l).map fun l'=>H.set id (.cells l')
  | _=>none
 else none
def g9 (lo:Nat) (H:List au) (id:Nat) (f:List I→Option (List I)):Option (List au) :=
 if lo≤id then match H[id]? with
  | some (.cells l)=>(f l).map fun l'=>H.set id (.cells l')
  | some (.grow l g z)=>(f l).map fun l'=>H.set id (.grow l' g z)
  | _=>none
 else none
def iA (lo:Nat) (H:List au) (t:TypeId) (a v:I):Option (List au) :=
 match a,bS P t with
 | .ptr id off,some s=>match v.cells with
   | some bF=>g9 lo H id fun l=>if bF.length=s∧off+s≤l.length then some (setCells off (bF.map I.settle) l) else none
   | none=>none
 | _,_=>none
def jg (t:TypeId) (n:Nat):Option (List I×Nat) :=
 match P.underlying t with
 | some (.slice e)=>match bS P e,zeroCells P e,(P.info? e).map (·.bytes) with
   | some s,some z,some bytes=>if z.length=s∧0<s∧fs n bytes then some (e0 n z,s) else none
   | _,_,_=>none
 | _=>none
def kP:List I→Int→Option Int
 | [],a=>some a
 | .int _ b::r,a=>kP r (if b<a then b else a)
 | _::_,_=>none
def kO:List I→Int→Option Int
 | [],a=>some a
 | .int _ b::r,a=>kO r (if b > a then b else a)
 | _::_,_=>none
def nN:List I→Option I
 | .int k a::r=>(kP r a).map (.int k)
 | _=>none
def nM:List I→Option I
 | .int k a::r=>(kO r a).map (.int k)
 | _=>none
def gV (cap:Option Nat) (n:Nat):iq:=match cap with | some c=>if c=n then .full else .shared | none=>.shared
def ed (f:I→Option I):List I→Option (List I)
 | []=>some []
 | x::xs=>match f x with
   | some y=>(ed f xs).map (y::·)
   | none=>none
def mapM (f:I→Option I):List (Nat×I×I)→Option (List (Nat×I×I))
 | []=>some []
 | (i,k,v)::xs=>match f k,f v with
   | some k',some br=>(mapM f xs).map ((i,k',br)::·)
   | _,_=>none
def bJ (H:List au) (lo id0 n:Nat):Nat→I→Option I
 | 0,_=>none
 | d+1,BC =>
   match BC with
   | .ay cells len c=>(ed (bJ H lo id0 n d) cells).map fun cs=>.ay cs len c
   | .bU cells=>(ed (bJ H lo id0 n d) cells).map .bU
   | .agg cs=>(ed (bJ H lo id0 n d) cs).map .agg
   | .tuple cs=>(ed (bJ H lo id0 n d) cs).map .tuple
   | .func f a b=>match ed (bJ H lo id0 n d) a,ed (bJ H lo id0 n d) b with
     | some a,some b=>some (.func f a b)
     | _,_=>none
   | .ptr id off=>if id<lo then some (.ptr id off) else if id=id0 then some (.ptr n off) else
     match H[id]? with
     | some (.cells l)=>(ed (bJ H lo id0 n d) ((l.drop off).map I.view)).map .bU
     | _=>none
   | .ref id off len cap sz=>if id<lo then some (.ref id off len cap sz) else if id=id0 then some (.ref n off len cap sz) else
     match rowOf H (.ref id off len cap sz) with
     | some row=>(ed (bJ H lo id0 n d) row).map fun cs=>.ay cs len (gV cap len)
     | none=>none
   | .yield id=>if id<lo then some (.yield id) else none
   | .map id=>if id<lo then some (.map id) else if id=id0 then some (.map n) else none
   | .raw _ _ _=>none
   | .cl _ _ _ _=>none
   | v=>some v
def fu (parts:List (Nat×Operand)) (vs:List I):List (Nat×I):=(parts.map (·.1)).zip vs
def dn (vs:List I) (i:Nat):Option Operand→Option I
 | none=>none
 | some _=>vs[i]?
def xf:List I→Option I
 | [.bool c,a,b]=>some (match c with | true=>a | false=>b)
 | _=>none
def nT:List I→Option I
 | [.ptr id off]=>some (.ptr id off)
 | [.bU cells]=>some (.bU cells)
 | _=>none
def f' (f:I→I→Option I):List I→Option I
 | [x,y]=>f x y
 | _=>none
def eZ (f:I→Option I):List I→Option I
 | [x]=>f x
 | _=>none
def lp (src dst:TypeId):I→Option I
 | .int _ n=>match P.underlying src,P.underlying dst with | some _,some (.int k)=>some (.int k (k.wrap n)) | _,_=>none
 | _=>none
def mB (fn:Fn) (n m:Nat) (vs:List I):Option I :=
 match fn with
 | .func f=>if vs.length=n+m then some (.func f (vs.take n) (vs.drop n)) else none
 | _=>none
def ej (t:TypeId) (l h m:Option Operand):List I→Option I
 | x::vs =>
   let i1:=match l with | some _=>1 | none=>0
   let i2:=match h with | some _=>i1+1 | none=>i1
   match x,l,h,m with
   | .ay cells len (.uniq z),none,h,none =>
     match P.underlying t with
     | some (.slice e)=>(bS P e).bind fun _=>(cH (dn vs 0 h) len len).map fun n=>.ay (cells.take (n*z)) n (.uniq z)
     | _=>none
   | .ay cells len (.own z),some lo,none,none =>
     match P.underlying t with
     | some (.slice e)=>(bS P e).bind fun s=>if s=z then (cH (dn vs 0 (some lo)) 0 len).map fun l=>.ay (cells.drop (l*z)) (len-l) (.own z) else none
     | _=>none
   | .cl id gid len z,none,h,none =>
     match P.underlying t with
     | some (.slice e)=>(bS P e).bind fun _=>(cH (dn vs 0 h) len len).map fun n=>.cl id gid n z
     | _=>none
   | x,l,h,m=>eU P t x.view (dn vs 0 l) (dn vs i1 h) (dn vs i2 m)
 | []=>none
def mY (i:Nat):I→Option I
 | .tuple ws=>ws[i]?
 | _=>none
def iQ:Operand→Bool
 | .const (.slice none 0 0)=>true
 | _=>false
def mX (op:BinOp) (t:TypeId) (x:I):Option I :=
 match P.underlying t with
 | some (.slice _) =>
   match x with
   | .ay _ (_+1) _ | .ref ..=>match op with
     | .eql=>some (.bool false)
     | .neq=>some (.bool true)
     | _=>none
   | .ay [] 0 _=>match op with
     | .eql | .neq=>some .dq
     | _=>none
   | _=>none
 | _=>none
def cy (o:Oper) (vs:List I):Option I :=
 match o.op with
 | .pick _ _ _=>xf vs
 | .build t parts=>ln P t (fu parts.toList vs)
 | .buildSlice t len parts=>(iy P t len (fu parts.toList vs)).map fun r=>.ay r.1 len (.uniq r.2)
 | .nilCheck _=>nT vs
 | .binOp op t _ y _=>match iQ y with
   | true=>match vs with
     | [x,_]=>mX P op t x
     | _=>none
   | false=>f' (fj P op t) vs
 | .unOp op _ _=>eZ (ke op) vs
 | .convert src dst _=>eZ (lp P src dst) vs
 | .makeFunc fn first captured=>mB fn first.size captured.size vs
 | .slice t _ l h m=>ej P t l h m vs
 | .fieldAddr t _ f=>eZ (fun x=>jq P t x f) vs
 | .field t _ f=>(eZ (fun x=>mZ P t x f) vs).map I.view
 | .indexAddr t _ _=>f' (hU P t) vs
 | .index t _ _=>(f' (ox P t) vs).map I.view
 | .extract _ i=>(eZ (mY i) vs).map I.view
 | _=>none
def dP (o:Oper):Bool :=
 match o.op with
 | .move _ | .assign _ | .store _ _ _ | .box _ _ | .call _ | .slice _ _ _ _ _=>true
 | _=>false
def yr (lo:Nat):I→Option Nat
 | .ptr id _=>if lo≤id then some id else none
 | .ref id _ _ _ _=>if lo≤id then some id else none
 | .map id=>if lo≤id then some id else none
 | _=>none
def BU (lo:Nat):I→Option Nat
 | .tuple vs=>vs.findSome? (yr lo)
 | v=>yr lo v
def j8 (H:List au):I→I
 | .ref id off len cap sz=>match rowOf H (.ref id off len cap sz) with
   | some row=>.ay row len .shared
   | none=>.ref id off len cap sz
 | v=>v
def hH (H:List au):I→I
 | .ptr id off=>match H[id]? with
   | some (.cells l)=>.bU (((l.drop off).map I.view).map (j8 H))
   | _=>.ptr id off
 | .ref id off len cap sz=>j8 H (.ref id off len cap sz)
 | v=>v
def il (H:List au):I→I
 | .ptr id off=>hH H (.ptr id off)
 | .ref id off len cap sz=>hH H (.ref id off len cap sz)
 | .func f a b=>.func f (a.map (hH H)) (b.map (hH H))
 | v=>v
def gJ:I→Bool
 | .bool _ | .int _ _ | .str _=>true
 | _=>false
def gg:I→Bool
 | .bool _ | .int _ _ | .str _=>true
 | .tuple vs=>vs.all gJ
 | .ay cells _ (.uniq _)=>cells.all gJ
 | _=>false
def eV (C:b6) (lo mode:Nat) (b0:e6) (args:List I) (H:List au):Option (I×List au) :=
 match mode with
 | 0=>(C b0 args H H.length).bind fun r=>(bJ r.2 H.length r.2.length 0 8 r.1).map fun v=>(v,H)
 | 1=>C b0 args H lo
 | 3=>match b0,args.all (cq 8) with
   | .fn _,true=>(C b0 (args.map I.cr) [] 0).bind fun r=>(bJ r.2 0 r.2.length 0 8 r.1).map fun v=>(v.cr,H)
   | _,_=>none
 | 6=>match b0,(args.map (il H)).all (cq 8) with
   | .fn _,true=>(C b0 ((args.map (il H)).map I.cr) [] 0).bind fun r=>(bJ r.2 0 r.2.length 0 8 r.1).bind fun v=>match gg v with
     | true=>some (v.cr,H)
     | false=>none
   | _,_=>none
 | 7=>match b0,args with
   | .fn _,[.ptr id 0]=>if lo≤id then match H[id]? with
     | some (.cells l)=>match cq 8 (.bU (l.map I.view)) with
       | true=>(C b0 [(I.bU (l.map I.view)).cr] [] 0).bind fun r=>(bJ r.2 0 r.2.length 0 8 r.1).map fun v=>(v.cr,H.set id .dead)
       | false=>none
     | _=>none else none
   | _,_=>none
 | 4=>(C b0 (args.map I.cr) H H.length).bind fun r=>(bJ r.2 H.length r.2.length 0 8 r.1).map fun v=>(v.cr,H)
 | _=>(C b0 args H H.length).bind fun r =>
   match BU H.length r.1 with
   | none=>(bJ r.2 H.length r.2.length 0 8 r.1).map fun v=>(v,H)
   | some id0 =>
     match r.2[id0]? with
     | some (.cells l)=>if H.length≤id0 then
       match ed (bJ r.2 H.length id0 H.length 8) l,bJ r.2 H.length id0 H.length 8 r.1 with
       | some l',some v=>some (v,H++[.cells l'])
       | _,_=>none
       else none
     | some (.map es clock)=>if H.length≤id0 then
       match mapM (bJ r.2 H.length id0 H.length 8) es,bJ r.2 H.length id0 H.length 8 r.1 with
       | some es',some v=>some (v,H++[.map es' clock])
       | _,_=>none
       else none
     | _=>none
def kh (C:b6) (lo mode:Nat) (f:I) (args:List I) (H:List au):Option (I×List au) :=
 match f with
 | .func k first cap=>eV C lo mode (.fn k) (first++args++cap) H
 | .yield l=>eV C lo mode (.yield l) args H
 | _=>none
abbrev Out:=Option (I×List au)
def eS (lo mode:Nat) (t:TypeId) (x:Operand) (H:List au):List I→Out
 | [v] =>
   match mode with
   | 0=>match iQ x,P.underlying t with
     | true,some (.slice e)=>(bS P e).map fun z=>(.ay [] 0 (.uniq z),H)
     | _,_=>some (v,H)
   | 1=>match v with
     | .ay cells len (.uniq z)=>if len=0 then some (v,H) else some (.ref H.length 0 len none z,H++[.cells cells])
     | .ay [] 0 .full=>some (v,H)
     | .ref ..=>some (v,H)
     | _=>none
   | 4=>match v with
     | .cl id gid n z=>if lo≤id then match H[id]? with
       | some (.grow l g cU)=>if g=gid∧cU=z∧n*z≤l.length∧(l.take (n*z)).all I.plain=true then some (.ay (l.take (n*z)) n (.uniq z),H.set id .dead) else none
       | _=>none else none
     | _=>some (v,H)
   | _=>match v with
     | .ref id _ _ cap _=>if lo≤id then (rowOf H v).bind fun row=>(lenOf v).map fun n =>
       (.ay row n (gV cap n),H.set id .dead) else none
     | .cl id gid n z=>if lo≤id then match H[id]? with
       | some (.grow l g cU)=>if l.length=n*z then some (.ay (l.map I.view) n .shared,H.set id .dead) else none
       | _=>none else none
     | _=>some (v.view,H)
 | _=>none
def dQ (lo mode:Nat) (t:TypeId) (H:List au):List I→Out
 | [a] =>
   match mode with
   | 0=>(dT P H t a).map (·,H)
   | 3=>match a with
     | .bU cells=>(eu P t cells 0).map (·,H)
     | _=>none
   | 5=>match P.underlying t,a with
     | some (.slice _),.ptr id off=>match H[id]? with
       | some (.cells l)=>match l[off]? with
         | some (.cl i g n z)=>some (.cl i g n z,H)
         | some (.ay [] 0 .full)=>some (.ay [] 0 .full,H)
         | _=>none
       | _=>none
     | _,_=>none
   | _=>match P.underlying t,a with
     | some (.slice _),.ptr id off=>if lo≤id then match H[id]? with
       | some (.cells l)=>match l[off]? with
         | some (.ay c n (.own z))=>some (.ay c n (.own z),H.set id (.cells (l.set off (.ay c n .shared))))
         | some (.raw c n z)=>if mode=2 then (if n=0 then none else some (.ref H.length 0 n none z,H.set id (.cells (l.set off (.ref H.length 0 n none z)))++[.cells c]))
           else some (.ay c n (.uniq z),H.set id (.cells (l.set off .junk)))
         | some v=>some (v.view,H)
         | _=>none
       | some (.grow l g cU)=>match l[off]? with
         | some (.ay c n (.own z))=>some (.ay c n (.own z),H.set id (.grow (l.set off (.ay c n .shared)) g cU))
         | some (.ay c n .full)=>some (.ay c n .full,H)
         | _=>none
       | _=>none else none
     | _,_=>none
 | _=>none
def lq (lo:Nat) (H:List au) (t:TypeId) (a v:I):Option (List au) :=
 match a,v,bS P t with
 | .ptr id off,.ay c n (.uniq z),some 1=>if c.all gJ=true∧n≠0 then g8 lo H id fun l=>if off<l.length then some (l.set off (.raw c n z)) else none else none
 | _,_,_=>none
def hC (lo mode:Nat) (t:TypeId) (H:List au):List I→Out
 | [a,v]=>match mode with
   | 0=>(iA P lo H t a v).map fun H'=>(.junk,H')
   | _=>(lq P lo H t a v).map fun H'=>(.junk,H')
 | _=>none
def gF (mode:Nat) (H:List au):List I→Out
 | [v]=>match mode with
   | 0=>v.cells.map fun bF=>(.ptr H.length 0,H++[.cells (bF.map I.settle)])
   | _=>match v.cells with
     | some bF=>match bF.all I.plain with
       | true=>some (.bU bF,H)
       | false=>none
     | none=>none
 | _=>none
def kS (mode:Nat) (t:TypeId) (H:List au):Out :=
 match mode with
 | 0=>(zeroCells P t).map fun z=>(.ptr H.length 0,H++[.cells z])
 | _=>match zeroCells P t,P.underlying t with
   | some [.ay [] 0 .full],some (.slice e)=>(bS P e).map fun s=>(.ptr H.length 0,H++[.cells [.ay [] 0 (.own s)]])
   | _,_=>none
def jW (mode:Nat) (t:TypeId) (H:List au):List I→Out
 | [.int _ n,.int _ c] =>
   if 0≤n∧n≤c then
    match mode with
    | 0=>(jg P t c.toNat).map fun r=>(.ref H.length 0 n.toNat (some c.toNat) r.2,H++[.cells r.1])
    | _=>if n=c∧0≤n then (jg P t c.toNat).map fun r=>(.ay r.1 n.toNat (.uniq r.2),H) else none
   else none
 | _=>none
def kJ (t:TypeId):Bool:=match P.underlying t with
 | some (.int _)=>true
 | some (.struct bE)=>gC P bE.toList 0 && !P.stoodInHeld t
 | _=>false
def gy:I→I→Option Bool
 | .int k a,.int k' b=>if k=k' then some (a == b) else none
 | .agg xs,.agg ys=>dM xs ys
 | _,_=>none
def isKey (t:TypeId) (k:I):Bool:=match P.underlying t,k with
 | some (.int q),.int fO _=>q == fO
 | some (.struct bE),.agg cs=>cs.length == bE.size
 | _,_=>false
def fB (k:I):List (Nat×I×I)→Nat→Option (Option Nat)
 | [],_=>some none
 | (_,k',_)::r,i=>match gy k k' with
   | some true=>some (some i)
   | some false=>fB k r (i+1)
   | none=>none
def jR (t:TypeId):Option (TypeId×TypeId):=match P.underlying t with
 | some (.map k e)=>match kJ P k with | true=>some (k,e) | false=>none
 | _=>none
def oo (t:TypeId):Option I:=((P.info? t).bind (·.zero)).bind fun v=>match v with
 | .agg cs=>match cs.toList.all (·.oneCell') with | true=>some (.agg (cs.toList.map ho)) | false=>none
 | v=>some (ho v)
def kV (t:TypeId) (r:Option Operand) (H:List au):Out :=
 match r,P.underlying t with
 | none,some (.map _ _)=>some (.map H.length,H++[.map [] 0])
 | _,_=>none
def iY (lo:Nat) (t:TypeId) (H:List au):List I→Out
 | [.map id,k,v]=>match jR P t with
   | some (eb,_)=>match isKey P eb k with
     | true=>if lo≤id then match H[id]? with
       | some (.map es clock)=>match fB k es 0 with
         | some (some i)=>some (.junk,H.set id (.map (es.modify i fun e=>(e.1,k,v)) clock))
         | some none=>some (.junk,H.set id (.map (es++[(clock,k,v)]) (clock+1)))
         | none=>none
       | _=>none else none
     | false=>none
   | none=>none
 | _=>none
def ic (t:TypeId) (ok:Bool) (H:List au):List I→Out
 | [.map id,k]=>match jR P t with
   | some (eb,iD)=>match isKey P eb k,H[id]? with
     | true,some (.map es _)=>match fB k es 0 with
       | some r =>
         (match r.bind fun i=>es[i]? with | some e=>some e.2.2 | none=>oo P iD).map fun v =>
          (if ok then .tuple [v,.bool r.isSome] else v,H)
       | none=>none
     | _,_=>none
   | none=>none
 | _=>none
def hB (lo:Nat) (ts:Array TypeId) (H:List au):List I→Out
 | [.map id,k]=>match (ts[0]?).bind (jR P) with
   | some (eb,_)=>match isKey P eb k with
     | true=>if lo≤id then match H[id]? with
       | some (.map es clock)=>match fB k es 0 with
         | some (some i)=>some (.tuple [],H.set id (.map (es.eraseIdx i) clock))
         | some none=>some (.tuple [],H)
         | none=>none
       | _=>none else none
     | false=>none
   | none=>none
 | _=>none
def kW (t:TypeId) (H:List au):List I→Out
 | [.map id]=>match P.underlying t,H[id]? with
   | some (.map _ _),some (.map _ clock)=>some (.ptr H.length 0,H++[.iter id clock [] clock])
   | _,_=>none
 | _=>none
def kU (H:List au):List I→Out
 | [.ptr r 0]=>match H[r]? with
   | some (.iter m _ seen j9)=>match seen.getLast?,H[m]? with
     | some gh,some (.map es clock)=>if clock=j9 then match es.find? (fun e=>e.1 == gh) with
       | some e=>some (.tuple [e.2.1,e.2.2],H)
       | none=>none else none
     | _,_=>none
   | _=>none
 | _=>none
def iR (t:Option TypeId):Bool:=match t.bind P.underlying with | some (.slice _)=>true | _=>false
def ha (ts:Array TypeId) (H:List au):List I→Out
 | [x]=>match x with
   | .ay _ n _=>match iR P ts[0]? with | true=>some (.int .i64 n,H) | false=>none
   | .ref _ _ n _ _=>match iR P ts[0]? with | true=>some (.int .i64 n,H) | false=>none
   | .map id=>match (ts[0]?).bind P.underlying,H[id]? with | some (.map _ _),some (.map es _)=>some (.int .i64 es.length,H) | _,_=>none
   | _=>match (ts[0]?).bind P.underlying with | some (.array n _)=>some (.int .i64 n,H) | _=>none
 | _=>none
def jU (ts:Array TypeId) (H:List au):List I→Out
 | [.ay _ n .full]=>match iR P ts[0]? with | true=>some (.int .i64 n,H) | false=>none
 | [.ref _ _ _ (some n) _]=>match iR P ts[0]? with | true=>some (.int .i64 n,H) | false=>none
 | _=>none
def jV (lo:Nat) (ts:Array TypeId) (H:List au):List I→Out
 | [.ref id off len _ sz,x]=>match (ts[0]?).bind P.underlying with
   | some (.slice e)=>match bS P e,lenOf x,rowOf H x with
     | some s,some m,some row=>if s=sz∧row.length=m*sz then
       (g8 lo H id fun l=>if off+len*sz≤l.length then some (setCells off (row.take (min m len*sz)) l) else none).map fun H'=>(.int .i64 (min m len:Nat),H') else none
     | _,_,_=>none
   | _=>none
 | _=>none
def kT (lo:Nat) (ts:Array TypeId) (H:List au):List I→Out
 | [.ref id off len _ sz]=>match (ts[0]?).bind P.underlying with
   | some (.slice e)=>match bS P e,zeroCells P e with
     | some s,some z=>if s=sz∧z.length=s∧0<s then
       (g9 lo H id fun l=>if off+len*sz≤l.length then some (setCells off (e0 len z) l) else none).map fun H'=>(.tuple [],H') else none
     | _,_=>none
   | _=>none
 | [.ay [] 0 _]=>match iR P ts[0]? with | true=>some (.tuple [],H) | false=>none
 | _=>none
def iW (ts:Array TypeId) (H:List au):List I→Out
 | [s,x]=>match ts.toList with
   | [t,dp]=>(e7 P H t dp s x).map (·,H)
   | _=>none
 | _=>none
def ib (lo:Nat) (ts:Array TypeId) (H:List au):List I→Out
 | [s,x]=>match ts.toList with
   | [t,dp]=>match s with
     | .ay _ _ _=>match e7 P H t dp s x with
       | some (.ay cells n (.uniq z))=>if n=0 then none else some (.cl H.length (H.length+1) n z,H++[.grow cells (H.length+1) z,.dead])
       | _=>none
     | .cl id gid len z=>if lo≤id then match P.underlying t,H[id]? with
       | some (.slice e),some (.grow l g cU)=>match bS P e,(P.info? e).map (·.bytes),zeroCells P e,appended H x with
         | some sz,some bytes,some gj,some (m,new) =>
           if t=dp∧g=gid∧cU=z∧z=sz∧l.length=len*z∧new.length=m*sz∧0<sz∧0<m∧gj.length=sz∧fs m bytes=true∧fs (len+m) bytes=true then
            some (.cl H.length (H.length+1) (len+m) z,H.set id .dead++[.grow (l++new) (H.length+1) z,.dead])
           else none
         | _,_,_,_=>none
       | _,_=>none else none
     | _=>none
   | _=>none
 | _=>none
def ja (lo:Nat) (H:List au):List I→List au
 | .cl id _ len z::_=>match H[id]? with
   | some (.grow l g cU)=>match Nat.blt (len*z) l.length && Nat.ble lo id with
     | true=>H.set id (.grow (l.take (len*z)) g cU)
     | false=>H
   | _=>H
 | _=>H
def iX (lo:Nat) (ts:Array TypeId) (H:List au) (vs:List I):Out:=ib P lo ts (ja lo H vs) vs
def ev (lo:Nat) (b:Builtin) (ts:Array TypeId) (H:List au) (vs:List I):Out :=
 match b with
 | .append=>iW P ts H vs
 | .len=>ha P ts H vs
 | .cap=>jU P ts H vs
 | .copy=>jV P lo ts H vs
 | .clear=>kT P lo ts H vs
 | .delete=>hB P lo ts H vs
 | .min=>(nN vs).map (·,H)
 | .max=>(nM vs).map (·,H)
 | _=>none
def hA (C:b6) (lo mode:Nat) (H:List au):List I→Out
 | f::args=>kh C lo mode f args H
 | []=>none
def a8 (C:b6) (lo:Nat) (o:Oper) (mode:Nat) (vs:List I) (H:List au):Out :=
 match o.op with
 | .move x=>eS P lo mode o.type x H vs
 | .assign x=>eS P lo mode o.type x H vs
 | .load t _=>dQ P lo mode t H vs
 | .store t _ _=>hC P lo mode t H vs
 | .box _ _=>gF mode H vs
 | .alloc t=>kS P mode t H
 | .buildSlice t len parts=>match mode with
   | 0=>(cy P o vs).map (·,H)
   | _=>(iy P t len (fu parts.toList vs)).map fun r=>(.ay r.1 len .full,H)
 | .makeSlice t _ _=>jW P mode t H vs
 | .makeMap t r=>kV P t r H
 | .mapUpdate t _ _ _=>iY P lo t H vs
 | .lookup t _ _ ok=>ic P t ok H vs
 | .range t _=>kW P t H vs
 | .entry _=>kU H vs
 | .call c=>match c.callee with
   | .builtin b=>match b with
     | .append=>match mode with
       | 0=>ev P lo b c.argTypes H vs
       | _=>iX P lo c.argTypes H vs
     | _=>ev P lo b c.argTypes H vs
   | .value _=>hA C lo mode H vs
   | .invoke _ _=>none
 | _=>(cy P o vs).map (·,H)
def put (T:List I):Option Tmp→I→List I
 | some d,v=>gK T d v
 | none,_=>T
def inPlace (o:Oper) (mode:Nat) (T:List I) (v:I):List I :=
 match mode with
 | 0=>T
 | 4=>T
 | _=>match o.op with
   | .move (.tmp t) | .assign (.tmp t)=>gK T t v.view
   | _=>T
def execOp (C:b6) (lo:Nat) (o:Oper) (an:b5) (s:a5):Option a5 :=
 let r:=rd s.T an.takes (opsOf o)
 let vs:=match dP o with | true=>r.1 | false=>r.1.map I.view
 (a8 P C lo o an.mode vs s.H).map fun x=>⟨put (inPlace o an.mode r.2 x.1) o.dst x.1,x.2⟩
def ew (ops:Array Oper) (o:Oper) (T:List I):Option Bool :=
 match o.guard with
 | none=>some true
 | some (j,want)=>match (ops[j]?).bind (·.dst) with
   | some d=>match c5 T d with
     | .bool b=>some (b == want)
     | .tuple []=>some false
     | _=>none
   | none=>none
def eJ (C:b6) (lo:Nat) (ops:Array Oper):List Oper→List b5→a5→Option a5
 | [],_,s=>some s
 | o::rest,as,s =>
   match ew ops o s.T with
   | some true=>(execOp P C lo o (as.headD {}) s).bind (eJ C lo ops rest as.tail)
   | some false=>eJ C lo ops rest as.tail ⟨put s.T o.dst (.tuple []),s.H⟩
   | none=>none
def h' (f:a5→Option (cB×a5)):Nat→a5→Option (cB×a5)
 | 0,_=>none
 | n+1,s=>match f s with
   | some (.normal,aF)=>h' f n aF
   | r=>r
def inLoop (H:List au):Option Nat→Bool
 | none=>true
 | some l=>match H[l]? with
   | some (.loop ..)=>true
   | _=>false
def exec (A:c8) (C:b6) (fn:FuncId) (lo d:Nat) (rl:Option Nat):Code→Nat→a5→Option (cB×a5)
 | .skip,_,s=>some (.normal,s)
 | .region id ops draw,_,s=>match j_ A id draw with
   | some _=>none
   | none=>(eJ P C lo ops ops.toList (A.ops.getD id []) (eY A.h_ id s)).map fun aF=>(.normal,aF)
 | .seq a b,aY,s=>match exec A C fn lo d rl a aY s with
   | some (.normal,aF)=>exec A C fn lo d rl b aY aF
   | r=>r
 | .cond c a b,aY,s=>match aA s.T c with
   | .bool true=>exec A C fn lo d rl a aY s
   | .bool false=>exec A C fn lo d rl b aY s
   | _=>none
 | .block id body,_,s=>match exec A C fn lo d rl body id s with
   | some (.exit bx,aF)=>if bx=id then some (.normal,aF) else some (.exit bx,aF)
   | r=>r
 | .loop body,aY,s=>h' (fun aF=>exec A C fn lo d rl body aY (eY A.h9 aY aF)) d s
 | .exit id,_,s=>some (.exit id,s)
 | .ret,_,s=>some (.ret,s)
 | .scope body,aY,s=>exec A C fn lo d rl body aY s
 | .label _,_,s=>some (.normal,s)
 | .rangeFunc f params assign body,_,s =>
   match inLoop s.H rl,aA s.T f with
   | true,.func k first cap =>
     match C (.fn k) (first++[.yield s.H.length]++cap) (s.H++[.loop .ready none fn (s.T.map I.view) params.toList assign body A]) lo with
     | some (_,H')=>match H'[s.H.length]? with
       | some (.loop st cF _ _ _ _ _ _) =>
         if st=.busy then none else
         match cF with
         | none=>some (.normal,⟨s.T.map I.settle,H'.set s.H.length .dead⟩)
         | some .ret=>some (.ret,⟨s.T.map I.settle,H'.set s.H.length .dead⟩)
         | some (.exit id)=>some (.exit id,⟨s.T.map I.settle,H'.set s.H.length .dead⟩)
         | _=>none
       | _=>none
     | none=>none
   | _,_=>none
 | _,_,_=>none
def fg (H:List au) (T:List I):List ResultVar→Option (List I)
 | []=>some []
 | .tmp t::r=>(fg H T r).map (c5 T t::·)
 | .cell a t::r=>match dT P H t (c5 T a),fg H T r with
   | some v,some vs=>some (v::vs)
   | _,_=>none
def hb:List I→I
 | [v]=>v
 | vs=>.tuple (vs.map I.view)
def hh:List Nat→List I→List I→Option (List I)
 | [],[],T=>some T
 | p::bh,v::vs,T=>hh bh vs (gK T p v)
 | _,_,_=>none
def fS (A:FuncId→c8) (tab:b6):Nat→b6
 | 0,_,_,_,_=>none
 | d+1,.fn k,args,H,lo =>
   match tab (.fn k) args H lo with
   | some r=>some r
   | none =>
   match (A k).bad with
   | true=>none
   | false =>
   match P.funcs[k]? with
   | some f=>match f.body with
     | some c =>
       match exec P (A k) (fS A tab d) k lo d none c 0 ⟨args++List.replicate (f.ntmps-args.length) .junk,H⟩ with
       | some (.normal,s) | some (.ret,s)=>(fg P s.H s.T f.results.toList).map fun vs=>(hb vs,s.H)
       | _=>none
     | none=>none
   | none=>none
 | d+1,.yield l,args,H,lo =>
   if l<lo then none else
   match H[l]? with
   | some (.loop .ready _ fn T params assign body an) =>
     match hh params args T with
     | some a7 =>
       match exec P an (fS A tab d) fn lo d (some l) assign 0 ⟨a7,H⟩ with
       | some (.normal,s) =>
         match s.H[l]? with
         | some (.loop .ready cF fn T params assign lx iB) =>
           match exec P an (fS A tab d) fn lo d (some l) body 0 ⟨s.T,s.H.set l (.loop .busy cF fn T params assign lx iB)⟩ with
           | some (e,s2) =>
             match s2.H[l]? with
             | some (.loop .busy _ fn T params assign lx iB) =>
               match e with
               | .normal=>some (.bool true,s2.H.set l (.loop .ready none fn T params assign lx iB))
               | .ret=>some (.bool false,s2.H.set l (.loop .done (some .ret) fn T params assign lx iB))
               | .exit id=>some (.bool false,s2.H.set l (.loop .done (some (.exit id)) fn T params assign lx iB))
             | _=>none
           | none=>none
         | _=>none
       | _=>none
     | none=>none
   | _=>none
end
end
end Go.Proofs.YtfakoboiahbhaaaGreat.Ab


namespace Go.Proofs.YtfakoboiahbhaaaGreat.Ab
open Go
inductive aI where
 | slot (i:Nat)
 | arg (i:Nat)
 | res
 | obj (id:Nat)
 | cell (id j:Nat)
 | mark
 deriving DecidableEq
inductive Rel (J:List Nat) (S:Nat→Nat→Prop) (w:World):I→Value→Prop
 | junk (v:Value):Rel J S w .junk v
 | bool (b:Bool):Rel J S w (.bool b) (.bool b)
 | dq (b:Bool):Rel J S w .dq (.bool b)
 | int (k:IntKind) (n:Int):Rel J S w (.int k n) (.int k n)
 | str (s:ByteArray):Rel J S w (.str s) (.string s)
 | eD:Rel J S w .eD (.pointer none)
 | ptr (id off b:Nat) (h:J[id]?=some b):Rel J S w (.ptr id off) (.pointer (some ⟨b,off,none⟩))
 | bU (cells:List I) (b o:Nat) (f:Nat→Value)
   (h:∀ (j:Nat) (u:I),cells[j]?=some u→S b (o+j)∧w.cell? ⟨b,o+j,none⟩=some (f j)∧u.plain=true∧(f j).oneCell'=true)
   (aj:∀ (j:Nat) (u:I),cells[j]?=some u→Rel J S w u (f j)):Rel J S w (.bU cells) (.pointer (some ⟨b,o,none⟩))
 | b1 (c:iq) (a:Option Addr):Rel J S w (.ay [] 0 c) (.slice a 0 0)
 | ay (cells:List I) (len:Nat) (c:iq) (b o cap:Nat) (f:Nat→Value)
   (ao:c=.full→cap=len) (hle:len≤cap) (hu:∀ z,c≠.uniq z)
   (h:∀ (j:Nat) (u:I),cells[j]?=some u→S b (o+j)∧w.cell? ⟨b,o+j,none⟩=some (f j)∧u.plain=true∧(f j).oneCell'=true)
   (aj:∀ (j:Nat) (u:I),cells[j]?=some u→Rel J S w u (f j)):Rel J S w (.ay cells len c) (.slice (some ⟨b,o,none⟩) len cap)
 | cK (cells:List I) (len z b o cap:Nat):Rel J S w (.ay cells len (.uniq z)) (.slice (some ⟨b,o,none⟩) len cap)
 | raw (cells:List I) (len z b o cap:Nat):Rel J S w (.raw cells len z) (.slice (some ⟨b,o,none⟩) len cap)
 | ref (id off len:Nat) (c:Option Nat) (sz b cap:Nat) (h:J[id]?=some b) (ao:∀ n,c=some n→cap=n) (hle:len≤cap) :
   Rel J S w (.ref id off len c sz) (.slice (some ⟨b,off,none⟩) len cap)
 | cl (id gid len z b cap:Nat) (h:J[id]?=some b) (aO:J[gid]?=some cap) (hle:len≤cap):Rel J S w (.cl id gid len z) (.slice (some ⟨b,0,none⟩) len cap)
 | func (f:FuncId) (as bs:List I) (vs ws:Array Value) (ad:vs.size=as.length) (af:ws.size=bs.length)
   (bR:∀ u∈as,u.plain=true) (b4:∀ u∈bs,u.plain=true)
   (r1:∀ (j:Nat) (u:I) (v:Value),as[j]?=some u→vs[j]?=some v→Rel J S w u v)
   (r2:∀ (j:Nat) (u:I) (v:Value),bs[j]?=some u→ws[j]?=some v→Rel J S w u v):Rel J S w (.func f as bs) (.func (.func f) vs ws)
 | yield (id b:Nat) (h:J[id]?=some b):Rel J S w (.yield id) (.func (.yield b) #[] #[])
 | map (id b:Nat) (h:J[id]?=some b):Rel J S w (.map id) (.map (some b))
 | agg (as:List I) (vs:Array Value) (h:vs.size=as.length) (p:∀ u∈as,u.plain=true) (one:∀ v∈vs.toList,v.oneCell'=true)
   (r:∀ (j:Nat) (u:I) (v:Value),as[j]?=some u→vs[j]?=some v→Rel J S w u v):Rel J S w (.agg as) (.agg vs)
 | tuple (as:List I) (vs:Array Value) (h:vs.size=as.length) (p:∀ u∈as,u.plain=true)
   (r:∀ (j:Nat) (u:I) (v:Value),as[j]?=some u→vs[j]?=some v→Rel J S w u v):Rel J S w (.tuple as) (.tuple vs)
def aV (U:Nat→Option aI) (J:List Nat) (S:Nat→Nat→Prop) (w:World) (l:aI):I→Value→Prop
 | .ay cells len (.own z),.slice (some a) _ cap=>(len=0∧cap=0∧cells=[]) ∨
   (U a.block=some l∧True∧a.spot=none∧len≤cap∧cap≤maxLen∧0<z∧cells.length=len*z ∧
    (∃ cur e,w.heap[a.block]?=some (.cells cur e (0,0))∧cur.size=a.off+cap*z)∧∀ o,a.off+cells.length≤o→¬ S a.block o)
 | .ay cells len (.uniq z),.slice (some a) _ cap=>(len=0∧cap=0∧cells=[]) ∨
   (U a.block=some l∧a.off=0∧len≤cap∧cap≤maxLen∧0<z∧cells.length=len*z ∧
    (∃ cur e,w.heap[a.block]?=some (.cells cur e (0,0))∧cur.size=cap*z ∧
     ∀ (j:Nat) (u:I) (v:Value),cells[j]?=some u→cur[j]?=some v→u.plain=true∧v.oneCell'=true∧Rel J S w u v)∧∀ o,¬ S a.block o)
 | .raw cells len z,.slice (some a) _ cap =>
   U a.block=some l∧a.off=0∧len≤cap∧cap≤maxLen∧0<z∧cells.length=len*z∧cells.all gJ=true ∧
     (∃ cur e,w.heap[a.block]?=some (.cells cur e (0,0))∧cur.size=cap*z ∧
      ∀ (j:Nat) (u:I) (v:Value),cells[j]?=some u→cur[j]?=some v→v.oneCell'=true∧Rel J S w u v)∧∀ o,¬ S a.block o
 | _,_=>True
structure bg (U:Nat→Option aI) (S:Nat→Nat→Prop) (w:World) (az:Nat→Option aI) (S':Nat→Nat→Prop) (w':World):Prop where
 os:w'.os=w.os
 tape:w'.tape=w.tape
 output:w'.output=w.output
 size:w.heap.size≤w'.heap.size
 cD:∀ b,b<w.heap.size→U b=none→w'.heap[b]?=w.heap[b]?
 set:∀ b o,S b o→S' b o∧w'.cell? ⟨b,o,none⟩=w.cell? ⟨b,o,none⟩
 fresh:∀ b o,S' b o→S b o∨U b≠none∨w.heap.size≤b
 own:∀ b,az b≠none→U b≠none∨w.heap.size≤b
theorem bg.refl (U:Nat→Option aI) (S:Nat→Nat→Prop) (w:World):bg U S w U S w :=
 ⟨rfl,rfl,rfl,sb _,fun _ _ _=>rfl,fun _ _ h=>⟨h,rfl⟩,fun _ _ h=>.inl h,fun _ h=>.inl h⟩
theorem bg.trans {U b2 bn:Nat→Option aI} {S a4 bH:Nat→Nat→Prop} {w bC bT:World} (h:bg U S w b2 a4 bC) (k:bg b2 a4 bC bn bH bT) :
  bg U S w bn bH bT where
 os:=k.os.trans h.os
 tape:=k.tape.trans h.tape
 output:=k.output.trans h.output
 size:=sI h.size k.size
 cD b ag aN:=by
  have ad:b2 b=none:=by
   cases hw:b2 b with
   | none=>rfl
   | some l =>
     rcases h.own b (by simp [hw]) with af | af
     ·exact absurd aN af
     ·omega
  rw [k.cD b (Nat.lt_of_lt_of_le ag h.size) ad,h.cD b ag aN]
 set b o ai:=by
  obtain ⟨ad,af⟩:=h.set b o ai;obtain ⟨aJ,aP⟩:=k.set b o ad;exact ⟨aJ,aP.trans af⟩
 fresh b o ai:=by
  rcases k.fresh b o ai with ad | ad | ad
  ·exact h.fresh b o ad
  ·rcases h.own b ad with af | af
   ·exact .inr (.inl af)
   ·exact .inr (.inr af)
  ·exact .inr (.inr (sI h.size ad))
 own b ag:=by
  rcases k.own b ag with ad | ad
  ·exact h.own b ad
  ·exact .inr (sI h.size ad)
def Ext (J bZ:List Nat):Prop:=∀ (i b:Nat),J[i]?=some b→bZ[i]?=some b
theorem Ext.refl (J:List Nat):Ext J J:=fun _ _ h=>h
theorem Ext.trans {a b c:List Nat} (h:Ext a b) (k:Ext b c):Ext a c:=fun i x al=>k i x (h i x al)
theorem Ext.append (a b:List Nat):Ext a (a++b):=fun i x al=>by
 rw [sA (sa.1 al).1];exact al
theorem Rel.mono {J bZ:List Nat} {S S':Nat→Nat→Prop} {w w':World} (bK:Ext J bZ)
  (cm:∀ b o,S b o→S' b o∧w'.cell? ⟨b,o,none⟩=w.cell? ⟨b,o,none⟩) {u:I} {v:Value} (h:Rel J S w u v):Rel bZ S' w' u v:=by
 induction h with
 | junk v=>exact .junk v
 | bool b=>exact .bool b
 | dq b=>exact .dq b
 | int k n=>exact .int k n
 | str s=>exact .str s
 | eD=>exact .eD
 | ptr id off b h=>exact .ptr id off b (bK _ _ h)
 | bU cells b o f h aj a_ =>
   exact .bU cells b o f (fun j u aw=>let ⟨ad,af,aG⟩:=h j u aw;⟨(cm _ _ ad).1,(cm _ _ ad).2.trans af,aG⟩) a_
 | b1 c a=>exact .b1 c a
 | ay cells len c b o cap f ao hle hu h aj a_ =>
   exact .ay cells len c b o cap f ao hle hu (fun j u aw=>let ⟨ad,af,aG⟩:=h j u aw;⟨(cm _ _ ad).1,(cm _ _ ad).2.trans af,aG⟩) a_
 | cK cells len z b o cap=>exact .cK cells len z b o cap
 | raw cells len z b o cap=>exact .raw cells len z b o cap
 | ref id off len c sz b cap h ao hle=>exact .ref id off len c sz b cap (bK _ _ h) ao hle
 | cl id gid len z b cap h aO hle=>exact .cl id gid len z b cap (bK _ _ h) (bK _ _ aO) hle
 | func f as bs vs ws ad af bR b4 r1 r2 i1 i2=>exact .func f as bs vs ws ad af bR b4 i1 i2
 | yield id b h=>exact .yield id b (bK _ _ h)
 | map id b h=>exact .map id b (bK _ _ h)
 | agg as vs h p one r a_=>exact .agg as vs h p one a_
 | tuple as vs h p r a_=>exact .tuple as vs h p a_
theorem aV.mono {U az:Nat→Option aI} {J bZ:List Nat} {S S':Nat→Nat→Prop} {w w':World} {l l':aI} (bK:Ext J bZ)
  (cm:∀ b o,S b o→S' b o∧w'.cell? ⟨b,o,none⟩=w.cell? ⟨b,o,none⟩)
  (f_:∀ b,U b=some l→az b=some l'∧w'.heap[b]?=w.heap[b]?∧∀ o,S' b o→S b o) {u:I} {v:Value} (h:aV U J S w l u v) :
  aV az bZ S' w' l' u v:=by
 unfold aV at h ⊢;split at h
 ·rcases h with h | ⟨ad,af,aG,a6,bL,bV,cN,⟨cur,e,cR,cV⟩,dA⟩
  ·exact .inl h
  ·obtain ⟨aJ,aP,cj⟩:=f_ _ ad;exact .inr ⟨aJ,af,aG,a6,bL,bV,cN,⟨cur,e,aP.trans cR,cV⟩,fun o aq ai=>dA o aq (cj o ai)⟩
 ·rcases h with h | ⟨ad,aS,a6,bL,bV,cN,⟨cur,e,cR,cV,dA⟩,fk⟩
  ·exact .inl h
  ·obtain ⟨aJ,aP,cj⟩:=f_ _ ad;exact .inr ⟨aJ,aS,a6,bL,bV,cN,⟨cur,e,aP.trans cR,cV,fun j u v hu ae=>⟨(dA j u v hu ae).1,(dA j u v hu ae).2.1,((dA j u v hu ae).2.2).mono bK cm⟩⟩,fun o ai=>fk o (cj o ai)⟩
 ·obtain ⟨ad,aS,a6,bL,bV,cN,ai,⟨cur,e,cR,cV,dA⟩,fk⟩:=h;obtain ⟨aJ,aP,cj⟩:=f_ _ ad;exact ⟨aJ,aS,a6,bL,bV,cN,ai,⟨cur,e,aP.trans cR,cV,fun j u v hu ae=>⟨(dA j u v hu ae).1,((dA j u v hu ae).2).mono bK cm⟩⟩,fun o ai=>fk o (cj o ai)⟩
 ·trivial
theorem aV.b3 {U:Nat→Option aI} {J:List Nat} {S:Nat→Nat→Prop} {w:World} {l:aI} {u:I} {v:Value} (h:u.plain=true):aV U J S w l u v:=by
 unfold aV;split <;> first | trivial | simp [I.plain] at h
def gp (U:Nat→Option aI) (J:List Nat) (S:Nat→Nat→Prop) (w:World) (id:Nat):au→Prop
 | .dead=>True
 | .cells l=>∃ b cur e,J[id]?=some b∧U b=some (.obj id)∧w.heap[b]?=some (.cells cur e (0,0))∧l.length≤cur.size∧(∀ o,¬ S b o) ∧
   ∀ (j:Nat) (u:I) (v:Value),l[j]?=some u→cur[j]?=some v→u.cT=true∧v.oneCell'=true∧Rel J S w u v∧aV U J S w (.cell id j) u v
 | .loop st cF fn T params assign body jr=>codeOk jr assign=true∧codeOk jr body=true∧∃ b L,J[id]?=some b∧U b=some (.obj id)∧w.heap[b]?=some (.loop L)∧L.state=st∧L.pending=cF∧True ∧
   L.tmps.size=T.length∧(∀ (i:Nat) (u:I) (v:Value),T[i]?=some u→L.tmps[i]?=some v→u.plain=true∧Rel J S w u v)∧L.params.toList=params∧L.assign=assign∧L.body=body
 | .map es clock=>∃ b bw,J[id]?=some b∧U b=some (.obj id)∧w.heap[b]?=some (.map bw clock)∧bw.size=es.length∧(∀ o,¬ S b o) ∧
   ∀ (j i:Nat) (k v:I) (x:MapEntry),es[j]?=some (i,k,v)→bw[j]?=some x→x.born=i∧k.plain=true∧Rel J S w k x.key∧v.plain=true∧Rel J S w v x.val
 | .grow l gid z=>∃ b cur e,J[id]?=some b∧U b=some (.obj id)∧w.heap[b]?=some (.cells cur e (0,0))∧l.length≤cur.size∧(∀ o,¬ S b o) ∧
   (∀ (j:Nat) (u:I) (v:Value),l[j]?=some u→cur[j]?=some v→u.cT=true∧v.oneCell'=true∧Rel J S w u v∧aV U J S w (.cell id j) u v) ∧
   ∃ cap,J[gid]?=some cap∧cap≤maxLen∧0<z∧cur.size=cap*z
 | .iter m since seen j9=>∃ b ee,J[id]?=some b∧U b=some (.obj id)∧J[m]?=some ee∧w.heap[b]?=some (.mapIter (some ee) since seen.toArray j9)∧(∀ o,¬ S b o)
structure aL (B:Nat) (U:Nat→Option aI) (J:List Nat) (S:Nat→Nat→Prop) (w:World) (H:List au):Prop where
 cE:J.length=H.length
 obj:∀ (id:Nat) (o:au),H[id]?=some o→gp U J S w id o
 cf:∀ b o,S b o→∃ v,w.cell? ⟨b,o,none⟩=some v
 base:∀ b l,U b=some l→B≤b∧b<w.heap.size
 cX:B≤w.heap.size
structure a9 (bz:Nat→aI) (U:Nat→Option aI) (J:List Nat) (S:Nat→Nat→Prop) (w:World) (T:List I) (bd:List Value):Prop where
 len:T.length=bd.length
 rel:∀ (i:Nat) (u:I) (v:Value),T[i]?=some u→bd[i]?=some v→Rel J S w u v
 own:∀ (i:Nat) (u:I) (v:Value),T[i]?=some u→bd[i]?=some v→aV U J S w (bz i) u v
theorem AH {J bZ:List Nat} {S S':Nat→Nat→Prop} {w w':World} {u:I} {v:Value} (h:gJ u=true) (aj:Rel J S w u v):Rel bZ S' w' u v:=by
 cases aj <;> simp [gJ] at h <;> constructor
theorem EP {u:I} (h:gJ u=true):u.plain=true:=by
 cases u <;> simp [gJ] at h <;> rfl
theorem Ec {U:Nat→Option aI} {J:List Nat} {S:Nat→Nat→Prop} {w:World} {l:aI} {c:List I} {n z:Nat} {v:Value} (aj:Rel J S w (.raw c n z) v) (aq:aV U J S w l (.raw c n z) v) :
  Rel J S w (.ay c n (.uniq z)) v∧aV U J S w l (.ay c n (.uniq z)) v:=by
 cases aj with
 | raw _ _ _ b o cap =>
   obtain ⟨ad,aS,a6,bL,bV,cN,ai,⟨cur,e,cR,cV,dA⟩,fk⟩:=aq;rw [sC] at ai;exact ⟨.cK _ _ _ _ _ _,.inr ⟨ad,aS,a6,bL,bV,cN,⟨cur,e,cR,cV,fun j u v hu ae=>⟨EP (ai u (sK hu)),dA j u v hu ae⟩⟩,fk⟩⟩
theorem FH {U:Nat→Option aI} {J:List Nat} {S:Nat→Nat→Prop} {w:World} {l:aI} {c:List I} {n z:Nat} {v:Value} (aN:n≠0) (ai:c.all gJ=true) (aj:Rel J S w (.ay c n (.uniq z)) v) (aq:aV U J S w l (.ay c n (.uniq z)) v) :
  Rel J S w (.raw c n z) v∧aV U J S w l (.raw c n z) v:=by
 cases aj with
 | b1 _ a=>exact absurd rfl aN
 | ay _ _ _ b o cap f ao hle hu h aj=>exact absurd rfl (hu z)
 | cK _ _ _ b o cap =>
   rcases aq with ⟨h,_,_⟩ | ⟨ad,aS,a6,bL,bV,cN,⟨cur,e,cR,cV,dA⟩,fk⟩
   ·exact absurd h aN
   ·exact ⟨.raw _ _ _ _ _ _,ad,aS,a6,bL,bV,cN,ai,⟨cur,e,cR,cV,fun j u v hu ae=>(dA j u v hu ae).2⟩,fk⟩
theorem mr {w:World} {b o:Nat} {v:Value} (h:w.cell? ⟨b,o,none⟩=some v):b<w.heap.size:=World.block_lt_of_cell? w ⟨b,o,none⟩ h
end Go.Proofs.YtfakoboiahbhaaaGreat.Ab


namespace Go.Proofs.YtfakoboiahbhaaaGreat.Ab
open Go
structure ey (U:Nat→Option aI) (S:Nat→Nat→Prop) (az:Nat→Option aI) (S':Nat→Nat→Prop):Prop where
 set:∀ b o,S b o→S' b o
 fresh:∀ b o,S' b o→S b o∨∃ i,U b=some (.slot i)
 cD:∀ b l,U b=some l→(∀ i,l≠.slot i)→az b=some l
 none:∀ b,U b=none→az b=none
 slot:∀ b i,az b=some (.slot i)→U b=some (.slot i)
theorem ey.refl (U:Nat→Option aI) (S:Nat→Nat→Prop):ey U S U S :=
 ⟨fun _ _ h=>h,fun _ _ h=>.inl h,fun _ _ h _=>h,fun _ h=>h,fun _ _ h=>h⟩
theorem ey.trans {U b2 bn:Nat→Option aI} {S a4 bH:Nat→Nat→Prop} (h:ey U S b2 a4) (k:ey b2 a4 bn bH):ey U S bn bH where
 set b o ai:=k.set b o (h.set b o ai)
 fresh b o ai:=by
  rcases k.fresh b o ai with ad | ⟨i,ad⟩
  ·exact h.fresh b o ad
  ·exact .inr ⟨i,h.slot b i ad⟩
 cD b l ak aN:=k.cD b l (h.cD b l ak aN) aN
 none b ag:=k.none b (h.none b ag)
 slot b i ag:=h.slot b i (k.slot b i ag)
theorem ey.aA {U az:Nat→Option aI} {S S':Nat→Nat→Prop} (h:ey U S az S') (w:World):bg U S w az S' w where
 os:=rfl
 tape:=rfl
 output:=rfl
 size:=sb _
 cD _ _ _:=rfl
 set b o ai:=⟨h.set b o ai,rfl⟩
 fresh b o ai:=by
  rcases h.fresh b o ai with ad | ⟨i,ad⟩
  ·exact .inl ad
  ·exact .inr (.inl (by simp [ad]))
 own b ag:=by
  refine .inl fun aS=>ag (h.none b aS)
theorem aV.gs {U az:Nat→Option aI} {S S':Nat→Nat→Prop} (g:ey U S az S') {J:List Nat} {w:World} {l:aI} (ak:∀ i,l≠.slot i) {u:I} {v:Value}
  (h:aV U J S w l u v):aV az J S' w l u v:=by
 refine h.mono (Ext.refl J) (fun b o ai=>⟨g.set b o ai,rfl⟩) fun b ag=>⟨g.cD b l ag ak,rfl,fun o ai=>?_⟩;rcases g.fresh b o ai with ad | ⟨i,ad⟩
 ·exact ad
 ·rw [ag] at ad;cases ad;exact absurd rfl (ak i)
theorem Rel.gs {U az:Nat→Option aI} {S S':Nat→Nat→Prop} (g:ey U S az S') {J:List Nat} {w:World} {u:I} {v:Value} (h:Rel J S w u v):Rel J S' w u v :=
 h.mono (Ext.refl J) fun b o ai=>⟨g.set b o ai,rfl⟩
theorem gp.gs {U az:Nat→Option aI} {S S':Nat→Nat→Prop} (g:ey U S az S') {J:List Nat} {w:World} {id:Nat} {o:au} (h:gp U J S w id o):gp az J S' w id o:=by
 have cm:∀ b bx,U b=some (.obj bx)→∀ o,S' b o→S b o:=fun b bx ag o ai=>by
  rcases g.fresh b o ai with ad | ⟨i,ad⟩
  ·exact ad
  ·rw [ag] at ad;cases ad
 cases o with
 | dead=>trivial
 | cells l =>
   obtain ⟨b,cur,e,ad,af,aG,a6,bL,bV⟩:=h
   exact ⟨b,cur,e,ad,g.cD b _ af (by simp),aG,a6,fun o ai=>bL o (cm b id af o ai),fun j u v hu ae =>
    let ⟨aB,jn,aH,aR⟩:=bV j u v hu ae;⟨aB,jn,aH.gs g,aR.gs g (by simp)⟩⟩
 | grow l gid z =>
   obtain ⟨b,cur,e,ad,af,aG,a6,bL,bV,cN⟩:=h
   exact ⟨b,cur,e,ad,g.cD b _ af (by simp),aG,a6,fun o ai=>bL o (cm b id af o ai),fun j u v hu ae =>
    let ⟨aB,jn,aH,aR⟩:=bV j u v hu ae;⟨aB,jn,aH.gs g,aR.gs g (by simp)⟩,cN⟩
 | loop st cF fn T params assign body jr =>
   obtain ⟨al,a0,b,L,ad,af,aG,a6,bL,bV,cN,cR,cV⟩:=h;exact ⟨al,a0,b,L,ad,g.cD b _ af (by simp),aG,a6,bL,bV,cN,fun i u v hu ae=>⟨(cR i u v hu ae).1,(cR i u v hu ae).2.gs g⟩,cV⟩
 | map es clock =>
   obtain ⟨b,bw,ad,af,aG,a6,bL,bV⟩:=h
   exact ⟨b,bw,ad,g.cD b _ af (by simp),aG,a6,fun o ai=>bL o (cm b id af o ai),fun j i k v x hu ae =>
    let ⟨aB,aH,aR,bj,bb⟩:=bV j i k v x hu ae;⟨aB,aH,aR.gs g,bj,bb.gs g⟩⟩
 | iter m s e t =>
   obtain ⟨b,ee,ad,af,aG,a6,bL⟩:=h;exact ⟨b,ee,ad,g.cD b _ af (by simp),aG,a6,fun o ai=>bL o (cm b id af o ai)⟩
theorem aL.gs {B:Nat} {U az:Nat→Option aI} {S S':Nat→Nat→Prop} (g:ey U S az S') {J:List Nat} {w:World} {H:List au} (h:aL B U J S w H)
  (hw:∀ b o,S' b o→∃ v,w.cell? ⟨b,o,none⟩=some v):aL B az J S' w H where
 cE:=h.cE
 obj id o aq:=(h.obj id o aq).gs g
 cf:=hw
 base b l ak:=by
  cases ag:U b with
  | none=>rw [g.none b ag] at ak;cases ak
  | some l'=>exact h.base b l' ag
 cX:=h.cX
theorem lr (J:List Nat) (S:Nat→Nat→Prop) (w:World) (v:Value):Rel J S w (ho v) v:=by
 unfold ho;split
 ·exact .bool _
 ·exact .int _ _
 ·exact .eD
 ·exact .str _
 ·exact .b1 _ _
 ·exact .junk _
theorem m0 (v:Value):(ho v).plain=true:=by
 unfold ho;split <;> rfl
theorem I.dh (u:I):u.view.plain=true:=by
 unfold I.view;split <;> first | rfl | skip
 rename_i ad af aG a6;unfold I.plain;split
 ·exact absurd rfl (ad _ _ _)
 ·exact absurd rfl (af _ _ _)
 ·exact absurd rfl (aG _ _ _)
 ·exact absurd rfl (a6 _ _ _ _)
 ·rfl
theorem I.ga {u:I} (h:u.plain=true):u.cT=true:=by
 unfold I.plain at h;unfold I.cT;split at h <;> simp_all
theorem I.kc {u:I} (h:u.plain=true):u.view=u:=by
 unfold I.view;split <;> simp_all [I.plain]
theorem Rel.view {J:List Nat} {S:Nat→Nat→Prop} {w:World} {u:I} {v:Value} (h:Rel J S w u v) (aN:u.cT=true):Rel J S w u.view v:=by
 cases h with
 | b1 c a=>cases c <;> simp [I.view] <;> exact .b1 _ _
 | ay cells len c b o cap f ao hle hu h aj =>
   cases c with
   | shared=>exact .ay cells len .shared b o cap f ao hle hu h aj
   | full=>exact .ay cells len .full b o cap f ao hle hu h aj
   | own z=>exact .ay cells len .shared b o cap f (by simp) hle (by simp) h aj
   | uniq z=>exact absurd rfl (hu z)
 | cK=>simp [I.cT] at aN
 | raw=>exact .junk _
 | cl id gid len z b cap h aO hle=>exact .ref id 0 len none z b cap h (by simp) hle
 | junk v=>exact .junk v
 | bool b=>exact .bool b
 | dq b=>exact .dq b
 | int k n=>exact .int k n
 | str s=>exact .str s
 | eD=>exact .eD
 | ptr id off b h=>exact .ptr id off b h
 | bU cells b o f h aj=>exact .bU cells b o f h aj
 | ref id off len c sz b cap h ao hle=>exact .ref id off len c sz b cap h ao hle
 | func f as bs vs ws ad af bR b4 r1 r2=>exact .func f as bs vs ws ad af bR b4 r1 r2
 | yield id b h=>exact .yield id b h
 | map id b h=>exact .map id b h
 | agg as vs h p one r=>exact .agg as vs h p one r
 | tuple as vs h p r=>exact .tuple as vs h p r
section
variable {B:Nat} {J:List Nat} {w:World} {H:List au}
theorem a9.gs {bz:Nat→aI} (ak:∀ i k,bz i≠.slot k) {U az:Nat→Option aI} {S S':Nat→Nat→Prop} (g:ey U S az S') {T:List I} {bd:List Value} (h:a9 bz U J S w T bd) :
  a9 bz az J S' w T bd :=
 ⟨h.len,fun i u v hu ae=>(h.rel i u v hu ae).gs g,fun i u v hu ae=>(h.own i u v hu ae).gs g (ak i)⟩
theorem FC {U:Nat→Option aI} {S:Nat→Nat→Prop} {T:List I} {bd:List Value} (l:aI) (ak:∀ i,l≠.slot i)
  (bX:a9 .slot U J S w T bd) (ah:aL B U J S w H) (t:Nat) :
  ∃ az,ey U S az S∧a9 .slot az J S w (T.set t .junk) bd∧aL B az J S w H ∧
    Rel J S w (T.getD t .junk) (bd.getD t undef)∧aV az J S w l (T.getD t .junk) (bd.getD t undef):=by
 classical
 refine ⟨fun b=>if U b=some (.slot t) then some l else U b,?_,?_,?_,?_,?_⟩
 ·refine ⟨fun _ _ h=>h,fun _ _ h=>.inl h,fun b l' h aN=>?_,fun b h=>?_,fun b i h=>?_⟩
  ·have:U b≠some (.slot t):=by rw [h];intro e;cases e;exact aN t rfl
   simp only [this,if_false];exact h
  ·simp [h]
  ·split at h
   ·cases h;exact absurd rfl (ak i)
   ·exact h
 ·refine ⟨by simpa using bX.len,fun i u v hu ae=>?_,fun i u v hu ae=>?_⟩
  ·rw [vk] at hu;split at hu
   ·split at hu
    ·cases hu;exact .junk _
    ·cases hu
   ·exact bX.rel i u v hu ae
  ·rw [vk] at hu;split at hu
   ·split at hu
    ·cases hu;exact aV.b3 rfl
    ·cases hu
   ·rename_i bM;refine (bX.own i u v hu ae).mono (Ext.refl J) (fun b o ai=>⟨ai,rfl⟩) fun b ag=>⟨?_,rfl,fun o ai=>ai⟩
    have:U b≠some (.slot t):=by rw [ag];intro e;cases e;exact bM rfl
    simp only [this,if_false];exact ag
 ·refine ah.gs ⟨fun _ _ h=>h,fun _ _ h=>.inl h,fun b l' h aN=>?_,fun b h=>?_,fun b i h=>?_⟩ ah.cf
  ·have:U b≠some (.slot t):=by rw [h];intro e;cases e;exact aN t rfl
   simp only [this,if_false];exact h
  ·simp [h]
  ·split at h
   ·cases h;exact absurd rfl (ak i)
   ·exact h
 ·cases hu:T[t]? with
  | none=>rw [sG,hu];exact .junk _
  | some u =>
    have aU:=(sa.1 hu).1;have ae:bd[t]?=some (bd[t]'(bX.len ▸ aU)):=sq _;rw [sG,hu,sG,ae];exact bX.rel t _ _ hu ae
 ·cases hu:T[t]? with
  | none=>rw [sG,hu];exact aV.b3 rfl
  | some u =>
    have aU:=(sa.1 hu).1;have ae:bd[t]?=some (bd[t]'(bX.len ▸ aU)):=sq _;rw [sG,hu,sG,ae];refine (bX.own t _ _ hu ae).mono (Ext.refl J) (fun b o ai=>⟨ai,rfl⟩) fun b ag=>⟨?_,rfl,fun o ai=>ai⟩;simp [ag]
theorem j7 {U:Nat→Option aI} {S:Nat→Nat→Prop} {l:aI} {cells:List I} {len z:Nat} {v:Value} (ah:aL B U J S w H)
  (aj:Rel J S w (.ay cells len (.uniq z)) v) (aq:aV U J S w l (.ay cells len (.uniq z)) v) :
  ∃ S':Nat→Nat→Prop,(∀ b o,S b o→S' b o)∧(∀ b o,S' b o→S b o∨U b=some l)∧(∀ b o,S' b o→∃ v,w.cell? ⟨b,o,none⟩=some v) ∧
    Rel J S' w (.ay cells len .shared) v∧Rel J S' w (.ay cells len (.own z)) v∧aV U J S' w l (.ay cells len (.own z)) v:=by
 cases aj with
 | b1 c a=>exact ⟨S,fun _ _ h=>h,fun _ _ h=>.inl h,ah.cf,.b1 _ _,.b1 _ _,by cases a <;> first | trivial | exact .inl ⟨rfl,rfl,rfl⟩⟩
 | ay cells len c b o cap f ao hle b_ h yR=>exact absurd rfl (b_ z)
 | cK cells len z b o cap =>
   rcases aq with ⟨rfl,rfl,rfl⟩ | ⟨ad,aS,af,aG,a6,bL,⟨cur,e,bV,cN,cR⟩,cV⟩
   ·refine ⟨S,fun _ _ h=>h,fun _ _ h=>.inl h,ah.cf,?_,?_,.inl ⟨rfl,rfl,rfl⟩⟩
    ·exact .ay [] 0 .shared b o 0 (fun _=>undef) (by simp) (sb _) (by simp) (by simp) (by simp)
    ·exact .ay [] 0 (.own z) b o 0 (fun _=>undef) (by simp) (sb _) (by simp) (by simp) (by simp)
   ·simp only at aS;subst aS;(have jC:cells.length≤cur.size:=by rw [cN,bL];exact tA _ af);have bu:∀ j,w.cell? ⟨b,j,none⟩=cur[j]?:=fun j=>by
     unfold World.cell?;simp only at bV;rw [bV];simp
    have aO:∀ ar o,S ar o→(S ar o∨(ar=b∧o<cells.length)):=fun _ _ h=>.inl h;have CI:∀ {u:I} {v:Value},Rel J S w u v→Rel J (fun ar o=>S ar o∨(ar=b∧o<cells.length)) w u v:=fun h=>h.mono (Ext.refl J) fun b o ai=>⟨aO b o ai,rfl⟩;have ya:∀ (j:Nat) (u:I),cells[j]?=some u→(S b (0+j)∨(b=b∧0+j<cells.length))∧w.cell? ⟨b,0+j,none⟩=some (cur.getD j undef)∧u.plain=true∧(cur.getD j undef).oneCell'=true:=by
     intro j u aw;have lW:=(sa.1 aw).1;have c6:cur[j]?=some (cur[j]'(by omega)):=sD _;refine ⟨.inr ⟨rfl,by omega⟩,?_,(cR j u _ aw c6).1,?_⟩
     ·rw [sP,bu,c6];simp [Array.getD,show j<cur.size by omega]
     ·have:=(cR j u _ aw c6).2.1;simpa [Array.getD,show j<cur.size by omega] using this
    have z1:∀ (j:Nat) (u:I),cells[j]?=some u→Rel J (fun ar o=>S ar o∨(ar=b∧o<cells.length)) w u (cur.getD j undef):=by
     intro j u aw;have lW:=(sa.1 aw).1;have c6:cur[j]?=some (cur[j]'(by omega)):=sD _;have:=CI (cR j u _ aw c6).2.2;simpa [Array.getD,show j<cur.size by omega] using this
    refine ⟨fun ar o=>S ar o∨(ar=b∧o<cells.length),aO,?_,?_,?_,?_,?_⟩
    ·rintro ar o (h | ⟨rfl,h⟩)
     ·exact .inl h
     ·exact .inr ad
    ·rintro ar o (h | ⟨rfl,h⟩)
     ·exact ah.cf ar o h
     ·exact ⟨cur[o]'(by omega),by rw [bu];exact sD _⟩
    ·exact .ay cells len .shared b 0 cap (fun j=>cur.getD j undef) (by simp) af (by simp) ya z1
    ·exact .ay cells len (.own z) b 0 cap (fun j=>cur.getD j undef) (by simp) af (by simp) ya z1
    ·refine .inr ⟨ad,trivial,rfl,af,aG,a6,bL,⟨cur,e,bV,by simpa using cN⟩,fun o aq ai=>?_⟩;simp only [sP] at aq;rcases ai with ai | ⟨_,ai⟩
     ·exact cV o ai
     ·omega
theorem EV {U:Nat→Option aI} {S:Nat→Nat→Prop} {T:List I} {bd:List Value}
  (bX:a9 .slot U J S w T bd) (ah:aL B U J S w H) (t:Nat) (cells:List I) (len z:Nat) (hu:T[t]?=some (.ay cells len (.uniq z))) :
  ∃ S',ey U S U S'∧a9 .slot U J S' w (T.set t (.ay cells len (.own z))) bd∧aL B U J S' w H ∧
    Rel J S' w (.ay cells len .shared) (bd.getD t undef):=by
 have aU:=(sa.1 hu).1;have ae:bd[t]?=some (bd[t]'(bX.len ▸ aU)):=sq _;have aj:=bX.rel t _ _ hu ae;have aq:=bX.own t _ _ hu ae;rw [sG,ae];simp only [uM];generalize bd[t]'(bX.len ▸ aU)=v at ae aj aq;obtain ⟨S',aJ,aP,hw,r1,r2,eF⟩:=j7 ah aj aq;have aO:ey U S U S':=⟨aJ,fun b o h=>(aP b o h).imp id fun h=>⟨t,h⟩,fun _ _ h _=>h,fun _ h=>h,fun _ _ h=>h⟩;have C8:∀ b i,i≠t→U b=some (.slot i)→∀ o,S' b o→S b o:=fun b i hi ag o ai=>by
  rcases aP b o ai with h | h
  ·exact h
  ·rw [ag] at h;cases h;exact absurd rfl hi
 refine ⟨S',aO,⟨by simpa using bX.len,fun i bG br b_ bc=>?_,fun i bG br b_ bc=>?_⟩,ah.gs aO hw,r1⟩
 ·rw [vk] at b_;split at b_
  ·rename_i heq;subst heq;cases b_;rw [ae] at bc;cases bc;exact r2
  ·exact (bX.rel i _ _ b_ bc).gs aO
 ·rw [vk] at b_;split at b_
  ·rename_i heq;subst heq;cases b_;rw [ae] at bc;cases bc;exact eF
  ·rename_i bM;exact (bX.own i _ _ b_ bc).mono (Ext.refl J) (fun b o ai=>⟨aO.set b o ai,rfl⟩) fun b ag=>⟨ag,rfl,fun o ai=>C8 b i (fun e=>bM e.symm) ag o ai⟩
theorem a9.cons {bz:Nat→aI} {U:Nat→Option aI} {S:Nat→Nat→Prop} {u:I} {v:Value} {T:List I} {bd:List Value} (ad:Rel J S w u v) (af:aV U J S w (bz 0) u v)
  (h:a9 (fun i=>bz (i+1)) U J S w T bd):a9 bz U J S w (u::T) (v::bd):=by
 refine ⟨by simp [h.len],fun i bG br hu ae=>?_,fun i bG br hu ae=>?_⟩
 ·cases i with
  | zero=>simp at hu ae;subst hu ae;exact ad
  | succ i=>exact h.rel i bG br (by simpa using hu) (by simpa using ae)
 ·cases i with
  | zero=>simp at hu ae;subst hu ae;exact af
  | succ i=>exact h.own i bG br (by simpa using hu) (by simpa using ae)
theorem a9.nil {bz:Nat→aI} {U:Nat→Option aI} {S:Nat→Nat→Prop}:a9 bz U J S w [] []:=⟨rfl,by simp,by simp⟩
theorem Ee (a:Act):∀ (ops:List Operand) (ts:List Bool) (T:List I) (k:Nat) (U:Nat→Option aI) (S:Nat→Nat→Prop),
  a9 .slot U J S w T a.tmps.toList→aL B U J S w H →
  ∃ az S',ey U S az S'∧a9 .slot az J S' w (rd T ts ops).2 a.tmps.toList∧aL B az J S' w H∧a9 (fun i=>.arg (k+i)) az J S' w (rd T ts ops).1 (ops.map a.eval):=by
 intro ops
 induction ops with
 | nil=>intro ts T k U S bX ah;exact ⟨U,S,ey.refl _ _,by simpa [rd] using bX,ah,by simpa [rd] using a9.nil⟩
 | cons x rest a_ =>
   intro ts T k U S bX ah;have m9:∀ u:I,Rel J S w u (a.eval x)→u.plain=true→(rd T ts (x::rest))=(u::(rd T ts.tail rest).1,(rd T ts.tail rest).2) →
     ∃ az S',ey U S az S'∧a9 .slot az J S' w (rd T ts (x::rest)).2 a.tmps.toList∧aL B az J S' w H ∧
       a9 (fun i=>.arg (k+i)) az J S' w (rd T ts (x::rest)).1 ((x::rest).map a.eval):=by
    intro u hu aC he;obtain ⟨az,S',g,lN,cc,ae⟩:=a_ ts.tail T (k+1) U S bX ah;rw [he];refine ⟨az,S',g,lN,cc,?_⟩;refine a9.cons (hu.gs g) (aV.b3 aC) ?_;simpa [tK,te 1] using ae
   cases x with
   | const v =>
     exact m9 (ho v) (lr J S w v) (m0 v) rfl
   | func f=>exact m9 (.func f [] []) (.func f [] [] #[] #[] rfl rfl (by simp) (by simp) (by simp) (by simp)) rfl rfl
   | global g=>exact m9 .junk (.junk _) rfl rfl
   | tmp t =>
     (have jE:a.eval (.tmp t)=a.tmps.toList.getD t undef:=by simp [Act.eval,sy]);cases ax:ts.headD false with
     | true =>
       obtain ⟨b2,cb,kp,bW,dr,jJ⟩:=FC (.arg k) (by simp) bX ah t;obtain ⟨az,S',g,lN,cc,ae⟩:=a_ ts.tail (T.set t .junk) (k+1) b2 S kp bW;have he:rd T ts (.tmp t::rest)=(T.getD t .junk::(rd (T.set t .junk) ts.tail rest).1,(rd (T.set t .junk) ts.tail rest).2):=by
        simp only [rd,ax,gL,fV]
       rw [he];refine ⟨az,S',cb.trans g,lN,cc,?_⟩;refine a9.cons ?_ ?_ ?_
       ·rw [jE];exact dr.gs g
       ·rw [jE];exact jJ.gs g (by simp)
       ·simpa [tK,te 1] using ae
     | false =>
       have he:rd T ts (.tmp t::rest)=((T.getD t .junk).view::(rd (fP T t (T.getD t .junk)) ts.tail rest).1,(rd (fP T t (T.getD t .junk)) ts.tail rest).2):=by
        simp only [rd,ax,fV]
       by_cases a3:∃ cells len z,T[t]?=some (.ay cells len (.uniq z))
       ·obtain ⟨cells,len,z,a3⟩:=a3;obtain ⟨a4,cb,kp,bW,dr⟩:=EV bX ah t cells len z a3;obtain ⟨az,S',g,lN,cc,ae⟩:=a_ ts.tail (T.set t (.ay cells len (.own z))) (k+1) U a4 kp bW;(have aO:T.getD t .junk=.ay cells len (.uniq z):=by rw [sG,a3];rfl);rw [he,aO];simp only [fP,gL,I.view];refine ⟨az,S',cb.trans g,lN,cc,?_⟩;refine a9.cons ?_ (aV.b3 rfl) ?_
        ·rw [jE];exact dr.gs g
        ·simpa [tK,te 1] using ae
       ·have pA:(T.getD t .junk).cT=true:=by
         rw [sG];cases hu:T[t]? with
         | none=>rfl
         | some u =>
           simp only [uM];unfold I.cT;split
           ·exact absurd ⟨_,_,_,hu⟩ a3
           ·rfl
        have ei:fP T t (T.getD t .junk)=T:=by
         unfold fP;split
         ·rename_i h;rw [h] at pA;simp [I.cT] at pA
         ·rfl
        have aj:Rel J S w (T.getD t .junk) (a.eval (.tmp t)):=by
         rw [jE];cases hu:T[t]? with
         | none=>rw [sG,hu];exact .junk _
         | some u =>
           have aU:=(sa.1 hu).1;have ae:a.tmps.toList[t]?=some (a.tmps.toList[t]'(bX.len ▸ aU)):=sq _;rw [sG,hu,sG,ae];exact bX.rel t _ _ hu ae
        refine m9 (T.getD t .junk).view (aj.view pA) (I.dh _) ?_;rw [he,ei]
end
end Go.Proofs.YtfakoboiahbhaaaGreat.Ab


namespace Go.Proofs.YtfakoboiahbhaaaGreat.Ab
open Go
section
variable {P:Program} {B:Nat} {J:List Nat} {w:World} {H:List au} {U:Nat→Option aI} {S:Nat→Nat→Prop}
def a1 (B:Nat) (U:Nat→Option aI) (J:List Nat) (S:Nat→Nat→Prop) (w:World) (H':List au) (r:I) (v:Value) (w':World):Prop :=
 ∃ az bZ S',Ext J bZ∧bg U S w az S' w'∧aL B az bZ S' w' H'∧Rel bZ S' w' r v∧aV az bZ S' w' .res r v
theorem a1.same (ah:aL B U J S w H) {r:I} {v:Value} (aj:Rel J S w r v) (aC:r.plain=true):a1 B U J S w H r v w :=
 ⟨U,J,S,Ext.refl J,bg.refl _ _ _,ah,aj,aV.b3 aC⟩
theorem aL.settle (ah:aL B U J S w H) {S':Nat→Nat→Prop} (ad:∀ b o,S b o→S' b o)
  (af:∀ b o,S' b o→S b o∨∃ l,U b=some l∧(∀ id,l≠.obj id)∧∀ id j,l≠.cell id j) (aG:∀ b o,S' b o→∃ v,w.cell? ⟨b,o,none⟩=some v):aL B U J S' w H:=by
 have hm:∀ {u:I} {v:Value},Rel J S w u v→Rel J S' w u v:=fun h=>h.mono (Ext.refl J) fun b o ai=>⟨ad b o ai,rfl⟩;refine ⟨ah.cE,fun id o aq=>?_,aG,ah.base,ah.cX⟩;have h:=ah.obj id o aq;cases o with
 | dead=>trivial
 | cells l =>
   obtain ⟨b,cur,e,aB,aH,aR,bj,bb,bf⟩:=h;refine ⟨b,cur,e,aB,aH,aR,bj,fun o ai=>?_,fun j u v hu ae=>?_⟩
   ·rcases af b o ai with h | ⟨l,h,ca,_⟩
    ·exact bb o h
    ·rw [aH] at h;cases h;exact ca id rfl
   ·obtain ⟨a',c0,bk,bq⟩:=bf j u v hu ae;refine ⟨a',c0,hm bk,bq.mono (Ext.refl J) (fun b o ai=>⟨ad b o ai,rfl⟩) fun b ag=>⟨ag,rfl,fun o ai=>?_⟩⟩;rcases af b o ai with h | ⟨l,h,_,cn⟩
    ·exact h
    ·rw [ag] at h;cases h;exact absurd rfl (cn id j)
 | grow l gid z =>
   obtain ⟨b,cur,e,aB,aH,aR,bj,bb,bf,c1⟩:=h;refine ⟨b,cur,e,aB,aH,aR,bj,fun o ai=>?_,fun j u v hu ae=>?_,c1⟩
   ·rcases af b o ai with h | ⟨l,h,ca,_⟩
    ·exact bb o h
    ·rw [aH] at h;cases h;exact ca id rfl
   ·obtain ⟨a',c0,bk,bq⟩:=bf j u v hu ae;refine ⟨a',c0,hm bk,bq.mono (Ext.refl J) (fun b o ai=>⟨ad b o ai,rfl⟩) fun b ag=>⟨ag,rfl,fun o ai=>?_⟩⟩;rcases af b o ai with h | ⟨l,h,_,cn⟩
    ·exact h
    ·rw [ag] at h;cases h;exact absurd rfl (cn id j)
 | loop st cF fn T params assign body jr =>
   obtain ⟨al,a0,b,L,aB,aH,aR,bj,bb,bf,c1,da,dF⟩:=h;exact ⟨al,a0,b,L,aB,aH,aR,bj,bb,bf,c1,fun i u v hu ae=>⟨(da i u v hu ae).1,hm (da i u v hu ae).2⟩,dF⟩
 | map es clock =>
   obtain ⟨b,bw,aB,aH,aR,bj,bb,bf⟩:=h;refine ⟨b,bw,aB,aH,aR,bj,fun o ai=>?_,fun j i k v x hu ae=>?_⟩
   ·rcases af b o ai with h | ⟨l,h,ca,_⟩
    ·exact bb o h
    ·rw [aH] at h;cases h;exact ca id rfl
   ·obtain ⟨a',bk,bq,b7,dY⟩:=bf j i k v x hu ae;exact ⟨a',bk,hm bq,b7,hm dY⟩
 | iter m s e t =>
   obtain ⟨b,ee,aB,aH,aR,bj,bb⟩:=h;refine ⟨b,ee,aB,aH,aR,bj,fun o ai=>?_⟩;rcases af b o ai with h | ⟨l,h,ca,_⟩
   ·exact bb o h
   ·rw [aH] at h;cases h;exact ca id rfl
theorem bg.settle {S':Nat→Nat→Prop} (ad:∀ b o,S b o→S' b o) (af:∀ b o,S' b o→S b o∨∃ l,U b=some l):bg U S w U S' w :=
 ⟨rfl,rfl,rfl,sb _,fun _ _ _=>rfl,fun b o h=>⟨ad b o h,rfl⟩,fun b o h=>(af b o h).imp id fun ⟨l,ak⟩=>.inl (by simp [ak]),fun _ h=>.inl h⟩
theorem a9.gN {bz:Nat→aI} {u:I} {T:List I} {bd:List Value} (h:a9 bz U J S w (u::T) bd) :
  ∃ v hJ,bd=v::hJ∧Rel J S w u v∧aV U J S w (bz 0) u v∧a9 (fun i=>bz (i+1)) U J S w T hJ:=by
 cases bd with
 | nil=>exact absurd h.len (by simp)
 | cons v hJ =>
   exact ⟨v,hJ,rfl,h.rel 0 u v rfl rfl,h.own 0 u v rfl rfl,by simpa using h.len,fun i bG br hu ae=>h.rel (i+1) bG br (by simpa using hu) (by simpa using ae),
    fun i bG br hu ae=>h.own (i+1) bG br (by simpa using hu) (by simpa using ae)⟩
theorem EU:∀ (T:List I) (bd:List Value) (bz:Nat→aI) (S:Nat→Nat→Prop),(∀ i j,bz i=bz j→i=j)→(∀ i id,bz i≠.obj id)→(∀ i id j,bz i≠.cell id j) →
  a9 bz U J S w T bd→aL B U J S w H →
  ∃ S':Nat→Nat→Prop,(∀ b o,S b o→S' b o)∧(∀ b o,S' b o→S b o∨∃ i,U b=some (bz i))∧aL B U J S' w H∧a9 bz U J S' w (T.map I.view) bd:=by
 intro T
 induction T with
 | nil=>intro bd bz S _ _ _ ae ah;exact ⟨S,fun _ _ h=>h,fun _ _ h=>.inl h,ah,by simpa using ae⟩
 | cons u T a_ =>
   intro bd bz S aw ca cn ae ah;obtain ⟨v,hJ,rfl,aj,aq,ax⟩:=ae.gN;have first:∃ a4:Nat→Nat→Prop,(∀ b o,S b o→a4 b o)∧(∀ b o,a4 b o→S b o∨U b=some (bz 0))∧aL B U J a4 w H∧Rel J a4 w u.view v:=by
    by_cases hu:u.cT=true
    ·exact ⟨S,fun _ _ h=>h,fun _ _ h=>.inl h,ah,aj.view hu⟩
    ·obtain ⟨cells,len,z,rfl⟩:∃ cells len z,u=.ay cells len (.uniq z):=by
      unfold I.cT at hu;split at hu
      ·exact ⟨_,_,_,rfl⟩
      ·simp at hu
     obtain ⟨a4,aJ,aP,cj,r1,_,_⟩:=j7 ah aj aq;exact ⟨a4,aJ,aP,ah.settle aJ (fun b o h=>(aP b o h).imp id fun h=>⟨_,h,ca 0,cn 0⟩) cj,r1⟩
   (obtain ⟨a4,aJ,aP,bW,dr⟩:=first);have pH:a9 (fun i=>bz (i+1)) U J a4 w T hJ:=by
    refine ⟨ax.len,fun i bG br hu ae=>(ax.rel i bG br hu ae).mono (Ext.refl J) fun b o ai=>⟨aJ b o ai,rfl⟩,fun i bG br hu ae=>?_⟩;refine (ax.own i bG br hu ae).mono (Ext.refl J) (fun b o ai=>⟨aJ b o ai,rfl⟩) fun b ag=>⟨ag,rfl,fun o ai=>?_⟩;rcases aP b o ai with h | h
    ·exact h
    ·rw [ag] at h;injection h with h;exact absurd (aw _ _ h) (by omega)
   obtain ⟨S',du,dm,cc,bc⟩:=a_ hJ (fun i=>bz (i+1)) a4 (fun i j h=>by have:=aw _ _ h;omega) (fun i=>ca (i+1)) (fun i=>cn (i+1)) pH bW;refine ⟨S',fun b o h=>du b o (aJ b o h),fun b o h=>?_,cc,?_⟩
   ·rcases dm b o h with h | ⟨i,h⟩
    ·exact (aP b o h).imp id fun h=>⟨0,h⟩
    ·exact .inr ⟨i+1,h⟩
   ·exact a9.cons (dr.mono (Ext.refl J) fun b o ai=>⟨du b o ai,rfl⟩) (aV.b3 (I.dh _)) bc
theorem Rel.dc {k:IntKind} {n:Int} {v:Value} (h:Rel J S w (.int k n) v):v=.int k n:=by cases h;rfl
theorem Rel.hW {b:Bool} {v:Value} (h:Rel J S w (.bool b) v):v=.bool b:=by cases h;rfl
theorem Rel.Bu {v:Value} (h:Rel J S w .dq v):∃ b,v=.bool b:=by cases h;exact ⟨_,rfl⟩
def e5 (P:Program) (o:Oper) (aT:Operand→Value) (J:List Nat) (S:Nat→Nat→Prop) (w:World) (r:I):Prop :=
 ∃ v,(Go.execOp aT o).run P w=.ok (.value v) w∧Rel J S w r v
theorem zp {o:Oper} {aT:Operand→Value} {c a b:Operand} (aq:o.op=.pick c a b) {x:Bool} {ft gi:I} (ad:Rel J S w (.bool x) (aT c))
  (af:Rel J S w ft (aT a)) (aG:Rel J S w gi (aT b)):e5 P o aT J S w (match x with | true=>ft | false=>gi):=by
 have e:=ad.hW;cases x with
 | true=>exact ⟨aT a,by simp [Go.execOp,aq,e,asBool],af⟩
 | false=>exact ⟨aT b,by simp [Go.execOp,aq,e,asBool],aG⟩
theorem DM {o:Oper} {aT:Operand→Value} {x:Operand} (aq:o.op=.nilCheck x) {id off:Nat} (ad:Rel J S w (.ptr id off) (aT x)) :
  e5 P o aT J S w (.ptr id off):=by
 refine ⟨aT x,?_,ad⟩;generalize al:aT x=cA at ad ⊢;cases ad with
 | ptr id off b h=>simp [Go.execOp,aq,al]
theorem DN {o:Oper} {aT:Operand→Value} {x:Operand} (aq:o.op=.nilCheck x) {cells:List I} (ad:Rel J S w (.bU cells) (aT x)) :
  e5 P o aT J S w (.bU cells):=by
 generalize ae:aT x=v at ad;have af:=ad;cases ad with
 | bU _ b cL f h aj=>exact ⟨.pointer (some ⟨b,cL,none⟩),by simp [Go.execOp,aq,ae],af⟩
theorem DO {o:Oper} {aT:Operand→Value} {op:UnOp} {t:TypeId} {x:Operand} (aq:o.op=.unOp op t x) {u r:I} (aj:ke op u=some r) (ad:Rel J S w u (aT x)) :
  e5 P o aT J S w r:=by
 unfold ke at aj;split at aj
 ·have e:=ad.hW;cases op <;> simp at aj;subst aj;exact ⟨_,by simp [Go.execOp,aq,e,Op.unary],.bool _⟩
 ·have e:=ad.dc;cases op <;> simp at aj;subst aj;exact ⟨_,by simp [Go.execOp,aq,e,Op.unary,Op.intArith],.int _ _⟩
 ·simp at aj
theorem DE {o:Oper} {aT:Operand→Value} {s d:TypeId} {x:Operand} (aq:o.op=.convert s d x) {u r:I} (aj:lp P s d u=some r) (ad:Rel J S w u (aT x)):e5 P o aT J S w r:=by
 unfold lp at aj;split at aj
 ·have e:=ad.dc;split at aj
  ·rename_i ds k Ck av;simp at aj;subst aj;refine ⟨_,?_,.int _ _⟩;simp only [Go.execOp,aq,e,convert,Sem.run_bind,run_underlying Ck,run_underlying av,Result.andThen_ok];cases ds <;> simp [Conv.intToInt]
  ·simp at aj
 ·simp at aj
theorem DJ {o:Oper} {aT:Operand→Value} {fn:Fn} {first captured:Array Operand} (aq:o.op=.makeFunc fn first captured) {us:List I} {r:I}
  (aj:mB fn first.size captured.size us=some r) {bz:Nat→aI} (ae:a9 bz U J S w us ((first++captured).toList.map aT)) (aC:∀ u∈us,u.plain=true) :
  e5 P o aT J S w r:=by
 unfold mB at aj;split at aj
 ·rename_i f;split at aj
  ·rename_i ak;simp at aj;subst aj;refine ⟨.func (.func f) (first.map aT) (captured.map aT),by simp [Go.execOp,aq,Instr.makeFunc],.func f _ _ _ _ ?_ ?_ ?_ ?_ ?_ ?_⟩
   ·simp;omega
   ·simp;omega
   ·exact fun u hu=>aC u (uA hu)
   ·exact fun u hu=>aC u (vl hu)
   ·intro j u v hu bc;refine ae.rel j u v ?_ ?_
    ·rw [sV] at hu;split at hu <;> simp_all
    ·simp only [vm,rZ] at bc;obtain ⟨x,al,rfl⟩:=bc;have:=(sW.1 al).1;rw [sD this] at al;cases al;simp [sA,this]
   ·intro j u v hu bc;refine ae.rel (first.size+j) u v ?_ ?_
    ·simpa [sX] using hu
    ·simp only [vm,rZ] at bc;obtain ⟨x,al,rfl⟩:=bc;simp [sL,al]
  ·simp at aj
 ·simp at aj
theorem DG {o:Oper} {aT:Operand→Value} {x:Operand} {i:Nat} (aq:o.op=.extract x i) {u r:I} (aj:mY i u=some r) (ad:Rel J S w u (aT x)) :
  e5 P o aT J S w r.view:=by
 unfold mY at aj;generalize al:aT x=cA at ad;split at aj
 ·cases ad with
  | tuple as vs h p mJ =>
    have aU:=(sa.1 aj).1;have ae:vs[i]?=some (vs[i]'(by omega)):=sD _;have aC:r.plain=true:=p r (sK aj);refine ⟨vs[i]'(by omega),?_,?_⟩
    ·simp [Go.execOp,aq,al,Instr.extract,ae]
    ·rw [I.kc aC];exact mJ i _ _ aj ae
 ·simp at aj
theorem EE {op:BinOp} {t:TypeId} {x y:Operand} {k k':IntKind} {a b:Int}:(eqGuard op t x y (.int k a) (.int k' b)).run P w=.ok () w:=by
 unfold eqGuard;split <;> simp
theorem ED {op:BinOp} {t:TypeId} {k k':IntKind} {a b:Int} {r:I} (aj:fj P op t (.int k a) (.int k' b)=some r) :
  ∃ v,(Go.binOp op t (.int k a) (.int k' b)).run P w=.ok v w∧Rel J S w r v:=by
 have EW:∀ mz,(mz=.shl∨mz=.shr)→hn mz k a b=some r→∃ v,(Op.shift mz k a k' b).run P w=.ok v w∧Rel J S w r v:=by
  intro mz aD h;unfold hn at h;split at h
  ·simp at h
  ·rename_i ag;rcases aD with rfl | rfl <;> simp at h <;> subst h
   ·exact ⟨_,by simp [Op.shift,ag],.int _ _⟩
   ·exact ⟨_,by simp [Op.shift,ag],.int _ _⟩
 have By:k=k'→jo op k a b=some r→∃ v,(Go.binOp op t (.int k a) (.int k' b)).run P w=.ok v w∧Rel J S w r v:=by
  rintro rfl h;cases op <;> simp only [jo,Option.some.injEq,reduceCtorEq] at h
  case quo =>
   split at h
   ·simp at h
   ·rename_i ag;simp at h;subst h;exact ⟨_,by simp [Go.binOp,Op.intDiv,ag],.int _ _⟩
  case rem =>
   split at h
   ·simp at h
   ·rename_i ag;simp at h;subst h;exact ⟨_,by simp [Go.binOp,Op.intDiv,ag],.int _ _⟩
  all_goals subst h
  all_goals first
   | (refine ⟨_,?_,.bool _⟩;simp [Go.binOp,Op.intCmp];done)
   | (refine ⟨_,?_,.int _ _⟩;simp [Go.binOp,Op.intArith];done)
   | (refine ⟨_,?_,.int _ _⟩;simp [Go.binOp,Op.intBits];done)
 unfold fj at aj;cases op <;> simp only at aj <;> first
  | (obtain ⟨v,ad,af⟩:=EW _ (by simp) aj;exact ⟨v,by simpa [Go.binOp] using ad,af⟩)
  | (split at aj
     ·exact By ‹_› aj
     ·simp at aj)
theorem DD {o:Oper} {aT:Operand→Value} {op:BinOp} {t im:TypeId} {x y:Operand} (aq:o.op=.binOp op t x y im) {k k':IntKind} {a b:Int} {r:I}
  (aj:fj P op t (.int k a) (.int k' b)=some r) (ad:Rel J S w (.int k a) (aT x)) (af:Rel J S w (.int k' b) (aT y)):e5 P o aT J S w r:=by
 obtain ⟨v,ae,b9⟩:=ED (P:=P) (w:=w) (J:=J) (S:=S) (t:=t) aj;refine ⟨v,?_,b9⟩;simp only [Go.execOp,aq,ad.dc,af.dc,Sem.run_bind,EE,ae,Result.andThen_ok,Sem.run_pure]
theorem mP {t:TypeId} {s:Nat} (h:bS P t=some s):∃ i,P.info? t=some i∧i.size=s:=by
 simp only [bS,rZ] at h;exact h
theorem run_sizeOf {t:TypeId} {s:Nat} (h:bS P t=some s):(sizeOf t).run P w=.ok s w:=by
 obtain ⟨i,hi,rfl⟩:=mP h;simp [sizeOf,typeInfo,hi]
theorem gI {t:TypeId} {d:TypeDesc} (h:P.underlying t=some d):(isAgg t).run P w=.ok (dK P t) w:=by
 simp only [isAgg,dK,h,Sem.run_bind,run_underlying h,Result.andThen_ok];cases d <;> simp
theorem lB {i:Int} {len j:Nat} (h:gR i len=some j):0≤i∧i<len∧j=i.toNat:=by
 unfold gR at h;split at h
 ·simp at h;exact ⟨by omega,by omega,h.symm⟩
 ·simp at h
theorem add_lit (b o n:Nat):(⟨b,o,none⟩:Addr).add n=⟨b,o+n,none⟩:=by
 unfold Addr.add;split <;> simp_all
theorem Rel.drop {cells:List I} {b o:Nat} {f:Nat→Value} (n:Nat)
  (h:∀ (j:Nat) (u:I),cells[j]?=some u→S b (o+j)∧w.cell? ⟨b,o+j,none⟩=some (f j)∧u.plain=true∧(f j).oneCell'=true)
  (aj:∀ (j:Nat) (u:I),cells[j]?=some u→Rel J S w u (f j)):Rel J S w (.bU (cells.drop n)) (.pointer (some ⟨b,o+n,none⟩)):=by
 refine .bU _ b (o+n) (fun j=>f (n+j)) (fun j u hu=>?_) (fun j u hu=>?_)
 ·rw [sX] at hu;have:=h (n+j) u hu
  rwa [show o+n+j=o+(n+j) by omega]
 ·rw [sX] at hu;exact aj (n+j) u hu
theorem DL {o:Oper} {aT:Operand→Value} {t:TypeId} {x i:Operand} (aq:o.op=.indexAddr t x i) {ft gi r:I} (aj:hU P t ft gi=some r)
  (ad:Rel J S w ft (aT x)) (af:Rel J S w gi (aT i)) (aN:ft.cT=true):e5 P o aT J S w r:=by
 unfold hU at aj;generalize al:aT x=cA at ad;split at aj
 ·rename_i aZ;simp only [sf,rZ] at aj;obtain ⟨s,ai,j,aw,rfl⟩:=aj;obtain ⟨du,dm,rfl⟩:=lB aw;have e:=af.dc;cases ad with
  | b1 c a=>exact absurd dm (by simp;omega)
  | cK=>simp [I.cT] at aN
  | ay cells len c b jT cap f ao hle hu h fp =>
    refine ⟨_,?_,Rel.drop _ h fp⟩;simp [Go.execOp,aq,al,e,Instr.indexAt,asIntOf,run_underlying aZ,du,dm,run_sizeOf ai,add_lit]
 ·rename_i aZ;simp only [sf,rZ] at aj;obtain ⟨s,ai,j,aw,rfl⟩:=aj;obtain ⟨du,dm,rfl⟩:=lB aw;have e:=af.dc;cases ad with
  | ref id off len c sz b cap h ao hle =>
    refine ⟨_,?_,.ptr _ _ b h⟩;simp [Go.execOp,aq,al,e,Instr.indexAt,asIntOf,run_underlying aZ,du,dm,run_sizeOf ai,add_lit]
 ·rename_i aZ;simp only [sf,rZ] at aj;obtain ⟨s,ai,j,aw,rfl⟩:=aj;obtain ⟨du,dm,rfl⟩:=lB aw;have e:=af.dc;cases ad with
  | ptr id off b h =>
    refine ⟨_,?_,.ptr _ _ b h⟩;simp [Go.execOp,aq,al,e,Instr.indexAt,asIntOf,Instr.sureAddr,run_underlying aZ,du,dm,run_sizeOf ai,add_lit]
 ·rename_i aZ;simp only [sf,rZ] at aj;obtain ⟨s,ai,j,aw,rfl⟩:=aj;obtain ⟨du,dm,rfl⟩:=lB aw;have e:=af.dc;cases ad with
  | bU cells b jT f h fp =>
    refine ⟨_,?_,Rel.drop _ h fp⟩;simp [Go.execOp,aq,al,e,Instr.indexAt,asIntOf,Instr.sureAddr,run_underlying aZ,du,dm,run_sizeOf ai,add_lit]
 ·simp at aj
theorem Az {b o s:Nat} {g:Field} (ai:bS P g.type=some s) (aS:s≠0):(fieldPlace ⟨b,o,none⟩ g).run P w=.ok ⟨b,o+g.offset,none⟩ w:=by
 simp [fieldPlace,run_sizeOf ai,aS,add_lit]
theorem DI {o:Oper} {aT:Operand→Value} {t:TypeId} {x:Operand} {lG:Nat} (aq:o.op=.fieldAddr t x lG) {u r:I} (aj:jq P t u lG=some r)
  (ad:Rel J S w u (aT x)):e5 P o aT J S w r:=by
 unfold jq at aj;generalize al:aT x=cA at ad;split at aj
 ·rename_i aZ;simp only [sf] at aj;obtain ⟨g,aO,s,ai,aj⟩:=aj;split at aj
  ·simp at aj
  ·rename_i aS;simp at aj;subst aj;cases ad with
   | ptr id off b h =>
     refine ⟨_,?_,.ptr _ _ b h⟩;simp [Go.execOp,aq,al,Instr.fieldAt,Instr.sureAddr,run_underlying aZ,aO,Az ai aS]
 ·rename_i aZ;simp only [sf] at aj;obtain ⟨g,aO,s,ai,aj⟩:=aj;split at aj
  ·simp at aj
  ·rename_i aS;simp at aj;subst aj;cases ad with
   | bU cells b jT f h fp =>
     refine ⟨_,?_,Rel.drop _ h fp⟩;simp [Go.execOp,aq,al,Instr.fieldAt,Instr.sureAddr,run_underlying aZ,aO,Az ai aS]
 ·simp at aj
theorem y5 {t:TypeId} (h:dK P t=true):∃ d,P.underlying t=some d:=by
 unfold dK at h;split at h <;> first | exact ⟨_,by assumption⟩ | simp at h
theorem AF {t:TypeId} {as:List I} {vs:Array Value} {off:Nat} {r:I} (aj:iz P t as off=some r) (ak:vs.size=as.length)
  (aC:∀ u∈as,u.plain=true) (eo:∀ v∈vs.toList,v.oneCell'=true) (b9:∀ (j:Nat) (u:I) (v:Value),as[j]?=some u→vs[j]?=some v→Rel J S w u v) :
  ∃ v,(part t vs off).run P w=.ok v w∧Rel J S w r v∧r.plain=true:=by
 unfold iz at aj;cases ch:dK P t with
 | true =>
   obtain ⟨d,aZ⟩:=y5 ch;rw [ch] at aj;simp only [sf] at aj;obtain ⟨s,ai,aj⟩:=aj;split at aj
   ·rename_i hle;simp at aj;subst aj;refine ⟨.agg (vs.extract off (off+s)),by simp [part,gI aZ,ch,run_sizeOf ai],.agg _ _ ?_ ?_ ?_ ?_,rfl⟩
    ·simp;omega
    ·exact fun u hu=>aC u (vl (uA hu))
    ·exact fun v ae=>eo v (by rw [Array.toList_extract] at ae;exact vl (uA ae))
    ·intro j u v hu ae;rw [sV] at hu;split at hu
     ·rw [sX] at hu;rw [Array.getElem?_extract] at ae;split at ae
      ·exact b9 _ u v hu ae
      ·simp at ae
     ·simp at hu
   ·simp at aj
 | false =>
   rw [ch] at aj;simp only at aj;split at aj
   ·rename_i d aZ;have aU:=(sa.1 aj).1;have ae:vs[off]?=some (vs[off]'(by omega)):=sD _;exact ⟨_,by simp [part,gI aZ,ch,ae],b9 off _ _ aj ae,aC r (sK aj)⟩
   ·simp at aj
theorem DH {o:Oper} {aT:Operand→Value} {t:TypeId} {x:Operand} {lG:Nat} (aq:o.op=.field t x lG) {u r:I} (aj:mZ P t u lG=some r)
  (ad:Rel J S w u (aT x)):e5 P o aT J S w r.view:=by
 unfold mZ at aj;generalize al:aT x=cA at ad;split at aj
 ·rename_i aZ;simp only [sf] at aj;obtain ⟨g,aO,aj⟩:=aj;cases ad with
  | agg as vs h p one mJ =>
    obtain ⟨v,ae,b9,h6⟩:=AF (w:=w) aj h p one mJ;refine ⟨v,?_,by rw [I.kc h6];exact b9⟩;simp [Go.execOp,aq,al,Instr.field,run_underlying aZ,aO,asAgg,ae]
 ·simp at aj
theorem DK {o:Oper} {aT:Operand→Value} {t:TypeId} {x i:Operand} (aq:o.op=.index t x i) {ft gi r:I} (aj:ox P t ft gi=some r)
  (ad:Rel J S w ft (aT x)) (af:Rel J S w gi (aT i)):e5 P o aT J S w r.view:=by
 unfold ox at aj;generalize al:aT x=cA at ad;split at aj
 ·rename_i aZ;simp only [sf] at aj;obtain ⟨s,ai,j,aw,aj⟩:=aj;obtain ⟨du,dm,rfl⟩:=lB aw;have e:=af.dc;cases ad with
  | agg as vs h p one mJ =>
    obtain ⟨v,ae,b9,h6⟩:=AF (w:=w) aj h p one mJ;refine ⟨v,?_,by rw [I.kc h6];exact b9⟩;simp [Go.execOp,aq,al,e,Instr.index,asIntOf,run_underlying aZ,du,dm,run_sizeOf ai,ae]
 ·rename_i b k n aZ;have e:=af.dc;split at aj
  ·rename_i aS;simp only [rZ] at aj;obtain ⟨y,a0,rfl⟩:=aj;cases ad with
   | str b =>
     refine ⟨_,?_,.int _ _⟩;simp [Go.execOp,aq,al,e,Instr.index,asIntOf,run_underlying aZ,aS,a0]
  ·simp at aj
 ·simp at aj
theorem EG {t e:TypeId} (d:Nat) (ax:P.underlying t=some (.slice e)) (a:Addr) (len cap:Nat) :
  (Op.equalIn (d+1) t (.slice (some a) len cap) (.slice none 0 0)).run P w=.ok false w:=by
 rw [Op.equalIn];simp [run_underlying ax]
theorem n6 {t e:TypeId} (ax:P.underlying t=some (.slice e)) (a:Addr) (len cap:Nat) :
  (Op.equal t (.slice (some a) len cap) (.slice none 0 0)).run P w=.ok false w:=EG 9999 ax a len cap
theorem run_equalIn_bool {t:TypeId} (d:Nat) (ax:P.underlying t=some .bool) (a b:Bool):(Op.equalIn (d+1) t (.bool a) (.bool b)).run P w=.ok (a == b) w:=by
 rw [Op.equalIn];simp [run_underlying ax]
theorem run_equal_bool {t:TypeId} (ax:P.underlying t=some .bool) (a b:Bool):(Op.equal t (.bool a) (.bool b)).run P w=.ok (a == b) w:=run_equalIn_bool 9999 ax a b
theorem EH {t e:TypeId} (d:Nat) (ax:P.underlying t=some (.slice e)) (len cap:Nat) :
  (Op.equalIn (d+1) t (.slice none len cap) (.slice none 0 0)).run P w=.ok true w:=by
 rw [Op.equalIn];simp [run_underlying ax]
theorem Ay {t e:TypeId} (ax:P.underlying t=some (.slice e)) (len cap:Nat) :
  (Op.equal t (.slice none len cap) (.slice none 0 0)).run P w=.ok true w:=EH 9999 ax len cap
theorem DF {o:Oper} {aT:Operand→Value} {op:BinOp} {t im:TypeId} {x y:Operand} (aq:o.op=.binOp op t x y im) (a0:iQ y=true) {u r:I}
  (aj:mX P op t u=some r) (ad:Rel J S w u (aT x)) (eN:∀ v,aT (.const v)=v):e5 P o aT J S w r:=by
 have Da:y=.const (.slice none 0 0):=by
  unfold iQ at a0;split at a0
  ·rfl
  ·simp at a0
 subst Da;generalize al:aT x=cA at ad;unfold mX at aj;split at aj
 ·rename_i e ax;have ai:((∃ b jT len cap,cA=.slice (some ⟨b,jT,none⟩) len cap)∧((op=.eql∧r=.bool false)∨(op=.neq∧r=.bool true))) ∨
    ((∃ a len cap,cA=.slice a len cap)∧(op=.eql∨op=.neq)∧r=.dq):=by
   split at aj
   ·refine .inl ⟨?_,by split at aj <;> simp_all⟩;cases ad with
    | ay cells len c b jT cap f ao hle hu h fp=>exact ⟨_,_,_,_,rfl⟩
    | cK=>exact ⟨_,_,_,_,rfl⟩
   ·refine .inl ⟨?_,by split at aj <;> simp_all⟩;cases ad with
    | ref id off len c sz b cap h ao hle=>exact ⟨_,_,_,_,rfl⟩
   ·refine .inr ⟨?_,by split at aj <;> simp_all⟩;cases ad with
    | b1 c a=>exact ⟨_,_,_,rfl⟩
    | ay cells len c b jT cap f ao hle hu h fp=>exact ⟨_,_,_,rfl⟩
    | cK=>exact ⟨_,_,_,rfl⟩
   ·simp at aj
  rcases ai with ⟨⟨b,jT,len,cap,rfl⟩,⟨rfl,rfl⟩ | ⟨rfl,rfl⟩⟩ | ⟨⟨a,len,cap,rfl⟩,aD,rfl⟩
  ·exact ⟨.bool false,by simp [Go.execOp,aq,al,eN,eqGuard,Go.binOp,n6 ax],.bool _⟩
  ·exact ⟨.bool true,by simp [Go.execOp,aq,al,eN,eqGuard,Go.binOp,n6 ax],.bool _⟩
  ·rcases aD with rfl | rfl
   ·cases a with
    | none=>exact ⟨.bool true,by simp [Go.execOp,aq,al,eN,eqGuard,Go.binOp,Ay ax],.dq _⟩
    | some a=>exact ⟨.bool false,by simp [Go.execOp,aq,al,eN,eqGuard,Go.binOp,n6 ax],.dq _⟩
   ·cases a with
    | none=>exact ⟨.bool false,by simp [Go.execOp,aq,al,eN,eqGuard,Go.binOp,Ay ax],.dq _⟩
    | some a=>exact ⟨.bool true,by simp [Go.execOp,aq,al,eN,eqGuard,Go.binOp,n6 ax],.dq _⟩
 ·simp at aj
theorem DC {o:Oper} {aT:Operand→Value} {op:BinOp} {t im:TypeId} {x y:Operand} (aq:o.op=.binOp op t x y im) {a b:Bool} {r:I}
  (aj:fj P op t (.bool a) (.bool b)=some r) (ad:Rel J S w (.bool a) (aT x)) (af:Rel J S w (.bool b) (aT y)):e5 P o aT J S w r:=by
 simp only [fj] at aj;have e1:=ad.hW;have ck:=af.hW;split at aj
 ·rename_i ax;simp at aj;subst aj;exact ⟨_,by simp [Go.execOp,aq,e1,ck,eqGuard,Go.binOp,run_equal_bool ax],.bool _⟩
 ·rename_i ax;simp at aj;subst aj;exact ⟨_,by simp [Go.execOp,aq,e1,ck,eqGuard,Go.binOp,run_equal_bool ax],.bool _⟩
 ·simp at aj
theorem m_ {x y:I} {xs ys:List I} {e:Bool} (h:dM (x::xs) (y::ys)=some e) :
  ∃ k a b cM,x=.int k a∧y=.int k b∧dM xs ys=some cM∧e=((a == b) && cM):=by
 cases x <;> cases y <;> simp only [dM,reduceCtorEq] at h;split at h
 ·rename_i av;subst av;simp only [rZ] at h;obtain ⟨cM,ad,af⟩:=h;exact ⟨_,_,_,cM,rfl,rfl,ad,af.symm⟩
 ·simp at h
theorem EC {e:TypeId} {dd:IntKind} (d:Nat) (he:P.underlying e=some (.int dd)) (ai:dK P e=false):∀ (xs ys:List I) (vs ws:List Value) (off:Nat) (eq:Bool),
  dM xs ys=some eq→a9 (fun _=>.res) U J S w xs vs→a9 (fun _=>.res) U J S w ys ws→∀ (V W:Array Value),(∀ j,vs[j]?=V[off+j]?)→(∀ j,ws[j]?=W[off+j]?) →
  (forIn (List.range' off xs.length) ((none,()):Option Bool×PUnit) (fun i (_:Option Bool×PUnit)=>(do
    let a ←part e V i
    let b ←part e W i
    let c ←Op.equalIn (d+1) e a b
    if c=false then pure (ForInStep.done (some false,())) else pure (ForInStep.yield (none,())):Sem (ForInStep (Option Bool×PUnit))))).run P w =
   .ok (if eq then none else some false,()) w:=by
 intro xs
 induction xs with
 | nil=>intro ys vs ws off eq h _ _ V W _ _;cases ys <;> simp [dM] at h;subst h;simp
 | cons x xs a_ =>
   intro ys vs ws off eq h ae hw V W jz lO;cases ys with
   | nil=>cases x <;> simp [dM] at h
   | cons y ys =>
     obtain ⟨k,a,b,cM,rfl,rfl,aX,rfl⟩:=m_ h;obtain ⟨v,dw,rfl,r1,_,bc⟩:=ae.gN;obtain ⟨w',xW,rfl,r2,_,mb⟩:=hw.gN;have e1:=r1.dc;have ck:=r2.dc;subst e1 ck;(have bR:V[off]?=some (.int k a):=by have:=jz 0;simpa using this.symm);(have b4:W[off]?=some (.int k b):=by have:=lO 0;simpa using this.symm);have pP:=a_ ys dw xW (off+1) cM aX bc mb V W (fun j=>by have:=jz (j+1);simpa [tK,te 1] using this) (fun j=>by have:=lO (j+1);simpa [tK,te 1] using this);(have q1:(part e V off).run P w=.ok (.int k a) w:=by simp [part,gI he,ai,bR]);(have aW:(part e W off).run P w=.ok (.int k b) w:=by simp [part,gI he,ai,b4]);(have cz:(Op.equalIn (d+1) e (.int k a) (.int k b)).run P w=.ok (a == b) w:=by rw [Op.equalIn];simp [run_underlying he]);simp only [sH,List.range'_succ,vH,Sem.run_bind,q1,aW,cz,Result.andThen_ok];by_cases jA:a=b
     ·subst jA;simpa using pP
     ·simp [jA]
theorem EF {t e:TypeId} {len:Nat} {dd:IntKind} (d:Nat) (ax:P.underlying t=some (.array len e)) (he:P.underlying e=some (.int dd)) (gA:bS P e=some 1)
  {xs ys:List I} {V W:Array Value} {eq:Bool} (al:xs.length=len) (h:dM xs ys=some eq) (r1:Rel J S w (.agg xs) (.agg V)) (r2:Rel J S w (.agg ys) (.agg W)) :
  (Op.equalIn (d+2) t (.agg V) (.agg W)).run P w=.ok eq w:=by
 have ch:dK P e=false:=by unfold dK;rw [he]
 rw [Op.equalIn];simp only [run_underlying ax,run_sizeOf gA,Sem.run_bind,Result.andThen_ok];cases r1 with
 | agg xs V ae bR bA q1 =>
   cases r2 with
   | agg ys W hw b4 bQ aW =>
     have:=EC (U:=fun _=>none) (P:=P) (w:=w) (J:=J) (S:=S) d he ch xs ys V.toList W.toList 0 eq h ⟨by simp [ae],fun i u v a b=>q1 i u v a (by simpa using b),fun i u v a _=>aV.b3 (bR u (sK a))⟩
      ⟨by simp [hw],fun i u v a b=>aW i u v a (by simpa using b),fun i u v a _=>aV.b3 (b4 u (sK a))⟩ V W (by simp) (by simp)
     rw [al] at this;simp [this];cases eq <;> simp
theorem y3 {f:Field} {bE:List Field} {n:Nat} (h:gC P (f::bE) n=true) :
  f.offset = n ∧ f.name ≠ "_" ∧ (∃ k, P.underlying f.type = some (.int k)) ∧ bS P f.type = some 1 ∧ dK P f.type = false ∧ gC P bE (n + 1) = true := by
 simp only [gC,Bool.and_eq_true,beq_iff_eq,bne_iff_ne] at h;obtain ⟨⟨⟨ad,af⟩,aG⟩,a6⟩:=h;split at aG
 ·rename_i k hu ai;exact ⟨ad,af,⟨k,hu⟩,ai,by unfold dK;rw [hu],a6⟩
 ·simp at aG
theorem EJ (d:Nat):∀ (bE:List Field) (xs ys:List I) (vs ws:List Value) (off:Nat) (eq:Bool),gC P bE off=true→xs.length=bE.length→ys.length=bE.length →
  dM xs ys=some eq→a9 (fun _=>.res) U J S w xs vs→a9 (fun _=>.res) U J S w ys ws→∀ (V W:Array Value),(∀ j,vs[j]?=V[off+j]?)→(∀ j,ws[j]?=W[off+j]?) →
  (forIn bE ((none,()):Option Bool×PUnit) (fun f (_:Option Bool×PUnit) =>
    if f.name = "_" then pure (ForInStep.yield (none, ())) else (do
    let a ←part f.type V f.offset
    let b ←part f.type W f.offset
    let c ←Op.equalIn (d+1) f.type a b
    if c=false then pure (ForInStep.done (some false,())) else pure (ForInStep.yield (none,())):Sem (ForInStep (Option Bool×PUnit))))).run P w =
   .ok (if eq then none else some false,()) w:=by
 intro bE
 induction bE with
 | nil =>
   intro xs ys vs ws off eq _ al a0 h _ _ V W _ _;obtain rfl:=s_.1 al;obtain rfl:=s_.1 a0;simp [dM] at h;subst h;simp
 | cons f bE a_ =>
   intro xs ys vs ws off eq aQ al a0 h ae hw V W jz lO;cases xs with
   | nil=>simp at al
   | cons x xs =>
     cases ys with
     | nil=>simp at a0
     | cons y ys =>
       obtain ⟨k,a,b,cM,rfl,rfl,aX,rfl⟩:=m_ h;obtain ⟨v,dw,rfl,r1,_,bc⟩:=ae.gN;obtain ⟨w',xW,rfl,r2,_,mb⟩:=hw.gN;obtain ⟨f1,f2,⟨dd,f3⟩,f4,f5,f6⟩:=y3 aQ;have e1:=r1.dc;have ck:=r2.dc;subst e1 ck;(have bR:V[off]?=some (.int k a):=by have:=jz 0;simpa using this.symm);(have b4:W[off]?=some (.int k b):=by have:=lO 0;simpa using this.symm);have pP:=a_ xs ys dw xW (off+1) cM f6 (by simpa using al) (by simpa using a0) aX bc mb V W (fun j=>by have:=jz (j+1);simpa [tK,te 1] using this) (fun j=>by have:=lO (j+1);simpa [tK,te 1] using this);(have q1:(part f.type V f.offset).run P w=.ok (.int k a) w:=by simp [part,gI f3,f5,f1,bR]);(have aW:(part f.type W f.offset).run P w=.ok (.int k b) w:=by simp [part,gI f3,f5,f1,b4]);(have cz:(Op.equalIn (d+1) f.type (.int k a) (.int k b)).run P w=.ok (a == b) w:=by rw [Op.equalIn];simp [run_underlying f3]);simp only [vH,f2,if_false,Sem.run_bind,q1,aW,cz,Result.andThen_ok];by_cases jA:a=b
       ·subst jA;simpa using pP
       ·simp [jA]
theorem run_equalIn_struct {t:TypeId} {bE:Array Field} (d:Nat) (ax:P.underlying t=some (.struct bE)) (aQ:gC P bE.toList 0=true) (h7:P.stoodInHeld t=false)
  {xs ys:List I} {V W:Array Value} {eq:Bool} (al:xs.length=bE.size) (a0:ys.length=bE.size) (h:dM xs ys=some eq) (r1:Rel J S w (.agg xs) (.agg V)) (r2:Rel J S w (.agg ys) (.agg W)) :
  (Op.equalIn (d+2) t (.agg V) (.agg W)).run P w=.ok eq w:=by
 rw [Op.equalIn];cases r1 with
 | agg xs V ae bR bA q1 =>
   cases r2 with
   | agg ys W hw b4 bQ aW =>
     have:=EJ (U:=fun _=>none) (P:=P) (w:=w) (J:=J) (S:=S) d bE.toList xs ys V.toList W.toList 0 eq aQ (by simpa using al) (by simpa using a0) h ⟨by simp [ae],fun i u v a b=>q1 i u v a (by simpa using b),fun i u v a _=>aV.b3 (bR u (sK a))⟩
      ⟨by simp [hw],fun i u v a b=>aW i u v a (by simpa using b),fun i u v a _=>aV.b3 (b4 u (sK a))⟩ V W (by simp) (by simp)
     simp only [run_underlying ax,Sem.run_bind,Result.andThen_ok,program,Sem.run,h7];rw [Array.forIn_toList] at this;simp [this];cases eq <;> simp
theorem DB {o:Oper} {aT:Operand→Value} {op:BinOp} {t im:TypeId} {x y:Operand} (aq:o.op=.binOp op t x y im) {xs ys:List I} {r:I}
  (aj:fj P op t (.agg xs) (.agg ys)=some r) (ad:Rel J S w (.agg xs) (aT x)) (af:Rel J S w (.agg ys) (aT y)):e5 P o aT J S w r:=by
 simp only [fj] at aj;split at aj
 ·rename_i len e ax;split at aj
  ·rename_i dd he gA;split at aj
   ·rename_i ao;obtain ⟨al,a0,aO⟩:=ao;generalize fZ:aT x=cA at ad;generalize ma:aT y=xU at af;(have e1:∃ V,cA=.agg V:=by cases ad with | agg as vs=>exact ⟨_,rfl⟩);(have ck:∃ V,xU=.agg V:=by cases af with | agg as vs=>exact ⟨_,rfl⟩);obtain ⟨V,rfl⟩:=e1;obtain ⟨W,rfl⟩:=ck;have key:∀ eq,dM xs ys=some eq→(Op.equal t (.agg V) (.agg W)).run P w=.ok eq w:=fun eq h=>EF 9998 ax he gA al h ad af;split at aj
    ·simp only [rZ] at aj;obtain ⟨eq,h,rfl⟩:=aj;exact ⟨.bool eq,by simp [Go.execOp,aq,fZ,ma,eqGuard,aO,Go.binOp,key eq h,program,Sem.run],.bool _⟩
    ·simp only [rZ] at aj;obtain ⟨eq,h,rfl⟩:=aj;exact ⟨.bool (!eq),by simp [Go.execOp,aq,fZ,ma,eqGuard,aO,Go.binOp,key eq h,program,Sem.run],.bool _⟩
    ·simp at aj
   ·simp at aj
  ·simp at aj
 ·rename_i bE ax;split at aj
  ·rename_i ao;obtain ⟨aQ,h7,al,a0,aO⟩:=ao;generalize fZ:aT x=cA at ad;generalize ma:aT y=xU at af;(have e1:∃ V,cA=.agg V:=by cases ad with | agg as vs=>exact ⟨_,rfl⟩);(have ck:∃ V,xU=.agg V:=by cases af with | agg as vs=>exact ⟨_,rfl⟩);obtain ⟨V,rfl⟩:=e1;obtain ⟨W,rfl⟩:=ck;have key:∀ eq,dM xs ys=some eq→(Op.equal t (.agg V) (.agg W)).run P w=.ok eq w:=fun eq h=>run_equalIn_struct 9998 ax aQ h7 al a0 h ad af;split at aj
   ·simp only [rZ] at aj;obtain ⟨eq,h,rfl⟩:=aj;exact ⟨.bool eq,by simp [Go.execOp,aq,fZ,ma,eqGuard,aO,Go.binOp,key eq h,program,Sem.run],.bool _⟩
   ·simp only [rZ] at aj;obtain ⟨eq,h,rfl⟩:=aj;exact ⟨.bool (!eq),by simp [Go.execOp,aq,fZ,ma,eqGuard,aO,Go.binOp,key eq h,program,Sem.run],.bool _⟩
   ·simp at aj
  ·simp at aj
 ·simp at aj
end
end Go.Proofs.YtfakoboiahbhaaaGreat.Ab


namespace Go.Proofs.YtfakoboiahbhaaaGreat.Ab
open Go
section
variable {P:Program} {B:Nat} {J:List Nat} {w:World} {H:List au} {U:Nat→Option aI} {S:Nat→Nat→Prop}
def eI (J:List Nat) (S:Nat→Nat→Prop) (w:World):Option I→Option Value→Prop
 | none,none=>True
 | some u,some v=>Rel J S w u v
 | _,_=>False
theorem mK {x:Option I} {v:Option Value} {d y xX r:Nat} (h:cH x d y=some r) (al:eI J S w x v) (a0:y≤xX) :
  (∃ k n,v=some (.int k n)∧x.isSome∧(∀ code,(Instr.sliceBound (.int k n) xX code).run P w=.ok r w)∧r≤y)∨(v=none∧x=none∧r=d):=by
 unfold cH at h;split at h
 ·cases v with
  | none=>simp at h;exact .inr ⟨rfl,rfl,h.symm⟩
  | some v=>simp [eI] at al
 ·cases v with
  | none=>simp [eI] at al
  | some v =>
    have e:=Rel.dc al;subst e;split at h
    ·rename_i ag;simp at h;subst h;refine .inl ⟨_,_,rfl,rfl,fun code=>?_,by omega⟩;have ad:=ag.1;have af:_≤(xX:Int):=Int.le_trans ag.2 (Int.ofNat_le.2 a0);simp [Instr.sliceBound,asIntOf,ad,af]
    ·simp at h
 ·simp at h
theorem hG {lo hi:Option I} {lo' hi':Option Value} {isS:Bool} {len cap h l:Nat} (bI:cH hi len len=some h) (ak:cH lo 0 h=some l) (hle:len≤cap)
  (r1:eI J S w lo lo') (r2:eI J S w hi hi'):(Instr.sliceBounds isS len cap lo' hi' none).run P w=.ok (l,h,cap) w∧l≤h∧h≤len:=by
 rcases mK (P:=P) bI r2 hle with ⟨k,n,rfl,_,q,ag⟩ | ⟨rfl,_,rfl⟩ <;> rcases mK (P:=P) ak r1 (sb _) with ⟨k',iU,rfl,_,fO,bp⟩ | ⟨rfl,_,rfl⟩ <;>
  refine ⟨?_,by omega,by omega⟩ <;> simp [Instr.sliceBounds, *]
theorem xE {lo hi gD:Option I} {lo' hi' iT:Option Value} {isS:Bool} {len cap m h l:Nat} (hm:cH gD len len=some m) (CJ:gD.isSome) (Cw:hi.isSome)
  (bI:cH hi m m=some h) (ak:cH lo 0 h=some l) (hle:len≤cap)
  (r1:eI J S w lo lo') (r2:eI J S w hi hi') (eF:eI J S w gD iT):(Instr.sliceBounds isS len cap lo' hi' iT).run P w=.ok (l,h,m) w∧l≤h∧h≤m∧m≤len:=by
 rcases mK (P:=P) hm eF hle with ⟨k,n,rfl,_,q,ag⟩ | ⟨rfl,rfl,_⟩
 ·rcases mK (P:=P) bI r2 (sb _) with ⟨aP,cn,rfl,_,aW,fm⟩ | ⟨rfl,rfl,_⟩
  ·rcases mK (P:=P) ak r1 (sb _) with ⟨k',iU,rfl,_,fO,bp⟩ | ⟨rfl,_,rfl⟩ <;>
    refine ⟨?_,by omega,by omega,by omega⟩ <;> simp [Instr.sliceBounds, *]
  ·simp at Cw
 ·simp at CJ
theorem Rel.sub {cells:List I} {b o cap' n k:Nat} {f:Nat→Value} (d:Nat) (dX:iq) (ao:dX=.full→cap'=n) (hle:n≤cap') (hu:∀ z,dX≠.uniq z)
  (h:∀ (j:Nat) (u:I),cells[j]?=some u→S b (o+j)∧w.cell? ⟨b,o+j,none⟩=some (f j)∧u.plain=true∧(f j).oneCell'=true)
  (aj:∀ (j:Nat) (u:I),cells[j]?=some u→Rel J S w u (f j)):Rel J S w (.ay ((cells.drop d).take k) n dX) (.slice (some ⟨b,o+d,none⟩) n cap'):=by
 refine .ay _ n dX b (o+d) cap' (fun j=>f (d+j)) ao hle hu (fun j u b_=>?_) (fun j u b_=>?_)
 ·rw [sV] at b_;split at b_
  ·rw [sX] at b_;have:=h (d+j) u b_
   rwa [show o+d+j=o+(d+j) by omega]
  ·simp at b_
 ·rw [sV] at b_;split at b_
  ·rw [sX] at b_;exact aj (d+j) u b_
  ·simp at b_
theorem Rel.empty (c:iq) (hu:∀ z,c≠.uniq z) (b o cap:Nat) (ao:c=.full→cap=0):Rel J S w (.ay [] 0 c) (.slice (some ⟨b,o,none⟩) 0 cap) :=
 .ay [] 0 c b o cap (fun _=>undef) ao (Nat.zero_le _) hu (by simp) (by simp)
theorem EI {t:TypeId} {u r:I} {x:Value} {lo hi gD:Option I} {lo' hi' iT:Option Value} (aj:eU P t u lo hi gD=some r) (aC:u.plain=true)
  (ad:Rel J S w u x) (r1:eI J S w lo lo') (r2:eI J S w hi hi') (eF:eI J S w gD iT) :
  ∃ v,(Instr.sliceAt t x lo' hi' iT).run P w=.ok v w∧Rel J S w r v∧r.plain=true:=by
 unfold eU at aj;split at aj
 ·rename_i e cells len c aZ;simp only [sf] at aj;obtain ⟨s,ai,aj⟩:=aj;have pl:∀ (cs:List I) (n:Nat) (p:Prop) [Decidable p],(I.ay cs n (if p then .full else .shared)).plain=true:=fun cs n p _=>by split <;> rfl
  have pe:∀ (p:Prop) [Decidable p] (z:Nat),(if p then iq.full else iq.shared)≠.uniq z:=fun p _ z=>by split <;> simp
  split at aj
  ·simp only [sf] at aj;obtain ⟨h,bI,l,ak,aj⟩:=aj;simp at aj;subst aj;cases iT with
   | some _=>simp [eI] at eF
   | none =>
   cases ad with
   | b1 c a =>
     obtain ⟨q,q1,aW⟩:=hG (P:=P) (isS:=true) (cap:=0) bI ak (by omega) r1 r2;(obtain rfl:h=0:=by omega);(obtain rfl:l=0:=by omega);exact ⟨.slice a 0 0,by cases a <;> simp [Instr.sliceAt,Instr.slice,run_underlying aZ,q,run_sizeOf ai,Addr.add],by simpa using .b1 _ _,pl _ _ _⟩
   | cK=>simp [I.plain] at aC
   | ay cells len c b o cap f ao hle hu bu b9 =>
     obtain ⟨q,q1,aW⟩:=hG (P:=P) (isS:=true) (cap:=cap) bI ak hle r1 r2;refine ⟨_,by simp [Instr.sliceAt,Instr.slice,run_underlying aZ,q,run_sizeOf ai];rfl,?_,pl _ _ _⟩;by_cases en:cap=l
     ·(obtain rfl:h=l:=by omega);simp only [en,if_true,tL,vo,tf];exact Rel.empty _ (pe _) _ _ _ (by simp)
     ·simp only [en,if_false,add_lit];refine Rel.sub _ _ (fun he=>?_) (by omega) (pe _) bu b9;split at he
      ·rename_i hY;rw [ao hY.1,hY.2]
      ·simp at he
  ·rename_i Gc F_;simp only [sf] at aj;obtain ⟨m,hm,h,bI,l,ak,aj⟩:=aj;simp at aj;subst aj;cases ad with
   | b1 c a =>
     obtain ⟨q,q1,aW,cz⟩:=xE (P:=P) (isS:=true) (cap:=0) hm rfl rfl bI ak (by omega) r1 r2 eF;(obtain rfl:m=0:=by omega);(obtain rfl:h=0:=by omega);(obtain rfl:l=0:=by omega);exact ⟨.slice a 0 0,by cases a <;> simp [Instr.sliceAt,Instr.slice,run_underlying aZ,q,run_sizeOf ai,Addr.add],by simpa using .b1 _ _,pl _ _ _⟩
   | cK=>simp [I.plain] at aC
   | ay cells len c b o cap f ao hle hu bu b9 =>
     obtain ⟨q,q1,aW,cz⟩:=xE (P:=P) (isS:=true) (cap:=cap) hm rfl rfl bI ak hle r1 r2 eF;refine ⟨_,by simp [Instr.sliceAt,Instr.slice,run_underlying aZ,q,run_sizeOf ai];rfl,?_,pl _ _ _⟩;by_cases en:m=l
     ·(obtain rfl:h=l:=by omega);simp only [en,if_true,tL,vo,tf];exact Rel.empty _ (by simp) _ _ _ (by simp)
     ·simp only [en,if_false,add_lit];refine Rel.sub _ _ (fun he=>?_) (by omega) (pe _) bu b9;split at he
      ·rename_i hY;rw [hY]
      ·simp at he
  ·simp at aj
 ·rename_i e id off len cap sz aZ;simp only [sf] at aj;obtain ⟨s,ai,aj⟩:=aj;split at aj
  ·simp at aj
  ·rename_i bP;(obtain rfl:s=sz:=by simpa using bP);split at aj
   ·simp only [sf] at aj;obtain ⟨h,bI,l,ak,aj⟩:=aj;cases iT with
    | some _=>simp [eI] at eF
    | none =>
    cases ad with
    | ref id off len c sz b cap' ag ao hle =>
      obtain ⟨q,q1,aW⟩:=hG (P:=P) (isS:=true) (cap:=cap') bI ak hle r1 r2;split at aj
      ·rename_i F';simp at aj;subst aj
       have:cap'≠l:=by omega
       refine ⟨_,by simp [Instr.sliceAt,Instr.slice,run_underlying aZ,q,run_sizeOf ai,this,add_lit];rfl,.ref _ _ _ _ _ b _ ag (fun n aN=>?_) (by omega),rfl⟩;simp only [rZ] at aN;obtain ⟨c0,Cc,rfl⟩:=aN;rw [ao c0 Cc]
      ·simp at aj;subst aj;(obtain rfl:h=l:=by omega);refine ⟨_,by simp [Instr.sliceAt,Instr.slice,run_underlying aZ,q,run_sizeOf ai];rfl,?_,rfl⟩;split
       ·exact Rel.empty _ (by simp) _ _ _ (by simp)
       ·simp only [add_lit];exact Rel.empty _ (by simp) _ _ _ (by simp)
   ·simp only [sf] at aj;obtain ⟨m,hm,h,bI,l,ak,aj⟩:=aj;cases ad with
    | ref id off len c sz b cap' ag ao hle =>
      obtain ⟨q,q1,aW,cz⟩:=xE (P:=P) (isS:=true) (cap:=cap') hm rfl rfl bI ak hle r1 r2 eF;split at aj
      ·rename_i en;split at aj
       ·rename_i jG;simp at aj;subst aj;refine ⟨_,by simp [Instr.sliceAt,Instr.slice,run_underlying aZ,q,run_sizeOf ai,en];rfl,.ref _ _ _ _ _ b _ ag (fun n aN=>by simpa [en] using aN) (by omega),rfl⟩
       ·simp at aj
      ·rename_i en;simp at aj;subst aj;exact ⟨_,by simp [Instr.sliceAt,Instr.slice,run_underlying aZ,q,run_sizeOf ai,en,add_lit];rfl,.ref _ _ _ _ _ b _ ag (fun n aN=>by simpa using aN) (by omega),rfl⟩
   ·simp at aj
 ·rename_i n e id off aZ;simp only [sf] at aj;obtain ⟨s,ai,aj⟩:=aj;split at aj
  ·simp only [sf] at aj;obtain ⟨h,bI,l,ak,aj⟩:=aj;cases iT with
   | some _=>simp [eI] at eF
   | none =>
   cases ad with
   | ptr id off b ag =>
     obtain ⟨q,q1,aW⟩:=hG (P:=P) (isS:=false) (cap:=n) bI ak (sb _) r1 r2;split at aj
     ·simp at aj
     ·rename_i en;simp at aj;subst aj;exact ⟨_,by simp [Instr.sliceAt,Instr.sureAddr,run_underlying aZ,q,run_sizeOf ai,en,add_lit];rfl,.ref _ _ _ _ _ b _ ag (fun n aN=>by simpa using aN) (by omega),rfl⟩
  ·simp at aj
 ·simp at aj
end
end Go.Proofs.YtfakoboiahbhaaaGreat.Ab


namespace Go.Proofs.YtfakoboiahbhaaaGreat.Ab
open Go
section
variable {P:Program} {B:Nat} {J:List Nat} {w:World} {H:List au} {U:Nat→Option aI} {S:Nat→Nat→Prop}
theorem gp.frame {az:Nat→Option aI} {bZ:List Nat} {S':Nat→Nat→Prop} {w':World} (bK:Ext J bZ)
  (cm:∀ b o,S b o→S' b o∧w'.cell? ⟨b,o,none⟩=w.cell? ⟨b,o,none⟩) {id:Nat}
  (av:∀ b l,U b=some l→(l=.obj id∨∃ j,l=.cell id j)→az b=some l∧w'.heap[b]?=w.heap[b]?∧∀ o,S' b o→S b o)
  {o:au} (h:gp U J S w id o):gp az bZ S' w' id o:=by
 cases o with
 | dead=>trivial
 | cells l =>
   obtain ⟨b,cur,e,aB,aH,aR,bj,bb,bf⟩:=h;obtain ⟨aJ,aP,cj⟩:=av b _ aH (.inl rfl);refine ⟨b,cur,e,bK _ _ aB,aJ,aP.trans aR,bj,fun o ai=>bb o (cj o ai),fun j u v hu ae=>?_⟩;obtain ⟨a',c0,bk,bq⟩:=bf j u v hu ae;exact ⟨a',c0,bk.mono bK cm,bq.mono bK cm fun b ag=>av b _ ag (.inr ⟨j,rfl⟩)⟩
 | grow l gid z =>
   obtain ⟨b,cur,e,aB,aH,aR,bj,bb,bf,cap,c1,da⟩:=h;obtain ⟨aJ,aP,cj⟩:=av b _ aH (.inl rfl);refine ⟨b,cur,e,bK _ _ aB,aJ,aP.trans aR,bj,fun o ai=>bb o (cj o ai),fun j u v hu ae=>?_,cap,bK _ _ c1,da⟩;obtain ⟨a',c0,bk,bq⟩:=bf j u v hu ae;exact ⟨a',c0,bk.mono bK cm,bq.mono bK cm fun b ag=>av b _ ag (.inr ⟨j,rfl⟩)⟩
 | loop st cF fn T params assign body jr =>
   obtain ⟨al,a0,b,L,aB,aH,aR,bj,bb,bf,c1,da,dF⟩:=h;obtain ⟨aJ,aP,cj⟩:=av b _ aH (.inl rfl);exact ⟨al,a0,b,L,bK _ _ aB,aJ,aP.trans aR,bj,bb,bf,c1,fun i u v hu ae=>⟨(da i u v hu ae).1,(da i u v hu ae).2.mono bK cm⟩,dF⟩
 | map es clock =>
   obtain ⟨b,bw,aB,aH,aR,bj,bb,bf⟩:=h;obtain ⟨aJ,aP,cj⟩:=av b _ aH (.inl rfl)
   exact ⟨b,bw,bK _ _ aB,aJ,aP.trans aR,bj,fun o ai=>bb o (cj o ai),fun j i k v x hu ae =>
    let ⟨a',bk,bq,b7,dY⟩:=bf j i k v x hu ae;⟨a',bk,bq.mono bK cm,b7,dY.mono bK cm⟩⟩
 | iter m s e t =>
   obtain ⟨b,ee,aB,aH,aR,bj,bb⟩:=h;obtain ⟨aJ,aP,cj⟩:=av b _ aH (.inl rfl);exact ⟨b,ee,bK _ _ aB,aJ,bK _ _ aR,aP.trans bj,fun o ai=>bb o (cj o ai)⟩
theorem aL.frame {az:Nat→Option aI} {S':Nat→Nat→Prop} {w':World} (ah:aL B U J S w H) (aA:bg U S w az S' w')
  (av:∀ b l,U b=some l→((∃ id,l=.obj id)∨∃ id j,l=.cell id j)→az b=some l∧w'.heap[b]?=w.heap[b]?∧∀ o,S' b o→S b o)
  (aG:∀ b o,S' b o→∃ v,w'.cell? ⟨b,o,none⟩=some v) (a6:∀ b l,az b=some l→B≤b∧b<w'.heap.size):aL B az J S' w' H :=
 ⟨ah.cE,fun id o aq=>(ah.obj id o aq).frame (Ext.refl J) aA.set (fun b l ag ak=>av b l ag (by
  rcases ak with rfl | ⟨j,rfl⟩
  ·exact .inl ⟨id,rfl⟩
  ·exact .inr ⟨id,j,rfl⟩)),aG,a6,sI ah.cX aA.size⟩
theorem aL.push (ah:aL B U J S w H) (n:Nat) {o:au} (aq:gp U (J++[n]) S w H.length o):aL B U (J++[n]) S w (H++[o]) where
 cE:=by simp [ah.cE]
 obj id cL h:=by
  rcases vJ id H.length with aU | rfl | F9
  ·rw [sA aU] at h;exact (ah.obj id cL h).frame (Ext.append J [n]) (fun b o ai=>⟨ai,rfl⟩) fun b l ag _=>⟨ag,rfl,fun o ai=>ai⟩
  ·simp at h;subst h;exact aq
  ·rw [sL (by omega)] at h
   have:id-H.length≠0:=by omega
   obtain ⟨k,av⟩:=Nat.exists_eq_succ_of_ne_zero this;rw [av] at h;simp at h
 cf:=ah.cf
 base:=ah.base
 cX:=ah.cX
theorem aL.og (ah:aL B U J S w H) {id:Nat} {l:List I} {g z:Nat} (aE:H[id]?=some (.grow l g z)):aL B U J S w (H.set id (.cells l)):=by
 refine ⟨by simpa using ah.cE,fun bx o aq=>?_,ah.cf,ah.base,ah.cX⟩;by_cases cu:bx=id
 ·subst cu;rw [sg (sa.1 aE).1] at aq;cases aq;obtain ⟨b,cur,e,aB,aH,aR,bj,bb,bf,_⟩:=ah.obj bx _ aE;exact ⟨b,cur,e,aB,aH,aR,bj,bb,bf⟩
 ·rw [si (Ne.symm cu)] at aq;exact ah.obj bx o aq
theorem aL.xo (ah:aL B U J S w H) {id:Nat} {l:List I} {g z b cap:Nat} {cur:Array Value} {e:TypeId} (aE:H[id]?=some (.cells l)) (ag:J[id]?=some b) (aO:J[g]?=some cap)
  (hm:cap≤maxLen) (bm:0<z) (ao:w.heap[b]?=some (.cells cur e (0,0))) (ai:cur.size=cap*z):aL B U J S w (H.set id (.grow l g z)):=by
 refine ⟨by simpa using ah.cE,fun bx o aq=>?_,ah.cf,ah.base,ah.cX⟩;by_cases cu:bx=id
 ·subst cu;rw [sg (sa.1 aE).1] at aq;cases aq;obtain ⟨ar,cur',cM,aB,aH,aR,bj,bb,bf⟩:=ah.obj bx _ aE;rw [ag] at aB;cases aB;rw [ao] at aR;cases aR;exact ⟨b,cur,e,ag,aH,ao,bj,bb,bf,cap,aO,hm,bm,ai⟩
 ·rw [si (Ne.symm cu)] at aq;exact ah.obj bx o aq
def lay (U:Nat→Option aI) (n:Nat) (l:aI):Nat→Option aI:=fun b=>if b=n then some l else U b
theorem oF (o:Obj) {b i:Nat} (ag:b<w.heap.size):(w.alloc o).cell? ⟨b,i,none⟩=w.cell? ⟨b,i,none⟩:=by
 have:(w.alloc o).heap[b]?=w.heap[b]?:=heap_alloc_old w o b ag
 unfold World.cell?;simp only [this]
theorem kj (ah:aL B U J S w H) (o:Obj) (l:aI):bg U S w (lay U w.heap.size l) S (w.alloc o) where
 os:=rfl
 tape:=rfl
 output:=rfl
 size:=by simp
 cD b ag _:=heap_alloc_old w o b ag
 set b cL ai:=⟨ai,by obtain ⟨v,ae⟩:=ah.cf b cL ai;exact oF o (mr ae)⟩
 fresh _ _ ai:=.inl ai
 own b ag:=by
  unfold lay at ag;split at ag
  ·rename_i h;exact .inr (by omega)
  ·exact .inl ag
theorem nv (ah:aL B U J S w H) (o:Obj) (l:aI):aL B (lay U w.heap.size l) J S (w.alloc o) H:=by
 have aA:=kj ah o l;refine ah.frame aA (fun b l' ag _=>?_) (fun b cL ai=>?_) (fun b l' ag=>?_)
 ·have:=(ah.base b l' ag).2;exact ⟨by simp [lay,show b≠w.heap.size by omega,ag],heap_alloc_old w o b this,fun o ai=>ai⟩
 ·obtain ⟨v,ae⟩:=ah.cf b cL ai;exact ⟨v,((aA.set b cL ai).2).trans ae⟩
 ·unfold lay at ag;split at ag
  ·rename_i h;subst h;exact ⟨ah.cX,by simp⟩
  ·have:=ah.base b l' ag;exact ⟨this.1,by simp;omega⟩
theorem ki (U:Nat→Option aI) (S:Nat→Nat→Prop) (w:World):bg U S w U S w.drew :=
 ⟨rfl,rfl,rfl,sb _,fun _ _ _=>rfl,fun _ _ h=>⟨h,rfl⟩,fun _ _ h=>.inl h,fun _ h=>.inl h⟩
theorem l7 (ah:aL B U J S w H):aL B U J S w.drew H :=
 ah.frame (ki U S w) (fun _ _ ag _=>⟨ag,rfl,fun _ h=>h⟩) ah.cf ah.base
theorem mx (ah:aL B U J S w H) (o:Nat):¬ S w.heap.size o:=fun ai=>by
 obtain ⟨v,ae⟩:=ah.cf _ o ai;exact absurd (mr ae) (Nat.lt_irrefl _)
structure c4 (J:List Nat) (S:Nat→Nat→Prop) (w:World) (cs:List I) (vs:List Value):Prop where
 len:cs.length=vs.length
 rel:∀ (j:Nat) (u:I) (v:Value),cs[j]?=some u→vs[j]?=some v→u.plain=true∧v.oneCell'=true∧Rel J S w u v
theorem c4.mono {bZ:List Nat} {S':Nat→Nat→Prop} {w':World} {cs:List I} {vs:List Value} (h:c4 J S w cs vs) (bK:Ext J bZ)
  (cm:∀ b o,S b o→S' b o∧w'.cell? ⟨b,o,none⟩=w.cell? ⟨b,o,none⟩):c4 bZ S' w' cs vs :=
 ⟨h.len,fun j u v hu ae=>let ⟨a,b,c⟩:=h.rel j u v hu ae;⟨a,b,c.mono bK cm⟩⟩
theorem c4.append {a b:List I} {c d:List Value} (h:c4 J S w a c) (k:c4 J S w b d):c4 J S w (a++b) (c++d):=by
 refine ⟨by simp [h.len,k.len],fun j u v hu ae=>?_⟩;rcases sU j a.length with aw | aw
 ·rw [sA aw] at hu;rw [sA (h.len ▸ aw)] at ae;exact h.rel j u v hu ae
 ·rw [sL aw] at hu;rw [sL (h.len ▸ aw),←h.len] at ae;exact k.rel _ u v hu ae
theorem nP (ah:aL B U J S w H) {cs:List I} {vs:List Value} (ao:c4 J S w cs vs) (spare:List Value) (e:TypeId) (len cap z:Nat) (bm:0<z) (ak:cs.length=len*z)
  (o9:len≤cap) (hm:cap≤maxLen) (ai:vs.length+spare.length=cap*z) :
  a1 B U J S w H (.ay cs len (.uniq z)) (.slice (some ⟨w.heap.size,0,none⟩) len cap) (w.alloc (.cells (vs++spare).toArray e)):=by
 have aA:=kj ah (.cells (vs++spare).toArray e) .res;refine ⟨_,J,S,Ext.refl J,aA,nv ah _ .res,.cK _ _ _ _ _ _,.inr ⟨by simp [lay],rfl,o9,hm,bm,ak,⟨_,e,heap_alloc_new w _,by simp [ai],fun j u v hu ae=>?_⟩,mx ah⟩⟩;have aw:j<vs.length:=ao.len ▸ (sa.1 hu).1;have bc:vs[j]?=some v:=by simpa [sA aw] using ae
 obtain ⟨a,b,c⟩:=ao.rel j u v hu bc;exact ⟨a,b,c.mono (Ext.refl J) aA.set⟩
end
end Go.Proofs.YtfakoboiahbhaaaGreat.Ab


namespace Go.Proofs.YtfakoboiahbhaaaGreat.Ab
open Go
section
variable {P:Program} {B:Nat} {J:List Nat} {w:World} {H:List au} {U:Nat→Option aI} {S:Nat→Nat→Prop}
theorem AA {t:TypeId} {cs:List I} {b base off:Nat} {g:Nat→Value} {r:I}
  (ao:∀ (j:Nat) (u:I),cs[j]?=some u→w.cell? ⟨b,base+j,none⟩=some (g j)∧(g j).oneCell'=true∧Rel J S w u.view (g j)) (aj:eu P t cs off=some r) :
  ∃ v,(loadVar t ⟨b,base+off,none⟩).run P w=.ok v w∧Rel J S w r v∧r.plain=true:=by
 unfold eu at aj;cases ch:dK P t with
 | true =>
   obtain ⟨d,aZ⟩:=y5 ch;rw [ch] at aj;simp only [sf] at aj;obtain ⟨s,ai,aj⟩:=aj;split at aj
   ·rename_i hle;simp only [Option.some.injEq] at aj;subst aj;have bu:∀ j,j<s→w.cell? ((⟨b,base+off,none⟩:Addr).add j)=some (g (off+j)):=fun j aw=>by
     (have aU:off+j<cs.length:=by omega);rw [add_lit,tK];exact (ao (off+j) _ (sq aU)).1
    have ak:=run_loadCells (P:=P) (w:=w) ⟨b,base+off,none⟩ s (fun j=>g (off+j)) bu;refine ⟨_,by simp only [loadVar,Sem.run_bind,gI aZ,ch,Result.andThen_ok,if_true,run_sizeOf ai,ak];rfl,.agg _ _ ?_ ?_ ?_ ?_,rfl⟩
    ·simp;omega
    ·intro u hu;obtain ⟨x,_,rfl⟩:=ss.1 hu;exact I.dh x
    ·intro v ae;obtain ⟨j,aw,rfl⟩:=ss.1 ae;have aw:=List.mem_range.1 aw;(have aU:off+j<cs.length:=by omega);exact (ao (off+j) _ (sq aU)).2.1
    ·intro j u v hu ae;simp only [su,rZ] at hu;obtain ⟨x,al,rfl⟩:=hu;rw [sV] at al;split at al
     ·rename_i aw;rw [sX] at al;simp [aw] at ae;subst ae;exact (ao (off+j) x al).2.2
     ·simp at al
   ·simp at aj
 | false =>
   rw [ch] at aj;simp only at aj;split at aj
   ·rename_i d aZ;simp only [rZ] at aj;obtain ⟨u,hu,rfl⟩:=aj;obtain ⟨ad,af,aG⟩:=ao off u hu;exact ⟨g off,by simp [loadVar,gI aZ,ch,load,Sem.run,ad],aG,I.dh u⟩
   ·simp at aj
theorem k4 (ah:aL B U J S w H) {t:TypeId} {a r:I} {v:Value} (aj:dT P H t a=some r) (ad:Rel J S w a v) :
  ∃ x,(Instr.loadAt t v).run P w=.ok x w∧Rel J S w r x∧r.plain=true:=by
 unfold dT at aj;split at aj
 ·rename_i id off
  have key:∀ l:List I,(∃ b cur e,J[id]?=some b∧U b=some (.obj id)∧w.heap[b]?=some (.cells cur e (0,0))∧l.length≤cur.size∧(∀ o,¬ S b o) ∧
    ∀ (j:Nat) (u:I) (v:Value),l[j]?=some u→cur[j]?=some v→u.cT=true∧v.oneCell'=true∧Rel J S w u v∧aV U J S w (.cell id j) u v)→eu P t l off=some r →
    ∃ x,(Instr.loadAt t v).run P w=.ok x w∧Rel J S w r x∧r.plain=true:=by
   rintro l ⟨b,cur,e,aB,aH,aR,bj,bb,bf⟩ aj;cases ad with
   | ptr id off ar ag =>
     rw [aB] at ag;cases ag;have facts:∀ (j:Nat) (u:I),l[j]?=some u→w.cell? ⟨b,0+j,none⟩=some (cur.getD j undef)∧(cur.getD j undef).oneCell'=true∧Rel J S w u.view (cur.getD j undef):=by
      intro j u hu;(have aw:j<cur.size:=by have:=(sa.1 hu).1;omega);have c6:cur[j]?=some cur[j]:=sD _;obtain ⟨a',c0,bk,_⟩:=bf j u _ hu c6;(have aO:cur.getD j undef=cur[j]:=by simp [Array.getD,aw]);rw [aO];exact ⟨by rw [cell_of_row w b _ cur e (0,0) aR,sP,c6],c0,bk.view a'⟩
     obtain ⟨x,al,b9⟩:=AA facts aj;rw [sP] at al;exact ⟨x,by simp [Instr.loadAt,Instr.sureAddr,al],b9⟩
  split at aj
  ·rename_i l aE;exact key l (ah.obj id _ aE) aj
  ·rename_i l g z aE;obtain ⟨b,cur,e,aB,aH,aR,bj,bb,bf,_⟩:=ah.obj id _ aE;exact key l ⟨b,cur,e,aB,aH,aR,bj,bb,bf⟩ aj
  ·simp at aj
 ·cases ad with
  | bU cells b o f h fp =>
    obtain ⟨x,al,b9⟩:=AA (J:=J) (S:=S) (w:=w) (b:=b) (base:=o) (g:=f) (fun j u hu=>⟨(h j u hu).2.1,(h j u hu).2.2.2,(fp j u hu).view (I.ga (h j u hu).2.2.1)⟩) aj;rw [tU] at al;exact ⟨x,by simp [Instr.loadAt,Instr.sureAddr,al],b9⟩
 ·simp at aj
theorem yb (ah:aL B U J S w H) {l:aI} (ca:∀ id,l≠.obj id) (cn:∀ id j,l≠.cell id j) {u:I} {v:Value} {bF:List I} (ao:u.cells=some bF) (aj:Rel J S w u v) (aq:aV U J S w l u v) :
  ∃ S':Nat→Nat→Prop,(∀ b o,S b o→S' b o)∧(∀ b o,S' b o→S b o∨U b=some l)∧aL B U J S' w H∧v.cells.size=bF.length ∧
    (∀ x∈v.cells.toList,x.oneCell'=true) ∧
    ∀ (j:Nat) (bG:I) (br:Value),(bF.map I.settle)[j]?=some bG→v.cells[j]?=some br→bG.cT=true∧Rel J S' w bG br∧(bG.plain=true∨(j=0∧bF=[u]∧aV U J S' w l bG br)):=by
 have single:bF=[u]→v.cells=#[v]→v.oneCell'=true→∃ S':Nat→Nat→Prop,(∀ b o,S b o→S' b o)∧(∀ b o,S' b o→S b o∨U b=some l)∧aL B U J S' w H∧v.cells.size=bF.length ∧
   (∀ x∈v.cells.toList,x.oneCell'=true) ∧
   ∀ (j:Nat) (bG:I) (br:Value),(bF.map I.settle)[j]?=some bG→v.cells[j]?=some br→bG.cT=true∧Rel J S' w bG br∧(bG.plain=true∨(j=0∧bF=[u]∧aV U J S' w l bG br)):=by
  intro fI ae ad;subst fI;rw [ae];by_cases hu:u.cT=true
  ·refine ⟨S,fun _ _ h=>h,fun _ _ h=>.inl h,ah,rfl,by simp [ad],fun j bG br aw ef=>?_⟩;have ai:u.settle=u:=by
    unfold I.settle;split
    ·simp [I.cT] at hu
    ·rfl
   cases j with
   | zero=>simp [ai] at aw ef;subst aw ef;exact ⟨hu,aj,.inr ⟨rfl,rfl,aq⟩⟩
   | succ j=>simp at aw
  ·obtain ⟨cells,len,z,rfl⟩:∃ cells len z,u=.ay cells len (.uniq z):=by
    unfold I.cT at hu;split at hu
    ·exact ⟨_,_,_,rfl⟩
    ·simp at hu
   obtain ⟨a4,aJ,aP,cj,_,r2,eF⟩:=j7 ah aj aq;refine ⟨a4,aJ,aP,ah.settle aJ (fun b o h=>(aP b o h).imp id fun h=>⟨_,h,ca,cn⟩) cj,rfl,by simp [ad],fun j bG br aw ef=>?_⟩;cases j with
   | zero=>simp [I.settle] at aw ef;subst aw ef;exact ⟨rfl,r2,.inr ⟨rfl,rfl,eF⟩⟩
   | succ j=>simp at aw
 cases aj with
 | agg as vs h p one r =>
   simp [I.cells] at ao;subst ao;refine ⟨S,fun _ _ h=>h,fun _ _ h=>.inl h,ah,h,one,fun j bG br aw ef=>?_⟩;simp only [su,rZ] at aw;obtain ⟨x,al,rfl⟩:=aw;have aC:=p x (sK al);have ai:x.settle=x:=by
    unfold I.settle;split
    ·simp [I.plain] at aC
    ·rfl
   rw [ai];exact ⟨I.ga aC,r j x br al ef,.inl aC⟩
 | junk v=>simp [I.cells] at ao
 | tuple as vs h p r=>simp [I.cells] at ao
 | raw=>simp [I.cells] at ao
 | _=>simp [I.cells] at ao;exact single ao.symm rfl rfl
theorem Ext.last (ah:aL B U J S w H) (n:Nat):(J++[n])[H.length]?=some n:=by rw [←ah.cE];simp
theorem nO (ah:aL B U J S w H) (l:aI) (ca:∀ id,l≠.obj id) (cn:∀ id j,l≠.cell id j) {cs:List I} {vs:Array Value} (e:TypeId) (hlen:cs.length≤vs.size)
  (ao:∀ (j:Nat) (u:I) (v:Value),cs[j]?=some u→vs[j]?=some v→u.cT=true∧v.oneCell'=true∧Rel J S w u v∧(u.plain=true∨(j=0∧aV U J S w l u v))) :
  ∃ az,bg U S w az S (w.alloc (.cells vs e))∧aL B az (J++[w.heap.size]) S (w.alloc (.cells vs e)) (H++[.cells cs]):=by
 classical
 let az:Nat→Option aI:=fun b=>if b=w.heap.size then some (.obj H.length) else if U b=some l then some (.cell H.length 0) else U b
 have bM:∀ b l',U b=some l'→b≠w.heap.size:=fun b l' h=>by have:=(ah.base b l' h).2;omega
 have aA:bg U S w az S (w.alloc (.cells vs e)):=by
  have fT:=kj ah (.cells vs e) (.obj H.length);refine ⟨fT.os,fT.tape,fT.output,fT.size,fT.cD,fT.set,fT.fresh,fun b ag=>?_⟩;by_cases h:b=w.heap.size
  ·exact .inr (by omega)
  ·refine .inl fun aS=>ag ?_;simp [az,h,aS]
 have bW:aL B az J S (w.alloc (.cells vs e)) H:=by
  refine ah.frame aA (fun b l' ag ak=>?_) (fun b o ai=>?_) (fun b l' ag=>?_)
  ·have h:=bM b l' ag;(have dB:l'≠l:=by rcases ak with ⟨id,rfl⟩ | ⟨id,j,rfl⟩ <;> intro e <;> first | exact ca _ e.symm | exact cn _ _ e.symm);refine ⟨?_,heap_alloc_old w _ b (ah.base b l' ag).2,fun o ai=>ai⟩;simp [az,h,ag,dB]
  ·obtain ⟨v,ae⟩:=ah.cf b o ai;exact ⟨v,((aA.set b o ai).2).trans ae⟩
  ·by_cases h:b=w.heap.size
   ·subst h;exact ⟨ah.cX,by simp⟩
   ·have:∃ cv,U b=some cv:=by
     cases aS:U b with
     | none=>simp [az,h,aS] at ag
     | some cv=>exact ⟨cv,rfl⟩
    obtain ⟨cv,aS⟩:=this;have:=ah.base b cv aS;exact ⟨this.1,by simp;omega⟩
 refine ⟨az,aA,bW.push w.heap.size ⟨w.heap.size,vs,e,Ext.last ah _,by simp [az],heap_alloc_new w _,hlen,mx ah,fun j u v hu ae=>?_⟩⟩;obtain ⟨a',bk,bq,b7⟩:=ao j u v hu ae;refine ⟨a',bk,bq.mono (Ext.append J _) aA.set,?_⟩;rcases b7 with b7 | ⟨rfl,b7⟩
 ·exact aV.b3 b7
 ·refine b7.mono (Ext.append J _) aA.set fun b ag=>⟨?_,heap_alloc_old w _ b (ah.base b l ag).2,fun o ai=>ai⟩;simp [az,bM b l ag,ag]
theorem E5 (ah:aL B U J S w H) {l:aI} (ca:∀ id,l≠.obj id) (cn:∀ id j,l≠.cell id j) {u:I} {v:Value} {bF:List I} (ao:u.cells=some bF) (aj:Rel J S w u v) (aq:aV U J S w l u v) (e:TypeId) :
  ∃ x w',(Instr.box e v).run P w=.ok x w'∧a1 B U J S w (H++[.cells (bF.map I.settle)]) (.ptr H.length 0) x w':=by
 obtain ⟨S',aJ,aP,cc,bP,eo,c_⟩:=yb ah ca cn ao aj aq
 obtain ⟨az,aA,lL⟩:=nO (cs:=bF.map I.settle) (vs:=v.cells) cc l ca cn e (by simp [bP]) (fun j bG br hu ae=>by
  obtain ⟨aB,aH,aR⟩:=c_ j bG br hu ae
  exact ⟨aB,eo br (by simpa using vK ae),aH,aR.imp id fun ⟨x,_,y⟩=>⟨x,y⟩⟩)
 refine ⟨.pointer (some ⟨w.heap.size,0,none⟩),w.alloc (.cells v.cells e),?_,az,_,S',Ext.append J _,(bg.settle aJ (fun b o h=>(aP b o h).imp id fun h=>⟨_,h⟩)).trans aA,lL,
  .ptr _ _ _ (Ext.last ah _),aV.b3 rfl⟩
 simp [Instr.box,newVar,newRow,newObj,Sem.run,World.alloc_eq]
theorem E6 (ah:aL B U J S w H) {u:I} {v:Value} {bF:List I} (ao:u.cells=some bF) (aC:bF.all I.plain=true) (aj:Rel J S w u v) (e:TypeId) :
  ∃ x w',(Instr.box e v).run P w=.ok x w'∧a1 B U J S w H (.bU bF) x w':=by
 rw [sC] at aC;have Ce:v.cells.size=bF.length∧(∀ x∈v.cells.toList,x.oneCell'=true)∧∀ (j:Nat) (bG:I) (br:Value),bF[j]?=some bG→v.cells[j]?=some br→Rel J S w bG br:=by
  have single:bF=[u]→v.cells=#[v]→v.oneCell'=true→v.cells.size=bF.length∧(∀ x∈v.cells.toList,x.oneCell'=true)∧∀ (j:Nat) (bG:I) (br:Value),bF[j]?=some bG→v.cells[j]?=some br→Rel J S w bG br:=by
   intro fI ae ad;subst fI;rw [ae];refine ⟨rfl,by simp [ad],fun j bG br aw ef=>?_⟩;cases j with
   | zero=>simp at aw ef;subst aw ef;exact aj
   | succ j=>simp at aw
  cases aj with
  | agg as vs h p one r =>
    simp [I.cells] at ao;subst ao;exact ⟨h,one,r⟩
  | junk v=>simp [I.cells] at ao
  | tuple as vs h p r=>simp [I.cells] at ao
  | raw=>simp [I.cells] at ao
  | _=>simp [I.cells] at ao;exact single ao.symm rfl rfl
 obtain ⟨bP,eo,c_⟩:=Ce
 let S':Nat→Nat→Prop:=fun b o=>S b o∨(b=w.heap.size∧o<bF.length)
 have hnew:(w.alloc (.cells v.cells e)).heap[w.heap.size]?=some (.cells v.cells e (0,0)):=heap_alloc_new w _;have bu:∀ o,(w.alloc (.cells v.cells e)).cell? ⟨w.heap.size,o,none⟩=v.cells[o]?:=fun o=>cell_of_row _ _ o v.cells e (0,0) hnew;have hold:∀ b o,S b o→(w.alloc (.cells v.cells e)).cell? ⟨b,o,none⟩=w.cell? ⟨b,o,none⟩:=fun b o ai=>by
  obtain ⟨x,al⟩:=ah.cf b o ai;exact oF _ (mr al)
 have aA:bg U S w U S' (w.alloc (.cells v.cells e)):=by
  refine ⟨rfl,rfl,rfl,by simp,fun b ag _=>heap_alloc_old w _ b ag,fun b o ai=>⟨.inl ai,hold b o ai⟩,fun b o ai=>?_,fun b ag=>.inl ag⟩;rcases ai with ai | ⟨rfl,_⟩
  ·exact .inl ai
  ·exact .inr (.inr (sb _))
 refine ⟨.pointer (some ⟨w.heap.size,0,none⟩),w.alloc (.cells v.cells e),by simp [Instr.box,newVar,newRow,newObj,Sem.run,World.alloc_eq],U,J,S',Ext.refl J,aA,ah.frame aA (fun b l ag _=>?_) (fun b o ai=>?_) (fun b l ag=>?_),
  .bU _ _ _ (fun j=>v.cells.getD j undef) (fun j bG aw=>?_) (fun j bG aw=>?_),aV.b3 rfl⟩
 ·have aU:=(ah.base b l ag).2;exact ⟨ag,heap_alloc_old w _ b aU,fun o ai=>ai.resolve_right fun h=>by omega⟩
 ·rcases ai with ai | ⟨rfl,aq⟩
  ·obtain ⟨x,al⟩:=ah.cf b o ai;exact ⟨x,(hold b o ai).trans al⟩
  ·exact ⟨_,(bu o).trans (sD (by omega))⟩
 ·have:=ah.base b l ag;exact ⟨this.1,by simp;omega⟩
 ·have aU:=(sa.1 aw).1;have ef:v.cells[j]?=some (v.cells.getD j undef):=by simp [Array.getD,bP,aU]
  rw [sP];exact ⟨.inr ⟨rfl,aU⟩,(bu j).trans ef,aC bG (sK aw),eo _ (by simpa using vK ef)⟩
 ·have aU:=(sa.1 aw).1;have ef:v.cells[j]?=some (v.cells.getD j undef):=by simp [Array.getD,bP,aU]
  exact (c_ j bG _ aw ef).mono (Ext.refl J) aA.set
theorem FW {t:TypeId} {z:List I} (h:zeroCells P t=some z):∃ i v,P.info? t=some i∧i.zero=some v∧z=v.cells.toList.map ho∧∀ x∈v.cells.toList,x.oneCell'=true:=by
 simp only [zeroCells,sf] at h;obtain ⟨v,⟨i,hi,ae⟩,h⟩:=h;split at h
 ·rename_i c_;simp at h;exact ⟨i,v,hi,ae,h.symm,sC.1 c_⟩
 ·simp at h
theorem hN {t:TypeId} {z:List I} (h:zeroCells P t=some z):∃ i v,P.info? t=some i∧i.zero=some v∧c4 J S w z v.cells.toList:=by
 obtain ⟨i,v,hi,ae,rfl,eo⟩:=FW h;refine ⟨i,v,hi,ae,by simp,fun j u br hu bc=>?_⟩;simp only [su,bc,sd,Option.some.injEq] at hu;subst hu;exact ⟨m0 _,eo br (sK bc),lr _ _ _ _⟩
theorem j4 {t:TypeId} {i:TypeInfo} {v:Value} (hi:P.info? t=some i) (ae:i.zero=some v):(zeroValue t).run P w=.ok v w:=by
 simp [zeroValue,typeInfo,hi,ae]
theorem E1 (ah:aL B U J S w H) {t:TypeId} {z:List I} (bm:zeroCells P t=some z) (fL:Value) :
  ∃ x w',(Instr.alloc t true fL).run P w=.ok x w'∧a1 B U J S w (H++[.cells z]) (.ptr H.length 0) x w':=by
 obtain ⟨i,v,hi,ae,ao⟩:=hN (J:=J) (S:=S) (w:=w) bm
 obtain ⟨az,aA,cc⟩:=nO (cs:=z) (vs:=v.cells) ah .res (by simp) (by simp) t (by have:=ao.len;simp at this;omega) (fun j u br hu bc=>by
  obtain ⟨a,b,c⟩:=ao.rel j u br hu (by simpa using bc)
  exact ⟨I.ga a,b,c,.inl a⟩)
 refine ⟨.pointer (some ⟨w.heap.size,0,none⟩),w.alloc (.cells v.cells t),?_,az,_,S,Ext.append J _,aA,cc,.ptr _ _ _ (Ext.last ah _),aV.b3 rfl⟩;cases fL <;> simp [Instr.alloc,j4 hi ae,newVar,newRow,newObj,Sem.run,World.alloc_eq]
theorem E2 (ah:aL B U J S w H) {t:TypeId} {s:Nat} (bm:zeroCells P t=some [.ay [] 0 .full]) (fL:Value) :
  ∃ x w',(Instr.alloc t true fL).run P w=.ok x w'∧a1 B U J S w (H++[.cells [.ay [] 0 (.own s)]]) (.ptr H.length 0) x w':=by
 obtain ⟨i,v,hi,ae,ao⟩:=hN (J:=J) (S:=S) (w:=w) bm
 obtain ⟨az,aA,cc⟩:=nO (cs:=[.ay [] 0 (.own s)]) (vs:=v.cells) ah .res (by simp) (by simp) t (by have:=ao.len;simp at this;simp;omega) (fun j u br hu bc=>by
  cases j with
  | succ j=>simp at hu
  | zero =>
    simp at hu;subst hu;obtain ⟨a,b,c⟩:=ao.rel 0 _ br rfl (by simpa using bc);refine ⟨rfl,b,?_,.inr ⟨rfl,?_⟩⟩
    ·cases c with
     | b1 _ a=>exact .b1 _ a
     | ay _ _ _ bo o cap f ao hle hu h aj=>exact .ay _ _ _ bo o cap f (fun h=>by cases h) hle (fun z h=>by cases h) h aj
    ·cases c with
     | b1 _ a=>cases a with
       | none=>trivial
       | some a=>exact .inl ⟨rfl,rfl,rfl⟩
     | ay _ _ _ b o cap f ao hle hu h aj=>exact .inl ⟨rfl,ao rfl,rfl⟩)
 refine ⟨.pointer (some ⟨w.heap.size,0,none⟩),w.alloc (.cells v.cells t),?_,az,_,S,Ext.append J _,aA,cc,.ptr _ _ _ (Ext.last ah _),aV.b3 rfl⟩;cases fL <;> simp [Instr.alloc,j4 hi ae,newVar,newRow,newObj,Sem.run,World.alloc_eq]
theorem ih (z:List I):∀ n,(e0 n z).length=n*z.length
 | 0=>by simp [e0]
 | n+1=>by simp [e0,ih z n,Nat.succ_mul,te]
theorem z6 (z:List I):∀ (n j:Nat),j<n*z.length→(e0 n z)[j]?=z[j % z.length]?
 | 0,j,h=>by simp at h
 | n+1,j,h=>by
   simp only [e0];rcases sU j z.length with aw | aw
   ·rw [sA aw,Nat.mod_eq_of_lt aw]
   ·rw [sL aw,z6 z n _ (by rw [Nat.succ_mul] at h;omega),Nat.mod_eq_sub_mod aw]
theorem mS {z:List I} {gj:Array Value} (h:c4 J S w z gj.toList) (bm:0<z.length) (n:Nat) :
  c4 J S w (e0 n z) ((Array.range (n*z.length)).map (fun i=>gj[i % gj.size]!)).toList:=by
 have ak:z.length=gj.size:=by simpa using h.len
 refine ⟨by simp [ih],fun j u v hu ae=>?_⟩;have aw:j<n*z.length:=by have:=(sa.1 hu).1;rwa [ih] at this
 rw [z6 z n j aw] at hu;have hm:j % z.length<z.length:=Nat.mod_lt _ bm;refine h.rel (j % z.length) u v hu ?_;simp [aw] at ae;rw [←ak] at ae;have nq:j % z.length<gj.size:=ak ▸ hm;rw [getElem!_pos gj _ nq] at ae;simp [nq,ae]
theorem ij {n bytes:Nat} (h:fs n bytes=true):n*bytes≤140737488355328∧1≤bytes:=by
 simpa [fs] using h
theorem Fi (ah:aL B U J S w H) {t:TypeId} {n c:Int} {k k':IntKind} {z:List I} {sz:Nat} (aS:0≤n) (iM:n≤c) (bm:jg P t c.toNat=some (z,sz)) :
  ∃ x w',(Instr.makeSlice t (.int k n) (.int k' c)).run P w=.ok x w'∧a1 B U J S w (H++[.cells z]) (.ref H.length 0 n.toNat (some c.toNat) sz) x w':=by
 unfold jg at bm;split at bm
 ·rename_i e he;split at bm
  ·rename_i s lf bytes ai pM ag;split at bm
   ·rename_i ao;obtain ⟨jB,hY,o7⟩:=ao;simp only [Option.some.injEq,Prod.mk.injEq] at bm;obtain ⟨rfl,rfl⟩:=bm;obtain ⟨i,v,hi,ae,eC⟩:=hN (J:=J) (S:=S) (w:=w) pM;simp only [hi,sd,Option.some.injEq] at ag;subst ag;obtain ⟨r1,r2⟩:=ij o7;have fJ:=mS eC (by omega) c.toNat;have o_:c.toNat≤140737488355328:=sI (uB _ r2) r1;(have er:lf.length=v.cells.size:=by simpa using eC.len);(have bP:i.size=s:=by obtain ⟨nA,hi',h⟩:=mP ai;rw [hi] at hi';cases hi';exact h);have lP:(i.bytes:Int)*c≤281474976710656:=by
     have:(i.bytes:Int)*c=((c.toNat*i.bytes:Nat):Int):=by rw [vL,uj (by omega),Int.mul_comm]
     rw [this];omega
    have dN:=run_make (P:=P) w t e i v he hi ae k k' n c aS iM lP (by omega);have pt:(madeCells v.cells (c.toNat*i.size)).toList=((Array.range (c.toNat*lf.length)).map (fun i=>v.cells[i % v.cells.size]!)).toList:=by
     rw [bP,←jB];rfl
    rw [←pt] at fJ
    obtain ⟨az,aA,cc⟩:=nO (cs:=e0 c.toNat lf) (vs:=madeCells v.cells (c.toNat*i.size)) ah .res (by simp) (by simp) e (by have:=fJ.len;simp at this ⊢;omega) (fun j u br hu bc=>by
     obtain ⟨a,b,c⟩:=fJ.rel j u br hu (by simpa using bc)
     exact ⟨I.ga a,b,c,.inl a⟩)
    exact ⟨_,_,dN,az,_,S,Ext.append J _,aA,cc,.ref _ _ _ _ _ _ _ (Ext.last ah _) (fun m hm=>by simpa using hm) (by omega),aV.b3 rfl⟩
   ·simp at bm
  ·simp at bm
 ·simp at bm
theorem Fj (ah:aL B U J S w H) {t:TypeId} {c:Int} {k k':IntKind} {z:List I} {sz:Nat} (aS:0≤c) (bm:jg P t c.toNat=some (z,sz)) :
  ∃ x w',(Instr.makeSlice t (.int k c) (.int k' c)).run P w=.ok x w'∧a1 B U J S w H (.ay z c.toNat (.uniq sz)) x w':=by
 unfold jg at bm;split at bm
 ·rename_i e he;split at bm
  ·rename_i s lf bytes ai pM ag;split at bm
   ·rename_i ao;obtain ⟨jB,hY,o7⟩:=ao;simp only [Option.some.injEq,Prod.mk.injEq] at bm;obtain ⟨rfl,rfl⟩:=bm;obtain ⟨i,v,hi,ae,eC⟩:=hN (J:=J) (S:=S) (w:=w) pM;simp only [hi,sd,Option.some.injEq] at ag;subst ag;obtain ⟨r1,r2⟩:=ij o7;have fJ:=mS eC (by omega) c.toNat;have o_:c.toNat≤140737488355328:=sI (uB _ r2) r1;(have er:lf.length=v.cells.size:=by simpa using eC.len);(have bP:i.size=s:=by obtain ⟨nA,hi',h⟩:=mP ai;rw [hi] at hi';cases hi';exact h);have lP:(i.bytes:Int)*c≤281474976710656:=by
     have:(i.bytes:Int)*c=((c.toNat*i.bytes:Nat):Int):=by rw [vL,uj (by omega),Int.mul_comm]
     rw [this];omega
    have dN:=run_make (P:=P) w t e i v he hi ae k k' c c (by omega) (Int.le_refl _) lP (by omega);have pt:(madeCells v.cells (c.toNat*i.size)).toList=((Array.range (c.toNat*lf.length)).map (fun i=>v.cells[i % v.cells.size]!)).toList:=by
     rw [bP,←jB];rfl
    rw [←pt] at fJ;have iN:=nP ah fJ [] e c.toNat c.toNat s hY (by rw [ih,jB]) (sb _) (by simp only [maxLen];omega) (by rw [←fJ.len,ih,jB];simp);simp only [sN,uC] at iN;exact ⟨_,_,dN,iN⟩
   ·simp at bm
  ·simp at bm
 ·simp at bm
end
end Go.Proofs.YtfakoboiahbhaaaGreat.Ab


namespace Go.Proofs.YtfakoboiahbhaaaGreat.Ab
open Go
section
variable {P:Program} {B:Nat} {J:List Nat} {w:World} {H:List au} {U:Nat→Option aI} {S:Nat→Nat→Prop}
theorem mM:∀ (vs:List I) (off:Nat) (cs:List I),(setCells off vs cs).length=cs.length
 | [],_,_=>rfl
 | v::vs,off,cs=>by simp [setCells,mM vs]
theorem n9:∀ (vs:List I) (off:Nat) (cs:List I) (j:Nat),off+vs.length≤cs.length →
  (setCells off vs cs)[j]?=if off≤j∧j<off+vs.length then vs[j-off]? else cs[j]?
 | [],off,cs,j,_=>by simp [setCells];omega
 | v::vs,off,cs,j,h=>by
   simp only [sH] at h;rw [setCells,n9 vs (off+1) _ j (by simp;omega)];by_cases ad:j=off
   ·subst ad
    have:¬ (j+1≤j∧j<j+1+vs.length):=by omega
    rw [if_neg this,if_pos (by simp)];simp [show j<cs.length by omega]
   ·by_cases af:off+1≤j∧j<off+1+vs.length
    ·rw [if_pos af,if_pos (by simp;omega)];obtain ⟨k,rfl⟩:∃ k,j=off+1+k:=⟨j-(off+1),by omega⟩;rw [show off+1+k-off=k+1 by omega,show off+1+k-(off+1)=k by omega];simp
    ·rw [if_neg af,if_neg (by simp;omega)];rw [si (fun e=>ad e.symm)]
theorem j5 (cur vs:List Value) (off j:Nat) (h:off+vs.length≤cur.length) :
  (cur.take off++vs++cur.drop (off+vs.length))[j]?=if off≤j∧j<off+vs.length then vs[j-off]? else cur[j]?:=by
 have ax:(cur.take off).length=off:=by simp;omega
 by_cases ad:j<off
 ·rw [if_neg (by omega),sj,sA (by omega),sV,if_pos ad]
 ·by_cases af:j<off+vs.length
  ·rw [if_pos ⟨by omega,af⟩,sj,sL (by omega),ax,sA (by omega)]
  ·rw [if_neg (by omega),sL (by simp;omega)];simp only [sm,ax,sX];congr 1;omega
theorem xe (ah:aL B U J S w H) {id:Nat} {l l':List I} (aE:H[id]?=some (.cells l)) {b:Nat} {cur cur':Array Value} {e:TypeId} (aB:J[id]?=some b) (aH:U b=some (.obj id))
  (aR:w.heap[b]?=some (.cells cur e (0,0))) (bb:∀ o,¬ S b o) (L:aI) (ca:∀ id,L≠.obj id) (cn:∀ id j,L≠.cell id j) (ak:l'.length≤cur'.size) (y7:Nat)
  (ao:∀ (j:Nat) (u:I) (v:Value),l'[j]?=some u→cur'[j]?=some v→u.cT=true∧v.oneCell'=true∧Rel J S w u v ∧
   (u.plain=true∨aV U J S w (.cell id j) u v∨(j=y7∧aV U J S w L u v))) :
  ∃ az,bg U S w az S (w.setRow b cur')∧aL B az J S (w.setRow b cur') (H.set id (.cells l')):=by
 classical
 let az:Nat→Option aI:=fun ar=>if U ar=some L then some (.cell id y7) else U ar
 have bu:∀ ar o,ar≠b→(w.setRow b cur').cell? ⟨ar,o,none⟩=w.cell? ⟨ar,o,none⟩:=fun ar o h=>by
  unfold World.cell?;simp only [setRow_other w b ar cur' h]
 have hr:∀ ar o,S ar o→ar≠b:=fun ar o ai e=>bb o (e ▸ ai);have yu:L≠.obj id:=ca id;have pq:∀ ar cv,U ar=some cv→cv≠L→az ar=some cv:=fun ar cv h aN=>by
  have:¬ U ar=some L:=by rw [h];intro e;cases e;exact aN rfl
  simp [az,h,aN]
 have bP:(w.setRow b cur').heap.size=w.heap.size:=by simp [World.setRow]
 have aA:bg U S w az S (w.setRow b cur'):=by
  refine ⟨rfl,rfl,rfl,by omega,fun ar bp aN=>setRow_other w b ar cur' (fun e=>by subst e;rw [aH] at aN;cases aN),fun ar o ai=>⟨ai,bu ar o (hr ar o ai)⟩,fun ar o ai=>.inl ai,fun ar bp=>?_⟩;refine .inl fun aS=>bp ?_;simp [az,aS]
 refine ⟨az,aA,by simpa using ah.cE,fun bx o aq=>?_,fun ar o ai=>?_,fun ar cv bp=>?_,by rw [bP];exact ah.cX⟩
 ·by_cases gX:bx=id
  ·subst gX;rw [sg (sa.1 aE).1] at aq;cases aq;refine ⟨b,cur',e,aB,pq b _ aH (fun e=>yu e.symm),setRow_heap w b cur cur' e (0,0) aR,ak,bb,fun j u v hu ae=>?_⟩;obtain ⟨a',bk,bq,b7⟩:=ao j u v hu ae;refine ⟨a',bk,bq.mono (Ext.refl J) aA.set,?_⟩;rcases b7 with b7 | b7 | ⟨rfl,b7⟩
   ·exact aV.b3 b7
   ·exact b7.mono (Ext.refl J) aA.set fun ar bp=>⟨pq ar _ bp (fun e=>cn _ _ e.symm),setRow_other w b ar cur' (fun e=>by subst e;rw [aH] at bp;cases bp),fun o ai=>ai⟩
   ·exact b7.mono (Ext.refl J) aA.set fun ar bp=>⟨by simp [az,bp],setRow_other w b ar cur' (fun e=>by subst e;rw [aH] at bp;cases bp;exact yu rfl),fun o ai=>ai⟩
  ·rw [si (fun e=>gX e.symm)] at aq;refine (ah.obj bx o aq).frame (Ext.refl J) aA.set fun ar cv bp jG=>?_;have bM:ar≠b:=fun e=>by
    subst e;rw [aH] at bp;cases bp;rcases jG with h | ⟨j,h⟩
    ·cases h;exact gX rfl
    ·cases h
   exact ⟨pq ar cv bp (by rcases jG with rfl | ⟨j,rfl⟩ <;> intro e <;> first | exact ca _ e.symm | exact cn _ _ e.symm),setRow_other w b ar cur' bM,fun o ai=>ai⟩
 ·obtain ⟨v,ae⟩:=ah.cf ar o ai;exact ⟨v,(bu ar o (hr ar o ai)).trans ae⟩
 ·rw [bP];by_cases h:U ar=some L
  ·exact ah.base ar L h
  ·simp only [az,h,if_false] at bp;exact ah.base ar cv bp
theorem Ft (ah:aL B U J S w H) {l:aI} (ca:∀ id,l≠.obj id) (cn:∀ id j,l≠.cell id j) {lo:Nat} {t:TypeId} {a u:I} {x v:Value} {H':List au} (h:iA P lo H t a u=some H')
  (cd:Rel J S w a x) (aj:Rel J S w u v) (aq:aV U J S w l u v) (y:Value) :
  ∃ w',(Instr.storeAt t x v).run P w=.ok () w'∧a1 B U J S w H' .junk y w':=by
 have key:∀ {H H':List au} (_:aL B U J S w H) {id off s:Nat} (_:bS P t=some s) {bF:List I} (_:u.cells=some bF) {ll l':List I} (_:H[id]?=some (.cells ll))
   (_:(if bF.length=s∧off+s≤ll.length then some (setCells off (bF.map I.settle) ll) else none)=some l') (_:Rel J S w (.ptr id off) x) (_:H'=H.set id (.cells l')),
   ∃ w' b cur,(Instr.storeAt t x v).run P w=.ok () w'∧a1 B U J S w H' .junk y w'∧J[id]?=some b∧(∃ e,w.heap[b]?=some (.cells cur e (0,0)))∧∃ cur' e,w'.heap[b]?=some (.cells cur' e (0,0))∧cur'.size=cur.size:=by
  intro H H' ah id off s ai bF fI ll l' aE dB cd cc;subst cc
  ·
     split at dB
     ·rename_i gW;obtain ⟨a',bk⟩:=gW;simp only [Option.some.injEq] at dB;subst dB;obtain ⟨S',aJ,aP,cc,bP,eo,c_⟩:=yb ah ca cn fI aj aq;obtain ⟨b,cur,e,aB,aH,aR,bj,bb,bf⟩:=cc.obj id _ aE;cases cd with
      | ptr id off ar ag =>
        rw [aB] at ag;cases ag;have cJ:=run_storeCells_at P b off e v.cells.toList 0 cur w aR (by simp [bP];omega) eo;simp only [tU] at cJ;obtain ⟨az,aA,lL⟩:=xe (cur':=(cur.toList.take off++v.cells.toList++cur.toList.drop (off+v.cells.toList.length)).toArray) (l':=setCells off (bF.map I.settle) ll) cc aE aB aH aR bb l ca cn
         (by simp [mM,bP];omega) off (fun j bG br hu ae=>by
          rw [n9 _ _ _ _ (by simp;omega)] at hu;(have ae:(cur.toList.take off++v.cells.toList++cur.toList.drop (off+v.cells.toList.length))[j]?=some br:=by simpa using ae);rw [j5 _ _ _ _ (by simp [bP];omega)] at ae;simp only [List.length_map,tE,bP] at hu ae;split at hu
          ·rename_i aw;rw [if_pos aw] at ae;obtain ⟨d1,d2,d3⟩:=c_ (j-off) bG br hu (by simpa using ae);refine ⟨d1,eo br (sK ae),d2,?_⟩;rcases d3 with d3 | ⟨d3,_,d4⟩
           ·exact .inl d3
           ·exact .inr (.inr ⟨by omega,d4⟩)
          ·rename_i aw;rw [if_neg aw] at ae;obtain ⟨d1,d0,d2,d3⟩:=bf j bG br hu (by simpa using ae)
           exact ⟨d1,d0,d2,.inr (.inl d3)⟩)
        refine ⟨_,b,cur,?_,⟨az,J,S',Ext.refl J,(bg.settle aJ (fun b o h=>(aP b o h).imp (fun h=>h) fun h=>⟨_,h⟩)).trans aA,lL,.junk y,aV.b3 rfl⟩,aB,⟨e,aR⟩,_,e,setRow_heap w b cur _ e (0,0) aR,?_⟩
        ·simp only [Instr.storeAt,Instr.sureAddr,storeVar,Sem.run_bind,Sem.run_pure,Result.andThen_ok,run_sizeOf ai];rw [if_neg (by rw [bP,a'];simp)];exact cJ
        ·simp [bP];omega
     ·simp at dB
 unfold iA at h;split at h
 ·rename_i id off s ai;split at h
  ·rename_i bF fI;unfold g9 at h;split at h
   ·split at h
    ·rename_i lo' ll aE;simp only [rZ] at h;obtain ⟨l',dB,rfl⟩:=h;obtain ⟨w',_,_,q1,aW,_⟩:=key ah ai fI aE dB cd rfl;exact ⟨w',q1,aW⟩
    ·rename_i lo' ll g z aE;simp only [rZ] at h;obtain ⟨l',dB,rfl⟩:=h;have aU:=(sa.1 aE).1;obtain ⟨b,cur,e,aB,aH,aR,bj,bb,bf,cap,c1,da,dF,fx⟩:=ah.obj id _ aE;obtain ⟨w',ar,BM,q1,⟨az,bZ,S',bR,b4,eE,fM⟩,cz,⟨fT,dR⟩,cur',cM,mG,xj⟩:=key (ah.og aE) ai fI (ll:=ll) (by rw [sg aU]) dB cd rfl;rw [aB] at cz;cases cz;rw [aR] at dR;cases dR;have aO:=eE.xo (g:=g) (z:=z) (by rw [sg (by simpa using aU)]) (bR _ _ aB) (bR _ _ c1) da dF mG (by rw [xj,fx]);rw [sQ,sQ] at aO;exact ⟨w',q1,az,bZ,S',bR,b4,aO,fM⟩
    ·simp at h
   ·simp at h
  ·simp at h
 ·simp at h
theorem Fu (ah:aL B U J S w H) {l:aI} (ca:∀ id,l≠.obj id) (cn:∀ id j,l≠.cell id j) {lo:Nat} {t:TypeId} {a u:I} {x v:Value} {H':List au} (h:lq P lo H t a u=some H')
  (cd:Rel J S w a x) (aj:Rel J S w u v) (aq:aV U J S w l u v) (y:Value) :
  ∃ w',(Instr.storeAt t x v).run P w=.ok () w'∧a1 B U J S w H' .junk y w':=by
 unfold lq at h;split at h
 ·rename_i id off c n z ai;split at h
  ·rename_i ao;obtain ⟨r1,r2⟩:=FH ao.2 ao.1 aj aq;unfold g8 at h;split at h
   ·split at h
    ·rename_i lo' ll aE;simp only [rZ] at h;obtain ⟨l',dB,rfl⟩:=h;split at dB
     ·rename_i cW;simp only [Option.some.injEq] at dB;subst dB;obtain ⟨b,cur,e,aB,aH,aR,bj,bb,bf⟩:=ah.obj id _ aE;cases cd with
      | ptr id off ar ag =>
        rw [aB] at ag;cases ag;(have eo:∃ b o cap,v=.slice (some ⟨b,o,none⟩) n cap:=by cases r1 with | raw _ _ _ b o cap=>exact ⟨b,o,cap,rfl⟩);(have ea:v.cells=#[v]∧v.oneCell'=true:=by obtain ⟨b,o,cap,rfl⟩:=eo;exact ⟨rfl,rfl⟩);have cJ:=run_storeCells_at P b off e v.cells.toList 0 cur w aR (by rw [ea.1];simp;omega) (by rw [ea.1];simp [ea.2]);simp only [tU,ea.1] at cJ;obtain ⟨az,aA,lL⟩:=xe (cur':=(cur.toList.take off++[v]++cur.toList.drop (off+1)).toArray) (l':=ll.set off (.raw c n z)) ah aE aB aH aR bb l ca cn
         (by simp;omega) off (fun j bG br hu ae=>by
          (have ae:(cur.toList.take off++[v]++cur.toList.drop (off+1))[j]?=some br:=by simpa using ae);have dC:=j5 cur.toList [v] off j (by simp;omega);simp only [List.length_singleton] at dC;rw [dC] at ae;by_cases aw:off=j
          ·subst aw;rw [sg cW] at hu;cases hu;rw [if_pos ⟨by omega,by omega⟩] at ae;simp at ae;subst ae;exact ⟨rfl,ea.2,r1,.inr (.inr ⟨rfl,r2⟩)⟩
          ·rw [si aw] at hu;rw [if_neg (by omega)] at ae;obtain ⟨d1,d0,d2,d3⟩:=bf j bG br hu (by simpa using ae)
           exact ⟨d1,d0,d2,.inr (.inl d3)⟩)
        refine ⟨_,?_,az,J,S,Ext.refl J,aA,lL,.junk y,aV.b3 rfl⟩;simp only [Instr.storeAt,Instr.sureAddr,storeVar,Sem.run_bind,Sem.run_pure,Result.andThen_ok,run_sizeOf ai];rw [if_neg (by rw [ea.1];simp),ea.1];exact cJ
     ·simp at dB
    ·simp at h
   ·simp at h
  ·simp at h
 ·simp at h
theorem ig (ah:aL B U J S w H) {l:aI} (ca:∀ id,l≠.obj id) (cn:∀ id j,l≠.cell id j) {u:I} {v:Value} (aj:Rel J S w u v) (aq:aV U J S w l u v) :
  a1 B U J S w H u v w:=by
 classical
 let az:Nat→Option aI:=fun b=>if U b=some l then some .res else U b
 have aA:bg U S w az S w:=⟨rfl,rfl,rfl,sb _,fun _ _ _=>rfl,fun _ _ h=>⟨h,rfl⟩,fun _ _ h=>.inl h,fun b ag=>.inl fun aS=>ag (by simp [az,aS])⟩;refine ⟨az,J,S,Ext.refl J,aA,ah.frame aA (fun b l' ag ak=>?_) ah.cf (fun b l' ag=>?_),aj,aq.mono (Ext.refl J) aA.set fun b ag=>⟨by simp [az,ag],rfl,fun _ h=>h⟩⟩
 ·have bM:l'≠l:=by rcases ak with ⟨id,rfl⟩ | ⟨id,j,rfl⟩ <;> intro e <;> first | exact ca _ e.symm | exact cn _ _ e.symm
  exact ⟨by simp [az,ag,bM],rfl,fun _ h=>h⟩
 ·by_cases h:U b=some l
  ·exact ah.base b l h
  ·simp only [az,h,if_false] at ag;exact ah.base b l' ag
theorem zL (ah:aL B U J S w H) {l:aI} (ca:∀ id,l≠.obj id) (cn:∀ id j,l≠.cell id j) {cells:List I} {len z:Nat} (aS:len≠0) {v:Value}
  (aj:Rel J S w (.ay cells len (.uniq z)) v) (aq:aV U J S w l (.ay cells len (.uniq z)) v) :
  a1 B U J S w (H++[.cells cells]) (.ref H.length 0 len none z) v w:=by
 classical
 cases aj with
 | b1 c a=>exact absurd rfl aS
 | ay cells len c b o cap f ao hle hu h fp=>exact absurd rfl (hu z)
 | cK cells len z b o cap =>
   rcases aq with ⟨rfl,_,_⟩ | ⟨ad,aq,af,aG,a6,bL,⟨cur,e,bV,cN,cR⟩,cV⟩
   ·exact absurd rfl aS
   ·simp only at ad bV cV aq;subst aq
    let az:Nat→Option aI:=fun ar=>if ar=b then some (.obj H.length) else U ar
    have aA:bg U S w az S w:=⟨rfl,rfl,rfl,sb _,fun _ _ _=>rfl,fun _ _ h=>⟨h,rfl⟩,fun _ _ h=>.inl h,fun ar ag=>by
     by_cases dH:ar=b
     ·subst dH;exact .inl (by simp [ad])
     ·simp only [az,dH,if_false] at ag;exact .inl ag⟩
    have bW:aL B az J S w H:=by
     refine ah.frame aA (fun ar l' ag ak=>?_) ah.cf (fun ar l' ag=>?_)
     ·have bM:ar≠b:=fun e=>by
       subst e;rw [ad] at ag;cases ag;rcases ak with ⟨id,h⟩ | ⟨id,j,h⟩
       ·exact ca _ h
       ·exact cn _ _ h
      exact ⟨by simp [az,bM,ag],rfl,fun _ h=>h⟩
     ·by_cases dH:ar=b
      ·subst dH;exact ah.base _ l ad
      ·simp only [az,dH,if_false] at ag;exact ah.base ar l' ag
    refine ⟨az,_,S,Ext.append J [b],aA,bW.push b ⟨b,cur,e,Ext.last ah _,by simp [az],bV,by rw [cN,bL];exact tA _ af,cV,fun j u v hu ae=>?_⟩,
     .ref _ _ _ _ _ b _ (Ext.last ah _) (by simp) af,aV.b3 rfl⟩
    obtain ⟨a',bk,bq⟩:=cR j u v hu ae;exact ⟨I.ga a',bk,bq.mono (Ext.append J _) aA.set,aV.b3 a'⟩
theorem xD (ah:aL B U J S w H) {u:I} {v:Value} {row:List I} (h:rowOf H u=some row) (aj:Rel J S w u v) (aN:u.cT=true) :
  (row=[]∧∃ a c,v=.slice a 0 c)∨∃ b o n c vs,v=.slice (some ⟨b,o,none⟩) n c∧c4 J S w row vs∧(∀ j x,vs[j]?=some x→w.cell? ⟨b,o+j,none⟩=some x):=by
 unfold rowOf at h;split at h
 ·rename_i cells len c;simp at h;subst h;cases aj with
  | b1 c a=>exact .inl ⟨rfl,a,_,rfl⟩
  | cK=>simp [I.cT] at aN
  | ay _ _ _ b o cap f ao hle hu bu b9 =>
    refine .inr ⟨b,o,len,cap,(List.range cells.length).map f,rfl,⟨by simp,fun j u v b_ bc=>?_⟩,fun j x al=>?_⟩
    ·have aw:=(sa.1 b_).1;simp [aw] at bc;subst bc;exact ⟨(bu j u b_).2.2.1,(bu j u b_).2.2.2,b9 j u b_⟩
    ·simp only [su,rZ] at al;obtain ⟨k,av,rfl⟩:=al;(have aw:j<cells.length:=by have:=(sa.1 av).1;simpa using this);simp [aw] at av;subst av;exact (bu j _ (sq aw)).2.1
 ·rename_i id off len cap sz;split at h
  ·rename_i l aE;split at h
   ·rename_i hle;simp only [Option.some.injEq] at h;subst h;obtain ⟨b,cur,e,aB,aH,aR,bj,bb,bf⟩:=ah.obj id _ aE;cases aj with
    | ref id off len c sz ar cap' ag ao CE =>
      rw [aB] at ag;cases ag;refine .inr ⟨b,off,len,cap',(cur.toList.drop off).take (len*sz),rfl,⟨by simp;omega,fun j u v b_ bc=>?_⟩,fun j x al=>?_⟩
      ·simp only [su,rZ] at b_;obtain ⟨y,a0,rfl⟩:=b_;rw [sV] at a0 bc;split at a0
       ·rename_i aw;rw [if_pos aw] at bc;rw [sX] at a0 bc;obtain ⟨d1,d0,d2,_⟩:=bf (off+j) y v a0 (by simpa using bc);exact ⟨I.dh y,d0,d2.view d1⟩
       ·simp at a0
      ·rw [sV] at al;split at al
       ·rw [sX] at al;rw [cell_of_row w b _ cur e (0,0) aR];simpa using al
       ·simp at al
   ·simp at h
  ·simp at h
 ·simp at h
theorem mo {u:I} {v:Value} {n:Nat} (h:lenOf u=some n) (aj:Rel J S w u v):∃ a c,v=.slice a n c:=by
 unfold lenOf at h;split at h
 ·simp at h;subst h;cases aj with
  | b1 c a=>exact ⟨_,_,rfl⟩
  | ay=>exact ⟨_,_,rfl⟩
  | cK=>exact ⟨_,_,rfl⟩
 ·simp at h;subst h;cases aj with
  | ref=>exact ⟨_,_,rfl⟩
 ·simp at h
end
end Go.Proofs.YtfakoboiahbhaaaGreat.Ab


namespace Go.Proofs.YtfakoboiahbhaaaGreat.Ab
open Go
section
variable {P:Program} {B:Nat} {J:List Nat} {w:World} {H:List au} {U:Nat→Option aI} {S:Nat→Nat→Prop}
theorem a1.after {b2:Nat→Option aI} {cQ:List Nat} {a4:Nat→Nat→Prop} {bC:World} (bK:Ext J cQ) (aA:bg U S w b2 a4 bC) {H':List au} {r:I} {v:Value} {w':World} (h:a1 B b2 cQ a4 bC H' r v w'):a1 B U J S w H' r v w':=by
 obtain ⟨az,bZ,S',a,b,c,d,e⟩:=h;exact ⟨az,bZ,S',bK.trans a,aA.trans b,c,d,e⟩
theorem a1.settle {cells:List I} {len z:Nat} {v:Value} {w':World} {H':List au} (h:a1 B U J S w H' (.ay cells len (.uniq z)) v w'):a1 B U J S w H' (.ay cells len (.own z)) v w':=by
 obtain ⟨az,bZ,S',a,b,c,d,e⟩:=h;obtain ⟨a4,aJ,aP,cj,r1,r2,eF⟩:=j7 c d e;exact ⟨az,bZ,a4,a,b.trans (bg.settle aJ fun b o h=>(aP b o h).imp (fun h=>h) fun h=>⟨_,h⟩),c.settle aJ (fun b o h=>(aP b o h).imp (fun h=>h) fun h=>⟨_,h,by simp,by simp⟩) cj,r2,eF⟩
theorem Au (t ty e:TypeId) (i:TypeInfo) (ax:P.underlying t=some (.slice e)) (hi:P.info? e=some i) (base:Option Addr) (eH hg:Nat) (hle:eH≤hg) (a:Option Addr) (c:Nat) :
  (Builtin.append_ #[t,t] ty #[.slice base eH hg,.slice a 0 c]).run P w=.ok (.slice base eH hg) w:=by
 cases a <;> cases base <;> simp [Builtin.append_,run_underlying ax,sizeOf,typeInfo,hi,Builtin.lenOf,hle,Builtin.firstCells,loadCells,loadCellsFrom,storeCells]
theorem At (w:World) (t ty e:TypeId) (i:TypeInfo) (ax:P.underlying t=some (.slice e)) (hi:P.info? e=some i)
  (g eH hg:Nat) (cur:Array Value) (ce:TypeId) (aO:w.heap[g]?=some (.cells cur ce (0,0)))
  (a:Addr) (m c:Nat) (news:List Value) (ak:news.length=m*i.size) (pz:∀ j u,news[j]?=some u→w.cell? (a.add j)=some u) (ad:∀ u∈news,u.oneCell'=true)
  (ep:eH+m≤hg) (dI:eH*i.size+news.length≤cur.size) :
  (Builtin.append_ #[t,t] ty #[.slice (some ⟨g,0,none⟩) eH hg,.slice (some a) m c]).run P w =
   .ok (.slice (some ⟨g,0,none⟩) (eH+m) hg) (w.setRow g (cur.toList.take (eH*i.size)++news++cur.toList.drop (eH*i.size+news.length)).toArray):=by
 have aQ:=run_firstCells_some (P:=P) w i.size m a m c news ak pz;have cJ:=run_storeCells_at P g (eH*i.size) ce news 0 cur w aO (by simpa using dI) ad;simp only [tU] at cJ;simp [Builtin.append_,run_underlying ax,sizeOf,typeInfo,hi,Builtin.lenOf,ep,aQ,Addr.add_lit,cJ]
theorem EA (w:World) (t ty e:TypeId) (i:TypeInfo) (ax:P.underlying t=some (.slice e)) (hi:P.info? e=some i)
  (g k eH hg:Nat) (cur:Array Value) (ce:TypeId) (aO:w.heap[g]?=some (.cells cur ce (0,0)))
  (a:Addr) (m c:Nat) (news:List Value) (ak:news.length=m*i.size) (pz:∀ j u,news[j]?=some u→w.cell? (a.add j)=some u) (ad:∀ u∈news,u.oneCell'=true)
  (ep:eH+m≤hg) (dI:k+eH*i.size+news.length≤cur.size) :
  (Builtin.append_ #[t,t] ty #[.slice (some ⟨g,k,none⟩) eH hg,.slice (some a) m c]).run P w =
   .ok (.slice (some ⟨g,k,none⟩) (eH+m) hg) (w.setRow g (cur.toList.take (k+eH*i.size)++news++cur.toList.drop (k+eH*i.size+news.length)).toArray):=by
 have aQ:=run_firstCells_some (P:=P) w i.size m a m c news ak pz;have cJ:=run_storeCells_at P g (k+eH*i.size) ce news 0 cur w aO (by simpa using dI) ad;simp only [tU] at cJ;simp [Builtin.append_,run_underlying ax,sizeOf,typeInfo,hi,Builtin.lenOf,ep,aQ,Addr.add_lit,cJ]
section grow
variable {t ty e:TypeId} {i:TypeInfo} {z:Value} {GI:List I}
theorem hV (ah:aL B U J S w H) (ax:P.underlying t=some (.slice e)) (hi:P.info? e=some i) (bm:i.zero=some z) (er:z.cells.size=i.size) (bP:0<i.size)
  (v:Value) (len cap:Nat) (iV:List Value) (ae:((∃ a,v=.slice a 0 0)∧len=0∧cap=0∧iV=[])∨∃ b o,v=.slice (some ⟨b,o,none⟩) len cap∧∀ j x,iV[j]?=some x→w.cell? ⟨b,o+j,none⟩=some x)
  {cs:List I} (gz:c4 J S w cs iV) (fH:cs.length=len*i.size)
  {ar cL m c:Nat} {new:List I} {news:List Value} (hnew:c4 J S w new news) (bu:∀ j x,news[j]?=some x→w.cell? ⟨ar,cL+j,none⟩=some x) (cY:new.length=m*i.size)
  (hm:0<m) (nm:cap<len+m) (ep:(len+m)*i.bytes≤140737488355328) (eW:1≤i.bytes) :
  ∃ x w',(Builtin.append_ #[t,t] ty #[v,.slice (some ⟨ar,cL,none⟩) m c]).run P w=.ok x w'∧a1 B U J S w H (.ay (cs++new) (len+m) (.uniq i.size)) x w':=by
 have CF:len+m≤140737488355328:=sI (uB _ eW) ep;have en:len+m≤maxLen:=by simp only [maxLen];omega
 have eM:news.length=m*i.size:=hnew.len ▸ cY;have yN:iV.length=len*i.size:=gz.len ▸ fH;have kr:∀ j x,news[j]?=some x→w.cell? ((⟨ar,cL,none⟩:Addr).add j)=some x:=fun j x h=>by rw [add_lit];exact bu j x h
 have fin:∀ e8:Nat,e8=grownCap w (len+m) cap e →
   a1 B U J S w H (.ay (cs++new) (len+m) (.uniq i.size)) (.slice (some ⟨w.heap.size,0,none⟩) (len+m) e8)
    (w.drew.alloc (.cells (iV.toArray++news.toArray++Builtin.zeroCells z.cells (e8-(len+m))) e)):=by
  rintro e8 rfl;have e_:=grownCap_ge w (len+m) cap e;have hle:=grownCap_le_maxLen w (len+m) cap e en;generalize grownCap w (len+m) cap e=e8 at e_ hle;have aA:=ki U S w;have h:=nP (l7 ah) ((gz.append hnew).mono (Ext.refl J) aA.set) (Builtin.zeroCells z.cells (e8-(len+m))).toList e (len+m) e8 i.size bP
   (by rw [sm,fH,cY,tp]) e_ hle (by
    rw [sm,yN,eM,←tp,tE,size_zeroCells,er,←tp];congr 1;omega)
  have he:(iV++news++(Builtin.zeroCells z.cells (e8-(len+m))).toList).toArray=iV.toArray++news.toArray++Builtin.zeroCells z.cells (e8-(len+m)):=by
   apply Array.ext';simp
  rw [he] at h;exact a1.after (Ext.refl J) aA h
 rcases ae with ⟨⟨jn,rfl⟩,rfl,rfl,rfl⟩ | ⟨b,o,rfl,hold⟩
 ·cases jn with
  | none =>
    have aj:=run_append_nil (P:=P) w t ty e i z ax hi bm ⟨ar,cL,none⟩ m c news eM kr hm (by omega) (by rw [sP] at ep;omega);have f:=fin _ rfl;refine ⟨_,_,aj,?_⟩;simpa using f
  | some lu =>
    have aj:=run_append_grow (P:=P) w t ty e i z ax hi bm lu 0 0 [] (by simp) (by simp) ⟨ar,cL,none⟩ m c news eM kr nm (by omega) (growslice_fits nm ep);exact ⟨_,_,aj,fin _ rfl⟩
 ·have aj:=run_append_grow (P:=P) w t ty e i z ax hi bm ⟨b,o,none⟩ len cap iV yN (fun j x h=>by rw [add_lit];exact hold j x h) ⟨ar,cL,none⟩ m c news eM kr nm (by omega) (growslice_fits nm ep);exact ⟨_,_,aj,fin _ rfl⟩
theorem Bw (ah:aL B U J S w H) (ax:P.underlying t=some (.slice e)) (hi:P.info? e=some i) (bP:0<i.size) {l:aI} (ca:∀ id,l≠.obj id) (cn:∀ id j,l≠.cell id j)
  {cells:List I} {len b cap:Nat} {cur:Array Value} {ce:TypeId} (bA:U b=some l) (kQ:cap≤maxLen) (ia:cells.length=len*i.size)
  (g_:w.heap[b]?=some (.cells cur ce (0,0))) (gE:cur.size=cap*i.size) (jS:∀ (j:Nat) (u:I) (v:Value),cells[j]?=some u→cur[j]?=some v→u.plain=true∧v.oneCell'=true∧Rel J S w u v)
  (g':∀ o,¬ S b o)
  {ar cL m c:Nat} {new:List I} {news:List Value} (hnew:c4 J S w new news) (bu:∀ j x,news[j]?=some x→w.cell? ⟨ar,cL+j,none⟩=some x) (cY:new.length=m*i.size) (dI:len+m≤cap) :
  ∃ x w',(Builtin.append_ #[t,t] ty #[.slice (some ⟨b,0,none⟩) len cap,.slice (some ⟨ar,cL,none⟩) m c]).run P w=.ok x w'∧a1 B U J S w H (.ay (cells++new) (len+m) (.uniq i.size)) x w':=by
 classical
 have eM:news.length=m*i.size:=hnew.len ▸ cY;have jC:(len+m)*i.size≤cap*i.size:=tA _ dI;rw [tp] at jC;have eo:∀ u∈news,u.oneCell'=true:=fun u hu=>by
  obtain ⟨j,aw⟩:=tF.1 hu;have aU:=(sa.1 aw).1;exact (hnew.rel j _ u (sq (hnew.len ▸ aU)) aw).2.1
 have aj:=At w t ty e i ax hi b len cap cur ce g_ ⟨ar,cL,none⟩ m c news eM (fun j x h=>by rw [add_lit];exact bu j x h) eo dI (by rw [gE];omega)
 let cur':Array Value:=(cur.toList.take (len*i.size)++news++cur.toList.drop (len*i.size+news.length)).toArray
 have nh:∀ bo o,bo≠b→(w.setRow b cur').cell? ⟨bo,o,none⟩=w.cell? ⟨bo,o,none⟩:=fun bo o h=>by
  unfold World.cell?;simp only [setRow_other w b bo cur' h]
 let az:Nat→Option aI:=fun bo=>if bo=b then some .res else U bo
 have kD:(w.setRow b cur').heap.size=w.heap.size:=by simp [World.setRow]
 have aA:bg U S w az S (w.setRow b cur'):=by
  refine ⟨rfl,rfl,rfl,by omega,fun bo ag aN=>setRow_other w b bo cur' (fun e=>by subst e;rw [bA] at aN;cases aN),fun bo o ai=>⟨ai,nh bo o (fun e=>g' o (e ▸ ai))⟩,fun _ _ ai=>.inl ai,fun bo ag=>?_⟩;by_cases h:bo=b
  ·subst h;exact .inl (by simp [bA])
  ·simp only [az,h,if_false] at ag;exact .inl ag
 refine ⟨_,_,aj,az,J,S,Ext.refl J,aA,ah.frame aA (fun bo l' ag ak=>?_) (fun bo o ai=>?_) (fun bo l' ag=>?_),.cK _ _ _ _ _ _,.inr ⟨by simp [az],rfl,dI,kQ,bP,by rw [sm,ia,cY,tp],⟨cur',ce,setRow_heap w b cur cur' ce (0,0) g_,?_,fun j u v hu ae=>?_⟩,g'⟩⟩
 ·have bM:bo≠b:=fun e=>by
   subst e;rw [bA] at ag;cases ag;rcases ak with ⟨id,h⟩ | ⟨id,j,h⟩
   ·exact ca _ h
   ·exact cn _ _ h
  exact ⟨by simp [az,bM,ag],setRow_other w b bo cur' bM,fun _ h=>h⟩
 ·obtain ⟨v,ae⟩:=ah.cf bo o ai;exact ⟨v,(nh bo o (fun e=>g' o (e ▸ ai))).trans ae⟩
 ·rw [kD];by_cases h:bo=b
  ·subst h;exact ah.base _ l bA
  ·simp only [az,h,if_false] at ag;exact ah.base bo l' ag
 ·have ad:cur.toList.length=cap*i.size:=by simp [gE]
  show (List.toArray _).size=_;rw [tP,sm,sm,sR,tV,ad,eM,tq (by omega)];omega
 ·have ae:(cur.toList.take (len*i.size)++news++cur.toList.drop (len*i.size+news.length))[j]?=some v:=by simpa [cur'] using ae
  have ad:cur.toList.length=cap*i.size:=by simp [gE]
  rw [j5 _ _ _ _ (by rw [ad];omega)] at ae;by_cases aw:j<cells.length
  ·rw [sA aw] at hu;rw [if_neg (by omega)] at ae;obtain ⟨a',bk,bq⟩:=jS j u v hu (by simpa using ae);exact ⟨a',bk,bq.mono (Ext.refl J) aA.set⟩
  ·rw [sL (by omega)] at hu;have np:=(sa.1 hu).1;rw [if_pos ⟨by omega,by rw [eM,←cY];omega⟩] at ae;rw [ia] at hu;obtain ⟨a',bk,bq⟩:=hnew.rel _ u v hu ae;exact ⟨a',bk,bq.mono (Ext.refl J) aA.set⟩
theorem Bv (ah:aL B U J S w H) (ax:P.underlying t=some (.slice e)) (hi:P.info? e=some i) (bP:0<i.size) {l:aI} (ca:∀ id,l≠.obj id) (cn:∀ id j,l≠.cell id j)
  {cells:List I} {len b k cap:Nat} {cur:Array Value} {ce:TypeId} {f:Nat→Value} (bA:U b=some l) (kQ:cap≤maxLen) (ia:cells.length=len*i.size)
  (g_:w.heap[b]?=some (.cells cur ce (0,0))) (gE:cur.size=k+cap*i.size)
  (h:∀ (j:Nat) (u:I),cells[j]?=some u→S b (k+j)∧w.cell? ⟨b,k+j,none⟩=some (f j)∧u.plain=true∧(f j).oneCell'=true)
  (aj:∀ (j:Nat) (u:I),cells[j]?=some u→Rel J S w u (f j)) (g':∀ o,k+cells.length≤o→¬ S b o)
  {ar cL m c:Nat} {new:List I} {news:List Value} (hnew:c4 J S w new news) (bu:∀ j x,news[j]?=some x→w.cell? ⟨ar,cL+j,none⟩=some x) (cY:new.length=m*i.size) (dI:len+m≤cap) :
  ∃ x w',(Builtin.append_ #[t,t] ty #[.slice (some ⟨b,k,none⟩) len cap,.slice (some ⟨ar,cL,none⟩) m c]).run P w=.ok x w'∧a1 B U J S w H (.ay (cells++new) (len+m) (.own i.size)) x w':=by
 classical
 have eM:news.length=m*i.size:=hnew.len ▸ cY;have jC:(len+m)*i.size≤cap*i.size:=tA _ dI;rw [tp] at jC;have eo:∀ u∈news,u.oneCell'=true:=fun u hu=>by
  obtain ⟨j,aw⟩:=tF.1 hu;have aU:=(sa.1 aw).1;exact (hnew.rel j _ u (sq (hnew.len ▸ aU)) aw).2.1
 have dN:=EA w t ty e i ax hi b k len cap cur ce g_ ⟨ar,cL,none⟩ m c news eM (fun j x h=>by rw [add_lit];exact bu j x h) eo dI (by rw [gE];omega)
 let cur':Array Value:=(cur.toList.take (k+len*i.size)++news++cur.toList.drop (k+len*i.size+news.length)).toArray
 have pa:∀ j:Nat,cur'[j]?=if k+len*i.size≤j∧j<k+len*i.size+news.length then news[j-(k+len*i.size)]? else cur[j]?:=fun j=>by
  have ad:cur.toList.length=k+cap*i.size:=by simp [gE]
  have:=j5 cur.toList news (k+len*i.size) j (by rw [ad];omega);simpa [cur'] using this
 have kr:∀ j,(w.setRow b cur').cell? ⟨b,j,none⟩=cur'[j]?:=fun j=>cell_of_row _ b j cur' ce (0,0) (setRow_heap w b cur cur' ce (0,0) g_);have fF:∀ j,w.cell? ⟨b,j,none⟩=cur[j]?:=fun j=>cell_of_row _ b j cur ce (0,0) g_;have nh:∀ bo o,bo≠b→(w.setRow b cur').cell? ⟨bo,o,none⟩=w.cell? ⟨bo,o,none⟩:=fun bo o h=>by
  unfold World.cell?;simp only [setRow_other w b bo cur' h]
 let az:Nat→Option aI:=fun bo=>if bo=b then some .res else U bo
 let S':Nat→Nat→Prop:=fun bo o=>S bo o∨(bo=b∧k+cells.length≤o∧o<k+cells.length+new.length)
 have kD:(w.setRow b cur').heap.size=w.heap.size:=by simp [World.setRow]
 have cm:∀ bo o,S bo o→(w.setRow b cur').cell? ⟨bo,o,none⟩=w.cell? ⟨bo,o,none⟩:=fun bo o ai=>by
  by_cases ag:bo=b
  ·subst ag;have aq:o<k+cells.length:=by
    rcases sU o (k+cells.length) with h | h
    ·exact h
    ·exact absurd ai (g' o h)
   rw [kr,pa,if_neg (by omega),fF]
  ·exact nh bo o ag
 have aA:bg U S w az S' (w.setRow b cur'):=by
  refine ⟨rfl,rfl,rfl,by omega,fun bo ag aN=>setRow_other w b bo cur' (fun e=>by subst e;rw [bA] at aN;cases aN),fun bo o ai=>⟨.inl ai,cm bo o ai⟩,fun bo o ai=>?_,fun bo ag=>?_⟩
  ·rcases ai with ai | ⟨rfl,_⟩
   ·exact .inl ai
   ·exact .inr (.inl (by simp [bA]))
  ·by_cases h:bo=b
   ·subst h;exact .inl (by simp [bA])
   ·simp only [az,h,if_false] at ag;exact .inl ag
 have py:∀ (j:Nat) (u:I),(cells++new)[j]?=some u→S' b (k+j)∧(w.setRow b cur').cell? ⟨b,k+j,none⟩=some (cur'.getD (k+j) undef)∧u.plain=true∧(cur'.getD (k+j) undef).oneCell'=true∧Rel J S' (w.setRow b cur') u (cur'.getD (k+j) undef):=by
  intro j u hu;rw [kr];by_cases aw:j<cells.length
  ·rw [sA aw] at hu;obtain ⟨ad,af,aG,a6⟩:=h j u hu;rw [fF] at af;(have ao:cur'[k+j]?=some (f j):=by rw [pa,if_neg (by omega),af]);(have aO:cur'.getD (k+j) undef=f j:=by rw [sy,ao];rfl);rw [aO];exact ⟨.inl ad,ao,aG,a6,(aj j u hu).mono (Ext.refl J) aA.set⟩
  ·rw [sL (by omega)] at hu;have np:=(sa.1 hu).1;have lX:j-cells.length<news.length:=hnew.len ▸ np;have ao:cur'[k+j]?=some (news[j-cells.length]):=by
    rw [pa,if_pos ⟨by omega,by omega⟩,←ia,Nat.add_sub_add_left];exact sq lX
   (have aO:cur'.getD (k+j) undef=news[j-cells.length]:=by rw [sy,ao];rfl);obtain ⟨a',bk,bq⟩:=hnew.rel _ u _ hu (sq lX);rw [aO];exact ⟨.inr ⟨rfl,by omega,by omega⟩,ao,a',bk,bq.mono (Ext.refl J) aA.set⟩
 refine ⟨_,_,dN,az,J,S',Ext.refl J,aA,ah.frame aA (fun bo l' ag ak=>?_) (fun bo o ai=>?_) (fun bo l' ag=>?_),
  .ay _ _ _ b k cap (fun j=>cur'.getD (k+j) undef) (by simp) dI (by simp) (fun j u hu=>let ⟨aB,aH,aR,bj,_⟩:=py j u hu;⟨aB,aH,aR,bj⟩) (fun j u hu=>(py j u hu).2.2.2.2),
  .inr ⟨by simp [az],trivial,rfl,dI,kQ,bP,by rw [sm,ia,cY,tp],⟨cur',ce,setRow_heap w b cur cur' ce (0,0) g_,?_⟩,fun o aq ai=>?_⟩⟩
 ·have bM:bo≠b:=fun e=>by
   subst e;rw [bA] at ag;cases ag;rcases ak with ⟨id,h⟩ | ⟨id,j,h⟩
   ·exact ca _ h
   ·exact cn _ _ h
  refine ⟨by simp [az,bM,ag],setRow_other w b bo cur' bM,fun o ai=>?_⟩;rcases ai with ai | ⟨h,_⟩
  ·exact ai
  ·exact absurd h bM
 ·rcases ai with ai | ⟨rfl,ad,af⟩
  ·obtain ⟨v,ae⟩:=ah.cf bo o ai;exact ⟨v,(cm bo o ai).trans ae⟩
  ·obtain ⟨u,hu⟩:∃ u,(cells++new)[o-k]?=some u:=⟨_,sq (by simp;omega)⟩;have:=(py (o-k) u hu).2.1;rw [Nat.add_sub_cancel' (by omega)] at this;exact ⟨_,this⟩
 ·rw [kD];by_cases h:bo=b
  ·subst h;exact ah.base _ l bA
  ·simp only [az,h,if_false] at ag;exact ah.base bo l' ag
 ·have ad:cur.toList.length=k+cap*i.size:=by simp [gE]
  show (List.toArray _).size=k+cap*i.size;rw [tP,sm,sm,sR,tV,ad,eM,tq (by omega)];omega
 ·simp only [sm] at aq;rcases ai with ai | ⟨_,ad,af⟩
  ·exact g' o (by omega) ai
  ·omega
end grow
theorem x3 (ah:aL B U J S w H) {x:I} {cA:Value} {m:Nat} {new:List I} (h:appended H x=some (m,new)) (aj:Rel J S w x cA) (aN:x.cT=true) :
  (new=[]∧∃ a c,cA=.slice a m c)∨∃ b o c vs,cA=.slice (some ⟨b,o,none⟩) m c∧c4 J S w new vs∧(∀ j y,vs[j]?=some y→w.cell? ⟨b,o+j,none⟩=some y):=by
 unfold appended at h;split at h
 ·rename_i g6 row hm cS;simp only [Option.some.injEq,Prod.mk.injEq] at h;obtain ⟨rfl,rfl⟩:=h;obtain ⟨a,c,ae⟩:=mo hm aj;rcases xD ah cS aj aN with ⟨ad,n,dX,af⟩ | ⟨b,o,n,dX,vs,af,aG,a6⟩
  ·rw [af] at ae;cases ae;exact .inl ⟨ad,_,_,af⟩
  ·rw [af] at ae;cases ae;exact .inr ⟨b,o,_,vs,af,aG,a6⟩
 ·simp at h
end
end Go.Proofs.YtfakoboiahbhaaaGreat.Ab


namespace Go.Proofs.YtfakoboiahbhaaaGreat.Ab
open Go
section
variable {P:Program} {B:Nat} {J:List Nat} {w:World} {H:List au} {U:Nat→Option aI} {S:Nat→Nat→Prop}
theorem mq (ah:aL B U J S w H) {l:aI} (ca:∀ id,l≠.obj id) (cn:∀ id j,l≠.cell id j) {u:I} {v:Value} (aj:Rel J S w u v) (aq:aV U J S w l u v) :
  ∃ S':Nat→Nat→Prop,(∀ b o,S b o→S' b o)∧(∀ b o,S' b o→S b o∨U b=some l)∧aL B U J S' w H∧Rel J S' w u.view v:=by
 by_cases hu:u.cT=true
 ·exact ⟨S,fun _ _ h=>h,fun _ _ h=>.inl h,ah,aj.view hu⟩
 ·obtain ⟨cells,len,z,rfl⟩:∃ cells len z,u=.ay cells len (.uniq z):=by
   unfold I.cT at hu;split at hu
   ·exact ⟨_,_,_,rfl⟩
   ·simp at hu
  obtain ⟨a4,aJ,aP,cj,r1,_,_⟩:=j7 ah aj aq;exact ⟨a4,aJ,aP,ah.settle aJ (fun b o h=>(aP b o h).imp (fun h=>h) fun h=>⟨_,h,ca,cn⟩) cj,r1⟩
theorem x4 {u:I} {r:Nat×List I} (h:appended H u=some r):appended H u.view=some r:=by
 cases u <;> try exact h
 ·rename_i cells len c;cases c <;> exact h
 ·simp [appended,lenOf] at h
theorem EB (t dp ty e:TypeId) (i:TypeInfo) (z:Value) (dd:IntKind) (ax:P.underlying t=some (.slice e)) (pL:P.underlying dp=some (.int dd)) (hi:P.info? e=some i) (bm:i.zero=some z)
  (base:Option Addr) (n:Int) (aS:0<n) (ag:n.toNat*i.bytes≤140737488355328) (eW:1≤i.bytes) (bP:0<i.size) :
  (Builtin.append_ #[t,dp] ty #[.slice base 0 0,.int .i64 n]).run P w =
   .ok (.slice (some ⟨w.heap.size,0,none⟩) n.toNat (grownCap w n.toNat 0 e)) (w.drew.alloc (.cells (Builtin.zeroCells z.cells n.toNat++Builtin.zeroCells z.cells (grownCap w n.toNat 0 e-n.toNat)) e)):=by
 have aN:n.toNat≤140737488355328:=sI (uB _ eW) ag;have bC:IntKind.i64.wrap n=n:=IntWalk.i64_in _ (by omega);have ky:n*(i.bytes:Int)=((n.toNat*i.bytes:Nat):Int):=by rw [vL,uj (by omega)]
 have o9:Builtin.nextslicecap n.toNat 0=n.toNat:=by unfold Builtin.nextslicecap;rw [if_pos (by omega)]
 have ad:¬ n<0:=by omega
 have af:¬ ((281474976710656:Int)<n*i.bytes):=by rw [ky];omega
 have a6:¬ (281474976710656<n.toNat*i.bytes):=by omega
 have bL:¬ (9223372036854775807<max n 0):=by omega
 have bV:n.toNat*i.size≠0:=by have:0<n.toNat:=by omega
                              have:=vM this bP;omega
 have cN:¬ n≤0:=by omega
 cases base <;> simp [Builtin.append_,run_underlying ax,run_underlying pL,sizeOf,typeInfo,hi,asInt,asIntOf,bC,ad,af,cN,bL,a6,bV,Builtin.lenOf,Builtin.firstCells,loadCells,loadCellsFrom,o9,zeroValue,bm,grownCap,Question.forced,newRow]
theorem AO (ah:aL B U J S w H) {t dp:TypeId} (ty:TypeId) {u x r:I} {v cA:Value} {cv dL:aI} (ca:∀ id,cv≠.obj id) (cn:∀ id j,cv≠.cell id j) (de:∀ id,dL≠.obj id) (df:∀ id j,dL≠.cell id j) (bM:cv≠dL)
  (h:e7 P H t dp u x=some r) (aj:Rel J S w u v) (aq:aV U J S w cv u v) (eh:Rel J S w x cA) (h5:aV U J S w dL x cA) :
  ∃ y w',(Builtin.append_ #[t,dp] ty #[v,cA]).run P w=.ok y w'∧a1 B U J S w H r y w':=by
 obtain ⟨a4,aJ,aP,bW,jN⟩:=mq ah de df eh h5;have db:bg U S w U a4 w:=bg.settle aJ fun b o h=>(aP b o h).imp (fun h=>h) fun h=>⟨_,h⟩;have dr:Rel J a4 w u v:=aj.mono (Ext.refl J) db.set
 have jJ:aV U J a4 w cv u v:=aq.mono (Ext.refl J) db.set fun b ag=>⟨ag,rfl,fun o ai=>by
  rcases aP b o ai with h | h
  ·exact h
  ·rw [ag] at h;cases h;exact absurd rfl bM⟩
 suffices ai:∃ y w',(Builtin.append_ #[t,dp] ty #[v,cA]).run P w=.ok y w'∧a1 B U J a4 w H r y w' by
  obtain ⟨y,w',a,b⟩:=ai;exact ⟨y,w',a,a1.after (Ext.refl J) db b⟩
 clear aj aq eh h5 db aJ aP ah;unfold e7 at h;split at h
 ·rename_i e ax;split at h
  ·rename_i sz bytes z ai ag bm;obtain ⟨i,hi,rfl⟩:=mP ai;simp only [hi,sd,Option.some.injEq] at ag;subst ag;obtain ⟨nA,dx,hi',et,fG⟩:=hN (J:=J) (S:=a4) (w:=w) bm;rw [hi] at hi';cases hi';(have kG:z.length=dx.cells.size:=by simpa using fG.len);split at h
   ·rename_i ng;obtain rfl:t=dp:=Nat.eq_of_beq_eq_true ng;split at h
    ·rename_i m new eK;replace eK:=x4 eK;split at h
     ·rename_i ao;obtain ⟨cY,bP,er,yV⟩:=ao;(have gB:dx.cells.size=i.size:=by omega);obtain ⟨Gd,Ge⟩:=ij yV;have al:=x3 bW eK jN (I.ga (I.dh x));have zero:m=0→∀ base len cap,v=.slice base len cap→len≤cap→(Builtin.append_ #[t,t] ty #[v,cA]).run P w=.ok v w:=by
       rintro rfl base len cap rfl hle;rcases al with ⟨_,jn,c,rfl⟩ | ⟨b,o,c,vs,rfl,_,_⟩
       ·exact Au (P:=P) (w:=w) t ty e i ax hi base len cap hle jn c
       ·exact Au (P:=P) (w:=w) t ty e i ax hi base len cap hle _ c
      have ob:0<m→∃ b o c vs,cA=.slice (some ⟨b,o,none⟩) m c∧c4 J a4 w new vs∧(∀ j y,vs[j]?=some y→w.cell? ⟨b,o+j,none⟩=some y):=by
       intro hm;rcases al with ⟨aS,_,c,rfl⟩ | h
       ·rw [aS] at cY;simp at cY;have:=vM hm bP;omega
       ·exact h
      split at h
      ·rename_i cells len c;split at h
       ·
        split at h
        ·rename_i hm;cases h;have ae:∃ base cap,v=.slice base len cap∧len≤cap:=by
          cases dr with
          | b1=>exact ⟨_,_,rfl,sb _⟩
          | ay _ _ _ b o cap f _ hle=>exact ⟨_,_,rfl,hle⟩
         obtain ⟨base,cap,ae,hle⟩:=ae;exact ⟨v,w,zero hm base len cap ae hle,a1.same bW dr rfl⟩
        ·simp at h
       ·
        have ae:((∃ a,v=.slice a 0 0)∧len=0∧cells=[])∨∃ b o,∃ f:Nat→Value,v=.slice (some ⟨b,o,none⟩) len len ∧
          (∀ (j:Nat) (u:I),cells[j]?=some u→a4 b (o+j)∧w.cell? ⟨b,o+j,none⟩=some (f j)∧u.plain=true∧(f j).oneCell'=true)∧(∀ (j:Nat) (u:I),cells[j]?=some u→Rel J a4 w u (f j)):=by
         cases dr with
         | b1 _ a=>exact .inl ⟨⟨a,rfl⟩,rfl,rfl⟩
         | ay _ _ _ b o cap f ao hle hu bu b9=>exact .inr ⟨b,o,f,by rw [ao rfl],bu,b9⟩
        split at h
        ·rename_i hm;split at h
         ·rename_i aS;cases h;subst aS;rcases ae with ⟨⟨a,ae⟩,_,_⟩ | ⟨b,o,f,ae,_,_⟩
          ·exact ⟨v,w,zero hm _ _ _ ae (sb _),U,J,a4,Ext.refl J,bg.refl _ _ _,bW,ae ▸ .b1 _ _,by rw [ae];cases a <;> first | trivial | exact .inl ⟨rfl,rfl,rfl⟩⟩
          ·exact ⟨v,w,zero hm _ _ _ ae (sb _),U,J,a4,Ext.refl J,bg.refl _ _ _,bW,ae ▸ .cK _ _ _ _ _ _,by rw [ae];exact .inl ⟨rfl,rfl,rfl⟩⟩
         ·cases h;rcases ae with ⟨⟨a,ae⟩,rfl,_⟩ | ⟨b,o,f,ae,_,_⟩
          ·exact ⟨v,w,zero hm _ _ _ ae (sb _),a1.same bW dr rfl⟩
          ·exact ⟨v,w,zero hm _ _ _ ae (sb _),a1.same bW dr rfl⟩
        ·rename_i hm;split at h
         ·rename_i gW;obtain ⟨ep,cC⟩:=gW;cases h;obtain ⟨q1,aW⟩:=ij ep;obtain ⟨ar,cL,dX,vs,rfl,hnew,bu⟩:=ob (by omega);rcases ae with ⟨ae,rfl,rfl⟩ | ⟨b,o,f,ae,fF,l6⟩
          ·exact hV bW ax hi et gB bP v 0 0 [] (.inl ⟨ae,rfl,rfl,rfl⟩) ⟨rfl,by simp⟩ (by simp) hnew bu cY (by omega) (by omega) q1 aW
          ·refine hV bW ax hi et gB bP v len len ((List.range cells.length).map f) (.inr ⟨b,o,ae,fun j y a0=>?_⟩) ⟨by simp,fun j bG br b_ bc=>?_⟩ cC hnew bu cY (by omega) (by omega) q1 aW
           ·simp only [su,rZ] at a0;obtain ⟨k,av,rfl⟩:=a0;(have aw:j<cells.length:=by have:=(sa.1 av).1;simpa using this);simp [aw] at av;subst av;exact (fF j _ (sq aw)).2.1
           ·have aw:=(sa.1 b_).1;simp [aw] at bc;subst bc;exact ⟨(fF j bG b_).2.2.1,(fF j bG b_).2.2.2,l6 j bG b_⟩
         ·simp at h
       ·
        rename_i cU;split at h
        ·rename_i gW;obtain ⟨rfl,ep⟩:=gW;cases h;obtain ⟨q1,aW⟩:=ij ep;by_cases hm:m=0
         ·have px:new=[]:=vN (by rw [cY,hm];simp);have ae:∃ base cap,v=.slice base len cap∧len≤cap:=by
           cases dr with
           | b1=>exact ⟨_,_,rfl,sb _⟩
           | ay _ _ _ b o cap f _ hle=>exact ⟨_,_,rfl,hle⟩
          obtain ⟨base,cap,ae,hle⟩:=ae;refine ⟨v,w,zero hm base len cap ae hle,?_⟩;rw [px,hm,sN,tU];exact ig bW ca cn dr jJ
         ·have hm:0<m:=vr hm;obtain ⟨ar,cL,dX,vs,rfl,hnew,bu⟩:=ob hm;cases dr with
          | b1 _ a =>
            obtain ⟨y,w',aB,aH⟩:=hV (ty:=ty) bW ax hi et gB bP (.slice a 0 0) 0 0 [] (.inl ⟨⟨a,rfl⟩,rfl,rfl,rfl⟩) (cs:=[]) ⟨rfl,by simp⟩ (by simp) hnew bu cY hm (by omega) q1 aW;exact ⟨y,w',aB,aH.settle⟩
          | ay _ _ _ b o cap f ao hle hu fF l6 =>
            have gz:c4 J a4 w cells ((List.range cells.length).map f):=⟨by simp,fun j bG br b_ bc=>by
             have aw:=(sa.1 b_).1;simp [aw] at bc;subst bc
             exact ⟨(fF j bG b_).2.2.1,(fF j bG b_).2.2.2,l6 j bG b_⟩⟩
            have cC:∀ j y,((List.range cells.length).map f)[j]?=some y→w.cell? ⟨b,o+j,none⟩=some y:=fun j y a0=>by
             simp only [su,rZ] at a0;obtain ⟨k,av,rfl⟩:=a0;(have aw:j<cells.length:=by have:=(sa.1 av).1;simpa using this);simp [aw] at av;subst av;exact (fF j _ (sq aw)).2.1
            have yL:cells.length=len*i.size→cap<len+m→_:=fun ak aO =>
             hV (ty:=ty) (c:=dX) bW ax hi et gB bP (.slice (some ⟨b,o,none⟩) len cap) len cap _ (.inr ⟨b,o,rfl,cC⟩) gz ak hnew bu cY hm aO q1 aW
            rcases jJ with ⟨aS,ad,af⟩ | ⟨bR,b4,_,eE,fM,_,kZ,⟨cur,ce,k0,mD⟩,mE⟩
            ·obtain ⟨y,w',aB,aH⟩:=yL (by rw [af,aS];simp) (by omega);exact ⟨y,w',aB,aH.settle⟩
            ·simp only at bR k0 mD mE;by_cases dI:len+m≤cap
             ·exact Bv bW ax hi bP ca cn bR fM kZ k0 mD fF l6 mE hnew bu cY dI
             ·obtain ⟨y,w',aB,aH⟩:=yL kZ (by omega);exact ⟨y,w',aB,aH.settle⟩
        ·simp at h
       ·
        rename_i cU;split at h
        ·rename_i gW;obtain ⟨rfl,ep⟩:=gW;cases h;obtain ⟨q1,aW⟩:=ij ep;by_cases hm:m=0
         ·have px:new=[]:=vN (by rw [cY,hm];simp);have ae:∃ base cap,v=.slice base len cap∧len≤cap:=by
           cases dr with
           | b1=>exact ⟨_,_,rfl,sb _⟩
           | ay _ _ _ b o cap f _ hle=>exact ⟨_,_,rfl,hle⟩
           | cK _ _ _ b o cap =>
             refine ⟨_,_,rfl,?_⟩;rcases jJ with ⟨aS,ad,af⟩ | ⟨_,_,h,_⟩
             ·omega
             ·exact h
          obtain ⟨base,cap,ae,hle⟩:=ae;refine ⟨v,w,zero hm base len cap ae hle,?_⟩;rw [px,hm,sN,tU];exact ig bW ca cn dr jJ
         ·have hm:0<m:=vr hm;obtain ⟨ar,cL,dX,vs,rfl,hnew,bu⟩:=ob hm;cases dr with
          | b1 _ a =>
            exact hV (ty:=ty) bW ax hi et gB bP (.slice a 0 0) 0 0 [] (.inl ⟨⟨a,rfl⟩,rfl,rfl,rfl⟩) (cs:=[]) ⟨rfl,by simp⟩ (by simp) hnew bu cY hm (by omega) q1 aW
          | ay _ _ _ b o cap f ao hle hu fF l6=>exact absurd rfl (hu _)
          | cK _ _ _ b o cap =>
            rcases jJ with ⟨aS,ad,af⟩ | ⟨bR,b4,eE,fM,_,kZ,⟨cur,ce,k0,mD,zE⟩,mE⟩
            ·refine hV (ty:=ty) bW ax hi et gB bP (.slice (some ⟨b,o,none⟩) len cap) len cap [] (.inr ⟨b,o,rfl,by simp⟩) ?_ (by rw [af,aS];simp) hnew bu cY hm (by omega) q1 aW;rw [af];exact ⟨rfl,by simp⟩
            ·simp only at bR b4 k0 mE;subst b4;(have jC:cells.length≤cur.size:=by rw [mD,kZ];exact tA _ eE);by_cases dI:len+m≤cap
             ·exact Bw bW ax hi bP ca cn bR fM kZ k0 mD zE mE hnew bu cY dI
             ·refine hV (ty:=ty) bW ax hi et gB bP (.slice (some ⟨b,0,none⟩) len cap) len cap (cur.toList.take cells.length) (.inr ⟨b,0,rfl,fun j y a0=>?_⟩) ⟨by simp;omega,fun j bG br b_ bc=>?_⟩ kZ hnew bu cY hm (by omega) q1 aW
              ·rw [sV] at a0;split at a0
               ·rw [sP,cell_of_row w b _ cur ce (0,0) k0];simpa using a0
               ·simp at a0
              ·rw [sV] at bc;split at bc
               ·exact zE j bG br b_ (by simpa using bc)
               ·simp at bc
        ·simp at h
      ·
       rename_i id off len cap oc;split at h
       ·rename_i gW;obtain ⟨rfl,rfl,hm⟩:=gW;simp only [sf] at h;obtain ⟨fL,hold,h⟩:=h;split at h
        ·rename_i ep;cases h;obtain ⟨q1,aW⟩:=ij ep;obtain ⟨ar,cL,dX,vs,rfl,hnew,bu⟩:=ob hm;have fH:fL.length=cap*i.size:=by
          simp only [rowOf] at hold;split at hold
          ·split at hold
           ·simp at hold;rw [←hold];simp;omega
           ·simp at hold
          ·simp at hold
         have fI:∃ b o,v=.slice (some ⟨b,o,none⟩) cap cap:=by
          cases dr with
          | ref _ _ _ _ _ b cap' _ ao _=>exact ⟨b,off,by rw [ao cap rfl]⟩
         obtain ⟨dz,Gn,fY⟩:=fI;rcases xD bW hold dr rfl with ⟨C2,n,c,ae⟩ | ⟨b,o,n,c,dw,ae,gz,fF⟩
         ·rw [ae] at fY;cases fY;subst C2;exact hV bW ax hi et gB bP v _ _ [] (.inl ⟨⟨_,ae⟩,rfl,rfl,rfl⟩) ⟨rfl,by simp⟩ fH hnew bu cY hm (by omega) q1 aW
         ·rw [ae] at fY;simp only [Value.slice.injEq,Option.some.injEq,Addr.mk.injEq] at fY;obtain ⟨⟨rfl,rfl,_⟩,rfl,rfl⟩:=fY;exact hV bW ax hi et gB bP v _ _ dw (.inr ⟨b,o,ae,fF⟩) gz fH hnew bu cY hm (by omega) q1 aW
        ·simp at h
       ·simp at h
      ·simp at h
     ·simp at h
    ·simp at h
   ·
    split at h
    ·rename_i dd n pL;split at h
     ·rename_i ao;obtain ⟨aS,ep,bP,er⟩:=ao;cases h;obtain ⟨q1,aW⟩:=ij ep;have fZ:cA=.int .i64 n:=Rel.dc jN;have ae:∃ base,v=.slice base 0 0:=by
       cases dr with
       | b1=>exact ⟨_,rfl⟩
       | ay _ _ _ b o cap f ao _=>exact ⟨_,by rw [ao rfl]⟩
      obtain ⟨base,rfl⟩:=ae;subst fZ;have aj:=EB (P:=P) (w:=w) t dp ty e i dx dd ax pL hi et base n aS q1 aW bP;have e_:=grownCap_ge w n.toNat 0 e;have aN:n.toNat≤140737488355328:=sI (uB _ aW) q1;have hle:=grownCap_le_maxLen w n.toNat 0 e (by simp only [maxLen];omega);generalize grownCap w n.toNat 0 e=e8 at e_ hle aj;have aA:=ki U a4 w;have fJ:=(mS fG (by omega) n.toNat).mono (Ext.refl J) aA.set
      have iN:=nP (l7 bW) fJ (Builtin.zeroCells dx.cells (e8-n.toNat)).toList e n.toNat e8 i.size bP (by rw [ih,er]) e_ hle (by
       rw [←fJ.len,ih,er,tE,size_zeroCells,←kG,er,←tp];congr 1;omega)
      refine ⟨_,_,aj,a1.after (Ext.refl J) aA ?_⟩;have he:(((Array.range (n.toNat*z.length)).map (fun i=>dx.cells[i % dx.cells.size]!)).toList++(Builtin.zeroCells dx.cells (e8-n.toNat)).toList).toArray =
        Builtin.zeroCells dx.cells n.toNat++Builtin.zeroCells dx.cells (e8-n.toNat):=by
       apply Array.ext';simp [Builtin.zeroCells,kG]
      rw [he] at iN;exact iN
     ·simp at h
    ·simp at h
  ·simp at h
 ·simp at h
theorem zK (ah:aL B U J S w H) {id:Nat} {l:List I} {b z:Nat} {cur:Array Value} (aE:id<H.length) (aH:U b=some (.obj id)) (bb:∀ o,¬ S b o)
  (bf:∀ (j:Nat) (u:I) (v:Value),l[j]?=some u→cur[j]?=some v→u.cT=true∧v.oneCell'=true∧Rel J S w u v∧aV U J S w (.cell id j) u v)
  {bC:World} {nb cap1 pW:Nat} {ju:Array Value} {e1:TypeId} (aq:bC.os=w.os) (ax:bC.tape=w.tape) (CR:bC.output=w.output) (kD:w.heap.size≤bC.heap.size)
  (hold:∀ ar,ar<w.heap.size→ar≠b→bC.heap[ar]?=w.heap[ar]?) (ky:nb=b∨nb=w.heap.size) (CN:nb<bC.heap.size) (jB:bC.heap[nb]?=some (.cells ju e1 (0,0)))
  (gA:ju.size=cap1*z) (hm:cap1≤maxLen) (bm:0<z) {new:List I} {news:List Value} (hnew:c4 J S w new news) (dI:l.length+new.length≤ju.size)
  (Ct:∀ j,j<l.length→ju[j]?=cur[j]?) (Cu:∀ (j:Nat) (v:Value),news[j]?=some v→ju[l.length+j]?=some v) (hlen:pW≤cap1) :
  a1 B U J S w (H.set id .dead++[.grow (l++new) (H.length+1) z,.dead]) (.cl H.length (H.length+1) pW z) (.slice (some ⟨nb,0,none⟩) pW cap1) bC:=by
 classical
 let az:Nat→Option aI:=fun ar=>if ar=nb then some (.obj H.length) else if ar=b then none else match U ar with
  | some (.cell i j)=>if i=id then some (.cell H.length j) else some (.cell i j)
  | o=>o
 have aU:∀ ar l',U ar=some l'→ar<w.heap.size:=fun ar l' h=>(ah.base ar l' h).2;have yM:∀ ar l',U ar=some l'→ar≠b→ar≠nb:=fun ar l' h ag e=>by
  subst e;rcases ky with e | e
  ·exact ag e
  ·have:=aU _ _ h;omega
 have hr:∀ ar o,S ar o→ar≠b:=fun ar o ai e=>bb o (e ▸ ai);have bu:∀ ar o,S ar o→bC.cell? ⟨ar,o,none⟩=w.cell? ⟨ar,o,none⟩:=fun ar o ai=>by
  obtain ⟨v,ae⟩:=ah.cf ar o ai;unfold World.cell?;simp only [hold ar (mr ae) (hr ar o ai)]
 have nr:∀ ar,az ar≠none→U ar≠none∨w.heap.size≤ar:=fun ar ag=>by
  by_cases ad:ar=nb
  ·rcases ky with e | e
   ·exact .inl (by rw [ad,e,aH];simp)
   ·exact .inr (by omega)
  ·refine .inl fun aS=>ag ?_;by_cases af:ar=b
   ·simp only [az,ad,af,if_false,if_true];rw [if_neg (by rw [←af];exact ad)]
   ·simp only [az,ad,af,if_false,aS]
 have aA:bg U S w az S bC:=⟨aq,ax,CR,kD,fun ar ag aN=>hold ar ag (fun e=>by subst e;rw [aH] at aN;cases aN),fun ar o ai=>⟨ai,bu ar o ai⟩,fun _ _ h=>.inl h,nr⟩;have lY:(J++[nb,cap1])[H.length]?=some nb:=by rw [←ah.cE];simp
 have lZ:(J++[nb,cap1])[H.length+1]?=some cap1:=by rw [←ah.cE];simp
 refine ⟨az,J++[nb,cap1],S,Ext.append J _,aA,⟨by simp [ah.cE],fun bx o h=>?_,fun ar o ai=>?_,fun ar l' ag=>?_,sI ah.cX kD⟩,.cl _ _ _ _ nb cap1 lY lZ hlen,trivial⟩
 ·rcases vJ bx H.length with ak | rfl | ak
  ·rw [sA (by simpa using ak)] at h;by_cases cu:bx=id
   ·subst cu;rw [sg ak] at h;cases h;trivial
   ·rw [si (Ne.symm cu)] at h;refine (ah.obj bx o h).frame (Ext.append J _) aA.set fun ar l' ag dB=>?_;have bM:ar≠b:=fun e=>by
     subst e;rw [aH] at ag;cases ag;rcases dB with h | ⟨j,h⟩
     ·cases h;exact cu rfl
     ·cases h
    refine ⟨?_,hold ar (aU _ _ ag) bM,fun _ h=>h⟩;simp only [az,yM ar l' ag bM,bM,if_false,ag];rcases dB with rfl | ⟨j,rfl⟩
    ·rfl
    ·simp [cu]
  ·rw [sL (by simp)] at h;simp only [td,tL,uD,Option.some.injEq] at h;subst h;refine ⟨nb,ju,e1,lY,by simp [az],jB,by rw [sm];exact dI,?_,fun j u v hu ae=>?_,cap1,lZ,hm,bm,gA⟩
   ·rcases ky with rfl | rfl
    ·exact bb
    ·exact mx ah
   ·by_cases aw:j<l.length
    ·rw [sA aw] at hu;rw [Ct j aw] at ae;obtain ⟨a',bk,bq,b7⟩:=bf j u v hu ae;refine ⟨a',bk,bq.mono (Ext.append J _) aA.set,b7.mono (Ext.append J _) aA.set fun ar ag=>?_⟩;(have bM:ar≠b:=fun e=>by subst e;rw [aH] at ag;cases ag);refine ⟨?_,hold ar (aU _ _ ag) bM,fun _ h=>h⟩;simp only [az,yM ar _ ag bM,bM,if_false,ag,if_true]
    ·rw [sL (by omega)] at hu;have np:=(sa.1 hu).1;have lX:j-l.length<news.length:=hnew.len ▸ np;have bc:=Cu (j-l.length) _ (sq lX);rw [show l.length+(j-l.length)=j by omega,ae] at bc;obtain ⟨a',bk,bq⟩:=hnew.rel _ u v hu (by rw [sq lX,bc]);exact ⟨I.ga a',bk,bq.mono (Ext.append J _) aA.set,aV.b3 a'⟩
  ·rw [sL (by simp;omega)] at h;rw [td] at h;obtain ⟨k,av⟩:∃ k,bx-H.length=k+1:=⟨bx-H.length-1,by omega⟩;rw [av] at h;cases k with
   | zero=>simp at h;subst h;trivial
   | succ k=>simp at h
 ·obtain ⟨v,ae⟩:=ah.cf ar o ai;exact ⟨v,(bu ar o ai).trans ae⟩
 ·by_cases ad:ar=nb
  ·rw [ad];refine ⟨?_,CN⟩;rcases ky with e | e
   ·rw [e];exact (ah.base b _ aH).1
   ·rw [e];exact ah.cX
  ·have:∃ cv,U ar=some cv:=by
    rcases nr ar (by rw [ag];simp) with h | h
    ·cases aS:U ar with
     | none=>exact absurd aS h
     | some cv=>exact ⟨cv,rfl⟩
    ·exfalso;by_cases af:ar=b
     ·have:=aU b _ aH;omega
     ·have aS:U ar=none:=by
       cases aS:U ar with
       | none=>rfl
       | some cv=>have:=aU ar _ aS;omega
      simp [az,ad,af,aS] at ag
   obtain ⟨cv,aS⟩:=this;have:=ah.base ar cv aS;exact ⟨this.1,by omega⟩
theorem D8 (ah:aL B U J S w H) {l:aI} (ca:∀ id,l≠.obj id) (cn:∀ id j,l≠.cell id j) {cells:List I} {len z:Nat} (aS:len≠0) {v:Value}
  (aj:Rel J S w (.ay cells len (.uniq z)) v) (aq:aV U J S w l (.ay cells len (.uniq z)) v) :
  a1 B U J S w (H++[.grow cells (H.length+1) z,.dead]) (.cl H.length (H.length+1) len z) v w:=by
 classical
 cases aj with
 | b1 c a=>exact absurd rfl aS
 | ay cells len c b o cap f ao hle hu h fp=>exact absurd rfl (hu z)
 | cK cells len z b o cap =>
   rcases aq with ⟨rfl,_,_⟩ | ⟨ad,aq,af,aG,a6,bL,⟨cur,e,bV,cN,cR⟩,cV⟩
   ·exact absurd rfl aS
   ·simp only at ad bV cV aq;subst aq
    let az:Nat→Option aI:=fun ar=>if ar=b then some (.obj H.length) else U ar
    have aA:bg U S w az S w:=⟨rfl,rfl,rfl,sb _,fun _ _ _=>rfl,fun _ _ h=>⟨h,rfl⟩,fun _ _ h=>.inl h,fun ar ag=>by
     by_cases dH:ar=b
     ·subst dH;exact .inl (by simp [ad])
     ·simp only [az,dH,if_false] at ag;exact .inl ag⟩
    have bW:aL B az J S w H:=by
     refine ah.frame aA (fun ar l' ag ak=>?_) ah.cf (fun ar l' ag=>?_)
     ·have bM:ar≠b:=fun e=>by
       subst e;rw [ad] at ag;cases ag;rcases ak with ⟨id,h⟩ | ⟨id,j,h⟩
       ·exact ca _ h
       ·exact cn _ _ h
      exact ⟨by simp [az,bM,ag],rfl,fun _ h=>h⟩
     ·by_cases dH:ar=b
      ·subst dH;exact ah.base _ l ad
      ·simp only [az,dH,if_false] at ag;exact ah.base ar l' ag
    have cp:=(bW.push cap (o:=.dead) trivial);(have lY:(J++[b,cap])[H.length]?=some b:=by rw [←ah.cE];simp);(have lZ:(J++[b,cap])[H.length+1]?=some cap:=by rw [←ah.cE];simp);refine ⟨az,J++[b,cap],S,Ext.append J _,aA,⟨by simp [ah.cE],fun bx o bI=>?_,ah.cf,bW.base,ah.cX⟩,.cl _ _ _ _ b cap lY lZ af,trivial⟩;rcases vJ bx H.length with ak | rfl | ak
    ·rw [sA ak] at bI;exact (bW.obj bx o bI).frame (Ext.append J _) (fun b o ai=>⟨ai,rfl⟩) fun b l ag _=>⟨ag,rfl,fun o ai=>ai⟩
    ·rw [sL (sb _)] at bI;simp only [tL,uD,Option.some.injEq] at bI;subst bI;refine ⟨b,cur,e,lY,by simp [az],bV,by rw [cN,bL];exact tA _ af,cV,fun j u v hu ae=>?_,cap,lZ,aG,a6,cN⟩;obtain ⟨a',bk,bq⟩:=cR j u v hu ae;exact ⟨I.ga a',bk,bq.mono (Ext.append J _) aA.set,aV.b3 a'⟩
    ·rw [sL (by omega)] at bI;obtain ⟨k,av⟩:∃ k,bx-H.length=k+1:=⟨bx-H.length-1,by omega⟩;rw [av] at bI;cases k with
     | zero=>simp at bI;subst bI;trivial
     | succ k=>simp at bI
theorem E4 (ah:aL B U J S w H) {lo:Nat} {ts:Array TypeId} (ty:TypeId) {u x r:I} {v cA:Value} {cv dL:aI} (ca:∀ id,cv≠.obj id) (cn:∀ id j,cv≠.cell id j) (de:∀ id,dL≠.obj id) (df:∀ id j,dL≠.cell id j) (bM:cv≠dL)
  {H':List au} (h:ib P lo ts H [u,x]=some (r,H')) (aj:Rel J S w u v) (aq:aV U J S w cv u v) (eh:Rel J S w x cA) (h5:aV U J S w dL x cA) :
  ∃ y w',(Builtin.append_ ts ty #[v,cA]).run P w=.ok y w'∧a1 B U J S w H' r y w':=by
 unfold ib at h;simp only at h;split at h
 ·rename_i t dp g3;obtain rfl:ts=#[t,dp]:=by rw [←uC (xs:=ts),g3]
  split at h
  ·
   rename_i s c n gx;split at h
   ·rename_i cells iU z eK;split at h
    ·simp at h
    ·rename_i aN;simp only [Option.some.injEq,Prod.mk.injEq] at h;obtain ⟨rfl,rfl⟩:=h;obtain ⟨y,w',q1,bn,cg,bH,bR,b4,eE,fM,mC⟩:=AO ah ty ca cn de df bM eK aj aq eh h5;have q:=D8 eE (l:=.res) (by simp) (by simp) aN fM mC;exact ⟨y,w',q1,a1.after bR b4 q⟩
   ·simp at h
  ·
   rename_i s id gid len z;split at h
   ·split at h
    ·rename_i e l g cU ax aE;split at h
     ·rename_i sz bytes gj m new bP ag bm eK;split at h
      ·rename_i ao;obtain ⟨rfl,rfl,rfl,rfl,ak,cY,aS,hm,er,yV,ep⟩:=ao;simp only [Option.some.injEq,Prod.mk.injEq] at h;obtain ⟨rfl,rfl⟩:=h;obtain ⟨i,hi,rfl⟩:=mP bP;simp only [hi,sd,Option.some.injEq] at ag;subst ag;obtain ⟨a4,aJ,aP,bW,jN⟩:=mq ah de df eh h5;have db:bg U S w U a4 w:=bg.settle aJ fun b o h=>(aP b o h).imp (fun h=>h) fun h=>⟨_,h⟩;obtain ⟨nA,dx,hi',et,fG⟩:=hN (J:=J) (S:=a4) (w:=w) bm;rw [hi] at hi';cases hi';(have kG:gj.length=dx.cells.size:=by simpa using fG.len);(have gB:dx.cells.size=i.size:=by omega);obtain ⟨q1,aW⟩:=ij ep;replace eK:=x4 eK;have aU:=(sa.1 aE).1;obtain ⟨ar,cL,dX,vs,rfl,hnew,bu⟩:∃ b o c vs,cA=.slice (some ⟨b,o,none⟩) m c∧c4 J a4 w new vs∧(∀ j y,vs[j]?=some y→w.cell? ⟨b,o+j,none⟩=some y):=by
        rcases x3 bW eK jN (I.ga (I.dh x)) with ⟨ad,_,c,rfl⟩ | h
        ·rw [ad] at cY;simp at cY;have:=vM hm aS;omega
        ·exact h
       have eM:vs.length=m*i.size:=hnew.len ▸ cY;obtain ⟨b,cur,ce,aB,aH,aR,bj,bb,bf,cap,c1,da,dF,fx⟩:=bW.obj id _ aE;cases aj with
       | cl _ _ _ _ dz F2 iG yE hle =>
         rw [aB] at iG;cases iG;rw [c1] at yE;cases yE;have eo:∀ u∈vs,u.oneCell'=true:=fun u hu=>by
          obtain ⟨j,aw⟩:=tF.1 hu;have aU:=(sa.1 aw).1;exact (hnew.rel j _ u (sq (hnew.len ▸ aU)) aw).2.1
         have Ca:b<w.heap.size:=(sW.1 aR).1
         suffices ai:∃ y w',(Builtin.append_ #[t,t] ty #[.slice (some ⟨b,0,none⟩) len cap,.slice (some ⟨ar,cL,none⟩) m dX]).run P w=.ok y w'∧a1 B U J a4 w (H.set id .dead++[.grow (l++new) (H.length+1) i.size,.dead]) (.cl H.length (H.length+1) (len+m) i.size) y w' by
          obtain ⟨y,w',bR,b4⟩:=ai;exact ⟨y,w',bR,a1.after (Ext.refl J) db b4⟩
         by_cases dI:len+m≤cap
         ·have jC:(len+m)*i.size≤cap*i.size:=tA _ dI;rw [tp] at jC;have aj:=At (P:=P) w t ty e i ax hi b len cap cur ce aR ⟨ar,cL,none⟩ m dX vs eM (fun j x h=>by rw [add_lit];exact bu j x h) eo dI (by rw [fx];omega);(have ad:cur.toList.length=cap*i.size:=by simp [fx]);refine ⟨_,_,aj,?_⟩;refine zK bW aU aH bb bf (nb:=b) (cap1:=cap) (e1:=ce) (hnew:=hnew) (by exact rfl) (by exact rfl) (by exact rfl) (by simp [World.setRow]) (fun bo _ eW=>by exact setRow_other w b bo _ eW) (.inl rfl) (by simpa [World.setRow] using Ca) (by exact setRow_heap w b cur _ ce (0,0) aR) ?_ da dF ?_ (fun j aw=>?_) (fun j v aw=>?_) dI
          ·rw [tP,sm,sm,sR,tV,ad,eM,tq (by omega)];omega
          ·rw [tP,sm,sm,sR,tV,ad,eM,tq (by omega),ak,cY];omega
          ·have:=j5 cur.toList vs (len*i.size) j (by rw [ad];omega);rw [if_neg (by omega)] at this;simpa using this
          ·have lW:=(sa.1 aw).1;have:=j5 cur.toList vs (len*i.size) (l.length+j) (by rw [ad];omega);rw [if_pos ⟨by omega,by omega⟩,ak,show len*i.size+j-len*i.size=j by omega,aw] at this;rw [ak];simpa using this
         ·have CF:len+m≤140737488355328:=sI (uB _ aW) q1;(have en:len+m≤maxLen:=by simp only [maxLen];omega);have cC:len*i.size≤cap*i.size:=tA _ hle;have fH:(cur.toList.take (len*i.size)).length=len*i.size:=by rw [sR];simp;omega
          have aj:=run_append_grow (P:=P) w t ty e i dx ax hi et ⟨b,0,none⟩ len cap (cur.toList.take (len*i.size)) fH (fun j x h=>by
           rw [sV] at h;split at h
           ·rw [add_lit,sP,cell_of_row w b _ cur ce (0,0) aR];simpa using h
           ·simp at h) ⟨ar,cL,none⟩ m dX vs eM (fun j x h=>by rw [add_lit];exact bu j x h) (by omega) (by omega) (growslice_fits (by omega) q1)
          have e_:=grownCap_ge w (len+m) cap e;have yH:=grownCap_le_maxLen w (len+m) cap e en;generalize grownCap w (len+m) cap e=e8 at e_ yH aj;refine ⟨_,_,aj,?_⟩;refine zK bW aU aH bb bf (nb:=w.heap.size) (cap1:=e8) (e1:=e) (hnew:=hnew) (by exact rfl) (by exact rfl) (by exact rfl) (by simp) (fun bo eW _=>by exact heap_alloc_old w.drew _ bo eW) (.inr rfl) (by simp) (by exact heap_alloc_new w.drew _) ?_ yH dF ?_ (fun j aw=>?_) (fun j v aw=>?_) e_
          ·simp only [vt,tP,fH,eM,size_zeroCells,gB];rw [←tp,←tp];congr 1;omega
          ·simp only [vt,tP,fH,eM,size_zeroCells,gB,ak,cY];omega
          ·rw [ak] at aw;rw [vO (by simp only [vt,tP,fH];omega),vO (by simp only [tP,fH];omega)];simp [aw]
          ·have lW:=(sa.1 aw).1;rw [ak,vO (by simp only [vt,tP,fH];omega),Array.getElem?_append_right (by simp only [tP,fH];omega)];simp only [tP,fH,show len*i.size+j-len*i.size=j by omega];simpa using aw
      ·simp at h
     ·simp at h
    ·simp at h
   ·simp at h
  ·simp at h
 ·simp at h
theorem EY (ah:aL B U J S w H) (lo:Nat) (vs:List I):aL B U J S w (ja lo H vs):=by
 unfold ja;split
 ·rename_i id _ len z _;split
  ·rename_i l g cU aE;split
   ·refine ⟨by simpa using ah.cE,fun bx o aq=>?_,ah.cf,ah.base,ah.cX⟩;by_cases cu:bx=id
    ·subst cu;rw [sg (sa.1 aE).1] at aq;cases aq;obtain ⟨b,cur,e,aB,aH,aR,bj,bb,bf,c1⟩:=ah.obj bx _ aE;refine ⟨b,cur,e,aB,aH,aR,sI (by rw [sR];omega) bj,bb,fun j u v hu ae=>?_,c1⟩;rw [sV] at hu;split at hu
     ·exact bf j u v hu ae
     ·simp at hu
    ·rw [si (Ne.symm cu)] at aq;exact ah.obj bx o aq
   ·exact ah
  ·exact ah
 ·exact ah
theorem E3 (ah:aL B U J S w H) {lo:Nat} {ts:Array TypeId} (ty:TypeId) {u x r:I} {v cA:Value} {cv dL:aI} (ca:∀ id,cv≠.obj id) (cn:∀ id j,cv≠.cell id j) (de:∀ id,dL≠.obj id) (df:∀ id j,dL≠.cell id j) (bM:cv≠dL)
  {H':List au} (h:iX P lo ts H [u,x]=some (r,H')) (aj:Rel J S w u v) (aq:aV U J S w cv u v) (eh:Rel J S w x cA) (h5:aV U J S w dL x cA) :
  ∃ y w',(Builtin.append_ ts ty #[v,cA]).run P w=.ok y w'∧a1 B U J S w H' r y w' :=
 E4 (EY ah lo [u,x]) ty ca cn de df bM h aj aq eh h5
end
end Go.Proofs.YtfakoboiahbhaaaGreat.Ab


namespace Go.Proofs.YtfakoboiahbhaaaGreat.Ab
open Go
section
variable {P:Program} {B:Nat} {J:List Nat} {w:World} {H:List au} {U:Nat→Option aI} {S:Nat→Nat→Prop}
theorem mh {ts:Array TypeId} (h:iR P ts[0]?=true):∃ t e,ts[0]?=some t∧P.underlying t=some (.slice e):=by
 unfold iR at h;split at h
 ·rename_i e he;simp only [sf] at he;obtain ⟨t,ad,af⟩:=he;exact ⟨t,e,ad,af⟩
 ·simp at h
theorem Fc (ah:aL B U J S w H) {ts:Array TypeId} (ty:TypeId) {u r:I} {H':List au} {v:Value} (h:ha P ts H [u]=some (r,H')) (aj:Rel J S w u v) :
  ∃ y,(Builtin.len_ ts ty #[v]).run P w=.ok y w∧a1 B U J S w H' r y w:=by
 simp only [ha] at h;split at h
 ·split at h
  ·rename_i ai;obtain ⟨t,e,ax,he⟩:=mh ai;simp only [Option.some.injEq,Prod.mk.injEq] at h;obtain ⟨rfl,rfl⟩:=h;have ae:∃ a c,v=.slice a _ c:=mo (n:=_) rfl aj;obtain ⟨a,c,rfl⟩:=ae;exact ⟨_,by simp [Builtin.len_,ax,run_underlying he,goInt],a1.same ah (.int _ _) rfl⟩
  ·simp at h
 ·split at h
  ·rename_i ai;obtain ⟨t,e,ax,he⟩:=mh ai;simp only [Option.some.injEq,Prod.mk.injEq] at h;obtain ⟨rfl,rfl⟩:=h;have ae:∃ a c,v=.slice a _ c:=mo (n:=_) rfl aj;obtain ⟨a,c,rfl⟩:=ae;exact ⟨_,by simp [Builtin.len_,ax,run_underlying he,goInt],a1.same ah (.int _ _) rfl⟩
  ·simp at h
 ·split at h
  ·rename_i _ _ ax aE;simp only [sf] at ax;obtain ⟨t,ax,he⟩:=ax;simp only [Option.some.injEq,Prod.mk.injEq] at h;obtain ⟨rfl,rfl⟩:=h;obtain ⟨b,bw,aB,aH,aR,bj,bb,bf⟩:=ah.obj _ _ aE;cases aj with
   | map _ ar k =>
     rw [aB] at k;cases k;exact ⟨_,by simp [Builtin.len_,ax,run_underlying he,goInt,getObj,Sem.run,aR,bj],a1.same ah (.int _ _) rfl⟩
  ·simp at h
 ·split at h
  ·rename_i n e he;simp only [sf] at he;obtain ⟨t,ax,he⟩:=he;simp only [Option.some.injEq,Prod.mk.injEq] at h;obtain ⟨rfl,rfl⟩:=h;exact ⟨_,by simp [Builtin.len_,ax,run_underlying he,goInt],a1.same ah (.int _ _) rfl⟩
  ·simp at h
theorem E9 (ah:aL B U J S w H) {ts:Array TypeId} (ty:TypeId) {u r:I} {H':List au} {v:Value} (h:jU P ts H [u]=some (r,H')) (aj:Rel J S w u v) :
  ∃ y,(Builtin.cap_ ts ty #[v]).run P w=.ok y w∧a1 B U J S w H' r y w:=by
 unfold jU at h;split at h
 ·rename_i cs n heq;simp only [List.cons.injEq,and_true] at heq;subst heq;split at h
  ·rename_i ai;obtain ⟨t,e,ax,he⟩:=mh ai;simp only [Option.some.injEq,Prod.mk.injEq] at h;obtain ⟨rfl,rfl⟩:=h;have ae:∃ a,v=.slice a n n:=by
    cases aj with
    | b1=>exact ⟨_,rfl⟩
    | ay _ _ _ b o cap f ao=>exact ⟨_,by rw [ao rfl]⟩
   obtain ⟨a,rfl⟩:=ae;exact ⟨_,by simp [Builtin.cap_,ax,run_underlying he,goInt],a1.same ah (.int _ _) rfl⟩
  ·simp at h
 ·rename_i id off len n sz heq;simp only [List.cons.injEq,and_true] at heq;subst heq;split at h
  ·rename_i ai;obtain ⟨t,e,ax,he⟩:=mh ai;simp only [Option.some.injEq,Prod.mk.injEq] at h;obtain ⟨rfl,rfl⟩:=h;have ae:∃ a,v=.slice a len n:=by
    cases aj with
    | ref _ _ _ _ _ b cap _ ao=>exact ⟨_,by rw [ao n rfl]⟩
   obtain ⟨a,rfl⟩:=ae;exact ⟨_,by simp [Builtin.cap_,ax,run_underlying he,goInt],a1.same ah (.int _ _) rfl⟩
  ·simp at h
 ·simp at h
theorem AE {k:IntKind}:∀ (us:List I) (a n:Int) (vs:List Value) (bz:Nat→aI),kP us a=some n→a9 bz U J S w us vs→(vs.foldlM Builtin.min2 (.int k a)).run P w=.ok (.int k n) w
 | [],a,n,vs,bz,h,ae=>by
   cases vs with
   | cons=>exact absurd ae.len (by simp)
   | nil=>simp only [kP,Option.some.injEq] at h;subst h;rfl
 | u::us,a,n,vs,bz,h,ae=>by
   obtain ⟨v1,t1,rfl,r1,_,dC⟩:=ae.gN;unfold kP at h;split at h
   ·rename_i heq;simp at heq
   ·rename_i k' b r _ heq;simp only [List.cons.injEq] at heq;obtain ⟨rfl,rfl⟩:=heq;have e1:=r1.dc;subst e1;simp only [List.foldlM_cons,Builtin.min2,pure_bind];exact AE _ _ _ _ _ h dC
   ·cases h
theorem AD {k:IntKind}:∀ (us:List I) (a n:Int) (vs:List Value) (bz:Nat→aI),kO us a=some n→a9 bz U J S w us vs→(vs.foldlM Builtin.max2 (.int k a)).run P w=.ok (.int k n) w
 | [],a,n,vs,bz,h,ae=>by
   cases vs with
   | cons=>exact absurd ae.len (by simp)
   | nil=>simp only [kO,Option.some.injEq] at h;subst h;rfl
 | u::us,a,n,vs,bz,h,ae=>by
   obtain ⟨v1,t1,rfl,r1,_,dC⟩:=ae.gN;unfold kO at h;split at h
   ·rename_i heq;simp at heq
   ·rename_i k' b r _ heq;simp only [List.cons.injEq] at heq;obtain ⟨rfl,rfl⟩:=heq;have e1:=r1.dc;subst e1;simp only [List.foldlM_cons,Builtin.max2,pure_bind];exact AD _ _ _ _ _ h dC
   ·cases h
theorem Fm {us:List I} {r:I} (ts:Array TypeId) (ty:TypeId) {bz:Nat→aI} {vs:List Value} (h:nN us=some r) (ae:a9 bz U J S w us vs) :
  ∃ y,(Builtin.min_ ts ty vs.toArray).run P w=.ok y w∧Rel J S w r y∧r.plain=true:=by
 unfold nN at h;split at h
 ·simp only [rZ] at h;obtain ⟨n,h,rfl⟩:=h;obtain ⟨v1,t1,rfl,r1,_,dC⟩:=ae.gN;have e1:=r1.dc;subst e1;exact ⟨_,by simp only [Builtin.min_];exact AE _ _ _ _ _ h dC,.int _ _,rfl⟩
 ·simp at h
theorem Fl {us:List I} {r:I} (ts:Array TypeId) (ty:TypeId) {bz:Nat→aI} {vs:List Value} (h:nM us=some r) (ae:a9 bz U J S w us vs) :
  ∃ y,(Builtin.max_ ts ty vs.toArray).run P w=.ok y w∧Rel J S w r y∧r.plain=true:=by
 unfold nM at h;split at h
 ·simp only [rZ] at h;obtain ⟨n,h,rfl⟩:=h;obtain ⟨v1,t1,rfl,r1,_,dC⟩:=ae.gN;have e1:=r1.dc;subst e1;exact ⟨_,by simp only [Builtin.max_];exact AD _ _ _ _ _ h dC,.int _ _,rfl⟩
 ·simp at h
theorem Bd (ah:aL B U J S w H) {lo id off len sz n:Nat} {H':List au} {cs:List I} {vs:List Value} (eC:c4 J S w cs vs) (cC:cs.length=n) (aN:n≤len*sz)
  (h:g8 lo H id (fun l=>if off+len*sz≤l.length then some (setCells off cs l) else none)=some H') {b:Nat} (ag:J[id]?=some b) :
  ∃ w',(storeCells ⟨b,off,none⟩ vs).run P w=.ok () w'∧∃ az,bg U S w az S w'∧aL B az J S w' H'∧∃ cur e cur' cM,w.heap[b]?=some (.cells cur e (0,0))∧w'.heap[b]?=some (.cells cur' cM (0,0))∧cur'.size=cur.size:=by
 unfold g8 at h;split at h
 ·split at h
  ·rename_i ll aE;simp only [rZ] at h;obtain ⟨l',dB,rfl⟩:=h;split at dB
   ·rename_i ao;cases dB;obtain ⟨ar,cur,e,aB,aH,aR,bj,bb,bf⟩:=ah.obj id _ aE;rw [ag] at aB;cases aB;have pK:vs.length=n:=eC.len ▸ cC;have eo:∀ u∈vs,u.oneCell'=true:=fun u hu=>by
     obtain ⟨j,aw⟩:=tF.1 hu;have aU:=(sa.1 aw).1;exact (eC.rel j _ u (sq (eC.len ▸ aU)) aw).2.1
    have cJ:=run_storeCells_at P b off e vs 0 cur w aR (by omega) eo;simp only [tU] at cJ;obtain ⟨az,aA,cc⟩:=xe (cur':=(cur.toList.take off++vs++cur.toList.drop (off+vs.length)).toArray) (l':=setCells off cs ll) ah aE ag aH aR bb .res (by simp) (by simp)
     (by simp [mM];omega) 0 (fun j bG br hu ae=>by
      rw [n9 _ _ _ _ (by omega)] at hu;(have ae:(cur.toList.take off++vs++cur.toList.drop (off+vs.length))[j]?=some br:=by simpa using ae);rw [j5 cur.toList vs off j (by have Cf:cur.toList.length=cur.size:=tE;omega)] at ae;rw [eC.len] at hu;split at hu
      ·rename_i aw;rw [if_pos aw] at ae;obtain ⟨a',bk,bq⟩:=eC.rel _ bG br hu ae;exact ⟨I.ga a',bk,bq,.inl a'⟩
      ·rename_i aw;rw [if_neg aw] at ae;obtain ⟨d1,d0,d2,d3⟩:=bf j bG br hu (by simpa using ae)
       exact ⟨d1,d0,d2,.inr (.inl d3)⟩)
    exact ⟨_,cJ,az,aA,cc,cur,e,_,e,aR,setRow_heap w b cur _ e (0,0) aR,by have Cf:cur.toList.length=cur.size:=tE;simp;omega⟩
   ·simp at dB
  ·simp at h
 ·simp at h
theorem Bc (ah:aL B U J S w H) {lo id off len sz n:Nat} {H':List au} {cs:List I} {vs:List Value} (eC:c4 J S w cs vs) (cC:cs.length=n) (aN:n≤len*sz)
  (h:g8 lo H id (fun l=>if off+len*sz≤l.length then some (setCells off cs l) else none)=some H') {b:Nat} (ag:J[id]?=some b) :
  ∃ w',(storeCells ⟨b,off,none⟩ vs).run P w=.ok () w'∧∃ az,bg U S w az S w'∧aL B az J S w' H':=by
 obtain ⟨w',ad,az,af,aG,_⟩:=Bd (P:=P) ah eC cC aN h ag;exact ⟨w',ad,az,af,aG⟩
theorem FQ (ah:aL B U J S w H) {lo id off len sz n:Nat} {H':List au} {cs:List I} {vs:List Value} (eC:c4 J S w cs vs) (cC:cs.length=n) (aN:n≤len*sz)
  (h:g9 lo H id (fun l=>if off+len*sz≤l.length then some (setCells off cs l) else none)=some H') {b:Nat} (ag:J[id]?=some b) :
  ∃ w',(storeCells ⟨b,off,none⟩ vs).run P w=.ok () w'∧∃ az,bg U S w az S w'∧aL B az J S w' H':=by
 unfold g9 at h;split at h
 ·rename_i bD;split at h
  ·rename_i ll aE;exact Bc (P:=P) (lo:=lo) ah eC cC aN (by unfold g8;rw [if_pos bD,aE];exact h) ag
  ·rename_i ll g z aE;simp only [rZ] at h;obtain ⟨l',dB,rfl⟩:=h;have aU:=(sa.1 aE).1;obtain ⟨dz,cur,e,aB,aH,aR,bj,bb,bf,cap,c1,da,dF,fx⟩:=ah.obj id _ aE;rw [ag] at aB;cases aB
   obtain ⟨w',q1,az,aW,cz,BM,fT,ju,e1,dR,mG,xj⟩:=Bd (P:=P) (lo:=lo) (id:=id) (H':=(H.set id (.cells ll)).set id (.cells l')) (ah.og aE) eC cC aN (by
    unfold g8;rw [if_pos bD,sg aU];exact congrArg (Option.map _) dB) ag
   rw [aR] at dR;cases dR;have aO:=cz.xo (g:=g) (z:=z) (by rw [sg (by simpa using aU)]) ag c1 da dF mG (by rw [xj,fx]);rw [sQ,sQ] at aO;exact ⟨w',q1,az,aW,aO⟩
  ·simp at h
 ·simp at h
theorem E' (ah:aL B U J S w H) {lo:Nat} {ts:Array TypeId} (ty:TypeId) {u x r:I} {H':List au} {v cA:Value} {dL:aI} (de:∀ id,dL≠.obj id) (df:∀ id j,dL≠.cell id j)
  (h:jV P lo ts H [u,x]=some (r,H')) (aj:Rel J S w u v) (eh:Rel J S w x cA) (h5:aV U J S w dL x cA) :
  ∃ y w',(Builtin.copy_ ts ty #[v,cA]).run P w=.ok y w'∧a1 B U J S w H' r y w':=by
 obtain ⟨a4,aJ,aP,bW,jN⟩:=mq ah de df eh h5;have db:bg U S w U a4 w:=bg.settle aJ fun b o h=>(aP b o h).imp (fun h=>h) fun h=>⟨_,h⟩;unfold jV at h;split at h
 ·rename_i id off len cap sz oj heq;simp only [List.cons.injEq,and_true] at heq;obtain ⟨rfl,rfl⟩:=heq;split at h
  ·rename_i e he;simp only [sf] at he;obtain ⟨t,ax,he⟩:=he;split at h
   ·rename_i s m row ai hm cS;split at h
    ·rename_i ao;obtain ⟨rfl,C1⟩:=ao;simp only [rZ] at h;obtain ⟨a2,hw,h⟩:=h;simp only [Prod.mk.injEq] at h;obtain ⟨rfl,rfl⟩:=h;have CK:lenOf x.view=some m:=by
      cases x <;> try exact hm
      ·rename_i c;cases c <;> exact hm
      ·simp [lenOf] at hm
     have nw:rowOf H x.view=some row:=by
      cases x <;> try exact cS
      ·rename_i c;cases c <;> exact cS
      ·simp [rowOf] at cS
     have h6:=I.ga (I.dh x);cases aj with
     | ref _ _ _ _ _ b cap' ag Cd hle =>
       obtain ⟨a,c,fZ⟩:=mo CK jN;have C4:∃ vs,c4 J a4 w row vs∧∀ n,n≤m→(Builtin.firstCells s n cA).run P w=.ok (vs.take (n*s)).toArray w:=by
        rcases xD bW nw jN h6 with ⟨aS,n,dX,ae⟩ | ⟨cI,bQ,n,dX,vs,ae,gz,bu⟩
        ·refine ⟨[],⟨by simp [aS],by simp [aS]⟩,fun iU aN=>?_⟩;(have Ga:m=0:=by rw [ae] at fZ;cases fZ;rfl);rw [ae];(obtain rfl:iU=0:=by omega);cases n <;> simp [Builtin.firstCells,loadCells,loadCellsFrom]
        ·refine ⟨vs,gz,fun iU aN=>?_⟩;rw [ae] at fZ ⊢;cases fZ;have pK:vs.length=m*s:=gz.len ▸ C1;have CE:iU*s≤m*s:=tA _ aN
         exact run_firstCells_some (P:=P) w s iU ⟨cI,bQ,none⟩ m c (vs.take (iU*s)) (by simp;omega) (fun j y a0=>by
          rw [sV] at a0;split at a0
          ·rw [add_lit];exact bu j y a0
          ·simp at a0)
       obtain ⟨vs,gz,Co⟩:=C4;have Gb:min m len*s≤m*s:=tA _ (Nat.min_le_left _ _)
       have Ci:c4 J a4 w (row.take (min m len*s)) (vs.take (min m len*s)):=⟨by simp [gz.len],fun j bG br b_ bc=>by
        rw [sV] at b_ bc;split at b_
        ·rename_i aw;rw [if_pos aw] at bc;exact gz.rel j bG br b_ bc
        ·simp at b_⟩
       obtain ⟨w',cJ,az,aA,cc⟩:=Bc (P:=P) (n:=min m len*s) bW Ci (by simp;omega) (tA _ (Nat.min_le_right _ _)) hw ag;refine ⟨.int .i64 (min m len:Nat),w',?_,az,J,a4,Ext.refl J,db.trans aA,cc,.int _ _,aV.b3 rfl⟩;subst fZ;have aQ:=Co (min m len) (Nat.min_le_left _ _);simp only [Builtin.copy_,ax,List.getElem?_toArray,uD,List.getElem?_cons_succ,Sem.run_bind,run_underlying he,Result.andThen_ok,Builtin.lenOf,Sem.run_pure,run_sizeOf ai];rw [show Nat.min m len=min m len from rfl,aQ];simp [cJ,goInt]
    ·simp at h
   ·simp at h
  ·simp at h
 ·simp at h
theorem E_ (ah:aL B U J S w H) {lo:Nat} {ts:Array TypeId} (ty:TypeId) {u r:I} {H':List au} {v:Value} (h:kT P lo ts H [u]=some (r,H')) (aj:Rel J S w u v) :
  ∃ y w',(Builtin.clear_ ts ty #[v]).run P w=.ok y w'∧a1 B U J S w H' r y w':=by
 have done:∀ {a2:List au},aL B U J S w a2→a1 B U J S w a2 (.tuple []) (.tuple #[]) w:=fun cp=>a1.same cp (.tuple [] #[] rfl (by simp) (by simp)) rfl;unfold kT at h;split at h
 ·rename_i id off len cap sz heq;simp only [List.cons.injEq,and_true] at heq;subst heq;split at h
  ·rename_i e he;simp only [sf] at he;obtain ⟨t,ax,he⟩:=he;split at h
   ·rename_i s z ai bm;split at h
    ·rename_i ao;obtain ⟨rfl,er,bP⟩:=ao;simp only [rZ,Prod.mk.injEq] at h;obtain ⟨a2,hw,rfl,rfl⟩:=h;obtain ⟨i,dx,hi,et,fG⟩:=hN (J:=J) (S:=S) (w:=w) bm;have fJ:=mS fG (by omega) len;cases aj with
     | ref _ _ _ _ _ b cap' ag Cd hle =>
       obtain ⟨w',cJ,az,aA,cc⟩:=FQ (P:=P) (n:=len*s) ah fJ (by rw [ih,er]) (sb _) hw ag;(have kG:z.length=dx.cells.size:=by simpa using fG.len);have heq:(Builtin.zeroCells dx.cells len).toList=((Array.range (len*z.length)).map (fun i=>dx.cells[i % dx.cells.size]!)).toList:=by
        simp [Builtin.zeroCells,kG]
       rw [←heq] at cJ;cases len with
       | zero =>
         have mb:w'=w:=by
          (have aS:(Builtin.zeroCells dx.cells 0).toList=[]:=by simp [Builtin.zeroCells]);rw [aS] at cJ;simp [storeCells] at cJ;exact cJ.symm
         subst mb;refine ⟨.tuple #[],w',by simp [Builtin.clear_,ax,run_underlying he],az,J,S,Ext.refl J,aA,cc,.tuple [] #[] rfl (by simp) (by simp),aV.b3 rfl⟩
       | succ n =>
         refine ⟨.tuple #[],w',?_,az,J,S,Ext.refl J,aA,cc,.tuple [] #[] rfl (by simp) (by simp),aV.b3 rfl⟩;simp [Builtin.clear_,ax,run_underlying he,j4 hi et,cJ]
    ·simp at h
   ·simp at h
  ·simp at h
 ·rename_i c heq;simp only [List.cons.injEq,and_true] at heq;subst heq;split at h
  ·rename_i ai;obtain ⟨t,e,ax,he⟩:=mh ai;simp only [Option.some.injEq,Prod.mk.injEq] at h;obtain ⟨rfl,rfl⟩:=h;have ae:∃ a c,v=.slice a 0 c:=mo (n:=0) rfl aj;obtain ⟨a,c,rfl⟩:=ae;refine ⟨.tuple #[],w,?_,done ah⟩;cases a <;> simp [Builtin.clear_,ax,run_underlying he]
  ·simp at h
 ·simp at h
theorem yq (off:Nat):∀ (xs:List Value) (k:Nat) (cells:Array Value) (j:Nat),off+k+xs.length≤cells.size →
  ((xs.zipIdx k).foldl (fun cs (x:Value×Nat)=>cs.setIfInBounds (off+x.2) x.1) cells)[j]?=if off+k≤j∧j<off+k+xs.length then xs[j-(off+k)]? else cells[j]?
 | [],k,cells,j,_=>by simp;omega
 | x::xs,k,cells,j,h=>by
   simp only [sH] at h;simp only [List.zipIdx_cons,List.foldl_cons];rw [yq off xs (k+1) _ j (by simp;omega)];by_cases ad:j=off+k
   ·subst ad;rw [if_neg (by omega),if_pos (by simp)];simp [show off+k<cells.size by omega]
   ·by_cases af:off+(k+1)≤j∧j<off+(k+1)+xs.length
    ·rw [if_pos af,if_pos (by simp;omega)];obtain ⟨m,rfl⟩:∃ m,j=off+(k+1)+m:=⟨j-(off+(k+1)),by omega⟩;rw [show off+(k+1)+m-(off+(k+1))=m by omega,show off+(k+1)+m-(off+k)=m+1 by omega];simp
    ·rw [if_neg af,if_neg (by simp;omega),Array.getElem?_setIfInBounds_ne (by omega)]
theorem D4 {u:I} {v:Value} {bF:List I} (ao:u.cells=some bF) (aj:Rel J S w u v) (aC:u.plain=true):c4 J S w bF v.cells.toList:=by
 have single:bF=[u]→v.cells=#[v]→v.oneCell'=true→c4 J S w bF v.cells.toList:=by
  intro ad af aG;subst ad;rw [af];refine ⟨rfl,fun j bG br hu ae=>?_⟩;cases j with
  | zero=>simp at hu ae;subst hu ae;exact ⟨aC,aG,aj⟩
  | succ j=>simp at hu
 cases aj with
 | agg as vs h p one r =>
   simp [I.cells] at ao;subst ao;exact ⟨by simpa [Value.cells] using h.symm,fun j bG br hu ae=>⟨p bG (sK hu),one br (sK ae),r j bG br hu (by simpa [Value.cells] using ae)⟩⟩
 | junk v=>simp [I.cells] at ao
 | tuple as vs h p r=>simp [I.cells] at ao
 | raw=>simp [I.cells] at ao
 | _=>simp [I.cells] at ao;exact single ao.symm rfl rfl
theorem nd {place:Nat→Option (Nat×Nat)}:∀ (parts:List (Nat×I)) (parts':List (Nat×Value)) (cs c9:List I) (vs:Array Value),
  parts.map (·.1)=parts'.map (·.1)→(∀ (j:Nat) (x:Nat×I) (y:Nat×Value),parts[j]?=some x→parts'[j]?=some y→x.2.plain=true∧Rel J S w x.2 y.2) →
  gq place cs parts=some c9→c4 J S w cs vs.toList→∃ dw,Instr.fill place vs parts'=some dw∧c4 J S w c9 dw.toList
 | [],parts',cs,c9,vs,hi,_,h,ao=>by
   cases parts' with
   | nil=>simp [gq] at h;subst h;exact ⟨vs,rfl,ao⟩
   | cons=>simp at hi
 | (i,u)::parts,parts',cs,c9,vs,hi,b9,h,ao=>by
   cases parts' with
   | nil=>simp at hi
   | cons y parts' =>
     obtain ⟨nA,v⟩:=y;simp only [List.map_cons,List.cons.injEq] at hi;obtain ⟨rfl,hi⟩:=hi;obtain ⟨aC,aj⟩:=b9 0 (i,u) (i,v) rfl rfl;simp only [gq] at h;split at h
     ·rename_i off size h6;split at h
      ·rename_i bF fI;split at h
       ·rename_i gW;obtain ⟨bP,hle⟩:=gW;have eC:=D4 fI aj aC;(have pK:v.cells.size=size:=by have:=eC.len;simp at this;omega);(have cC:vs.size=cs.length:=by have:=ao.len;simp at this;omega);have bt:c4 J S w (setCells off bF cs) (v.cells.zipIdx.foldl (fun cs (x:Value×Nat)=>cs.setIfInBounds (off+x.2) x.1) vs).toList:=by
         refine ⟨?_,fun j bG br hu ae=>?_⟩
         ·rw [mM];have pc:∀ (l:List (Value×Nat)) (a:Array Value),(l.foldl (fun cs (x:Value×Nat)=>cs.setIfInBounds (off+x.2) x.1) a).size=a.size:=by
           intro l;induction l with
           | nil=>intro a;rfl
           | cons x l a_=>intro a;simp [a_]
          have:=pc v.cells.zipIdx.toList vs;simp only [tE];rw [←cC,←this,←vS]
         ·rw [n9 _ _ _ _ (by omega)] at hu;have aO:=yq off v.cells.toList 0 vs j (by simp;omega);(have dC:(v.cells.zipIdx.foldl (fun cs (x:Value×Nat)=>cs.setIfInBounds (off+x.2) x.1) vs)[j]?=some br:=by simpa using ae);rw [←vS,Array.toList_zipIdx] at dC;rw [aO] at dC;simp only [tU,tE,pK] at dC;rw [bP] at hu;split at hu
          ·rename_i aw;rw [if_pos aw] at dC;exact eC.rel _ bG br hu dC
          ·rename_i aw;rw [if_neg aw] at dC;exact ao.rel j bG br hu (by simpa using dC)
        obtain ⟨dw,ad,af⟩:=nd parts parts' (setCells off bF cs) c9 _ hi (fun j x y al a0=>b9 (j+1) x y (by simpa using al) (by simpa using a0)) h bt;exact ⟨dw,by simp only [Instr.fill,h6];rw [if_neg (by simp;omega)];exact ad,af⟩
       ·simp at h
      ·simp at h
     ·simp at h
end
end Go.Proofs.YtfakoboiahbhaaaGreat.Ab


namespace Go.Proofs.YtfakoboiahbhaaaGreat.Ab
open Go
section
variable {P:Program} {B:Nat} {J:List Nat} {w:World} {H:List au} {U:Nat→Option aI} {S:Nat→Nat→Prop}
theorem AB {α β:Type} (g:α→Sem β) (h:α→β):∀ (l:List α),(∀ x∈l,∀ w,(g x).run P w=.ok (h x) w)→∀ w,(l.mapM g).run P w=.ok (l.map h) w
 | [],_,w=>by simp
 | x::l,al,w=>by
   rw [List.mapM_cons];simp [al x (by simp),AB g h l (fun y a0=>al y (by simp [a0]))]
theorem E7 {t:TypeId} {parts:List (Nat×I)} {parts':Array (Nat×Value)} {r:I} (h:ln P t parts=some r) (hi:parts.map (·.1)=parts'.toList.map (·.1))
  (b9:∀ (j:Nat) (x:Nat×I) (y:Nat×Value),parts[j]?=some x→parts'.toList[j]?=some y→x.2.plain=true∧Rel J S w x.2 y.2) :
  ∃ v,(Instr.build t parts').run P w=.ok v w∧Rel J S w r v∧r.plain=true:=by
 have fin:∀ {c9:List I} {dw:Array Value},c4 J S w c9 dw.toList→Rel J S w (.agg c9) (.agg dw):=fun {c9 dw} h =>
  .agg _ _ (by simpa using h.len.symm) (fun u hu=>by
   obtain ⟨j,aw⟩:=tF.1 hu;have aU:=(sa.1 aw).1;exact (h.rel j u _ aw (sq (h.len ▸ aU))).1) (fun v ae=>by
   obtain ⟨j,aw⟩:=tF.1 ae;have aU:=(sa.1 aw).1
   exact (h.rel j _ v (sq (h.len ▸ aU)) aw).2.1) (fun j u v hu ae=>(h.rel j u v hu (by simpa using ae)).2.2)
 unfold ln at h;split at h
 ·rename_i z bE bm aZ;obtain ⟨i,dx,hi',et,fG⟩:=hN (J:=J) (S:=S) (w:=w) bm;split at h
  ·rename_i c_;simp only [rZ] at h;obtain ⟨c9,aQ,rfl⟩:=h;obtain ⟨dw,ad,af⟩:=nd parts parts'.toList z c9 dx.cells hi b9 aQ fG;have yw:∀ f∈bE.toList,∃ s,bS P f.type=some s:=fun f aQ=>by
    have:=sC.1 c_ f aQ;exact Option.isSome_iff_exists.1 this
   have hm:=AB (P:=P) (fun f:Field=>Prod.mk f.offset <$> sizeOf f.type) (fun f:Field=>(f.offset,(bS P f.type).getD 0)) bE.toList (fun f aQ w=>by
    obtain ⟨s,ai⟩:=yw f aQ;simp [run_sizeOf ai,ai]) w
   have h6:(fun (i:Nat)=>(bE.map (fun f:Field=>(f.offset,(bS P f.type).getD 0)))[i]?)=(fun (i:Nat)=>(bE[i]?).bind fun f:Field=>(bS P f.type).map fun s=>(f.offset,s)):=by
    funext i;rw [vm];cases Cn:bE[i]? with
    | none=>rfl
    | some f =>
      obtain ⟨s,ai⟩:=yw f (by simpa using vK Cn);simp [ai]
   refine ⟨.agg dw,?_,fin af,rfl⟩;rw [←h6] at ad;simp only [vm] at ad;simp [Instr.build,j4 hi' et,run_underlying aZ,Array.mapM_eq_mapM_toList,hm,ad]
  ·simp at h
 ·rename_i z n e bm aZ;obtain ⟨i,dx,hi',et,fG⟩:=hN (J:=J) (S:=S) (w:=w) bm;simp only [sf,rZ] at h;obtain ⟨s,ai,c9,aQ,rfl⟩:=h;obtain ⟨dw,ad,af⟩:=nd parts parts'.toList z c9 dx.cells hi b9 aQ fG;refine ⟨.agg dw,?_,fin af,rfl⟩;simp [Instr.build,j4 hi' et,run_underlying aZ,run_sizeOf ai,ad]
 ·simp at h
theorem AP (ah:aL B U J S w H) {t:TypeId} {len:Nat} {parts:List (Nat×I)} {parts':Array (Nat×Value)} {cs:List I} {s:Nat} (h:iy P t len parts=some (cs,s))
  (hi:parts.map (·.1)=parts'.toList.map (·.1))
  (b9:∀ (j:Nat) (x:Nat×I) (y:Nat×Value),parts[j]?=some x→parts'.toList[j]?=some y→x.2.plain=true∧Rel J S w x.2 y.2) :
  ∃ b w',(Instr.buildSlice t len parts').run P w=.ok (.slice (some ⟨b,0,none⟩) len len) w'∧a1 B U J S w H (.ay cs len (.uniq s)) (.slice (some ⟨b,0,none⟩) len len) w':=by
 unfold iy at h;split at h
 ·rename_i e aZ;split at h
  ·rename_i aF z ai bm;split at h
   ·rename_i ao;obtain ⟨ad,af,aG⟩:=ao;simp only [rZ,Prod.mk.injEq] at h;obtain ⟨c9,aQ,rfl,rfl⟩:=h;obtain ⟨i,dx,hi',et,fG⟩:=hN (J:=J) (S:=S) (w:=w) bm;have fJ:=mS fG (by omega) len;(have kG:z.length=dx.cells.size:=by simpa using fG.len);obtain ⟨dw,q1,aW⟩:=nd parts parts'.toList (e0 len z) c9 ((Array.range (len*z.length)).map (fun i=>dx.cells[i % dx.cells.size]!)) hi b9 aQ fJ;have pc:∀ (place:Nat→Option (Nat×Nat)) (parts:List (Nat×I)) (a b:List I),gq place a parts=some b→b.length=a.length:=by
     intro place parts
     induction parts with
     | nil=>intro a b h;simp [gq] at h;rw [h]
     | cons x parts a_ =>
       intro a b h;obtain ⟨i,u⟩:=x;simp only [gq] at h;split at h
       ·split at h
        ·split at h
         ·rw [a_ _ _ h,mM]
         ·simp at h
        ·simp at h
       ·simp at h
    have cC:c9.length=len*aF:=by rw [pc _ _ _ _ aQ,ih,af]
    have iN:=nP ah aW [] e len len aF ad cC (sb _) (by
     have:len≤len*aF:=uB _ ad
     simp only [maxLen];omega) (by rw [←aW.len,cC];simp)
    refine ⟨_,_,?_,iN⟩;simp only [sN,uC];rw [af] at q1;(have lP:¬ (16777216<len*aF):=by omega);by_cases aS:len*aF=0
    ·obtain rfl:len=0:=by
      rcases Nat.mul_eq_zero.1 aS with h | h
      ·exact h
      ·omega
     (have Eb:Instr.fill (fun i=>some (i*aF,aF)) #[] parts'.toList=some dw:=by simpa [show Array.range 0=#[] from rfl] using q1);simp [Instr.buildSlice,run_underlying aZ,run_sizeOf ai,show Array.range 0=#[] from rfl,Eb,newRow,newObj,Sem.run,World.alloc_eq]
    ·simp [Instr.buildSlice,run_underlying aZ,run_sizeOf ai,aS,lP,j4 hi' et,q1,newRow,newObj,Sem.run,World.alloc_eq]
   ·simp at h
  ·simp at h
 ·simp at h
end
end Go.Proofs.YtfakoboiahbhaaaGreat.Ab
