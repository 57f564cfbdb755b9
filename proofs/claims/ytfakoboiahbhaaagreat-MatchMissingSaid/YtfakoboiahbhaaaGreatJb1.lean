
import Derived.RangeFuncLeaves
import Derived.RangeFuncCalls
import Derived.KernelRfl
import Derived.Laws.AppendOwn
import Derived.OrdersIn
import Derived.Below
import Derived.IntWalk
import Derived.Laws.MakeOwn
set_option linter.unusedSimpArgs false
set_option linter.unusedVariables false
set_option linter.unusedSectionVars false

open Array renaming foldl_toList→vS,getD_eq_getD_getElem?→sT,getElem?_append_left→wu,getElem?_eq_getElem→sS,getElem?_eq_some_iff→tt,getElem?_map→ve,length_toList→tQ,mem_of_getElem?→vu,size_append→vQ,toArray_toList→uT
open Int renaming natCast_mul→wj,toNat_of_nonneg→uI
open List renaming all_eq_true→sR,append_assoc→sH,append_nil→sW,eq_nil_of_length_eq_zero→wq,forIn_cons→wh,getD_eq_getElem?_getD→sY,getElem?_append_left→sQ,getElem?_append_right→s_,getElem?_cons_succ→uU,getElem?_cons_zero→uJ,getElem?_drop→tr,getElem?_eq_getElem→sK,getElem?_eq_some_iff→sv,getElem?_map→sN,getElem?_set→vt,getElem?_set_ne→sJ,getElem?_set_self→sI,getElem?_take→tp,length_append→sC,length_cons→sV,length_drop→uh,length_eq_zero_iff→tu,length_set→tA,length_take→tf,mem_iff_getElem?→tE,mem_map→sM,mem_of_getElem?→sZ,mem_of_mem_drop→vL,mem_of_mem_take→vd,set_set→te,size_toArray→ug,take_zero→tD
open Nat renaming add_assoc→tZ,add_comm→tC,add_mul→tH,add_zero→ue,le_mul_of_pos_right→uS,le_refl→sB,le_trans→tb,lt_or_ge→tq,lt_trichotomy→vO,min_eq_left→tI,mul_le_mul_right→tP,mul_pos→wm,pos_of_ne_zero→vv,sub_self→tY,zero_add→tg,zero_mul→vN
open Option renaming bind_eq_some_iff→sE,getD_some→vb,map_eq_some_iff→su,map_some→sD
namespace Go.Proofs.YtfakoboiahbhaaaGreat.Ab
open Go
inductive hv where
 | shared | full | own (z:Nat) | uniq (z:Nat)
 deriving DecidableEq
inductive I where
 | junk
 | bool (b:Bool)
 | int (k:IntKind) (n:Int)
 | eJ
 | ptr (id off:Nat)
 | bU (cells:List I)
 | ax (cells:List I) (len:Nat) (c:hv)
 | ref (id off len:Nat) (cap:Option Nat) (sz:Nat)
 | func (f:FuncId) (first captured:List I)
 | yield (id:Nat)
 | map (id:Nat)
 | agg (cs:List I)
 | tuple (vs:List I)
 | str (s:ByteArray)
 | raw (cells:List I) (len z:Nat)
 | cl (id gid len z:Nat)
 | dw
 | cZ (as cells:List I) (len z:Nat) (bs:List I)
 deriving Inhabited
structure b3 where
 takes:List Bool:=[]
 mode:Nat:=0
structure dd where
 bad:Bool:=false
 two:List (Nat×Nat):=[]
 ops:List (List b3):=[]
 ia:List (Nat×List Bool):=[]
 ib:List (Nat×List Bool):=[]
inductive ar where
 | dead
 | cells (l:List I)
 | loop (st:LoopState) (cF:Option Code) (fn:FuncId) (tmps:List I) (params:List Nat) (assign body:Code) (jx:dd)
 | map (es:List (Nat×I×I)) (clock:Nat)
 | iter (m since:Nat) (seen:List Nat) (kf:Nat)
 | grow (l:List I) (gid z:Nat)
structure a7 where
 T:List I
 H:List ar
inductive cA where
 | normal | exit (id:Nat) | ret
inductive fb where
 | fn (f:FuncId)
 | yield (l:Nat)
abbrev b8:=fb→List I→List ar→Nat→Option (I×List ar)
def I.view:I→I
 | .ax c n (.own _)=>.ax c n .shared
 | .ax c n (.uniq _)=>.ax c n .shared
 | .raw _ _ _=>.junk
 | .cZ _ _ _ _ _=>.junk
 | .cl id _ len z=>.ref id 0 len none z
 | v=>v
def I.g0:I→I
 | .ax c n .full=>.ax c n .shared
 | v=>v
def I.cr:I→I
 | .ax c n .full=>.ax c n .shared
 | .agg cs=>.agg (cs.map I.g0)
 | .tuple cs=>.tuple (cs.map I.g0)
 | v=>v
def cj:Nat→I→Bool
 | 0,_=>false
 | d+1,v=>match v with
   | .ax cells _ _=>cells.all (cj d)
   | .bU cells=>cells.all (cj d)
   | .agg cs=>cs.all (cj d)
   | .tuple cs=>cs.all (cj d)
   | .func _ a b=>a.all (cj d) && b.all (cj d)
   | .bool _ | .int _ _ | .str _ | .eJ=>true
   | _=>false
def I.plain:I→Bool
 | .ax _ _ (.own _)=>false
 | .ax _ _ (.uniq _)=>false
 | .raw _ _ _=>false
 | .cZ _ _ _ _ _=>false
 | .cl _ _ _ _=>false
 | _=>true
def I.cR:I→Bool
 | .ax _ _ (.uniq _)=>false
 | _=>true
def I.settle:I→I
 | .ax c n (.uniq z)=>.ax c n (.own z)
 | v=>v
def I.cells:I→Option (List I)
 | .agg cs=>some cs
 | .junk=>none
 | .tuple _=>none
 | .raw _ _ _=>none
 | .cZ _ _ _ _ _=>none
 | v=>some [v]
def hz:Value→I
 | .bool b=>.bool b
 | .int k n=>.int k n
 | .pointer none=>.eJ
 | .string s=>.str s
 | .slice none 0 0=>.ax [] 0 .full
 | _=>.junk
noncomputable section
def c5 (T:List I) (t:Nat):I :=
 @List.rec I (fun _=>Nat→I) (fun _=>.junk) (fun h _ a_ n=>@Nat.rec (fun _=>I) h (fun m _=>a_ m) n) T t
def gT (T:List I) (t:Nat) (v:I):List I :=
 @List.rec I (fun _=>Nat→List I) (fun _=>[]) (fun h x' a_ n=>@Nat.rec (fun _=>List I) (v::x') (fun m _=>h::a_ m) n) T t
theorem gd (T:List I):∀ t,c5 T t=T.getD t .junk:=by
 induction T with
 | nil=>intro t;rfl
 | cons h x' a_=>intro t;cases t with
   | zero=>rfl
   | succ n=>exact a_ n
theorem gU (T:List I) (v:I):∀ t,gT T t v=T.set t v:=by
 induction T with
 | nil=>intro t;rfl
 | cons h x' a_=>intro t;cases t with
   | zero=>rfl
   | succ n=>exact congrArg (h::·) (a_ n)
def aA (T:List I):Operand→I
 | .tmp t=>c5 T t
 | .const v=>hz v
 | .func f=>.func f [] []
 | .global _=>.junk
def fU (T:List I) (t:Nat):I→List I
 | .ax c n (.uniq z)=>gT T t (.ax c n (.own z))
 | _=>T
def rd:List I→List Bool→List Operand→List I×List I
 | T,_,[]=>([],T)
 | T,ts,.tmp t::rest =>
   match ts.headD false with
   | true=>let r:=rd (gT T t .junk) ts.tail rest;(c5 T t::r.1,r.2)
   | false=>let r:=rd (fU T t (c5 T t)) ts.tail rest;((c5 T t).view::r.1,r.2)
 | T,ts,x::rest=>let r:=rd T ts.tail rest;(aA T x::r.1,r.2)
def e0:List Bool→List I→List I
 | b::bs,v::vs=>(match b with | true=>v | false=>.junk)::e0 bs vs
 | [],vs=>vs
 | _,[]=>[]
def l1 (id:Nat):List (Nat×List Bool)→Option (List Bool)
 | []=>none
 | (i,k)::r=>match Nat.beq i id with | true=>some k | false=>l1 id r
def e5 (mH:List (Nat×List Bool)) (id:Nat) (s:a7):a7 :=
 match l1 id mH with
 | some k=>⟨e0 k s.T,s.H⟩
 | none=>s
def opsOf (o:Oper):List Operand :=
 match o.op with
 | .call { callee:=.value f,args,.. }=>f::args.toList
 | .call { args,.. }=>args.toList
 | op=>op.operands.toList
def tmpsOf (xs:List Operand):List Nat:=xs.filterMap fun x=>match x with | .tmp t=>some t | _=>none
def c1:List Bool→List Operand→List Nat
 | _,[]=>[]
 | ts,.tmp t::rest=>match ts.headD false with
   | true=>t::c1 ts.tail rest
   | false=>c1 ts.tail rest
 | ts,_::rest=>c1 ts.tail rest
def pc (ops:Array Oper) (o:Oper):List Nat:=match o.guard with
 | some (j,_)=>((ops[j]?).bind (·.dst)).toList
 | none=>[]
def e_ (ops:Array Oper) (o:Oper):List Nat:=pc ops o++tmpsOf (opsOf o)
def jB (xs ys:List Nat):Bool:=xs.all fun x=>!(ys.contains x)
def dn (o:Oper) (mode:Nat):Nat:=match o.op with
 | .load _ _=>if mode=0 then 1 else if mode=2 then 2 else if mode=3 then 0 else if mode=5 then 2 else 5
 | .box _ _=>if mode=0 then 6 else 0
 | .alloc _=>6
 | .makeSlice _ _ _=>if mode=0 then 2 else 0
 | .store _ _ _ | .makeMap _ _ | .mapUpdate _ _ _ _ | .lookup _ _ _ _ | .range _ _ | .entry _=>2
 | .move _ | .assign _=>if mode=0 then 0 else 2
 | .call c=>match c.callee with
   | .builtin b=>match b with
     | .append=>if mode=0 then 1 else 2
     | .len | .cap | .min | .max=>1
     | _=>2
   | .value _=>if mode=0 then 3 else if mode=3 then 0 else if mode=4 then 3 else if mode=6 then 3 else 2
   | .invoke _ _=>2
 | _=>0
def calm (o:Oper) (mode:Nat):Bool:=match o.op with
 | .move _ | .assign _=>mode == 0
 | _=>true
def bQ (a b:Nat):Bool:=a == 0 || b == 0 || ((a == 1 || a == 3) && (b == 1 || b == 3)) || (a == 1 && b == 5) || (a == 5 && b == 1) || (a == 1 && b == 6)
def kX (bE:Oper) (dg:Nat) (bR:Oper):Bool:=match bE.op,bR.op with
 | .load _ _,.mapUpdate _ _ _ _=>dg == 0
 | _,_=>false
def indep (ops:Array Oper) (bE:Oper) (aC:b3) (bR:Oper) (aI:b3):Bool :=
 jB bE.dst.toList (e_ ops bR) && jB bR.dst.toList (e_ ops bE) && jB bE.dst.toList bR.dst.toList &&
 jB (c1 aC.takes (opsOf bE)) (e_ ops bR) && jB (c1 aI.takes (opsOf bR)) (e_ ops bE) &&
 calm bE aC.mode && calm bR aI.mode && (bQ (dn bE aC.mode) (dn bR aI.mode) || kX bE aC.mode bR)
def mN (ms:List Nat) (o:Oper):Nat:=o.after.toList.foldl (fun m e=>if Region.binds .any e then m ||| (ms.getD e.on 0 ||| 1 <<< e.on) else m) 0
def hf:List Oper→List Nat→List Nat
 | [],ms=>ms
 | o::r,ms=>hf r (ms++[mN ms o])
def z5 (ops:Array Oper) (as:List b3) (ms:List Nat):Bool :=
 (List.range ops.size).all fun j=>match ops[j]? with
  | none=>true
  | some c4=>(ms.getD j 0 == mN ms c4) && c4.after.toList.all (fun e=>!Region.binds .any e || Nat.blt e.on j) &&
    (List.range j).all fun i=>match ops[i]? with
     | none=>true
     | some cO=>(ms.getD j 0).testBit i || indep ops cO (as.getD i {}) c4 (as.getD j {})
def ns (ops:Array Oper) (as:List b3):Bool:=z5 ops as (hf ops.toList [])
def z6 (ops:Array Oper) (an:List b3) (ms:List Nat) (p q:Nat):Bool :=
 (List.range ops.size).all fun j=>match ops[j]? with
  | none=>true
  | some c4=>(ms.getD j 0 == mN ms c4) && c4.after.toList.all (fun e=>!Region.binds .any e || Nat.blt e.on j) &&
    (List.range j).all fun i=>match ops[i]? with
     | none=>true
     | some cO=>(ms.getD j 0).testBit i || indep ops cO (an.getD i {}) c4 (an.getD j {}) || (Nat.beq i p && Nat.beq j q)
def nt (ops:Array Oper) (an:List b3) (p q:Nat):Bool:=z6 ops an (hf ops.toList []) p q
def Bu (id:Nat):List (Nat×Nat)→Option Nat
 | []=>none
 | (i,p)::r=>match Nat.beq i id with | true=>some p | false=>Bu id r
def kg (A:dd) (id:Nat):Bool→Option Nat
 | true=>Bu id A.two
 | false=>none
def xF (A:dd) (id:Nat) (ops:Array Oper) (draw:Bool):Bool:=match kg A id draw with
 | some p=>Nat.blt (p+1) ops.size && nt ops (A.ops.getD id []) p (p+1)
 | none=>!draw || ns ops (A.ops.getD id [])
def codeOk (A:dd):Code→Bool
 | .region id ops draw=>xF A id ops draw
 | .seq a b=>codeOk A a && codeOk A b
 | .cond _ a b=>codeOk A a && codeOk A b
 | .block _ c=>codeOk A c
 | .loop c=>codeOk A c
 | .scope c=>codeOk A c
 | .rangeFunc _ _ a b=>codeOk A a && codeOk A b
 | _=>true
section
variable (P:Program)
def bD (t:TypeId):Option Nat:=(P.info? t).map (·.size)
def dJ (t:TypeId):Bool:=match P.underlying t with | some (.struct _) | some (.array _ _)=>true | _=>false
def zeroCells (t:TypeId):Option (List I):=((P.info? t).bind (·.zero)).bind fun v=>match v.cells.toList.all (·.oneCell') with | true=>some (v.cells.toList.map hz) | false=>none
def jv (op:BinOp) (k:IntKind) (a b:Int):Option I :=
 match op with
 | .add=>some (.int k (k.wrap (a+b)))
 | .sub=>some (.int k (k.wrap (a-b)))
 | .mul=>some (.int k (k.wrap (a*b)))
 | .quo=>if b=0 then none else some (.int k (k.wrap (a.tdiv b)))
 | .rem=>if b=0 then none else some (.int k (a.tmod b))
 | .eql=>some (.bool (a == b))
 | .neq=>some (.bool (a != b))
 | .lss=>some (.bool (decide (a<b)))
 | .leq=>some (.bool (decide (a≤b)))
 | .gtr=>some (.bool (decide (a > b)))
 | .geq=>some (.bool (decide (a≥b)))
 | .and=>some (.int k (k.wrap (BitVec.ofInt k.bits a &&& BitVec.ofInt k.bits b).toNat))
 | .or=>some (.int k (k.wrap (BitVec.ofInt k.bits a ||| BitVec.ofInt k.bits b).toNat))
 | .xor=>some (.int k (k.wrap (BitVec.ofInt k.bits a ^^^ BitVec.ofInt k.bits b).toNat))
 | .andNot=>some (.int k (k.wrap (BitVec.ofInt k.bits a &&& ~~~ (BitVec.ofInt k.bits b)).toNat))
 | _=>none
def hy (op:BinOp) (k:IntKind) (a b:Int):Option I :=
 if b<0 then none else
 match op with
 | .shl=>some (.int k (k.wrap (a*2 ^ (min b.toNat k.bits))))
 | .shr=>some (.int k (a.fdiv (2 ^ (min b.toNat k.bits))))
 | _=>none
def dM:List I→List I→Option Bool
 | [],[]=>some true
 | .int k a::r,.int k' b::r'=>if k=k' then (dM r r').map fun e=>(a == b) && e else none
 | _,_=>none
def gL:List Field→Nat→Bool
 | [],_=>true
 | f :: bm, n => (f.offset == n) && (f.name != "_") && (match P.underlying f.type, bD P f.type with | some (.int _), some 1 => true | _, _ => false) && gL bm (n + 1)
def fq (op:BinOp) (t:TypeId) (x y:I):Option I :=
 match x,y with
 | .int k a,.int k' b =>
   match op with
   | .shl=>hy .shl k a b
   | .shr=>hy .shr k a b
   | op=>if k=k' then jv op k a b else none
 | .bool a,.bool b =>
   match P.underlying t,op with
   | some .bool,.eql=>some (.bool (a == b))
   | some .bool,.neq=>some (.bool (!(a == b)))
   | _,_=>none
 | .agg xs,.agg ys =>
   match P.underlying t with
   | some (.array len e) =>
     match P.underlying e,bD P e with
     | some (.int _),some 1 =>
       if xs.length=len∧ys.length=len∧P.eqGuardType P.depth t=false then
        match op with
        | .eql=>(dM xs ys).map fun e=>.bool e
        | .neq=>(dM xs ys).map fun e=>.bool !e
        | _=>none
       else none
     | _,_=>none
   | some (.struct bm) =>
     if gL P bm.toList 0=true∧P.stoodInHeld t=false∧xs.length=bm.size∧ys.length=bm.size∧P.eqGuardType P.depth t=false then
      match op with
      | .eql=>(dM xs ys).map fun e=>.bool e
      | .neq=>(dM xs ys).map fun e=>.bool !e
      | _=>none
     else none
   | _=>none
 | _,_=>none
def kn (op:UnOp):I→Option I
 | .bool b=>match op with | .not=>some (.bool !b) | _=>none
 | .int k n=>match op with | .neg=>some (.int k (k.wrap (-n))) | _=>none
 | _=>none
def setCells:Nat→List I→List I→List I
 | _,[],cs=>cs
 | off,v::vs,cs=>setCells (off+1) vs (cs.set off v)
def fC (place:Nat→Option (Nat×Nat)):List I→List (Nat×I)→Option (List I)
 | cs,[]=>some cs
 | cs,(i,v)::rest =>
   match place i with
   | some (off,size)=>match v.cells with
     | some vc=>if vc.length=size∧off+size≤cs.length then fC place (setCells off vc cs) rest else none
     | none=>none
   | none=>none
def e8:Nat→List I→List I
 | 0,_=>[]
 | n+1,z=>z++e8 n z
def lH (t:TypeId) (parts:List (Nat×I)):Option I :=
 match zeroCells P t,P.underlying t with
 | some z,some (.struct bm)=>match bm.toList.all (fun f=>(bD P f.type).isSome) with
   | true=>(fC (fun i=>(bm[i]?).bind fun f=>(bD P f.type).map fun s=>(f.offset,s)) z parts).map .agg
   | false=>none
 | some z,some (.array _ e)=>(bD P e).bind fun s=>(fC (fun i=>some (i*s,s)) z parts).map .agg
 | _,_=>none
def iZ:List (Nat×I)→List (Nat×I)→Option (List (Nat×I)×Nat×List I×Nat×Nat×List (Nat×I))
 | _,[]=>none
 | pre,(i,.ax c n (.own z))::r=>some (pre,i,c,n,z,r)
 | pre,(i,.ax c n (.uniq z))::r=>some (pre,i,c,n,z,r)
 | pre,x::r=>iZ (pre++[x]) r
def kl (t:TypeId) (parts:List (Nat×I)):Option I :=
 match zeroCells P t,P.underlying t,iZ [] parts with
 | some z,some (.struct bm),some (pre,i,c,n,s,post) =>
   match bm.toList.all (fun f=>(bD P f.type).isSome),(bm[i]?).bind fun f=>(bD P f.type).map fun s=>(f.offset,s) with
   | true,some (off,1) =>
     match pre.all (fun x=>x.2.plain) && post.all (fun x=>x.2.plain) && post.all (fun x=>match (bm[x.1]?).bind fun f=>(bD P f.type).map fun s=>(f.offset,s) with | some (o,s)=>decide (off<o∨o+s≤off) | none=>false) with
     | true=>(fC (fun i=>(bm[i]?).bind fun f=>(bD P f.type).map fun s=>(f.offset,s)) z pre).bind fun eQ=>if off<eQ.length then
       (fC (fun i=>(bm[i]?).bind fun f=>(bD P f.type).map fun s=>(f.offset,s)) (eQ.set off .junk) post).map fun ef=>.cZ (ef.take off) c n s (ef.drop (off+1)) else none
     | false=>none
   | _,_=>none
 | _,_,_=>none
def iz (t:TypeId) (len:Nat) (parts:List (Nat×I)):Option (List I×Nat) :=
 match P.underlying t with
 | some (.slice e) =>
   match bD P e,zeroCells P e with
   | some s,some z=>if 0<s∧z.length=s∧len*s≤16777216 then (fC (fun i=>some (i*s,s)) (e8 len z) parts).map fun cs=>(cs,s) else none
   | _,_=>none
 | _=>none
def gY (i:Int) (len:Nat):Option Nat:=if 0≤i∧i<len then some i.toNat else none
def hY (t:TypeId) (x i:I):Option I :=
 match P.underlying t,x,i with
 | some (.slice e),.ax cells len _,.int _ n=>(bD P e).bind fun s=>(gY n len).map fun j=>.bU (cells.drop (j*s))
 | some (.slice e),.ref id off len _ _,.int _ n=>(bD P e).bind fun s=>(gY n len).map fun j=>.ptr id (off+j*s)
 | some (.array len e),.ptr id off,.int _ n=>(bD P e).bind fun s=>(gY n len).map fun j=>.ptr id (off+j*s)
 | some (.array len e),.bU cells,.int _ n=>(bD P e).bind fun s=>(gY n len).map fun j=>.bU (cells.drop (j*s))
 | _,_,_=>none
def jw (t:TypeId) (x:I) (f:Nat):Option I :=
 match P.underlying t,x with
 | some (.struct bm),.ptr id off=>(bm[f]?).bind fun g=>(bD P g.type).bind fun s=>if s=0 then none else some (.ptr id (off+g.offset))
 | some (.struct bm),.bU cells=>(bm[f]?).bind fun g=>(bD P g.type).bind fun s=>if s=0 then none else some (.bU (cells.drop g.offset))
 | _,_=>none
def iA (t:TypeId) (cs:List I) (off:Nat):Option I :=
 match dJ P t with
 | true=>(bD P t).bind fun s=>if off+s≤cs.length then some (.agg ((cs.drop off).take s)) else none
 | false=>match P.underlying t with
   | some _=>cs[off]?
   | none=>none
def ni (t:TypeId) (x:I) (f:Nat):Option I :=
 match P.underlying t,x with
 | some (.struct bm),.agg cs=>(bm[f]?).bind fun g=>iA P g.type cs g.offset
 | _,_=>none
def oQ (t:TypeId) (x i:I):Option I :=
 match P.underlying t,x,i with
 | some (.array len e),.agg cs,.int _ n=>(bD P e).bind fun s=>(gY n len).bind fun j=>iA P e cs (j*s)
 | some .string,.str b,.int _ n=>if 0≤n then (b[n.toNat]?).map fun x=>.int .u8 x.toNat else none
 | _,_,_=>none
def cH (x:Option I) (Ce most:Nat):Option Nat :=
 match x with
 | none=>some Ce
 | some (.int _ n)=>if 0≤n∧n≤most then some n.toNat else none
 | _=>none
def e2 (t:TypeId) (x:I) (lo hi gM:Option I):Option I :=
 match P.underlying t,x with
 | some (.slice e),.ax cells len c =>
   (bD P e).bind fun s =>
   match gM,hi with
   | none,_ =>
     (cH hi len len).bind fun h=>(cH lo 0 h).bind fun l =>
     some (.ax ((cells.drop (l*s)).take ((h-l)*s)) (h-l) (if c=.full∧h=len then .full else .shared))
   | some _,some _ =>
     (cH gM len len).bind fun m=>(cH hi m m).bind fun h=>(cH lo 0 h).bind fun l =>
     some (.ax ((cells.drop (l*s)).take ((h-l)*s)) (h-l) (if h=m then .full else .shared))
   | some _,none=>none
 | some (.slice e),.ref id off len cap sz =>
   (bD P e).bind fun s=>if s≠sz then none else
   match gM,hi with
   | none,_ =>
     (cH hi len len).bind fun h=>(cH lo 0 h).bind fun l =>
     if l<len then some (.ref id (off+l*s) (h-l) (cap.map (·-l)) sz) else some (.ax [] 0 .shared)
   | some _,some _ =>
     (cH gM len len).bind fun m=>(cH hi m m).bind fun h=>(cH lo 0 h).bind fun l =>
     if m=l then (if l=0 then some (.ref id off (h-l) (some (m-l)) sz) else none) else some (.ref id (off+l*s) (h-l) (some (m-l)) sz)
   | some _,none=>none
 | some (.array n e),.ptr id off =>
   (bD P e).bind fun s =>
   match gM with
   | none=>(cH hi n n).bind fun h=>(cH lo 0 h).bind fun l =>
     if n=l then none else some (.ref id (off+l*s) (h-l) (some (n-l)) s)
   | some _=>none
 | _,_=>none
def rowOf (H:List ar):I→Option (List I)
 | .ax cells _ _=>some cells
 | .ref id off len _ sz=>match H[id]? with
   | some (.cells l)=>if off+len*sz≤l.length then some (((l.drop off).take (len*sz)).map I.view) else none
   | _=>none
 | _=>none
def lenOf:I→Option Nat
 | .ax _ len _=>some len
 | .ref _ _ len _ _=>some len
 | _=>none
def fy (n bytes:Nat):Bool:=Nat.ble (n*bytes) 140737488355328 && Nat.ble 1 bytes
def appended (H:List ar) (x:I):Option (Nat×List I) :=
 match lenOf x,rowOf H x with
 | some m,some row=>some (m,row)
 | _,_=>none
def fc (H:List ar) (t dt:TypeId) (s x:I):Option I :=
 match P.underlying t with
 | some (.slice e) =>
   match bD P e,(P.info? e).map (·.bytes),(zeroCells P e) with
   | some sz,some bytes,some z =>
     match Nat.beq t dt with
     | true =>
       match appended H x with
       | some (m,new) =>
         if new.length=m*sz∧0<sz∧z.length=sz∧fy m bytes then
          match s with
          | .ax cells len c =>
            match c with
            | .shared=>if m=0 then some s else none
            | .full=>if m=0 then (if len=0 then some (.ax [] 0 (.uniq sz)) else some s)
              else if fy (len+m) bytes∧cells.length=len*sz then some (.ax (cells++new) (len+m) (.uniq sz)) else none
            | .own z=>if z=sz∧fy (len+m) bytes then some (.ax (cells++new) (len+m) (.own z)) else none
            | .uniq z=>if z=sz∧fy (len+m) bytes then some (.ax (cells++new) (len+m) (.uniq z)) else none
          | .ref id off len (some cap) oE =>
            if cap=len∧oE=sz∧0<m then (rowOf H (.ref id off len (some cap) oE)).bind fun fQ=>if fy (len+m) bytes then some (.ax (fQ++new) (len+m) (.uniq sz)) else none
            else none
          | _=>none
         else none
       | none=>none
     | false =>
       match P.underlying dt,x,s with
       | some (.int _),.int .i64 n,.ax [] 0 .full =>
         if 0<n∧fy n.toNat bytes∧0<sz∧z.length=sz then some (.ax (e8 n.toNat z) n.toNat (.uniq sz)) else none
       | _,_,_=>none
   | _,_,_=>none
 | _=>none
def ez (t:TypeId) (cs:List I) (off:Nat):Option I :=
 match dJ P t with
 | true=>(bD P t).bind fun s=>if off+s≤cs.length then some (.agg (((cs.drop off).take s).map I.view)) else none
 | false=>match P.underlying t with
   | some _=>(cs[off]?).map I.view
   | none=>none
def dS (H:List ar) (t:TypeId) (a:I):Option I :=
 match a with
 | .ptr id off=>match H[id]? with
   | some (.cells l)=>ez P t l off
   | some (.grow l _ _)=>ez P t l off
   | _=>none
 | .bU cells=>ez P t cells 0
 | _=>none
def fP (lo:Nat) (H:List ar) (id:Nat) (f:List I→Option (List I)):Option (List ar) :=
 if lo≤id then match H[id]? with
  | some (.cells l)=>(f l).map fun l'=>H.set id (.cells l')
  | _=>none
 else none
def hg (lo:Nat) (H:List ar) (id:Nat) (f:List I→Option (List I)):Option (List ar) :=
 if lo≤id then match H[id]? with
  | some (.cells l)=>(f l).map fun l'=>H.set id (.cells l')
  | some (.grow l g z)=>(f l).map fun l'=>H.set id (.grow l' g z)
  | _=>none
 else none
def iB (lo:Nat) (H:List ar) (t:TypeId) (a v:I):Option (List ar) :=
 match a,bD P t with
 | .ptr id off,some s=>match v.cells with
   | some vc=>hg lo H id fun l=>if vc.length=s∧off+s≤l.length then some (setCells off (vc.map I.settle) l) else none
   | none=>none
 | _,_=>none
def jm (t:TypeId) (n:Nat):Option (List I×Nat) :=
 match P.underlying t with
 | some (.slice e)=>match bD P e,zeroCells P e,(P.info? e).map (·.bytes) with
   | some s,some z,some bytes=>if z.length=s∧0<s∧fy n bytes then some (e8 n z,s) else none
   | _,_,_=>none
 | _=>none
def k0:List I→Int→Option Int
 | [],a=>some a
 | .int _ b::r,a=>k0 r (if b<a then b else a)
 | _::_,_=>none
def kZ:List I→Int→Option Int
 | [],a=>some a
 | .int _ b::r,a=>kZ r (if b > a then b else a)
 | _::_,_=>none
def n5:List I→Option I
 | .int k a::r=>(k0 r a).map (.int k)
 | _=>none
def n4:List I→Option I
 | .int k a::r=>(kZ r a).map (.int k)
 | _=>none
def g2 (cap:Option Nat) (n:Nat):hv:=match cap with | some c=>if c=n then .full else .shared | none=>.shared
def ec (f:I→Option I):List I→Option (List I)
 | []=>some []
 | x::xs=>match f x with
   | some y=>(ec f xs).map (y::·)
   | none=>none
def mapM (f:I→Option I):List (Nat×I×I)→Option (List (Nat×I×I))
 | []=>some []
 | (i,k,v)::xs=>match f k,f v with
   | some k',some bn=>(mapM f xs).map ((i,k',bn)::·)
   | _,_=>none
def bJ (H:List ar) (lo id0 n:Nat):Nat→I→Option I
 | 0,_=>none
 | d+1,B4 =>
   match B4 with
   | .ax cells len c=>(ec (bJ H lo id0 n d) cells).map fun cs=>.ax cs len c
   | .bU cells=>(ec (bJ H lo id0 n d) cells).map .bU
   | .agg cs=>(ec (bJ H lo id0 n d) cs).map .agg
   | .tuple cs=>(ec (bJ H lo id0 n d) cs).map .tuple
   | .func f a b=>match ec (bJ H lo id0 n d) a,ec (bJ H lo id0 n d) b with
     | some a,some b=>some (.func f a b)
     | _,_=>none
   | .ptr id off=>if id<lo then some (.ptr id off) else if id=id0 then some (.ptr n off) else
     match H[id]? with
     | some (.cells l)=>(ec (bJ H lo id0 n d) ((l.drop off).map I.view)).map .bU
     | _=>none
   | .ref id off len cap sz=>if id<lo then some (.ref id off len cap sz) else if id=id0 then some (.ref n off len cap sz) else
     match rowOf H (.ref id off len cap sz) with
     | some row=>(ec (bJ H lo id0 n d) row).map fun cs=>.ax cs len (g2 cap len)
     | none=>none
   | .yield id=>if id<lo then some (.yield id) else none
   | .map id=>if id<lo then some (.map id) else if id=id0 then some (.map n) else none
   | .raw _ _ _=>none
   | .cZ _ _ _ _ _=>none
   | .cl _ _ _ _=>none
   | v=>some v
def eO (parts:List (Nat×Operand)) (vs:List I):List (Nat×I):=(parts.map (·.1)).zip vs
def dr (vs:List I) (i:Nat):Option Operand→Option I
 | none=>none
 | some _=>vs[i]?
def xy:List I→Option I
 | [.bool c,a,b]=>some (match c with | true=>a | false=>b)
 | _=>none
def oa:List I→Option I
 | [.ptr id off]=>some (.ptr id off)
 | [.bU cells]=>some (.bU cells)
 | _=>none
def gj (f:I→I→Option I):List I→Option I
 | [x,y]=>f x y
 | _=>none
def e7 (f:I→Option I):List I→Option I
 | [x]=>f x
 | _=>none
def lI (src dst:TypeId):I→Option I
 | .int _ n=>match P.underlying src,P.underlying dst with | some _,some (.int k)=>some (.int k (k.wrap n)) | _,_=>none
 | _=>none
def mU (fn:Fn) (n m:Nat) (vs:List I):Option I :=
 match fn with
 | .func f=>if vs.length=n+m then some (.func f (vs.take n) (vs.drop n)) else none
 | _=>none
def ek (t:TypeId) (l h m:Option Operand):List I→Option I
 | x::vs =>
   let i1:=match l with | some _=>1 | none=>0
   let i2:=match h with | some _=>i1+1 | none=>i1
   match x,l,h,m with
   | .ax cells len (.uniq z),none,h,none =>
     match P.underlying t with
     | some (.slice e)=>(bD P e).bind fun _=>(cH (dr vs 0 h) len len).map fun n=>.ax (cells.take (n*z)) n (.uniq z)
     | _=>none
   | .ax cells len (.own z),some lo,none,none =>
     match P.underlying t with
     | some (.slice e)=>(bD P e).bind fun s=>if s=z then (cH (dr vs 0 (some lo)) 0 len).map fun l=>.ax (cells.drop (l*z)) (len-l) (.own z) else none
     | _=>none
   | .cl id gid len z,none,h,none =>
     match P.underlying t with
     | some (.slice e)=>(bD P e).bind fun _=>(cH (dr vs 0 h) len len).map fun n=>.cl id gid n z
     | _=>none
   | x,l,h,m=>e2 P t x.view (dr vs 0 l) (dr vs i1 h) (dr vs i2 m)
 | []=>none
def nh (i:Nat):I→Option I
 | .tuple ws=>ws[i]?
 | _=>none
def iR:Operand→Bool
 | .const (.slice none 0 0)=>true
 | _=>false
def ng (op:BinOp) (t:TypeId) (x:I):Option I :=
 match P.underlying t with
 | some (.slice _) =>
   match x with
   | .ax _ (_+1) _ | .ref ..=>match op with
     | .eql=>some (.bool false)
     | .neq=>some (.bool true)
     | _=>none
   | .ax [] 0 _=>match op with
     | .eql | .neq=>some .dw
     | _=>none
   | _=>none
 | _=>none
def cx (o:Oper) (vs:List I):Option I :=
 match o.op with
 | .pick _ _ _=>xy vs
 | .build t parts=>lH P t (eO parts.toList vs)
 | .buildSlice t len parts=>(iz P t len (eO parts.toList vs)).map fun r=>.ax r.1 len (.uniq r.2)
 | .nilCheck _=>oa vs
 | .binOp op t _ y _=>match iR y with
   | true=>match vs with
     | [x,_]=>ng P op t x
     | _=>none
   | false=>gj (fq P op t) vs
 | .unOp op _ _=>e7 (kn op) vs
 | .convert src dst _=>e7 (lI P src dst) vs
 | .makeFunc fn first captured=>mU fn first.size captured.size vs
 | .slice t _ l h m=>ek P t l h m vs
 | .fieldAddr t _ f=>e7 (fun x=>jw P t x f) vs
 | .field t _ f=>(e7 (fun x=>ni P t x f) vs).map I.view
 | .indexAddr t _ _=>gj (hY P t) vs
 | .index t _ _=>(gj (oQ P t) vs).map I.view
 | .extract _ i=>(e7 (nh i) vs).map I.view
 | _=>none
def dK (o:Oper) (mode:Nat):Bool :=
 match o.op with
 | .move _ | .assign _ | .store _ _ _ | .box _ _ | .call _ | .slice _ _ _ _ _=>true
 | .build _ _=>match mode with | 0=>false | _=>true
 | _=>false
def yP (lo:Nat):I→Option Nat
 | .ptr id _=>if lo≤id then some id else none
 | .ref id _ _ _ _=>if lo≤id then some id else none
 | .map id=>if lo≤id then some id else none
 | _=>none
def Co (lo:Nat):I→Option Nat
 | .tuple vs=>vs.findSome? (yP lo)
 | v=>yP lo v
def ke (H:List ar):I→I
 | .ref id off len cap sz=>match rowOf H (.ref id off len cap sz) with
   | some row=>.ax row len .shared
   | none=>.ref id off len cap sz
 | v=>v
def hP (H:List ar):I→I
 | .ptr id off=>match H[id]? with
   | some (.cells l)=>.bU (((l.drop off).map I.view).map (ke H))
   | _=>.ptr id off
 | .ref id off len cap sz=>ke H (.ref id off len cap sz)
 | v=>v
def ir (H:List ar):I→I
 | .ptr id off=>hP H (.ptr id off)
 | .ref id off len cap sz=>hP H (.ref id off len cap sz)
 | .func f a b=>.func f (a.map (hP H)) (b.map (hP H))
 | v=>v
def gS:I→Bool
 | .bool _ | .int _ _ | .str _=>true
 | _=>false
def fz:I→Bool
 | .bool _ | .int _ _ | .str _=>true
 | .tuple vs=>vs.all gS
 | .ax cells _ (.uniq _)=>cells.all gS
 | _=>false
def e3 (C:b8) (lo mode:Nat) (b0:fb) (args:List I) (H:List ar):Option (I×List ar) :=
 match mode with
 | 0=>(C b0 args H H.length).bind fun r=>(bJ r.2 H.length r.2.length 0 8 r.1).map fun v=>(v,H)
 | 1=>C b0 args H lo
 | 3=>match b0,args.all (cj 8) with
   | .fn _,true=>(C b0 (args.map I.cr) [] 0).bind fun r=>(bJ r.2 0 r.2.length 0 8 r.1).map fun v=>(v.cr,H)
   | _,_=>none
 | 6=>match b0,(args.map (ir H)).all (cj 8) with
   | .fn _,true=>(C b0 ((args.map (ir H)).map I.cr) [] 0).bind fun r=>(bJ r.2 0 r.2.length 0 8 r.1).bind fun v=>match fz v with
     | true=>some (v.cr,H)
     | false=>none
   | _,_=>none
 | 7=>match b0,args with
   | .fn _,[.ptr id 0]=>if lo≤id then match H[id]? with
     | some (.cells l)=>match cj 8 (.bU (l.map I.view)) with
       | true=>(C b0 [(I.bU (l.map I.view)).cr] [] 0).bind fun r=>(bJ r.2 0 r.2.length 0 8 r.1).map fun v=>(v.cr,H.set id .dead)
       | false=>none
     | _=>none else none
   | _,_=>none
 | 4=>(C b0 (args.map I.cr) H H.length).bind fun r=>(bJ r.2 H.length r.2.length 0 8 r.1).map fun v=>(v.cr,H)
 | _=>(C b0 args H H.length).bind fun r =>
   match Co H.length r.1 with
   | none=>(bJ r.2 H.length r.2.length 0 8 r.1).map fun v=>(v,H)
   | some id0 =>
     match r.2[id0]? with
     | some (.cells l)=>if H.length≤id0 then
       match ec (bJ r.2 H.length id0 H.length 8) l,bJ r.2 H.length id0 H.length 8 r.1 with
       | some l',some v=>some (v,H++[.cells l'])
       | _,_=>none
       else none
     | some (.map es clock)=>if H.length≤id0 then
       match mapM (bJ r.2 H.length id0 H.length 8) es,bJ r.2 H.length id0 H.length 8 r.1 with
       | some es',some v=>some (v,H++[.map es' clock])
       | _,_=>none
       else none
     | _=>none
def kq (C:b8) (lo mode:Nat) (f:I) (args:List I) (H:List ar):Option (I×List ar) :=
 match f with
 | .func k first cap=>e3 C lo mode (.fn k) (first++args++cap) H
 | .yield l=>e3 C lo mode (.yield l) args H
 | _=>none
abbrev Out:=Option (I×List ar)
def eY (lo mode:Nat) (t:TypeId) (x:Operand) (H:List ar):List I→Out
 | [v] =>
   match mode with
   | 0=>match iR x,P.underlying t with
     | true,some (.slice e)=>(bD P e).map fun z=>(.ax [] 0 (.uniq z),H)
     | _,_=>some (v,H)
   | 1=>match v with
     | .ax cells len (.uniq z)=>if len=0 then some (v,H) else some (.ref H.length 0 len none z,H++[.cells cells])
     | .ax [] 0 .full=>some (v,H)
     | .ref ..=>some (v,H)
     | _=>none
   | 4=>match v with
     | .cl id gid n z=>if lo≤id then match H[id]? with
       | some (.grow l g cT)=>if g=gid∧cT=z∧n*z≤l.length∧(l.take (n*z)).all I.plain=true then some (.ax (l.take (n*z)) n (.uniq z),H.set id .dead) else none
       | _=>none else none
     | _=>some (v,H)
   | _=>match v with
     | .ref id _ _ cap _=>if lo≤id then (rowOf H v).bind fun row=>(lenOf v).map fun n =>
       (.ax row n (g2 cap n),H.set id .dead) else none
     | .cl id gid n z=>if lo≤id then match H[id]? with
       | some (.grow l g cT)=>if l.length=n*z then some (.ax (l.map I.view) n .shared,H.set id .dead) else none
       | _=>none else none
     | _=>some (v.view,H)
 | _=>none
def dP (lo mode:Nat) (t:TypeId) (H:List ar):List I→Out
 | [a] =>
   match mode with
   | 0=>(dS P H t a).map (·,H)
   | 3=>match a with
     | .bU cells=>(ez P t cells 0).map (·,H)
     | _=>none
   | 5=>match P.underlying t,a with
     | some (.slice _),.ptr id off=>match H[id]? with
       | some (.cells l)=>match l[off]? with
         | some (.cl i g n z)=>some (.cl i g n z,H)
         | some (.ax [] 0 .full)=>some (.ax [] 0 .full,H)
         | _=>none
       | _=>none
     | _,_=>none
   | _=>match P.underlying t,a with
     | some (.slice _),.ptr id off=>if lo≤id then match H[id]? with
       | some (.cells l)=>match l[off]? with
         | some (.ax c n (.own z))=>some (.ax c n (.own z),H.set id (.cells (l.set off (.ax c n .shared))))
         | some (.raw c n z)=>if mode=2 then (if n=0 then none else some (.ref H.length 0 n none z,H.set id (.cells (l.set off (.ref H.length 0 n none z)))++[.cells c]))
           else some (.ax c n (.uniq z),H.set id (.cells (l.set off .junk)))
         | some v=>some (v.view,H)
         | _=>none
       | some (.grow l g cT)=>match l[off]? with
         | some (.ax c n (.own z))=>some (.ax c n (.own z),H.set id (.grow (l.set off (.ax c n .shared)) g cT))
         | some (.ax c n .full)=>some (.ax c n .full,H)
         | _=>none
       | _=>none else none
     | _,_=>none
 | _=>none
def km (lo:Nat) (H:List ar) (t:TypeId) (a v:I):Option (List ar) :=
 match a,v,bD P t with
 | .ptr id off,.ax c n (.uniq z),some 1=>if c.all gS=true∧n≠0 then fP lo H id fun l=>if off<l.length then some (l.set off (.raw c n z)) else none else none
 | _,_,_=>none
def lJ (lo:Nat) (H:List ar) (t:TypeId) (a v:I):Option (List ar) :=
 match a,v,bD P t with
 | .ptr id off,.cZ as c n z bs,some s=>if as.length+1+bs.length=s then fP lo H id fun l=>if off+s≤l.length then some (setCells off (as++.ax c n (.own z)::bs) l) else none else none
 | _,_,_=>none
def gP (lo mode:Nat) (t:TypeId) (H:List ar):List I→Out
 | [a,v]=>match mode with
   | 0=>(iB P lo H t a v).map fun H'=>(.junk,H')
   | 2=>(lJ P lo H t a v).map fun H'=>(.junk,H')
   | _=>(km P lo H t a v).map fun H'=>(.junk,H')
 | _=>none
def gO (mode:Nat) (H:List ar):List I→Out
 | [v]=>match mode with
   | 0=>v.cells.map fun vc=>(.ptr H.length 0,H++[.cells (vc.map I.settle)])
   | _=>match v.cells with
     | some vc=>match vc.all I.plain with
       | true=>some (.bU vc,H)
       | false=>none
     | none=>none
 | _=>none
def k3 (mode:Nat) (t:TypeId) (H:List ar):Out :=
 match mode with
 | 0=>(zeroCells P t).map fun z=>(.ptr H.length 0,H++[.cells z])
 | _=>match zeroCells P t,P.underlying t with
   | some [.ax [] 0 .full],some (.slice e)=>(bD P e).map fun s=>(.ptr H.length 0,H++[.cells [.ax [] 0 (.own s)]])
   | _,_=>none
def j6 (mode:Nat) (t:TypeId) (H:List ar):List I→Out
 | [.int _ n,.int _ c] =>
   if 0≤n∧n≤c then
    match mode with
    | 0=>(jm P t c.toNat).map fun r=>(.ref H.length 0 n.toNat (some c.toNat) r.2,H++[.cells r.1])
    | _=>if n=c∧0≤n then (jm P t c.toNat).map fun r=>(.ax r.1 n.toNat (.uniq r.2),H) else none
   else none
 | _=>none
def kU (t:TypeId):Bool:=match P.underlying t with
 | some (.int _)=>true
 | some (.struct bm)=>gL P bm.toList 0 && !P.stoodInHeld t
 | _=>false
def gE:I→I→Option Bool
 | .int k a,.int k' b=>if k=k' then some (a == b) else none
 | .agg xs,.agg ys=>dM xs ys
 | _,_=>none
def isKey (t:TypeId) (k:I):Bool:=match P.underlying t,k with
 | some (.int q),.int fT _=>q == fT
 | some (.struct bm),.agg cs=>cs.length == bm.size
 | _,_=>false
def fG (k:I):List (Nat×I×I)→Nat→Option (Option Nat)
 | [],_=>some none
 | (_,k',_)::r,i=>match gE k k' with
   | some true=>some (some i)
   | some false=>fG k r (i+1)
   | none=>none
def j1 (t:TypeId):Option (TypeId×TypeId):=match P.underlying t with
 | some (.map k e)=>match kU P k with | true=>some (k,e) | false=>none
 | _=>none
def oK (t:TypeId):Option I:=((P.info? t).bind (·.zero)).bind fun v=>match v with
 | .agg cs=>match cs.toList.all (·.oneCell') with | true=>some (.agg (cs.toList.map hz)) | false=>none
 | v=>some (hz v)
def k6 (t:TypeId) (r:Option Operand) (H:List ar):Out :=
 match r,P.underlying t with
 | none,some (.map _ _)=>some (.map H.length,H++[.map [] 0])
 | _,_=>none
def iY (lo:Nat) (t:TypeId) (H:List ar):List I→Out
 | [.map id,k,v]=>match j1 P t with
   | some (ea,_)=>match isKey P ea k with
     | true=>if lo≤id then match H[id]? with
       | some (.map es clock)=>match fG k es 0 with
         | some (some i)=>some (.junk,H.set id (.map (es.modify i fun e=>(e.1,k,v)) clock))
         | some none=>some (.junk,H.set id (.map (es++[(clock,k,v)]) (clock+1)))
         | none=>none
       | _=>none else none
     | false=>none
   | none=>none
 | _=>none
def ih (t:TypeId) (ok:Bool) (H:List ar):List I→Out
 | [.map id,k]=>match j1 P t with
   | some (ea,iD)=>match isKey P ea k,H[id]? with
     | true,some (.map es _)=>match fG k es 0 with
       | some r =>
         (match r.bind fun i=>es[i]? with | some e=>some e.2.2 | none=>oK P iD).map fun v =>
          (if ok then .tuple [v,.bool r.isSome] else v,H)
       | none=>none
     | _,_=>none
   | none=>none
 | _=>none
def hK (lo:Nat) (ts:Array TypeId) (H:List ar):List I→Out
 | [.map id,k]=>match (ts[0]?).bind (j1 P) with
   | some (ea,_)=>match isKey P ea k with
     | true=>if lo≤id then match H[id]? with
       | some (.map es clock)=>match fG k es 0 with
         | some (some i)=>some (.tuple [],H.set id (.map (es.eraseIdx i) clock))
         | some none=>some (.tuple [],H)
         | none=>none
       | _=>none else none
     | false=>none
   | none=>none
 | _=>none
def k7 (t:TypeId) (H:List ar):List I→Out
 | [.map id]=>match P.underlying t,H[id]? with
   | some (.map _ _),some (.map _ clock)=>some (.ptr H.length 0,H++[.iter id clock [] clock])
   | _,_=>none
 | _=>none
def k5 (H:List ar):List I→Out
 | [.ptr r 0]=>match H[r]? with
   | some (.iter m _ seen kf)=>match seen.getLast?,H[m]? with
     | some gn,some (.map es clock)=>if clock=kf then match es.find? (fun e=>e.1 == gn) with
       | some e=>some (.tuple [e.2.1,e.2.2],H)
       | none=>none else none
     | _,_=>none
   | _=>none
 | _=>none
def iS (t:Option TypeId):Bool:=match t.bind P.underlying with | some (.slice _)=>true | _=>false
def hk (ts:Array TypeId) (H:List ar):List I→Out
 | [x]=>match x with
   | .ax _ n _=>match iS P ts[0]? with | true=>some (.int .i64 n,H) | false=>none
   | .ref _ _ n _ _=>match iS P ts[0]? with | true=>some (.int .i64 n,H) | false=>none
   | .map id=>match (ts[0]?).bind P.underlying,H[id]? with | some (.map _ _),some (.map es _)=>some (.int .i64 es.length,H) | _,_=>none
   | _=>match (ts[0]?).bind P.underlying with | some (.array n _)=>some (.int .i64 n,H) | _=>none
 | _=>none
def j4 (ts:Array TypeId) (H:List ar):List I→Out
 | [.ax _ n .full]=>match iS P ts[0]? with | true=>some (.int .i64 n,H) | false=>none
 | [.ref _ _ _ (some n) _]=>match iS P ts[0]? with | true=>some (.int .i64 n,H) | false=>none
 | _=>none
def j5 (lo:Nat) (ts:Array TypeId) (H:List ar):List I→Out
 | [.ref id off len _ sz,x]=>match (ts[0]?).bind P.underlying with
   | some (.slice e)=>match bD P e,lenOf x,rowOf H x with
     | some s,some m,some row=>if s=sz∧row.length=m*sz then
       (fP lo H id fun l=>if off+len*sz≤l.length then some (setCells off (row.take (min m len*sz)) l) else none).map fun H'=>(.int .i64 (min m len:Nat),H') else none
     | _,_,_=>none
   | _=>none
 | _=>none
def k4 (lo:Nat) (ts:Array TypeId) (H:List ar):List I→Out
 | [.ref id off len _ sz]=>match (ts[0]?).bind P.underlying with
   | some (.slice e)=>match bD P e,zeroCells P e with
     | some s,some z=>if s=sz∧z.length=s∧0<s then
       (hg lo H id fun l=>if off+len*sz≤l.length then some (setCells off (e8 len z) l) else none).map fun H'=>(.tuple [],H') else none
     | _,_=>none
   | _=>none
 | [.ax [] 0 _]=>match iS P ts[0]? with | true=>some (.tuple [],H) | false=>none
 | _=>none
def iW (ts:Array TypeId) (H:List ar):List I→Out
 | [s,x]=>match ts.toList with
   | [t,dt]=>(fc P H t dt s x).map (·,H)
   | _=>none
 | _=>none
def ig (lo:Nat) (ts:Array TypeId) (H:List ar):List I→Out
 | [s,x]=>match ts.toList with
   | [t,dt]=>match s with
     | .ax _ _ _=>match fc P H t dt s x with
       | some (.ax cells n (.uniq z))=>if n=0 then none else some (.cl H.length (H.length+1) n z,H++[.grow cells (H.length+1) z,.dead])
       | _=>none
     | .cl id gid len z=>if lo≤id then match P.underlying t,H[id]? with
       | some (.slice e),some (.grow l g cT)=>match bD P e,(P.info? e).map (·.bytes),zeroCells P e,appended H x with
         | some sz,some bytes,some gq,some (m,new) =>
           if t=dt∧g=gid∧cT=z∧z=sz∧l.length=len*z∧new.length=m*sz∧0<sz∧0<m∧gq.length=sz∧fy m bytes=true∧fy (len+m) bytes=true then
            some (.cl H.length (H.length+1) (len+m) z,H.set id .dead++[.grow (l++new) (H.length+1) z,.dead])
           else none
         | _,_,_,_=>none
       | _,_=>none else none
     | _=>none
   | _=>none
 | _=>none
def je (lo:Nat) (H:List ar):List I→List ar
 | .cl id _ len z::_=>match H[id]? with
   | some (.grow l g cT)=>match Nat.blt (len*z) l.length && Nat.ble lo id with
     | true=>H.set id (.grow (l.take (len*z)) g cT)
     | false=>H
   | _=>H
 | _=>H
def iX (lo:Nat) (ts:Array TypeId) (H:List ar) (vs:List I):Out:=ig P lo ts (je lo H vs) vs
def eA (lo:Nat) (b:Builtin) (ts:Array TypeId) (H:List ar) (vs:List I):Out :=
 match b with
 | .append=>iW P ts H vs
 | .len=>hk P ts H vs
 | .cap=>j4 P ts H vs
 | .copy=>j5 P lo ts H vs
 | .clear=>k4 P lo ts H vs
 | .delete=>hK P lo ts H vs
 | .min=>(n5 vs).map (·,H)
 | .max=>(n4 vs).map (·,H)
 | _=>none
def hJ (C:b8) (lo mode:Nat) (H:List ar):List I→Out
 | f::args=>kq C lo mode f args H
 | []=>none
def a5 (C:b8) (lo:Nat) (o:Oper) (mode:Nat) (vs:List I) (H:List ar):Out :=
 match o.op with
 | .move x=>eY P lo mode o.type x H vs
 | .assign x=>eY P lo mode o.type x H vs
 | .load t _=>dP P lo mode t H vs
 | .store t _ _=>gP P lo mode t H vs
 | .box _ _=>gO mode H vs
 | .alloc t=>k3 P mode t H
 | .build t parts=>match mode with
   | 0=>(cx P o vs).map (·,H)
   | _=>(kl P t (eO parts.toList vs)).map (·,H)
 | .buildSlice t len parts=>match mode with
   | 0=>(cx P o vs).map (·,H)
   | _=>(iz P t len (eO parts.toList vs)).map fun r=>(.ax r.1 len .full,H)
 | .makeSlice t _ _=>j6 P mode t H vs
 | .makeMap t r=>k6 P t r H
 | .mapUpdate t _ _ _=>iY P lo t H vs
 | .lookup t _ _ ok=>ih P t ok H vs
 | .range t _=>k7 P t H vs
 | .entry _=>k5 H vs
 | .call c=>match c.callee with
   | .builtin b=>match b with
     | .append=>match mode with
       | 0=>eA P lo b c.argTypes H vs
       | _=>iX P lo c.argTypes H vs
     | _=>eA P lo b c.argTypes H vs
   | .value _=>hJ C lo mode H vs
   | .invoke _ _=>none
 | _=>(cx P o vs).map (·,H)
def put (T:List I):Option Tmp→I→List I
 | some d,v=>gT T d v
 | none,_=>T
def inPlace (o:Oper) (mode:Nat) (T:List I) (v:I):List I :=
 match mode with
 | 0=>T
 | 4=>T
 | _=>match o.op with
   | .move (.tmp t) | .assign (.tmp t)=>gT T t v.view
   | _=>T
def execOp (C:b8) (lo:Nat) (o:Oper) (an:b3) (s:a7):Option a7 :=
 let r:=rd s.T an.takes (opsOf o)
 let vs:=match dK o an.mode with | true=>r.1 | false=>r.1.map I.view
 (a5 P C lo o an.mode vs s.H).map fun x=>⟨put (inPlace o an.mode r.2 x.1) o.dst x.1,x.2⟩
def eB (ops:Array Oper) (o:Oper) (T:List I):Option Bool :=
 match o.guard with
 | none=>some true
 | some (j,want)=>match (ops[j]?).bind (·.dst) with
   | some d=>match c5 T d with
     | .bool b=>some (b == want)
     | .tuple []=>some false
     | _=>none
   | none=>none
def eR (C:b8) (lo:Nat) (ops:Array Oper):List Oper→List b3→a7→Option a7
 | [],_,s=>some s
 | o::rest,as,s =>
   match eB ops o s.T with
   | some true=>(execOp P C lo o (as.headD {}) s).bind (eR C lo ops rest as.tail)
   | some false=>eR C lo ops rest as.tail ⟨put s.T o.dst (.tuple []),s.H⟩
   | none=>none
def ic (f:a7→Option (cA×a7)):Nat→a7→Option (cA×a7)
 | 0,_=>none
 | n+1,s=>match f s with
   | some (.normal,aF)=>ic f n aF
   | r=>r
def inLoop (H:List ar):Option Nat→Bool
 | none=>true
 | some l=>match H[l]? with
   | some (.loop ..)=>true
   | _=>false
def exec (A:dd) (C:b8) (fn:FuncId) (lo d:Nat) (rl:Option Nat):Code→Nat→a7→Option (cA×a7)
 | .skip,_,s=>some (.normal,s)
 | .region id ops draw,_,s=>match kg A id draw with
   | some _=>none
   | none=>(eR P C lo ops ops.toList (A.ops.getD id []) (e5 A.ib id s)).map fun aF=>(.normal,aF)
 | .seq a b,a2,s=>match exec A C fn lo d rl a a2 s with
   | some (.normal,aF)=>exec A C fn lo d rl b a2 aF
   | r=>r
 | .cond c a b,a2,s=>match aA s.T c with
   | .bool true=>exec A C fn lo d rl a a2 s
   | .bool false=>exec A C fn lo d rl b a2 s
   | _=>none
 | .block id body,_,s=>match exec A C fn lo d rl body id s with
   | some (.exit bA,aF)=>if bA=id then some (.normal,aF) else some (.exit bA,aF)
   | r=>r
 | .loop body,a2,s=>ic (fun aF=>exec A C fn lo d rl body a2 (e5 A.ia a2 aF)) d s
 | .exit id,_,s=>some (.exit id,s)
 | .ret,_,s=>some (.ret,s)
 | .scope body,a2,s=>exec A C fn lo d rl body a2 s
 | .label _,_,s=>some (.normal,s)
 | .rangeFunc f params assign body,_,s =>
   match inLoop s.H rl,aA s.T f with
   | true,.func k first cap =>
     match C (.fn k) (first++[.yield s.H.length]++cap) (s.H++[.loop .ready none fn (s.T.map I.view) params.toList assign body A]) lo with
     | some (_,H')=>match H'[s.H.length]? with
       | some (.loop st cF _ _ _ _ _ _) =>
         if st=.busy then none else
         match cF with
         | none=>some (.normal,⟨s.T.map I.settle,H'.set s.H.length .dead⟩)
         | some .ret=>some (.ret,⟨s.T.map I.settle,H'.set s.H.length .dead⟩)
         | some (.exit id)=>some (.exit id,⟨s.T.map I.settle,H'.set s.H.length .dead⟩)
         | _=>none
       | _=>none
     | none=>none
   | _,_=>none
 | _,_,_=>none
def fo (H:List ar) (T:List I):List ResultVar→Option (List I)
 | []=>some []
 | .tmp t::r=>(fo H T r).map (c5 T t::·)
 | .cell a t::r=>match dS P H t (c5 T a),fo H T r with
   | some v,some vs=>some (v::vs)
   | _,_=>none
def hl:List I→I
 | [v]=>v
 | vs=>.tuple (vs.map I.view)
def iq:List Nat→List I→List I→Option (List I)
 | [],[],T=>some T
 | p::bo,v::vs,T=>iq bo vs (gT T p v)
 | _,_,_=>none
def f_ (A:FuncId→dd) (tab:b8):Nat→b8
 | 0,_,_,_,_=>none
 | d+1,.fn k,args,H,lo =>
   match tab (.fn k) args H lo with
   | some r=>some r
   | none =>
   match (A k).bad with
   | true=>none
   | false =>
   match P.funcs[k]? with
   | some f=>match f.body with
     | some c =>
       match exec P (A k) (f_ A tab d) k lo d none c 0 ⟨args++List.replicate (f.ntmps-args.length) .junk,H⟩ with
       | some (.normal,s) | some (.ret,s)=>(fo P s.H s.T f.results.toList).map fun vs=>(hl vs,s.H)
       | _=>none
     | none=>none
   | none=>none
 | d+1,.yield l,args,H,lo =>
   if l<lo then none else
   match H[l]? with
   | some (.loop .ready _ fn T params assign body an) =>
     match iq params args T with
     | some ba =>
       match exec P an (f_ A tab d) fn lo d (some l) assign 0 ⟨ba,H⟩ with
       | some (.normal,s) =>
         match s.H[l]? with
         | some (.loop .ready cF fn T params assign lN iC) =>
           match exec P an (f_ A tab d) fn lo d (some l) body 0 ⟨s.T,s.H.set l (.loop .busy cF fn T params assign lN iC)⟩ with
           | some (e,s2) =>
             match s2.H[l]? with
             | some (.loop .busy _ fn T params assign lN iC) =>
               match e with
               | .normal=>some (.bool true,s2.H.set l (.loop .ready none fn T params assign lN iC))
               | .ret=>some (.bool false,s2.H.set l (.loop .done (some .ret) fn T params assign lN iC))
               | .exit id=>some (.bool false,s2.H.set l (.loop .done (some (.exit id)) fn T params assign lN iC))
             | _=>none
           | none=>none
         | _=>none
       | _=>none
     | none=>none
   | _=>none
end
end
end Go.Proofs.YtfakoboiahbhaaaGreat.Ab


namespace Go.Proofs.YtfakoboiahbhaaaGreat.Ab
open Go
inductive aH where
 | slot (i:Nat)
 | arg (i:Nat)
 | res
 | obj (id:Nat)
 | cell (id j:Nat)
 | mark
 deriving DecidableEq
inductive Rel (J:List Nat) (S:Nat→Nat→Prop) (w:World):I→Value→Prop
 | junk (v:Value):Rel J S w .junk v
 | bool (b:Bool):Rel J S w (.bool b) (.bool b)
 | dw (b:Bool):Rel J S w .dw (.bool b)
 | int (k:IntKind) (n:Int):Rel J S w (.int k n) (.int k n)
 | str (s:ByteArray):Rel J S w (.str s) (.string s)
 | eJ:Rel J S w .eJ (.pointer none)
 | ptr (id off b:Nat) (h:J[id]?=some b):Rel J S w (.ptr id off) (.pointer (some ⟨b,off,none⟩))
 | bU (cells:List I) (b o:Nat) (f:Nat→Value)
   (h:∀ (j:Nat) (u:I),cells[j]?=some u→S b (o+j)∧w.cell? ⟨b,o+j,none⟩=some (f j)∧u.plain=true∧(f j).oneCell'=true)
   (aj:∀ (j:Nat) (u:I),cells[j]?=some u→Rel J S w u (f j)):Rel J S w (.bU cells) (.pointer (some ⟨b,o,none⟩))
 | b2 (c:hv) (a:Option Addr):Rel J S w (.ax [] 0 c) (.slice a 0 0)
 | ax (cells:List I) (len:Nat) (c:hv) (b o cap:Nat) (f:Nat→Value)
   (al:c=.full→cap=len) (hle:len≤cap) (hu:∀ z,c≠.uniq z)
   (h:∀ (j:Nat) (u:I),cells[j]?=some u→S b (o+j)∧w.cell? ⟨b,o+j,none⟩=some (f j)∧u.plain=true∧(f j).oneCell'=true)
   (aj:∀ (j:Nat) (u:I),cells[j]?=some u→Rel J S w u (f j)):Rel J S w (.ax cells len c) (.slice (some ⟨b,o,none⟩) len cap)
 | cK (cells:List I) (len z b o cap:Nat):Rel J S w (.ax cells len (.uniq z)) (.slice (some ⟨b,o,none⟩) len cap)
 | raw (cells:List I) (len z b o cap:Nat):Rel J S w (.raw cells len z) (.slice (some ⟨b,o,none⟩) len cap)
 | ref (id off len:Nat) (c:Option Nat) (sz b cap:Nat) (h:J[id]?=some b) (al:∀ n,c=some n→cap=n) (hle:len≤cap) :
   Rel J S w (.ref id off len c sz) (.slice (some ⟨b,off,none⟩) len cap)
 | cl (id gid len z b cap:Nat) (h:J[id]?=some b) (aO:J[gid]?=some cap) (hle:len≤cap):Rel J S w (.cl id gid len z) (.slice (some ⟨b,0,none⟩) len cap)
 | func (f:FuncId) (as bs:List I) (vs ws:Array Value) (ad:vs.size=as.length) (af:ws.size=bs.length)
   (bS:∀ u∈as,u.plain=true) (bZ:∀ u∈bs,u.plain=true)
   (aT:∀ (j:Nat) (u:I) (v:Value),as[j]?=some u→vs[j]?=some v→Rel J S w u v)
   (r2:∀ (j:Nat) (u:I) (v:Value),bs[j]?=some u→ws[j]?=some v→Rel J S w u v):Rel J S w (.func f as bs) (.func (.func f) vs ws)
 | yield (id b:Nat) (h:J[id]?=some b):Rel J S w (.yield id) (.func (.yield b) #[] #[])
 | map (id b:Nat) (h:J[id]?=some b):Rel J S w (.map id) (.map (some b))
 | agg (as:List I) (vs:Array Value) (h:vs.size=as.length) (p:∀ u∈as,u.plain=true) (one:∀ v∈vs.toList,v.oneCell'=true)
   (r:∀ (j:Nat) (u:I) (v:Value),as[j]?=some u→vs[j]?=some v→Rel J S w u v):Rel J S w (.agg as) (.agg vs)
 | tuple (as:List I) (vs:Array Value) (h:vs.size=as.length) (p:∀ u∈as,u.plain=true)
   (r:∀ (j:Nat) (u:I) (v:Value),as[j]?=some u→vs[j]?=some v→Rel J S w u v):Rel J S w (.tuple as) (.tuple vs)
 | cZ (as c:List I) (n z:Nat) (bs:List I) (vs:Array Value) (h:vs.size=as.length+1+bs.length) (lb:∀ u∈as,u.plain=true) (ld:∀ u∈bs,u.plain=true) (one:∀ v∈vs.toList,v.oneCell'=true)
   (oe:∀ (j:Nat) (u:I) (v:Value),as[j]?=some u→vs[j]?=some v→Rel J S w u v)
   (ro:∀ v,vs[as.length]?=some v→Rel J S w (.ax c n (.own z)) v)
   (og:∀ (j:Nat) (u:I) (v:Value),bs[j]?=some u→vs[as.length+1+j]?=some v→Rel J S w u v):Rel J S w (.cZ as c n z bs) (.agg vs)
def gy (U:Nat→Option aH) (S:Nat→Nat→Prop) (w:World) (l:aH) (cells:List I) (len z:Nat):Value→Prop
 | .slice (some a) _ cap=>(len=0∧cap=0∧cells=[]) ∨
   (U a.block=some l∧True∧a.spot=none∧len≤cap∧cap≤maxLen∧0<z∧cells.length=len*z ∧
    (∃ cur e,w.heap[a.block]?=some (.cells cur e (0,0))∧cur.size=a.off+cap*z)∧∀ o,a.off+cells.length≤o→¬ S a.block o)
 | _=>True
def aW (U:Nat→Option aH) (J:List Nat) (S:Nat→Nat→Prop) (w:World) (l:aH):I→Value→Prop
 | .ax cells len (.own z),.slice (some a) _ cap=>(len=0∧cap=0∧cells=[]) ∨
   (U a.block=some l∧True∧a.spot=none∧len≤cap∧cap≤maxLen∧0<z∧cells.length=len*z ∧
    (∃ cur e,w.heap[a.block]?=some (.cells cur e (0,0))∧cur.size=a.off+cap*z)∧∀ o,a.off+cells.length≤o→¬ S a.block o)
 | .ax cells len (.uniq z),.slice (some a) _ cap=>(len=0∧cap=0∧cells=[]) ∨
   (U a.block=some l∧a.off=0∧len≤cap∧cap≤maxLen∧0<z∧cells.length=len*z ∧
    (∃ cur e,w.heap[a.block]?=some (.cells cur e (0,0))∧cur.size=cap*z ∧
     ∀ (j:Nat) (u:I) (v:Value),cells[j]?=some u→cur[j]?=some v→u.plain=true∧v.oneCell'=true∧Rel J S w u v)∧∀ o,¬ S a.block o)
 | .raw cells len z,.slice (some a) _ cap =>
   U a.block=some l∧a.off=0∧len≤cap∧cap≤maxLen∧0<z∧cells.length=len*z∧cells.all gS=true ∧
     (∃ cur e,w.heap[a.block]?=some (.cells cur e (0,0))∧cur.size=cap*z ∧
      ∀ (j:Nat) (u:I) (v:Value),cells[j]?=some u→cur[j]?=some v→v.oneCell'=true∧Rel J S w u v)∧∀ o,¬ S a.block o
 | .cZ as c n z _,.agg vs=>∀ v,vs[as.length]?=some v→gy U S w l c n z v
 | _,_=>True
theorem gy.at {U:Nat→Option aH} {J:List Nat} {S:Nat→Nat→Prop} {w:World} {l:aH} {c:List I} {n z:Nat} {v:Value} (h:gy U S w l c n z v):aW U J S w l (.ax c n (.own z)) v:=by
 cases v with
 | slice a len cap=>cases a with
   | some a=>exact h
   | none=>trivial
 | _=>trivial
theorem gy.of {U:Nat→Option aH} {J:List Nat} {S:Nat→Nat→Prop} {w:World} {l:aH} {c:List I} {n z:Nat} {v:Value} (h:aW U J S w l (.ax c n (.own z)) v):gy U S w l c n z v:=by
 cases v with
 | slice a len cap=>cases a with
   | some a=>exact h
   | none=>trivial
 | _=>trivial
structure bj (U:Nat→Option aH) (S:Nat→Nat→Prop) (w:World) (az:Nat→Option aH) (S':Nat→Nat→Prop) (w':World):Prop where
 os:w'.os=w.os
 tape:w'.tape=w.tape
 output:w'.output=w.output
 size:w.heap.size≤w'.heap.size
 cD:∀ b,b<w.heap.size→U b=none→w'.heap[b]?=w.heap[b]?
 set:∀ b o,S b o→S' b o∧w'.cell? ⟨b,o,none⟩=w.cell? ⟨b,o,none⟩
 fresh:∀ b o,S' b o→S b o∨U b≠none∨w.heap.size≤b
 own:∀ b,az b≠none→U b≠none∨w.heap.size≤b
theorem bj.refl (U:Nat→Option aH) (S:Nat→Nat→Prop) (w:World):bj U S w U S w :=
 ⟨rfl,rfl,rfl,sB _,fun _ _ _=>rfl,fun _ _ h=>⟨h,rfl⟩,fun _ _ h=>.inl h,fun _ h=>.inl h⟩
theorem bj.trans {U b5 br:Nat→Option aH} {S a8 bL:Nat→Nat→Prop} {w bH bY:World} (h:bj U S w b5 a8 bH) (k:bj b5 a8 bH br bL bY) :
  bj U S w br bL bY where
 os:=k.os.trans h.os
 tape:=k.tape.trans h.tape
 output:=k.output.trans h.output
 size:=tb h.size k.size
 cD b ag aN:=by
  have ad:b5 b=none:=by
   cases hw:b5 b with
   | none=>rfl
   | some l =>
     rcases h.own b (by simp [hw]) with af | af
     ·exact absurd aN af
     ·omega
  rw [k.cD b (Nat.lt_of_lt_of_le ag h.size) ad,h.cD b ag aN]
 set b o ai:=by
  obtain ⟨ad,af⟩:=h.set b o ai;obtain ⟨aJ,aQ⟩:=k.set b o ad;exact ⟨aJ,aQ.trans af⟩
 fresh b o ai:=by
  rcases k.fresh b o ai with ad | ad | ad
  ·exact h.fresh b o ad
  ·rcases h.own b ad with af | af
   ·exact .inr (.inl af)
   ·exact .inr (.inr af)
  ·exact .inr (.inr (tb h.size ad))
 own b ag:=by
  rcases k.own b ag with ad | ad
  ·exact h.own b ad
  ·exact .inr (tb h.size ad)
def Ext (J bV:List Nat):Prop:=∀ (i b:Nat),J[i]?=some b→bV[i]?=some b
theorem Ext.refl (J:List Nat):Ext J J:=fun _ _ h=>h
theorem Ext.trans {a b c:List Nat} (h:Ext a b) (k:Ext b c):Ext a c:=fun i x ak=>k i x (h i x ak)
theorem Ext.append (a b:List Nat):Ext a (a++b):=fun i x ak=>by
 rw [sQ (sv.1 ak).1];exact ak
theorem Rel.mono {J bV:List Nat} {S S':Nat→Nat→Prop} {w w':World} (bK:Ext J bV)
  (cm:∀ b o,S b o→S' b o∧w'.cell? ⟨b,o,none⟩=w.cell? ⟨b,o,none⟩) {u:I} {v:Value} (h:Rel J S w u v):Rel bV S' w' u v:=by
 induction h with
 | junk v=>exact .junk v
 | bool b=>exact .bool b
 | dw b=>exact .dw b
 | int k n=>exact .int k n
 | str s=>exact .str s
 | eJ=>exact .eJ
 | ptr id off b h=>exact .ptr id off b (bK _ _ h)
 | bU cells b o f h aj a_ =>
   exact .bU cells b o f (fun j u aw=>let ⟨ad,af,aG⟩:=h j u aw;⟨(cm _ _ ad).1,(cm _ _ ad).2.trans af,aG⟩) a_
 | b2 c a=>exact .b2 c a
 | ax cells len c b o cap f al hle hu h aj a_ =>
   exact .ax cells len c b o cap f al hle hu (fun j u aw=>let ⟨ad,af,aG⟩:=h j u aw;⟨(cm _ _ ad).1,(cm _ _ ad).2.trans af,aG⟩) a_
 | cK cells len z b o cap=>exact .cK cells len z b o cap
 | raw cells len z b o cap=>exact .raw cells len z b o cap
 | ref id off len c sz b cap h al hle=>exact .ref id off len c sz b cap (bK _ _ h) al hle
 | cl id gid len z b cap h aO hle=>exact .cl id gid len z b cap (bK _ _ h) (bK _ _ aO) hle
 | func f as bs vs ws ad af bS bZ aT r2 i1 i2=>exact .func f as bs vs ws ad af bS bZ i1 i2
 | yield id b h=>exact .yield id b (bK _ _ h)
 | map id b h=>exact .map id b (bK _ _ h)
 | agg as vs h p one r a_=>exact .agg as vs h p one a_
 | tuple as vs h p r a_=>exact .tuple as vs h p a_
 | cZ as c n z bs vs h lb ld one oe ro og kR io xh=>exact .cZ as c n z bs vs h lb ld one kR io xh
theorem gy.mono {U az:Nat→Option aH} {S S':Nat→Nat→Prop} {w w':World} {l l':aH}
  (fj:∀ b,U b=some l→az b=some l'∧w'.heap[b]?=w.heap[b]?∧∀ o,S' b o→S b o) {c:List I} {n z:Nat} {v:Value} (h:gy U S w l c n z v):gy az S' w' l' c n z v:=by
 unfold gy at h ⊢;split at h
 ·rcases h with h | ⟨ad,af,aG,a6,bM,bT,cJ,⟨cur,e,cL,cN⟩,dm⟩
  ·exact .inl h
  ·obtain ⟨aJ,aQ,cp⟩:=fj _ ad;exact .inr ⟨aJ,af,aG,a6,bM,bT,cJ,⟨cur,e,aQ.trans cL,cN⟩,fun o aq ai=>dm o aq (cp o ai)⟩
 ·trivial
theorem aW.mono {U az:Nat→Option aH} {J bV:List Nat} {S S':Nat→Nat→Prop} {w w':World} {l l':aH} (bK:Ext J bV)
  (cm:∀ b o,S b o→S' b o∧w'.cell? ⟨b,o,none⟩=w.cell? ⟨b,o,none⟩)
  (fj:∀ b,U b=some l→az b=some l'∧w'.heap[b]?=w.heap[b]?∧∀ o,S' b o→S b o) {u:I} {v:Value} (h:aW U J S w l u v) :
  aW az bV S' w' l' u v:=by
 unfold aW at h ⊢;split at h
 ·rcases h with h | ⟨ad,af,aG,a6,bM,bT,cJ,⟨cur,e,cL,cN⟩,dm⟩
  ·exact .inl h
  ·obtain ⟨aJ,aQ,cp⟩:=fj _ ad;exact .inr ⟨aJ,af,aG,a6,bM,bT,cJ,⟨cur,e,aQ.trans cL,cN⟩,fun o aq ai=>dm o aq (cp o ai)⟩
 ·rcases h with h | ⟨ad,aV,a6,bM,bT,cJ,⟨cur,e,cL,cN,dm⟩,fr⟩
  ·exact .inl h
  ·obtain ⟨aJ,aQ,cp⟩:=fj _ ad;exact .inr ⟨aJ,aV,a6,bM,bT,cJ,⟨cur,e,aQ.trans cL,cN,fun j u v hu ae=>⟨(dm j u v hu ae).1,(dm j u v hu ae).2.1,((dm j u v hu ae).2.2).mono bK cm⟩⟩,fun o ai=>fr o (cp o ai)⟩
 ·obtain ⟨ad,aV,a6,bM,bT,cJ,ai,⟨cur,e,cL,cN,dm⟩,fr⟩:=h;obtain ⟨aJ,aQ,cp⟩:=fj _ ad;exact ⟨aJ,aV,a6,bM,bT,cJ,ai,⟨cur,e,aQ.trans cL,cN,fun j u v hu ae=>⟨(dm j u v hu ae).1,((dm j u v hu ae).2).mono bK cm⟩⟩,fun o ai=>fr o (cp o ai)⟩
 ·exact fun v ae=>(h v ae).mono fj
 ·trivial
theorem aW.b4 {U:Nat→Option aH} {J:List Nat} {S:Nat→Nat→Prop} {w:World} {l:aH} {u:I} {v:Value} (h:u.plain=true):aW U J S w l u v:=by
 unfold aW;split <;> first | trivial | simp [I.plain] at h
def gx (U:Nat→Option aH) (J:List Nat) (S:Nat→Nat→Prop) (w:World) (id:Nat):ar→Prop
 | .dead=>True
 | .cells l=>∃ b cur e,J[id]?=some b∧U b=some (.obj id)∧w.heap[b]?=some (.cells cur e (0,0))∧l.length≤cur.size∧(∀ o,¬ S b o) ∧
   ∀ (j:Nat) (u:I) (v:Value),l[j]?=some u→cur[j]?=some v→u.cR=true∧v.oneCell'=true∧Rel J S w u v∧aW U J S w (.cell id j) u v
 | .loop st cF fn T params assign body jx=>codeOk jx assign=true∧codeOk jx body=true∧∃ b L,J[id]?=some b∧U b=some (.obj id)∧w.heap[b]?=some (.loop L)∧L.state=st∧L.pending=cF∧True ∧
   L.tmps.size=T.length∧(∀ (i:Nat) (u:I) (v:Value),T[i]?=some u→L.tmps[i]?=some v→u.plain=true∧Rel J S w u v)∧L.params.toList=params∧L.assign=assign∧L.body=body
 | .map es clock=>∃ b bz,J[id]?=some b∧U b=some (.obj id)∧w.heap[b]?=some (.map bz clock)∧bz.size=es.length∧(∀ o,¬ S b o) ∧
   ∀ (j i:Nat) (k v:I) (x:MapEntry),es[j]?=some (i,k,v)→bz[j]?=some x→x.born=i∧k.plain=true∧Rel J S w k x.key∧v.plain=true∧Rel J S w v x.val
 | .grow l gid z=>∃ b cur e,J[id]?=some b∧U b=some (.obj id)∧w.heap[b]?=some (.cells cur e (0,0))∧l.length≤cur.size∧(∀ o,¬ S b o) ∧
   (∀ (j:Nat) (u:I) (v:Value),l[j]?=some u→cur[j]?=some v→u.cR=true∧v.oneCell'=true∧Rel J S w u v∧aW U J S w (.cell id j) u v) ∧
   ∃ cap,J[gid]?=some cap∧cap≤maxLen∧0<z∧cur.size=cap*z
 | .iter m since seen kf=>∃ b ee,J[id]?=some b∧U b=some (.obj id)∧J[m]?=some ee∧w.heap[b]?=some (.mapIter (some ee) since seen.toArray kf)∧(∀ o,¬ S b o)
structure aK (B:Nat) (U:Nat→Option aH) (J:List Nat) (S:Nat→Nat→Prop) (w:World) (H:List ar):Prop where
 cE:J.length=H.length
 obj:∀ (id:Nat) (o:ar),H[id]?=some o→gx U J S w id o
 cd:∀ b o,S b o→∃ v,w.cell? ⟨b,o,none⟩=some v
 base:∀ b l,U b=some l→B≤b∧b<w.heap.size
 cW:B≤w.heap.size
structure a9 (bB:Nat→aH) (U:Nat→Option aH) (J:List Nat) (S:Nat→Nat→Prop) (w:World) (T:List I) (bh:List Value):Prop where
 len:T.length=bh.length
 rel:∀ (i:Nat) (u:I) (v:Value),T[i]?=some u→bh[i]?=some v→Rel J S w u v
 own:∀ (i:Nat) (u:I) (v:Value),T[i]?=some u→bh[i]?=some v→aW U J S w (bB i) u v
theorem A5 {J bV:List Nat} {S S':Nat→Nat→Prop} {w w':World} {u:I} {v:Value} (h:gS u=true) (aj:Rel J S w u v):Rel bV S' w' u v:=by
 cases aj <;> simp [gS] at h <;> constructor
theorem Ft {u:I} (h:gS u=true):u.plain=true:=by
 cases u <;> simp [gS] at h <;> rfl
theorem EN {U:Nat→Option aH} {J:List Nat} {S:Nat→Nat→Prop} {w:World} {l:aH} {c:List I} {n z:Nat} {v:Value} (aj:Rel J S w (.raw c n z) v) (aq:aW U J S w l (.raw c n z) v) :
  Rel J S w (.ax c n (.uniq z)) v∧aW U J S w l (.ax c n (.uniq z)) v:=by
 cases aj with
 | raw _ _ _ b o cap =>
   obtain ⟨ad,aV,a6,bM,bT,cJ,ai,⟨cur,e,cL,cN,dm⟩,fr⟩:=aq;rw [sR] at ai;exact ⟨.cK _ _ _ _ _ _,.inr ⟨ad,aV,a6,bM,bT,cJ,⟨cur,e,cL,cN,fun j u v hu ae=>⟨Ft (ai u (sZ hu)),dm j u v hu ae⟩⟩,fr⟩⟩
theorem Gl {U:Nat→Option aH} {J:List Nat} {S:Nat→Nat→Prop} {w:World} {l:aH} {c:List I} {n z:Nat} {v:Value} (aN:n≠0) (ai:c.all gS=true) (aj:Rel J S w (.ax c n (.uniq z)) v) (aq:aW U J S w l (.ax c n (.uniq z)) v) :
  Rel J S w (.raw c n z) v∧aW U J S w l (.raw c n z) v:=by
 cases aj with
 | b2 _ a=>exact absurd rfl aN
 | ax _ _ _ b o cap f al hle hu h aj=>exact absurd rfl (hu z)
 | cK _ _ _ b o cap =>
   rcases aq with ⟨h,_,_⟩ | ⟨ad,aV,a6,bM,bT,cJ,⟨cur,e,cL,cN,dm⟩,fr⟩
   ·exact absurd h aN
   ·exact ⟨.raw _ _ _ _ _ _,ad,aV,a6,bM,bT,cJ,ai,⟨cur,e,cL,cN,fun j u v hu ae=>(dm j u v hu ae).2⟩,fr⟩
theorem mL {w:World} {b o:Nat} {v:Value} (h:w.cell? ⟨b,o,none⟩=some v):b<w.heap.size:=World.block_lt_of_cell? w ⟨b,o,none⟩ h
end Go.Proofs.YtfakoboiahbhaaaGreat.Ab


namespace Go.Proofs.YtfakoboiahbhaaaGreat.Ab
open Go
structure eC (U:Nat→Option aH) (S:Nat→Nat→Prop) (az:Nat→Option aH) (S':Nat→Nat→Prop):Prop where
 set:∀ b o,S b o→S' b o
 fresh:∀ b o,S' b o→S b o∨∃ i,U b=some (.slot i)
 cD:∀ b l,U b=some l→(∀ i,l≠.slot i)→az b=some l
 none:∀ b,U b=none→az b=none
 slot:∀ b i,az b=some (.slot i)→U b=some (.slot i)
theorem eC.refl (U:Nat→Option aH) (S:Nat→Nat→Prop):eC U S U S :=
 ⟨fun _ _ h=>h,fun _ _ h=>.inl h,fun _ _ h _=>h,fun _ h=>h,fun _ _ h=>h⟩
theorem eC.trans {U b5 br:Nat→Option aH} {S a8 bL:Nat→Nat→Prop} (h:eC U S b5 a8) (k:eC b5 a8 br bL):eC U S br bL where
 set b o ai:=k.set b o (h.set b o ai)
 fresh b o ai:=by
  rcases k.fresh b o ai with ad | ⟨i,ad⟩
  ·exact h.fresh b o ad
  ·exact .inr ⟨i,h.slot b i ad⟩
 cD b l ao aN:=k.cD b l (h.cD b l ao aN) aN
 none b ag:=k.none b (h.none b ag)
 slot b i ag:=h.slot b i (k.slot b i ag)
theorem eC.aA {U az:Nat→Option aH} {S S':Nat→Nat→Prop} (h:eC U S az S') (w:World):bj U S w az S' w where
 os:=rfl
 tape:=rfl
 output:=rfl
 size:=sB _
 cD _ _ _:=rfl
 set b o ai:=⟨h.set b o ai,rfl⟩
 fresh b o ai:=by
  rcases h.fresh b o ai with ad | ⟨i,ad⟩
  ·exact .inl ad
  ·exact .inr (.inl (by simp [ad]))
 own b ag:=by
  refine .inl fun aV=>ag (h.none b aV)
theorem aW.gs {U az:Nat→Option aH} {S S':Nat→Nat→Prop} (g:eC U S az S') {J:List Nat} {w:World} {l:aH} (ao:∀ i,l≠.slot i) {u:I} {v:Value}
  (h:aW U J S w l u v):aW az J S' w l u v:=by
 refine h.mono (Ext.refl J) (fun b o ai=>⟨g.set b o ai,rfl⟩) fun b ag=>⟨g.cD b l ag ao,rfl,fun o ai=>?_⟩;rcases g.fresh b o ai with ad | ⟨i,ad⟩
 ·exact ad
 ·rw [ag] at ad;cases ad;exact absurd rfl (ao i)
theorem Rel.gs {U az:Nat→Option aH} {S S':Nat→Nat→Prop} (g:eC U S az S') {J:List Nat} {w:World} {u:I} {v:Value} (h:Rel J S w u v):Rel J S' w u v :=
 h.mono (Ext.refl J) fun b o ai=>⟨g.set b o ai,rfl⟩
theorem gx.gs {U az:Nat→Option aH} {S S':Nat→Nat→Prop} (g:eC U S az S') {J:List Nat} {w:World} {id:Nat} {o:ar} (h:gx U J S w id o):gx az J S' w id o:=by
 have cm:∀ b bA,U b=some (.obj bA)→∀ o,S' b o→S b o:=fun b bA ag o ai=>by
  rcases g.fresh b o ai with ad | ⟨i,ad⟩
  ·exact ad
  ·rw [ag] at ad;cases ad
 cases o with
 | dead=>trivial
 | cells l =>
   obtain ⟨b,cur,e,ad,af,aG,a6,bM,bT⟩:=h
   exact ⟨b,cur,e,ad,g.cD b _ af (by simp),aG,a6,fun o ai=>bM o (cm b id af o ai),fun j u v hu ae =>
    let ⟨aC,ju,aI,aR⟩:=bT j u v hu ae;⟨aC,ju,aI.gs g,aR.gs g (by simp)⟩⟩
 | grow l gid z =>
   obtain ⟨b,cur,e,ad,af,aG,a6,bM,bT,cJ⟩:=h
   exact ⟨b,cur,e,ad,g.cD b _ af (by simp),aG,a6,fun o ai=>bM o (cm b id af o ai),fun j u v hu ae =>
    let ⟨aC,ju,aI,aR⟩:=bT j u v hu ae;⟨aC,ju,aI.gs g,aR.gs g (by simp)⟩,cJ⟩
 | loop st cF fn T params assign body jx =>
   obtain ⟨ak,aZ,b,L,ad,af,aG,a6,bM,bT,cJ,cL,cN⟩:=h;exact ⟨ak,aZ,b,L,ad,g.cD b _ af (by simp),aG,a6,bM,bT,cJ,fun i u v hu ae=>⟨(cL i u v hu ae).1,(cL i u v hu ae).2.gs g⟩,cN⟩
 | map es clock =>
   obtain ⟨b,bz,ad,af,aG,a6,bM,bT⟩:=h
   exact ⟨b,bz,ad,g.cD b _ af (by simp),aG,a6,fun o ai=>bM o (cm b id af o ai),fun j i k v x hu ae =>
    let ⟨aC,aI,aR,bl,bd⟩:=bT j i k v x hu ae;⟨aC,aI,aR.gs g,bl,bd.gs g⟩⟩
 | iter m s e t =>
   obtain ⟨b,ee,ad,af,aG,a6,bM⟩:=h;exact ⟨b,ee,ad,g.cD b _ af (by simp),aG,a6,fun o ai=>bM o (cm b id af o ai)⟩
theorem aK.gs {B:Nat} {U az:Nat→Option aH} {S S':Nat→Nat→Prop} (g:eC U S az S') {J:List Nat} {w:World} {H:List ar} (h:aK B U J S w H)
  (hw:∀ b o,S' b o→∃ v,w.cell? ⟨b,o,none⟩=some v):aK B az J S' w H where
 cE:=h.cE
 obj id o aq:=(h.obj id o aq).gs g
 cd:=hw
 base b l ao:=by
  cases ag:U b with
  | none=>rw [g.none b ag] at ao;cases ao
  | some l'=>exact h.base b l' ag
 cW:=h.cW
theorem lK (J:List Nat) (S:Nat→Nat→Prop) (w:World) (v:Value):Rel J S w (hz v) v:=by
 unfold hz;split
 ·exact .bool _
 ·exact .int _ _
 ·exact .eJ
 ·exact .str _
 ·exact .b2 _ _
 ·exact .junk _
theorem nj (v:Value):(hz v).plain=true:=by
 unfold hz;split <;> rfl
theorem I.dj (u:I):u.view.plain=true:=by
 cases u with
 | ax c n k=>cases k <;> rfl
 | _=>rfl
theorem I.fx {u:I} (h:u.plain=true):u.cR=true:=by
 unfold I.plain at h;unfold I.cR;split at h <;> simp_all
theorem I.kk {u:I} (h:u.plain=true):u.view=u:=by
 unfold I.view;split <;> simp_all [I.plain]
theorem Rel.view {J:List Nat} {S:Nat→Nat→Prop} {w:World} {u:I} {v:Value} (h:Rel J S w u v) (aN:u.cR=true):Rel J S w u.view v:=by
 cases h with
 | b2 c a=>cases c <;> simp [I.view] <;> exact .b2 _ _
 | ax cells len c b o cap f al hle hu h aj =>
   cases c with
   | shared=>exact .ax cells len .shared b o cap f al hle hu h aj
   | full=>exact .ax cells len .full b o cap f al hle hu h aj
   | own z=>exact .ax cells len .shared b o cap f (by simp) hle (by simp) h aj
   | uniq z=>exact absurd rfl (hu z)
 | cK=>simp [I.cR] at aN
 | raw=>exact .junk _
 | cZ=>exact .junk _
 | cl id gid len z b cap h aO hle=>exact .ref id 0 len none z b cap h (by simp) hle
 | junk v=>exact .junk v
 | bool b=>exact .bool b
 | dw b=>exact .dw b
 | int k n=>exact .int k n
 | str s=>exact .str s
 | eJ=>exact .eJ
 | ptr id off b h=>exact .ptr id off b h
 | bU cells b o f h aj=>exact .bU cells b o f h aj
 | ref id off len c sz b cap h al hle=>exact .ref id off len c sz b cap h al hle
 | func f as bs vs ws ad af bS bZ aT r2=>exact .func f as bs vs ws ad af bS bZ aT r2
 | yield id b h=>exact .yield id b h
 | map id b h=>exact .map id b h
 | agg as vs h p one r=>exact .agg as vs h p one r
 | tuple as vs h p r=>exact .tuple as vs h p r
section
variable {B:Nat} {J:List Nat} {w:World} {H:List ar}
theorem a9.gs {bB:Nat→aH} (ao:∀ i k,bB i≠.slot k) {U az:Nat→Option aH} {S S':Nat→Nat→Prop} (g:eC U S az S') {T:List I} {bh:List Value} (h:a9 bB U J S w T bh) :
  a9 bB az J S' w T bh :=
 ⟨h.len,fun i u v hu ae=>(h.rel i u v hu ae).gs g,fun i u v hu ae=>(h.own i u v hu ae).gs g (ao i)⟩
theorem Gf {U:Nat→Option aH} {S:Nat→Nat→Prop} {T:List I} {bh:List Value} (l:aH) (ao:∀ i,l≠.slot i)
  (bX:a9 .slot U J S w T bh) (ah:aK B U J S w H) (t:Nat) :
  ∃ az,eC U S az S∧a9 .slot az J S w (T.set t .junk) bh∧aK B az J S w H ∧
    Rel J S w (T.getD t .junk) (bh.getD t undef)∧aW az J S w l (T.getD t .junk) (bh.getD t undef):=by
 classical
 refine ⟨fun b=>if U b=some (.slot t) then some l else U b,?_,?_,?_,?_,?_⟩
 ·refine ⟨fun _ _ h=>h,fun _ _ h=>.inl h,fun b l' h aN=>?_,fun b h=>?_,fun b i h=>?_⟩
  ·have:U b≠some (.slot t):=by rw [h];intro e;cases e;exact aN t rfl
   simp only [this,if_false];exact h
  ·simp [h]
  ·split at h
   ·cases h;exact absurd rfl (ao i)
   ·exact h
 ·refine ⟨by simpa using bX.len,fun i u v hu ae=>?_,fun i u v hu ae=>?_⟩
  ·rw [vt] at hu;split at hu
   ·split at hu
    ·cases hu;exact .junk _
    ·cases hu
   ·exact bX.rel i u v hu ae
  ·rw [vt] at hu;split at hu
   ·split at hu
    ·cases hu;exact aW.b4 rfl
    ·cases hu
   ·rename_i bO;refine (bX.own i u v hu ae).mono (Ext.refl J) (fun b o ai=>⟨ai,rfl⟩) fun b ag=>⟨?_,rfl,fun o ai=>ai⟩
    have:U b≠some (.slot t):=by rw [ag];intro e;cases e;exact bO rfl
    simp only [this,if_false];exact ag
 ·refine ah.gs ⟨fun _ _ h=>h,fun _ _ h=>.inl h,fun b l' h aN=>?_,fun b h=>?_,fun b i h=>?_⟩ ah.cd
  ·have:U b≠some (.slot t):=by rw [h];intro e;cases e;exact aN t rfl
   simp only [this,if_false];exact h
  ·simp [h]
  ·split at h
   ·cases h;exact absurd rfl (ao i)
   ·exact h
 ·cases hu:T[t]? with
  | none=>rw [sY,hu];exact .junk _
  | some u =>
    have aS:=(sv.1 hu).1;have ae:bh[t]?=some (bh[t]'(bX.len ▸ aS)):=sK _;rw [sY,hu,sY,ae];exact bX.rel t _ _ hu ae
 ·cases hu:T[t]? with
  | none=>rw [sY,hu];exact aW.b4 rfl
  | some u =>
    have aS:=(sv.1 hu).1;have ae:bh[t]?=some (bh[t]'(bX.len ▸ aS)):=sK _;rw [sY,hu,sY,ae];refine (bX.own t _ _ hu ae).mono (Ext.refl J) (fun b o ai=>⟨ai,rfl⟩) fun b ag=>⟨?_,rfl,fun o ai=>ai⟩;simp [ag]
theorem kc {U:Nat→Option aH} {S:Nat→Nat→Prop} {l:aH} {cells:List I} {len z:Nat} {v:Value} (ah:aK B U J S w H)
  (aj:Rel J S w (.ax cells len (.uniq z)) v) (aq:aW U J S w l (.ax cells len (.uniq z)) v) :
  ∃ S':Nat→Nat→Prop,(∀ b o,S b o→S' b o)∧(∀ b o,S' b o→S b o∨U b=some l)∧(∀ b o,S' b o→∃ v,w.cell? ⟨b,o,none⟩=some v) ∧
    Rel J S' w (.ax cells len .shared) v∧Rel J S' w (.ax cells len (.own z)) v∧aW U J S' w l (.ax cells len (.own z)) v:=by
 cases aj with
 | b2 c a=>exact ⟨S,fun _ _ h=>h,fun _ _ h=>.inl h,ah.cd,.b2 _ _,.b2 _ _,by cases a <;> first | trivial | exact .inl ⟨rfl,rfl,rfl⟩⟩
 | ax cells len c b o cap f al hle b' h nL=>exact absurd rfl (b' z)
 | cK cells len z b o cap =>
   rcases aq with ⟨rfl,rfl,rfl⟩ | ⟨ad,aV,af,aG,a6,bM,⟨cur,e,bT,cJ,cL⟩,cN⟩
   ·refine ⟨S,fun _ _ h=>h,fun _ _ h=>.inl h,ah.cd,?_,?_,.inl ⟨rfl,rfl,rfl⟩⟩
    ·exact .ax [] 0 .shared b o 0 (fun _=>undef) (by simp) (sB _) (by simp) (by simp) (by simp)
    ·exact .ax [] 0 (.own z) b o 0 (fun _=>undef) (by simp) (sB _) (by simp) (by simp) (by simp)
   ·simp only at aV;subst aV;(have jH:cells.length≤cur.size:=by rw [cJ,bM];exact tP _ af);have bx:∀ j,w.cell? ⟨b,j,none⟩=cur[j]?:=fun j=>by
     unfold World.cell?;simp only at bT;rw [bT];simp
    have aO:∀ au o,S au o→(S au o∨(au=b∧o<cells.length)):=fun _ _ h=>.inl h;have nJ:∀ {u:I} {v:Value},Rel J S w u v→Rel J (fun au o=>S au o∨(au=b∧o<cells.length)) w u v:=fun h=>h.mono (Ext.refl J) fun b o ai=>⟨aO b o ai,rfl⟩;have yx:∀ (j:Nat) (u:I),cells[j]?=some u→(S b (0+j)∨(b=b∧0+j<cells.length))∧w.cell? ⟨b,0+j,none⟩=some (cur.getD j undef)∧u.plain=true∧(cur.getD j undef).oneCell'=true:=by
     intro j u aw;have jL:=(sv.1 aw).1;have c6:cur[j]?=some (cur[j]'(by omega)):=sS _;refine ⟨.inr ⟨rfl,by omega⟩,?_,(cL j u _ aw c6).1,?_⟩
     ·rw [tg,bx,c6];simp [Array.getD,show j<cur.size by omega]
     ·have:=(cL j u _ aw c6).2.1;simpa [Array.getD,show j<cur.size by omega] using this
    have Ap:∀ (j:Nat) (u:I),cells[j]?=some u→Rel J (fun au o=>S au o∨(au=b∧o<cells.length)) w u (cur.getD j undef):=by
     intro j u aw;have jL:=(sv.1 aw).1;have c6:cur[j]?=some (cur[j]'(by omega)):=sS _;have:=nJ (cL j u _ aw c6).2.2;simpa [Array.getD,show j<cur.size by omega] using this
    refine ⟨fun au o=>S au o∨(au=b∧o<cells.length),aO,?_,?_,?_,?_,?_⟩
    ·rintro au o (h | ⟨rfl,h⟩)
     ·exact .inl h
     ·exact .inr ad
    ·rintro au o (h | ⟨rfl,h⟩)
     ·exact ah.cd au o h
     ·exact ⟨cur[o]'(by omega),by rw [bx];exact sS _⟩
    ·exact .ax cells len .shared b 0 cap (fun j=>cur.getD j undef) (by simp) af (by simp) yx Ap
    ·exact .ax cells len (.own z) b 0 cap (fun j=>cur.getD j undef) (by simp) af (by simp) yx Ap
    ·refine .inr ⟨ad,trivial,rfl,af,aG,a6,bM,⟨cur,e,bT,by simpa using cJ⟩,fun o aq ai=>?_⟩;simp only [tg] at aq;rcases ai with ai | ⟨_,ai⟩
     ·exact cN o ai
     ·omega
theorem Fy {U:Nat→Option aH} {S:Nat→Nat→Prop} {T:List I} {bh:List Value}
  (bX:a9 .slot U J S w T bh) (ah:aK B U J S w H) (t:Nat) (cells:List I) (len z:Nat) (hu:T[t]?=some (.ax cells len (.uniq z))) :
  ∃ S',eC U S U S'∧a9 .slot U J S' w (T.set t (.ax cells len (.own z))) bh∧aK B U J S' w H ∧
    Rel J S' w (.ax cells len .shared) (bh.getD t undef):=by
 have aS:=(sv.1 hu).1;have ae:bh[t]?=some (bh[t]'(bX.len ▸ aS)):=sK _;have aj:=bX.rel t _ _ hu ae;have aq:=bX.own t _ _ hu ae;rw [sY,ae];simp only [vb];generalize bh[t]'(bX.len ▸ aS)=v at ae aj aq;obtain ⟨S',aJ,aQ,hw,aT,r2,eL⟩:=kc ah aj aq;have aO:eC U S U S':=⟨aJ,fun b o h=>(aQ b o h).imp id fun h=>⟨t,h⟩,fun _ _ h _=>h,fun _ h=>h,fun _ _ h=>h⟩;have DD:∀ b i,i≠t→U b=some (.slot i)→∀ o,S' b o→S b o:=fun b i hi ag o ai=>by
  rcases aQ b o ai with h | h
  ·exact h
  ·rw [ag] at h;cases h;exact absurd rfl hi
 refine ⟨S',aO,⟨by simpa using bX.len,fun i bG bn b' bf=>?_,fun i bG bn b' bf=>?_⟩,ah.gs aO hw,aT⟩
 ·rw [vt] at b';split at b'
  ·rename_i heq;subst heq;cases b';rw [ae] at bf;cases bf;exact r2
  ·exact (bX.rel i _ _ b' bf).gs aO
 ·rw [vt] at b';split at b'
  ·rename_i heq;subst heq;cases b';rw [ae] at bf;cases bf;exact eL
  ·rename_i bO;exact (bX.own i _ _ b' bf).mono (Ext.refl J) (fun b o ai=>⟨aO.set b o ai,rfl⟩) fun b ag=>⟨ag,rfl,fun o ai=>DD b i (fun e=>bO e.symm) ag o ai⟩
theorem a9.cons {bB:Nat→aH} {U:Nat→Option aH} {S:Nat→Nat→Prop} {u:I} {v:Value} {T:List I} {bh:List Value} (ad:Rel J S w u v) (af:aW U J S w (bB 0) u v)
  (h:a9 (fun i=>bB (i+1)) U J S w T bh):a9 bB U J S w (u::T) (v::bh):=by
 refine ⟨by simp [h.len],fun i bG bn hu ae=>?_,fun i bG bn hu ae=>?_⟩
 ·cases i with
  | zero=>simp at hu ae;subst hu ae;exact ad
  | succ i=>exact h.rel i bG bn (by simpa using hu) (by simpa using ae)
 ·cases i with
  | zero=>simp at hu ae;subst hu ae;exact af
  | succ i=>exact h.own i bG bn (by simpa using hu) (by simpa using ae)
theorem a9.nil {bB:Nat→aH} {U:Nat→Option aH} {S:Nat→Nat→Prop}:a9 bB U J S w [] []:=⟨rfl,by simp,by simp⟩
theorem EP (a:Act):∀ (ops:List Operand) (ts:List Bool) (T:List I) (k:Nat) (U:Nat→Option aH) (S:Nat→Nat→Prop),
  a9 .slot U J S w T a.tmps.toList→aK B U J S w H →
  ∃ az S',eC U S az S'∧a9 .slot az J S' w (rd T ts ops).2 a.tmps.toList∧aK B az J S' w H∧a9 (fun i=>.arg (k+i)) az J S' w (rd T ts ops).1 (ops.map a.eval):=by
 intro ops
 induction ops with
 | nil=>intro ts T k U S bX ah;exact ⟨U,S,eC.refl _ _,by simpa [rd] using bX,ah,by simpa [rd] using a9.nil⟩
 | cons x rest a_ =>
   intro ts T k U S bX ah;have nu:∀ u:I,Rel J S w u (a.eval x)→u.plain=true→(rd T ts (x::rest))=(u::(rd T ts.tail rest).1,(rd T ts.tail rest).2) →
     ∃ az S',eC U S az S'∧a9 .slot az J S' w (rd T ts (x::rest)).2 a.tmps.toList∧aK B az J S' w H ∧
       a9 (fun i=>.arg (k+i)) az J S' w (rd T ts (x::rest)).1 ((x::rest).map a.eval):=by
    intro u hu aB he;obtain ⟨az,S',g,l5,b_,ae⟩:=a_ ts.tail T (k+1) U S bX ah;rw [he];refine ⟨az,S',g,l5,b_,?_⟩;refine a9.cons (hu.gs g) (aW.b4 aB) ?_;simpa [tZ,tC 1] using ae
   cases x with
   | const v =>
     exact nu (hz v) (lK J S w v) (nj v) rfl
   | func f=>exact nu (.func f [] []) (.func f [] [] #[] #[] rfl rfl (by simp) (by simp) (by simp) (by simp)) rfl rfl
   | global g=>exact nu .junk (.junk _) rfl rfl
   | tmp t =>
     (have jJ:a.eval (.tmp t)=a.tmps.toList.getD t undef:=by simp [Act.eval,sT]);cases ay:ts.headD false with
     | true =>
       obtain ⟨b5,cb,kz,bW,dz,jT⟩:=Gf (.arg k) (by simp) bX ah t;obtain ⟨az,S',g,l5,b_,ae⟩:=a_ ts.tail (T.set t .junk) (k+1) b5 S kz bW;have he:rd T ts (.tmp t::rest)=(T.getD t .junk::(rd (T.set t .junk) ts.tail rest).1,(rd (T.set t .junk) ts.tail rest).2):=by
        simp only [rd,ay,gU,gd]
       rw [he];refine ⟨az,S',cb.trans g,l5,b_,?_⟩;refine a9.cons ?_ ?_ ?_
       ·rw [jJ];exact dz.gs g
       ·rw [jJ];exact jT.gs g (by simp)
       ·simpa [tZ,tC 1] using ae
     | false =>
       have he:rd T ts (.tmp t::rest)=((T.getD t .junk).view::(rd (fU T t (T.getD t .junk)) ts.tail rest).1,(rd (fU T t (T.getD t .junk)) ts.tail rest).2):=by
        simp only [rd,ay,gd]
       by_cases a0:∃ cells len z,T[t]?=some (.ax cells len (.uniq z))
       ·obtain ⟨cells,len,z,a0⟩:=a0;obtain ⟨a8,cb,kz,bW,dz⟩:=Fy bX ah t cells len z a0;obtain ⟨az,S',g,l5,b_,ae⟩:=a_ ts.tail (T.set t (.ax cells len (.own z))) (k+1) U a8 kz bW;(have aO:T.getD t .junk=.ax cells len (.uniq z):=by rw [sY,a0];rfl);rw [he,aO];simp only [fU,gU,I.view];refine ⟨az,S',cb.trans g,l5,b_,?_⟩;refine a9.cons ?_ (aW.b4 rfl) ?_
        ·rw [jJ];exact dz.gs g
        ·simpa [tZ,tC 1] using ae
       ·have pP:(T.getD t .junk).cR=true:=by
         rw [sY];cases hu:T[t]? with
         | none=>rfl
         | some u =>
           simp only [vb];unfold I.cR;split
           ·exact absurd ⟨_,_,_,hu⟩ a0
           ·rfl
        have eG:fU T t (T.getD t .junk)=T:=by
         unfold fU;split
         ·rename_i h;rw [h] at pP;simp [I.cR] at pP
         ·rfl
        have aj:Rel J S w (T.getD t .junk) (a.eval (.tmp t)):=by
         rw [jJ];cases hu:T[t]? with
         | none=>rw [sY,hu];exact .junk _
         | some u =>
           have aS:=(sv.1 hu).1;have ae:a.tmps.toList[t]?=some (a.tmps.toList[t]'(bX.len ▸ aS)):=sK _;rw [sY,hu,sY,ae];exact bX.rel t _ _ hu ae
        refine nu (T.getD t .junk).view (aj.view pP) (I.dj _) ?_;rw [he,eG]
end
end Go.Proofs.YtfakoboiahbhaaaGreat.Ab


namespace Go.Proofs.YtfakoboiahbhaaaGreat.Ab
open Go
section
variable {P:Program} {B:Nat} {J:List Nat} {w:World} {H:List ar} {U:Nat→Option aH} {S:Nat→Nat→Prop}
def a1 (B:Nat) (U:Nat→Option aH) (J:List Nat) (S:Nat→Nat→Prop) (w:World) (H':List ar) (r:I) (v:Value) (w':World):Prop :=
 ∃ az bV S',Ext J bV∧bj U S w az S' w'∧aK B az bV S' w' H'∧Rel bV S' w' r v∧aW az bV S' w' .res r v
theorem a1.same (ah:aK B U J S w H) {r:I} {v:Value} (aj:Rel J S w r v) (aB:r.plain=true):a1 B U J S w H r v w :=
 ⟨U,J,S,Ext.refl J,bj.refl _ _ _,ah,aj,aW.b4 aB⟩
theorem aK.settle (ah:aK B U J S w H) {S':Nat→Nat→Prop} (ad:∀ b o,S b o→S' b o)
  (af:∀ b o,S' b o→S b o∨∃ l,U b=some l∧(∀ id,l≠.obj id)∧∀ id j,l≠.cell id j) (aG:∀ b o,S' b o→∃ v,w.cell? ⟨b,o,none⟩=some v):aK B U J S' w H:=by
 have hm:∀ {u:I} {v:Value},Rel J S w u v→Rel J S' w u v:=fun h=>h.mono (Ext.refl J) fun b o ai=>⟨ad b o ai,rfl⟩;refine ⟨ah.cE,fun id o aq=>?_,aG,ah.base,ah.cW⟩;have h:=ah.obj id o aq;cases o with
 | dead=>trivial
 | cells l =>
   obtain ⟨b,cur,e,aC,aI,aR,bl,bd,bg⟩:=h;refine ⟨b,cur,e,aC,aI,aR,bl,fun o ai=>?_,fun j u v hu ae=>?_⟩
   ·rcases af b o ai with h | ⟨l,h,b7,_⟩
    ·exact bd o h
    ·rw [aI] at h;cases h;exact b7 id rfl
   ·obtain ⟨a',c0,bb,bt⟩:=bg j u v hu ae;refine ⟨a',c0,hm bb,bt.mono (Ext.refl J) (fun b o ai=>⟨ad b o ai,rfl⟩) fun b ag=>⟨ag,rfl,fun o ai=>?_⟩⟩;rcases af b o ai with h | ⟨l,h,_,ch⟩
    ·exact h
    ·rw [ag] at h;cases h;exact absurd rfl (ch id j)
 | grow l gid z =>
   obtain ⟨b,cur,e,aC,aI,aR,bl,bd,bg,c'⟩:=h;refine ⟨b,cur,e,aC,aI,aR,bl,fun o ai=>?_,fun j u v hu ae=>?_,c'⟩
   ·rcases af b o ai with h | ⟨l,h,b7,_⟩
    ·exact bd o h
    ·rw [aI] at h;cases h;exact b7 id rfl
   ·obtain ⟨a',c0,bb,bt⟩:=bg j u v hu ae;refine ⟨a',c0,hm bb,bt.mono (Ext.refl J) (fun b o ai=>⟨ad b o ai,rfl⟩) fun b ag=>⟨ag,rfl,fun o ai=>?_⟩⟩;rcases af b o ai with h | ⟨l,h,_,ch⟩
    ·exact h
    ·rw [ag] at h;cases h;exact absurd rfl (ch id j)
 | loop st cF fn T params assign body jx =>
   obtain ⟨ak,aZ,b,L,aC,aI,aR,bl,bd,bg,c',dv,dV⟩:=h;exact ⟨ak,aZ,b,L,aC,aI,aR,bl,bd,bg,c',fun i u v hu ae=>⟨(dv i u v hu ae).1,hm (dv i u v hu ae).2⟩,dV⟩
 | map es clock =>
   obtain ⟨b,bz,aC,aI,aR,bl,bd,bg⟩:=h;refine ⟨b,bz,aC,aI,aR,bl,fun o ai=>?_,fun j i k v x hu ae=>?_⟩
   ·rcases af b o ai with h | ⟨l,h,b7,_⟩
    ·exact bd o h
    ·rw [aI] at h;cases h;exact b7 id rfl
   ·obtain ⟨a',bb,bt,b9,dY⟩:=bg j i k v x hu ae;exact ⟨a',bb,hm bt,b9,hm dY⟩
 | iter m s e t =>
   obtain ⟨b,ee,aC,aI,aR,bl,bd⟩:=h;refine ⟨b,ee,aC,aI,aR,bl,fun o ai=>?_⟩;rcases af b o ai with h | ⟨l,h,b7,_⟩
   ·exact bd o h
   ·rw [aI] at h;cases h;exact b7 id rfl
theorem bj.settle {S':Nat→Nat→Prop} (ad:∀ b o,S b o→S' b o) (af:∀ b o,S' b o→S b o∨∃ l,U b=some l):bj U S w U S' w :=
 ⟨rfl,rfl,rfl,sB _,fun _ _ _=>rfl,fun b o h=>⟨ad b o h,rfl⟩,fun b o h=>(af b o h).imp id fun ⟨l,ao⟩=>.inl (by simp [ao]),fun _ h=>.inl h⟩
theorem a9.gV {bB:Nat→aH} {u:I} {T:List I} {bh:List Value} (h:a9 bB U J S w (u::T) bh) :
  ∃ v hQ,bh=v::hQ∧Rel J S w u v∧aW U J S w (bB 0) u v∧a9 (fun i=>bB (i+1)) U J S w T hQ:=by
 cases bh with
 | nil=>exact absurd h.len (by simp)
 | cons v hQ =>
   exact ⟨v,hQ,rfl,h.rel 0 u v rfl rfl,h.own 0 u v rfl rfl,by simpa using h.len,fun i bG bn hu ae=>h.rel (i+1) bG bn (by simpa using hu) (by simpa using ae),
    fun i bG bn hu ae=>h.own (i+1) bG bn (by simpa using hu) (by simpa using ae)⟩
theorem Fx:∀ (T:List I) (bh:List Value) (bB:Nat→aH) (S:Nat→Nat→Prop),(∀ i j,bB i=bB j→i=j)→(∀ i id,bB i≠.obj id)→(∀ i id j,bB i≠.cell id j) →
  a9 bB U J S w T bh→aK B U J S w H →
  ∃ S':Nat→Nat→Prop,(∀ b o,S b o→S' b o)∧(∀ b o,S' b o→S b o∨∃ i,U b=some (bB i))∧aK B U J S' w H∧a9 bB U J S' w (T.map I.view) bh:=by
 intro T
 induction T with
 | nil=>intro bh bB S _ _ _ ae ah;exact ⟨S,fun _ _ h=>h,fun _ _ h=>.inl h,ah,by simpa using ae⟩
 | cons u T a_ =>
   intro bh bB S aw b7 ch ae ah;obtain ⟨v,hQ,rfl,aj,aq,ay⟩:=ae.gV;have first:∃ a8:Nat→Nat→Prop,(∀ b o,S b o→a8 b o)∧(∀ b o,a8 b o→S b o∨U b=some (bB 0))∧aK B U J a8 w H∧Rel J a8 w u.view v:=by
    by_cases hu:u.cR=true
    ·exact ⟨S,fun _ _ h=>h,fun _ _ h=>.inl h,ah,aj.view hu⟩
    ·obtain ⟨cells,len,z,rfl⟩:∃ cells len z,u=.ax cells len (.uniq z):=by
      unfold I.cR at hu;split at hu
      ·exact ⟨_,_,_,rfl⟩
      ·simp at hu
     obtain ⟨a8,aJ,aQ,cp,aT,_,_⟩:=kc ah aj aq;exact ⟨a8,aJ,aQ,ah.settle aJ (fun b o h=>(aQ b o h).imp id fun h=>⟨_,h,b7 0,ch 0⟩) cp,aT⟩
   (obtain ⟨a8,aJ,aQ,bW,dz⟩:=first);have w9:a9 (fun i=>bB (i+1)) U J a8 w T hQ:=by
    refine ⟨ay.len,fun i bG bn hu ae=>(ay.rel i bG bn hu ae).mono (Ext.refl J) fun b o ai=>⟨aJ b o ai,rfl⟩,fun i bG bn hu ae=>?_⟩;refine (ay.own i bG bn hu ae).mono (Ext.refl J) (fun b o ai=>⟨aJ b o ai,rfl⟩) fun b ag=>⟨ag,rfl,fun o ai=>?_⟩;rcases aQ b o ai with h | h
    ·exact h
    ·rw [ag] at h;injection h with h;exact absurd (aw _ _ h) (by omega)
   obtain ⟨S',dB,dq,b_,bf⟩:=a_ hQ (fun i=>bB (i+1)) a8 (fun i j h=>by have:=aw _ _ h;omega) (fun i=>b7 (i+1)) (fun i=>ch (i+1)) w9 bW;refine ⟨S',fun b o h=>dB b o (aJ b o h),fun b o h=>?_,b_,?_⟩
   ·rcases dq b o h with h | ⟨i,h⟩
    ·exact (aQ b o h).imp id fun h=>⟨0,h⟩
    ·exact .inr ⟨i+1,h⟩
   ·exact a9.cons (dz.mono (Ext.refl J) fun b o ai=>⟨dB b o ai,rfl⟩) (aW.b4 (I.dj _)) bf
theorem Rel.de {k:IntKind} {n:Int} {v:Value} (h:Rel J S w (.int k n) v):v=.int k n:=by cases h;rfl
theorem Rel.h0 {b:Bool} {v:Value} (h:Rel J S w (.bool b) v):v=.bool b:=by cases h;rfl
theorem Rel.BV {v:Value} (h:Rel J S w .dw v):∃ b,v=.bool b:=by cases h;exact ⟨_,rfl⟩
def fa (P:Program) (o:Oper) (aU:Operand→Value) (J:List Nat) (S:Nat→Nat→Prop) (w:World) (r:I):Prop :=
 ∃ v,(Go.execOp aU o).run P w=.ok (.value v) w∧Rel J S w r v
theorem zO {o:Oper} {aU:Operand→Value} {c a b:Operand} (aq:o.op=.pick c a b) {x:Bool} {fA gp:I} (ad:Rel J S w (.bool x) (aU c))
  (af:Rel J S w fA (aU a)) (aG:Rel J S w gp (aU b)):fa P o aU J S w (match x with | true=>fA | false=>gp):=by
 have e:=ad.h0;cases x with
 | true=>exact ⟨aU a,by simp [Go.execOp,aq,e,asBool],af⟩
 | false=>exact ⟨aU b,by simp [Go.execOp,aq,e,asBool],aG⟩
theorem Ej {o:Oper} {aU:Operand→Value} {x:Operand} (aq:o.op=.nilCheck x) {id off:Nat} (ad:Rel J S w (.ptr id off) (aU x)) :
  fa P o aU J S w (.ptr id off):=by
 refine ⟨aU x,?_,ad⟩;generalize ak:aU x=cz at ad ⊢;cases ad with
 | ptr id off b h=>simp [Go.execOp,aq,ak]
theorem Ek {o:Oper} {aU:Operand→Value} {x:Operand} (aq:o.op=.nilCheck x) {cells:List I} (ad:Rel J S w (.bU cells) (aU x)) :
  fa P o aU J S w (.bU cells):=by
 generalize ae:aU x=v at ad;have af:=ad;cases ad with
 | bU _ b cM f h aj=>exact ⟨.pointer (some ⟨b,cM,none⟩),by simp [Go.execOp,aq,ae],af⟩
theorem El {o:Oper} {aU:Operand→Value} {op:UnOp} {t:TypeId} {x:Operand} (aq:o.op=.unOp op t x) {u r:I} (aj:kn op u=some r) (ad:Rel J S w u (aU x)) :
  fa P o aU J S w r:=by
 unfold kn at aj;split at aj
 ·have e:=ad.h0;cases op <;> simp at aj;subst aj;exact ⟨_,by simp [Go.execOp,aq,e,Op.unary],.bool _⟩
 ·have e:=ad.de;cases op <;> simp at aj;subst aj;exact ⟨_,by simp [Go.execOp,aq,e,Op.unary,Op.intArith],.int _ _⟩
 ·simp at aj
theorem Eb {o:Oper} {aU:Operand→Value} {s d:TypeId} {x:Operand} (aq:o.op=.convert s d x) {u r:I} (aj:lI P s d u=some r) (ad:Rel J S w u (aU x)):fa P o aU J S w r:=by
 unfold lI at aj;split at aj
 ·have e:=ad.de;split at aj
  ·rename_i ds k CT av;simp at aj;subst aj;refine ⟨_,?_,.int _ _⟩;simp only [Go.execOp,aq,e,convert,Sem.run_bind,run_underlying CT,run_underlying av,Result.andThen_ok];cases ds <;> simp [Conv.intToInt]
  ·simp at aj
 ·simp at aj
theorem Eg {o:Oper} {aU:Operand→Value} {fn:Fn} {first captured:Array Operand} (aq:o.op=.makeFunc fn first captured) {us:List I} {r:I}
  (aj:mU fn first.size captured.size us=some r) {bB:Nat→aH} (ae:a9 bB U J S w us ((first++captured).toList.map aU)) (aB:∀ u∈us,u.plain=true) :
  fa P o aU J S w r:=by
 unfold mU at aj;split at aj
 ·rename_i f;split at aj
  ·rename_i ao;simp at aj;subst aj;refine ⟨.func (.func f) (first.map aU) (captured.map aU),by simp [Go.execOp,aq,Instr.makeFunc],.func f _ _ _ _ ?_ ?_ ?_ ?_ ?_ ?_⟩
   ·simp;omega
   ·simp;omega
   ·exact fun u hu=>aB u (vd hu)
   ·exact fun u hu=>aB u (vL hu)
   ·intro j u v hu bf;refine ae.rel j u v ?_ ?_
    ·rw [tp] at hu;split at hu <;> simp_all
    ·simp only [ve,su] at bf;obtain ⟨x,ak,rfl⟩:=bf;have:=(tt.1 ak).1;rw [sS this] at ak;cases ak;simp [sQ,this]
   ·intro j u v hu bf;refine ae.rel (first.size+j) u v ?_ ?_
    ·simpa [tr] using hu
    ·simp only [ve,su] at bf;obtain ⟨x,ak,rfl⟩:=bf;simp [s_,ak]
  ·simp at aj
 ·simp at aj
theorem Ed {o:Oper} {aU:Operand→Value} {x:Operand} {i:Nat} (aq:o.op=.extract x i) {u r:I} (aj:nh i u=some r) (ad:Rel J S w u (aU x)) :
  fa P o aU J S w r.view:=by
 unfold nh at aj;generalize ak:aU x=cz at ad;split at aj
 ·cases ad with
  | tuple as vs h p m2 =>
    have aS:=(sv.1 aj).1;have ae:vs[i]?=some (vs[i]'(by omega)):=sS _;have aB:r.plain=true:=p r (sZ aj);refine ⟨vs[i]'(by omega),?_,?_⟩
    ·simp [Go.execOp,aq,ak,Instr.extract,ae]
    ·rw [I.kk aB];exact m2 i _ _ aj ae
 ·simp at aj
theorem Fg {op:BinOp} {t:TypeId} {x y:Operand} {k k':IntKind} {a b:Int}:(eqGuard op t x y (.int k a) (.int k' b)).run P w=.ok () w:=by
 unfold eqGuard;split <;> simp
theorem Ff {op:BinOp} {t:TypeId} {k k':IntKind} {a b:Int} {r:I} (aj:fq P op t (.int k a) (.int k' b)=some r) :
  ∃ v,(Go.binOp op t (.int k a) (.int k' b)).run P w=.ok v w∧Rel J S w r v:=by
 have Fz:∀ mS,(mS=.shl∨mS=.shr)→hy mS k a b=some r→∃ v,(Op.shift mS k a k' b).run P w=.ok v w∧Rel J S w r v:=by
  intro mS aD h;unfold hy at h;split at h
  ·simp at h
  ·rename_i ag;rcases aD with rfl | rfl <;> simp at h <;> subst h
   ·exact ⟨_,by simp [Op.shift,ag],.int _ _⟩
   ·exact ⟨_,by simp [Op.shift,ag],.int _ _⟩
 have B0:k=k'→jv op k a b=some r→∃ v,(Go.binOp op t (.int k a) (.int k' b)).run P w=.ok v w∧Rel J S w r v:=by
  rintro rfl h;cases op <;> simp only [jv,Option.some.injEq,reduceCtorEq] at h
  case quo =>
   split at h
   ·simp at h
   ·rename_i ag;simp at h;subst h;exact ⟨_,by simp [Go.binOp,Op.intDiv,ag],.int _ _⟩
  case rem =>
   split at h
   ·simp at h
   ·rename_i ag;simp at h;subst h;exact ⟨_,by simp [Go.binOp,Op.intDiv,ag],.int _ _⟩
  all_goals subst h
  all_goals first
   | (refine ⟨_,?_,.bool _⟩;simp [Go.binOp,Op.intCmp];done)
   | (refine ⟨_,?_,.int _ _⟩;simp [Go.binOp,Op.intArith];done)
   | (refine ⟨_,?_,.int _ _⟩;simp [Go.binOp,Op.intBits];done)
 unfold fq at aj;cases op <;> simp only at aj <;> first
  | (obtain ⟨v,ad,af⟩:=Fz _ (by simp) aj;exact ⟨v,by simpa [Go.binOp] using ad,af⟩)
  | (split at aj
     ·exact B0 ‹_› aj
     ·simp at aj)
theorem Ea {o:Oper} {aU:Operand→Value} {op:BinOp} {t iu:TypeId} {x y:Operand} (aq:o.op=.binOp op t x y iu) {k k':IntKind} {a b:Int} {r:I}
  (aj:fq P op t (.int k a) (.int k' b)=some r) (ad:Rel J S w (.int k a) (aU x)) (af:Rel J S w (.int k' b) (aU y)):fa P o aU J S w r:=by
 obtain ⟨v,ae,b1⟩:=Ff (P:=P) (w:=w) (J:=J) (S:=S) (t:=t) aj;refine ⟨v,?_,b1⟩;simp only [Go.execOp,aq,ad.de,af.de,Sem.run_bind,Fg,ae,Result.andThen_ok,Sem.run_pure]
theorem m8 {t:TypeId} {s:Nat} (h:bD P t=some s):∃ i,P.info? t=some i∧i.size=s:=by
 simp only [bD,su] at h;exact h
theorem run_sizeOf {t:TypeId} {s:Nat} (h:bD P t=some s):(sizeOf t).run P w=.ok s w:=by
 obtain ⟨i,hi,rfl⟩:=m8 h;simp [sizeOf,typeInfo,hi]
theorem gR {t:TypeId} {d:TypeDesc} (h:P.underlying t=some d):(isAgg t).run P w=.ok (dJ P t) w:=by
 simp only [isAgg,dJ,h,Sem.run_bind,run_underlying h,Result.andThen_ok];cases d <;> simp
theorem lR {i:Int} {len j:Nat} (h:gY i len=some j):0≤i∧i<len∧j=i.toNat:=by
 unfold gY at h;split at h
 ·simp at h;exact ⟨by omega,by omega,h.symm⟩
 ·simp at h
theorem add_lit (b o n:Nat):(⟨b,o,none⟩:Addr).add n=⟨b,o+n,none⟩:=by
 unfold Addr.add;split <;> simp_all
theorem Rel.drop {cells:List I} {b o:Nat} {f:Nat→Value} (n:Nat)
  (h:∀ (j:Nat) (u:I),cells[j]?=some u→S b (o+j)∧w.cell? ⟨b,o+j,none⟩=some (f j)∧u.plain=true∧(f j).oneCell'=true)
  (aj:∀ (j:Nat) (u:I),cells[j]?=some u→Rel J S w u (f j)):Rel J S w (.bU (cells.drop n)) (.pointer (some ⟨b,o+n,none⟩)):=by
 refine .bU _ b (o+n) (fun j=>f (n+j)) (fun j u hu=>?_) (fun j u hu=>?_)
 ·rw [tr] at hu;have:=h (n+j) u hu
  rwa [show o+n+j=o+(n+j) by omega]
 ·rw [tr] at hu;exact aj (n+j) u hu
theorem Ei {o:Oper} {aU:Operand→Value} {t:TypeId} {x i:Operand} (aq:o.op=.indexAddr t x i) {fA gp r:I} (aj:hY P t fA gp=some r)
  (ad:Rel J S w fA (aU x)) (af:Rel J S w gp (aU i)) (aN:fA.cR=true):fa P o aU J S w r:=by
 unfold hY at aj;generalize ak:aU x=cz at ad;split at aj
 ·rename_i a3;simp only [sE,su] at aj;obtain ⟨s,ai,j,aw,rfl⟩:=aj;obtain ⟨dB,dq,rfl⟩:=lR aw;have e:=af.de;cases ad with
  | b2 c a=>exact absurd dq (by simp;omega)
  | cK=>simp [I.cR] at aN
  | ax cells len c b j3 cap f al hle hu h fu =>
    refine ⟨_,?_,Rel.drop _ h fu⟩;simp [Go.execOp,aq,ak,e,Instr.indexAt,asIntOf,run_underlying a3,dB,dq,run_sizeOf ai,add_lit]
 ·rename_i a3;simp only [sE,su] at aj;obtain ⟨s,ai,j,aw,rfl⟩:=aj;obtain ⟨dB,dq,rfl⟩:=lR aw;have e:=af.de;cases ad with
  | ref id off len c sz b cap h al hle =>
    refine ⟨_,?_,.ptr _ _ b h⟩;simp [Go.execOp,aq,ak,e,Instr.indexAt,asIntOf,run_underlying a3,dB,dq,run_sizeOf ai,add_lit]
 ·rename_i a3;simp only [sE,su] at aj;obtain ⟨s,ai,j,aw,rfl⟩:=aj;obtain ⟨dB,dq,rfl⟩:=lR aw;have e:=af.de;cases ad with
  | ptr id off b h =>
    refine ⟨_,?_,.ptr _ _ b h⟩;simp [Go.execOp,aq,ak,e,Instr.indexAt,asIntOf,Instr.sureAddr,run_underlying a3,dB,dq,run_sizeOf ai,add_lit]
 ·rename_i a3;simp only [sE,su] at aj;obtain ⟨s,ai,j,aw,rfl⟩:=aj;obtain ⟨dB,dq,rfl⟩:=lR aw;have e:=af.de;cases ad with
  | bU cells b j3 f h fu =>
    refine ⟨_,?_,Rel.drop _ h fu⟩;simp [Go.execOp,aq,ak,e,Instr.indexAt,asIntOf,Instr.sureAddr,run_underlying a3,dB,dq,run_sizeOf ai,add_lit]
 ·simp at aj
theorem AZ {b o s:Nat} {g:Field} (ai:bD P g.type=some s) (aV:s≠0):(fieldPlace ⟨b,o,none⟩ g).run P w=.ok ⟨b,o+g.offset,none⟩ w:=by
 simp [fieldPlace,run_sizeOf ai,aV,add_lit]
theorem Ef {o:Oper} {aU:Operand→Value} {t:TypeId} {x:Operand} {l0:Nat} (aq:o.op=.fieldAddr t x l0) {u r:I} (aj:jw P t u l0=some r)
  (ad:Rel J S w u (aU x)):fa P o aU J S w r:=by
 unfold jw at aj;generalize ak:aU x=cz at ad;split at aj
 ·rename_i a3;simp only [sE] at aj;obtain ⟨g,aO,s,ai,aj⟩:=aj;split at aj
  ·simp at aj
  ·rename_i aV;simp at aj;subst aj;cases ad with
   | ptr id off b h =>
     refine ⟨_,?_,.ptr _ _ b h⟩;simp [Go.execOp,aq,ak,Instr.fieldAt,Instr.sureAddr,run_underlying a3,aO,AZ ai aV]
 ·rename_i a3;simp only [sE] at aj;obtain ⟨g,aO,s,ai,aj⟩:=aj;split at aj
  ·simp at aj
  ·rename_i aV;simp at aj;subst aj;cases ad with
   | bU cells b j3 f h fu =>
     refine ⟨_,?_,Rel.drop _ h fu⟩;simp [Go.execOp,aq,ak,Instr.fieldAt,Instr.sureAddr,run_underlying a3,aO,AZ ai aV]
 ·simp at aj
theorem zr {t:TypeId} (h:dJ P t=true):∃ d,P.underlying t=some d:=by
 unfold dJ at h;split at h <;> first | exact ⟨_,by assumption⟩ | simp at h
theorem A3 {t:TypeId} {as:List I} {vs:Array Value} {off:Nat} {r:I} (aj:iA P t as off=some r) (ao:vs.size=as.length)
  (aB:∀ u∈as,u.plain=true) (ev:∀ v∈vs.toList,v.oneCell'=true) (b1:∀ (j:Nat) (u:I) (v:Value),as[j]?=some u→vs[j]?=some v→Rel J S w u v) :
  ∃ v,(part t vs off).run P w=.ok v w∧Rel J S w r v∧r.plain=true:=by
 unfold iA at aj;cases cf:dJ P t with
 | true =>
   obtain ⟨d,a3⟩:=zr cf;rw [cf] at aj;simp only [sE] at aj;obtain ⟨s,ai,aj⟩:=aj;split at aj
   ·rename_i hle;simp at aj;subst aj;refine ⟨.agg (vs.extract off (off+s)),by simp [part,gR a3,cf,run_sizeOf ai],.agg _ _ ?_ ?_ ?_ ?_,rfl⟩
    ·simp;omega
    ·exact fun u hu=>aB u (vL (vd hu))
    ·exact fun v ae=>ev v (by rw [Array.toList_extract] at ae;exact vL (vd ae))
    ·intro j u v hu ae;rw [tp] at hu;split at hu
     ·rw [tr] at hu;rw [Array.getElem?_extract] at ae;split at ae
      ·exact b1 _ u v hu ae
      ·simp at ae
     ·simp at hu
   ·simp at aj
 | false =>
   rw [cf] at aj;simp only at aj;split at aj
   ·rename_i d a3;have aS:=(sv.1 aj).1;have ae:vs[off]?=some (vs[off]'(by omega)):=sS _;exact ⟨_,by simp [part,gR a3,cf,ae],b1 off _ _ aj ae,aB r (sZ aj)⟩
   ·simp at aj
theorem Ee {o:Oper} {aU:Operand→Value} {t:TypeId} {x:Operand} {l0:Nat} (aq:o.op=.field t x l0) {u r:I} (aj:ni P t u l0=some r)
  (ad:Rel J S w u (aU x)):fa P o aU J S w r.view:=by
 unfold ni at aj;generalize ak:aU x=cz at ad;split at aj
 ·rename_i a3;simp only [sE] at aj;obtain ⟨g,aO,aj⟩:=aj;cases ad with
  | agg as vs h p one m2 =>
    obtain ⟨v,ae,b1,g8⟩:=A3 (w:=w) aj h p one m2;refine ⟨v,?_,by rw [I.kk g8];exact b1⟩;simp [Go.execOp,aq,ak,Instr.field,run_underlying a3,aO,asAgg,ae]
 ·simp at aj
theorem Eh {o:Oper} {aU:Operand→Value} {t:TypeId} {x i:Operand} (aq:o.op=.index t x i) {fA gp r:I} (aj:oQ P t fA gp=some r)
  (ad:Rel J S w fA (aU x)) (af:Rel J S w gp (aU i)):fa P o aU J S w r.view:=by
 unfold oQ at aj;generalize ak:aU x=cz at ad;split at aj
 ·rename_i a3;simp only [sE] at aj;obtain ⟨s,ai,j,aw,aj⟩:=aj;obtain ⟨dB,dq,rfl⟩:=lR aw;have e:=af.de;cases ad with
  | agg as vs h p one m2 =>
    obtain ⟨v,ae,b1,g8⟩:=A3 (w:=w) aj h p one m2;refine ⟨v,?_,by rw [I.kk g8];exact b1⟩;simp [Go.execOp,aq,ak,e,Instr.index,asIntOf,run_underlying a3,dB,dq,run_sizeOf ai,ae]
 ·rename_i b k n a3;have e:=af.de;split at aj
  ·rename_i aV;simp only [su] at aj;obtain ⟨y,aZ,rfl⟩:=aj;cases ad with
   | str b =>
     refine ⟨_,?_,.int _ _⟩;simp [Go.execOp,aq,ak,e,Instr.index,asIntOf,run_underlying a3,aV,aZ]
  ·simp at aj
 ·simp at aj
theorem Fi {t e:TypeId} (d:Nat) (ay:P.underlying t=some (.slice e)) (a:Addr) (len cap:Nat) :
  (Op.equalIn (d+1) t (.slice (some a) len cap) (.slice none 0 0)).run P w=.ok false w:=by
 rw [Op.equalIn];simp [run_underlying ay]
theorem ox {t e:TypeId} (ay:P.underlying t=some (.slice e)) (a:Addr) (len cap:Nat) :
  (Op.equal t (.slice (some a) len cap) (.slice none 0 0)).run P w=.ok false w:=Fi 9999 ay a len cap
theorem run_equalIn_bool {t:TypeId} (d:Nat) (ay:P.underlying t=some .bool) (a b:Bool):(Op.equalIn (d+1) t (.bool a) (.bool b)).run P w=.ok (a == b) w:=by
 rw [Op.equalIn];simp [run_underlying ay]
theorem run_equal_bool {t:TypeId} (ay:P.underlying t=some .bool) (a b:Bool):(Op.equal t (.bool a) (.bool b)).run P w=.ok (a == b) w:=run_equalIn_bool 9999 ay a b
theorem Fj {t e:TypeId} (d:Nat) (ay:P.underlying t=some (.slice e)) (len cap:Nat) :
  (Op.equalIn (d+1) t (.slice none len cap) (.slice none 0 0)).run P w=.ok true w:=by
 rw [Op.equalIn];simp [run_underlying ay]
theorem AY {t e:TypeId} (ay:P.underlying t=some (.slice e)) (len cap:Nat) :
  (Op.equal t (.slice none len cap) (.slice none 0 0)).run P w=.ok true w:=Fj 9999 ay len cap
theorem Ec {o:Oper} {aU:Operand→Value} {op:BinOp} {t iu:TypeId} {x y:Operand} (aq:o.op=.binOp op t x y iu) (aZ:iR y=true) {u r:I}
  (aj:ng P op t u=some r) (ad:Rel J S w u (aU x)) (eW:∀ v,aU (.const v)=v):fa P o aU J S w r:=by
 have DI:y=.const (.slice none 0 0):=by
  unfold iR at aZ;split at aZ
  ·rfl
  ·simp at aZ
 subst DI;generalize ak:aU x=cz at ad;unfold ng at aj;split at aj
 ·rename_i e ay;have ai:((∃ b j3 len cap,cz=.slice (some ⟨b,j3,none⟩) len cap)∧((op=.eql∧r=.bool false)∨(op=.neq∧r=.bool true))) ∨
    ((∃ a len cap,cz=.slice a len cap)∧(op=.eql∨op=.neq)∧r=.dw):=by
   split at aj
   ·refine .inl ⟨?_,by split at aj <;> simp_all⟩;cases ad with
    | ax cells len c b j3 cap f al hle hu h fu=>exact ⟨_,_,_,_,rfl⟩
    | cK=>exact ⟨_,_,_,_,rfl⟩
   ·refine .inl ⟨?_,by split at aj <;> simp_all⟩;cases ad with
    | ref id off len c sz b cap h al hle=>exact ⟨_,_,_,_,rfl⟩
   ·refine .inr ⟨?_,by split at aj <;> simp_all⟩;cases ad with
    | b2 c a=>exact ⟨_,_,_,rfl⟩
    | ax cells len c b j3 cap f al hle hu h fu=>exact ⟨_,_,_,rfl⟩
    | cK=>exact ⟨_,_,_,rfl⟩
   ·simp at aj
  rcases ai with ⟨⟨b,j3,len,cap,rfl⟩,⟨rfl,rfl⟩ | ⟨rfl,rfl⟩⟩ | ⟨⟨a,len,cap,rfl⟩,aD,rfl⟩
  ·exact ⟨.bool false,by simp [Go.execOp,aq,ak,eW,eqGuard,Go.binOp,ox ay],.bool _⟩
  ·exact ⟨.bool true,by simp [Go.execOp,aq,ak,eW,eqGuard,Go.binOp,ox ay],.bool _⟩
  ·rcases aD with rfl | rfl
   ·cases a with
    | none=>exact ⟨.bool true,by simp [Go.execOp,aq,ak,eW,eqGuard,Go.binOp,AY ay],.dw _⟩
    | some a=>exact ⟨.bool false,by simp [Go.execOp,aq,ak,eW,eqGuard,Go.binOp,ox ay],.dw _⟩
   ·cases a with
    | none=>exact ⟨.bool false,by simp [Go.execOp,aq,ak,eW,eqGuard,Go.binOp,AY ay],.dw _⟩
    | some a=>exact ⟨.bool true,by simp [Go.execOp,aq,ak,eW,eqGuard,Go.binOp,ox ay],.dw _⟩
 ·simp at aj
theorem D' {o:Oper} {aU:Operand→Value} {op:BinOp} {t iu:TypeId} {x y:Operand} (aq:o.op=.binOp op t x y iu) {a b:Bool} {r:I}
  (aj:fq P op t (.bool a) (.bool b)=some r) (ad:Rel J S w (.bool a) (aU x)) (af:Rel J S w (.bool b) (aU y)):fa P o aU J S w r:=by
 simp only [fq] at aj;have e1:=ad.h0;have ca:=af.h0;split at aj
 ·rename_i ay;simp at aj;subst aj;exact ⟨_,by simp [Go.execOp,aq,e1,ca,eqGuard,Go.binOp,run_equal_bool ay],.bool _⟩
 ·rename_i ay;simp at aj;subst aj;exact ⟨_,by simp [Go.execOp,aq,e1,ca,eqGuard,Go.binOp,run_equal_bool ay],.bool _⟩
 ·simp at aj
theorem nv {x y:I} {xs ys:List I} {e:Bool} (h:dM (x::xs) (y::ys)=some e) :
  ∃ k a b cX,x=.int k a∧y=.int k b∧dM xs ys=some cX∧e=((a == b) && cX):=by
 cases x <;> cases y <;> simp only [dM,reduceCtorEq] at h;split at h
 ·rename_i av;subst av;simp only [su] at h;obtain ⟨cX,ad,af⟩:=h;exact ⟨_,_,_,cX,rfl,rfl,ad,af.symm⟩
 ·simp at h
theorem Fe {e:TypeId} {df:IntKind} (d:Nat) (he:P.underlying e=some (.int df)) (ai:dJ P e=false):∀ (xs ys:List I) (vs ws:List Value) (off:Nat) (eq:Bool),
  dM xs ys=some eq→a9 (fun _=>.res) U J S w xs vs→a9 (fun _=>.res) U J S w ys ws→∀ (V W:Array Value),(∀ j,vs[j]?=V[off+j]?)→(∀ j,ws[j]?=W[off+j]?) →
  (forIn (List.range' off xs.length) ((none,()):Option Bool×PUnit) (fun i (_:Option Bool×PUnit)=>(do
    let a ←part e V i
    let b ←part e W i
    let c ←Op.equalIn (d+1) e a b
    if c=false then pure (ForInStep.done (some false,())) else pure (ForInStep.yield (none,())):Sem (ForInStep (Option Bool×PUnit))))).run P w =
   .ok (if eq then none else some false,()) w:=by
 intro xs
 induction xs with
 | nil=>intro ys vs ws off eq h _ _ V W _ _;cases ys <;> simp [dM] at h;subst h;simp
 | cons x xs a_ =>
   intro ys vs ws off eq h ae hw V W jE l6;cases ys with
   | nil=>cases x <;> simp [dM] at h
   | cons y ys =>
     obtain ⟨k,a,b,cX,rfl,rfl,aY,rfl⟩:=nv h;obtain ⟨v,cV,rfl,aT,_,bf⟩:=ae.gV;obtain ⟨w',yf,rfl,r2,_,mx⟩:=hw.gV;have e1:=aT.de;have ca:=r2.de;subst e1 ca;(have bS:V[off]?=some (.int k a):=by have:=jE 0;simpa using this.symm);(have bZ:W[off]?=some (.int k b):=by have:=l6 0;simpa using this.symm);have xi:=a_ ys cV yf (off+1) cX aY bf mx V W (fun j=>by have:=jE (j+1);simpa [tZ,tC 1] using this) (fun j=>by have:=l6 (j+1);simpa [tZ,tC 1] using this);(have q1:(part e V off).run P w=.ok (.int k a) w:=by simp [part,gR he,ai,bS]);(have aX:(part e W off).run P w=.ok (.int k b) w:=by simp [part,gR he,ai,bZ]);(have cy:(Op.equalIn (d+1) e (.int k a) (.int k b)).run P w=.ok (a == b) w:=by rw [Op.equalIn];simp [run_underlying he]);simp only [sV,List.range'_succ,wh,Sem.run_bind,q1,aX,cy,Result.andThen_ok];by_cases jF:a=b
     ·subst jF;simpa using xi
     ·simp [jF]
theorem Fh {t e:TypeId} {len:Nat} {df:IntKind} (d:Nat) (ay:P.underlying t=some (.array len e)) (he:P.underlying e=some (.int df)) (gJ:bD P e=some 1)
  {xs ys:List I} {V W:Array Value} {eq:Bool} (ak:xs.length=len) (h:dM xs ys=some eq) (aT:Rel J S w (.agg xs) (.agg V)) (r2:Rel J S w (.agg ys) (.agg W)) :
  (Op.equalIn (d+2) t (.agg V) (.agg W)).run P w=.ok eq w:=by
 have cf:dJ P e=false:=by unfold dJ;rw [he]
 rw [Op.equalIn];simp only [run_underlying ay,run_sizeOf gJ,Sem.run_bind,Result.andThen_ok];cases aT with
 | agg xs V ae bS bE q1 =>
   cases r2 with
   | agg ys W hw bZ bR aX =>
     have:=Fe (U:=fun _=>none) (P:=P) (w:=w) (J:=J) (S:=S) d he cf xs ys V.toList W.toList 0 eq h ⟨by simp [ae],fun i u v a b=>q1 i u v a (by simpa using b),fun i u v a _=>aW.b4 (bS u (sZ a))⟩
      ⟨by simp [hw],fun i u v a b=>aX i u v a (by simpa using b),fun i u v a _=>aW.b4 (bZ u (sZ a))⟩ V W (by simp) (by simp)
     rw [ak] at this;simp [this];cases eq <;> simp
theorem zp {f:Field} {bm:List Field} {n:Nat} (h:gL P (f::bm) n=true) :
  f.offset = n ∧ f.name ≠ "_" ∧ (∃ k, P.underlying f.type = some (.int k)) ∧ bD P f.type = some 1 ∧ dJ P f.type = false ∧ gL P bm (n + 1) = true := by
 simp only [gL,Bool.and_eq_true,beq_iff_eq,bne_iff_ne] at h;obtain ⟨⟨⟨ad,af⟩,aG⟩,a6⟩:=h;split at aG
 ·rename_i k hu ai;exact ⟨ad,af,⟨k,hu⟩,ai,by unfold dJ;rw [hu],a6⟩
 ·simp at aG
theorem Fl (d:Nat):∀ (bm:List Field) (xs ys:List I) (vs ws:List Value) (off:Nat) (eq:Bool),gL P bm off=true→xs.length=bm.length→ys.length=bm.length →
  dM xs ys=some eq→a9 (fun _=>.res) U J S w xs vs→a9 (fun _=>.res) U J S w ys ws→∀ (V W:Array Value),(∀ j,vs[j]?=V[off+j]?)→(∀ j,ws[j]?=W[off+j]?) →
  (forIn bm ((none,()):Option Bool×PUnit) (fun f (_:Option Bool×PUnit) =>
    if f.name = "_" then pure (ForInStep.yield (none, ())) else (do
    let a ←part f.type V f.offset
    let b ←part f.type W f.offset
    let c ←Op.equalIn (d+1) f.type a b
    if c=false then pure (ForInStep.done (some false,())) else pure (ForInStep.yield (none,())):Sem (ForInStep (Option Bool×PUnit))))).run P w =
   .ok (if eq then none else some false,()) w:=by
 intro bm
 induction bm with
 | nil =>
   intro xs ys vs ws off eq _ ak aZ h _ _ V W _ _;obtain rfl:=tu.1 ak;obtain rfl:=tu.1 aZ;simp [dM] at h;subst h;simp
 | cons f bm a_ =>
   intro xs ys vs ws off eq aP ak aZ h ae hw V W jE l6;cases xs with
   | nil=>simp at ak
   | cons x xs =>
     cases ys with
     | nil=>simp at aZ
     | cons y ys =>
       obtain ⟨k,a,b,cX,rfl,rfl,aY,rfl⟩:=nv h;obtain ⟨v,cV,rfl,aT,_,bf⟩:=ae.gV;obtain ⟨w',yf,rfl,r2,_,mx⟩:=hw.gV;obtain ⟨f1,f2,⟨df,f3⟩,f4,f5,f6⟩:=zp aP;have e1:=aT.de;have ca:=r2.de;subst e1 ca;(have bS:V[off]?=some (.int k a):=by have:=jE 0;simpa using this.symm);(have bZ:W[off]?=some (.int k b):=by have:=l6 0;simpa using this.symm);have xi:=a_ xs ys cV yf (off+1) cX f6 (by simpa using ak) (by simpa using aZ) aY bf mx V W (fun j=>by have:=jE (j+1);simpa [tZ,tC 1] using this) (fun j=>by have:=l6 (j+1);simpa [tZ,tC 1] using this);(have q1:(part f.type V f.offset).run P w=.ok (.int k a) w:=by simp [part,gR f3,f5,f1,bS]);(have aX:(part f.type W f.offset).run P w=.ok (.int k b) w:=by simp [part,gR f3,f5,f1,bZ]);(have cy:(Op.equalIn (d+1) f.type (.int k a) (.int k b)).run P w=.ok (a == b) w:=by rw [Op.equalIn];simp [run_underlying f3]);simp only [wh,f2,if_false,Sem.run_bind,q1,aX,cy,Result.andThen_ok];by_cases jF:a=b
       ·subst jF;simpa using xi
       ·simp [jF]
theorem run_equalIn_struct {t:TypeId} {bm:Array Field} (d:Nat) (ay:P.underlying t=some (.struct bm)) (aP:gL P bm.toList 0=true) (h':P.stoodInHeld t=false)
  {xs ys:List I} {V W:Array Value} {eq:Bool} (ak:xs.length=bm.size) (aZ:ys.length=bm.size) (h:dM xs ys=some eq) (aT:Rel J S w (.agg xs) (.agg V)) (r2:Rel J S w (.agg ys) (.agg W)) :
  (Op.equalIn (d+2) t (.agg V) (.agg W)).run P w=.ok eq w:=by
 rw [Op.equalIn];cases aT with
 | agg xs V ae bS bE q1 =>
   cases r2 with
   | agg ys W hw bZ bR aX =>
     have:=Fl (U:=fun _=>none) (P:=P) (w:=w) (J:=J) (S:=S) d bm.toList xs ys V.toList W.toList 0 eq aP (by simpa using ak) (by simpa using aZ) h ⟨by simp [ae],fun i u v a b=>q1 i u v a (by simpa using b),fun i u v a _=>aW.b4 (bS u (sZ a))⟩
      ⟨by simp [hw],fun i u v a b=>aX i u v a (by simpa using b),fun i u v a _=>aW.b4 (bZ u (sZ a))⟩ V W (by simp) (by simp)
     simp only [run_underlying ay,Sem.run_bind,Result.andThen_ok,program,Sem.run,h'];rw [Array.forIn_toList] at this;simp [this];cases eq <;> simp
theorem D_ {o:Oper} {aU:Operand→Value} {op:BinOp} {t iu:TypeId} {x y:Operand} (aq:o.op=.binOp op t x y iu) {xs ys:List I} {r:I}
  (aj:fq P op t (.agg xs) (.agg ys)=some r) (ad:Rel J S w (.agg xs) (aU x)) (af:Rel J S w (.agg ys) (aU y)):fa P o aU J S w r:=by
 simp only [fq] at aj;split at aj
 ·rename_i len e ay;split at aj
  ·rename_i df he gJ;split at aj
   ·rename_i al;obtain ⟨ak,aZ,aO⟩:=al;generalize gi:aU x=cz at ad;generalize mw:aU y=yd at af;(have e1:∃ V,cz=.agg V:=by cases ad with | agg as vs=>exact ⟨_,rfl⟩);(have ca:∃ V,yd=.agg V:=by cases af with | agg as vs=>exact ⟨_,rfl⟩);obtain ⟨V,rfl⟩:=e1;obtain ⟨W,rfl⟩:=ca;have key:∀ eq,dM xs ys=some eq→(Op.equal t (.agg V) (.agg W)).run P w=.ok eq w:=fun eq h=>Fh 9998 ay he gJ ak h ad af;split at aj
    ·simp only [su] at aj;obtain ⟨eq,h,rfl⟩:=aj;exact ⟨.bool eq,by simp [Go.execOp,aq,gi,mw,eqGuard,aO,Go.binOp,key eq h,program,Sem.run],.bool _⟩
    ·simp only [su] at aj;obtain ⟨eq,h,rfl⟩:=aj;exact ⟨.bool (!eq),by simp [Go.execOp,aq,gi,mw,eqGuard,aO,Go.binOp,key eq h,program,Sem.run],.bool _⟩
    ·simp at aj
   ·simp at aj
  ·simp at aj
 ·rename_i bm ay;split at aj
  ·rename_i al;obtain ⟨aP,h',ak,aZ,aO⟩:=al;generalize gi:aU x=cz at ad;generalize mw:aU y=yd at af;(have e1:∃ V,cz=.agg V:=by cases ad with | agg as vs=>exact ⟨_,rfl⟩);(have ca:∃ V,yd=.agg V:=by cases af with | agg as vs=>exact ⟨_,rfl⟩);obtain ⟨V,rfl⟩:=e1;obtain ⟨W,rfl⟩:=ca;have key:∀ eq,dM xs ys=some eq→(Op.equal t (.agg V) (.agg W)).run P w=.ok eq w:=fun eq h=>run_equalIn_struct 9998 ay aP h' ak aZ h ad af;split at aj
   ·simp only [su] at aj;obtain ⟨eq,h,rfl⟩:=aj;exact ⟨.bool eq,by simp [Go.execOp,aq,gi,mw,eqGuard,aO,Go.binOp,key eq h,program,Sem.run],.bool _⟩
   ·simp only [su] at aj;obtain ⟨eq,h,rfl⟩:=aj;exact ⟨.bool (!eq),by simp [Go.execOp,aq,gi,mw,eqGuard,aO,Go.binOp,key eq h,program,Sem.run],.bool _⟩
   ·simp at aj
  ·simp at aj
 ·simp at aj
end
end Go.Proofs.YtfakoboiahbhaaaGreat.Ab


namespace Go.Proofs.YtfakoboiahbhaaaGreat.Ab
open Go
section
variable {P:Program} {B:Nat} {J:List Nat} {w:World} {H:List ar} {U:Nat→Option aH} {S:Nat→Nat→Prop}
def eP (J:List Nat) (S:Nat→Nat→Prop) (w:World):Option I→Option Value→Prop
 | none,none=>True
 | some u,some v=>Rel J S w u v
 | _,_=>False
theorem m3 {x:Option I} {v:Option Value} {d y yg r:Nat} (h:cH x d y=some r) (ak:eP J S w x v) (aZ:y≤yg) :
  (∃ k n,v=some (.int k n)∧x.isSome∧(∀ code,(Instr.sliceBound (.int k n) yg code).run P w=.ok r w)∧r≤y)∨(v=none∧x=none∧r=d):=by
 unfold cH at h;split at h
 ·cases v with
  | none=>simp at h;exact .inr ⟨rfl,rfl,h.symm⟩
  | some v=>simp [eP] at ak
 ·cases v with
  | none=>simp [eP] at ak
  | some v =>
    have e:=Rel.de ak;subst e;split at h
    ·rename_i ag;simp at h;subst h;refine .inl ⟨_,_,rfl,rfl,fun code=>?_,by omega⟩;have ad:=ag.1;have af:_≤(yg:Int):=Int.le_trans ag.2 (Int.ofNat_le.2 aZ);simp [Instr.sliceBound,asIntOf,ad,af]
    ·simp at h
 ·simp at h
theorem hO {lo hi:Option I} {lo' hi':Option Value} {isS:Bool} {len cap h l:Nat} (bI:cH hi len len=some h) (ao:cH lo 0 h=some l) (hle:len≤cap)
  (aT:eP J S w lo lo') (r2:eP J S w hi hi'):(Instr.sliceBounds isS len cap lo' hi' none).run P w=.ok (l,h,cap) w∧l≤h∧h≤len:=by
 rcases m3 (P:=P) bI r2 hle with ⟨k,n,rfl,_,q,ag⟩ | ⟨rfl,_,rfl⟩ <;> rcases m3 (P:=P) ao aT (sB _) with ⟨k',iU,rfl,_,fT,bu⟩ | ⟨rfl,_,rfl⟩ <;>
  refine ⟨?_,by omega,by omega⟩ <;> simp [Instr.sliceBounds, *]
theorem xY {lo hi gM:Option I} {lo' hi' iT:Option Value} {isS:Bool} {len cap m h l:Nat} (hm:cH gM len len=some m) (De:gM.isSome) (C4:hi.isSome)
  (bI:cH hi m m=some h) (ao:cH lo 0 h=some l) (hle:len≤cap)
  (aT:eP J S w lo lo') (r2:eP J S w hi hi') (eL:eP J S w gM iT):(Instr.sliceBounds isS len cap lo' hi' iT).run P w=.ok (l,h,m) w∧l≤h∧h≤m∧m≤len:=by
 rcases m3 (P:=P) hm eL hle with ⟨k,n,rfl,_,q,ag⟩ | ⟨rfl,rfl,_⟩
 ·rcases m3 (P:=P) bI r2 (sB _) with ⟨aQ,ch,rfl,_,aX,gH⟩ | ⟨rfl,rfl,_⟩
  ·rcases m3 (P:=P) ao aT (sB _) with ⟨k',iU,rfl,_,fT,bu⟩ | ⟨rfl,_,rfl⟩ <;>
    refine ⟨?_,by omega,by omega,by omega⟩ <;> simp [Instr.sliceBounds, *]
  ·simp at C4
 ·simp at De
theorem Rel.sub {cells:List I} {b o cap' n k:Nat} {f:Nat→Value} (d:Nat) (dX:hv) (al:dX=.full→cap'=n) (hle:n≤cap') (hu:∀ z,dX≠.uniq z)
  (h:∀ (j:Nat) (u:I),cells[j]?=some u→S b (o+j)∧w.cell? ⟨b,o+j,none⟩=some (f j)∧u.plain=true∧(f j).oneCell'=true)
  (aj:∀ (j:Nat) (u:I),cells[j]?=some u→Rel J S w u (f j)):Rel J S w (.ax ((cells.drop d).take k) n dX) (.slice (some ⟨b,o+d,none⟩) n cap'):=by
 refine .ax _ n dX b (o+d) cap' (fun j=>f (d+j)) al hle hu (fun j u b'=>?_) (fun j u b'=>?_)
 ·rw [tp] at b';split at b'
  ·rw [tr] at b';have:=h (d+j) u b'
   rwa [show o+d+j=o+(d+j) by omega]
  ·simp at b'
 ·rw [tp] at b';split at b'
  ·rw [tr] at b';exact aj (d+j) u b'
  ·simp at b'
theorem Rel.empty (c:hv) (hu:∀ z,c≠.uniq z) (b o cap:Nat) (al:c=.full→cap=0):Rel J S w (.ax [] 0 c) (.slice (some ⟨b,o,none⟩) 0 cap) :=
 .ax [] 0 c b o cap (fun _=>undef) al (Nat.zero_le _) hu (by simp) (by simp)
theorem Fk {t:TypeId} {u r:I} {x:Value} {lo hi gM:Option I} {lo' hi' iT:Option Value} (aj:e2 P t u lo hi gM=some r) (aB:u.plain=true)
  (ad:Rel J S w u x) (aT:eP J S w lo lo') (r2:eP J S w hi hi') (eL:eP J S w gM iT) :
  ∃ v,(Instr.sliceAt t x lo' hi' iT).run P w=.ok v w∧Rel J S w r v∧r.plain=true:=by
 unfold e2 at aj;split at aj
 ·rename_i e cells len c a3;simp only [sE] at aj;obtain ⟨s,ai,aj⟩:=aj;have pl:∀ (cs:List I) (n:Nat) (p:Prop) [Decidable p],(I.ax cs n (if p then .full else .shared)).plain=true:=fun cs n p _=>by split <;> rfl
  have pB:∀ (p:Prop) [Decidable p] (z:Nat),(if p then hv.full else hv.shared)≠.uniq z:=fun p _ z=>by split <;> simp
  split at aj
  ·simp only [sE] at aj;obtain ⟨h,bI,l,ao,aj⟩:=aj;simp at aj;subst aj;cases iT with
   | some _=>simp [eP] at eL
   | none =>
   cases ad with
   | b2 c a =>
     obtain ⟨q,q1,aX⟩:=hO (P:=P) (isS:=true) (cap:=0) bI ao (by omega) aT r2;(obtain rfl:h=0:=by omega);(obtain rfl:l=0:=by omega);exact ⟨.slice a 0 0,by cases a <;> simp [Instr.sliceAt,Instr.slice,run_underlying a3,q,run_sizeOf ai,Addr.add],by simpa using .b2 _ _,pl _ _ _⟩
   | cK=>simp [I.plain] at aB
   | ax cells len c b o cap f al hle hu bx b1 =>
     obtain ⟨q,q1,aX⟩:=hO (P:=P) (isS:=true) (cap:=cap) bI ao hle aT r2;refine ⟨_,by simp [Instr.sliceAt,Instr.slice,run_underlying a3,q,run_sizeOf ai];rfl,?_,pl _ _ _⟩;by_cases eu:cap=l
     ·(obtain rfl:h=l:=by omega);simp only [eu,if_true,tY,vN,tD];exact Rel.empty _ (pB _) _ _ _ (by simp)
     ·simp only [eu,if_false,add_lit];refine Rel.sub _ _ (fun he=>?_) (by omega) (pB _) bx b1;split at he
      ·rename_i h2;rw [al h2.1,h2.2]
      ·simp at he
  ·rename_i GZ GO;simp only [sE] at aj;obtain ⟨m,hm,h,bI,l,ao,aj⟩:=aj;simp at aj;subst aj;cases ad with
   | b2 c a =>
     obtain ⟨q,q1,aX,cy⟩:=xY (P:=P) (isS:=true) (cap:=0) hm rfl rfl bI ao (by omega) aT r2 eL;(obtain rfl:m=0:=by omega);(obtain rfl:h=0:=by omega);(obtain rfl:l=0:=by omega);exact ⟨.slice a 0 0,by cases a <;> simp [Instr.sliceAt,Instr.slice,run_underlying a3,q,run_sizeOf ai,Addr.add],by simpa using .b2 _ _,pl _ _ _⟩
   | cK=>simp [I.plain] at aB
   | ax cells len c b o cap f al hle hu bx b1 =>
     obtain ⟨q,q1,aX,cy⟩:=xY (P:=P) (isS:=true) (cap:=cap) hm rfl rfl bI ao hle aT r2 eL;refine ⟨_,by simp [Instr.sliceAt,Instr.slice,run_underlying a3,q,run_sizeOf ai];rfl,?_,pl _ _ _⟩;by_cases eu:m=l
     ·(obtain rfl:h=l:=by omega);simp only [eu,if_true,tY,vN,tD];exact Rel.empty _ (by simp) _ _ _ (by simp)
     ·simp only [eu,if_false,add_lit];refine Rel.sub _ _ (fun he=>?_) (by omega) (pB _) bx b1;split at he
      ·rename_i h2;rw [h2]
      ·simp at he
  ·simp at aj
 ·rename_i e id off len cap sz a3;simp only [sE] at aj;obtain ⟨s,ai,aj⟩:=aj;split at aj
  ·simp at aj
  ·rename_i bP;(obtain rfl:s=sz:=by simpa using bP);split at aj
   ·simp only [sE] at aj;obtain ⟨h,bI,l,ao,aj⟩:=aj;cases iT with
    | some _=>simp [eP] at eL
    | none =>
    cases ad with
    | ref id off len c sz b cap' ag al hle =>
      obtain ⟨q,q1,aX⟩:=hO (P:=P) (isS:=true) (cap:=cap') bI ao hle aT r2;split at aj
      ·rename_i GV;simp at aj;subst aj
       have:cap'≠l:=by omega
       refine ⟨_,by simp [Instr.sliceAt,Instr.slice,run_underlying a3,q,run_sizeOf ai,this,add_lit];rfl,.ref _ _ _ _ _ b _ ag (fun n aN=>?_) (by omega),rfl⟩;simp only [su] at aN;obtain ⟨c0,CL,rfl⟩:=aN;rw [al c0 CL]
      ·simp at aj;subst aj;(obtain rfl:h=l:=by omega);refine ⟨_,by simp [Instr.sliceAt,Instr.slice,run_underlying a3,q,run_sizeOf ai];rfl,?_,rfl⟩;split
       ·exact Rel.empty _ (by simp) _ _ _ (by simp)
       ·simp only [add_lit];exact Rel.empty _ (by simp) _ _ _ (by simp)
   ·simp only [sE] at aj;obtain ⟨m,hm,h,bI,l,ao,aj⟩:=aj;cases ad with
    | ref id off len c sz b cap' ag al hle =>
      obtain ⟨q,q1,aX,cy⟩:=xY (P:=P) (isS:=true) (cap:=cap') hm rfl rfl bI ao hle aT r2 eL;split at aj
      ·rename_i eu;split at aj
       ·rename_i jN;simp at aj;subst aj;refine ⟨_,by simp [Instr.sliceAt,Instr.slice,run_underlying a3,q,run_sizeOf ai,eu];rfl,.ref _ _ _ _ _ b _ ag (fun n aN=>by simpa [eu] using aN) (by omega),rfl⟩
       ·simp at aj
      ·rename_i eu;simp at aj;subst aj;exact ⟨_,by simp [Instr.sliceAt,Instr.slice,run_underlying a3,q,run_sizeOf ai,eu,add_lit];rfl,.ref _ _ _ _ _ b _ ag (fun n aN=>by simpa using aN) (by omega),rfl⟩
   ·simp at aj
 ·rename_i n e id off a3;simp only [sE] at aj;obtain ⟨s,ai,aj⟩:=aj;split at aj
  ·simp only [sE] at aj;obtain ⟨h,bI,l,ao,aj⟩:=aj;cases iT with
   | some _=>simp [eP] at eL
   | none =>
   cases ad with
   | ptr id off b ag =>
     obtain ⟨q,q1,aX⟩:=hO (P:=P) (isS:=false) (cap:=n) bI ao (sB _) aT r2;split at aj
     ·simp at aj
     ·rename_i eu;simp at aj;subst aj;exact ⟨_,by simp [Instr.sliceAt,Instr.sureAddr,run_underlying a3,q,run_sizeOf ai,eu,add_lit];rfl,.ref _ _ _ _ _ b _ ag (fun n aN=>by simpa using aN) (by omega),rfl⟩
  ·simp at aj
 ·simp at aj
end
end Go.Proofs.YtfakoboiahbhaaaGreat.Ab


namespace Go.Proofs.YtfakoboiahbhaaaGreat.Ab
open Go
section
variable {P:Program} {B:Nat} {J:List Nat} {w:World} {H:List ar} {U:Nat→Option aH} {S:Nat→Nat→Prop}
theorem gx.frame {az:Nat→Option aH} {bV:List Nat} {S':Nat→Nat→Prop} {w':World} (bK:Ext J bV)
  (cm:∀ b o,S b o→S' b o∧w'.cell? ⟨b,o,none⟩=w.cell? ⟨b,o,none⟩) {id:Nat}
  (av:∀ b l,U b=some l→(l=.obj id∨∃ j,l=.cell id j)→az b=some l∧w'.heap[b]?=w.heap[b]?∧∀ o,S' b o→S b o)
  {o:ar} (h:gx U J S w id o):gx az bV S' w' id o:=by
 cases o with
 | dead=>trivial
 | cells l =>
   obtain ⟨b,cur,e,aC,aI,aR,bl,bd,bg⟩:=h;obtain ⟨aJ,aQ,cp⟩:=av b _ aI (.inl rfl);refine ⟨b,cur,e,bK _ _ aC,aJ,aQ.trans aR,bl,fun o ai=>bd o (cp o ai),fun j u v hu ae=>?_⟩;obtain ⟨a',c0,bb,bt⟩:=bg j u v hu ae;exact ⟨a',c0,bb.mono bK cm,bt.mono bK cm fun b ag=>av b _ ag (.inr ⟨j,rfl⟩)⟩
 | grow l gid z =>
   obtain ⟨b,cur,e,aC,aI,aR,bl,bd,bg,cap,c',dv⟩:=h;obtain ⟨aJ,aQ,cp⟩:=av b _ aI (.inl rfl);refine ⟨b,cur,e,bK _ _ aC,aJ,aQ.trans aR,bl,fun o ai=>bd o (cp o ai),fun j u v hu ae=>?_,cap,bK _ _ c',dv⟩;obtain ⟨a',c0,bb,bt⟩:=bg j u v hu ae;exact ⟨a',c0,bb.mono bK cm,bt.mono bK cm fun b ag=>av b _ ag (.inr ⟨j,rfl⟩)⟩
 | loop st cF fn T params assign body jx =>
   obtain ⟨ak,aZ,b,L,aC,aI,aR,bl,bd,bg,c',dv,dV⟩:=h;obtain ⟨aJ,aQ,cp⟩:=av b _ aI (.inl rfl);exact ⟨ak,aZ,b,L,bK _ _ aC,aJ,aQ.trans aR,bl,bd,bg,c',fun i u v hu ae=>⟨(dv i u v hu ae).1,(dv i u v hu ae).2.mono bK cm⟩,dV⟩
 | map es clock =>
   obtain ⟨b,bz,aC,aI,aR,bl,bd,bg⟩:=h;obtain ⟨aJ,aQ,cp⟩:=av b _ aI (.inl rfl)
   exact ⟨b,bz,bK _ _ aC,aJ,aQ.trans aR,bl,fun o ai=>bd o (cp o ai),fun j i k v x hu ae =>
    let ⟨a',bb,bt,b9,dY⟩:=bg j i k v x hu ae;⟨a',bb,bt.mono bK cm,b9,dY.mono bK cm⟩⟩
 | iter m s e t =>
   obtain ⟨b,ee,aC,aI,aR,bl,bd⟩:=h;obtain ⟨aJ,aQ,cp⟩:=av b _ aI (.inl rfl);exact ⟨b,ee,bK _ _ aC,aJ,bK _ _ aR,aQ.trans bl,fun o ai=>bd o (cp o ai)⟩
theorem aK.frame {az:Nat→Option aH} {S':Nat→Nat→Prop} {w':World} (ah:aK B U J S w H) (aA:bj U S w az S' w')
  (av:∀ b l,U b=some l→((∃ id,l=.obj id)∨∃ id j,l=.cell id j)→az b=some l∧w'.heap[b]?=w.heap[b]?∧∀ o,S' b o→S b o)
  (aG:∀ b o,S' b o→∃ v,w'.cell? ⟨b,o,none⟩=some v) (a6:∀ b l,az b=some l→B≤b∧b<w'.heap.size):aK B az J S' w' H :=
 ⟨ah.cE,fun id o aq=>(ah.obj id o aq).frame (Ext.refl J) aA.set (fun b l ag ao=>av b l ag (by
  rcases ao with rfl | ⟨j,rfl⟩
  ·exact .inl ⟨id,rfl⟩
  ·exact .inr ⟨id,j,rfl⟩)),aG,a6,tb ah.cW aA.size⟩
theorem aK.push (ah:aK B U J S w H) (n:Nat) {o:ar} (aq:gx U (J++[n]) S w H.length o):aK B U (J++[n]) S w (H++[o]) where
 cE:=by simp [ah.cE]
 obj id cM h:=by
  rcases vO id H.length with aS | rfl | GN
  ·rw [sQ aS] at h;exact (ah.obj id cM h).frame (Ext.append J [n]) (fun b o ai=>⟨ai,rfl⟩) fun b l ag _=>⟨ag,rfl,fun o ai=>ai⟩
  ·simp at h;subst h;exact aq
  ·rw [s_ (by omega)] at h
   have:id-H.length≠0:=by omega
   obtain ⟨k,av⟩:=Nat.exists_eq_succ_of_ne_zero this;rw [av] at h;simp at h
 cd:=ah.cd
 base:=ah.base
 cW:=ah.cW
theorem aK.oH (ah:aK B U J S w H) {id:Nat} {l:List I} {g z:Nat} (aE:H[id]?=some (.grow l g z)):aK B U J S w (H.set id (.cells l)):=by
 refine ⟨by simpa using ah.cE,fun bA o aq=>?_,ah.cd,ah.base,ah.cW⟩;by_cases ct:bA=id
 ·subst ct;rw [sI (sv.1 aE).1] at aq;cases aq;obtain ⟨b,cur,e,aC,aI,aR,bl,bd,bg,_⟩:=ah.obj bA _ aE;exact ⟨b,cur,e,aC,aI,aR,bl,bd,bg⟩
 ·rw [sJ (Ne.symm ct)] at aq;exact ah.obj bA o aq
theorem aK.xH (ah:aK B U J S w H) {id:Nat} {l:List I} {g z b cap:Nat} {cur:Array Value} {e:TypeId} (aE:H[id]?=some (.cells l)) (ag:J[id]?=some b) (aO:J[g]?=some cap)
  (hm:cap≤maxLen) (bk:0<z) (al:w.heap[b]?=some (.cells cur e (0,0))) (ai:cur.size=cap*z):aK B U J S w (H.set id (.grow l g z)):=by
 refine ⟨by simpa using ah.cE,fun bA o aq=>?_,ah.cd,ah.base,ah.cW⟩;by_cases ct:bA=id
 ·subst ct;rw [sI (sv.1 aE).1] at aq;cases aq;obtain ⟨au,cur',cX,aC,aI,aR,bl,bd,bg⟩:=ah.obj bA _ aE;rw [ag] at aC;cases aC;rw [al] at aR;cases aR;exact ⟨b,cur,e,ag,aI,al,bl,bd,bg,cap,aO,hm,bk,ai⟩
 ·rw [sJ (Ne.symm ct)] at aq;exact ah.obj bA o aq
def lay (U:Nat→Option aH) (n:Nat) (l:aH):Nat→Option aH:=fun b=>if b=n then some l else U b
theorem oY (o:Obj) {b i:Nat} (ag:b<w.heap.size):(w.alloc o).cell? ⟨b,i,none⟩=w.cell? ⟨b,i,none⟩:=by
 have:(w.alloc o).heap[b]?=w.heap[b]?:=heap_alloc_old w o b ag
 unfold World.cell?;simp only [this]
theorem ks (ah:aK B U J S w H) (o:Obj) (l:aH):bj U S w (lay U w.heap.size l) S (w.alloc o) where
 os:=rfl
 tape:=rfl
 output:=rfl
 size:=by simp
 cD b ag _:=heap_alloc_old w o b ag
 set b cM ai:=⟨ai,by obtain ⟨v,ae⟩:=ah.cd b cM ai;exact oY o (mL ae)⟩
 fresh _ _ ai:=.inl ai
 own b ag:=by
  unfold lay at ag;split at ag
  ·rename_i h;exact .inr (by omega)
  ·exact .inl ag
theorem nN (ah:aK B U J S w H) (o:Obj) (l:aH):aK B (lay U w.heap.size l) J S (w.alloc o) H:=by
 have aA:=ks ah o l;refine ah.frame aA (fun b l' ag _=>?_) (fun b cM ai=>?_) (fun b l' ag=>?_)
 ·have:=(ah.base b l' ag).2;exact ⟨by simp [lay,show b≠w.heap.size by omega,ag],heap_alloc_old w o b this,fun o ai=>ai⟩
 ·obtain ⟨v,ae⟩:=ah.cd b cM ai;exact ⟨v,((aA.set b cM ai).2).trans ae⟩
 ·unfold lay at ag;split at ag
  ·rename_i h;subst h;exact ⟨ah.cW,by simp⟩
  ·have:=ah.base b l' ag;exact ⟨this.1,by simp;omega⟩
theorem kr (U:Nat→Option aH) (S:Nat→Nat→Prop) (w:World):bj U S w U S w.drew :=
 ⟨rfl,rfl,rfl,sB _,fun _ _ _=>rfl,fun _ _ h=>⟨h,rfl⟩,fun _ _ h=>.inl h,fun _ h=>.inl h⟩
theorem mr (ah:aK B U J S w H):aK B U J S w.drew H :=
 ah.frame (kr U S w) (fun _ _ ag _=>⟨ag,rfl,fun _ h=>h⟩) ah.cd ah.base
theorem mQ (ah:aK B U J S w H) (o:Nat):¬ S w.heap.size o:=fun ai=>by
 obtain ⟨v,ae⟩:=ah.cd _ o ai;exact absurd (mL ae) (Nat.lt_irrefl _)
structure c3 (J:List Nat) (S:Nat→Nat→Prop) (w:World) (cs:List I) (vs:List Value):Prop where
 len:cs.length=vs.length
 rel:∀ (j:Nat) (u:I) (v:Value),cs[j]?=some u→vs[j]?=some v→u.plain=true∧v.oneCell'=true∧Rel J S w u v
theorem c3.mono {bV:List Nat} {S':Nat→Nat→Prop} {w':World} {cs:List I} {vs:List Value} (h:c3 J S w cs vs) (bK:Ext J bV)
  (cm:∀ b o,S b o→S' b o∧w'.cell? ⟨b,o,none⟩=w.cell? ⟨b,o,none⟩):c3 bV S' w' cs vs :=
 ⟨h.len,fun j u v hu ae=>let ⟨a,b,c⟩:=h.rel j u v hu ae;⟨a,b,c.mono bK cm⟩⟩
theorem c3.append {a b:List I} {c d:List Value} (h:c3 J S w a c) (k:c3 J S w b d):c3 J S w (a++b) (c++d):=by
 refine ⟨by simp [h.len,k.len],fun j u v hu ae=>?_⟩;rcases tq j a.length with aw | aw
 ·rw [sQ aw] at hu;rw [sQ (h.len ▸ aw)] at ae;exact h.rel j u v hu ae
 ·rw [s_ aw] at hu;rw [s_ (h.len ▸ aw),←h.len] at ae;exact k.rel _ u v hu ae
theorem n7 (ah:aK B U J S w H) {cs:List I} {vs:List Value} (al:c3 J S w cs vs) (spare:List Value) (e:TypeId) (len cap z:Nat) (bk:0<z) (ao:cs.length=len*z)
  (pq:len≤cap) (hm:cap≤maxLen) (ai:vs.length+spare.length=cap*z) :
  a1 B U J S w H (.ax cs len (.uniq z)) (.slice (some ⟨w.heap.size,0,none⟩) len cap) (w.alloc (.cells (vs++spare).toArray e)):=by
 have aA:=ks ah (.cells (vs++spare).toArray e) .res;refine ⟨_,J,S,Ext.refl J,aA,nN ah _ .res,.cK _ _ _ _ _ _,.inr ⟨by simp [lay],rfl,pq,hm,bk,ao,⟨_,e,heap_alloc_new w _,by simp [ai],fun j u v hu ae=>?_⟩,mQ ah⟩⟩;have aw:j<vs.length:=al.len ▸ (sv.1 hu).1;have bf:vs[j]?=some v:=by simpa [sQ aw] using ae
 obtain ⟨a,b,c⟩:=al.rel j u v hu bf;exact ⟨a,b,c.mono (Ext.refl J) aA.set⟩
end
end Go.Proofs.YtfakoboiahbhaaaGreat.Ab


namespace Go.Proofs.YtfakoboiahbhaaaGreat.Ab
open Go
section
variable {P:Program} {B:Nat} {J:List Nat} {w:World} {H:List ar} {U:Nat→Option aH} {S:Nat→Nat→Prop}
theorem A0 {t:TypeId} {cs:List I} {b base off:Nat} {g:Nat→Value} {r:I}
  (al:∀ (j:Nat) (u:I),cs[j]?=some u→w.cell? ⟨b,base+j,none⟩=some (g j)∧(g j).oneCell'=true∧Rel J S w u.view (g j)) (aj:ez P t cs off=some r) :
  ∃ v,(loadVar t ⟨b,base+off,none⟩).run P w=.ok v w∧Rel J S w r v∧r.plain=true:=by
 unfold ez at aj;cases cf:dJ P t with
 | true =>
   obtain ⟨d,a3⟩:=zr cf;rw [cf] at aj;simp only [sE] at aj;obtain ⟨s,ai,aj⟩:=aj;split at aj
   ·rename_i hle;simp only [Option.some.injEq] at aj;subst aj;have bx:∀ j,j<s→w.cell? ((⟨b,base+off,none⟩:Addr).add j)=some (g (off+j)):=fun j aw=>by
     (have aS:off+j<cs.length:=by omega);rw [add_lit,tZ];exact (al (off+j) _ (sK aS)).1
    have ao:=run_loadCells (P:=P) (w:=w) ⟨b,base+off,none⟩ s (fun j=>g (off+j)) bx;refine ⟨_,by simp only [loadVar,Sem.run_bind,gR a3,cf,Result.andThen_ok,if_true,run_sizeOf ai,ao];rfl,.agg _ _ ?_ ?_ ?_ ?_,rfl⟩
    ·simp;omega
    ·intro u hu;obtain ⟨x,_,rfl⟩:=sM.1 hu;exact I.dj x
    ·intro v ae;obtain ⟨j,aw,rfl⟩:=sM.1 ae;have aw:=List.mem_range.1 aw;(have aS:off+j<cs.length:=by omega);exact (al (off+j) _ (sK aS)).2.1
    ·intro j u v hu ae;simp only [sN,su] at hu;obtain ⟨x,ak,rfl⟩:=hu;rw [tp] at ak;split at ak
     ·rename_i aw;rw [tr] at ak;simp [aw] at ae;subst ae;exact (al (off+j) x ak).2.2
     ·simp at ak
   ·simp at aj
 | false =>
   rw [cf] at aj;simp only at aj;split at aj
   ·rename_i d a3;simp only [su] at aj;obtain ⟨u,hu,rfl⟩:=aj;obtain ⟨ad,af,aG⟩:=al off u hu;exact ⟨g off,by simp [loadVar,gR a3,cf,load,Sem.run,ad],aG,I.dj u⟩
   ·simp at aj
theorem lk (ah:aK B U J S w H) {t:TypeId} {a r:I} {v:Value} (aj:dS P H t a=some r) (ad:Rel J S w a v) :
  ∃ x,(Instr.loadAt t v).run P w=.ok x w∧Rel J S w r x∧r.plain=true:=by
 unfold dS at aj;split at aj
 ·rename_i id off
  have key:∀ l:List I,(∃ b cur e,J[id]?=some b∧U b=some (.obj id)∧w.heap[b]?=some (.cells cur e (0,0))∧l.length≤cur.size∧(∀ o,¬ S b o) ∧
    ∀ (j:Nat) (u:I) (v:Value),l[j]?=some u→cur[j]?=some v→u.cR=true∧v.oneCell'=true∧Rel J S w u v∧aW U J S w (.cell id j) u v)→ez P t l off=some r →
    ∃ x,(Instr.loadAt t v).run P w=.ok x w∧Rel J S w r x∧r.plain=true:=by
   rintro l ⟨b,cur,e,aC,aI,aR,bl,bd,bg⟩ aj;cases ad with
   | ptr id off au ag =>
     rw [aC] at ag;cases ag;have facts:∀ (j:Nat) (u:I),l[j]?=some u→w.cell? ⟨b,0+j,none⟩=some (cur.getD j undef)∧(cur.getD j undef).oneCell'=true∧Rel J S w u.view (cur.getD j undef):=by
      intro j u hu;(have aw:j<cur.size:=by have:=(sv.1 hu).1;omega);have c6:cur[j]?=some cur[j]:=sS _;obtain ⟨a',c0,bb,_⟩:=bg j u _ hu c6;(have aO:cur.getD j undef=cur[j]:=by simp [Array.getD,aw]);rw [aO];exact ⟨by rw [cell_of_row w b _ cur e (0,0) aR,tg,c6],c0,bb.view a'⟩
     obtain ⟨x,ak,b1⟩:=A0 facts aj;rw [tg] at ak;exact ⟨x,by simp [Instr.loadAt,Instr.sureAddr,ak],b1⟩
  split at aj
  ·rename_i l aE;exact key l (ah.obj id _ aE) aj
  ·rename_i l g z aE;obtain ⟨b,cur,e,aC,aI,aR,bl,bd,bg,_⟩:=ah.obj id _ aE;exact key l ⟨b,cur,e,aC,aI,aR,bl,bd,bg⟩ aj
  ·simp at aj
 ·cases ad with
  | bU cells b o f h fu =>
    obtain ⟨x,ak,b1⟩:=A0 (J:=J) (S:=S) (w:=w) (b:=b) (base:=o) (g:=f) (fun j u hu=>⟨(h j u hu).2.1,(h j u hu).2.2.2,(fu j u hu).view (I.fx (h j u hu).2.2.1)⟩) aj;rw [ue] at ak;exact ⟨x,by simp [Instr.loadAt,Instr.sureAddr,ak],b1⟩
 ·simp at aj
theorem oZ (ah:aK B U J S w H) {l:aH} (b7:∀ id,l≠.obj id) (ch:∀ id j,l≠.cell id j) {u:I} {v:Value} {vc:List I} (al:u.cells=some vc) (aj:Rel J S w u v) (aq:aW U J S w l u v) :
  ∃ S':Nat→Nat→Prop,(∀ b o,S b o→S' b o)∧(∀ b o,S' b o→S b o∨U b=some l)∧aK B U J S' w H∧v.cells.size=vc.length ∧
    (∀ x∈v.cells.toList,x.oneCell'=true) ∧
    ∀ (j:Nat) (bG:I) (bn:Value),(vc.map I.settle)[j]?=some bG→v.cells[j]?=some bn→bG.cR=true∧Rel J S' w bG bn∧(bG.plain=true∨(j=0∧vc=[u]∧aW U J S' w l bG bn)):=by
 have single:vc=[u]→v.cells=#[v]→v.oneCell'=true→∃ S':Nat→Nat→Prop,(∀ b o,S b o→S' b o)∧(∀ b o,S' b o→S b o∨U b=some l)∧aK B U J S' w H∧v.cells.size=vc.length ∧
   (∀ x∈v.cells.toList,x.oneCell'=true) ∧
   ∀ (j:Nat) (bG:I) (bn:Value),(vc.map I.settle)[j]?=some bG→v.cells[j]?=some bn→bG.cR=true∧Rel J S' w bG bn∧(bG.plain=true∨(j=0∧vc=[u]∧aW U J S' w l bG bn)):=by
  intro fM ae ad;subst fM;rw [ae];by_cases hu:u.cR=true
  ·refine ⟨S,fun _ _ h=>h,fun _ _ h=>.inl h,ah,rfl,by simp [ad],fun j bG bn aw eg=>?_⟩;have ai:u.settle=u:=by
    unfold I.settle;split
    ·simp [I.cR] at hu
    ·rfl
   cases j with
   | zero=>simp [ai] at aw eg;subst aw eg;exact ⟨hu,aj,.inr ⟨rfl,rfl,aq⟩⟩
   | succ j=>simp at aw
  ·obtain ⟨cells,len,z,rfl⟩:∃ cells len z,u=.ax cells len (.uniq z):=by
    unfold I.cR at hu;split at hu
    ·exact ⟨_,_,_,rfl⟩
    ·simp at hu
   obtain ⟨a8,aJ,aQ,cp,_,r2,eL⟩:=kc ah aj aq;refine ⟨a8,aJ,aQ,ah.settle aJ (fun b o h=>(aQ b o h).imp id fun h=>⟨_,h,b7,ch⟩) cp,rfl,by simp [ad],fun j bG bn aw eg=>?_⟩;cases j with
   | zero=>simp [I.settle] at aw eg;subst aw eg;exact ⟨rfl,r2,.inr ⟨rfl,rfl,eL⟩⟩
   | succ j=>simp at aw
 cases aj with
 | agg as vs h p one r =>
   simp [I.cells] at al;subst al;refine ⟨S,fun _ _ h=>h,fun _ _ h=>.inl h,ah,h,one,fun j bG bn aw eg=>?_⟩;simp only [sN,su] at aw;obtain ⟨x,ak,rfl⟩:=aw;have aB:=p x (sZ ak);have ai:x.settle=x:=by
    unfold I.settle;split
    ·simp [I.plain] at aB
    ·rfl
   rw [ai];exact ⟨I.fx aB,r j x bn ak eg,.inl aB⟩
 | junk v=>simp [I.cells] at al
 | tuple as vs h p r=>simp [I.cells] at al
 | raw=>simp [I.cells] at al
 | cZ=>simp [I.cells] at al
 | _=>simp [I.cells] at al;exact single al.symm rfl rfl
theorem Ext.last (ah:aK B U J S w H) (n:Nat):(J++[n])[H.length]?=some n:=by rw [←ah.cE];simp
theorem n6 (ah:aK B U J S w H) (l:aH) (b7:∀ id,l≠.obj id) (ch:∀ id j,l≠.cell id j) {cs:List I} {vs:Array Value} (e:TypeId) (hlen:cs.length≤vs.size)
  (al:∀ (j:Nat) (u:I) (v:Value),cs[j]?=some u→vs[j]?=some v→u.cR=true∧v.oneCell'=true∧Rel J S w u v∧(u.plain=true∨(j=0∧aW U J S w l u v))) :
  ∃ az,bj U S w az S (w.alloc (.cells vs e))∧aK B az (J++[w.heap.size]) S (w.alloc (.cells vs e)) (H++[.cells cs]):=by
 classical
 let az:Nat→Option aH:=fun b=>if b=w.heap.size then some (.obj H.length) else if U b=some l then some (.cell H.length 0) else U b
 have bO:∀ b l',U b=some l'→b≠w.heap.size:=fun b l' h=>by have:=(ah.base b l' h).2;omega
 have aA:bj U S w az S (w.alloc (.cells vs e)):=by
  have f':=ks ah (.cells vs e) (.obj H.length);refine ⟨f'.os,f'.tape,f'.output,f'.size,f'.cD,f'.set,f'.fresh,fun b ag=>?_⟩;by_cases h:b=w.heap.size
  ·exact .inr (by omega)
  ·refine .inl fun aV=>ag ?_;simp [az,h,aV]
 have bW:aK B az J S (w.alloc (.cells vs e)) H:=by
  refine ah.frame aA (fun b l' ag ao=>?_) (fun b o ai=>?_) (fun b l' ag=>?_)
  ·have h:=bO b l' ag;(have c9:l'≠l:=by rcases ao with ⟨id,rfl⟩ | ⟨id,j,rfl⟩ <;> intro e <;> first | exact b7 _ e.symm | exact ch _ _ e.symm);refine ⟨?_,heap_alloc_old w _ b (ah.base b l' ag).2,fun o ai=>ai⟩;simp [az,h,ag,c9]
  ·obtain ⟨v,ae⟩:=ah.cd b o ai;exact ⟨v,((aA.set b o ai).2).trans ae⟩
  ·by_cases h:b=w.heap.size
   ·subst h;exact ⟨ah.cW,by simp⟩
   ·have:∃ cu,U b=some cu:=by
     cases aV:U b with
     | none=>simp [az,h,aV] at ag
     | some cu=>exact ⟨cu,rfl⟩
    obtain ⟨cu,aV⟩:=this;have:=ah.base b cu aV;exact ⟨this.1,by simp;omega⟩
 refine ⟨az,aA,bW.push w.heap.size ⟨w.heap.size,vs,e,Ext.last ah _,by simp [az],heap_alloc_new w _,hlen,mQ ah,fun j u v hu ae=>?_⟩⟩;obtain ⟨a',bb,bt,b9⟩:=al j u v hu ae;refine ⟨a',bb,bt.mono (Ext.append J _) aA.set,?_⟩;rcases b9 with b9 | ⟨rfl,b9⟩
 ·exact aW.b4 b9
 ·refine b9.mono (Ext.append J _) aA.set fun b ag=>⟨?_,heap_alloc_old w _ b (ah.base b l ag).2,fun o ai=>ai⟩;simp [az,bO b l ag,ag]
theorem FI (ah:aK B U J S w H) {l:aH} (b7:∀ id,l≠.obj id) (ch:∀ id j,l≠.cell id j) {u:I} {v:Value} {vc:List I} (al:u.cells=some vc) (aj:Rel J S w u v) (aq:aW U J S w l u v) (e:TypeId) :
  ∃ x w',(Instr.box e v).run P w=.ok x w'∧a1 B U J S w (H++[.cells (vc.map I.settle)]) (.ptr H.length 0) x w':=by
 obtain ⟨S',aJ,aQ,b_,bP,ev,cU⟩:=oZ ah b7 ch al aj aq
 obtain ⟨az,aA,jC⟩:=n6 (cs:=vc.map I.settle) (vs:=v.cells) b_ l b7 ch e (by simp [bP]) (fun j bG bn hu ae=>by
  obtain ⟨aC,aI,aR⟩:=cU j bG bn hu ae
  exact ⟨aC,ev bn (by simpa using vu ae),aI,aR.imp id fun ⟨x,_,y⟩=>⟨x,y⟩⟩)
 refine ⟨.pointer (some ⟨w.heap.size,0,none⟩),w.alloc (.cells v.cells e),?_,az,_,S',Ext.append J _,(bj.settle aJ (fun b o h=>(aQ b o h).imp id fun h=>⟨_,h⟩)).trans aA,jC,
  .ptr _ _ _ (Ext.last ah _),aW.b4 rfl⟩
 simp [Instr.box,newVar,newRow,newObj,Sem.run,World.alloc_eq]
theorem FJ (ah:aK B U J S w H) {u:I} {v:Value} {vc:List I} (al:u.cells=some vc) (aB:vc.all I.plain=true) (aj:Rel J S w u v) (e:TypeId) :
  ∃ x w',(Instr.box e v).run P w=.ok x w'∧a1 B U J S w H (.bU vc) x w':=by
 rw [sR] at aB;have CN:v.cells.size=vc.length∧(∀ x∈v.cells.toList,x.oneCell'=true)∧∀ (j:Nat) (bG:I) (bn:Value),vc[j]?=some bG→v.cells[j]?=some bn→Rel J S w bG bn:=by
  have single:vc=[u]→v.cells=#[v]→v.oneCell'=true→v.cells.size=vc.length∧(∀ x∈v.cells.toList,x.oneCell'=true)∧∀ (j:Nat) (bG:I) (bn:Value),vc[j]?=some bG→v.cells[j]?=some bn→Rel J S w bG bn:=by
   intro fM ae ad;subst fM;rw [ae];refine ⟨rfl,by simp [ad],fun j bG bn aw eg=>?_⟩;cases j with
   | zero=>simp at aw eg;subst aw eg;exact aj
   | succ j=>simp at aw
  cases aj with
  | agg as vs h p one r =>
    simp [I.cells] at al;subst al;exact ⟨h,one,r⟩
  | junk v=>simp [I.cells] at al
  | tuple as vs h p r=>simp [I.cells] at al
  | raw=>simp [I.cells] at al
  | cZ=>simp [I.cells] at al
  | _=>simp [I.cells] at al;exact single al.symm rfl rfl
 obtain ⟨bP,ev,cU⟩:=CN
 let S':Nat→Nat→Prop:=fun b o=>S b o∨(b=w.heap.size∧o<vc.length)
 have hnew:(w.alloc (.cells v.cells e)).heap[w.heap.size]?=some (.cells v.cells e (0,0)):=heap_alloc_new w _;have bx:∀ o,(w.alloc (.cells v.cells e)).cell? ⟨w.heap.size,o,none⟩=v.cells[o]?:=fun o=>cell_of_row _ _ o v.cells e (0,0) hnew;have hold:∀ b o,S b o→(w.alloc (.cells v.cells e)).cell? ⟨b,o,none⟩=w.cell? ⟨b,o,none⟩:=fun b o ai=>by
  obtain ⟨x,ak⟩:=ah.cd b o ai;exact oY _ (mL ak)
 have aA:bj U S w U S' (w.alloc (.cells v.cells e)):=by
  refine ⟨rfl,rfl,rfl,by simp,fun b ag _=>heap_alloc_old w _ b ag,fun b o ai=>⟨.inl ai,hold b o ai⟩,fun b o ai=>?_,fun b ag=>.inl ag⟩;rcases ai with ai | ⟨rfl,_⟩
  ·exact .inl ai
  ·exact .inr (.inr (sB _))
 refine ⟨.pointer (some ⟨w.heap.size,0,none⟩),w.alloc (.cells v.cells e),by simp [Instr.box,newVar,newRow,newObj,Sem.run,World.alloc_eq],U,J,S',Ext.refl J,aA,ah.frame aA (fun b l ag _=>?_) (fun b o ai=>?_) (fun b l ag=>?_),
  .bU _ _ _ (fun j=>v.cells.getD j undef) (fun j bG aw=>?_) (fun j bG aw=>?_),aW.b4 rfl⟩
 ·have aS:=(ah.base b l ag).2;exact ⟨ag,heap_alloc_old w _ b aS,fun o ai=>ai.resolve_right fun h=>by omega⟩
 ·rcases ai with ai | ⟨rfl,aq⟩
  ·obtain ⟨x,ak⟩:=ah.cd b o ai;exact ⟨x,(hold b o ai).trans ak⟩
  ·exact ⟨_,(bx o).trans (sS (by omega))⟩
 ·have:=ah.base b l ag;exact ⟨this.1,by simp;omega⟩
 ·have aS:=(sv.1 aw).1;have eg:v.cells[j]?=some (v.cells.getD j undef):=by simp [Array.getD,bP,aS]
  rw [tg];exact ⟨.inr ⟨rfl,aS⟩,(bx j).trans eg,aB bG (sZ aw),ev _ (by simpa using vu eg)⟩
 ·have aS:=(sv.1 aw).1;have eg:v.cells[j]?=some (v.cells.getD j undef):=by simp [Array.getD,bP,aS]
  exact (cU j bG _ aw eg).mono (Ext.refl J) aA.set
theorem Gz {t:TypeId} {z:List I} (h:zeroCells P t=some z):∃ i v,P.info? t=some i∧i.zero=some v∧z=v.cells.toList.map hz∧∀ x∈v.cells.toList,x.oneCell'=true:=by
 simp only [zeroCells,sE] at h;obtain ⟨v,⟨i,hi,ae⟩,h⟩:=h;split at h
 ·rename_i cU;simp at h;exact ⟨i,v,hi,ae,h.symm,sR.1 cU⟩
 ·simp at h
theorem ht {t:TypeId} {z:List I} (h:zeroCells P t=some z):∃ i v,P.info? t=some i∧i.zero=some v∧c3 J S w z v.cells.toList:=by
 obtain ⟨i,v,hi,ae,rfl,ev⟩:=Gz h;refine ⟨i,v,hi,ae,by simp,fun j u bn hu bf=>?_⟩;simp only [sN,bf,sD,Option.some.injEq] at hu;subst hu;exact ⟨nj _,ev bn (sZ bf),lK _ _ _ _⟩
theorem jb {t:TypeId} {i:TypeInfo} {v:Value} (hi:P.info? t=some i) (ae:i.zero=some v):(zeroValue t).run P w=.ok v w:=by
 simp [zeroValue,typeInfo,hi,ae]
theorem FE (ah:aK B U J S w H) {t:TypeId} {z:List I} (bk:zeroCells P t=some z) (fQ:Value) :
  ∃ x w',(Instr.alloc t true fQ).run P w=.ok x w'∧a1 B U J S w (H++[.cells z]) (.ptr H.length 0) x w':=by
 obtain ⟨i,v,hi,ae,al⟩:=ht (J:=J) (S:=S) (w:=w) bk
 obtain ⟨az,aA,b_⟩:=n6 (cs:=z) (vs:=v.cells) ah .res (by simp) (by simp) t (by have:=al.len;simp at this;omega) (fun j u bn hu bf=>by
  obtain ⟨a,b,c⟩:=al.rel j u bn hu (by simpa using bf)
  exact ⟨I.fx a,b,c,.inl a⟩)
 refine ⟨.pointer (some ⟨w.heap.size,0,none⟩),w.alloc (.cells v.cells t),?_,az,_,S,Ext.append J _,aA,b_,.ptr _ _ _ (Ext.last ah _),aW.b4 rfl⟩;cases fQ <;> simp [Instr.alloc,jb hi ae,newVar,newRow,newObj,Sem.run,World.alloc_eq]
theorem FF (ah:aK B U J S w H) {t:TypeId} {s:Nat} (bk:zeroCells P t=some [.ax [] 0 .full]) (fQ:Value) :
  ∃ x w',(Instr.alloc t true fQ).run P w=.ok x w'∧a1 B U J S w (H++[.cells [.ax [] 0 (.own s)]]) (.ptr H.length 0) x w':=by
 obtain ⟨i,v,hi,ae,al⟩:=ht (J:=J) (S:=S) (w:=w) bk
 obtain ⟨az,aA,b_⟩:=n6 (cs:=[.ax [] 0 (.own s)]) (vs:=v.cells) ah .res (by simp) (by simp) t (by have:=al.len;simp at this;simp;omega) (fun j u bn hu bf=>by
  cases j with
  | succ j=>simp at hu
  | zero =>
    simp at hu;subst hu;obtain ⟨a,b,c⟩:=al.rel 0 _ bn rfl (by simpa using bf);refine ⟨rfl,b,?_,.inr ⟨rfl,?_⟩⟩
    ·cases c with
     | b2 _ a=>exact .b2 _ a
     | ax _ _ _ bq o cap f al hle hu h aj=>exact .ax _ _ _ bq o cap f (fun h=>by cases h) hle (fun z h=>by cases h) h aj
    ·cases c with
     | b2 _ a=>cases a with
       | none=>trivial
       | some a=>exact .inl ⟨rfl,rfl,rfl⟩
     | ax _ _ _ b o cap f al hle hu h aj=>exact .inl ⟨rfl,al rfl,rfl⟩)
 refine ⟨.pointer (some ⟨w.heap.size,0,none⟩),w.alloc (.cells v.cells t),?_,az,_,S,Ext.append J _,aA,b_,.ptr _ _ _ (Ext.last ah _),aW.b4 rfl⟩;cases fQ <;> simp [Instr.alloc,jb hi ae,newVar,newRow,newObj,Sem.run,World.alloc_eq]
theorem ik (z:List I):∀ n,(e8 n z).length=n*z.length
 | 0=>by simp [e8]
 | n+1=>by simp [e8,ik z n,Nat.succ_mul,tC]
theorem Au (z:List I):∀ (n j:Nat),j<n*z.length→(e8 n z)[j]?=z[j % z.length]?
 | 0,j,h=>by simp at h
 | n+1,j,h=>by
   simp only [e8];rcases tq j z.length with aw | aw
   ·rw [sQ aw,Nat.mod_eq_of_lt aw]
   ·rw [s_ aw,Au z n _ (by rw [Nat.succ_mul] at h;omega),Nat.mod_eq_sub_mod aw]
theorem m' {z:List I} {gq:Array Value} (h:c3 J S w z gq.toList) (bk:0<z.length) (n:Nat) :
  c3 J S w (e8 n z) ((Array.range (n*z.length)).map (fun i=>gq[i % gq.size]!)).toList:=by
 have ao:z.length=gq.size:=by simpa using h.len
 refine ⟨by simp [ik],fun j u v hu ae=>?_⟩;have aw:j<n*z.length:=by have:=(sv.1 hu).1;rwa [ik] at this
 rw [Au z n j aw] at hu;have hm:j % z.length<z.length:=Nat.mod_lt _ bk;refine h.rel (j % z.length) u v hu ?_;simp [aw] at ae;rw [←ao] at ae;have nI:j % z.length<gq.size:=ao ▸ hm;rw [getElem!_pos gq _ nI] at ae;simp [nI,ae]
theorem il {n bytes:Nat} (h:fy n bytes=true):n*bytes≤140737488355328∧1≤bytes:=by
 simpa [fy] using h
theorem FY (ah:aK B U J S w H) {t:TypeId} {n c:Int} {k k':IntKind} {z:List I} {sz:Nat} (aV:0≤n) (iO:n≤c) (bk:jm P t c.toNat=some (z,sz)) :
  ∃ x w',(Instr.makeSlice t (.int k n) (.int k' c)).run P w=.ok x w'∧a1 B U J S w (H++[.cells z]) (.ref H.length 0 n.toNat (some c.toNat) sz) x w':=by
 unfold jm at bk;split at bk
 ·rename_i e he;split at bk
  ·rename_i s lB bytes ai xf ag;split at bk
   ·rename_i al;obtain ⟨jG,h2,pn⟩:=al;simp only [Option.some.injEq,Prod.mk.injEq] at bk;obtain ⟨rfl,rfl⟩:=bk;obtain ⟨i,v,hi,ae,eF⟩:=ht (J:=J) (S:=S) (w:=w) xf;simp only [hi,sD,Option.some.injEq] at ag;subst ag;obtain ⟨aT,r2⟩:=il pn;have fN:=m' eF (by omega) c.toNat;have pr:c.toNat≤140737488355328:=tb (uS _ r2) aT;(have ey:lB.length=v.cells.size:=by simpa using eF.len);(have bP:i.size=s:=by obtain ⟨jX,hi',h⟩:=m8 ai;rw [hi] at hi';cases hi';exact h);have l8:(i.bytes:Int)*c≤281474976710656:=by
     have:(i.bytes:Int)*c=((c.toNat*i.bytes:Nat):Int):=by rw [wj,uI (by omega),Int.mul_comm]
     rw [this];omega
    have dN:=run_make (P:=P) w t e i v he hi ae k k' n c aV iO l8 (by omega);have pJ:(madeCells v.cells (c.toNat*i.size)).toList=((Array.range (c.toNat*lB.length)).map (fun i=>v.cells[i % v.cells.size]!)).toList:=by
     rw [bP,←jG];rfl
    rw [←pJ] at fN
    obtain ⟨az,aA,b_⟩:=n6 (cs:=e8 c.toNat lB) (vs:=madeCells v.cells (c.toNat*i.size)) ah .res (by simp) (by simp) e (by have:=fN.len;simp at this ⊢;omega) (fun j u bn hu bf=>by
     obtain ⟨a,b,c⟩:=fN.rel j u bn hu (by simpa using bf)
     exact ⟨I.fx a,b,c,.inl a⟩)
    exact ⟨_,_,dN,az,_,S,Ext.append J _,aA,b_,.ref _ _ _ _ _ _ _ (Ext.last ah _) (fun m hm=>by simpa using hm) (by omega),aW.b4 rfl⟩
   ·simp at bk
  ·simp at bk
 ·simp at bk
theorem FZ (ah:aK B U J S w H) {t:TypeId} {c:Int} {k k':IntKind} {z:List I} {sz:Nat} (aV:0≤c) (bk:jm P t c.toNat=some (z,sz)) :
  ∃ x w',(Instr.makeSlice t (.int k c) (.int k' c)).run P w=.ok x w'∧a1 B U J S w H (.ax z c.toNat (.uniq sz)) x w':=by
 unfold jm at bk;split at bk
 ·rename_i e he;split at bk
  ·rename_i s lB bytes ai xf ag;split at bk
   ·rename_i al;obtain ⟨jG,h2,pn⟩:=al;simp only [Option.some.injEq,Prod.mk.injEq] at bk;obtain ⟨rfl,rfl⟩:=bk;obtain ⟨i,v,hi,ae,eF⟩:=ht (J:=J) (S:=S) (w:=w) xf;simp only [hi,sD,Option.some.injEq] at ag;subst ag;obtain ⟨aT,r2⟩:=il pn;have fN:=m' eF (by omega) c.toNat;have pr:c.toNat≤140737488355328:=tb (uS _ r2) aT;(have ey:lB.length=v.cells.size:=by simpa using eF.len);(have bP:i.size=s:=by obtain ⟨jX,hi',h⟩:=m8 ai;rw [hi] at hi';cases hi';exact h);have l8:(i.bytes:Int)*c≤281474976710656:=by
     have:(i.bytes:Int)*c=((c.toNat*i.bytes:Nat):Int):=by rw [wj,uI (by omega),Int.mul_comm]
     rw [this];omega
    have dN:=run_make (P:=P) w t e i v he hi ae k k' c c (by omega) (Int.le_refl _) l8 (by omega);have pJ:(madeCells v.cells (c.toNat*i.size)).toList=((Array.range (c.toNat*lB.length)).map (fun i=>v.cells[i % v.cells.size]!)).toList:=by
     rw [bP,←jG];rfl
    rw [←pJ] at fN;have iP:=n7 ah fN [] e c.toNat c.toNat s h2 (by rw [ik,jG]) (sB _) (by simp only [maxLen];omega) (by rw [←fN.len,ik,jG];simp);simp only [sW,uT] at iP;exact ⟨_,_,dN,iP⟩
   ·simp at bk
  ·simp at bk
 ·simp at bk
end
end Go.Proofs.YtfakoboiahbhaaaGreat.Ab


namespace Go.Proofs.YtfakoboiahbhaaaGreat.Ab
open Go
section
variable {P:Program} {B:Nat} {J:List Nat} {w:World} {H:List ar} {U:Nat→Option aH} {S:Nat→Nat→Prop}
theorem ln:∀ (vs:List I) (off:Nat) (cs:List I),(setCells off vs cs).length=cs.length
 | [],_,_=>rfl
 | v::vs,off,cs=>by simp [setCells,ln vs]
theorem m5:∀ (vs:List I) (off:Nat) (cs:List I) (j:Nat),off+vs.length≤cs.length →
  (setCells off vs cs)[j]?=if off≤j∧j<off+vs.length then vs[j-off]? else cs[j]?
 | [],off,cs,j,_=>by simp [setCells];omega
 | v::vs,off,cs,j,h=>by
   simp only [sV] at h;rw [setCells,m5 vs (off+1) _ j (by simp;omega)];by_cases ad:j=off
   ·subst ad
    have:¬ (j+1≤j∧j<j+1+vs.length):=by omega
    rw [if_neg this,if_pos (by simp)];simp [show j<cs.length by omega]
   ·by_cases af:off+1≤j∧j<off+1+vs.length
    ·rw [if_pos af,if_pos (by simp;omega)];obtain ⟨k,rfl⟩:∃ k,j=off+1+k:=⟨j-(off+1),by omega⟩;rw [show off+1+k-off=k+1 by omega,show off+1+k-(off+1)=k by omega];simp
    ·rw [if_neg af,if_neg (by simp;omega)];rw [sJ (fun e=>ad e.symm)]
theorem jc (cur vs:List Value) (off j:Nat) (h:off+vs.length≤cur.length) :
  (cur.take off++vs++cur.drop (off+vs.length))[j]?=if off≤j∧j<off+vs.length then vs[j-off]? else cur[j]?:=by
 have ay:(cur.take off).length=off:=by simp;omega
 by_cases ad:j<off
 ·rw [if_neg (by omega),sH,sQ (by omega),tp,if_pos ad]
 ·by_cases af:j<off+vs.length
  ·rw [if_pos ⟨by omega,af⟩,sH,s_ (by omega),ay,sQ (by omega)]
  ·rw [if_neg (by omega),s_ (by simp;omega)];simp only [sC,ay,tr];congr 1;omega
theorem n' (ah:aK B U J S w H) {id:Nat} {l l':List I} (aE:H[id]?=some (.cells l)) {b:Nat} {cur cur':Array Value} {e:TypeId} (aC:J[id]?=some b) (aI:U b=some (.obj id))
  (aR:w.heap[b]?=some (.cells cur e (0,0))) (bd:∀ o,¬ S b o) (L:aH) (b7:∀ id,L≠.obj id) (ch:∀ id j,L≠.cell id j) (ao:l'.length≤cur'.size) (zt:Nat)
  (al:∀ (j:Nat) (u:I) (v:Value),l'[j]?=some u→cur'[j]?=some v→u.cR=true∧v.oneCell'=true∧Rel J S w u v ∧
   (u.plain=true∨aW U J S w (.cell id j) u v∨(j=zt∧aW U J S w L u v))) :
  ∃ az,bj U S w az S (w.setRow b cur')∧aK B az J S (w.setRow b cur') (H.set id (.cells l')):=by
 classical
 let az:Nat→Option aH:=fun au=>if U au=some L then some (.cell id zt) else U au
 have bx:∀ au o,au≠b→(w.setRow b cur').cell? ⟨au,o,none⟩=w.cell? ⟨au,o,none⟩:=fun au o h=>by
  unfold World.cell?;simp only [setRow_other w b au cur' h]
 have hB:∀ au o,S au o→au≠b:=fun au o ai e=>bd o (e ▸ ai);have yS:L≠.obj id:=b7 id;have jM:∀ au cu,U au=some cu→cu≠L→az au=some cu:=fun au cu h aN=>by
  have:¬ U au=some L:=by rw [h];intro e;cases e;exact aN rfl
  simp [az,h,aN]
 have bP:(w.setRow b cur').heap.size=w.heap.size:=by simp [World.setRow]
 have aA:bj U S w az S (w.setRow b cur'):=by
  refine ⟨rfl,rfl,rfl,by omega,fun au bu aN=>setRow_other w b au cur' (fun e=>by subst e;rw [aI] at aN;cases aN),fun au o ai=>⟨ai,bx au o (hB au o ai)⟩,fun au o ai=>.inl ai,fun au bu=>?_⟩;refine .inl fun aV=>bu ?_;simp [az,aV]
 refine ⟨az,aA,by simpa using ah.cE,fun bA o aq=>?_,fun au o ai=>?_,fun au cu bu=>?_,by rw [bP];exact ah.cW⟩
 ·by_cases g4:bA=id
  ·subst g4;rw [sI (sv.1 aE).1] at aq;cases aq;refine ⟨b,cur',e,aC,jM b _ aI (fun e=>yS e.symm),setRow_heap w b cur cur' e (0,0) aR,ao,bd,fun j u v hu ae=>?_⟩;obtain ⟨a',bb,bt,b9⟩:=al j u v hu ae;refine ⟨a',bb,bt.mono (Ext.refl J) aA.set,?_⟩;rcases b9 with b9 | b9 | ⟨rfl,b9⟩
   ·exact aW.b4 b9
   ·exact b9.mono (Ext.refl J) aA.set fun au bu=>⟨jM au _ bu (fun e=>ch _ _ e.symm),setRow_other w b au cur' (fun e=>by subst e;rw [aI] at bu;cases bu),fun o ai=>ai⟩
   ·exact b9.mono (Ext.refl J) aA.set fun au bu=>⟨by simp [az,bu],setRow_other w b au cur' (fun e=>by subst e;rw [aI] at bu;cases bu;exact yS rfl),fun o ai=>ai⟩
  ·rw [sJ (fun e=>g4 e.symm)] at aq;refine (ah.obj bA o aq).frame (Ext.refl J) aA.set fun au cu bu jN=>?_;have bO:au≠b:=fun e=>by
    subst e;rw [aI] at bu;cases bu;rcases jN with h | ⟨j,h⟩
    ·cases h;exact g4 rfl
    ·cases h
   exact ⟨jM au cu bu (by rcases jN with rfl | ⟨j,rfl⟩ <;> intro e <;> first | exact b7 _ e.symm | exact ch _ _ e.symm),setRow_other w b au cur' bO,fun o ai=>ai⟩
 ·obtain ⟨v,ae⟩:=ah.cd au o ai;exact ⟨v,(bx au o (hB au o ai)).trans ae⟩
 ·rw [bP];by_cases h:U au=some L
  ·exact ah.base au L h
  ·simp only [az,h,if_false] at bu;exact ah.base au cu bu
theorem F7 (ah:aK B U J S w H) {l:aH} (b7:∀ id,l≠.obj id) (ch:∀ id j,l≠.cell id j) {lo:Nat} {t:TypeId} {a u:I} {x v:Value} {H':List ar} (h:iB P lo H t a u=some H')
  (cc:Rel J S w a x) (aj:Rel J S w u v) (aq:aW U J S w l u v) (y:Value) :
  ∃ w',(Instr.storeAt t x v).run P w=.ok () w'∧a1 B U J S w H' .junk y w':=by
 have key:∀ {H H':List ar} (_:aK B U J S w H) {id off s:Nat} (_:bD P t=some s) {vc:List I} (_:u.cells=some vc) {ll l':List I} (_:H[id]?=some (.cells ll))
   (_:(if vc.length=s∧off+s≤ll.length then some (setCells off (vc.map I.settle) ll) else none)=some l') (_:Rel J S w (.ptr id off) x) (_:H'=H.set id (.cells l')),
   ∃ w' b cur,(Instr.storeAt t x v).run P w=.ok () w'∧a1 B U J S w H' .junk y w'∧J[id]?=some b∧(∃ e,w.heap[b]?=some (.cells cur e (0,0)))∧∃ cur' e,w'.heap[b]?=some (.cells cur' e (0,0))∧cur'.size=cur.size:=by
  intro H H' ah id off s ai vc fM ll l' aE c9 cc b_;subst b_
  ·
     split at c9
     ·rename_i g3;obtain ⟨a',bb⟩:=g3;simp only [Option.some.injEq] at c9;subst c9;obtain ⟨S',aJ,aQ,b_,bP,ev,cU⟩:=oZ ah b7 ch fM aj aq;obtain ⟨b,cur,e,aC,aI,aR,bl,bd,bg⟩:=b_.obj id _ aE;cases cc with
      | ptr id off au ag =>
        rw [aC] at ag;cases ag;have cC:=run_storeCells_at P b off e v.cells.toList 0 cur w aR (by simp [bP];omega) ev;simp only [ue] at cC;obtain ⟨az,aA,jC⟩:=n' (cur':=(cur.toList.take off++v.cells.toList++cur.toList.drop (off+v.cells.toList.length)).toArray) (l':=setCells off (vc.map I.settle) ll) b_ aE aC aI aR bd l b7 ch
         (by simp [ln,bP];omega) off (fun j bG bn hu ae=>by
          rw [m5 _ _ _ _ (by simp;omega)] at hu;(have ae:(cur.toList.take off++v.cells.toList++cur.toList.drop (off+v.cells.toList.length))[j]?=some bn:=by simpa using ae);rw [jc _ _ _ _ (by simp [bP];omega)] at ae;simp only [List.length_map,tQ,bP] at hu ae;split at hu
          ·rename_i aw;rw [if_pos aw] at ae;obtain ⟨d1,d2,d3⟩:=cU (j-off) bG bn hu (by simpa using ae);refine ⟨d1,ev bn (sZ ae),d2,?_⟩;rcases d3 with d3 | ⟨d3,_,d4⟩
           ·exact .inl d3
           ·exact .inr (.inr ⟨by omega,d4⟩)
          ·rename_i aw;rw [if_neg aw] at ae;obtain ⟨d1,d0,d2,d3⟩:=bg j bG bn hu (by simpa using ae)
           exact ⟨d1,d0,d2,.inr (.inl d3)⟩)
        refine ⟨_,b,cur,?_,⟨az,J,S',Ext.refl J,(bj.settle aJ (fun b o h=>(aQ b o h).imp (fun h=>h) fun h=>⟨_,h⟩)).trans aA,jC,.junk y,aW.b4 rfl⟩,aC,⟨e,aR⟩,_,e,setRow_heap w b cur _ e (0,0) aR,?_⟩
        ·simp only [Instr.storeAt,Instr.sureAddr,storeVar,Sem.run_bind,Sem.run_pure,Result.andThen_ok,run_sizeOf ai];rw [if_neg (by rw [bP,a'];simp)];exact cC
        ·simp [bP];omega
     ·simp at c9
 unfold iB at h;split at h
 ·rename_i id off s ai;split at h
  ·rename_i vc fM;unfold hg at h;split at h
   ·split at h
    ·rename_i lo' ll aE;simp only [su] at h;obtain ⟨l',c9,rfl⟩:=h;obtain ⟨w',_,_,q1,aX,_⟩:=key ah ai fM aE c9 cc rfl;exact ⟨w',q1,aX⟩
    ·rename_i lo' ll g z aE;simp only [su] at h;obtain ⟨l',c9,rfl⟩:=h;have aS:=(sv.1 aE).1;obtain ⟨b,cur,e,aC,aI,aR,bl,bd,bg,cap,c',dv,dV,gz⟩:=ah.obj id _ aE;obtain ⟨w',au,Cd,q1,⟨az,bV,S',bS,bZ,ed,fR⟩,cy,⟨f',dF⟩,cur',cX,mZ,xC⟩:=key (ah.oH aE) ai fM (ll:=ll) (by rw [sI aS]) c9 cc rfl;rw [aC] at cy;cases cy;rw [aR] at dF;cases dF;have aO:=ed.xH (g:=g) (z:=z) (by rw [sI (by simpa using aS)]) (bS _ _ aC) (bS _ _ c') dv dV mZ (by rw [xC,gz]);rw [te,te] at aO;exact ⟨w',q1,az,bV,S',bS,bZ,aO,fR⟩
    ·simp at h
   ·simp at h
  ·simp at h
 ·simp at h
theorem F9 (ah:aK B U J S w H) {l:aH} (b7:∀ id,l≠.obj id) (ch:∀ id j,l≠.cell id j) {lo:Nat} {t:TypeId} {a u:I} {x v:Value} {H':List ar} (h:km P lo H t a u=some H')
  (cc:Rel J S w a x) (aj:Rel J S w u v) (aq:aW U J S w l u v) (y:Value) :
  ∃ w',(Instr.storeAt t x v).run P w=.ok () w'∧a1 B U J S w H' .junk y w':=by
 unfold km at h;split at h
 ·rename_i id off c n z ai;split at h
  ·rename_i al;obtain ⟨aT,r2⟩:=Gl al.2 al.1 aj aq;unfold fP at h;split at h
   ·split at h
    ·rename_i lo' ll aE;simp only [su] at h;obtain ⟨l',c9,rfl⟩:=h;split at c9
     ·rename_i cP;simp only [Option.some.injEq] at c9;subst c9;obtain ⟨b,cur,e,aC,aI,aR,bl,bd,bg⟩:=ah.obj id _ aE;cases cc with
      | ptr id off au ag =>
        rw [aC] at ag;cases ag;(have ev:∃ b o cap,v=.slice (some ⟨b,o,none⟩) n cap:=by cases aT with | raw _ _ _ b o cap=>exact ⟨b,o,cap,rfl⟩);(have d_:v.cells=#[v]∧v.oneCell'=true:=by obtain ⟨b,o,cap,rfl⟩:=ev;exact ⟨rfl,rfl⟩);have cC:=run_storeCells_at P b off e v.cells.toList 0 cur w aR (by rw [d_.1];simp;omega) (by rw [d_.1];simp [d_.2]);simp only [ue,d_.1] at cC;obtain ⟨az,aA,jC⟩:=n' (cur':=(cur.toList.take off++[v]++cur.toList.drop (off+1)).toArray) (l':=ll.set off (.raw c n z)) ah aE aC aI aR bd l b7 ch
         (by simp;omega) off (fun j bG bn hu ae=>by
          (have ae:(cur.toList.take off++[v]++cur.toList.drop (off+1))[j]?=some bn:=by simpa using ae);have da:=jc cur.toList [v] off j (by simp;omega);simp only [List.length_singleton] at da;rw [da] at ae;by_cases aw:off=j
          ·subst aw;rw [sI cP] at hu;cases hu;rw [if_pos ⟨by omega,by omega⟩] at ae;simp at ae;subst ae;exact ⟨rfl,d_.2,aT,.inr (.inr ⟨rfl,r2⟩)⟩
          ·rw [sJ aw] at hu;rw [if_neg (by omega)] at ae;obtain ⟨d1,d0,d2,d3⟩:=bg j bG bn hu (by simpa using ae)
           exact ⟨d1,d0,d2,.inr (.inl d3)⟩)
        refine ⟨_,?_,az,J,S,Ext.refl J,aA,jC,.junk y,aW.b4 rfl⟩;simp only [Instr.storeAt,Instr.sureAddr,storeVar,Sem.run_bind,Sem.run_pure,Result.andThen_ok,run_sizeOf ai];rw [if_neg (by rw [d_.1];simp),d_.1];exact cC
     ·simp at c9
    ·simp at h
   ·simp at h
  ·simp at h
 ·simp at h
theorem F8 (ah:aK B U J S w H) {l:aH} (b7:∀ id,l≠.obj id) (ch:∀ id j,l≠.cell id j) {lo:Nat} {t:TypeId} {a u:I} {x v:Value} {H':List ar} (h:lJ P lo H t a u=some H')
  (cc:Rel J S w a x) (aj:Rel J S w u v) (aq:aW U J S w l u v) (y:Value) :
  ∃ w',(Instr.storeAt t x v).run P w=.ok () w'∧a1 B U J S w H' .junk y w':=by
 unfold lJ at h;split at h
 ·rename_i id off as c n z bs s ai;split at h
  ·rename_i GM;unfold fP at h;split at h
   ·split at h
    ·rename_i lo' ll aE;simp only [su] at h;obtain ⟨l',c9,rfl⟩:=h;split at c9
     ·rename_i cP;simp only [Option.some.injEq] at c9;subst c9;obtain ⟨b,cur,e,aC,aI,aR,bl,bd,bg⟩:=ah.obj id _ aE;cases cc with
      | ptr id off au ag =>
        rw [aC] at ag;cases ag;cases aj with
        | cZ _ _ _ _ _ vs hI lb ld one oe ro og =>
          have jS:∀ v,vs[as.length]?=some v→gy U S w l c n z v:=aq;have cC:=run_storeCells_at P b off e vs.toList 0 cur w aR (by simp;omega) one;simp only [ue] at cC;obtain ⟨az,aA,jC⟩:=n' (cur':=(cur.toList.take off++vs.toList++cur.toList.drop (off+vs.toList.length)).toArray) (l':=setCells off (as++.ax c n (.own z)::bs) ll) ah aE aC aI aR bd l b7 ch
           (by simp [ln];omega) (off+as.length) (fun j bG bn hu ae=>by
            rw [m5 _ _ _ _ (by simp;omega)] at hu;(have ae:(cur.toList.take off++vs.toList++cur.toList.drop (off+vs.toList.length))[j]?=some bn:=by simpa using ae);rw [jc _ _ _ _ (by simp;omega)] at ae;simp only [sC,sV,tQ] at hu ae;split at hu
            ·rename_i aw;rw [if_pos (by omega)] at ae;(have ae:vs[j-off]?=some bn:=by simpa using ae);have ad:=one bn (by simpa using vu ae);rcases vO (j-off) as.length with af | af | af
             ·rw [sQ af] at hu;have aB:=lb bG (sZ hu);exact ⟨I.fx aB,ad,oe _ bG bn hu ae,.inl aB⟩
             ·rw [af,s_ (sB _),tY] at hu;simp only [uJ,Option.some.injEq] at hu;subst hu;rw [af] at ae;exact ⟨rfl,ad,ro bn ae,.inr (.inr ⟨by omega,(jS bn ae).at⟩)⟩
             ·obtain ⟨k,av⟩:∃ k,j-off=as.length+1+k:=⟨j-off-(as.length+1),by omega⟩;rw [av,s_ (by omega),show as.length+1+k-as.length=k+1 by omega,uU] at hu;rw [av] at ae;have aB:=ld bG (sZ hu);exact ⟨I.fx aB,ad,og _ bG bn hu ae,.inl aB⟩
            ·rename_i aw;rw [if_neg (by omega)] at ae;obtain ⟨d1,d0,d2,d3⟩:=bg j bG bn hu (by simpa using ae)
             exact ⟨d1,d0,d2,.inr (.inl d3)⟩)
          refine ⟨_,?_,az,J,S,Ext.refl J,aA,jC,.junk y,aW.b4 rfl⟩;simp only [Instr.storeAt,Instr.sureAddr,storeVar,Sem.run_bind,Sem.run_pure,Result.andThen_ok,run_sizeOf ai];(have bP:(Value.agg vs).cells.size=s:=by show vs.size=s;omega);rw [if_neg (by rw [bP];simp)];exact cC
     ·simp at c9
    ·simp at h
   ·simp at h
  ·simp at h
 ·simp at h
theorem hL (ah:aK B U J S w H) {l:aH} (b7:∀ id,l≠.obj id) (ch:∀ id j,l≠.cell id j) {u:I} {v:Value} (aj:Rel J S w u v) (aq:aW U J S w l u v) :
  a1 B U J S w H u v w:=by
 classical
 let az:Nat→Option aH:=fun b=>if U b=some l then some .res else U b
 have aA:bj U S w az S w:=⟨rfl,rfl,rfl,sB _,fun _ _ _=>rfl,fun _ _ h=>⟨h,rfl⟩,fun _ _ h=>.inl h,fun b ag=>.inl fun aV=>ag (by simp [az,aV])⟩;refine ⟨az,J,S,Ext.refl J,aA,ah.frame aA (fun b l' ag ao=>?_) ah.cd (fun b l' ag=>?_),aj,aq.mono (Ext.refl J) aA.set fun b ag=>⟨by simp [az,ag],rfl,fun _ h=>h⟩⟩
 ·have bO:l'≠l:=by rcases ao with ⟨id,rfl⟩ | ⟨id,j,rfl⟩ <;> intro e <;> first | exact b7 _ e.symm | exact ch _ _ e.symm
  exact ⟨by simp [az,ag,bO],rfl,fun _ h=>h⟩
 ·by_cases h:U b=some l
  ·exact ah.base b l h
  ·simp only [az,h,if_false] at ag;exact ah.base b l' ag
theorem Aa (ah:aK B U J S w H) {l:aH} (b7:∀ id,l≠.obj id) (ch:∀ id j,l≠.cell id j) {cells:List I} {len z:Nat} (aV:len≠0) {v:Value}
  (aj:Rel J S w (.ax cells len (.uniq z)) v) (aq:aW U J S w l (.ax cells len (.uniq z)) v) :
  a1 B U J S w (H++[.cells cells]) (.ref H.length 0 len none z) v w:=by
 classical
 cases aj with
 | b2 c a=>exact absurd rfl aV
 | ax cells len c b o cap f al hle hu h fu=>exact absurd rfl (hu z)
 | cK cells len z b o cap =>
   rcases aq with ⟨rfl,_,_⟩ | ⟨ad,aq,af,aG,a6,bM,⟨cur,e,bT,cJ,cL⟩,cN⟩
   ·exact absurd rfl aV
   ·simp only at ad bT cN aq;subst aq
    let az:Nat→Option aH:=fun au=>if au=b then some (.obj H.length) else U au
    have aA:bj U S w az S w:=⟨rfl,rfl,rfl,sB _,fun _ _ _=>rfl,fun _ _ h=>⟨h,rfl⟩,fun _ _ h=>.inl h,fun au ag=>by
     by_cases dH:au=b
     ·subst dH;exact .inl (by simp [ad])
     ·simp only [az,dH,if_false] at ag;exact .inl ag⟩
    have bW:aK B az J S w H:=by
     refine ah.frame aA (fun au l' ag ao=>?_) ah.cd (fun au l' ag=>?_)
     ·have bO:au≠b:=fun e=>by
       subst e;rw [ad] at ag;cases ag;rcases ao with ⟨id,h⟩ | ⟨id,j,h⟩
       ·exact b7 _ h
       ·exact ch _ _ h
      exact ⟨by simp [az,bO,ag],rfl,fun _ h=>h⟩
     ·by_cases dH:au=b
      ·subst dH;exact ah.base _ l ad
      ·simp only [az,dH,if_false] at ag;exact ah.base au l' ag
    refine ⟨az,_,S,Ext.append J [b],aA,bW.push b ⟨b,cur,e,Ext.last ah _,by simp [az],bT,by rw [cJ,bM];exact tP _ af,cN,fun j u v hu ae=>?_⟩,
     .ref _ _ _ _ _ b _ (Ext.last ah _) (by simp) af,aW.b4 rfl⟩
    obtain ⟨a',bb,bt⟩:=cL j u v hu ae;exact ⟨I.fx a',bb,bt.mono (Ext.append J _) aA.set,aW.b4 a'⟩
theorem xX (ah:aK B U J S w H) {u:I} {v:Value} {row:List I} (h:rowOf H u=some row) (aj:Rel J S w u v) (aN:u.cR=true) :
  (row=[]∧∃ a c,v=.slice a 0 c)∨∃ b o n c vs,v=.slice (some ⟨b,o,none⟩) n c∧c3 J S w row vs∧(∀ j x,vs[j]?=some x→w.cell? ⟨b,o+j,none⟩=some x):=by
 unfold rowOf at h;split at h
 ·rename_i cells len c;simp at h;subst h;cases aj with
  | b2 c a=>exact .inl ⟨rfl,a,_,rfl⟩
  | cK=>simp [I.cR] at aN
  | ax _ _ _ b o cap f al hle hu bx b1 =>
    refine .inr ⟨b,o,len,cap,(List.range cells.length).map f,rfl,⟨by simp,fun j u v b' bf=>?_⟩,fun j x ak=>?_⟩
    ·have aw:=(sv.1 b').1;simp [aw] at bf;subst bf;exact ⟨(bx j u b').2.2.1,(bx j u b').2.2.2,b1 j u b'⟩
    ·simp only [sN,su] at ak;obtain ⟨k,av,rfl⟩:=ak;(have aw:j<cells.length:=by have:=(sv.1 av).1;simpa using this);simp [aw] at av;subst av;exact (bx j _ (sK aw)).2.1
 ·rename_i id off len cap sz;split at h
  ·rename_i l aE;split at h
   ·rename_i hle;simp only [Option.some.injEq] at h;subst h;obtain ⟨b,cur,e,aC,aI,aR,bl,bd,bg⟩:=ah.obj id _ aE;cases aj with
    | ref id off len c sz au cap' ag al Da =>
      rw [aC] at ag;cases ag;refine .inr ⟨b,off,len,cap',(cur.toList.drop off).take (len*sz),rfl,⟨by simp;omega,fun j u v b' bf=>?_⟩,fun j x ak=>?_⟩
      ·simp only [sN,su] at b';obtain ⟨y,aZ,rfl⟩:=b';rw [tp] at aZ bf;split at aZ
       ·rename_i aw;rw [if_pos aw] at bf;rw [tr] at aZ bf;obtain ⟨d1,d0,d2,_⟩:=bg (off+j) y v aZ (by simpa using bf);exact ⟨I.dj y,d0,d2.view d1⟩
       ·simp at aZ
      ·rw [tp] at ak;split at ak
       ·rw [tr] at ak;rw [cell_of_row w b _ cur e (0,0) aR];simpa using ak
       ·simp at ak
   ·simp at h
  ·simp at h
 ·simp at h
theorem mJ {u:I} {v:Value} {n:Nat} (h:lenOf u=some n) (aj:Rel J S w u v):∃ a c,v=.slice a n c:=by
 unfold lenOf at h;split at h
 ·simp at h;subst h;cases aj with
  | b2 c a=>exact ⟨_,_,rfl⟩
  | ax=>exact ⟨_,_,rfl⟩
  | cK=>exact ⟨_,_,rfl⟩
 ·simp at h;subst h;cases aj with
  | ref=>exact ⟨_,_,rfl⟩
 ·simp at h
end
end Go.Proofs.YtfakoboiahbhaaaGreat.Ab


namespace Go.Proofs.YtfakoboiahbhaaaGreat.Ab
open Go
section
variable {P:Program} {B:Nat} {J:List Nat} {w:World} {H:List ar} {U:Nat→Option aH} {S:Nat→Nat→Prop}
theorem a1.after {b5:Nat→Option aH} {c2:List Nat} {a8:Nat→Nat→Prop} {bH:World} (bK:Ext J c2) (aA:bj U S w b5 a8 bH) {H':List ar} {r:I} {v:Value} {w':World} (h:a1 B b5 c2 a8 bH H' r v w'):a1 B U J S w H' r v w':=by
 obtain ⟨az,bV,S',a,b,c,d,e⟩:=h;exact ⟨az,bV,S',bK.trans a,aA.trans b,c,d,e⟩
theorem a1.settle {cells:List I} {len z:Nat} {v:Value} {w':World} {H':List ar} (h:a1 B U J S w H' (.ax cells len (.uniq z)) v w'):a1 B U J S w H' (.ax cells len (.own z)) v w':=by
 obtain ⟨az,bV,S',a,b,c,d,e⟩:=h;obtain ⟨a8,aJ,aQ,cp,aT,r2,eL⟩:=kc c d e;exact ⟨az,bV,a8,a,b.trans (bj.settle aJ fun b o h=>(aQ b o h).imp (fun h=>h) fun h=>⟨_,h⟩),c.settle aJ (fun b o h=>(aQ b o h).imp (fun h=>h) fun h=>⟨_,h,by simp,by simp⟩) cp,r2,eL⟩
theorem AU (t ty e:TypeId) (i:TypeInfo) (ay:P.underlying t=some (.slice e)) (hi:P.info? e=some i) (base:Option Addr) (eN hq:Nat) (hle:eN≤hq) (a:Option Addr) (c:Nat) :
  (Builtin.append_ #[t,t] ty #[.slice base eN hq,.slice a 0 c]).run P w=.ok (.slice base eN hq) w:=by
 cases a <;> cases base <;> simp [Builtin.append_,run_underlying ay,sizeOf,typeInfo,hi,Builtin.lenOf,hle,Builtin.firstCells,loadCells,loadCellsFrom,storeCells]
theorem AR (w:World) (t ty e:TypeId) (i:TypeInfo) (ay:P.underlying t=some (.slice e)) (hi:P.info? e=some i)
  (g eN hq:Nat) (cur:Array Value) (ce:TypeId) (aO:w.heap[g]?=some (.cells cur ce (0,0)))
  (a:Addr) (m c:Nat) (news:List Value) (ao:news.length=m*i.size) (pO:∀ j u,news[j]?=some u→w.cell? (a.add j)=some u) (ad:∀ u∈news,u.oneCell'=true)
  (ew:eN+m≤hq) (dI:eN*i.size+news.length≤cur.size) :
  (Builtin.append_ #[t,t] ty #[.slice (some ⟨g,0,none⟩) eN hq,.slice (some a) m c]).run P w =
   .ok (.slice (some ⟨g,0,none⟩) (eN+m) hq) (w.setRow g (cur.toList.take (eN*i.size)++news++cur.toList.drop (eN*i.size+news.length)).toArray):=by
 have aP:=run_firstCells_some (P:=P) w i.size m a m c news ao pO;have cC:=run_storeCells_at P g (eN*i.size) ce news 0 cur w aO (by simpa using dI) ad;simp only [ue] at cC;simp [Builtin.append_,run_underlying ay,sizeOf,typeInfo,hi,Builtin.lenOf,ew,aP,Addr.add_lit,cC]
theorem Fb (w:World) (t ty e:TypeId) (i:TypeInfo) (ay:P.underlying t=some (.slice e)) (hi:P.info? e=some i)
  (g k eN hq:Nat) (cur:Array Value) (ce:TypeId) (aO:w.heap[g]?=some (.cells cur ce (0,0)))
  (a:Addr) (m c:Nat) (news:List Value) (ao:news.length=m*i.size) (pO:∀ j u,news[j]?=some u→w.cell? (a.add j)=some u) (ad:∀ u∈news,u.oneCell'=true)
  (ew:eN+m≤hq) (dI:k+eN*i.size+news.length≤cur.size) :
  (Builtin.append_ #[t,t] ty #[.slice (some ⟨g,k,none⟩) eN hq,.slice (some a) m c]).run P w =
   .ok (.slice (some ⟨g,k,none⟩) (eN+m) hq) (w.setRow g (cur.toList.take (k+eN*i.size)++news++cur.toList.drop (k+eN*i.size+news.length)).toArray):=by
 have aP:=run_firstCells_some (P:=P) w i.size m a m c news ao pO;have cC:=run_storeCells_at P g (k+eN*i.size) ce news 0 cur w aO (by simpa using dI) ad;simp only [ue] at cC;simp [Builtin.append_,run_underlying ay,sizeOf,typeInfo,hi,Builtin.lenOf,ew,aP,Addr.add_lit,cC]
section grow
variable {t ty e:TypeId} {i:TypeInfo} {z:Value} {Hf:List I}
theorem hZ (ah:aK B U J S w H) (ay:P.underlying t=some (.slice e)) (hi:P.info? e=some i) (bk:i.zero=some z) (ey:z.cells.size=i.size) (bP:0<i.size)
  (v:Value) (len cap:Nat) (iV:List Value) (ae:((∃ a,v=.slice a 0 0)∧len=0∧cap=0∧iV=[])∨∃ b o,v=.slice (some ⟨b,o,none⟩) len cap∧∀ j x,iV[j]?=some x→w.cell? ⟨b,o+j,none⟩=some x)
  {cs:List I} (gI:c3 J S w cs iV) (fK:cs.length=len*i.size)
  {au cM m c:Nat} {new:List I} {news:List Value} (hnew:c3 J S w new news) (bx:∀ j x,news[j]?=some x→w.cell? ⟨au,cM+j,none⟩=some x) (cY:new.length=m*i.size)
  (hm:0<m) (nF:cap<len+m) (ew:(len+m)*i.bytes≤140737488355328) (gG:1≤i.bytes) :
  ∃ x w',(Builtin.append_ #[t,t] ty #[v,.slice (some ⟨au,cM,none⟩) m c]).run P w=.ok x w'∧a1 B U J S w H (.ax (cs++new) (len+m) (.uniq i.size)) x w':=by
 have Db:len+m≤140737488355328:=tb (uS _ gG) ew;have eu:len+m≤maxLen:=by simp only [maxLen];omega
 have eU:news.length=m*i.size:=hnew.len ▸ cY;have y_:iV.length=len*i.size:=gI.len ▸ fK;have kB:∀ j x,news[j]?=some x→w.cell? ((⟨au,cM,none⟩:Addr).add j)=some x:=fun j x h=>by rw [add_lit];exact bx j x h
 have fin:∀ fe:Nat,fe=grownCap w (len+m) cap e →
   a1 B U J S w H (.ax (cs++new) (len+m) (.uniq i.size)) (.slice (some ⟨w.heap.size,0,none⟩) (len+m) fe)
    (w.drew.alloc (.cells (iV.toArray++news.toArray++Builtin.zeroCells z.cells (fe-(len+m))) e)):=by
  rintro fe rfl;have fh:=grownCap_ge w (len+m) cap e;have hle:=grownCap_le_maxLen w (len+m) cap e eu;generalize grownCap w (len+m) cap e=fe at fh hle;have aA:=kr U S w;have h:=n7 (mr ah) ((gI.append hnew).mono (Ext.refl J) aA.set) (Builtin.zeroCells z.cells (fe-(len+m))).toList e (len+m) fe i.size bP
   (by rw [sC,fK,cY,tH]) fh hle (by
    rw [sC,y_,eU,←tH,tQ,size_zeroCells,ey,←tH];congr 1;omega)
  have he:(iV++news++(Builtin.zeroCells z.cells (fe-(len+m))).toList).toArray=iV.toArray++news.toArray++Builtin.zeroCells z.cells (fe-(len+m)):=by
   apply Array.ext';simp
  rw [he] at h;exact a1.after (Ext.refl J) aA h
 rcases ae with ⟨⟨ju,rfl⟩,rfl,rfl,rfl⟩ | ⟨b,o,rfl,hold⟩
 ·cases ju with
  | none =>
    have aj:=run_append_nil (P:=P) w t ty e i z ay hi bk ⟨au,cM,none⟩ m c news eU kB hm (by omega) (by rw [tg] at ew;omega);have f:=fin _ rfl;refine ⟨_,_,aj,?_⟩;simpa using f
  | some lL =>
    have aj:=run_append_grow (P:=P) w t ty e i z ay hi bk lL 0 0 [] (by simp) (by simp) ⟨au,cM,none⟩ m c news eU kB nF (by omega) (growslice_fits nF ew);exact ⟨_,_,aj,fin _ rfl⟩
 ·have aj:=run_append_grow (P:=P) w t ty e i z ay hi bk ⟨b,o,none⟩ len cap iV y_ (fun j x h=>by rw [add_lit];exact hold j x h) ⟨au,cM,none⟩ m c news eU kB nF (by omega) (growslice_fits nF ew);exact ⟨_,_,aj,fin _ rfl⟩
theorem BX (ah:aK B U J S w H) (ay:P.underlying t=some (.slice e)) (hi:P.info? e=some i) (bP:0<i.size) {l:aH} (b7:∀ id,l≠.obj id) (ch:∀ id j,l≠.cell id j)
  {cells:List I} {len b cap:Nat} {cur:Array Value} {ce:TypeId} (bE:U b=some l) (k1:cap≤maxLen) (ie:cells.length=len*i.size)
  (hh:w.heap[b]?=some (.cells cur ce (0,0))) (gN:cur.size=cap*i.size) (j2:∀ (j:Nat) (u:I) (v:Value),cells[j]?=some u→cur[j]?=some v→u.plain=true∧v.oneCell'=true∧Rel J S w u v)
  (hj:∀ o,¬ S b o)
  {au cM m c:Nat} {new:List I} {news:List Value} (hnew:c3 J S w new news) (bx:∀ j x,news[j]?=some x→w.cell? ⟨au,cM+j,none⟩=some x) (cY:new.length=m*i.size) (dI:len+m≤cap) :
  ∃ x w',(Builtin.append_ #[t,t] ty #[.slice (some ⟨b,0,none⟩) len cap,.slice (some ⟨au,cM,none⟩) m c]).run P w=.ok x w'∧a1 B U J S w H (.ax (cells++new) (len+m) (.uniq i.size)) x w':=by
 classical
 have eU:news.length=m*i.size:=hnew.len ▸ cY;have jH:(len+m)*i.size≤cap*i.size:=tP _ dI;rw [tH] at jH;have ev:∀ u∈news,u.oneCell'=true:=fun u hu=>by
  obtain ⟨j,aw⟩:=tE.1 hu;have aS:=(sv.1 aw).1;exact (hnew.rel j _ u (sK (hnew.len ▸ aS)) aw).2.1
 have aj:=AR w t ty e i ay hi b len cap cur ce hh ⟨au,cM,none⟩ m c news eU (fun j x h=>by rw [add_lit];exact bx j x h) ev dI (by rw [gN];omega)
 let cur':Array Value:=(cur.toList.take (len*i.size)++news++cur.toList.drop (len*i.size+news.length)).toArray
 have nA:∀ bq o,bq≠b→(w.setRow b cur').cell? ⟨bq,o,none⟩=w.cell? ⟨bq,o,none⟩:=fun bq o h=>by
  unfold World.cell?;simp only [setRow_other w b bq cur' h]
 let az:Nat→Option aH:=fun bq=>if bq=b then some .res else U bq
 have kN:(w.setRow b cur').heap.size=w.heap.size:=by simp [World.setRow]
 have aA:bj U S w az S (w.setRow b cur'):=by
  refine ⟨rfl,rfl,rfl,by omega,fun bq ag aN=>setRow_other w b bq cur' (fun e=>by subst e;rw [bE] at aN;cases aN),fun bq o ai=>⟨ai,nA bq o (fun e=>hj o (e ▸ ai))⟩,fun _ _ ai=>.inl ai,fun bq ag=>?_⟩;by_cases h:bq=b
  ·subst h;exact .inl (by simp [bE])
  ·simp only [az,h,if_false] at ag;exact .inl ag
 refine ⟨_,_,aj,az,J,S,Ext.refl J,aA,ah.frame aA (fun bq l' ag ao=>?_) (fun bq o ai=>?_) (fun bq l' ag=>?_),.cK _ _ _ _ _ _,.inr ⟨by simp [az],rfl,dI,k1,bP,by rw [sC,ie,cY,tH],⟨cur',ce,setRow_heap w b cur cur' ce (0,0) hh,?_,fun j u v hu ae=>?_⟩,hj⟩⟩
 ·have bO:bq≠b:=fun e=>by
   subst e;rw [bE] at ag;cases ag;rcases ao with ⟨id,h⟩ | ⟨id,j,h⟩
   ·exact b7 _ h
   ·exact ch _ _ h
  exact ⟨by simp [az,bO,ag],setRow_other w b bq cur' bO,fun _ h=>h⟩
 ·obtain ⟨v,ae⟩:=ah.cd bq o ai;exact ⟨v,(nA bq o (fun e=>hj o (e ▸ ai))).trans ae⟩
 ·rw [kN];by_cases h:bq=b
  ·subst h;exact ah.base _ l bE
  ·simp only [az,h,if_false] at ag;exact ah.base bq l' ag
 ·have ad:cur.toList.length=cap*i.size:=by simp [gN]
  show (List.toArray _).size=_;rw [ug,sC,sC,tf,uh,ad,eU,tI (by omega)];omega
 ·have ae:(cur.toList.take (len*i.size)++news++cur.toList.drop (len*i.size+news.length))[j]?=some v:=by simpa [cur'] using ae
  have ad:cur.toList.length=cap*i.size:=by simp [gN]
  rw [jc _ _ _ _ (by rw [ad];omega)] at ae;by_cases aw:j<cells.length
  ·rw [sQ aw] at hu;rw [if_neg (by omega)] at ae;obtain ⟨a',bb,bt⟩:=j2 j u v hu (by simpa using ae);exact ⟨a',bb,bt.mono (Ext.refl J) aA.set⟩
  ·rw [s_ (by omega)] at hu;have nH:=(sv.1 hu).1;rw [if_pos ⟨by omega,by rw [eU,←cY];omega⟩] at ae;rw [ie] at hu;obtain ⟨a',bb,bt⟩:=hnew.rel _ u v hu ae;exact ⟨a',bb,bt.mono (Ext.refl J) aA.set⟩
theorem BW (ah:aK B U J S w H) (ay:P.underlying t=some (.slice e)) (hi:P.info? e=some i) (bP:0<i.size) {l:aH} (b7:∀ id,l≠.obj id) (ch:∀ id j,l≠.cell id j)
  {cells:List I} {len b k cap:Nat} {cur:Array Value} {ce:TypeId} {f:Nat→Value} (bE:U b=some l) (k1:cap≤maxLen) (ie:cells.length=len*i.size)
  (hh:w.heap[b]?=some (.cells cur ce (0,0))) (gN:cur.size=k+cap*i.size)
  (h:∀ (j:Nat) (u:I),cells[j]?=some u→S b (k+j)∧w.cell? ⟨b,k+j,none⟩=some (f j)∧u.plain=true∧(f j).oneCell'=true)
  (aj:∀ (j:Nat) (u:I),cells[j]?=some u→Rel J S w u (f j)) (hj:∀ o,k+cells.length≤o→¬ S b o)
  {au cM m c:Nat} {new:List I} {news:List Value} (hnew:c3 J S w new news) (bx:∀ j x,news[j]?=some x→w.cell? ⟨au,cM+j,none⟩=some x) (cY:new.length=m*i.size) (dI:len+m≤cap) :
  ∃ x w',(Builtin.append_ #[t,t] ty #[.slice (some ⟨b,k,none⟩) len cap,.slice (some ⟨au,cM,none⟩) m c]).run P w=.ok x w'∧a1 B U J S w H (.ax (cells++new) (len+m) (.own i.size)) x w':=by
 classical
 have eU:news.length=m*i.size:=hnew.len ▸ cY;have jH:(len+m)*i.size≤cap*i.size:=tP _ dI;rw [tH] at jH;have ev:∀ u∈news,u.oneCell'=true:=fun u hu=>by
  obtain ⟨j,aw⟩:=tE.1 hu;have aS:=(sv.1 aw).1;exact (hnew.rel j _ u (sK (hnew.len ▸ aS)) aw).2.1
 have dN:=Fb w t ty e i ay hi b k len cap cur ce hh ⟨au,cM,none⟩ m c news eU (fun j x h=>by rw [add_lit];exact bx j x h) ev dI (by rw [gN];omega)
 let cur':Array Value:=(cur.toList.take (k+len*i.size)++news++cur.toList.drop (k+len*i.size+news.length)).toArray
 have pt:∀ j:Nat,cur'[j]?=if k+len*i.size≤j∧j<k+len*i.size+news.length then news[j-(k+len*i.size)]? else cur[j]?:=fun j=>by
  have ad:cur.toList.length=k+cap*i.size:=by simp [gN]
  have:=jc cur.toList news (k+len*i.size) j (by rw [ad];omega);simpa [cur'] using this
 have kB:∀ j,(w.setRow b cur').cell? ⟨b,j,none⟩=cur'[j]?:=fun j=>cell_of_row _ b j cur' ce (0,0) (setRow_heap w b cur cur' ce (0,0) hh);have fJ:∀ j,w.cell? ⟨b,j,none⟩=cur[j]?:=fun j=>cell_of_row _ b j cur ce (0,0) hh;have nA:∀ bq o,bq≠b→(w.setRow b cur').cell? ⟨bq,o,none⟩=w.cell? ⟨bq,o,none⟩:=fun bq o h=>by
  unfold World.cell?;simp only [setRow_other w b bq cur' h]
 let az:Nat→Option aH:=fun bq=>if bq=b then some .res else U bq
 let S':Nat→Nat→Prop:=fun bq o=>S bq o∨(bq=b∧k+cells.length≤o∧o<k+cells.length+new.length)
 have kN:(w.setRow b cur').heap.size=w.heap.size:=by simp [World.setRow]
 have cm:∀ bq o,S bq o→(w.setRow b cur').cell? ⟨bq,o,none⟩=w.cell? ⟨bq,o,none⟩:=fun bq o ai=>by
  by_cases ag:bq=b
  ·subst ag;have aq:o<k+cells.length:=by
    rcases tq o (k+cells.length) with h | h
    ·exact h
    ·exact absurd ai (hj o h)
   rw [kB,pt,if_neg (by omega),fJ]
  ·exact nA bq o ag
 have aA:bj U S w az S' (w.setRow b cur'):=by
  refine ⟨rfl,rfl,rfl,by omega,fun bq ag aN=>setRow_other w b bq cur' (fun e=>by subst e;rw [bE] at aN;cases aN),fun bq o ai=>⟨.inl ai,cm bq o ai⟩,fun bq o ai=>?_,fun bq ag=>?_⟩
  ·rcases ai with ai | ⟨rfl,_⟩
   ·exact .inl ai
   ·exact .inr (.inl (by simp [bE]))
  ·by_cases h:bq=b
   ·subst h;exact .inl (by simp [bE])
   ·simp only [az,h,if_false] at ag;exact .inl ag
 have pN:∀ (j:Nat) (u:I),(cells++new)[j]?=some u→S' b (k+j)∧(w.setRow b cur').cell? ⟨b,k+j,none⟩=some (cur'.getD (k+j) undef)∧u.plain=true∧(cur'.getD (k+j) undef).oneCell'=true∧Rel J S' (w.setRow b cur') u (cur'.getD (k+j) undef):=by
  intro j u hu;rw [kB];by_cases aw:j<cells.length
  ·rw [sQ aw] at hu;obtain ⟨ad,af,aG,a6⟩:=h j u hu;rw [fJ] at af;(have al:cur'[k+j]?=some (f j):=by rw [pt,if_neg (by omega),af]);(have aO:cur'.getD (k+j) undef=f j:=by rw [sT,al];rfl);rw [aO];exact ⟨.inl ad,al,aG,a6,(aj j u hu).mono (Ext.refl J) aA.set⟩
  ·rw [s_ (by omega)] at hu;have nH:=(sv.1 hu).1;have mg:j-cells.length<news.length:=hnew.len ▸ nH;have al:cur'[k+j]?=some (news[j-cells.length]):=by
    rw [pt,if_pos ⟨by omega,by omega⟩,←ie,Nat.add_sub_add_left];exact sK mg
   (have aO:cur'.getD (k+j) undef=news[j-cells.length]:=by rw [sT,al];rfl);obtain ⟨a',bb,bt⟩:=hnew.rel _ u _ hu (sK mg);rw [aO];exact ⟨.inr ⟨rfl,by omega,by omega⟩,al,a',bb,bt.mono (Ext.refl J) aA.set⟩
 refine ⟨_,_,dN,az,J,S',Ext.refl J,aA,ah.frame aA (fun bq l' ag ao=>?_) (fun bq o ai=>?_) (fun bq l' ag=>?_),
  .ax _ _ _ b k cap (fun j=>cur'.getD (k+j) undef) (by simp) dI (by simp) (fun j u hu=>let ⟨aC,aI,aR,bl,_⟩:=pN j u hu;⟨aC,aI,aR,bl⟩) (fun j u hu=>(pN j u hu).2.2.2.2),
  .inr ⟨by simp [az],trivial,rfl,dI,k1,bP,by rw [sC,ie,cY,tH],⟨cur',ce,setRow_heap w b cur cur' ce (0,0) hh,?_⟩,fun o aq ai=>?_⟩⟩
 ·have bO:bq≠b:=fun e=>by
   subst e;rw [bE] at ag;cases ag;rcases ao with ⟨id,h⟩ | ⟨id,j,h⟩
   ·exact b7 _ h
   ·exact ch _ _ h
  refine ⟨by simp [az,bO,ag],setRow_other w b bq cur' bO,fun o ai=>?_⟩;rcases ai with ai | ⟨h,_⟩
  ·exact ai
  ·exact absurd h bO
 ·rcases ai with ai | ⟨rfl,ad,af⟩
  ·obtain ⟨v,ae⟩:=ah.cd bq o ai;exact ⟨v,(cm bq o ai).trans ae⟩
  ·obtain ⟨u,hu⟩:∃ u,(cells++new)[o-k]?=some u:=⟨_,sK (by simp;omega)⟩;have:=(pN (o-k) u hu).2.1;rw [Nat.add_sub_cancel' (by omega)] at this;exact ⟨_,this⟩
 ·rw [kN];by_cases h:bq=b
  ·subst h;exact ah.base _ l bE
  ·simp only [az,h,if_false] at ag;exact ah.base bq l' ag
 ·have ad:cur.toList.length=k+cap*i.size:=by simp [gN]
  show (List.toArray _).size=k+cap*i.size;rw [ug,sC,sC,tf,uh,ad,eU,tI (by omega)];omega
 ·simp only [sC] at aq;rcases ai with ai | ⟨_,ad,af⟩
  ·exact hj o (by omega) ai
  ·omega
end grow
theorem ym (ah:aK B U J S w H) {x:I} {cz:Value} {m:Nat} {new:List I} (h:appended H x=some (m,new)) (aj:Rel J S w x cz) (aN:x.cR=true) :
  (new=[]∧∃ a c,cz=.slice a m c)∨∃ b o c vs,cz=.slice (some ⟨b,o,none⟩) m c∧c3 J S w new vs∧(∀ j y,vs[j]?=some y→w.cell? ⟨b,o+j,none⟩=some y):=by
 unfold appended at h;split at h
 ·rename_i hd row hm cQ;simp only [Option.some.injEq,Prod.mk.injEq] at h;obtain ⟨rfl,rfl⟩:=h;obtain ⟨a,c,ae⟩:=mJ hm aj;rcases xX ah cQ aj aN with ⟨ad,n,dX,af⟩ | ⟨b,o,n,dX,vs,af,aG,a6⟩
  ·rw [af] at ae;cases ae;exact .inl ⟨ad,_,_,af⟩
  ·rw [af] at ae;cases ae;exact .inr ⟨b,o,_,vs,af,aG,a6⟩
 ·simp at h
end
end Go.Proofs.YtfakoboiahbhaaaGreat.Ab


namespace Go.Proofs.YtfakoboiahbhaaaGreat.Ab
open Go
section
variable {P:Program} {B:Nat} {J:List Nat} {w:World} {H:List ar} {U:Nat→Option aH} {S:Nat→Nat→Prop}
theorem mK (ah:aK B U J S w H) {l:aH} (b7:∀ id,l≠.obj id) (ch:∀ id j,l≠.cell id j) {u:I} {v:Value} (aj:Rel J S w u v) (aq:aW U J S w l u v) :
  ∃ S':Nat→Nat→Prop,(∀ b o,S b o→S' b o)∧(∀ b o,S' b o→S b o∨U b=some l)∧aK B U J S' w H∧Rel J S' w u.view v:=by
 by_cases hu:u.cR=true
 ·exact ⟨S,fun _ _ h=>h,fun _ _ h=>.inl h,ah,aj.view hu⟩
 ·obtain ⟨cells,len,z,rfl⟩:∃ cells len z,u=.ax cells len (.uniq z):=by
   unfold I.cR at hu;split at hu
   ·exact ⟨_,_,_,rfl⟩
   ·simp at hu
  obtain ⟨a8,aJ,aQ,cp,aT,_,_⟩:=kc ah aj aq;exact ⟨a8,aJ,aQ,ah.settle aJ (fun b o h=>(aQ b o h).imp (fun h=>h) fun h=>⟨_,h,b7,ch⟩) cp,aT⟩
theorem yn {u:I} {r:Nat×List I} (h:appended H u=some r):appended H u.view=some r:=by
 cases u <;> try exact h
 ·rename_i cells len c;cases c <;> exact h
 ·simp [appended,lenOf] at h
theorem Fc (t dt ty e:TypeId) (i:TypeInfo) (z:Value) (df:IntKind) (ay:P.underlying t=some (.slice e)) (xe:P.underlying dt=some (.int df)) (hi:P.info? e=some i) (bk:i.zero=some z)
  (base:Option Addr) (n:Int) (aV:0<n) (ag:n.toNat*i.bytes≤140737488355328) (gG:1≤i.bytes) (bP:0<i.size) :
  (Builtin.append_ #[t,dt] ty #[.slice base 0 0,.int .i64 n]).run P w =
   .ok (.slice (some ⟨w.heap.size,0,none⟩) n.toNat (grownCap w n.toNat 0 e)) (w.drew.alloc (.cells (Builtin.zeroCells z.cells n.toNat++Builtin.zeroCells z.cells (grownCap w n.toNat 0 e-n.toNat)) e)):=by
 have aN:n.toNat≤140737488355328:=tb (uS _ gG) ag;have bH:IntKind.i64.wrap n=n:=IntWalk.i64_in _ (by omega);have kG:n*(i.bytes:Int)=((n.toNat*i.bytes:Nat):Int):=by rw [wj,uI (by omega)]
 have pq:Builtin.nextslicecap n.toNat 0=n.toNat:=by unfold Builtin.nextslicecap;rw [if_pos (by omega)]
 have ad:¬ n<0:=by omega
 have af:¬ ((281474976710656:Int)<n*i.bytes):=by rw [kG];omega
 have a6:¬ (281474976710656<n.toNat*i.bytes):=by omega
 have bM:¬ (9223372036854775807<max n 0):=by omega
 have bT:n.toNat*i.size≠0:=by have:0<n.toNat:=by omega
                              have:=wm this bP;omega
 have cJ:¬ n≤0:=by omega
 cases base <;> simp [Builtin.append_,run_underlying ay,run_underlying xe,sizeOf,typeInfo,hi,asInt,asIntOf,bH,ad,af,cJ,bM,a6,bT,Builtin.lenOf,Builtin.firstCells,loadCells,loadCellsFrom,pq,zeroValue,bk,grownCap,Question.forced,newRow]
theorem Bb (ah:aK B U J S w H) {t dt:TypeId} (ty:TypeId) {u x r:I} {v cz:Value} {cu dL:aH} (b7:∀ id,cu≠.obj id) (ch:∀ id j,cu≠.cell id j) (dg:∀ id,dL≠.obj id) (dh:∀ id j,dL≠.cell id j) (bO:cu≠dL)
  (h:fc P H t dt u x=some r) (aj:Rel J S w u v) (aq:aW U J S w cu u v) (ei:Rel J S w x cz) (h9:aW U J S w dL x cz) :
  ∃ y w',(Builtin.append_ #[t,dt] ty #[v,cz]).run P w=.ok y w'∧a1 B U J S w H r y w':=by
 obtain ⟨a8,aJ,aQ,bW,jW⟩:=mK ah dg dh ei h9;have dy:bj U S w U a8 w:=bj.settle aJ fun b o h=>(aQ b o h).imp (fun h=>h) fun h=>⟨_,h⟩;have dz:Rel J a8 w u v:=aj.mono (Ext.refl J) dy.set
 have jT:aW U J a8 w cu u v:=aq.mono (Ext.refl J) dy.set fun b ag=>⟨ag,rfl,fun o ai=>by
  rcases aQ b o ai with h | h
  ·exact h
  ·rw [ag] at h;cases h;exact absurd rfl bO⟩
 suffices ai:∃ y w',(Builtin.append_ #[t,dt] ty #[v,cz]).run P w=.ok y w'∧a1 B U J a8 w H r y w' by
  obtain ⟨y,w',a,b⟩:=ai;exact ⟨y,w',a,a1.after (Ext.refl J) dy b⟩
 clear aj aq ei h9 dy aJ aQ ah;unfold fc at h;split at h
 ·rename_i e ay;split at h
  ·rename_i sz bytes z ai ag bk;obtain ⟨i,hi,rfl⟩:=m8 ai;simp only [hi,sD,Option.some.injEq] at ag;subst ag;obtain ⟨jX,db,hi',d',fg⟩:=ht (J:=J) (S:=a8) (w:=w) bk;rw [hi] at hi';cases hi';(have kQ:z.length=db.cells.size:=by simpa using fg.len);split at h
   ·rename_i nz;obtain rfl:t=dt:=Nat.eq_of_beq_eq_true nz;split at h
    ·rename_i m new eS;replace eS:=yn eS;split at h
     ·rename_i al;obtain ⟨cY,bP,ey,zi⟩:=al;(have gK:db.cells.size=i.size:=by omega);obtain ⟨G1,G2⟩:=il zi;have ak:=ym bW eS jW (I.fx (I.dj x));have zero:m=0→∀ base len cap,v=.slice base len cap→len≤cap→(Builtin.append_ #[t,t] ty #[v,cz]).run P w=.ok v w:=by
       rintro rfl base len cap rfl hle;rcases ak with ⟨_,ju,c,rfl⟩ | ⟨b,o,c,vs,rfl,_,_⟩
       ·exact AU (P:=P) (w:=w) t ty e i ay hi base len cap hle ju c
       ·exact AU (P:=P) (w:=w) t ty e i ay hi base len cap hle _ c
      have oD:0<m→∃ b o c vs,cz=.slice (some ⟨b,o,none⟩) m c∧c3 J a8 w new vs∧(∀ j y,vs[j]?=some y→w.cell? ⟨b,o+j,none⟩=some y):=by
       intro hm;rcases ak with ⟨aV,_,c,rfl⟩ | h
       ·rw [aV] at cY;simp at cY;have:=wm hm bP;omega
       ·exact h
      split at h
      ·rename_i cells len c;split at h
       ·
        split at h
        ·rename_i hm;cases h;have ae:∃ base cap,v=.slice base len cap∧len≤cap:=by
          cases dz with
          | b2=>exact ⟨_,_,rfl,sB _⟩
          | ax _ _ _ b o cap f _ hle=>exact ⟨_,_,rfl,hle⟩
         obtain ⟨base,cap,ae,hle⟩:=ae;exact ⟨v,w,zero hm base len cap ae hle,a1.same bW dz rfl⟩
        ·simp at h
       ·
        have ae:((∃ a,v=.slice a 0 0)∧len=0∧cells=[])∨∃ b o,∃ f:Nat→Value,v=.slice (some ⟨b,o,none⟩) len len ∧
          (∀ (j:Nat) (u:I),cells[j]?=some u→a8 b (o+j)∧w.cell? ⟨b,o+j,none⟩=some (f j)∧u.plain=true∧(f j).oneCell'=true)∧(∀ (j:Nat) (u:I),cells[j]?=some u→Rel J a8 w u (f j)):=by
         cases dz with
         | b2 _ a=>exact .inl ⟨⟨a,rfl⟩,rfl,rfl⟩
         | ax _ _ _ b o cap f al hle hu bx b1=>exact .inr ⟨b,o,f,by rw [al rfl],bx,b1⟩
        split at h
        ·rename_i hm;split at h
         ·rename_i aV;cases h;subst aV;rcases ae with ⟨⟨a,ae⟩,_,_⟩ | ⟨b,o,f,ae,_,_⟩
          ·exact ⟨v,w,zero hm _ _ _ ae (sB _),U,J,a8,Ext.refl J,bj.refl _ _ _,bW,ae ▸ .b2 _ _,by rw [ae];cases a <;> first | trivial | exact .inl ⟨rfl,rfl,rfl⟩⟩
          ·exact ⟨v,w,zero hm _ _ _ ae (sB _),U,J,a8,Ext.refl J,bj.refl _ _ _,bW,ae ▸ .cK _ _ _ _ _ _,by rw [ae];exact .inl ⟨rfl,rfl,rfl⟩⟩
         ·cases h;rcases ae with ⟨⟨a,ae⟩,rfl,_⟩ | ⟨b,o,f,ae,_,_⟩
          ·exact ⟨v,w,zero hm _ _ _ ae (sB _),a1.same bW dz rfl⟩
          ·exact ⟨v,w,zero hm _ _ _ ae (sB _),a1.same bW dz rfl⟩
        ·rename_i hm;split at h
         ·rename_i g3;obtain ⟨ew,cB⟩:=g3;cases h;obtain ⟨q1,aX⟩:=il ew;obtain ⟨au,cM,dX,vs,rfl,hnew,bx⟩:=oD (by omega);rcases ae with ⟨ae,rfl,rfl⟩ | ⟨b,o,f,ae,fJ,mq⟩
          ·exact hZ bW ay hi d' gK bP v 0 0 [] (.inl ⟨ae,rfl,rfl,rfl⟩) ⟨rfl,by simp⟩ (by simp) hnew bx cY (by omega) (by omega) q1 aX
          ·refine hZ bW ay hi d' gK bP v len len ((List.range cells.length).map f) (.inr ⟨b,o,ae,fun j y aZ=>?_⟩) ⟨by simp,fun j bG bn b' bf=>?_⟩ cB hnew bx cY (by omega) (by omega) q1 aX
           ·simp only [sN,su] at aZ;obtain ⟨k,av,rfl⟩:=aZ;(have aw:j<cells.length:=by have:=(sv.1 av).1;simpa using this);simp [aw] at av;subst av;exact (fJ j _ (sK aw)).2.1
           ·have aw:=(sv.1 b').1;simp [aw] at bf;subst bf;exact ⟨(fJ j bG b').2.2.1,(fJ j bG b').2.2.2,mq j bG b'⟩
         ·simp at h
       ·
        rename_i cT;split at h
        ·rename_i g3;obtain ⟨rfl,ew⟩:=g3;cases h;obtain ⟨q1,aX⟩:=il ew;by_cases hm:m=0
         ·have pM:new=[]:=wq (by rw [cY,hm];simp);have ae:∃ base cap,v=.slice base len cap∧len≤cap:=by
           cases dz with
           | b2=>exact ⟨_,_,rfl,sB _⟩
           | ax _ _ _ b o cap f _ hle=>exact ⟨_,_,rfl,hle⟩
          obtain ⟨base,cap,ae,hle⟩:=ae;refine ⟨v,w,zero hm base len cap ae hle,?_⟩;rw [pM,hm,sW,ue];exact hL bW b7 ch dz jT
         ·have hm:0<m:=vv hm;obtain ⟨au,cM,dX,vs,rfl,hnew,bx⟩:=oD hm;cases dz with
          | b2 _ a =>
            obtain ⟨y,w',aC,aI⟩:=hZ (ty:=ty) bW ay hi d' gK bP (.slice a 0 0) 0 0 [] (.inl ⟨⟨a,rfl⟩,rfl,rfl,rfl⟩) (cs:=[]) ⟨rfl,by simp⟩ (by simp) hnew bx cY hm (by omega) q1 aX;exact ⟨y,w',aC,aI.settle⟩
          | ax _ _ _ b o cap f al hle hu fJ mq =>
            have gI:c3 J a8 w cells ((List.range cells.length).map f):=⟨by simp,fun j bG bn b' bf=>by
             have aw:=(sv.1 b').1;simp [aw] at bf;subst bf
             exact ⟨(fJ j bG b').2.2.1,(fJ j bG b').2.2.2,mq j bG b'⟩⟩
            have cB:∀ j y,((List.range cells.length).map f)[j]?=some y→w.cell? ⟨b,o+j,none⟩=some y:=fun j y aZ=>by
             simp only [sN,su] at aZ;obtain ⟨k,av,rfl⟩:=aZ;(have aw:j<cells.length:=by have:=(sv.1 av).1;simpa using this);simp [aw] at av;subst av;exact (fJ j _ (sK aw)).2.1
            have y8:cells.length=len*i.size→cap<len+m→_:=fun ao aO =>
             hZ (ty:=ty) (c:=dX) bW ay hi d' gK bP (.slice (some ⟨b,o,none⟩) len cap) len cap _ (.inr ⟨b,o,rfl,cB⟩) gI ao hnew bx cY hm aO q1 aX
            rcases jT with ⟨aV,ad,af⟩ | ⟨bS,bZ,_,ed,fR,_,k_,⟨cur,ce,la,mW⟩,mX⟩
            ·obtain ⟨y,w',aC,aI⟩:=y8 (by rw [af,aV];simp) (by omega);exact ⟨y,w',aC,aI.settle⟩
            ·simp only at bS la mW mX;by_cases dI:len+m≤cap
             ·exact BW bW ay hi bP b7 ch bS fR k_ la mW fJ mq mX hnew bx cY dI
             ·obtain ⟨y,w',aC,aI⟩:=y8 k_ (by omega);exact ⟨y,w',aC,aI.settle⟩
        ·simp at h
       ·
        rename_i cT;split at h
        ·rename_i g3;obtain ⟨rfl,ew⟩:=g3;cases h;obtain ⟨q1,aX⟩:=il ew;by_cases hm:m=0
         ·have pM:new=[]:=wq (by rw [cY,hm];simp);have ae:∃ base cap,v=.slice base len cap∧len≤cap:=by
           cases dz with
           | b2=>exact ⟨_,_,rfl,sB _⟩
           | ax _ _ _ b o cap f _ hle=>exact ⟨_,_,rfl,hle⟩
           | cK _ _ _ b o cap =>
             refine ⟨_,_,rfl,?_⟩;rcases jT with ⟨aV,ad,af⟩ | ⟨_,_,h,_⟩
             ·omega
             ·exact h
          obtain ⟨base,cap,ae,hle⟩:=ae;refine ⟨v,w,zero hm base len cap ae hle,?_⟩;rw [pM,hm,sW,ue];exact hL bW b7 ch dz jT
         ·have hm:0<m:=vv hm;obtain ⟨au,cM,dX,vs,rfl,hnew,bx⟩:=oD hm;cases dz with
          | b2 _ a =>
            exact hZ (ty:=ty) bW ay hi d' gK bP (.slice a 0 0) 0 0 [] (.inl ⟨⟨a,rfl⟩,rfl,rfl,rfl⟩) (cs:=[]) ⟨rfl,by simp⟩ (by simp) hnew bx cY hm (by omega) q1 aX
          | ax _ _ _ b o cap f al hle hu fJ mq=>exact absurd rfl (hu _)
          | cK _ _ _ b o cap =>
            rcases jT with ⟨aV,ad,af⟩ | ⟨bS,bZ,ed,fR,_,k_,⟨cur,ce,la,mW,z4⟩,mX⟩
            ·refine hZ (ty:=ty) bW ay hi d' gK bP (.slice (some ⟨b,o,none⟩) len cap) len cap [] (.inr ⟨b,o,rfl,by simp⟩) ?_ (by rw [af,aV];simp) hnew bx cY hm (by omega) q1 aX;rw [af];exact ⟨rfl,by simp⟩
            ·simp only at bS bZ la mX;subst bZ;(have jH:cells.length≤cur.size:=by rw [mW,k_];exact tP _ ed);by_cases dI:len+m≤cap
             ·exact BX bW ay hi bP b7 ch bS fR k_ la mW z4 mX hnew bx cY dI
             ·refine hZ (ty:=ty) bW ay hi d' gK bP (.slice (some ⟨b,0,none⟩) len cap) len cap (cur.toList.take cells.length) (.inr ⟨b,0,rfl,fun j y aZ=>?_⟩) ⟨by simp;omega,fun j bG bn b' bf=>?_⟩ k_ hnew bx cY hm (by omega) q1 aX
              ·rw [tp] at aZ;split at aZ
               ·rw [tg,cell_of_row w b _ cur ce (0,0) la];simpa using aZ
               ·simp at aZ
              ·rw [tp] at bf;split at bf
               ·exact z4 j bG bn b' (by simpa using bf)
               ·simp at bf
        ·simp at h
      ·
       rename_i id off len cap oE;split at h
       ·rename_i g3;obtain ⟨rfl,rfl,hm⟩:=g3;simp only [sE] at h;obtain ⟨fQ,hold,h⟩:=h;split at h
        ·rename_i ew;cases h;obtain ⟨q1,aX⟩:=il ew;obtain ⟨au,cM,dX,vs,rfl,hnew,bx⟩:=oD hm;have fK:fQ.length=cap*i.size:=by
          simp only [rowOf] at hold;split at hold
          ·split at hold
           ·simp at hold;rw [←hold];simp;omega
           ·simp at hold
          ·simp at hold
         have fM:∃ b o,v=.slice (some ⟨b,o,none⟩) cap cap:=by
          cases dz with
          | ref _ _ _ _ _ b cap' _ al _=>exact ⟨b,off,by rw [al cap rfl]⟩
         obtain ⟨dE,G5,gh⟩:=fM;rcases xX bW hold dz rfl with ⟨Dx,n,c,ae⟩ | ⟨b,o,n,c,cV,ae,gI,fJ⟩
         ·rw [ae] at gh;cases gh;subst Dx;exact hZ bW ay hi d' gK bP v _ _ [] (.inl ⟨⟨_,ae⟩,rfl,rfl,rfl⟩) ⟨rfl,by simp⟩ fK hnew bx cY hm (by omega) q1 aX
         ·rw [ae] at gh;simp only [Value.slice.injEq,Option.some.injEq,Addr.mk.injEq] at gh;obtain ⟨⟨rfl,rfl,_⟩,rfl,rfl⟩:=gh;exact hZ bW ay hi d' gK bP v _ _ cV (.inr ⟨b,o,ae,fJ⟩) gI fK hnew bx cY hm (by omega) q1 aX
        ·simp at h
       ·simp at h
      ·simp at h
     ·simp at h
    ·simp at h
   ·
    split at h
    ·rename_i df n xe;split at h
     ·rename_i al;obtain ⟨aV,ew,bP,ey⟩:=al;cases h;obtain ⟨q1,aX⟩:=il ew;have gi:cz=.int .i64 n:=Rel.de jW;have ae:∃ base,v=.slice base 0 0:=by
       cases dz with
       | b2=>exact ⟨_,rfl⟩
       | ax _ _ _ b o cap f al _=>exact ⟨_,by rw [al rfl]⟩
      obtain ⟨base,rfl⟩:=ae;subst gi;have aj:=Fc (P:=P) (w:=w) t dt ty e i db df ay xe hi d' base n aV q1 aX bP;have fh:=grownCap_ge w n.toNat 0 e;have aN:n.toNat≤140737488355328:=tb (uS _ aX) q1;have hle:=grownCap_le_maxLen w n.toNat 0 e (by simp only [maxLen];omega);generalize grownCap w n.toNat 0 e=fe at fh hle aj;have aA:=kr U a8 w;have fN:=(m' fg (by omega) n.toNat).mono (Ext.refl J) aA.set
      have iP:=n7 (mr bW) fN (Builtin.zeroCells db.cells (fe-n.toNat)).toList e n.toNat fe i.size bP (by rw [ik,ey]) fh hle (by
       rw [←fN.len,ik,ey,tQ,size_zeroCells,←kQ,ey,←tH];congr 1;omega)
      refine ⟨_,_,aj,a1.after (Ext.refl J) aA ?_⟩;have he:(((Array.range (n.toNat*z.length)).map (fun i=>db.cells[i % db.cells.size]!)).toList++(Builtin.zeroCells db.cells (fe-n.toNat)).toList).toArray =
        Builtin.zeroCells db.cells n.toNat++Builtin.zeroCells db.cells (fe-n.toNat):=by
       apply Array.ext';simp [Builtin.zeroCells,kQ]
      rw [he] at iP;exact iP
     ·simp at h
    ·simp at h
  ·simp at h
 ·simp at h
theorem z' (ah:aK B U J S w H) {id:Nat} {l:List I} {b z:Nat} {cur:Array Value} (aE:id<H.length) (aI:U b=some (.obj id)) (bd:∀ o,¬ S b o)
  (bg:∀ (j:Nat) (u:I) (v:Value),l[j]?=some u→cur[j]?=some v→u.cR=true∧v.oneCell'=true∧Rel J S w u v∧aW U J S w (.cell id j) u v)
  {bH:World} {nb cap1 xo:Nat} {jA:Array Value} {e1:TypeId} (aq:bH.os=w.os) (ay:bH.tape=w.tape) (pT:bH.output=w.output) (kN:w.heap.size≤bH.heap.size)
  (hold:∀ au,au<w.heap.size→au≠b→bH.heap[au]?=w.heap[au]?) (kG:nb=b∨nb=w.heap.size) (Di:nb<bH.heap.size) (jG:bH.heap[nb]?=some (.cells jA e1 (0,0)))
  (gJ:jA.size=cap1*z) (hm:cap1≤maxLen) (bk:0<z) {new:List I} {news:List Value} (hnew:c3 J S w new news) (dI:l.length+new.length≤jA.size)
  (C1:∀ j,j<l.length→jA[j]?=cur[j]?) (C2:∀ (j:Nat) (v:Value),news[j]?=some v→jA[l.length+j]?=some v) (hlen:xo≤cap1) :
  a1 B U J S w (H.set id .dead++[.grow (l++new) (H.length+1) z,.dead]) (.cl H.length (H.length+1) xo z) (.slice (some ⟨nb,0,none⟩) xo cap1) bH:=by
 classical
 let az:Nat→Option aH:=fun au=>if au=nb then some (.obj H.length) else if au=b then none else match U au with
  | some (.cell i j)=>if i=id then some (.cell H.length j) else some (.cell i j)
  | o=>o
 have aS:∀ au l',U au=some l'→au<w.heap.size:=fun au l' h=>(ah.base au l' h).2;have y9:∀ au l',U au=some l'→au≠b→au≠nb:=fun au l' h ag e=>by
  subst e;rcases kG with e | e
  ·exact ag e
  ·have:=aS _ _ h;omega
 have hB:∀ au o,S au o→au≠b:=fun au o ai e=>bd o (e ▸ ai);have bx:∀ au o,S au o→bH.cell? ⟨au,o,none⟩=w.cell? ⟨au,o,none⟩:=fun au o ai=>by
  obtain ⟨v,ae⟩:=ah.cd au o ai;unfold World.cell?;simp only [hold au (mL ae) (hB au o ai)]
 have nK:∀ au,az au≠none→U au≠none∨w.heap.size≤au:=fun au ag=>by
  by_cases ad:au=nb
  ·rcases kG with e | e
   ·exact .inl (by rw [ad,e,aI];simp)
   ·exact .inr (by omega)
  ·refine .inl fun aV=>ag ?_;by_cases af:au=b
   ·simp only [az,ad,af,if_false,if_true];rw [if_neg (by rw [←af];exact ad)]
   ·simp only [az,ad,af,if_false,aV]
 have aA:bj U S w az S bH:=⟨aq,ay,pT,kN,fun au ag aN=>hold au ag (fun e=>by subst e;rw [aI] at aN;cases aN),fun au o ai=>⟨ai,bx au o ai⟩,fun _ _ h=>.inl h,nK⟩;have mh:(J++[nb,cap1])[H.length]?=some nb:=by rw [←ah.cE];simp
 have mi:(J++[nb,cap1])[H.length+1]?=some cap1:=by rw [←ah.cE];simp
 refine ⟨az,J++[nb,cap1],S,Ext.append J _,aA,⟨by simp [ah.cE],fun bA o h=>?_,fun au o ai=>?_,fun au l' ag=>?_,tb ah.cW kN⟩,.cl _ _ _ _ nb cap1 mh mi hlen,trivial⟩
 ·rcases vO bA H.length with ao | rfl | ao
  ·rw [sQ (by simpa using ao)] at h;by_cases ct:bA=id
   ·subst ct;rw [sI ao] at h;cases h;trivial
   ·rw [sJ (Ne.symm ct)] at h;refine (ah.obj bA o h).frame (Ext.append J _) aA.set fun au l' ag c9=>?_;have bO:au≠b:=fun e=>by
     subst e;rw [aI] at ag;cases ag;rcases c9 with h | ⟨j,h⟩
     ·cases h;exact ct rfl
     ·cases h
    refine ⟨?_,hold au (aS _ _ ag) bO,fun _ h=>h⟩;simp only [az,y9 au l' ag bO,bO,if_false,ag];rcases c9 with rfl | ⟨j,rfl⟩
    ·rfl
    ·simp [ct]
  ·rw [s_ (by simp)] at h;simp only [tA,tY,uJ,Option.some.injEq] at h;subst h;refine ⟨nb,jA,e1,mh,by simp [az],jG,by rw [sC];exact dI,?_,fun j u v hu ae=>?_,cap1,mi,hm,bk,gJ⟩
   ·rcases kG with rfl | rfl
    ·exact bd
    ·exact mQ ah
   ·by_cases aw:j<l.length
    ·rw [sQ aw] at hu;rw [C1 j aw] at ae;obtain ⟨a',bb,bt,b9⟩:=bg j u v hu ae;refine ⟨a',bb,bt.mono (Ext.append J _) aA.set,b9.mono (Ext.append J _) aA.set fun au ag=>?_⟩;(have bO:au≠b:=fun e=>by subst e;rw [aI] at ag;cases ag);refine ⟨?_,hold au (aS _ _ ag) bO,fun _ h=>h⟩;simp only [az,y9 au _ ag bO,bO,if_false,ag,if_true]
    ·rw [s_ (by omega)] at hu;have nH:=(sv.1 hu).1;have mg:j-l.length<news.length:=hnew.len ▸ nH;have bf:=C2 (j-l.length) _ (sK mg);rw [show l.length+(j-l.length)=j by omega,ae] at bf;obtain ⟨a',bb,bt⟩:=hnew.rel _ u v hu (by rw [sK mg,bf]);exact ⟨I.fx a',bb,bt.mono (Ext.append J _) aA.set,aW.b4 a'⟩
  ·rw [s_ (by simp;omega)] at h;rw [tA] at h;obtain ⟨k,av⟩:∃ k,bA-H.length=k+1:=⟨bA-H.length-1,by omega⟩;rw [av] at h;cases k with
   | zero=>simp at h;subst h;trivial
   | succ k=>simp at h
 ·obtain ⟨v,ae⟩:=ah.cd au o ai;exact ⟨v,(bx au o ai).trans ae⟩
 ·by_cases ad:au=nb
  ·rw [ad];refine ⟨?_,Di⟩;rcases kG with e | e
   ·rw [e];exact (ah.base b _ aI).1
   ·rw [e];exact ah.cW
  ·have:∃ cu,U au=some cu:=by
    rcases nK au (by rw [ag];simp) with h | h
    ·cases aV:U au with
     | none=>exact absurd aV h
     | some cu=>exact ⟨cu,rfl⟩
    ·exfalso;by_cases af:au=b
     ·have:=aS b _ aI;omega
     ·have aV:U au=none:=by
       cases aV:U au with
       | none=>rfl
       | some cu=>have:=aS au _ aV;omega
      simp [az,ad,af,aV] at ag
   obtain ⟨cu,aV⟩:=this;have:=ah.base au cu aV;exact ⟨this.1,by omega⟩
theorem EE (ah:aK B U J S w H) {l:aH} (b7:∀ id,l≠.obj id) (ch:∀ id j,l≠.cell id j) {cells:List I} {len z:Nat} (aV:len≠0) {v:Value}
  (aj:Rel J S w (.ax cells len (.uniq z)) v) (aq:aW U J S w l (.ax cells len (.uniq z)) v) :
  a1 B U J S w (H++[.grow cells (H.length+1) z,.dead]) (.cl H.length (H.length+1) len z) v w:=by
 classical
 cases aj with
 | b2 c a=>exact absurd rfl aV
 | ax cells len c b o cap f al hle hu h fu=>exact absurd rfl (hu z)
 | cK cells len z b o cap =>
   rcases aq with ⟨rfl,_,_⟩ | ⟨ad,aq,af,aG,a6,bM,⟨cur,e,bT,cJ,cL⟩,cN⟩
   ·exact absurd rfl aV
   ·simp only at ad bT cN aq;subst aq
    let az:Nat→Option aH:=fun au=>if au=b then some (.obj H.length) else U au
    have aA:bj U S w az S w:=⟨rfl,rfl,rfl,sB _,fun _ _ _=>rfl,fun _ _ h=>⟨h,rfl⟩,fun _ _ h=>.inl h,fun au ag=>by
     by_cases dH:au=b
     ·subst dH;exact .inl (by simp [ad])
     ·simp only [az,dH,if_false] at ag;exact .inl ag⟩
    have bW:aK B az J S w H:=by
     refine ah.frame aA (fun au l' ag ao=>?_) ah.cd (fun au l' ag=>?_)
     ·have bO:au≠b:=fun e=>by
       subst e;rw [ad] at ag;cases ag;rcases ao with ⟨id,h⟩ | ⟨id,j,h⟩
       ·exact b7 _ h
       ·exact ch _ _ h
      exact ⟨by simp [az,bO,ag],rfl,fun _ h=>h⟩
     ·by_cases dH:au=b
      ·subst dH;exact ah.base _ l ad
      ·simp only [az,dH,if_false] at ag;exact ah.base au l' ag
    have cn:=(bW.push cap (o:=.dead) trivial);(have mh:(J++[b,cap])[H.length]?=some b:=by rw [←ah.cE];simp);(have mi:(J++[b,cap])[H.length+1]?=some cap:=by rw [←ah.cE];simp);refine ⟨az,J++[b,cap],S,Ext.append J _,aA,⟨by simp [ah.cE],fun bA o bI=>?_,ah.cd,bW.base,ah.cW⟩,.cl _ _ _ _ b cap mh mi af,trivial⟩;rcases vO bA H.length with ao | rfl | ao
    ·rw [sQ ao] at bI;exact (bW.obj bA o bI).frame (Ext.append J _) (fun b o ai=>⟨ai,rfl⟩) fun b l ag _=>⟨ag,rfl,fun o ai=>ai⟩
    ·rw [s_ (sB _)] at bI;simp only [tY,uJ,Option.some.injEq] at bI;subst bI;refine ⟨b,cur,e,mh,by simp [az],bT,by rw [cJ,bM];exact tP _ af,cN,fun j u v hu ae=>?_,cap,mi,aG,a6,cJ⟩;obtain ⟨a',bb,bt⟩:=cL j u v hu ae;exact ⟨I.fx a',bb,bt.mono (Ext.append J _) aA.set,aW.b4 a'⟩
    ·rw [s_ (by omega)] at bI;obtain ⟨k,av⟩:∃ k,bA-H.length=k+1:=⟨bA-H.length-1,by omega⟩;rw [av] at bI;cases k with
     | zero=>simp at bI;subst bI;trivial
     | succ k=>simp at bI
theorem FH (ah:aK B U J S w H) {lo:Nat} {ts:Array TypeId} (ty:TypeId) {u x r:I} {v cz:Value} {cu dL:aH} (b7:∀ id,cu≠.obj id) (ch:∀ id j,cu≠.cell id j) (dg:∀ id,dL≠.obj id) (dh:∀ id j,dL≠.cell id j) (bO:cu≠dL)
  {H':List ar} (h:ig P lo ts H [u,x]=some (r,H')) (aj:Rel J S w u v) (aq:aW U J S w cu u v) (ei:Rel J S w x cz) (h9:aW U J S w dL x cz) :
  ∃ y w',(Builtin.append_ ts ty #[v,cz]).run P w=.ok y w'∧a1 B U J S w H' r y w':=by
 unfold ig at h;simp only at h;split at h
 ·rename_i t dt g';obtain rfl:ts=#[t,dt]:=by rw [←uT (xs:=ts),g']
  split at h
  ·
   rename_i s c n eo;split at h
   ·rename_i cells iU z eS;split at h
    ·simp at h
    ·rename_i aN;simp only [Option.some.injEq,Prod.mk.injEq] at h;obtain ⟨rfl,rfl⟩:=h;obtain ⟨y,w',q1,br,ck,bL,bS,bZ,ed,fR,mV⟩:=Bb ah ty b7 ch dg dh bO eS aj aq ei h9;have q:=EE ed (l:=.res) (by simp) (by simp) aN fR mV;exact ⟨y,w',q1,a1.after bS bZ q⟩
   ·simp at h
  ·
   rename_i s id gid len z;split at h
   ·split at h
    ·rename_i e l g cT ay aE;split at h
     ·rename_i sz bytes gq m new bP ag bk eS;split at h
      ·rename_i al;obtain ⟨rfl,rfl,rfl,rfl,ao,cY,aV,hm,ey,zi,ew⟩:=al;simp only [Option.some.injEq,Prod.mk.injEq] at h;obtain ⟨rfl,rfl⟩:=h;obtain ⟨i,hi,rfl⟩:=m8 bP;simp only [hi,sD,Option.some.injEq] at ag;subst ag;obtain ⟨a8,aJ,aQ,bW,jW⟩:=mK ah dg dh ei h9;have dy:bj U S w U a8 w:=bj.settle aJ fun b o h=>(aQ b o h).imp (fun h=>h) fun h=>⟨_,h⟩;obtain ⟨jX,db,hi',d',fg⟩:=ht (J:=J) (S:=a8) (w:=w) bk;rw [hi] at hi';cases hi';(have kQ:gq.length=db.cells.size:=by simpa using fg.len);(have gK:db.cells.size=i.size:=by omega);obtain ⟨q1,aX⟩:=il ew;replace eS:=yn eS;have aS:=(sv.1 aE).1;obtain ⟨au,cM,dX,vs,rfl,hnew,bx⟩:∃ b o c vs,cz=.slice (some ⟨b,o,none⟩) m c∧c3 J a8 w new vs∧(∀ j y,vs[j]?=some y→w.cell? ⟨b,o+j,none⟩=some y):=by
        rcases ym bW eS jW (I.fx (I.dj x)) with ⟨ad,_,c,rfl⟩ | h
        ·rw [ad] at cY;simp at cY;have:=wm hm aV;omega
        ·exact h
       have eU:vs.length=m*i.size:=hnew.len ▸ cY;obtain ⟨b,cur,ce,aC,aI,aR,bl,bd,bg,cap,c',dv,dV,gz⟩:=bW.obj id _ aE;cases aj with
       | cl _ _ _ _ dE GG iI y1 hle =>
         rw [aC] at iI;cases iI;rw [c'] at y1;cases y1;have ev:∀ u∈vs,u.oneCell'=true:=fun u hu=>by
          obtain ⟨j,aw⟩:=tE.1 hu;have aS:=(sv.1 aw).1;exact (hnew.rel j _ u (sK (hnew.len ▸ aS)) aw).2.1
         have CI:b<w.heap.size:=(tt.1 aR).1
         suffices ai:∃ y w',(Builtin.append_ #[t,t] ty #[.slice (some ⟨b,0,none⟩) len cap,.slice (some ⟨au,cM,none⟩) m dX]).run P w=.ok y w'∧a1 B U J a8 w (H.set id .dead++[.grow (l++new) (H.length+1) i.size,.dead]) (.cl H.length (H.length+1) (len+m) i.size) y w' by
          obtain ⟨y,w',bS,bZ⟩:=ai;exact ⟨y,w',bS,a1.after (Ext.refl J) dy bZ⟩
         by_cases dI:len+m≤cap
         ·have jH:(len+m)*i.size≤cap*i.size:=tP _ dI;rw [tH] at jH;have aj:=AR (P:=P) w t ty e i ay hi b len cap cur ce aR ⟨au,cM,none⟩ m dX vs eU (fun j x h=>by rw [add_lit];exact bx j x h) ev dI (by rw [gz];omega);(have ad:cur.toList.length=cap*i.size:=by simp [gz]);refine ⟨_,_,aj,?_⟩;refine z' bW aS aI bd bg (nb:=b) (cap1:=cap) (e1:=ce) (hnew:=hnew) (by exact rfl) (by exact rfl) (by exact rfl) (by simp [World.setRow]) (fun bq _ gG=>by exact setRow_other w b bq _ gG) (.inl rfl) (by simpa [World.setRow] using CI) (by exact setRow_heap w b cur _ ce (0,0) aR) ?_ dv dV ?_ (fun j aw=>?_) (fun j v aw=>?_) dI
          ·rw [ug,sC,sC,tf,uh,ad,eU,tI (by omega)];omega
          ·rw [ug,sC,sC,tf,uh,ad,eU,tI (by omega),ao,cY];omega
          ·have:=jc cur.toList vs (len*i.size) j (by rw [ad];omega);rw [if_neg (by omega)] at this;simpa using this
          ·have jL:=(sv.1 aw).1;have:=jc cur.toList vs (len*i.size) (l.length+j) (by rw [ad];omega);rw [if_pos ⟨by omega,by omega⟩,ao,show len*i.size+j-len*i.size=j by omega,aw] at this;rw [ao];simpa using this
         ·have Db:len+m≤140737488355328:=tb (uS _ aX) q1;(have eu:len+m≤maxLen:=by simp only [maxLen];omega);have cB:len*i.size≤cap*i.size:=tP _ hle;have fK:(cur.toList.take (len*i.size)).length=len*i.size:=by rw [tf];simp;omega
          have aj:=run_append_grow (P:=P) w t ty e i db ay hi d' ⟨b,0,none⟩ len cap (cur.toList.take (len*i.size)) fK (fun j x h=>by
           rw [tp] at h;split at h
           ·rw [add_lit,tg,cell_of_row w b _ cur ce (0,0) aR];simpa using h
           ·simp at h) ⟨au,cM,none⟩ m dX vs eU (fun j x h=>by rw [add_lit];exact bx j x h) (by omega) (by omega) (growslice_fits (by omega) q1)
          have fh:=grownCap_ge w (len+m) cap e;have y4:=grownCap_le_maxLen w (len+m) cap e eu;generalize grownCap w (len+m) cap e=fe at fh y4 aj;refine ⟨_,_,aj,?_⟩;refine z' bW aS aI bd bg (nb:=w.heap.size) (cap1:=fe) (e1:=e) (hnew:=hnew) (by exact rfl) (by exact rfl) (by exact rfl) (by simp) (fun bq gG _=>by exact heap_alloc_old w.drew _ bq gG) (.inr rfl) (by simp) (by exact heap_alloc_new w.drew _) ?_ y4 dV ?_ (fun j aw=>?_) (fun j v aw=>?_) fh
          ·simp only [vQ,ug,fK,eU,size_zeroCells,gK];rw [←tH,←tH];congr 1;omega
          ·simp only [vQ,ug,fK,eU,size_zeroCells,gK,ao,cY];omega
          ·rw [ao] at aw;rw [wu (by simp only [vQ,ug,fK];omega),wu (by simp only [ug,fK];omega)];simp [aw]
          ·have jL:=(sv.1 aw).1;rw [ao,wu (by simp only [vQ,ug,fK];omega),Array.getElem?_append_right (by simp only [ug,fK];omega)];simp only [ug,fK,show len*i.size+j-len*i.size=j by omega];simpa using aw
      ·simp at h
     ·simp at h
    ·simp at h
   ·simp at h
  ·simp at h
 ·simp at h
theorem FB (ah:aK B U J S w H) (lo:Nat) (vs:List I):aK B U J S w (je lo H vs):=by
 unfold je;split
 ·rename_i id _ len z _;split
  ·rename_i l g cT aE;split
   ·refine ⟨by simpa using ah.cE,fun bA o aq=>?_,ah.cd,ah.base,ah.cW⟩;by_cases ct:bA=id
    ·subst ct;rw [sI (sv.1 aE).1] at aq;cases aq;obtain ⟨b,cur,e,aC,aI,aR,bl,bd,bg,c'⟩:=ah.obj bA _ aE;refine ⟨b,cur,e,aC,aI,aR,tb (by rw [tf];omega) bl,bd,fun j u v hu ae=>?_,c'⟩;rw [tp] at hu;split at hu
     ·exact bg j u v hu ae
     ·simp at hu
    ·rw [sJ (Ne.symm ct)] at aq;exact ah.obj bA o aq
   ·exact ah
  ·exact ah
 ·exact ah
theorem FG (ah:aK B U J S w H) {lo:Nat} {ts:Array TypeId} (ty:TypeId) {u x r:I} {v cz:Value} {cu dL:aH} (b7:∀ id,cu≠.obj id) (ch:∀ id j,cu≠.cell id j) (dg:∀ id,dL≠.obj id) (dh:∀ id j,dL≠.cell id j) (bO:cu≠dL)
  {H':List ar} (h:iX P lo ts H [u,x]=some (r,H')) (aj:Rel J S w u v) (aq:aW U J S w cu u v) (ei:Rel J S w x cz) (h9:aW U J S w dL x cz) :
  ∃ y w',(Builtin.append_ ts ty #[v,cz]).run P w=.ok y w'∧a1 B U J S w H' r y w' :=
 FH (FB ah lo [u,x]) ty b7 ch dg dh bO h aj aq ei h9
end
end Go.Proofs.YtfakoboiahbhaaaGreat.Ab


namespace Go.Proofs.YtfakoboiahbhaaaGreat.Ab
open Go
section
variable {P:Program} {B:Nat} {J:List Nat} {w:World} {H:List ar} {U:Nat→Option aH} {S:Nat→Nat→Prop}
theorem mC {ts:Array TypeId} (h:iS P ts[0]?=true):∃ t e,ts[0]?=some t∧P.underlying t=some (.slice e):=by
 unfold iS at h;split at h
 ·rename_i e he;simp only [sE] at he;obtain ⟨t,ad,af⟩:=he;exact ⟨t,e,ad,af⟩
 ·simp at h
theorem FT (ah:aK B U J S w H) {ts:Array TypeId} (ty:TypeId) {u r:I} {H':List ar} {v:Value} (h:hk P ts H [u]=some (r,H')) (aj:Rel J S w u v) :
  ∃ y,(Builtin.len_ ts ty #[v]).run P w=.ok y w∧a1 B U J S w H' r y w:=by
 simp only [hk] at h;split at h
 ·split at h
  ·rename_i ai;obtain ⟨t,e,ay,he⟩:=mC ai;simp only [Option.some.injEq,Prod.mk.injEq] at h;obtain ⟨rfl,rfl⟩:=h;have ae:∃ a c,v=.slice a _ c:=mJ (n:=_) rfl aj;obtain ⟨a,c,rfl⟩:=ae;exact ⟨_,by simp [Builtin.len_,ay,run_underlying he,goInt],a1.same ah (.int _ _) rfl⟩
  ·simp at h
 ·split at h
  ·rename_i ai;obtain ⟨t,e,ay,he⟩:=mC ai;simp only [Option.some.injEq,Prod.mk.injEq] at h;obtain ⟨rfl,rfl⟩:=h;have ae:∃ a c,v=.slice a _ c:=mJ (n:=_) rfl aj;obtain ⟨a,c,rfl⟩:=ae;exact ⟨_,by simp [Builtin.len_,ay,run_underlying he,goInt],a1.same ah (.int _ _) rfl⟩
  ·simp at h
 ·split at h
  ·rename_i _ _ ay aE;simp only [sE] at ay;obtain ⟨t,ay,he⟩:=ay;simp only [Option.some.injEq,Prod.mk.injEq] at h;obtain ⟨rfl,rfl⟩:=h;obtain ⟨b,bz,aC,aI,aR,bl,bd,bg⟩:=ah.obj _ _ aE;cases aj with
   | map _ au k =>
     rw [aC] at k;cases k;exact ⟨_,by simp [Builtin.len_,ay,run_underlying he,goInt,getObj,Sem.run,aR,bl],a1.same ah (.int _ _) rfl⟩
  ·simp at h
 ·split at h
  ·rename_i n e he;simp only [sE] at he;obtain ⟨t,ay,he⟩:=he;simp only [Option.some.injEq,Prod.mk.injEq] at h;obtain ⟨rfl,rfl⟩:=h;exact ⟨_,by simp [Builtin.len_,ay,run_underlying he,goInt],a1.same ah (.int _ _) rfl⟩
  ·simp at h
theorem FN (ah:aK B U J S w H) {ts:Array TypeId} (ty:TypeId) {u r:I} {H':List ar} {v:Value} (h:j4 P ts H [u]=some (r,H')) (aj:Rel J S w u v) :
  ∃ y,(Builtin.cap_ ts ty #[v]).run P w=.ok y w∧a1 B U J S w H' r y w:=by
 unfold j4 at h;split at h
 ·rename_i cs n heq;simp only [List.cons.injEq,and_true] at heq;subst heq;split at h
  ·rename_i ai;obtain ⟨t,e,ay,he⟩:=mC ai;simp only [Option.some.injEq,Prod.mk.injEq] at h;obtain ⟨rfl,rfl⟩:=h;have ae:∃ a,v=.slice a n n:=by
    cases aj with
    | b2=>exact ⟨_,rfl⟩
    | ax _ _ _ b o cap f al=>exact ⟨_,by rw [al rfl]⟩
   obtain ⟨a,rfl⟩:=ae;exact ⟨_,by simp [Builtin.cap_,ay,run_underlying he,goInt],a1.same ah (.int _ _) rfl⟩
  ·simp at h
 ·rename_i id off len n sz heq;simp only [List.cons.injEq,and_true] at heq;subst heq;split at h
  ·rename_i ai;obtain ⟨t,e,ay,he⟩:=mC ai;simp only [Option.some.injEq,Prod.mk.injEq] at h;obtain ⟨rfl,rfl⟩:=h;have ae:∃ a,v=.slice a len n:=by
    cases aj with
    | ref _ _ _ _ _ b cap _ al=>exact ⟨_,by rw [al n rfl]⟩
   obtain ⟨a,rfl⟩:=ae;exact ⟨_,by simp [Builtin.cap_,ay,run_underlying he,goInt],a1.same ah (.int _ _) rfl⟩
  ·simp at h
 ·simp at h
theorem A2 {k:IntKind}:∀ (us:List I) (a n:Int) (vs:List Value) (bB:Nat→aH),k0 us a=some n→a9 bB U J S w us vs→(vs.foldlM Builtin.min2 (.int k a)).run P w=.ok (.int k n) w
 | [],a,n,vs,bB,h,ae=>by
   cases vs with
   | cons=>exact absurd ae.len (by simp)
   | nil=>simp only [k0,Option.some.injEq] at h;subst h;rfl
 | u::us,a,n,vs,bB,h,ae=>by
   obtain ⟨v1,t1,rfl,aT,_,da⟩:=ae.gV;unfold k0 at h;split at h
   ·rename_i heq;simp at heq
   ·rename_i k' b r _ heq;simp only [List.cons.injEq] at heq;obtain ⟨rfl,rfl⟩:=heq;have e1:=aT.de;subst e1;simp only [List.foldlM_cons,Builtin.min2,pure_bind];exact A2 _ _ _ _ _ h da
   ·cases h
theorem A1 {k:IntKind}:∀ (us:List I) (a n:Int) (vs:List Value) (bB:Nat→aH),kZ us a=some n→a9 bB U J S w us vs→(vs.foldlM Builtin.max2 (.int k a)).run P w=.ok (.int k n) w
 | [],a,n,vs,bB,h,ae=>by
   cases vs with
   | cons=>exact absurd ae.len (by simp)
   | nil=>simp only [kZ,Option.some.injEq] at h;subst h;rfl
 | u::us,a,n,vs,bB,h,ae=>by
   obtain ⟨v1,t1,rfl,aT,_,da⟩:=ae.gV;unfold kZ at h;split at h
   ·rename_i heq;simp at heq
   ·rename_i k' b r _ heq;simp only [List.cons.injEq] at heq;obtain ⟨rfl,rfl⟩:=heq;have e1:=aT.de;subst e1;simp only [List.foldlM_cons,Builtin.max2,pure_bind];exact A1 _ _ _ _ _ h da
   ·cases h
theorem F2 {us:List I} {r:I} (ts:Array TypeId) (ty:TypeId) {bB:Nat→aH} {vs:List Value} (h:n5 us=some r) (ae:a9 bB U J S w us vs) :
  ∃ y,(Builtin.min_ ts ty vs.toArray).run P w=.ok y w∧Rel J S w r y∧r.plain=true:=by
 unfold n5 at h;split at h
 ·simp only [su] at h;obtain ⟨n,h,rfl⟩:=h;obtain ⟨v1,t1,rfl,aT,_,da⟩:=ae.gV;have e1:=aT.de;subst e1;exact ⟨_,by simp only [Builtin.min_];exact A2 _ _ _ _ _ h da,.int _ _,rfl⟩
 ·simp at h
theorem F1 {us:List I} {r:I} (ts:Array TypeId) (ty:TypeId) {bB:Nat→aH} {vs:List Value} (h:n4 us=some r) (ae:a9 bB U J S w us vs) :
  ∃ y,(Builtin.max_ ts ty vs.toArray).run P w=.ok y w∧Rel J S w r y∧r.plain=true:=by
 unfold n4 at h;split at h
 ·simp only [su] at h;obtain ⟨n,h,rfl⟩:=h;obtain ⟨v1,t1,rfl,aT,_,da⟩:=ae.gV;have e1:=aT.de;subst e1;exact ⟨_,by simp only [Builtin.max_];exact A1 _ _ _ _ _ h da,.int _ _,rfl⟩
 ·simp at h
theorem BC (ah:aK B U J S w H) {lo id off len sz n:Nat} {H':List ar} {cs:List I} {vs:List Value} (eF:c3 J S w cs vs) (cB:cs.length=n) (aN:n≤len*sz)
  (h:fP lo H id (fun l=>if off+len*sz≤l.length then some (setCells off cs l) else none)=some H') {b:Nat} (ag:J[id]?=some b) :
  ∃ w',(storeCells ⟨b,off,none⟩ vs).run P w=.ok () w'∧∃ az,bj U S w az S w'∧aK B az J S w' H'∧∃ cur e cur' cX,w.heap[b]?=some (.cells cur e (0,0))∧w'.heap[b]?=some (.cells cur' cX (0,0))∧cur'.size=cur.size:=by
 unfold fP at h;split at h
 ·split at h
  ·rename_i ll aE;simp only [su] at h;obtain ⟨l',c9,rfl⟩:=h;split at c9
   ·rename_i al;cases c9;obtain ⟨au,cur,e,aC,aI,aR,bl,bd,bg⟩:=ah.obj id _ aE;rw [ag] at aC;cases aC;have xc:vs.length=n:=eF.len ▸ cB;have ev:∀ u∈vs,u.oneCell'=true:=fun u hu=>by
     obtain ⟨j,aw⟩:=tE.1 hu;have aS:=(sv.1 aw).1;exact (eF.rel j _ u (sK (eF.len ▸ aS)) aw).2.1
    have cC:=run_storeCells_at P b off e vs 0 cur w aR (by omega) ev;simp only [ue] at cC;obtain ⟨az,aA,b_⟩:=n' (cur':=(cur.toList.take off++vs++cur.toList.drop (off+vs.length)).toArray) (l':=setCells off cs ll) ah aE ag aI aR bd .res (by simp) (by simp)
     (by simp [ln];omega) 0 (fun j bG bn hu ae=>by
      rw [m5 _ _ _ _ (by omega)] at hu;(have ae:(cur.toList.take off++vs++cur.toList.drop (off+vs.length))[j]?=some bn:=by simpa using ae);rw [jc cur.toList vs off j (by have CO:cur.toList.length=cur.size:=tQ;omega)] at ae;rw [eF.len] at hu;split at hu
      ·rename_i aw;rw [if_pos aw] at ae;obtain ⟨a',bb,bt⟩:=eF.rel _ bG bn hu ae;exact ⟨I.fx a',bb,bt,.inl a'⟩
      ·rename_i aw;rw [if_neg aw] at ae;obtain ⟨d1,d0,d2,d3⟩:=bg j bG bn hu (by simpa using ae)
       exact ⟨d1,d0,d2,.inr (.inl d3)⟩)
    exact ⟨_,cC,az,aA,b_,cur,e,_,e,aR,setRow_heap w b cur _ e (0,0) aR,by have CO:cur.toList.length=cur.size:=tQ;simp;omega⟩
   ·simp at c9
  ·simp at h
 ·simp at h
theorem BB (ah:aK B U J S w H) {lo id off len sz n:Nat} {H':List ar} {cs:List I} {vs:List Value} (eF:c3 J S w cs vs) (cB:cs.length=n) (aN:n≤len*sz)
  (h:fP lo H id (fun l=>if off+len*sz≤l.length then some (setCells off cs l) else none)=some H') {b:Nat} (ag:J[id]?=some b) :
  ∃ w',(storeCells ⟨b,off,none⟩ vs).run P w=.ok () w'∧∃ az,bj U S w az S w'∧aK B az J S w' H':=by
 obtain ⟨w',ad,az,af,aG,_⟩:=BC (P:=P) ah eF cB aN h ag;exact ⟨w',ad,az,af,aG⟩
theorem Gu (ah:aK B U J S w H) {lo id off len sz n:Nat} {H':List ar} {cs:List I} {vs:List Value} (eF:c3 J S w cs vs) (cB:cs.length=n) (aN:n≤len*sz)
  (h:hg lo H id (fun l=>if off+len*sz≤l.length then some (setCells off cs l) else none)=some H') {b:Nat} (ag:J[id]?=some b) :
  ∃ w',(storeCells ⟨b,off,none⟩ vs).run P w=.ok () w'∧∃ az,bj U S w az S w'∧aK B az J S w' H':=by
 unfold hg at h;split at h
 ·rename_i bC;split at h
  ·rename_i ll aE;exact BB (P:=P) (lo:=lo) ah eF cB aN (by unfold fP;rw [if_pos bC,aE];exact h) ag
  ·rename_i ll g z aE;simp only [su] at h;obtain ⟨l',c9,rfl⟩:=h;have aS:=(sv.1 aE).1;obtain ⟨dE,cur,e,aC,aI,aR,bl,bd,bg,cap,c',dv,dV,gz⟩:=ah.obj id _ aE;rw [ag] at aC;cases aC
   obtain ⟨w',q1,az,aX,cy,Cd,f',jA,e1,dF,mZ,xC⟩:=BC (P:=P) (lo:=lo) (id:=id) (H':=(H.set id (.cells ll)).set id (.cells l')) (ah.oH aE) eF cB aN (by
    unfold fP;rw [if_pos bC,sI aS];exact congrArg (Option.map _) c9) ag
   rw [aR] at dF;cases dF;have aO:=cy.xH (g:=g) (z:=z) (by rw [sI (by simpa using aS)]) ag c' dv dV mZ (by rw [xC,gz]);rw [te,te] at aO;exact ⟨w',q1,az,aX,aO⟩
  ·simp at h
 ·simp at h
theorem FP (ah:aK B U J S w H) {lo:Nat} {ts:Array TypeId} (ty:TypeId) {u x r:I} {H':List ar} {v cz:Value} {dL:aH} (dg:∀ id,dL≠.obj id) (dh:∀ id j,dL≠.cell id j)
  (h:j5 P lo ts H [u,x]=some (r,H')) (aj:Rel J S w u v) (ei:Rel J S w x cz) (h9:aW U J S w dL x cz) :
  ∃ y w',(Builtin.copy_ ts ty #[v,cz]).run P w=.ok y w'∧a1 B U J S w H' r y w':=by
 obtain ⟨a8,aJ,aQ,bW,jW⟩:=mK ah dg dh ei h9;have dy:bj U S w U a8 w:=bj.settle aJ fun b o h=>(aQ b o h).imp (fun h=>h) fun h=>⟨_,h⟩;unfold j5 at h;split at h
 ·rename_i id off len cap sz oI heq;simp only [List.cons.injEq,and_true] at heq;obtain ⟨rfl,rfl⟩:=heq;split at h
  ·rename_i e he;simp only [sE] at he;obtain ⟨t,ay,he⟩:=he;split at h
   ·rename_i s m row ai hm cQ;split at h
    ·rename_i al;obtain ⟨rfl,Dw⟩:=al;simp only [su] at h;obtain ⟨a4,hw,h⟩:=h;simp only [Prod.mk.injEq] at h;obtain ⟨rfl,rfl⟩:=h;have Df:lenOf x.view=some m:=by
      cases x <;> try exact hm
      ·rename_i c;cases c <;> exact hm
      ·simp [lenOf] at hm
     have nO:rowOf H x.view=some row:=by
      cases x <;> try exact cQ
      ·rename_i c;cases c <;> exact cQ
      ·simp [rowOf] at cQ
     have g8:=I.fx (I.dj x);cases aj with
     | ref _ _ _ _ _ b cap' ag CM hle =>
       obtain ⟨a,c,gi⟩:=mJ Df jW;have Dz:∃ vs,c3 J a8 w row vs∧∀ n,n≤m→(Builtin.firstCells s n cz).run P w=.ok (vs.take (n*s)).toArray w:=by
        rcases xX bW nO jW g8 with ⟨aV,n,dX,ae⟩ | ⟨cI,bR,n,dX,vs,ae,gI,bx⟩
        ·refine ⟨[],⟨by simp [aV],by simp [aV]⟩,fun iU aN=>?_⟩;(have GX:m=0:=by rw [ae] at gi;cases gi;rfl);rw [ae];(obtain rfl:iU=0:=by omega);cases n <;> simp [Builtin.firstCells,loadCells,loadCellsFrom]
        ·refine ⟨vs,gI,fun iU aN=>?_⟩;rw [ae] at gi ⊢;cases gi;have xc:vs.length=m*s:=gI.len ▸ Dw;have Da:iU*s≤m*s:=tP _ aN
         exact run_firstCells_some (P:=P) w s iU ⟨cI,bR,none⟩ m c (vs.take (iU*s)) (by simp;omega) (fun j y aZ=>by
          rw [tp] at aZ;split at aZ
          ·rw [add_lit];exact bx j y aZ
          ·simp at aZ)
       obtain ⟨vs,gI,CW⟩:=Dz;have GY:min m len*s≤m*s:=tP _ (Nat.min_le_left _ _)
       have CR:c3 J a8 w (row.take (min m len*s)) (vs.take (min m len*s)):=⟨by simp [gI.len],fun j bG bn b' bf=>by
        rw [tp] at b' bf;split at b'
        ·rename_i aw;rw [if_pos aw] at bf;exact gI.rel j bG bn b' bf
        ·simp at b'⟩
       obtain ⟨w',cC,az,aA,b_⟩:=BB (P:=P) (n:=min m len*s) bW CR (by simp;omega) (tP _ (Nat.min_le_right _ _)) hw ag;refine ⟨.int .i64 (min m len:Nat),w',?_,az,J,a8,Ext.refl J,dy.trans aA,b_,.int _ _,aW.b4 rfl⟩;subst gi;have aP:=CW (min m len) (Nat.min_le_left _ _);simp only [Builtin.copy_,ay,List.getElem?_toArray,uJ,uU,Sem.run_bind,run_underlying he,Result.andThen_ok,Builtin.lenOf,Sem.run_pure,run_sizeOf ai];rw [show Nat.min m len=min m len from rfl,aP];simp [cC,goInt]
    ·simp at h
   ·simp at h
  ·simp at h
 ·simp at h
theorem FO (ah:aK B U J S w H) {lo:Nat} {ts:Array TypeId} (ty:TypeId) {u r:I} {H':List ar} {v:Value} (h:k4 P lo ts H [u]=some (r,H')) (aj:Rel J S w u v) :
  ∃ y w',(Builtin.clear_ ts ty #[v]).run P w=.ok y w'∧a1 B U J S w H' r y w':=by
 have done:∀ {a4:List ar},aK B U J S w a4→a1 B U J S w a4 (.tuple []) (.tuple #[]) w:=fun cn=>a1.same cn (.tuple [] #[] rfl (by simp) (by simp)) rfl;unfold k4 at h;split at h
 ·rename_i id off len cap sz heq;simp only [List.cons.injEq,and_true] at heq;subst heq;split at h
  ·rename_i e he;simp only [sE] at he;obtain ⟨t,ay,he⟩:=he;split at h
   ·rename_i s z ai bk;split at h
    ·rename_i al;obtain ⟨rfl,ey,bP⟩:=al;simp only [su,Prod.mk.injEq] at h;obtain ⟨a4,hw,rfl,rfl⟩:=h;obtain ⟨i,db,hi,d',fg⟩:=ht (J:=J) (S:=S) (w:=w) bk;have fN:=m' fg (by omega) len;cases aj with
     | ref _ _ _ _ _ b cap' ag CM hle =>
       obtain ⟨w',cC,az,aA,b_⟩:=Gu (P:=P) (n:=len*s) ah fN (by rw [ik,ey]) (sB _) hw ag;(have kQ:z.length=db.cells.size:=by simpa using fg.len);have heq:(Builtin.zeroCells db.cells len).toList=((Array.range (len*z.length)).map (fun i=>db.cells[i % db.cells.size]!)).toList:=by
        simp [Builtin.zeroCells,kQ]
       rw [←heq] at cC;cases len with
       | zero =>
         have mx:w'=w:=by
          (have aV:(Builtin.zeroCells db.cells 0).toList=[]:=by simp [Builtin.zeroCells]);rw [aV] at cC;simp [storeCells] at cC;exact cC.symm
         subst mx;refine ⟨.tuple #[],w',by simp [Builtin.clear_,ay,run_underlying he],az,J,S,Ext.refl J,aA,b_,.tuple [] #[] rfl (by simp) (by simp),aW.b4 rfl⟩
       | succ n =>
         refine ⟨.tuple #[],w',?_,az,J,S,Ext.refl J,aA,b_,.tuple [] #[] rfl (by simp) (by simp),aW.b4 rfl⟩;simp [Builtin.clear_,ay,run_underlying he,jb hi d',cC]
    ·simp at h
   ·simp at h
  ·simp at h
 ·rename_i c heq;simp only [List.cons.injEq,and_true] at heq;subst heq;split at h
  ·rename_i ai;obtain ⟨t,e,ay,he⟩:=mC ai;simp only [Option.some.injEq,Prod.mk.injEq] at h;obtain ⟨rfl,rfl⟩:=h;have ae:∃ a c,v=.slice a 0 c:=mJ (n:=0) rfl aj;obtain ⟨a,c,rfl⟩:=ae;refine ⟨.tuple #[],w,?_,done ah⟩;cases a <;> simp [Builtin.clear_,ay,run_underlying he]
  ·simp at h
 ·simp at h
theorem o9 (off:Nat):∀ (xs:List Value) (k:Nat) (cells:Array Value) (j:Nat),off+k+xs.length≤cells.size →
  ((xs.zipIdx k).foldl (fun cs (x:Value×Nat)=>cs.setIfInBounds (off+x.2) x.1) cells)[j]?=if off+k≤j∧j<off+k+xs.length then xs[j-(off+k)]? else cells[j]?
 | [],k,cells,j,_=>by simp;omega
 | x::xs,k,cells,j,h=>by
   simp only [sV] at h;simp only [List.zipIdx_cons,List.foldl_cons];rw [o9 off xs (k+1) _ j (by simp;omega)];by_cases ad:j=off+k
   ·subst ad;rw [if_neg (by omega),if_pos (by simp)];simp [show off+k<cells.size by omega]
   ·by_cases af:off+(k+1)≤j∧j<off+(k+1)+xs.length
    ·rw [if_pos af,if_pos (by simp;omega)];obtain ⟨m,rfl⟩:∃ m,j=off+(k+1)+m:=⟨j-(off+(k+1)),by omega⟩;rw [show off+(k+1)+m-(off+(k+1))=m by omega,show off+(k+1)+m-(off+k)=m+1 by omega];simp
    ·rw [if_neg af,if_neg (by simp;omega),Array.getElem?_setIfInBounds_ne (by omega)]
theorem EA {u:I} {v:Value} {vc:List I} (al:u.cells=some vc) (aj:Rel J S w u v) (aB:u.plain=true):c3 J S w vc v.cells.toList:=by
 have single:vc=[u]→v.cells=#[v]→v.oneCell'=true→c3 J S w vc v.cells.toList:=by
  intro ad af aG;subst ad;rw [af];refine ⟨rfl,fun j bG bn hu ae=>?_⟩;cases j with
  | zero=>simp at hu ae;subst hu ae;exact ⟨aB,aG,aj⟩
  | succ j=>simp at hu
 cases aj with
 | agg as vs h p one r =>
   simp [I.cells] at al;subst al;exact ⟨by simpa [Value.cells] using h.symm,fun j bG bn hu ae=>⟨p bG (sZ hu),one bn (sZ ae),r j bG bn hu (by simpa [Value.cells] using ae)⟩⟩
 | junk v=>simp [I.cells] at al
 | tuple as vs h p r=>simp [I.cells] at al
 | raw=>simp [I.cells] at al
 | cZ=>simp [I.cells] at al
 | _=>simp [I.cells] at al;exact single al.symm rfl rfl
theorem ku {place:Nat→Option (Nat×Nat)}:∀ (parts:List (Nat×I)) (parts':List (Nat×Value)) (cs c8:List I) (vs:Array Value),
  parts.map (·.1)=parts'.map (·.1)→(∀ (j:Nat) (x:Nat×I) (y:Nat×Value),parts[j]?=some x→parts'[j]?=some y→x.2.plain=true∧Rel J S w x.2 y.2) →
  fC place cs parts=some c8→c3 J S w cs vs.toList→∃ cV,Instr.fill place vs parts'=some cV∧c3 J S w c8 cV.toList
 | [],parts',cs,c8,vs,hi,_,h,al=>by
   cases parts' with
   | nil=>simp [fC] at h;subst h;exact ⟨vs,rfl,al⟩
   | cons=>simp at hi
 | (i,u)::parts,parts',cs,c8,vs,hi,b1,h,al=>by
   cases parts' with
   | nil=>simp at hi
   | cons y parts' =>
     obtain ⟨jX,v⟩:=y;simp only [List.map_cons,List.cons.injEq] at hi;obtain ⟨rfl,hi⟩:=hi;obtain ⟨aB,aj⟩:=b1 0 (i,u) (i,v) rfl rfl;simp only [fC] at h;split at h
     ·rename_i off size g8;split at h
      ·rename_i vc fM;split at h
       ·rename_i g3;obtain ⟨bP,hle⟩:=g3;have eF:=EA fM aj aB;(have xc:v.cells.size=size:=by have:=eF.len;simp at this;omega);(have cB:vs.size=cs.length:=by have:=al.len;simp at this;omega);have bw:c3 J S w (setCells off vc cs) (v.cells.zipIdx.foldl (fun cs (x:Value×Nat)=>cs.setIfInBounds (off+x.2) x.1) vs).toList:=by
         refine ⟨?_,fun j bG bn hu ae=>?_⟩
         ·rw [ln];have pz:∀ (l:List (Value×Nat)) (a:Array Value),(l.foldl (fun cs (x:Value×Nat)=>cs.setIfInBounds (off+x.2) x.1) a).size=a.size:=by
           intro l;induction l with
           | nil=>intro a;rfl
           | cons x l a_=>intro a;simp [a_]
          have:=pz v.cells.zipIdx.toList vs;simp only [tQ];rw [←cB,←this,←vS]
         ·rw [m5 _ _ _ _ (by omega)] at hu;have aO:=o9 off v.cells.toList 0 vs j (by simp;omega);(have da:(v.cells.zipIdx.foldl (fun cs (x:Value×Nat)=>cs.setIfInBounds (off+x.2) x.1) vs)[j]?=some bn:=by simpa using ae);rw [←vS,Array.toList_zipIdx] at da;rw [aO] at da;simp only [ue,tQ,xc] at da;rw [bP] at hu;split at hu
          ·rename_i aw;rw [if_pos aw] at da;exact eF.rel _ bG bn hu da
          ·rename_i aw;rw [if_neg aw] at da;exact al.rel j bG bn hu (by simpa using da)
        obtain ⟨cV,ad,af⟩:=ku parts parts' (setCells off vc cs) c8 _ hi (fun j x y ak aZ=>b1 (j+1) x y (by simpa using ak) (by simpa using aZ)) h bw;exact ⟨cV,by simp only [Instr.fill,g8];rw [if_neg (by simp;omega)];exact ad,af⟩
       ·simp at h
      ·simp at h
     ·simp at h
end
end Go.Proofs.YtfakoboiahbhaaaGreat.Ab
