
import Derived.RangeFuncLeaves
import Derived.RangeFuncCalls
import Derived.KernelRfl
import Derived.Laws.AppendOwn
import Derived.OrdersIn
import Derived.Below
import Derived.IntWalk
import Derived.Laws.MakeOwn
set_option linter.unusedSimpArgs false
set_option linter.unusedVariables false
set_option linter.unusedSectionVars false

open Array renaming foldl_toList→uM,getD_eq_getD_getElem?→su,getElem?_append_left→vm,getElem?_eq_getElem→sr,getElem?_eq_some_iff→sJ,getElem?_map→ue,length_toList→sY,mem_of_getElem?→uw,size_append→uJ,toArray_toList→tF
open Int renaming mul_comm→vk,natCast_mul→uI,toNat_of_nonneg→vj
open List renaming all_eq_true→sq,append_assoc→sx,append_nil→sM,forIn_cons→vg,getD_eq_getElem?_getD→sw,getElem?_append_left→sg,getElem?_append_right→ss,getElem?_cons_succ→ug,getElem?_cons_zero→tG,getElem?_drop→sQ,getElem?_eq_getElem→si,getElem?_eq_some_iff→sa,getElem?_map→sm,getElem?_set→tE,getElem?_set_ne→sd,getElem?_set_self→sk,getElem?_take→sI,length_append→sy,length_cons→sK,length_drop→tz,length_eq_zero_iff→sO,length_set→s6,length_take→sZ,mem_iff_getElem?→sW,mem_map→sC,mem_of_getElem?→sv,mem_of_mem_drop→uF,mem_of_mem_take→uE,set_set→sV,size_toArray→tj,take_zero→ur
open Nat renaming add_assoc→td,add_comm→te,add_mul→ta,add_zero→ti,le_mul_of_pos_right→tN,le_refl→sc,le_trans→sT,lt_or_ge→sL,lt_trichotomy→uG,min_eq_left→tO,mul_le_mul_right→s_,mul_pos→vl,sub_self→tx,succ_mul→vi,zero_add→sB,zero_mul→vh
open Option renaming bind_eq_some_iff→sf,getD_some→uq,map_eq_some_iff→r_,map_some→se
namespace Go.Proofs.Ytkoioidpbbbaiaa.Ab
open Go
inductive hE where
 | shared | full | own (z:Nat) | uniq (z:Nat)
 deriving DecidableEq
inductive I where
 | a0
 | bool (b:Bool)
 | int (k:IntKind) (n:Int)
 | eI
 | ptr (id off:Nat)
 | bS (cells:List I)
 | av (cells:List I) (len:Nat) (c:hE)
 | ref (id off len:Nat) (cap:Option Nat) (bb:Nat)
 | func (f:FuncId) (first captured:List I)
 | yield (id:Nat)
 | map (id:Nat)
 | agg (cs:List I)
 | tuple (vs:List I)
 | str (s:ByteArray)
 | raw (cells:List I) (len z:Nat)
 | cm (id gid len z:Nat)
 | dA
 | c3 (as cells:List I) (len z:Nat) (bs:List I)
 deriving Inhabited
structure bZ where
 cC:List Bool:=[]
 mode:Nat:=0
structure dx where
 bad:Bool:=false
 two:List (Nat×List Nat×Nat×Nat):=[]
 ops:List (List bZ):=[]
 il:List (Nat×List Bool):=[]
 im:List (Nat×List Bool):=[]
inductive ar where
 | dead
 | cells (l:List I)
 | loop (st:LoopState) (cL:Option Code) (fn:FuncId) (tmps:List I) (params:List Nat) (assign body:Code) (jD:dx)
 | map (es:List (Nat×I×I)) (clock:Nat)
 | iter (m since:Nat) (seen:List Nat) (kj:Nat)
 | grow (l:List I) (gid z:Nat)
structure a6 where
 T:List I
 H:List ar
inductive cQ where
 | normal | exit (id:Nat) | ret
inductive fc where
 | fn (f:FuncId)
 | yield (l:Nat)
abbrev b8:=fc→List I→List ar→Nat→Option (I×List ar)
def I.view:I→I
 | .av c n (.own _)=>.av c n .shared
 | .av c n (.uniq _)=>.av c n .shared
 | .raw _ _ _=>.a0
 | .c3 _ _ _ _ _=>.a0
 | .cm id _ len z=>.ref id 0 len none z
 | v=>v
def I.ha:I→I
 | .av c n .full=>.av c n .shared
 | v=>v
def I.cc:I→I
 | .av c n .full=>.av c n .shared
 | .agg cs=>.agg (cs.map I.ha)
 | .tuple cs=>.tuple (cs.map I.ha)
 | v=>v
def cr:Nat→I→Bool
 | 0,_=>false
 | d+1,v=>match v with
   | .av cells _ _=>cells.all (cr d)
   | .bS cells=>cells.all (cr d)
   | .agg cs=>cs.all (cr d)
   | .tuple cs=>cs.all (cr d)
   | .func _ a b=>a.all (cr d) && b.all (cr d)
   | .bool _ | .int _ _ | .str _ | .eI | .a0=>true
   | _=>false
def I.plain:I→Bool
 | .av _ _ (.own _)=>false
 | .av _ _ (.uniq _)=>false
 | .raw _ _ _=>false
 | .c3 _ _ _ _ _=>false
 | .cm _ _ _ _=>false
 | _=>true
def I.cW:I→Bool
 | .av _ _ (.uniq _)=>false
 | _=>true
def I.settle:I→I
 | .av c n (.uniq z)=>.av c n (.own z)
 | v=>v
def I.cells:I→Option (List I)
 | .agg cs=>some cs
 | .a0=>none
 | .tuple _=>none
 | .raw _ _ _=>none
 | .c3 _ _ _ _ _=>none
 | v=>some [v]
def hH:Value→I
 | .bool b=>.bool b
 | .int k n=>.int k n
 | .pointer none=>.eI
 | .string s=>.str s
 | .slice none 0 0=>.av [] 0 .full
 | _=>.a0
def I.G5:I→Bool
 | .a0=>true
 | _=>false
noncomputable section
def df (T:List I) (t:Nat):I :=
 @List.rec I (fun _=>Nat→I) (fun _=>.a0) (fun h _ a8 n=>@Nat.rec (fun _=>I) h (fun m _=>a8 m) n) T t
def g2 (T:List I) (t:Nat) (v:I):List I :=
 @List.rec I (fun _=>Nat→List I) (fun _=>[]) (fun h yh a8 n=>@Nat.rec (fun _=>List I) (v::yh) (fun m _=>h::a8 m) n) T t
theorem gg (T:List I):∀ t,df T t=T.getD t .a0:=by
 induction T with
 | nil=>intro t;rfl
 | cons h yh a8=>intro t;cases t with
   | zero=>rfl
   | succ n=>exact a8 n
theorem g3 (T:List I) (v:I):∀ t,g2 T t v=T.set t v:=by
 induction T with
 | nil=>intro t;rfl
 | cons h yh a8=>intro t;cases t with
   | zero=>rfl
   | succ n=>exact congrArg (h::·) (a8 n)
def az (T:List I):Operand→I
 | .tmp t=>df T t
 | .const v=>hH v
 | .func f=>.func f [] []
 | .global _=>.a0
def fX (T:List I) (t:Nat):I→List I
 | .av c n (.uniq z)=>g2 T t (.av c n (.own z))
 | _=>T
def rd:List I→List Bool→List Operand→List I×List I
 | T,_,[]=>([],T)
 | T,ts,.tmp t::rest =>
   match ts.headD false with
   | true=>let r:=rd (g2 T t .a0) ts.tail rest;(df T t::r.1,r.2)
   | false=>let r:=rd (fX T t (df T t)) ts.tail rest;((df T t).view::r.1,r.2)
 | T,ts,x::rest=>let r:=rd T ts.tail rest;(az T x::r.1,r.2)
def eZ:List Bool→List I→List I
 | b::bs,v::vs=>(match b with | true=>v | false=>.a0)::eZ bs vs
 | [],vs=>vs
 | _,[]=>[]
def l8 (id:Nat):List (Nat×List Bool)→Option (List Bool)
 | []=>none
 | (i,k)::r=>match Nat.beq i id with | true=>some k | false=>l8 id r
def e5 (mN:List (Nat×List Bool)) (id:Nat) (s:a6):a6 :=
 match l8 id mN with
 | some k=>⟨eZ k s.T,s.H⟩
 | none=>s
def opsOf (o:Oper):List Operand :=
 match o.op with
 | .call { callee:=.value f,args,.. }=>f::args.toList
 | .call { args,.. }=>args.toList
 | op=>op.operands.toList
def tmpsOf (xs:List Operand):List Nat:=xs.filterMap fun x=>match x with | .tmp t=>some t | _=>none
def c4:List Bool→List Operand→List Nat
 | _,[]=>[]
 | ts,.tmp t::rest=>match ts.headD false with
   | true=>t::c4 ts.tail rest
   | false=>c4 ts.tail rest
 | ts,_::rest=>c4 ts.tail rest
def pj (ops:Array Oper) (o:Oper):List Nat:=match o.guard with
 | some (j,_)=>((ops[j]?).bind (·.dst)).toList
 | none=>[]
def fa (ops:Array Oper) (o:Oper):List Nat:=pj ops o++tmpsOf (opsOf o)
def jH (xs ys:List Nat):Bool:=xs.all fun x=>!(ys.contains x)
def dq (o:Oper) (mode:Nat):Nat:=match o.op with
 | .load _ _=>if mode=0 then 1 else if mode=13 then 1 else if mode=2 then 2 else if mode=3 then 0 else if mode=5 then 2 else if mode=6 then 2 else 5
 | .box _ _=>if mode=0 then 6 else 0
 | .alloc _=>6
 | .makeSlice _ _ _=>if mode=0 then 2 else 0
 | .store _ _ _ | .makeMap _ _ | .mapUpdate _ _ _ _ | .lookup _ _ _ _ | .range _ _ | .entry _=>2
 | .move _ | .assign _=>if mode=0 then 0 else 2
 | .call c=>match c.callee with
   | .builtin b=>match b with
     | .append=>if mode=0 then 1 else 2
     | .len | .cap | .min | .max=>1
     | _=>2
   | .value _=>if mode=0 then 3 else if mode=3 then 0 else if mode=4 then 3 else if mode=6 then 3 else if mode=9 then 3 else 2
   | .invoke _ _=>2
 | _=>0
def calm (o:Oper) (mode:Nat):Bool:=match o.op with
 | .move _ | .assign _=>mode == 0
 | _=>true
def bT (a b:Nat):Bool:=a == 0 || b == 0 || ((a == 1 || a == 3) && (b == 1 || b == 3)) || (a == 1 && b == 5) || (a == 5 && b == 1) || (a == 1 && b == 6)
def k3 (bx:Oper) (da:Nat) (bK:Oper):Bool:=match bx.op,bK.op with
 | .load _ _,.mapUpdate _ _ _ _=>da == 0
 | _,_=>false
def k4 (bx:Oper) (da:Nat) (bK:Oper) (db:Nat):Bool:=match bx.op,bK.op with
 | .load _ _,.store _ _ _=>da == 13 && db == 13
 | _,_=>false
def indep (ops:Array Oper) (bx:Oper) (aA:bZ) (bK:Oper) (aG:bZ):Bool :=
 jH bx.dst.toList (fa ops bK) && jH bK.dst.toList (fa ops bx) && jH bx.dst.toList bK.dst.toList &&
 jH (c4 aA.cC (opsOf bx)) (fa ops bK) && jH (c4 aG.cC (opsOf bK)) (fa ops bx) &&
 calm bx aA.mode && calm bK aG.mode && (bT (dq bx aA.mode) (dq bK aG.mode) || k3 bx aA.mode bK || k4 bx aA.mode bK aG.mode)
def mT (ms:List Nat) (o:Oper):Nat:=o.after.toList.foldl (fun m e=>if Region.binds .any e then m ||| (ms.getD e.on 0 ||| 1 <<< e.on) else m) 0
def fR:List Oper→List Nat→List Nat
 | [],ms=>ms
 | o::r,ms=>fR r (ms++[mT ms o])
def Ad (ops:Array Oper) (as:List bZ) (ms:List Nat):Bool :=
 (List.range ops.size).all fun j=>match ops[j]? with
  | none=>true
  | some cT=>(ms.getD j 0 == mT ms cT) && cT.after.toList.all (fun e=>!Region.binds .any e || Nat.blt e.on j) &&
    (List.range j).all fun i=>match ops[i]? with
     | none=>true
     | some cS=>(ms.getD j 0).testBit i || indep ops cS (as.getD i {}) cT (as.getD j {})
def nB (ops:Array Oper) (as:List bZ):Bool:=Ad ops as (fR ops.toList [])
def Ac (ops:Array Oper) (an:List bZ) (ms:List Nat) (p q j i:Nat):Bool:=match ops[j]?,ops[i]? with
 | some cT,some cS=>(ms.getD i 0).testBit j || indep ops cT (an.getD j {}) cS (an.getD i {}) || (Nat.beq j p && Nat.beq i q)
 | _,_=>true
def m4 (ops:Array Oper) (an:List bZ) (ms:List Nat) (p q:Nat):List Nat→Bool
 | []=>true
 | j::r=>r.all (Ac ops an ms p q j) && m4 ops an ms p q r
def od:List Nat→Bool
 | []=>true
 | j::r=>!r.contains j && od r
def zX (ops:Array Oper) (ms:List Nat):Bool:=(List.range ops.size).all fun j=>match ops[j]? with
 | none=>true
 | some cT=>(ms.getD j 0 == mT ms cT) && cT.after.toList.all (fun e=>!Region.binds .any e || Nat.blt e.on j)
def l0 (ops:Array Oper) (an:List bZ) (x:List Nat×Nat×Nat):Bool :=
 zX ops (fR ops.toList []) && m4 ops an (fR ops.toList []) x.2.1 x.2.2 (List.range ops.size) && m4 ops an (fR ops.toList []) x.2.2 x.2.1 x.1 &&
 od x.1 && (List.range ops.size).all (fun i=>x.1.contains i) && x.1.all (fun i=>Nat.blt i ops.size) && !Nat.beq x.2.1 x.2.2 && Nat.blt x.2.1 ops.size && Nat.blt x.2.2 ops.size
def Bv (id:Nat):List (Nat×List Nat×Nat×Nat)→Option (List Nat×Nat×Nat)
 | []=>none
 | (i,x)::r=>match Nat.beq i id with | true=>some x | false=>Bv id r
def kk (A:dx) (id:Nat):Bool→Option (List Nat×Nat×Nat)
 | true=>Bv id A.two
 | false=>none
def xO (A:dx) (id:Nat) (ops:Array Oper) (draw:Bool):Bool:=match kk A id draw with
 | some x=>l0 ops (A.ops.getD id []) x
 | none=>!draw || nB ops (A.ops.getD id [])
def codeOk (A:dx):Code→Bool
 | .region id ops draw=>xO A id ops draw
 | .seq a b=>codeOk A a && codeOk A b
 | .cond _ a b=>codeOk A a && codeOk A b
 | .block _ c=>codeOk A c
 | .loop c=>codeOk A c
 | .scope c=>codeOk A c
 | .rangeFunc _ _ a b=>codeOk A a && codeOk A b
 | _=>true
section
variable (P:Program)
def bF (t:TypeId):Option Nat:=(P.info? t).map (·.size)
def dK (t:TypeId):Bool:=match P.underlying t with | some (.struct _) | some (.array _ _)=>true | _=>false
def zeroCells (t:TypeId):Option (List I):=((P.info? t).bind (·.zero)).bind fun v=>match v.cells.toList.all (·.oneCell') with | true=>some (v.cells.toList.map hH) | false=>none
def jB (op:BinOp) (k:IntKind) (a b:Int):Option I :=
 match op with
 | .add=>some (.int k (k.wrap (a+b)))
 | .sub=>some (.int k (k.wrap (a-b)))
 | .mul=>some (.int k (k.wrap (a*b)))
 | .quo=>if b=0 then none else some (.int k (k.wrap (a.tdiv b)))
 | .rem=>if b=0 then none else some (.int k (a.tmod b))
 | .eql=>some (.bool (a == b))
 | .neq=>some (.bool (a != b))
 | .lss=>some (.bool (decide (a<b)))
 | .leq=>some (.bool (decide (a≤b)))
 | .gtr=>some (.bool (decide (a > b)))
 | .geq=>some (.bool (decide (a≥b)))
 | .and=>some (.int k (k.wrap (BitVec.ofInt k.bits a &&& BitVec.ofInt k.bits b).toNat))
 | .or=>some (.int k (k.wrap (BitVec.ofInt k.bits a ||| BitVec.ofInt k.bits b).toNat))
 | .xor=>some (.int k (k.wrap (BitVec.ofInt k.bits a ^^^ BitVec.ofInt k.bits b).toNat))
 | .andNot=>some (.int k (k.wrap (BitVec.ofInt k.bits a &&& ~~~ (BitVec.ofInt k.bits b)).toNat))
 | _=>none
def hG (op:BinOp) (k:IntKind) (a b:Int):Option I :=
 if b<0 then none else
 match op with
 | .shl=>some (.int k (k.wrap (a*2 ^ (min b.toNat k.bits))))
 | .shr=>some (.int k (a.fdiv (2 ^ (min b.toNat k.bits))))
 | _=>none
def dL:List I→List I→Option Bool
 | [],[]=>some true
 | .int k a::r,.int k' b::r'=>if k=k' then (dL r r').map fun e=>(a == b) && e else none
 | _,_=>none
def gS:List Field→Nat→Bool
 | [],_=>true
 | f :: fs, n => (f.offset == n) && (f.name != "_") && (match P.underlying f.type, bF P f.type with | some (.int _), some 1 => true | _, _ => false) && gS fs (n + 1)
def fo (op:BinOp) (t:TypeId) (x y:I):Option I :=
 match x,y with
 | .int k a,.int k' b =>
   match op with
   | .shl=>hG .shl k a b
   | .shr=>hG .shr k a b
   | op=>if k=k' then jB op k a b else none
 | .bool a,.bool b =>
   match P.underlying t,op with
   | some .bool,.eql=>some (.bool (a == b))
   | some .bool,.neq=>some (.bool (!(a == b)))
   | _,_=>none
 | .agg xs,.agg ys =>
   match P.underlying t with
   | some (.array len e) =>
     match P.underlying e,bF P e with
     | some (.int _),some 1 =>
       if xs.length=len∧ys.length=len∧P.eqGuardType P.depth t=false then
        match op with
        | .eql=>(dL xs ys).map fun e=>.bool e
        | .neq=>(dL xs ys).map fun e=>.bool !e
        | _=>none
       else none
     | _,_=>none
   | some (.struct fs) =>
     if gS P fs.toList 0=true∧P.stoodInHeld t=false∧xs.length=fs.size∧ys.length=fs.size∧P.eqGuardType P.depth t=false then
      match op with
      | .eql=>(dL xs ys).map fun e=>.bool e
      | .neq=>(dL xs ys).map fun e=>.bool !e
      | _=>none
     else none
   | _=>none
 | _,_=>none
def kt (op:UnOp):I→Option I
 | .bool b=>match op with | .not=>some (.bool !b) | _=>none
 | .int k n=>match op with | .neg=>some (.int k (k.wrap (-n))) | _=>none
 | _=>none
def setCells:Nat→List I→List I→List I
 | _,[],cs=>cs
 | off,v::vs,cs=>setCells (off+1) vs (cs.set off v)
def fC (place:Nat→Option (Nat×Nat)):List I→List (Nat×I)→Option (List I)
 | cs,[]=>some cs
 | cs,(i,v)::rest =>
   match place i with
   | some (off,size)=>match v.cells with
     | some vc=>if vc.length=size∧off+size≤cs.length then fC place (setCells off vc cs) rest else none
     | none=>none
   | none=>none
def e_:Nat→List I→List I
 | 0,_=>[]
 | n+1,z=>z++e_ n z
def lL (t:TypeId) (parts:List (Nat×I)):Option I :=
 match zeroCells P t,P.underlying t with
 | some z,some (.struct fs)=>match fs.toList.all (fun f=>(bF P f.type).isSome) with
   | true=>(fC (fun i=>(fs[i]?).bind fun f=>(bF P f.type).map fun s=>(f.offset,s)) z parts).map .agg
   | false=>none
 | some z,some (.array _ e)=>(bF P e).bind fun s=>(fC (fun i=>some (i*s,s)) z parts).map .agg
 | _,_=>none
def jf:List (Nat×I)→List (Nat×I)→Option (List (Nat×I)×Nat×List I×Nat×Nat×List (Nat×I))
 | _,[]=>none
 | pre,(i,.av c n (.own z))::r=>some (pre,i,c,n,z,r)
 | pre,(i,.av c n (.uniq z))::r=>some (pre,i,c,n,z,r)
 | pre,x::r=>jf (pre++[x]) r
def ks (t:TypeId) (parts:List (Nat×I)):Option I :=
 match zeroCells P t,P.underlying t,jf [] parts with
 | some z,some (.struct fs),some (pre,i,c,n,s,post) =>
   match fs.toList.all (fun f=>(bF P f.type).isSome),(fs[i]?).bind fun f=>(bF P f.type).map fun s=>(f.offset,s) with
   | true,some (off,1) =>
     match pre.all (fun x=>x.2.plain) && post.all (fun x=>x.2.plain) && post.all (fun x=>match (fs[x.1]?).bind fun f=>(bF P f.type).map fun s=>(f.offset,s) with | some (o,s)=>decide (off<o∨o+s≤off) | none=>false) with
     | true=>(fC (fun i=>(fs[i]?).bind fun f=>(bF P f.type).map fun s=>(f.offset,s)) z pre).bind fun eR=>if off<eR.length then
       (fC (fun i=>(fs[i]?).bind fun f=>(bF P f.type).map fun s=>(f.offset,s)) (eR.set off .a0) post).map fun ed=>.c3 (ed.take off) c n s (ed.drop (off+1)) else none
     | false=>none
   | _,_=>none
 | _,_,_=>none
def iJ (t:TypeId) (len:Nat) (parts:List (Nat×I)):Option (List I×Nat) :=
 match P.underlying t with
 | some (.slice e) =>
   match bF P e,zeroCells P e with
   | some s,some z=>if 0<s∧z.length=s∧len*s≤16777216 then (fC (fun i=>some (i*s,s)) (e_ len z) parts).map fun cs=>(cs,s) else none
   | _,_=>none
 | _=>none
def g_ (i:Int) (len:Nat):Option Nat:=if 0≤i∧i<len then some i.toNat else none
def h4 (t:TypeId) (x i:I):Option I :=
 match P.underlying t,x,i with
 | some (.slice e),.av cells len _,.int _ n=>(bF P e).bind fun s=>(g_ n len).map fun j=>.bS (cells.drop (j*s))
 | some (.slice e),.ref id off len _ _,.int _ n=>(bF P e).bind fun s=>(g_ n len).map fun j=>.ptr id (off+j*s)
 | some (.array len e),.ptr id off,.int _ n=>(bF P e).bind fun s=>(g_ n len).map fun j=>.ptr id (off+j*s)
 | some (.array len e),.bS cells,.int _ n=>(bF P e).bind fun s=>(g_ n len).map fun j=>.bS (cells.drop (j*s))
 | _,_,_=>none
def jC (t:TypeId) (x:I) (f:Nat):Option I :=
 match P.underlying t,x with
 | some (.struct fs),.ptr id off=>(fs[f]?).bind fun g=>(bF P g.type).bind fun s=>if s=0 then none else some (.ptr id (off+g.offset))
 | some (.struct fs),.bS cells=>(fs[f]?).bind fun g=>(bF P g.type).bind fun s=>if s=0 then none else some (.bS (cells.drop g.offset))
 | _,_=>none
def iK (t:TypeId) (cs:List I) (off:Nat):Option I :=
 match dK P t with
 | true=>(bF P t).bind fun s=>if off+s≤cs.length then some (.agg ((cs.drop off).take s)) else none
 | false=>match P.underlying t with
   | some _=>cs[off]?
   | none=>none
def ns (t:TypeId) (x:I) (f:Nat):Option I :=
 match P.underlying t,x with
 | some (.struct fs),.agg cs=>(fs[f]?).bind fun g=>iK P g.type cs g.offset
 | _,_=>none
def o1 (t:TypeId) (x i:I):Option I :=
 match P.underlying t,x,i with
 | some (.array len e),.agg cs,.int _ n=>(bF P e).bind fun s=>(g_ n len).bind fun j=>iK P e cs (j*s)
 | some .string,.str b,.int _ n=>if 0≤n then (b[n.toNat]?).map fun x=>.int .u8 x.toNat else none
 | _,_,_=>none
def cN (x:Option I) (Cg most:Nat):Option Nat :=
 match x with
 | none=>some Cg
 | some (.int _ n)=>if 0≤n∧n≤most then some n.toNat else none
 | _=>none
def e0 (t:TypeId) (x:I) (lo hi gU:Option I):Option I :=
 match P.underlying t,x with
 | some (.slice e),.av cells len c =>
   (bF P e).bind fun s =>
   match gU,hi with
   | none,_ =>
     (cN hi len len).bind fun h=>(cN lo 0 h).bind fun l =>
     some (.av ((cells.drop (l*s)).take ((h-l)*s)) (h-l) (if c=.full∧h=len then .full else .shared))
   | some _,some _ =>
     (cN gU len len).bind fun m=>(cN hi m m).bind fun h=>(cN lo 0 h).bind fun l =>
     some (.av ((cells.drop (l*s)).take ((h-l)*s)) (h-l) (if h=m then .full else .shared))
   | some _,none=>none
 | some (.slice e),.ref id off len cap bb =>
   (bF P e).bind fun s=>if s≠bb then none else
   match gU,hi with
   | none,_ =>
     (cN hi len len).bind fun h=>(cN lo 0 h).bind fun l =>
     if l<len then some (.ref id (off+l*s) (h-l) (cap.map (·-l)) bb) else some (.av [] 0 .shared)
   | some _,some _ =>
     (cN gU len len).bind fun m=>(cN hi m m).bind fun h=>(cN lo 0 h).bind fun l =>
     if m=l then (if l=0 then some (.ref id off (h-l) (some (m-l)) bb) else none) else some (.ref id (off+l*s) (h-l) (some (m-l)) bb)
   | some _,none=>none
 | some (.array n e),.ptr id off =>
   (bF P e).bind fun s =>
   match gU with
   | none=>(cN hi n n).bind fun h=>(cN lo 0 h).bind fun l =>
     if n=l then none else some (.ref id (off+l*s) (h-l) (some (n-l)) s)
   | some _=>none
 | _,_=>none
def rowOf (H:List ar):I→Option (List I)
 | .av cells _ _=>some cells
 | .ref id off len _ bb=>match H[id]? with
   | some (.cells l)=>if off+len*bb≤l.length then some (((l.drop off).take (len*bb)).map I.view) else none
   | _=>none
 | _=>none
def lenOf:I→Option Nat
 | .av _ len _=>some len
 | .ref _ _ len _ _=>some len
 | _=>none
def fy (n bytes:Nat):Bool:=Nat.ble (n*bytes) 140737488355328 && Nat.ble 1 bytes
def appended (H:List ar) (x:I):Option (Nat×List I) :=
 match lenOf x,rowOf H x with
 | some m,some row=>some (m,row)
 | _,_=>none
def fe (H:List ar) (t dn:TypeId) (s x:I):Option I :=
 match P.underlying t with
 | some (.slice e) =>
   match bF P e,(P.info? e).map (·.bytes),(zeroCells P e) with
   | some bb,some bytes,some z =>
     match Nat.beq t dn with
     | true =>
       match appended H x with
       | some (m,new) =>
         if new.length=m*bb∧0<bb∧z.length=bb∧fy m bytes then
          match s with
          | .av cells len c =>
            match c with
            | .shared=>if m=0 then some s else none
            | .full=>if m=0 then (if len=0 then some (.av [] 0 (.uniq bb)) else some s)
              else if fy (len+m) bytes∧cells.length=len*bb then some (.av (cells++new) (len+m) (.uniq bb)) else none
            | .own z=>if z=bb∧fy (len+m) bytes then some (.av (cells++new) (len+m) (.own z)) else none
            | .uniq z=>if z=bb∧fy (len+m) bytes then some (.av (cells++new) (len+m) (.uniq z)) else none
          | .ref id off len (some cap) oO =>
            if cap=len∧oO=bb∧0<m then (rowOf H (.ref id off len (some cap) oO)).bind fun fT=>if fy (len+m) bytes then some (.av (fT++new) (len+m) (.uniq bb)) else none
            else none
          | _=>none
         else none
       | none=>none
     | false =>
       match P.underlying dn,x,s with
       | some (.int _),.int .i64 n,.av [] 0 .full =>
         if 0<n∧fy n.toNat bytes∧0<bb∧z.length=bb then some (.av (e_ n.toNat z) n.toNat (.uniq bb)) else none
       | _,_,_=>none
   | _,_,_=>none
 | _=>none
def e6 (t:TypeId) (cs:List I) (off:Nat):Option I :=
 match dK P t with
 | true=>(bF P t).bind fun s=>if off+s≤cs.length then some (.agg (((cs.drop off).take s).map I.view)) else none
 | false=>match P.underlying t with
   | some _=>(cs[off]?).map I.view
   | none=>none
def dz (H:List ar) (t:TypeId) (a:I):Option I :=
 match a with
 | .ptr id off=>match H[id]? with
   | some (.cells l)=>e6 P t l off
   | some (.grow l _ _)=>e6 P t l off
   | _=>none
 | .bS cells=>e6 P t cells 0
 | _=>none
def fS (lo:Nat) (H:List ar) (id:Nat) (f:List I→Option (List I)):Option (List ar) :=
 if lo≤id then match H[id]? with
  | some (.cells l)=>(f l).map fun l'=>H.set id (.cells l')
  | _=>none
 else none
def gT (lo:Nat) (H:List ar) (id:Nat) (f:List I→Option (List I)):Option (List ar) :=
 if lo≤id then match H[id]? with
  | some (.cells l)=>(f l).map fun l'=>H.set id (.cells l')
  | some (.grow l g z)=>(f l).map fun l'=>H.set id (.grow l' g z)
  | _=>none
 else none
def g8 (lo:Nat) (H:List ar) (t:TypeId) (a v:I):Option (List ar) :=
 match a,bF P t with
 | .ptr id off,some s=>match v.cells with
   | some vc=>gT lo H id fun l=>if vc.length=s∧off+s≤l.length then some (setCells off (vc.map I.settle) l) else none
   | none=>none
 | _,_=>none
def jv (t:TypeId) (n:Nat):Option (List I×Nat) :=
 match P.underlying t with
 | some (.slice e)=>match bF P e,zeroCells P e,(P.info? e).map (·.bytes) with
   | some s,some z,some bytes=>if z.length=s∧0<s∧fy n bytes then some (e_ n z,s) else none
   | _,_,_=>none
 | _=>none
def k8:List I→Int→Option Int
 | [],a=>some a
 | .int _ b::r,a=>k8 r (if b<a then b else a)
 | _::_,_=>none
def k7:List I→Int→Option Int
 | [],a=>some a
 | .int _ b::r,a=>k7 r (if b > a then b else a)
 | _::_,_=>none
def n':List I→Option I
 | .int k a::r=>(k8 r a).map (.int k)
 | _=>none
def n_:List I→Option I
 | .int k a::r=>(k7 r a).map (.int k)
 | _=>none
def e3 (cap:Option Nat) (n:Nat):hE:=match cap with | some c=>if c=n then .full else .shared | none=>.shared
def ea (f:I→Option I):List I→Option (List I)
 | []=>some []
 | x::xs=>match f x with
   | some y=>(ea f xs).map (y::·)
   | none=>none
def mapM (f:I→Option I):List (Nat×I×I)→Option (List (Nat×I×I))
 | []=>some []
 | (i,k,v)::xs=>match f k,f v with
   | some k',some bo=>(mapM f xs).map ((i,k',bo)::·)
   | _,_=>none
def bM (H:List ar) (lo id0 n:Nat):Nat→I→Option I
 | 0,_=>none
 | d+1,B6 =>
   match B6 with
   | .av cells len c=>(ea (bM H lo id0 n d) cells).map fun cs=>.av cs len c
   | .bS cells=>(ea (bM H lo id0 n d) cells).map .bS
   | .agg cs=>(ea (bM H lo id0 n d) cs).map .agg
   | .tuple cs=>(ea (bM H lo id0 n d) cs).map .tuple
   | .func f a b=>match ea (bM H lo id0 n d) a,ea (bM H lo id0 n d) b with
     | some a,some b=>some (.func f a b)
     | _,_=>none
   | .ptr id off=>if id<lo then some (.ptr id off) else if id=id0 then some (.ptr n off) else
     match H[id]? with
     | some (.cells l)=>(ea (bM H lo id0 n d) ((l.drop off).map I.view)).map .bS
     | _=>none
   | .ref id off len cap bb=>if id<lo then some (.ref id off len cap bb) else if id=id0 then some (.ref n off len cap bb) else
     match rowOf H (.ref id off len cap bb) with
     | some row=>(ea (bM H lo id0 n d) row).map fun cs=>.av cs len (e3 cap len)
     | none=>none
   | .yield id=>if id<lo then some (.yield id) else none
   | .map id=>if id<lo then some (.map id) else if id=id0 then some (.map n) else some .a0
   | .raw _ _ _=>none
   | .c3 _ _ _ _ _=>none
   | .cm _ _ _ _=>none
   | v=>some v
def eN (parts:List (Nat×Operand)) (vs:List I):List (Nat×I):=(parts.map (·.1)).zip vs
def dv (vs:List I) (i:Nat):Option Operand→Option I
 | none=>none
 | some _=>vs[i]?
def xD:List I→Option I
 | [.bool c,a,b]=>some (match c with | true=>a | false=>b)
 | _=>none
def oi:List I→Option I
 | [.ptr id off]=>some (.ptr id off)
 | [.bS cells]=>some (.bS cells)
 | _=>none
def gl (f:I→I→Option I):List I→Option I
 | [x,y]=>f x y
 | _=>none
def e9 (f:I→Option I):List I→Option I
 | [x]=>f x
 | _=>none
def lM (src dst:TypeId):I→Option I
 | .int _ n=>match P.underlying src,P.underlying dst with | some _,some (.int k)=>some (.int k (k.wrap n)) | _,_=>none
 | _=>none
def m0 (fn:Fn) (n m:Nat) (vs:List I):Option I :=
 match fn with
 | .func f=>if vs.length=n+m then some (.func f (vs.take n) (vs.drop n)) else none
 | _=>none
def ej (t:TypeId) (l h m:Option Operand):List I→Option I
 | x::vs =>
   let i1:=match l with | some _=>1 | none=>0
   let i2:=match h with | some _=>i1+1 | none=>i1
   match x,l,h,m with
   | .av cells len (.uniq z),none,h,none =>
     match P.underlying t with
     | some (.slice e)=>(bF P e).bind fun _=>(cN (dv vs 0 h) len len).map fun n=>.av (cells.take (n*z)) n (.uniq z)
     | _=>none
   | .av cells len (.own z),some lo,none,none =>
     match P.underlying t with
     | some (.slice e)=>(bF P e).bind fun s=>if s=z then (cN (dv vs 0 (some lo)) 0 len).map fun l=>.av (cells.drop (l*z)) (len-l) (.own z) else none
     | _=>none
   | .cm id gid len z,none,h,none =>
     match P.underlying t with
     | some (.slice e)=>(bF P e).bind fun _=>(cN (dv vs 0 h) len len).map fun n=>.cm id gid n z
     | _=>none
   | x,l,h,m=>e0 P t x.view (dv vs 0 l) (dv vs i1 h) (dv vs i2 m)
 | []=>none
def nr (i:Nat):I→Option I
 | .tuple ws=>ws[i]?
 | _=>none
def iZ:Operand→Bool
 | .const (.slice none 0 0)=>true
 | _=>false
def nq (op:BinOp) (t:TypeId) (x:I):Option I :=
 match P.underlying t with
 | some (.slice _) =>
   match x with
   | .av _ (_+1) _ | .ref ..=>match op with
     | .eql=>some (.bool false)
     | .neq=>some (.bool true)
     | _=>none
   | .av [] 0 _=>match op with
     | .eql | .neq=>some .dA
     | _=>none
   | _=>none
 | _=>none
def cB (o:Oper) (vs:List I):Option I :=
 match o.op with
 | .pick _ _ _=>xD vs
 | .build t parts=>lL P t (eN parts.toList vs)
 | .buildSlice t len parts=>(iJ P t len (eN parts.toList vs)).map fun r=>.av r.1 len (.uniq r.2)
 | .nilCheck _=>oi vs
 | .binOp op t _ y _=>match iZ y with
   | true=>match vs with
     | [x,_]=>nq P op t x
     | _=>none
   | false=>gl (fo P op t) vs
 | .unOp op _ _=>e9 (kt op) vs
 | .convert src dst _=>e9 (lM P src dst) vs
 | .makeFunc fn first captured=>m0 fn first.size captured.size vs
 | .slice t _ l h m=>ej P t l h m vs
 | .fieldAddr t _ f=>e9 (fun x=>jC P t x f) vs
 | .field t _ f=>(e9 (fun x=>ns P t x f) vs).map I.view
 | .indexAddr t _ _=>gl (h4 P t) vs
 | .index t _ _=>(gl (o1 P t) vs).map I.view
 | .extract _ i=>(e9 (nr i) vs).map I.view
 | _=>none
def dF (o:Oper) (mode:Nat):Bool :=
 match o.op with
 | .move _ | .assign _ | .store _ _ _ | .box _ _ | .call _ | .slice _ _ _ _ _=>true
 | .build _ _=>match mode with | 0=>false | _=>true
 | _=>false
def yW (lo:Nat):I→Option Nat
 | .ptr id _=>if lo≤id then some id else none
 | .ref id _ _ _ _=>if lo≤id then some id else none
 | .map id=>if lo≤id then some id else none
 | _=>none
def Cp (lo:Nat):I→Option Nat
 | .tuple vs=>vs.findSome? (yW lo)
 | v=>yW lo v
def ki (H:List ar):I→I
 | .ref id off len cap bb=>match rowOf H (.ref id off len cap bb) with
   | some row=>.av row len .shared
   | none=>.ref id off len cap bb
 | v=>v
def hW (H:List ar):I→I
 | .ptr id off=>match H[id]? with
   | some (.cells l)=>.bS (((l.drop off).map I.view).map (ki H))
   | _=>.ptr id off
 | .ref id off len cap bb=>ki H (.ref id off len cap bb)
 | v=>v
def iD (H:List ar):I→I
 | .ptr id off=>hW H (.ptr id off)
 | .ref id off len cap bb=>hW H (.ref id off len cap bb)
 | .func f a b=>.func f (a.map (hW H)) (b.map (hW H))
 | v=>v
def g1:I→Bool
 | .bool _ | .int _ _ | .str _=>true
 | _=>false
def fz:I→Bool
 | .bool _ | .int _ _ | .str _=>true
 | .tuple vs=>vs.all g1
 | .av cells _ (.uniq _)=>cells.all g1
 | _=>false
def I.kn:I→I
 | .map _=>.a0
 | v=>v
def I.gw:I→I
 | .bS cs=>.bS (cs.map I.kn)
 | v=>v
def Er (lo:Nat):I→Option Nat
 | .map m=>if lo≤m then some m else none
 | _=>none
def zV (lo:Nat) (H:List ar):I→Option Nat
 | .ptr id _=>match H[id]? with
   | some (.cells l)=>l.findSome? (Er lo)
   | _=>none
 | _=>none
def Ep (lo:Nat) (H:List ar):I→Option Nat
 | .tuple vs=>vs.findSome? (zV lo H)
 | v=>zV lo H v
def DN (mode lo:Nat) (H:List ar) (v:I):Option Nat:=match mode with
 | 8=>Ep lo H v
 | _=>Cp lo v
def eQ (C:b8) (lo mode:Nat) (bY:fc) (args:List I) (H:List ar):Option (I×List ar) :=
 match mode with
 | 0=>(C bY args H H.length).bind fun r=>(bM r.2 H.length r.2.length 0 8 r.1).map fun v=>(v,H)
 | 1=>C bY args H lo
 | 3=>match bY,args.all (cr 8) with
   | .fn _,true=>(C bY (args.map I.cc) [] 0).bind fun r=>(bM r.2 0 r.2.length 0 8 r.1).map fun v=>(v.cc,H)
   | _,_=>none
 | 6=>match bY,(args.map (iD H)).all (cr 8) with
   | .fn _,true=>(C bY ((args.map (iD H)).map I.cc) [] 0).bind fun r=>(bM r.2 0 r.2.length 0 8 r.1).bind fun v=>match fz v with
     | true=>some (v.cc,H)
     | false=>none
   | _,_=>none
 | 9=>match bY,(args.map I.gw).all (cr 8) with
   | .fn _,true=>(C bY ((args.map I.gw).map I.cc) [] 0).bind fun r=>(bM r.2 0 r.2.length 0 8 r.1).map fun v=>(v.cc,H)
   | _,_=>none
 | 7=>match bY,args with
   | .fn _,[.ptr id 0]=>if lo≤id then match H[id]? with
     | some (.cells l)=>match cr 8 (.bS (l.map I.view)) with
       | true=>(C bY [(I.bS (l.map I.view)).cc] [] 0).bind fun r=>(bM r.2 0 r.2.length 0 8 r.1).map fun v=>(v.cc,H.set id .dead)
       | false=>none
     | _=>none else none
   | _,_=>none
 | 4=>(C bY (args.map I.cc) H H.length).bind fun r=>(bM r.2 H.length r.2.length 0 8 r.1).map fun v=>(v.cc,H)
 | _=>(C bY args H H.length).bind fun r =>
   match DN mode H.length r.2 r.1 with
   | none=>(bM r.2 H.length r.2.length 0 8 r.1).map fun v=>(v,H)
   | some id0 =>
     match r.2[id0]? with
     | some (.cells l)=>if H.length≤id0 then
       match ea (bM r.2 H.length id0 H.length 8) l,bM r.2 H.length id0 H.length 8 r.1 with
       | some l',some v=>some (v,H++[.cells l'])
       | _,_=>none
       else none
     | some (.map es clock)=>if H.length≤id0 then
       match mapM (bM r.2 H.length id0 H.length 8) es,bM r.2 H.length id0 H.length 8 r.1 with
       | some es',some v=>some (v,H++[.map es' clock])
       | _,_=>none
       else none
     | _=>none
def ky (C:b8) (lo mode:Nat) (f:I) (args:List I) (H:List ar):Option (I×List ar) :=
 match f with
 | .func k first cap=>eQ C lo mode (.fn k) (first++args++cap) H
 | .yield l=>eQ C lo mode (.yield l) args H
 | _=>none
abbrev Out:=Option (I×List ar)
def eX (lo mode:Nat) (t:TypeId) (x:Operand) (H:List ar):List I→Out
 | [v] =>
   match mode with
   | 0=>match iZ x,P.underlying t with
     | true,some (.slice e)=>(bF P e).map fun z=>(.av [] 0 (.uniq z),H)
     | _,_=>some (v,H)
   | 1=>match v with
     | .av cells len (.uniq z)=>if len=0 then some (v,H) else some (.ref H.length 0 len none z,H++[.cells cells])
     | .av [] 0 .full=>some (v,H)
     | .ref ..=>some (v,H)
     | _=>none
   | 4=>match v with
     | .cm id gid n z=>if lo≤id then match H[id]? with
       | some (.grow l g cX)=>if g=gid∧cX=z∧n*z≤l.length∧(l.take (n*z)).all I.plain=true then some (.av (l.take (n*z)) n (.uniq z),H.set id .dead) else none
       | _=>none else none
     | _=>some (v,H)
   | _=>match v with
     | .ref id _ _ cap _=>if lo≤id then (rowOf H v).bind fun row=>(lenOf v).map fun n =>
       (.av row n (e3 cap n),H.set id .dead) else none
     | .cm id gid n z=>if lo≤id then match H[id]? with
       | some (.grow l g cX)=>if l.length=n*z then some (.av (l.map I.view) n .shared,H.set id .dead) else none
       | _=>none else none
     | _=>some (v.view,H)
 | _=>none
def du (lo mode:Nat) (t:TypeId) (H:List ar):List I→Out
 | [a] =>
   match mode with
   | 0=>(dz P H t a).map (·,H)
   | 3=>match a with
     | .bS cells=>(e6 P t cells 0).map (·,H)
     | _=>none
   | 5=>match P.underlying t,a with
     | some (.slice _),.ptr id off=>match H[id]? with
       | some (.cells l)=>match l[off]? with
         | some (.cm i g n z)=>some (.cm i g n z,H)
         | some (.av [] 0 .full)=>some (.av [] 0 .full,H)
         | _=>none
       | _=>none
     | _,_=>none
   | 6=>match a with
     | .ptr id off=>if lo≤id then match H[id]? with
       | some (.cells l)=>match l[off]? with
         | some (.ref rid o n cap z)=>if lo≤rid∧rid≠id then
           (rowOf H (.ref rid o n cap z)).bind fun row=>(dz P ((H.set rid .dead).set id (.cells (l.set off (.av row n (e3 cap n))))) t (.ptr id off)).map (·,(H.set rid .dead).set id (.cells (l.set off (.av row n (e3 cap n)))))
           else none
         | _=>none
       | _=>none else none
     | _=>none
   | 13=>match a with
     | .ptr id off=>match H[id]? with
       | some (.cells l)=>if l.length=3 then (dz P H t (.ptr id off)).map (·,H) else none
       | _=>none
     | _=>none
   | _=>match P.underlying t,a with
     | some (.slice _),.ptr id off=>if lo≤id then match H[id]? with
       | some (.cells l)=>match l[off]? with
         | some (.av c n (.own z))=>some (.av c n (.own z),H.set id (.cells (l.set off (.av c n .shared))))
         | some (.raw c n z)=>if mode=2 then (if n=0 then none else some (.ref H.length 0 n none z,H.set id (.cells (l.set off (.ref H.length 0 n none z)))++[.cells c]))
           else some (.av c n (.uniq z),H.set id (.cells (l.set off .a0)))
         | some v=>some (v.view,H)
         | _=>none
       | some (.grow l g cX)=>match l[off]? with
         | some (.av c n (.own z))=>some (.av c n (.own z),H.set id (.grow (l.set off (.av c n .shared)) g cX))
         | some (.av c n .full)=>some (.av c n .full,H)
         | _=>none
       | _=>none else none
     | _,_=>none
 | _=>none
def lO (lo:Nat) (H:List ar) (t:TypeId) (a v:I):Option (List ar) :=
 match a,v,bF P t with
 | .ptr id off,.av c n (.uniq z),some 1=>if c.all g1=true∧n≠0 then fS lo H id fun l=>if off<l.length then some (l.set off (.raw c n z)) else none else none
 | _,_,_=>none
def lN (lo:Nat) (H:List ar) (t:TypeId) (a v:I):Option (List ar) :=
 match a,v,bF P t with
 | .ptr id off,.c3 as c n z bs,some s=>if as.length+1+bs.length=s then fS lo H id fun l=>if off+s≤l.length then some (setCells off (as++.av c n (.own z)::bs) l) else none else none
 | _,_,_=>none
def gm (lo mode:Nat) (t:TypeId) (H:List ar):List I→Out
 | [a,v]=>match mode with
   | 0=>(g8 P lo H t a v).map fun H'=>(.a0,H')
   | 2=>(lN P lo H t a v).map fun H'=>(.a0,H')
   | 13=>match a with
     | .ptr id off=>match H[id]? with
       | some (.cells l)=>if l.length=3 then none else (g8 P lo H t (.ptr id off) v).map fun H'=>(.a0,H')
       | _=>none
     | _=>none
   | _=>(lO P lo H t a v).map fun H'=>(.a0,H')
 | _=>none
def gW (mode:Nat) (H:List ar):List I→Out
 | [v]=>match mode with
   | 0=>v.cells.map fun vc=>(.ptr H.length 0,H++[.cells (vc.map I.settle)])
   | _=>match v.cells with
     | some vc=>match vc.all I.plain with
       | true=>some (.bS vc,H)
       | false=>none
     | none=>none
 | _=>none
def la (mode:Nat) (t:TypeId) (H:List ar):Out :=
 match mode with
 | 0=>(zeroCells P t).map fun z=>(.ptr H.length 0,H++[.cells z])
 | _=>match zeroCells P t,P.underlying t with
   | some [.av [] 0 .full],some (.slice e)=>(bF P e).map fun s=>(.ptr H.length 0,H++[.cells [.av [] 0 (.own s)]])
   | _,_=>none
def ka (mode:Nat) (t:TypeId) (H:List ar):List I→Out
 | [.int _ n,.int _ c] =>
   if 0≤n∧n≤c then
    match mode with
    | 0=>(jv P t c.toNat).map fun r=>(.ref H.length 0 n.toNat (some c.toNat) r.2,H++[.cells r.1])
    | _=>if n=c∧0≤n then (jv P t c.toNat).map fun r=>(.av r.1 n.toNat (.uniq r.2),H) else none
   else none
 | _=>none
def k2 (t:TypeId):Bool:=match P.underlying t with
 | some (.int _)=>true
 | some (.struct fs)=>gS P fs.toList 0 && !P.stoodInHeld t
 | _=>false
def gK:I→I→Option Bool
 | .int k a,.int k' b=>if k=k' then some (a == b) else none
 | .agg xs,.agg ys=>dL xs ys
 | _,_=>none
def isKey (t:TypeId) (k:I):Bool:=match P.underlying t,k with
 | some (.int q),.int fW _=>q == fW
 | some (.struct fs),.agg cs=>cs.length == fs.size
 | _,_=>false
def fH (k:I):List (Nat×I×I)→Nat→Option (Option Nat)
 | [],_=>some none
 | (_,k',_)::r,i=>match gK k k' with
   | some true=>some (some i)
   | some false=>fH k r (i+1)
   | none=>none
def j7 (t:TypeId):Option (TypeId×TypeId):=match P.underlying t with
 | some (.map k e)=>match k2 P k with | true=>some (k,e) | false=>none
 | _=>none
def oV (t:TypeId):Option I:=((P.info? t).bind (·.zero)).bind fun v=>match v with
 | .agg cs=>match cs.toList.all (·.oneCell') with | true=>some (.agg (cs.toList.map hH)) | false=>none
 | v=>some (hH v)
def lf (t:TypeId) (r:Option Operand) (H:List ar):Out :=
 match r,P.underlying t with
 | none,some (.map _ _)=>some (.map H.length,H++[.map [] 0])
 | _,_=>none
def je (lo:Nat) (t:TypeId) (H:List ar):List I→Out
 | [.map id,k,v]=>match j7 P t with
   | some (d_,_)=>match isKey P d_ k with
     | true=>if lo≤id then match H[id]? with
       | some (.map es clock)=>match fH k es 0 with
         | some (some i)=>some (.a0,H.set id (.map (es.modify i fun e=>(e.1,k,v)) clock))
         | some none=>some (.a0,H.set id (.map (es++[(clock,k,v)]) (clock+1)))
         | none=>none
       | _=>none else none
     | false=>none
   | none=>none
 | _=>none
def iv (t:TypeId) (ok:Bool) (H:List ar):List I→Out
 | [.map id,k]=>match j7 P t with
   | some (d_,iN)=>match isKey P d_ k,H[id]? with
     | true,some (.map es _)=>match fH k es 0 with
       | some r =>
         (match r.bind fun i=>es[i]? with | some e=>some e.2.2 | none=>oV P iN).map fun v =>
          (if ok then .tuple [v,.bool r.isSome] else v,H)
       | none=>none
     | _,_=>none
   | none=>none
 | _=>none
def hR (lo:Nat) (ts:Array TypeId) (H:List ar):List I→Out
 | [.map id,k]=>match (ts[0]?).bind (j7 P) with
   | some (d_,_)=>match isKey P d_ k with
     | true=>if lo≤id then match H[id]? with
       | some (.map es clock)=>match fH k es 0 with
         | some (some i)=>some (.tuple [],H.set id (.map (es.eraseIdx i) clock))
         | some none=>some (.tuple [],H)
         | none=>none
       | _=>none else none
     | false=>none
   | none=>none
 | _=>none
def lg (t:TypeId) (H:List ar):List I→Out
 | [.map id]=>match P.underlying t,H[id]? with
   | some (.map _ _),some (.map _ clock)=>some (.ptr H.length 0,H++[.iter id clock [] clock])
   | _,_=>none
 | _=>none
def ld (H:List ar):List I→Out
 | [.ptr r 0]=>match H[r]? with
   | some (.iter m _ seen kj)=>match seen.getLast?,H[m]? with
     | some gr,some (.map es clock)=>if clock=kj then match es.find? (fun e=>e.1 == gr) with
       | some e=>some (.tuple [e.2.1,e.2.2],H)
       | none=>none else none
     | _,_=>none
   | _=>none
 | _=>none
def i_ (t:Option TypeId):Bool:=match t.bind P.underlying with | some (.slice _)=>true | _=>false
def hx (ts:Array TypeId) (H:List ar):List I→Out
 | [x]=>match x with
   | .av _ n _=>match i_ P ts[0]? with | true=>some (.int .i64 n,H) | false=>none
   | .ref _ _ n _ _=>match i_ P ts[0]? with | true=>some (.int .i64 n,H) | false=>none
   | .map id=>match (ts[0]?).bind P.underlying,H[id]? with | some (.map _ _),some (.map es _)=>some (.int .i64 es.length,H) | _,_=>none
   | _=>match (ts[0]?).bind P.underlying with | some (.array n _)=>some (.int .i64 n,H) | _=>none
 | _=>none
def j_ (ts:Array TypeId) (H:List ar):List I→Out
 | [.av _ n .full]=>match i_ P ts[0]? with | true=>some (.int .i64 n,H) | false=>none
 | [.ref _ _ _ (some n) _]=>match i_ P ts[0]? with | true=>some (.int .i64 n,H) | false=>none
 | _=>none
def j' (lo:Nat) (ts:Array TypeId) (H:List ar):List I→Out
 | [.ref id off len _ bb,x]=>match (ts[0]?).bind P.underlying with
   | some (.slice e)=>match bF P e,lenOf x,rowOf H x with
     | some s,some m,some row=>if s=bb∧row.length=m*bb then
       (fS lo H id fun l=>if off+len*bb≤l.length then some (setCells off (row.take (min m len*bb)) l) else none).map fun H'=>(.int .i64 (min m len:Nat),H') else none
     | _,_,_=>none
   | _=>none
 | _=>none
def lb (lo:Nat) (ts:Array TypeId) (H:List ar):List I→Out
 | [.ref id off len _ bb]=>match (ts[0]?).bind P.underlying with
   | some (.slice e)=>match bF P e,zeroCells P e with
     | some s,some z=>if s=bb∧z.length=s∧0<s then
       (gT lo H id fun l=>if off+len*bb≤l.length then some (setCells off (e_ len z) l) else none).map fun H'=>(.tuple [],H') else none
     | _,_=>none
   | _=>none
 | [.av [] 0 _]=>match i_ P ts[0]? with | true=>some (.tuple [],H) | false=>none
 | _=>none
def hQ (ts:Array TypeId) (H:List ar):List I→Out
 | [s,x]=>match ts.toList with
   | [t,dn]=>(fe P H t dn s x).map (·,H)
   | _=>none
 | _=>none
def iu (lo:Nat) (ts:Array TypeId) (H:List ar):List I→Out
 | [s,x]=>match ts.toList with
   | [t,dn]=>match s with
     | .av _ _ _=>match fe P H t dn s x with
       | some (.av cells n (.uniq z))=>if n=0 then none else some (.cm H.length (H.length+1) n z,H++[.grow cells (H.length+1) z,.dead])
       | _=>none
     | .cm id gid len z=>if lo≤id then match P.underlying t,H[id]? with
       | some (.slice e),some (.grow l g cX)=>match bF P e,(P.info? e).map (·.bytes),zeroCells P e,appended H x with
         | some bb,some bytes,some gx,some (m,new) =>
           if t=dn∧g=gid∧cX=z∧z=bb∧l.length=len*z∧new.length=m*bb∧0<bb∧0<m∧gx.length=bb∧fy m bytes=true∧fy (len+m) bytes=true then
            some (.cm H.length (H.length+1) (len+m) z,H.set id .dead++[.grow (l++new) (H.length+1) z,.dead])
           else none
         | _,_,_,_=>none
       | _,_=>none else none
     | _=>none
   | _=>none
 | _=>none
def jo (lo:Nat) (H:List ar):List I→List ar
 | .cm id _ len z::_=>match H[id]? with
   | some (.grow l g cX)=>match Nat.blt (len*z) l.length && Nat.ble lo id with
     | true=>H.set id (.grow (l.take (len*z)) g cX)
     | false=>H
   | _=>H
 | _=>H
def jc (lo:Nat) (ts:Array TypeId) (H:List ar) (vs:List I):Out:=iu P lo ts (jo lo H vs) vs
def ei (lo:Nat) (b:Builtin) (ts:Array TypeId) (H:List ar) (vs:List I):Out :=
 match b with
 | .append=>hQ P ts H vs
 | .len=>hx P ts H vs
 | .cap=>j_ P ts H vs
 | .copy=>j' P lo ts H vs
 | .clear=>lb P lo ts H vs
 | .delete=>hR P lo ts H vs
 | .min=>(n' vs).map (·,H)
 | .max=>(n_ vs).map (·,H)
 | _=>none
def oh (ts:Array TypeId) (H:List ar) (vs:List I):Out:=match hQ P ts H vs with
 | some (.av cells n (.uniq z),_)=>if n=0 then none else some (.ref H.length 0 n none z,H++[.cells cells])
 | _=>none
def hv (C:b8) (lo mode:Nat) (H:List ar):List I→Out
 | f::args=>ky C lo mode f args H
 | []=>none
def a3 (C:b8) (lo:Nat) (o:Oper) (mode:Nat) (vs:List I) (H:List ar):Out :=
 match o.op with
 | .move x=>eX P lo mode o.type x H vs
 | .assign x=>eX P lo mode o.type x H vs
 | .load t _=>du P lo mode t H vs
 | .store t _ _=>gm P lo mode t H vs
 | .box _ _=>gW mode H vs
 | .alloc t=>la P mode t H
 | .build t parts=>match mode with
   | 0=>(cB P o vs).map (·,H)
   | _=>(ks P t (eN parts.toList vs)).map (·,H)
 | .buildSlice t len parts=>match mode with
   | 0=>(cB P o vs).map (·,H)
   | _=>(iJ P t len (eN parts.toList vs)).map fun r=>(.av r.1 len .full,H)
 | .makeSlice t _ _=>ka P mode t H vs
 | .makeMap t r=>lf P t r H
 | .mapUpdate t _ _ _=>je P lo t H vs
 | .lookup t _ _ ok=>iv P t ok H vs
 | .range t _=>lg P t H vs
 | .entry _=>ld H vs
 | .call c=>match c.callee with
   | .builtin b=>match b with
     | .append=>match mode with
       | 0=>ei P lo b c.argTypes H vs
       | 2=>oh P c.argTypes H vs
       | _=>jc P lo c.argTypes H vs
     | _=>ei P lo b c.argTypes H vs
   | .value _=>hv C lo mode H vs
   | .invoke _ _=>none
 | _=>(cB P o vs).map (·,H)
def put (T:List I):Option Tmp→I→List I
 | some d,v=>g2 T d v
 | none,_=>T
def inPlace (o:Oper) (mode:Nat) (T:List I) (v:I):List I :=
 match mode with
 | 0=>T
 | 4=>T
 | _=>match o.op with
   | .move (.tmp t) | .assign (.tmp t)=>g2 T t v.view
   | _=>T
def execOp (C:b8) (lo:Nat) (o:Oper) (an:bZ) (s:a6):Option a6 :=
 let r:=rd s.T an.cC (opsOf o)
 let vs:=match dF o an.mode with | true=>r.1 | false=>r.1.map I.view
 (a3 P C lo o an.mode vs s.H).map fun x=>⟨put (inPlace o an.mode r.2 x.1) o.dst x.1,x.2⟩
def eB (ops:Array Oper) (o:Oper) (T:List I):Option Bool :=
 match o.guard with
 | none=>some true
 | some (j,want)=>match (ops[j]?).bind (·.dst) with
   | some d=>match df T d with
     | .bool b=>some (b == want)
     | .tuple []=>some false
     | _=>none
   | none=>none
def ee (C:b8) (lo:Nat) (ops:Array Oper):List Oper→List bZ→a6→Option a6
 | [],_,s=>some s
 | o::rest,as,s =>
   match eB ops o s.T with
   | some true=>(execOp P C lo o (as.headD {}) s).bind (ee C lo ops rest as.tail)
   | some false=>ee C lo ops rest as.tail ⟨put s.T o.dst (.tuple []),s.H⟩
   | none=>none
def iq (f:a6→Option (cQ×a6)):Nat→a6→Option (cQ×a6)
 | 0,_=>none
 | n+1,s=>match f s with
   | some (.normal,aD)=>iq f n aD
   | r=>r
def inLoop (H:List ar):Option Nat→Bool
 | none=>true
 | some l=>match H[l]? with
   | some (.loop ..)=>true
   | _=>false
def exec (A:dx) (C:b8) (fn:FuncId) (lo d:Nat) (rl:Option Nat):Code→Nat→a6→Option (cQ×a6)
 | .skip,_,s=>some (.normal,s)
 | .region id ops draw,_,s=>match kk A id draw with
   | some _=>none
   | none=>(ee P C lo ops ops.toList (A.ops.getD id []) (e5 A.im id s)).map fun aD=>(.normal,aD)
 | .seq a b,a2,s=>match exec A C fn lo d rl a a2 s with
   | some (.normal,aD)=>exec A C fn lo d rl b a2 aD
   | r=>r
 | .cond c a b,a2,s=>match az s.T c with
   | .bool true=>exec A C fn lo d rl a a2 s
   | .bool false=>exec A C fn lo d rl b a2 s
   | _=>none
 | .block id body,_,s=>match exec A C fn lo d rl body id s with
   | some (.exit bC,aD)=>if bC=id then some (.normal,aD) else some (.exit bC,aD)
   | r=>r
 | .loop body,a2,s=>iq (fun aD=>exec A C fn lo d rl body a2 (e5 A.il a2 aD)) d s
 | .exit id,_,s=>some (.exit id,s)
 | .ret,_,s=>some (.ret,s)
 | .scope body,a2,s=>exec A C fn lo d rl body a2 s
 | .label _,_,s=>some (.normal,s)
 | .rangeFunc f params assign body,_,s =>
   match inLoop s.H rl,az s.T f with
   | true,.func k first cap =>
     match C (.fn k) (first++[.yield s.H.length]++cap) (s.H++[.loop .ready none fn (s.T.map I.view) params.toList assign body A]) lo with
     | some (_,H')=>match H'[s.H.length]? with
       | some (.loop st cL _ _ _ _ _ _) =>
         if st=.busy then none else
         match cL with
         | none=>some (.normal,⟨s.T.map I.settle,H'.set s.H.length .dead⟩)
         | some .ret=>some (.ret,⟨s.T.map I.settle,H'.set s.H.length .dead⟩)
         | some (.exit id)=>some (.exit id,⟨s.T.map I.settle,H'.set s.H.length .dead⟩)
         | _=>none
       | _=>none
     | none=>none
   | _,_=>none
 | _,_,_=>none
def gX (H:List ar) (T:List I):List ResultVar→Option (List I)
 | []=>some []
 | .tmp t::r=>(gX H T r).map (df T t::·)
 | .cell a t::r=>match dz P H t (df T a),gX H T r with
   | some v,some vs=>some (v::vs)
   | _,_=>none
def jg:List I→I
 | [v]=>v
 | vs=>.tuple (vs.map I.view)
def iC:List Nat→List I→List I→Option (List I)
 | [],[],T=>some T
 | p::bq,v::vs,T=>iC bq vs (g2 T p v)
 | _,_,_=>none
def ga (A:FuncId→dx) (gu:b8):Nat→b8
 | 0,_,_,_,_=>none
 | d+1,.fn k,args,H,lo =>
   match gu (.fn k) args H lo with
   | some r=>some r
   | none =>
   match (A k).bad with
   | true=>none
   | false =>
   match P.funcs[k]? with
   | some f=>match f.body with
     | some c =>
       match exec P (A k) (ga A gu d) k lo d none c 0 ⟨args++List.replicate (f.ntmps-args.length) .a0,H⟩ with
       | some (.normal,s) | some (.ret,s)=>(gX P s.H s.T f.results.toList).map fun vs=>(jg vs,s.H)
       | _=>none
     | none=>none
   | none=>none
 | d+1,.yield l,args,H,lo =>
   if l<lo then none else
   match H[l]? with
   | some (.loop .ready _ fn T params assign body an) =>
     match iC params args T with
     | some bf =>
       match exec P an (ga A gu d) fn lo d (some l) assign 0 ⟨bf,H⟩ with
       | some (.normal,s) =>
         match s.H[l]? with
         | some (.loop .ready cL fn T params assign lS iM) =>
           match exec P an (ga A gu d) fn lo d (some l) body 0 ⟨s.T,s.H.set l (.loop .busy cL fn T params assign lS iM)⟩ with
           | some (e,s2) =>
             match s2.H[l]? with
             | some (.loop .busy _ fn T params assign lS iM) =>
               match e with
               | .normal=>some (.bool true,s2.H.set l (.loop .ready none fn T params assign lS iM))
               | .ret=>some (.bool false,s2.H.set l (.loop .done (some .ret) fn T params assign lS iM))
               | .exit id=>some (.bool false,s2.H.set l (.loop .done (some (.exit id)) fn T params assign lS iM))
             | _=>none
           | none=>none
         | _=>none
       | _=>none
     | none=>none
   | _=>none
end
end
end Go.Proofs.Ytkoioidpbbbaiaa.Ab


namespace Go.Proofs.Ytkoioidpbbbaiaa.Ab
open Go
inductive aH where
 | slot (i:Nat)
 | arg (i:Nat)
 | res
 | obj (id:Nat)
 | cell (id j:Nat)
 | mark
 deriving DecidableEq
inductive Rel (J:List Nat) (S:Nat→Nat→Prop) (w:World):I→Value→Prop
 | a0 (v:Value):Rel J S w .a0 v
 | bool (b:Bool):Rel J S w (.bool b) (.bool b)
 | dA (b:Bool):Rel J S w .dA (.bool b)
 | int (k:IntKind) (n:Int):Rel J S w (.int k n) (.int k n)
 | str (s:ByteArray):Rel J S w (.str s) (.string s)
 | eI:Rel J S w .eI (.pointer none)
 | ptr (id off b:Nat) (h:J[id]?=some b):Rel J S w (.ptr id off) (.pointer (some ⟨b,off,none⟩))
 | bS (cells:List I) (b o:Nat) (f:Nat→Value)
   (h:∀ (j:Nat) (u:I),cells[j]?=some u→S b (o+j)∧w.cell? ⟨b,o+j,none⟩=some (f j)∧u.plain=true∧(f j).oneCell'=true)
   (ai:∀ (j:Nat) (u:I),cells[j]?=some u→Rel J S w u (f j)):Rel J S w (.bS cells) (.pointer (some ⟨b,o,none⟩))
 | b3 (c:hE) (a:Option Addr):Rel J S w (.av [] 0 c) (.slice a 0 0)
 | av (cells:List I) (len:Nat) (c:hE) (b o cap:Nat) (f:Nat→Value)
   (ak:c=.full→cap=len) (hle:len≤cap) (hu:∀ z,c≠.uniq z)
   (h:∀ (j:Nat) (u:I),cells[j]?=some u→S b (o+j)∧w.cell? ⟨b,o+j,none⟩=some (f j)∧u.plain=true∧(f j).oneCell'=true)
   (ai:∀ (j:Nat) (u:I),cells[j]?=some u→Rel J S w u (f j)):Rel J S w (.av cells len c) (.slice (some ⟨b,o,none⟩) len cap)
 | cP (cells:List I) (len z b o cap:Nat):Rel J S w (.av cells len (.uniq z)) (.slice (some ⟨b,o,none⟩) len cap)
 | raw (cells:List I) (len z b o cap:Nat):Rel J S w (.raw cells len z) (.slice (some ⟨b,o,none⟩) len cap)
 | ref (id off len:Nat) (c:Option Nat) (bb b cap:Nat) (h:J[id]?=some b) (ak:∀ n,c=some n→cap=n) (hle:len≤cap) :
   Rel J S w (.ref id off len c bb) (.slice (some ⟨b,off,none⟩) len cap)
 | cm (id gid len z b cap:Nat) (h:J[id]?=some b) (aO:J[gid]?=some cap) (hle:len≤cap):Rel J S w (.cm id gid len z) (.slice (some ⟨b,0,none⟩) len cap)
 | func (f:FuncId) (as bs:List I) (vs ws:Array Value) (ab:vs.size=as.length) (ae:ws.size=bs.length)
   (bU:∀ u∈as,u.plain=true) (b1:∀ u∈bs,u.plain=true)
   (aS:∀ (j:Nat) (u:I) (v:Value),as[j]?=some u→vs[j]?=some v→Rel J S w u v)
   (bj:∀ (j:Nat) (u:I) (v:Value),bs[j]?=some u→ws[j]?=some v→Rel J S w u v):Rel J S w (.func f as bs) (.func (.func f) vs ws)
 | yield (id b:Nat) (h:J[id]?=some b):Rel J S w (.yield id) (.func (.yield b) #[] #[])
 | map (id b:Nat) (h:J[id]?=some b):Rel J S w (.map id) (.map (some b))
 | agg (as:List I) (vs:Array Value) (h:vs.size=as.length) (p:∀ u∈as,u.plain=true) (one:∀ v∈vs.toList,v.oneCell'=true)
   (r:∀ (j:Nat) (u:I) (v:Value),as[j]?=some u→vs[j]?=some v→Rel J S w u v):Rel J S w (.agg as) (.agg vs)
 | tuple (as:List I) (vs:Array Value) (h:vs.size=as.length) (p:∀ u∈as,u.plain=true)
   (r:∀ (j:Nat) (u:I) (v:Value),as[j]?=some u→vs[j]?=some v→Rel J S w u v):Rel J S w (.tuple as) (.tuple vs)
 | c3 (as c:List I) (n z:Nat) (bs:List I) (vs:Array Value) (h:vs.size=as.length+1+bs.length) (lp:∀ u∈as,u.plain=true) (lq:∀ u∈bs,u.plain=true) (one:∀ v∈vs.toList,v.oneCell'=true)
   (oq:∀ (j:Nat) (u:I) (v:Value),as[j]?=some u→vs[j]?=some v→Rel J S w u v)
   (ro:∀ v,vs[as.length]?=some v→Rel J S w (.av c n (.own z)) v)
   (ot:∀ (j:Nat) (u:I) (v:Value),bs[j]?=some u→vs[as.length+1+j]?=some v→Rel J S w u v):Rel J S w (.c3 as c n z bs) (.agg vs)
def gD (aa:Nat→Option aH) (S:Nat→Nat→Prop) (w:World) (l:aH) (cells:List I) (len z:Nat):Value→Prop
 | .slice (some a) _ cap=>(len=0∧cap=0∧cells=[]) ∨
   (aa a.block=some l∧True∧a.spot=none∧len≤cap∧cap≤maxLen∧0<z∧cells.length=len*z ∧
    (∃ cur e,w.heap[a.block]?=some (.cells cur e (0,0))∧cur.size=a.off+cap*z)∧∀ o,a.off+cells.length≤o→¬ S a.block o)
 | _=>True
def aU (aa:Nat→Option aH) (J:List Nat) (S:Nat→Nat→Prop) (w:World) (l:aH):I→Value→Prop
 | .av cells len (.own z),.slice (some a) _ cap=>(len=0∧cap=0∧cells=[]) ∨
   (aa a.block=some l∧True∧a.spot=none∧len≤cap∧cap≤maxLen∧0<z∧cells.length=len*z ∧
    (∃ cur e,w.heap[a.block]?=some (.cells cur e (0,0))∧cur.size=a.off+cap*z)∧∀ o,a.off+cells.length≤o→¬ S a.block o)
 | .av cells len (.uniq z),.slice (some a) _ cap=>(len=0∧cap=0∧cells=[]) ∨
   (aa a.block=some l∧a.off=0∧len≤cap∧cap≤maxLen∧0<z∧cells.length=len*z ∧
    (∃ cur e,w.heap[a.block]?=some (.cells cur e (0,0))∧cur.size=cap*z ∧
     ∀ (j:Nat) (u:I) (v:Value),cells[j]?=some u→cur[j]?=some v→u.plain=true∧v.oneCell'=true∧Rel J S w u v)∧∀ o,¬ S a.block o)
 | .raw cells len z,.slice (some a) _ cap =>
   aa a.block=some l∧a.off=0∧len≤cap∧cap≤maxLen∧0<z∧cells.length=len*z∧cells.all g1=true ∧
     (∃ cur e,w.heap[a.block]?=some (.cells cur e (0,0))∧cur.size=cap*z ∧
      ∀ (j:Nat) (u:I) (v:Value),cells[j]?=some u→cur[j]?=some v→v.oneCell'=true∧Rel J S w u v)∧∀ o,¬ S a.block o
 | .c3 as c n z _,.agg vs=>∀ v,vs[as.length]?=some v→gD aa S w l c n z v
 | _,_=>True
theorem gD.at {aa:Nat→Option aH} {J:List Nat} {S:Nat→Nat→Prop} {w:World} {l:aH} {c:List I} {n z:Nat} {v:Value} (h:gD aa S w l c n z v):aU aa J S w l (.av c n (.own z)) v:=by
 cases v with
 | slice a len cap=>cases a with
   | some a=>exact h
   | none=>trivial
 | _=>trivial
theorem gD.of {aa:Nat→Option aH} {J:List Nat} {S:Nat→Nat→Prop} {w:World} {l:aH} {c:List I} {n z:Nat} {v:Value} (h:aU aa J S w l (.av c n (.own z)) v):gD aa S w l c n z v:=by
 cases v with
 | slice a len cap=>cases a with
   | some a=>exact h
   | none=>trivial
 | _=>trivial
structure bl (aa:Nat→Option aH) (S:Nat→Nat→Prop) (w:World) (ay:Nat→Option aH) (S':Nat→Nat→Prop) (w':World):Prop where
 os:w'.os=w.os
 tape:w'.tape=w.tape
 output:w'.output=w.output
 size:w.heap.size≤w'.heap.size
 cE:∀ b,b<w.heap.size→aa b=none→w'.heap[b]?=w.heap[b]?
 set:∀ b o,S b o→S' b o∧w'.cell? ⟨b,o,none⟩=w.cell? ⟨b,o,none⟩
 fresh:∀ b o,S' b o→S b o∨aa b≠none∨w.heap.size≤b
 own:∀ b,ay b≠none→aa b≠none∨w.heap.size≤b
theorem bl.refl (aa:Nat→Option aH) (S:Nat→Nat→Prop) (w:World):bl aa S w aa S w :=
 ⟨rfl,rfl,rfl,sc _,fun _ _ _=>rfl,fun _ _ h=>⟨h,rfl⟩,fun _ _ h=>.inl h,fun _ h=>.inl h⟩
theorem bl.trans {aa b5 bu:Nat→Option aH} {S a4 bL:Nat→Nat→Prop} {w bI bX:World} (h:bl aa S w b5 a4 bI) (k:bl b5 a4 bI bu bL bX) :
  bl aa S w bu bL bX where
 os:=k.os.trans h.os
 tape:=k.tape.trans h.tape
 output:=k.output.trans h.output
 size:=sT h.size k.size
 cE b af aI:=by
  have ab:b5 b=none:=by
   cases hw:b5 b with
   | none=>rfl
   | some l =>
     rcases h.own b (by simp [hw]) with ae | ae
     ·exact absurd aI ae
     ·omega
  rw [k.cE b (Nat.lt_of_lt_of_le af h.size) ab,h.cE b af aI]
 set b o ah:=by
  obtain ⟨ab,ae⟩:=h.set b o ah;obtain ⟨aJ,aN⟩:=k.set b o ab;exact ⟨aJ,aN.trans ae⟩
 fresh b o ah:=by
  rcases k.fresh b o ah with ab | ab | ab
  ·exact h.fresh b o ab
  ·rcases h.own b ab with ae | ae
   ·exact .inr (.inl ae)
   ·exact .inr (.inr ae)
  ·exact .inr (.inr (sT h.size ab))
 own b af:=by
  rcases k.own b af with ab | ab
  ·exact h.own b ab
  ·exact .inr (sT h.size ab)
def Ext (J bV:List Nat):Prop:=∀ (i b:Nat),J[i]?=some b→bV[i]?=some b
theorem Ext.refl (J:List Nat):Ext J J:=fun _ _ h=>h
theorem Ext.trans {a b c:List Nat} (h:Ext a b) (k:Ext b c):Ext a c:=fun i x aj=>k i x (h i x aj)
theorem Ext.append (a b:List Nat):Ext a (a++b):=fun i x aj=>by
 rw [sg (sa.1 aj).1];exact aj
theorem Rel.mono {J bV:List Nat} {S S':Nat→Nat→Prop} {w w':World} (bN:Ext J bV)
  (cp:∀ b o,S b o→S' b o∧w'.cell? ⟨b,o,none⟩=w.cell? ⟨b,o,none⟩) {u:I} {v:Value} (h:Rel J S w u v):Rel bV S' w' u v:=by
 induction h with
 | a0 v=>exact .a0 v
 | bool b=>exact .bool b
 | dA b=>exact .dA b
 | int k n=>exact .int k n
 | str s=>exact .str s
 | eI=>exact .eI
 | ptr id off b h=>exact .ptr id off b (bN _ _ h)
 | bS cells b o f h ai a8 =>
   exact .bS cells b o f (fun j u aw=>let ⟨ab,ae,aF⟩:=h j u aw;⟨(cp _ _ ab).1,(cp _ _ ab).2.trans ae,aF⟩) a8
 | b3 c a=>exact .b3 c a
 | av cells len c b o cap f ak hle hu h ai a8 =>
   exact .av cells len c b o cap f ak hle hu (fun j u aw=>let ⟨ab,ae,aF⟩:=h j u aw;⟨(cp _ _ ab).1,(cp _ _ ab).2.trans ae,aF⟩) a8
 | cP cells len z b o cap=>exact .cP cells len z b o cap
 | raw cells len z b o cap=>exact .raw cells len z b o cap
 | ref id off len c bb b cap h ak hle=>exact .ref id off len c bb b cap (bN _ _ h) ak hle
 | cm id gid len z b cap h aO hle=>exact .cm id gid len z b cap (bN _ _ h) (bN _ _ aO) hle
 | func f as bs vs ws ab ae bU b1 aS bj i1 i2=>exact .func f as bs vs ws ab ae bU b1 i1 i2
 | yield id b h=>exact .yield id b (bN _ _ h)
 | map id b h=>exact .map id b (bN _ _ h)
 | agg as vs h p one r a8=>exact .agg as vs h p one a8
 | tuple as vs h p r a8=>exact .tuple as vs h p a8
 | c3 as c n z bs vs h lp lq one oq ro ot kZ io xk=>exact .c3 as c n z bs vs h lp lq one kZ io xk
theorem gD.mono {aa ay:Nat→Option aH} {S S':Nat→Nat→Prop} {w w':World} {l l':aH}
  (fj:∀ b,aa b=some l→ay b=some l'∧w'.heap[b]?=w.heap[b]?∧∀ o,S' b o→S b o) {c:List I} {n z:Nat} {v:Value} (h:gD aa S w l c n z v):gD ay S' w' l' c n z v:=by
 unfold gD at h ⊢;split at h
 ·rcases h with h | ⟨ab,ae,aF,a_,bP,bQ,cO,⟨cur,e,cR,cn⟩,dp⟩
  ·exact .inl h
  ·obtain ⟨aJ,aN,cb⟩:=fj _ ab;exact .inr ⟨aJ,ae,aF,a_,bP,bQ,cO,⟨cur,e,aN.trans cR,cn⟩,fun o aq ah=>dp o aq (cb o ah)⟩
 ·trivial
theorem aU.mono {aa ay:Nat→Option aH} {J bV:List Nat} {S S':Nat→Nat→Prop} {w w':World} {l l':aH} (bN:Ext J bV)
  (cp:∀ b o,S b o→S' b o∧w'.cell? ⟨b,o,none⟩=w.cell? ⟨b,o,none⟩)
  (fj:∀ b,aa b=some l→ay b=some l'∧w'.heap[b]?=w.heap[b]?∧∀ o,S' b o→S b o) {u:I} {v:Value} (h:aU aa J S w l u v) :
  aU ay bV S' w' l' u v:=by
 unfold aU at h ⊢;split at h
 ·rcases h with h | ⟨ab,ae,aF,a_,bP,bQ,cO,⟨cur,e,cR,cn⟩,dp⟩
  ·exact .inl h
  ·obtain ⟨aJ,aN,cb⟩:=fj _ ab;exact .inr ⟨aJ,ae,aF,a_,bP,bQ,cO,⟨cur,e,aN.trans cR,cn⟩,fun o aq ah=>dp o aq (cb o ah)⟩
 ·rcases h with h | ⟨ab,aQ,a_,bP,bQ,cO,⟨cur,e,cR,cn,dp⟩,fp⟩
  ·exact .inl h
  ·obtain ⟨aJ,aN,cb⟩:=fj _ ab;exact .inr ⟨aJ,aQ,a_,bP,bQ,cO,⟨cur,e,aN.trans cR,cn,fun j u v hu ad=>⟨(dp j u v hu ad).1,(dp j u v hu ad).2.1,((dp j u v hu ad).2.2).mono bN cp⟩⟩,fun o ah=>fp o (cb o ah)⟩
 ·obtain ⟨ab,aQ,a_,bP,bQ,cO,ah,⟨cur,e,cR,cn,dp⟩,fp⟩:=h;obtain ⟨aJ,aN,cb⟩:=fj _ ab;exact ⟨aJ,aQ,a_,bP,bQ,cO,ah,⟨cur,e,aN.trans cR,cn,fun j u v hu ad=>⟨(dp j u v hu ad).1,((dp j u v hu ad).2).mono bN cp⟩⟩,fun o ah=>fp o (cb o ah)⟩
 ·exact fun v ad=>(h v ad).mono fj
 ·trivial
theorem aU.b4 {aa:Nat→Option aH} {J:List Nat} {S:Nat→Nat→Prop} {w:World} {l:aH} {u:I} {v:Value} (h:u.plain=true):aU aa J S w l u v:=by
 unfold aU;split <;> first | trivial | simp [I.plain] at h
def gC (aa:Nat→Option aH) (J:List Nat) (S:Nat→Nat→Prop) (w:World) (id:Nat):ar→Prop
 | .dead=>True
 | .cells l=>∃ b cur e,J[id]?=some b∧aa b=some (.obj id)∧w.heap[b]?=some (.cells cur e (0,0))∧l.length≤cur.size∧(∀ o,¬ S b o) ∧
   ∀ (j:Nat) (u:I) (v:Value),l[j]?=some u→cur[j]?=some v→u.cW=true∧v.oneCell'=true∧Rel J S w u v∧aU aa J S w (.cell id j) u v
 | .loop st cL fn T params assign body jD=>codeOk jD assign=true∧codeOk jD body=true∧∃ b L,J[id]?=some b∧aa b=some (.obj id)∧w.heap[b]?=some (.loop L)∧L.state=st∧L.pending=cL∧True ∧
   L.tmps.size=T.length∧(∀ (i:Nat) (u:I) (v:Value),T[i]?=some u→L.tmps[i]?=some v→u.plain=true∧Rel J S w u v)∧L.params.toList=params∧L.assign=assign∧L.body=body
 | .map es clock=>∃ b bB,J[id]?=some b∧aa b=some (.obj id)∧w.heap[b]?=some (.map bB clock)∧bB.size=es.length∧(∀ o,¬ S b o) ∧
   ∀ (j i:Nat) (k v:I) (x:MapEntry),es[j]?=some (i,k,v)→bB[j]?=some x→x.born=i∧k.plain=true∧Rel J S w k x.key∧v.plain=true∧Rel J S w v x.val
 | .grow l gid z=>∃ b cur e,J[id]?=some b∧aa b=some (.obj id)∧w.heap[b]?=some (.cells cur e (0,0))∧l.length≤cur.size∧(∀ o,¬ S b o) ∧
   (∀ (j:Nat) (u:I) (v:Value),l[j]?=some u→cur[j]?=some v→u.cW=true∧v.oneCell'=true∧Rel J S w u v∧aU aa J S w (.cell id j) u v) ∧
   ∃ cap,J[gid]?=some cap∧cap≤maxLen∧0<z∧cur.size=cap*z
 | .iter m since seen kj=>∃ b ec,J[id]?=some b∧aa b=some (.obj id)∧J[m]?=some ec∧w.heap[b]?=some (.mapIter (some ec) since seen.toArray kj)∧(∀ o,¬ S b o)
structure aK (B:Nat) (aa:Nat→Option aH) (J:List Nat) (S:Nat→Nat→Prop) (w:World) (H:List ar):Prop where
 cK:J.length=H.length
 obj:∀ (id:Nat) (o:ar),H[id]?=some o→gC aa J S w id o
 cd:∀ b o,S b o→∃ v,w.cell? ⟨b,o,none⟩=some v
 base:∀ b l,aa b=some l→B≤b∧b<w.heap.size
 c0:B≤w.heap.size
structure a5 (bA:Nat→aH) (aa:Nat→Option aH) (J:List Nat) (S:Nat→Nat→Prop) (w:World) (T:List I) (bc:List Value):Prop where
 len:T.length=bc.length
 rel:∀ (i:Nat) (u:I) (v:Value),T[i]?=some u→bc[i]?=some v→Rel J S w u v
 own:∀ (i:Nat) (u:I) (v:Value),T[i]?=some u→bc[i]?=some v→aU aa J S w (bA i) u v
theorem A7 {J bV:List Nat} {S S':Nat→Nat→Prop} {w w':World} {u:I} {v:Value} (h:g1 u=true) (ai:Rel J S w u v):Rel bV S' w' u v:=by
 cases ai <;> simp [g1] at h <;> constructor
theorem Fw {u:I} (h:g1 u=true):u.plain=true:=by
 cases u <;> simp [g1] at h <;> rfl
theorem ET {aa:Nat→Option aH} {J:List Nat} {S:Nat→Nat→Prop} {w:World} {l:aH} {c:List I} {n z:Nat} {v:Value} (ai:Rel J S w (.raw c n z) v) (aq:aU aa J S w l (.raw c n z) v) :
  Rel J S w (.av c n (.uniq z)) v∧aU aa J S w l (.av c n (.uniq z)) v:=by
 cases ai with
 | raw _ _ _ b o cap =>
   obtain ⟨ab,aQ,a_,bP,bQ,cO,ah,⟨cur,e,cR,cn,dp⟩,fp⟩:=aq;rw [sq] at ah;exact ⟨.cP _ _ _ _ _ _,.inr ⟨ab,aQ,a_,bP,bQ,cO,⟨cur,e,cR,cn,fun j u v hu ad=>⟨Fw (ah u (sv hu)),dp j u v hu ad⟩⟩,fp⟩⟩
theorem Gn {aa:Nat→Option aH} {J:List Nat} {S:Nat→Nat→Prop} {w:World} {l:aH} {c:List I} {n z:Nat} {v:Value} (aI:n≠0) (ah:c.all g1=true) (ai:Rel J S w (.av c n (.uniq z)) v) (aq:aU aa J S w l (.av c n (.uniq z)) v) :
  Rel J S w (.raw c n z) v∧aU aa J S w l (.raw c n z) v:=by
 cases ai with
 | b3 _ a=>exact absurd rfl aI
 | av _ _ _ b o cap f ak hle hu h ai=>exact absurd rfl (hu z)
 | cP _ _ _ b o cap =>
   rcases aq with ⟨h,_,_⟩ | ⟨ab,aQ,a_,bP,bQ,cO,⟨cur,e,cR,cn,dp⟩,fp⟩
   ·exact absurd h aI
   ·exact ⟨.raw _ _ _ _ _ _,ab,aQ,a_,bP,bQ,cO,ah,⟨cur,e,cR,cn,fun j u v hu ad=>(dp j u v hu ad).2⟩,fp⟩
theorem mR {w:World} {b o:Nat} {v:Value} (h:w.cell? ⟨b,o,none⟩=some v):b<w.heap.size:=World.block_lt_of_cell? w ⟨b,o,none⟩ h
end Go.Proofs.Ytkoioidpbbbaiaa.Ab


namespace Go.Proofs.Ytkoioidpbbbaiaa.Ab
open Go
structure eC (aa:Nat→Option aH) (S:Nat→Nat→Prop) (ay:Nat→Option aH) (S':Nat→Nat→Prop):Prop where
 set:∀ b o,S b o→S' b o
 fresh:∀ b o,S' b o→S b o∨∃ i,aa b=some (.slot i)
 cE:∀ b l,aa b=some l→(∀ i,l≠.slot i)→ay b=some l
 none:∀ b,aa b=none→ay b=none
 slot:∀ b i,ay b=some (.slot i)→aa b=some (.slot i)
theorem eC.refl (aa:Nat→Option aH) (S:Nat→Nat→Prop):eC aa S aa S :=
 ⟨fun _ _ h=>h,fun _ _ h=>.inl h,fun _ _ h _=>h,fun _ h=>h,fun _ _ h=>h⟩
theorem eC.trans {aa b5 bu:Nat→Option aH} {S a4 bL:Nat→Nat→Prop} (h:eC aa S b5 a4) (k:eC b5 a4 bu bL):eC aa S bu bL where
 set b o ah:=k.set b o (h.set b o ah)
 fresh b o ah:=by
  rcases k.fresh b o ah with ab | ⟨i,ab⟩
  ·exact h.fresh b o ab
  ·exact .inr ⟨i,h.slot b i ab⟩
 cE b l ao aI:=k.cE b l (h.cE b l ao aI) aI
 none b af:=k.none b (h.none b af)
 slot b i af:=h.slot b i (k.slot b i af)
theorem eC.az {aa ay:Nat→Option aH} {S S':Nat→Nat→Prop} (h:eC aa S ay S') (w:World):bl aa S w ay S' w where
 os:=rfl
 tape:=rfl
 output:=rfl
 size:=sc _
 cE _ _ _:=rfl
 set b o ah:=⟨h.set b o ah,rfl⟩
 fresh b o ah:=by
  rcases h.fresh b o ah with ab | ⟨i,ab⟩
  ·exact .inl ab
  ·exact .inr (.inl (by simp [ab]))
 own b af:=by
  refine .inl fun aQ=>af (h.none b aQ)
theorem aU.gs {aa ay:Nat→Option aH} {S S':Nat→Nat→Prop} (g:eC aa S ay S') {J:List Nat} {w:World} {l:aH} (ao:∀ i,l≠.slot i) {u:I} {v:Value}
  (h:aU aa J S w l u v):aU ay J S' w l u v:=by
 refine h.mono (Ext.refl J) (fun b o ah=>⟨g.set b o ah,rfl⟩) fun b af=>⟨g.cE b l af ao,rfl,fun o ah=>?_⟩;rcases g.fresh b o ah with ab | ⟨i,ab⟩
 ·exact ab
 ·rw [af] at ab;cases ab;exact absurd rfl (ao i)
theorem Rel.gs {aa ay:Nat→Option aH} {S S':Nat→Nat→Prop} (g:eC aa S ay S') {J:List Nat} {w:World} {u:I} {v:Value} (h:Rel J S w u v):Rel J S' w u v :=
 h.mono (Ext.refl J) fun b o ah=>⟨g.set b o ah,rfl⟩
theorem gC.gs {aa ay:Nat→Option aH} {S S':Nat→Nat→Prop} (g:eC aa S ay S') {J:List Nat} {w:World} {id:Nat} {o:ar} (h:gC aa J S w id o):gC ay J S' w id o:=by
 have cp:∀ b bC,aa b=some (.obj bC)→∀ o,S' b o→S b o:=fun b bC af o ah=>by
  rcases g.fresh b o ah with ab | ⟨i,ab⟩
  ·exact ab
  ·rw [af] at ab;cases ab
 cases o with
 | dead=>trivial
 | cells l =>
   obtain ⟨b,cur,e,ab,ae,aF,a_,bP,bQ⟩:=h
   exact ⟨b,cur,e,ab,g.cE b _ ae (by simp),aF,a_,fun o ah=>bP o (cp b id ae o ah),fun j u v hu ad =>
    let ⟨aA,h3,aG,aT⟩:=bQ j u v hu ad;⟨aA,h3,aG.gs g,aT.gs g (by simp)⟩⟩
 | grow l gid z =>
   obtain ⟨b,cur,e,ab,ae,aF,a_,bP,bQ,cO⟩:=h
   exact ⟨b,cur,e,ab,g.cE b _ ae (by simp),aF,a_,fun o ah=>bP o (cp b id ae o ah),fun j u v hu ad =>
    let ⟨aA,h3,aG,aT⟩:=bQ j u v hu ad;⟨aA,h3,aG.gs g,aT.gs g (by simp)⟩,cO⟩
 | loop st cL fn T params assign body jD =>
   obtain ⟨aj,aY,b,L,ab,ae,aF,a_,bP,bQ,cO,cR,cn⟩:=h;exact ⟨aj,aY,b,L,ab,g.cE b _ ae (by simp),aF,a_,bP,bQ,cO,fun i u v hu ad=>⟨(cR i u v hu ad).1,(cR i u v hu ad).2.gs g⟩,cn⟩
 | map es clock =>
   obtain ⟨b,bB,ab,ae,aF,a_,bP,bQ⟩:=h
   exact ⟨b,bB,ab,g.cE b _ ae (by simp),aF,a_,fun o ah=>bP o (cp b id ae o ah),fun j i k v x hu ad =>
    let ⟨aA,aG,aT,br,bg⟩:=bQ j i k v x hu ad;⟨aA,aG,aT.gs g,br,bg.gs g⟩⟩
 | iter m s e t =>
   obtain ⟨b,ec,ab,ae,aF,a_,bP⟩:=h;exact ⟨b,ec,ab,g.cE b _ ae (by simp),aF,a_,fun o ah=>bP o (cp b id ae o ah)⟩
theorem aK.gs {B:Nat} {aa ay:Nat→Option aH} {S S':Nat→Nat→Prop} (g:eC aa S ay S') {J:List Nat} {w:World} {H:List ar} (h:aK B aa J S w H)
  (hw:∀ b o,S' b o→∃ v,w.cell? ⟨b,o,none⟩=some v):aK B ay J S' w H where
 cK:=h.cK
 obj id o aq:=(h.obj id o aq).gs g
 cd:=hw
 base b l ao:=by
  cases af:aa b with
  | none=>rw [g.none b af] at ao;cases ao
  | some l'=>exact h.base b l' af
 c0:=h.c0
theorem lP (J:List Nat) (S:Nat→Nat→Prop) (w:World) (v:Value):Rel J S w (hH v) v:=by
 unfold hH;split
 ·exact .bool _
 ·exact .int _ _
 ·exact .eI
 ·exact .str _
 ·exact .b3 _ _
 ·exact .a0 _
theorem nt (v:Value):(hH v).plain=true:=by
 unfold hH;split <;> rfl
theorem I.dm (u:I):u.view.plain=true:=by
 cases u with
 | av c n k=>cases k <;> rfl
 | _=>rfl
theorem I.fx {u:I} (h:u.plain=true):u.cW=true:=by
 unfold I.plain at h;unfold I.cW;split at h <;> simp_all
theorem I.kq {u:I} (h:u.plain=true):u.view=u:=by
 unfold I.view;split <;> simp_all [I.plain]
theorem Rel.view {J:List Nat} {S:Nat→Nat→Prop} {w:World} {u:I} {v:Value} (h:Rel J S w u v) (aI:u.cW=true):Rel J S w u.view v:=by
 cases h with
 | b3 c a=>cases c <;> simp [I.view] <;> exact .b3 _ _
 | av cells len c b o cap f ak hle hu h ai =>
   cases c with
   | shared=>exact .av cells len .shared b o cap f ak hle hu h ai
   | full=>exact .av cells len .full b o cap f ak hle hu h ai
   | own z=>exact .av cells len .shared b o cap f (by simp) hle (by simp) h ai
   | uniq z=>exact absurd rfl (hu z)
 | cP=>simp [I.cW] at aI
 | raw=>exact .a0 _
 | c3=>exact .a0 _
 | cm id gid len z b cap h aO hle=>exact .ref id 0 len none z b cap h (by simp) hle
 | a0 v=>exact .a0 v
 | bool b=>exact .bool b
 | dA b=>exact .dA b
 | int k n=>exact .int k n
 | str s=>exact .str s
 | eI=>exact .eI
 | ptr id off b h=>exact .ptr id off b h
 | bS cells b o f h ai=>exact .bS cells b o f h ai
 | ref id off len c bb b cap h ak hle=>exact .ref id off len c bb b cap h ak hle
 | func f as bs vs ws ab ae bU b1 aS bj=>exact .func f as bs vs ws ab ae bU b1 aS bj
 | yield id b h=>exact .yield id b h
 | map id b h=>exact .map id b h
 | agg as vs h p one r=>exact .agg as vs h p one r
 | tuple as vs h p r=>exact .tuple as vs h p r
section
variable {B:Nat} {J:List Nat} {w:World} {H:List ar}
theorem a5.gs {bA:Nat→aH} (ao:∀ i k,bA i≠.slot k) {aa ay:Nat→Option aH} {S S':Nat→Nat→Prop} (g:eC aa S ay S') {T:List I} {bc:List Value} (h:a5 bA aa J S w T bc) :
  a5 bA ay J S' w T bc :=
 ⟨h.len,fun i u v hu ad=>(h.rel i u v hu ad).gs g,fun i u v hu ad=>(h.own i u v hu ad).gs g (ao i)⟩
theorem Gh {aa:Nat→Option aH} {S:Nat→Nat→Prop} {T:List I} {bc:List Value} (l:aH) (ao:∀ i,l≠.slot i)
  (b0:a5 .slot aa J S w T bc) (ag:aK B aa J S w H) (t:Nat) :
  ∃ ay,eC aa S ay S∧a5 .slot ay J S w (T.set t .a0) bc∧aK B ay J S w H ∧
    Rel J S w (T.getD t .a0) (bc.getD t undef)∧aU ay J S w l (T.getD t .a0) (bc.getD t undef):=by
 classical
 refine ⟨fun b=>if aa b=some (.slot t) then some l else aa b,?_,?_,?_,?_,?_⟩
 ·refine ⟨fun _ _ h=>h,fun _ _ h=>.inl h,fun b l' h aI=>?_,fun b h=>?_,fun b i h=>?_⟩
  ·have:aa b≠some (.slot t):=by rw [h];intro e;cases e;exact aI t rfl
   simp only [this,if_false];exact h
  ·simp [h]
  ·split at h
   ·cases h;exact absurd rfl (ao i)
   ·exact h
 ·refine ⟨by simpa using b0.len,fun i u v hu ad=>?_,fun i u v hu ad=>?_⟩
  ·rw [tE] at hu;split at hu
   ·split at hu
    ·cases hu;exact .a0 _
    ·cases hu
   ·exact b0.rel i u v hu ad
  ·rw [tE] at hu;split at hu
   ·split at hu
    ·cases hu;exact aU.b4 rfl
    ·cases hu
   ·rename_i bJ;refine (b0.own i u v hu ad).mono (Ext.refl J) (fun b o ah=>⟨ah,rfl⟩) fun b af=>⟨?_,rfl,fun o ah=>ah⟩
    have:aa b≠some (.slot t):=by rw [af];intro e;cases e;exact bJ rfl
    simp only [this,if_false];exact af
 ·refine ag.gs ⟨fun _ _ h=>h,fun _ _ h=>.inl h,fun b l' h aI=>?_,fun b h=>?_,fun b i h=>?_⟩ ag.cd
  ·have:aa b≠some (.slot t):=by rw [h];intro e;cases e;exact aI t rfl
   simp only [this,if_false];exact h
  ·simp [h]
  ·split at h
   ·cases h;exact absurd rfl (ao i)
   ·exact h
 ·cases hu:T[t]? with
  | none=>rw [sw,hu];exact .a0 _
  | some u =>
    have aR:=(sa.1 hu).1;have ad:bc[t]?=some (bc[t]'(b0.len ▸ aR)):=si _;rw [sw,hu,sw,ad];exact b0.rel t _ _ hu ad
 ·cases hu:T[t]? with
  | none=>rw [sw,hu];exact aU.b4 rfl
  | some u =>
    have aR:=(sa.1 hu).1;have ad:bc[t]?=some (bc[t]'(b0.len ▸ aR)):=si _;rw [sw,hu,sw,ad];refine (b0.own t _ _ hu ad).mono (Ext.refl J) (fun b o ah=>⟨ah,rfl⟩) fun b af=>⟨?_,rfl,fun o ah=>ah⟩;simp [af]
theorem kh {aa:Nat→Option aH} {S:Nat→Nat→Prop} {l:aH} {cells:List I} {len z:Nat} {v:Value} (ag:aK B aa J S w H)
  (ai:Rel J S w (.av cells len (.uniq z)) v) (aq:aU aa J S w l (.av cells len (.uniq z)) v) :
  ∃ S':Nat→Nat→Prop,(∀ b o,S b o→S' b o)∧(∀ b o,S' b o→S b o∨aa b=some l)∧(∀ b o,S' b o→∃ v,w.cell? ⟨b,o,none⟩=some v) ∧
    Rel J S' w (.av cells len .shared) v∧Rel J S' w (.av cells len (.own z)) v∧aU aa J S' w l (.av cells len (.own z)) v:=by
 cases ai with
 | b3 c a=>exact ⟨S,fun _ _ h=>h,fun _ _ h=>.inl h,ag.cd,.b3 _ _,.b3 _ _,by cases a <;> first | trivial | exact .inl ⟨rfl,rfl,rfl⟩⟩
 | av cells len c b o cap f ak hle b_ h nT=>exact absurd rfl (b_ z)
 | cP cells len z b o cap =>
   rcases aq with ⟨rfl,rfl,rfl⟩ | ⟨ab,aQ,ae,aF,a_,bP,⟨cur,e,bQ,cO,cR⟩,cn⟩
   ·refine ⟨S,fun _ _ h=>h,fun _ _ h=>.inl h,ag.cd,?_,?_,.inl ⟨rfl,rfl,rfl⟩⟩
    ·exact .av [] 0 .shared b o 0 (fun _=>undef) (by simp) (sc _) (by simp) (by simp) (by simp)
    ·exact .av [] 0 (.own z) b o 0 (fun _=>undef) (by simp) (sc _) (by simp) (by simp) (by simp)
   ·simp only at aQ;subst aQ;(have jO:cells.length≤cur.size:=by rw [cO,bP];exact s_ _ ae);have bz:∀ j,w.cell? ⟨b,j,none⟩=cur[j]?:=fun j=>by
     unfold World.cell?;simp only at bQ;rw [bQ];simp
    have aO:∀ au o,S au o→(S au o∨(au=b∧o<cells.length)):=fun _ _ h=>.inl h;have nR:∀ {u:I} {v:Value},Rel J S w u v→Rel J (fun au o=>S au o∨(au=b∧o<cells.length)) w u v:=fun h=>h.mono (Ext.refl J) fun b o ah=>⟨aO b o ah,rfl⟩;have yF:∀ (j:Nat) (u:I),cells[j]?=some u→(S b (0+j)∨(b=b∧0+j<cells.length))∧w.cell? ⟨b,0+j,none⟩=some (cur.getD j undef)∧u.plain=true∧(cur.getD j undef).oneCell'=true:=by
     intro j u aw;have mq:=(sa.1 aw).1;have c8:cur[j]?=some (cur[j]'(by omega)):=sr _;refine ⟨.inr ⟨rfl,by omega⟩,?_,(cR j u _ aw c8).1,?_⟩
     ·rw [sB,bz,c8];simp [Array.getD,show j<cur.size by omega]
     ·have:=(cR j u _ aw c8).2.1;simpa [Array.getD,show j<cur.size by omega] using this
    have As:∀ (j:Nat) (u:I),cells[j]?=some u→Rel J (fun au o=>S au o∨(au=b∧o<cells.length)) w u (cur.getD j undef):=by
     intro j u aw;have mq:=(sa.1 aw).1;have c8:cur[j]?=some (cur[j]'(by omega)):=sr _;have:=nR (cR j u _ aw c8).2.2;simpa [Array.getD,show j<cur.size by omega] using this
    refine ⟨fun au o=>S au o∨(au=b∧o<cells.length),aO,?_,?_,?_,?_,?_⟩
    ·rintro au o (h | ⟨rfl,h⟩)
     ·exact .inl h
     ·exact .inr ab
    ·rintro au o (h | ⟨rfl,h⟩)
     ·exact ag.cd au o h
     ·exact ⟨cur[o]'(by omega),by rw [bz];exact sr _⟩
    ·exact .av cells len .shared b 0 cap (fun j=>cur.getD j undef) (by simp) ae (by simp) yF As
    ·exact .av cells len (.own z) b 0 cap (fun j=>cur.getD j undef) (by simp) ae (by simp) yF As
    ·refine .inr ⟨ab,trivial,rfl,ae,aF,a_,bP,⟨cur,e,bQ,by simpa using cO⟩,fun o aq ah=>?_⟩;simp only [sB] at aq;rcases ah with ah | ⟨_,ah⟩
     ·exact cn o ah
     ·omega
theorem FB {aa:Nat→Option aH} {S:Nat→Nat→Prop} {T:List I} {bc:List Value}
  (b0:a5 .slot aa J S w T bc) (ag:aK B aa J S w H) (t:Nat) (cells:List I) (len z:Nat) (hu:T[t]?=some (.av cells len (.uniq z))) :
  ∃ S',eC aa S aa S'∧a5 .slot aa J S' w (T.set t (.av cells len (.own z))) bc∧aK B aa J S' w H ∧
    Rel J S' w (.av cells len .shared) (bc.getD t undef):=by
 have aR:=(sa.1 hu).1;have ad:bc[t]?=some (bc[t]'(b0.len ▸ aR)):=si _;have ai:=b0.rel t _ _ hu ad;have aq:=b0.own t _ _ hu ad;rw [sw,ad];simp only [uq];generalize bc[t]'(b0.len ▸ aR)=v at ad ai aq;obtain ⟨S',aJ,aN,hw,aS,bj,eK⟩:=kh ag ai aq;have aO:eC aa S aa S':=⟨aJ,fun b o h=>(aN b o h).imp id fun h=>⟨t,h⟩,fun _ _ h _=>h,fun _ h=>h,fun _ _ h=>h⟩;have DH:∀ b i,i≠t→aa b=some (.slot i)→∀ o,S' b o→S b o:=fun b i hi af o ah=>by
  rcases aN b o ah with h | h
  ·exact h
  ·rw [af] at h;cases h;exact absurd rfl hi
 refine ⟨S',aO,⟨by simpa using b0.len,fun i bH bo b_ bh=>?_,fun i bH bo b_ bh=>?_⟩,ag.gs aO hw,aS⟩
 ·rw [tE] at b_;split at b_
  ·rename_i heq;subst heq;cases b_;rw [ad] at bh;cases bh;exact bj
  ·exact (b0.rel i _ _ b_ bh).gs aO
 ·rw [tE] at b_;split at b_
  ·rename_i heq;subst heq;cases b_;rw [ad] at bh;cases bh;exact eK
  ·rename_i bJ;exact (b0.own i _ _ b_ bh).mono (Ext.refl J) (fun b o ah=>⟨aO.set b o ah,rfl⟩) fun b af=>⟨af,rfl,fun o ah=>DH b i (fun e=>bJ e.symm) af o ah⟩
theorem a5.cons {bA:Nat→aH} {aa:Nat→Option aH} {S:Nat→Nat→Prop} {u:I} {v:Value} {T:List I} {bc:List Value} (ab:Rel J S w u v) (ae:aU aa J S w (bA 0) u v)
  (h:a5 (fun i=>bA (i+1)) aa J S w T bc):a5 bA aa J S w (u::T) (v::bc):=by
 refine ⟨by simp [h.len],fun i bH bo hu ad=>?_,fun i bH bo hu ad=>?_⟩
 ·cases i with
  | zero=>simp at hu ad;subst hu ad;exact ab
  | succ i=>exact h.rel i bH bo (by simpa using hu) (by simpa using ad)
 ·cases i with
  | zero=>simp at hu ad;subst hu ad;exact ae
  | succ i=>exact h.own i bH bo (by simpa using hu) (by simpa using ad)
theorem a5.nil {bA:Nat→aH} {aa:Nat→Option aH} {S:Nat→Nat→Prop}:a5 bA aa J S w [] []:=⟨rfl,by simp,by simp⟩
theorem EV (a:Act):∀ (ops:List Operand) (ts:List Bool) (T:List I) (k:Nat) (aa:Nat→Option aH) (S:Nat→Nat→Prop),
  a5 .slot aa J S w T a.tmps.toList→aK B aa J S w H →
  ∃ ay S',eC aa S ay S'∧a5 .slot ay J S' w (rd T ts ops).2 a.tmps.toList∧aK B ay J S' w H∧a5 (fun i=>.arg (k+i)) ay J S' w (rd T ts ops).1 (ops.map a.eval):=by
 intro ops
 induction ops with
 | nil=>intro ts T k aa S b0 ag;exact ⟨aa,S,eC.refl _ _,by simpa [rd] using b0,ag,by simpa [rd] using a5.nil⟩
 | cons x rest a8 =>
   intro ts T k aa S b0 ag;have nC:∀ u:I,Rel J S w u (a.eval x)→u.plain=true→(rd T ts (x::rest))=(u::(rd T ts.tail rest).1,(rd T ts.tail rest).2) →
     ∃ ay S',eC aa S ay S'∧a5 .slot ay J S' w (rd T ts (x::rest)).2 a.tmps.toList∧aK B ay J S' w H ∧
       a5 (fun i=>.arg (k+i)) ay J S' w (rd T ts (x::rest)).1 ((x::rest).map a.eval):=by
    intro u hu aB he;obtain ⟨ay,S',g,mb,b9,ad⟩:=a8 ts.tail T (k+1) aa S b0 ag;rw [he];refine ⟨ay,S',g,mb,b9,?_⟩;refine a5.cons (hu.gs g) (aU.b4 aB) ?_;simpa [td,te 1] using ad
   cases x with
   | const v =>
     exact nC (hH v) (lP J S w v) (nt v) rfl
   | func f=>exact nC (.func f [] []) (.func f [] [] #[] #[] rfl rfl (by simp) (by simp) (by simp) (by simp)) rfl rfl
   | global g=>exact nC .a0 (.a0 _) rfl rfl
   | tmp t =>
     (have jR:a.eval (.tmp t)=a.tmps.toList.getD t undef:=by simp [Act.eval,su]);cases ax:ts.headD false with
     | true =>
       obtain ⟨b5,cf,kG,bW,dD,jY⟩:=Gh (.arg k) (by simp) b0 ag t;obtain ⟨ay,S',g,mb,b9,ad⟩:=a8 ts.tail (T.set t .a0) (k+1) b5 S kG bW;have he:rd T ts (.tmp t::rest)=(T.getD t .a0::(rd (T.set t .a0) ts.tail rest).1,(rd (T.set t .a0) ts.tail rest).2):=by
        simp only [rd,ax,g3,gg]
       rw [he];refine ⟨ay,S',cf.trans g,mb,b9,?_⟩;refine a5.cons ?_ ?_ ?_
       ·rw [jR];exact dD.gs g
       ·rw [jR];exact jY.gs g (by simp)
       ·simpa [td,te 1] using ad
     | false =>
       have he:rd T ts (.tmp t::rest)=((T.getD t .a0).view::(rd (fX T t (T.getD t .a0)) ts.tail rest).1,(rd (fX T t (T.getD t .a0)) ts.tail rest).2):=by
        simp only [rd,ax,gg]
       by_cases a':∃ cells len z,T[t]?=some (.av cells len (.uniq z))
       ·obtain ⟨cells,len,z,a'⟩:=a';obtain ⟨a4,cf,kG,bW,dD⟩:=FB b0 ag t cells len z a';obtain ⟨ay,S',g,mb,b9,ad⟩:=a8 ts.tail (T.set t (.av cells len (.own z))) (k+1) aa a4 kG bW;(have aO:T.getD t .a0=.av cells len (.uniq z):=by rw [sw,a'];rfl);rw [he,aO];simp only [fX,g3,I.view];refine ⟨ay,S',cf.trans g,mb,b9,?_⟩;refine a5.cons ?_ (aU.b4 rfl) ?_
        ·rw [jR];exact dD.gs g
        ·simpa [td,te 1] using ad
       ·have pW:(T.getD t .a0).cW=true:=by
         rw [sw];cases hu:T[t]? with
         | none=>rfl
         | some u =>
           simp only [uq];unfold I.cW;split
           ·exact absurd ⟨_,_,_,hu⟩ a'
           ·rfl
        have eH:fX T t (T.getD t .a0)=T:=by
         unfold fX;split
         ·rename_i h;rw [h] at pW;simp [I.cW] at pW
         ·rfl
        have ai:Rel J S w (T.getD t .a0) (a.eval (.tmp t)):=by
         rw [jR];cases hu:T[t]? with
         | none=>rw [sw,hu];exact .a0 _
         | some u =>
           have aR:=(sa.1 hu).1;have ad:a.tmps.toList[t]?=some (a.tmps.toList[t]'(b0.len ▸ aR)):=si _;rw [sw,hu,sw,ad];exact b0.rel t _ _ hu ad
        refine nC (T.getD t .a0).view (ai.view pW) (I.dm _) ?_;rw [he,eH]
end
end Go.Proofs.Ytkoioidpbbbaiaa.Ab


namespace Go.Proofs.Ytkoioidpbbbaiaa.Ab
open Go
section
variable {P:Program} {B:Nat} {J:List Nat} {w:World} {H:List ar} {aa:Nat→Option aH} {S:Nat→Nat→Prop}
def aZ (B:Nat) (aa:Nat→Option aH) (J:List Nat) (S:Nat→Nat→Prop) (w:World) (H':List ar) (r:I) (v:Value) (w':World):Prop :=
 ∃ ay bV S',Ext J bV∧bl aa S w ay S' w'∧aK B ay bV S' w' H'∧Rel bV S' w' r v∧aU ay bV S' w' .res r v
theorem aZ.same (ag:aK B aa J S w H) {r:I} {v:Value} (ai:Rel J S w r v) (aB:r.plain=true):aZ B aa J S w H r v w :=
 ⟨aa,J,S,Ext.refl J,bl.refl _ _ _,ag,ai,aU.b4 aB⟩
theorem aK.settle (ag:aK B aa J S w H) {S':Nat→Nat→Prop} (ab:∀ b o,S b o→S' b o)
  (ae:∀ b o,S' b o→S b o∨∃ l,aa b=some l∧(∀ id,l≠.obj id)∧∀ id j,l≠.cell id j) (aF:∀ b o,S' b o→∃ v,w.cell? ⟨b,o,none⟩=some v):aK B aa J S' w H:=by
 have hm:∀ {u:I} {v:Value},Rel J S w u v→Rel J S' w u v:=fun h=>h.mono (Ext.refl J) fun b o ah=>⟨ab b o ah,rfl⟩;refine ⟨ag.cK,fun id o aq=>?_,aF,ag.base,ag.c0⟩;have h:=ag.obj id o aq;cases o with
 | dead=>trivial
 | cells l =>
   obtain ⟨b,cur,e,aA,aG,aT,br,bg,bd⟩:=h;refine ⟨b,cur,e,aA,aG,aT,br,fun o ah=>?_,fun j u v hu ad=>?_⟩
   ·rcases ae b o ah with h | ⟨l,h,b7,_⟩
    ·exact bg o h
    ·rw [aG] at h;cases h;exact b7 id rfl
   ·obtain ⟨a7,g9,a9,bt⟩:=bd j u v hu ad;refine ⟨a7,g9,hm a9,bt.mono (Ext.refl J) (fun b o ah=>⟨ab b o ah,rfl⟩) fun b af=>⟨af,rfl,fun o ah=>?_⟩⟩;rcases ae b o ah with h | ⟨l,h,_,cj⟩
    ·exact h
    ·rw [af] at h;cases h;exact absurd rfl (cj id j)
 | grow l gid z =>
   obtain ⟨b,cur,e,aA,aG,aT,br,bg,bd,dd⟩:=h;refine ⟨b,cur,e,aA,aG,aT,br,fun o ah=>?_,fun j u v hu ad=>?_,dd⟩
   ·rcases ae b o ah with h | ⟨l,h,b7,_⟩
    ·exact bg o h
    ·rw [aG] at h;cases h;exact b7 id rfl
   ·obtain ⟨a7,g9,a9,bt⟩:=bd j u v hu ad;refine ⟨a7,g9,hm a9,bt.mono (Ext.refl J) (fun b o ah=>⟨ab b o ah,rfl⟩) fun b af=>⟨af,rfl,fun o ah=>?_⟩⟩;rcases ae b o ah with h | ⟨l,h,_,cj⟩
    ·exact h
    ·rw [af] at h;cases h;exact absurd rfl (cj id j)
 | loop st cL fn T params assign body jD =>
   obtain ⟨aj,aY,b,L,aA,aG,aT,br,bg,bd,dd,dy,dS⟩:=h;exact ⟨aj,aY,b,L,aA,aG,aT,br,bg,bd,dd,fun i u v hu ad=>⟨(dy i u v hu ad).1,hm (dy i u v hu ad).2⟩,dS⟩
 | map es clock =>
   obtain ⟨b,bB,aA,aG,aT,br,bg,bd⟩:=h;refine ⟨b,bB,aA,aG,aT,br,fun o ah=>?_,fun j i k v x hu ad=>?_⟩
   ·rcases ae b o ah with h | ⟨l,h,b7,_⟩
    ·exact bg o h
    ·rw [aG] at h;cases h;exact b7 id rfl
   ·obtain ⟨a7,a9,bt,b6,dV⟩:=bd j i k v x hu ad;exact ⟨a7,a9,hm bt,b6,hm dV⟩
 | iter m s e t =>
   obtain ⟨b,ec,aA,aG,aT,br,bg⟩:=h;refine ⟨b,ec,aA,aG,aT,br,fun o ah=>?_⟩;rcases ae b o ah with h | ⟨l,h,b7,_⟩
   ·exact bg o h
   ·rw [aG] at h;cases h;exact b7 id rfl
theorem bl.settle {S':Nat→Nat→Prop} (ab:∀ b o,S b o→S' b o) (ae:∀ b o,S' b o→S b o∨∃ l,aa b=some l):bl aa S w aa S' w :=
 ⟨rfl,rfl,rfl,sc _,fun _ _ _=>rfl,fun b o h=>⟨ab b o h,rfl⟩,fun b o h=>(ae b o h).imp id fun ⟨l,ao⟩=>.inl (by simp [ao]),fun _ h=>.inl h⟩
theorem a5.g4 {bA:Nat→aH} {u:I} {T:List I} {bc:List Value} (h:a5 bA aa J S w (u::T) bc) :
  ∃ v hX,bc=v::hX∧Rel J S w u v∧aU aa J S w (bA 0) u v∧a5 (fun i=>bA (i+1)) aa J S w T hX:=by
 cases bc with
 | nil=>exact absurd h.len (by simp)
 | cons v hX =>
   exact ⟨v,hX,rfl,h.rel 0 u v rfl rfl,h.own 0 u v rfl rfl,by simpa using h.len,fun i bH bo hu ad=>h.rel (i+1) bH bo (by simpa using hu) (by simpa using ad),
    fun i bH bo hu ad=>h.own (i+1) bH bo (by simpa using hu) (by simpa using ad)⟩
theorem FA:∀ (T:List I) (bc:List Value) (bA:Nat→aH) (S:Nat→Nat→Prop),(∀ i j,bA i=bA j→i=j)→(∀ i id,bA i≠.obj id)→(∀ i id j,bA i≠.cell id j) →
  a5 bA aa J S w T bc→aK B aa J S w H →
  ∃ S':Nat→Nat→Prop,(∀ b o,S b o→S' b o)∧(∀ b o,S' b o→S b o∨∃ i,aa b=some (bA i))∧aK B aa J S' w H∧a5 bA aa J S' w (T.map I.view) bc:=by
 intro T
 induction T with
 | nil=>intro bc bA S _ _ _ ad ag;exact ⟨S,fun _ _ h=>h,fun _ _ h=>.inl h,ag,by simpa using ad⟩
 | cons u T a8 =>
   intro bc bA S aw b7 cj ad ag;obtain ⟨v,hX,rfl,ai,aq,ax⟩:=ad.g4;have first:∃ a4:Nat→Nat→Prop,(∀ b o,S b o→a4 b o)∧(∀ b o,a4 b o→S b o∨aa b=some (bA 0))∧aK B aa J a4 w H∧Rel J a4 w u.view v:=by
    by_cases hu:u.cW=true
    ·exact ⟨S,fun _ _ h=>h,fun _ _ h=>.inl h,ag,ai.view hu⟩
    ·obtain ⟨cells,len,z,rfl⟩:∃ cells len z,u=.av cells len (.uniq z):=by
      unfold I.cW at hu;split at hu
      ·exact ⟨_,_,_,rfl⟩
      ·simp at hu
     obtain ⟨a4,aJ,aN,cb,aS,_,_⟩:=kh ag ai aq;exact ⟨a4,aJ,aN,ag.settle aJ (fun b o h=>(aN b o h).imp id fun h=>⟨_,h,b7 0,cj 0⟩) cb,aS⟩
   (obtain ⟨a4,aJ,aN,bW,dD⟩:=first);have xb:a5 (fun i=>bA (i+1)) aa J a4 w T hX:=by
    refine ⟨ax.len,fun i bH bo hu ad=>(ax.rel i bH bo hu ad).mono (Ext.refl J) fun b o ah=>⟨aJ b o ah,rfl⟩,fun i bH bo hu ad=>?_⟩;refine (ax.own i bH bo hu ad).mono (Ext.refl J) (fun b o ah=>⟨aJ b o ah,rfl⟩) fun b af=>⟨af,rfl,fun o ah=>?_⟩;rcases aN b o ah with h | h
    ·exact h
    ·rw [af] at h;injection h with h;exact absurd (aw _ _ h) (by omega)
   obtain ⟨S',dE,dt,b9,bh⟩:=a8 hX (fun i=>bA (i+1)) a4 (fun i j h=>by have:=aw _ _ h;omega) (fun i=>b7 (i+1)) (fun i=>cj (i+1)) xb bW;refine ⟨S',fun b o h=>dE b o (aJ b o h),fun b o h=>?_,b9,?_⟩
   ·rcases dt b o h with h | ⟨i,h⟩
    ·exact (aN b o h).imp id fun h=>⟨0,h⟩
    ·exact .inr ⟨i+1,h⟩
   ·exact a5.cons (dD.mono (Ext.refl J) fun b o ah=>⟨dE b o ah,rfl⟩) (aU.b4 (I.dm _)) bh
theorem Rel.di {k:IntKind} {n:Int} {v:Value} (h:Rel J S w (.int k n) v):v=.int k n:=by cases h;rfl
theorem Rel.h6 {b:Bool} {v:Value} (h:Rel J S w (.bool b) v):v=.bool b:=by cases h;rfl
theorem Rel.BZ {v:Value} (h:Rel J S w .dA v):∃ b,v=.bool b:=by cases h;exact ⟨_,rfl⟩
def fb (P:Program) (o:Oper) (aV:Operand→Value) (J:List Nat) (S:Nat→Nat→Prop) (w:World) (r:I):Prop :=
 ∃ v,(Go.execOp aV o).run P w=.ok (.value v) w∧Rel J S w r v
theorem zU {o:Oper} {aV:Operand→Value} {c a b:Operand} (aq:o.op=.pick c a b) {x:Bool} {fA gv:I} (ab:Rel J S w (.bool x) (aV c))
  (ae:Rel J S w fA (aV a)) (aF:Rel J S w gv (aV b)):fb P o aV J S w (match x with | true=>fA | false=>gv):=by
 have e:=ab.h6;cases x with
 | true=>exact ⟨aV a,by simp [Go.execOp,aq,e,asBool],ae⟩
 | false=>exact ⟨aV b,by simp [Go.execOp,aq,e,asBool],aF⟩
theorem Em {o:Oper} {aV:Operand→Value} {x:Operand} (aq:o.op=.nilCheck x) {id off:Nat} (ab:Rel J S w (.ptr id off) (aV x)) :
  fb P o aV J S w (.ptr id off):=by
 refine ⟨aV x,?_,ab⟩;generalize aj:aV x=cG at ab ⊢;cases ab with
 | ptr id off b h=>simp [Go.execOp,aq,aj]
theorem En {o:Oper} {aV:Operand→Value} {x:Operand} (aq:o.op=.nilCheck x) {cells:List I} (ab:Rel J S w (.bS cells) (aV x)) :
  fb P o aV J S w (.bS cells):=by
 generalize ad:aV x=v at ab;have ae:=ab;cases ab with
 | bS _ b cz f h ai=>exact ⟨.pointer (some ⟨b,cz,none⟩),by simp [Go.execOp,aq,ad],ae⟩
theorem Eo {o:Oper} {aV:Operand→Value} {op:UnOp} {t:TypeId} {x:Operand} (aq:o.op=.unOp op t x) {u r:I} (ai:kt op u=some r) (ab:Rel J S w u (aV x)) :
  fb P o aV J S w r:=by
 unfold kt at ai;split at ai
 ·have e:=ab.h6;cases op <;> simp at ai;subst ai;exact ⟨_,by simp [Go.execOp,aq,e,Op.unary],.bool _⟩
 ·have e:=ab.di;cases op <;> simp at ai;subst ai;exact ⟨_,by simp [Go.execOp,aq,e,Op.unary,Op.intArith],.int _ _⟩
 ·simp at ai
theorem Ee {o:Oper} {aV:Operand→Value} {s d:TypeId} {x:Operand} (aq:o.op=.convert s d x) {u r:I} (ai:lM P s d u=some r) (ab:Rel J S w u (aV x)):fb P o aV J S w r:=by
 unfold lM at ai;split at ai
 ·have e:=ab.di;split at ai
  ·rename_i fG k CU al;simp at ai;subst ai;refine ⟨_,?_,.int _ _⟩;simp only [Go.execOp,aq,e,convert,Sem.run_bind,run_underlying CU,run_underlying al,Result.andThen_ok];cases fG <;> simp [Conv.intToInt]
  ·simp at ai
 ·simp at ai
theorem Ej {o:Oper} {aV:Operand→Value} {fn:Fn} {first captured:Array Operand} (aq:o.op=.makeFunc fn first captured) {us:List I} {r:I}
  (ai:m0 fn first.size captured.size us=some r) {bA:Nat→aH} (ad:a5 bA aa J S w us ((first++captured).toList.map aV)) (aB:∀ u∈us,u.plain=true) :
  fb P o aV J S w r:=by
 unfold m0 at ai;split at ai
 ·rename_i f;split at ai
  ·rename_i ao;simp at ai;subst ai;refine ⟨.func (.func f) (first.map aV) (captured.map aV),by simp [Go.execOp,aq,Instr.makeFunc],.func f _ _ _ _ ?_ ?_ ?_ ?_ ?_ ?_⟩
   ·simp;omega
   ·simp;omega
   ·exact fun u hu=>aB u (uE hu)
   ·exact fun u hu=>aB u (uF hu)
   ·intro j u v hu bh;refine ad.rel j u v ?_ ?_
    ·rw [sI] at hu;split at hu <;> simp_all
    ·simp only [ue,r_] at bh;obtain ⟨x,aj,rfl⟩:=bh;have:=(sJ.1 aj).1;rw [sr this] at aj;cases aj;simp [sg,this]
   ·intro j u v hu bh;refine ad.rel (first.size+j) u v ?_ ?_
    ·simpa [sQ] using hu
    ·simp only [ue,r_] at bh;obtain ⟨x,aj,rfl⟩:=bh;simp [ss,aj]
  ·simp at ai
 ·simp at ai
theorem Eg {o:Oper} {aV:Operand→Value} {x:Operand} {i:Nat} (aq:o.op=.extract x i) {u r:I} (ai:nr i u=some r) (ab:Rel J S w u (aV x)) :
  fb P o aV J S w r.view:=by
 unfold nr at ai;generalize aj:aV x=cG at ab;split at ai
 ·cases ab with
  | tuple as vs h p m9 =>
    have aR:=(sa.1 ai).1;have ad:vs[i]?=some (vs[i]'(by omega)):=sr _;have aB:r.plain=true:=p r (sv ai);refine ⟨vs[i]'(by omega),?_,?_⟩
    ·simp [Go.execOp,aq,aj,Instr.extract,ad]
    ·rw [I.kq aB];exact m9 i _ _ ai ad
 ·simp at ai
theorem Fj {op:BinOp} {t:TypeId} {x y:Operand} {k k':IntKind} {a b:Int}:(eqGuard op t x y (.int k a) (.int k' b)).run P w=.ok () w:=by
 unfold eqGuard;split <;> simp
theorem Fi {op:BinOp} {t:TypeId} {k k':IntKind} {a b:Int} {r:I} (ai:fo P op t (.int k a) (.int k' b)=some r) :
  ∃ v,(Go.binOp op t (.int k a) (.int k' b)).run P w=.ok v w∧Rel J S w r v:=by
 have FC:∀ mZ,(mZ=.shl∨mZ=.shr)→hG mZ k a b=some r→∃ v,(Op.shift mZ k a k' b).run P w=.ok v w∧Rel J S w r v:=by
  intro mZ aC h;unfold hG at h;split at h
  ·simp at h
  ·rename_i af;rcases aC with rfl | rfl <;> simp at h <;> subst h
   ·exact ⟨_,by simp [Op.shift,af],.int _ _⟩
   ·exact ⟨_,by simp [Op.shift,af],.int _ _⟩
 have B3:k=k'→jB op k a b=some r→∃ v,(Go.binOp op t (.int k a) (.int k' b)).run P w=.ok v w∧Rel J S w r v:=by
  rintro rfl h;cases op <;> simp only [jB,Option.some.injEq,reduceCtorEq] at h
  case quo =>
   split at h
   ·simp at h
   ·rename_i af;simp at h;subst h;exact ⟨_,by simp [Go.binOp,Op.intDiv,af],.int _ _⟩
  case rem =>
   split at h
   ·simp at h
   ·rename_i af;simp at h;subst h;exact ⟨_,by simp [Go.binOp,Op.intDiv,af],.int _ _⟩
  all_goals subst h
  all_goals first
   | (refine ⟨_,?_,.bool _⟩;simp [Go.binOp,Op.intCmp];done)
   | (refine ⟨_,?_,.int _ _⟩;simp [Go.binOp,Op.intArith];done)
   | (refine ⟨_,?_,.int _ _⟩;simp [Go.binOp,Op.intBits];done)
 unfold fo at ai;cases op <;> simp only at ai <;> first
  | (obtain ⟨v,ab,ae⟩:=FC _ (by simp) ai;exact ⟨v,by simpa [Go.binOp] using ab,ae⟩)
  | (split at ai
     ·exact B3 ‹_› ai
     ·simp at ai)
theorem Ed {o:Oper} {aV:Operand→Value} {op:BinOp} {t iF:TypeId} {x y:Operand} (aq:o.op=.binOp op t x y iF) {k k':IntKind} {a b:Int} {r:I}
  (ai:fo P op t (.int k a) (.int k' b)=some r) (ab:Rel J S w (.int k a) (aV x)) (ae:Rel J S w (.int k' b) (aV y)):fb P o aV J S w r:=by
 obtain ⟨v,ad,b2⟩:=Fi (P:=P) (w:=w) (J:=J) (S:=S) (t:=t) ai;refine ⟨v,?_,b2⟩;simp only [Go.execOp,aq,ab.di,ae.di,Sem.run_bind,Fj,ad,Result.andThen_ok,Sem.run_pure]
theorem nf {t:TypeId} {s:Nat} (h:bF P t=some s):∃ i,P.info? t=some i∧i.size=s:=by
 simp only [bF,r_] at h;exact h
theorem run_sizeOf {t:TypeId} {s:Nat} (h:bF P t=some s):(sizeOf t).run P w=.ok s w:=by
 obtain ⟨i,hi,rfl⟩:=nf h;simp [sizeOf,typeInfo,hi]
theorem g0 {t:TypeId} {d:TypeDesc} (h:P.underlying t=some d):(isAgg t).run P w=.ok (dK P t) w:=by
 simp only [isAgg,dK,h,Sem.run_bind,run_underlying h,Result.andThen_ok];cases d <;> simp
theorem lW {i:Int} {len j:Nat} (h:g_ i len=some j):0≤i∧i<len∧j=i.toNat:=by
 unfold g_ at h;split at h
 ·simp at h;exact ⟨by omega,by omega,h.symm⟩
 ·simp at h
theorem add_lit (b o n:Nat):(⟨b,o,none⟩:Addr).add n=⟨b,o+n,none⟩:=by
 unfold Addr.add;split <;> simp_all
theorem Rel.drop {cells:List I} {b o:Nat} {f:Nat→Value} (n:Nat)
  (h:∀ (j:Nat) (u:I),cells[j]?=some u→S b (o+j)∧w.cell? ⟨b,o+j,none⟩=some (f j)∧u.plain=true∧(f j).oneCell'=true)
  (ai:∀ (j:Nat) (u:I),cells[j]?=some u→Rel J S w u (f j)):Rel J S w (.bS (cells.drop n)) (.pointer (some ⟨b,o+n,none⟩)):=by
 refine .bS _ b (o+n) (fun j=>f (n+j)) (fun j u hu=>?_) (fun j u hu=>?_)
 ·rw [sQ] at hu;have:=h (n+j) u hu
  rwa [show o+n+j=o+(n+j) by omega]
 ·rw [sQ] at hu;exact ai (n+j) u hu
theorem El {o:Oper} {aV:Operand→Value} {t:TypeId} {x i:Operand} (aq:o.op=.indexAddr t x i) {fA gv r:I} (ai:h4 P t fA gv=some r)
  (ab:Rel J S w fA (aV x)) (ae:Rel J S w gv (aV i)) (aI:fA.cW=true):fb P o aV J S w r:=by
 unfold h4 at ai;generalize aj:aV x=cG at ab;split at ai
 ·rename_i a1;simp only [sf,r_] at ai;obtain ⟨s,ah,j,aw,rfl⟩:=ai;obtain ⟨dE,dt,rfl⟩:=lW aw;have e:=ae.di;cases ab with
  | b3 c a=>exact absurd dt (by simp;omega)
  | cP=>simp [I.cW] at aI
  | av cells len c b j9 cap f ak hle hu h fu =>
    refine ⟨_,?_,Rel.drop _ h fu⟩;simp [Go.execOp,aq,aj,e,Instr.indexAt,asIntOf,run_underlying a1,dE,dt,run_sizeOf ah,add_lit]
 ·rename_i a1;simp only [sf,r_] at ai;obtain ⟨s,ah,j,aw,rfl⟩:=ai;obtain ⟨dE,dt,rfl⟩:=lW aw;have e:=ae.di;cases ab with
  | ref id off len c bb b cap h ak hle =>
    refine ⟨_,?_,.ptr _ _ b h⟩;simp [Go.execOp,aq,aj,e,Instr.indexAt,asIntOf,run_underlying a1,dE,dt,run_sizeOf ah,add_lit]
 ·rename_i a1;simp only [sf,r_] at ai;obtain ⟨s,ah,j,aw,rfl⟩:=ai;obtain ⟨dE,dt,rfl⟩:=lW aw;have e:=ae.di;cases ab with
  | ptr id off b h =>
    refine ⟨_,?_,.ptr _ _ b h⟩;simp [Go.execOp,aq,aj,e,Instr.indexAt,asIntOf,Instr.sureAddr,run_underlying a1,dE,dt,run_sizeOf ah,add_lit]
 ·rename_i a1;simp only [sf,r_] at ai;obtain ⟨s,ah,j,aw,rfl⟩:=ai;obtain ⟨dE,dt,rfl⟩:=lW aw;have e:=ae.di;cases ab with
  | bS cells b j9 f h fu =>
    refine ⟨_,?_,Rel.drop _ h fu⟩;simp [Go.execOp,aq,aj,e,Instr.indexAt,asIntOf,Instr.sureAddr,run_underlying a1,dE,dt,run_sizeOf ah,add_lit]
 ·simp at ai
theorem A1 {b o s:Nat} {g:Field} (ah:bF P g.type=some s) (aQ:s≠0):(fieldPlace ⟨b,o,none⟩ g).run P w=.ok ⟨b,o+g.offset,none⟩ w:=by
 simp [fieldPlace,run_sizeOf ah,aQ,add_lit]
theorem Ei {o:Oper} {aV:Operand→Value} {t:TypeId} {x:Operand} {l7:Nat} (aq:o.op=.fieldAddr t x l7) {u r:I} (ai:jC P t u l7=some r)
  (ab:Rel J S w u (aV x)):fb P o aV J S w r:=by
 unfold jC at ai;generalize aj:aV x=cG at ab;split at ai
 ·rename_i a1;simp only [sf] at ai;obtain ⟨g,aO,s,ah,ai⟩:=ai;split at ai
  ·simp at ai
  ·rename_i aQ;simp at ai;subst ai;cases ab with
   | ptr id off b h =>
     refine ⟨_,?_,.ptr _ _ b h⟩;simp [Go.execOp,aq,aj,Instr.fieldAt,Instr.sureAddr,run_underlying a1,aO,A1 ah aQ]
 ·rename_i a1;simp only [sf] at ai;obtain ⟨g,aO,s,ah,ai⟩:=ai;split at ai
  ·simp at ai
  ·rename_i aQ;simp at ai;subst ai;cases ab with
   | bS cells b j9 f h fu =>
     refine ⟨_,?_,Rel.drop _ h fu⟩;simp [Go.execOp,aq,aj,Instr.fieldAt,Instr.sureAddr,run_underlying a1,aO,A1 ah aQ]
 ·simp at ai
theorem zz {t:TypeId} (h:dK P t=true):∃ d,P.underlying t=some d:=by
 unfold dK at h;split at h <;> first | exact ⟨_,by assumption⟩ | simp at h
theorem A5 {t:TypeId} {as:List I} {vs:Array Value} {off:Nat} {r:I} (ai:iK P t as off=some r) (ao:vs.size=as.length)
  (aB:∀ u∈as,u.plain=true) (et:∀ v∈vs.toList,v.oneCell'=true) (b2:∀ (j:Nat) (u:I) (v:Value),as[j]?=some u→vs[j]?=some v→Rel J S w u v) :
  ∃ v,(part t vs off).run P w=.ok v w∧Rel J S w r v∧r.plain=true:=by
 unfold iK at ai;cases cq:dK P t with
 | true =>
   obtain ⟨d,a1⟩:=zz cq;rw [cq] at ai;simp only [sf] at ai;obtain ⟨s,ah,ai⟩:=ai;split at ai
   ·rename_i hle;simp at ai;subst ai;refine ⟨.agg (vs.extract off (off+s)),by simp [part,g0 a1,cq,run_sizeOf ah],.agg _ _ ?_ ?_ ?_ ?_,rfl⟩
    ·simp;omega
    ·exact fun u hu=>aB u (uF (uE hu))
    ·exact fun v ad=>et v (by rw [Array.toList_extract] at ad;exact uF (uE ad))
    ·intro j u v hu ad;rw [sI] at hu;split at hu
     ·rw [sQ] at hu;rw [Array.getElem?_extract] at ad;split at ad
      ·exact b2 _ u v hu ad
      ·simp at ad
     ·simp at hu
   ·simp at ai
 | false =>
   rw [cq] at ai;simp only at ai;split at ai
   ·rename_i d a1;have aR:=(sa.1 ai).1;have ad:vs[off]?=some (vs[off]'(by omega)):=sr _;exact ⟨_,by simp [part,g0 a1,cq,ad],b2 off _ _ ai ad,aB r (sv ai)⟩
   ·simp at ai
theorem Eh {o:Oper} {aV:Operand→Value} {t:TypeId} {x:Operand} {l7:Nat} (aq:o.op=.field t x l7) {u r:I} (ai:ns P t u l7=some r)
  (ab:Rel J S w u (aV x)):fb P o aV J S w r.view:=by
 unfold ns at ai;generalize aj:aV x=cG at ab;split at ai
 ·rename_i a1;simp only [sf] at ai;obtain ⟨g,aO,ai⟩:=ai;cases ab with
  | agg as vs h p one m9 =>
    obtain ⟨v,ad,b2,hk⟩:=A5 (w:=w) ai h p one m9;refine ⟨v,?_,by rw [I.kq hk];exact b2⟩;simp [Go.execOp,aq,aj,Instr.field,run_underlying a1,aO,asAgg,ad]
 ·simp at ai
theorem Ek {o:Oper} {aV:Operand→Value} {t:TypeId} {x i:Operand} (aq:o.op=.index t x i) {fA gv r:I} (ai:o1 P t fA gv=some r)
  (ab:Rel J S w fA (aV x)) (ae:Rel J S w gv (aV i)):fb P o aV J S w r.view:=by
 unfold o1 at ai;generalize aj:aV x=cG at ab;split at ai
 ·rename_i a1;simp only [sf] at ai;obtain ⟨s,ah,j,aw,ai⟩:=ai;obtain ⟨dE,dt,rfl⟩:=lW aw;have e:=ae.di;cases ab with
  | agg as vs h p one m9 =>
    obtain ⟨v,ad,b2,hk⟩:=A5 (w:=w) ai h p one m9;refine ⟨v,?_,by rw [I.kq hk];exact b2⟩;simp [Go.execOp,aq,aj,e,Instr.index,asIntOf,run_underlying a1,dE,dt,run_sizeOf ah,ad]
 ·rename_i b k n a1;have e:=ae.di;split at ai
  ·rename_i aQ;simp only [r_] at ai;obtain ⟨y,aY,rfl⟩:=ai;cases ab with
   | str b =>
     refine ⟨_,?_,.int _ _⟩;simp [Go.execOp,aq,aj,e,Instr.index,asIntOf,run_underlying a1,aQ,aY]
  ·simp at ai
 ·simp at ai
theorem Fl {t e:TypeId} (d:Nat) (ax:P.underlying t=some (.slice e)) (a:Addr) (len cap:Nat) :
  (Op.equalIn (d+1) t (.slice (some a) len cap) (.slice none 0 0)).run P w=.ok false w:=by
 rw [Op.equalIn];simp [run_underlying ax]
theorem oG {t e:TypeId} (ax:P.underlying t=some (.slice e)) (a:Addr) (len cap:Nat) :
  (Op.equal t (.slice (some a) len cap) (.slice none 0 0)).run P w=.ok false w:=Fl 9999 ax a len cap
theorem run_equalIn_bool {t:TypeId} (d:Nat) (ax:P.underlying t=some .bool) (a b:Bool):(Op.equalIn (d+1) t (.bool a) (.bool b)).run P w=.ok (a == b) w:=by
 rw [Op.equalIn];simp [run_underlying ax]
theorem run_equal_bool {t:TypeId} (ax:P.underlying t=some .bool) (a b:Bool):(Op.equal t (.bool a) (.bool b)).run P w=.ok (a == b) w:=run_equalIn_bool 9999 ax a b
theorem Fm {t e:TypeId} (d:Nat) (ax:P.underlying t=some (.slice e)) (len cap:Nat) :
  (Op.equalIn (d+1) t (.slice none len cap) (.slice none 0 0)).run P w=.ok true w:=by
 rw [Op.equalIn];simp [run_underlying ax]
theorem A0 {t e:TypeId} (ax:P.underlying t=some (.slice e)) (len cap:Nat) :
  (Op.equal t (.slice none len cap) (.slice none 0 0)).run P w=.ok true w:=Fm 9999 ax len cap
theorem Ef {o:Oper} {aV:Operand→Value} {op:BinOp} {t iF:TypeId} {x y:Operand} (aq:o.op=.binOp op t x y iF) (aY:iZ y=true) {u r:I}
  (ai:nq P op t u=some r) (ab:Rel J S w u (aV x)) (eW:∀ v,aV (.const v)=v):fb P o aV J S w r:=by
 have DM:y=.const (.slice none 0 0):=by
  unfold iZ at aY;split at aY
  ·rfl
  ·simp at aY
 subst DM;generalize aj:aV x=cG at ab;unfold nq at ai;split at ai
 ·rename_i e ax;have ah:((∃ b j9 len cap,cG=.slice (some ⟨b,j9,none⟩) len cap)∧((op=.eql∧r=.bool false)∨(op=.neq∧r=.bool true))) ∨
    ((∃ a len cap,cG=.slice a len cap)∧(op=.eql∨op=.neq)∧r=.dA):=by
   split at ai
   ·refine .inl ⟨?_,by split at ai <;> simp_all⟩;cases ab with
    | av cells len c b j9 cap f ak hle hu h fu=>exact ⟨_,_,_,_,rfl⟩
    | cP=>exact ⟨_,_,_,_,rfl⟩
   ·refine .inl ⟨?_,by split at ai <;> simp_all⟩;cases ab with
    | ref id off len c bb b cap h ak hle=>exact ⟨_,_,_,_,rfl⟩
   ·refine .inr ⟨?_,by split at ai <;> simp_all⟩;cases ab with
    | b3 c a=>exact ⟨_,_,_,rfl⟩
    | av cells len c b j9 cap f ak hle hu h fu=>exact ⟨_,_,_,rfl⟩
    | cP=>exact ⟨_,_,_,rfl⟩
   ·simp at ai
  rcases ah with ⟨⟨b,j9,len,cap,rfl⟩,⟨rfl,rfl⟩ | ⟨rfl,rfl⟩⟩ | ⟨⟨a,len,cap,rfl⟩,aC,rfl⟩
  ·exact ⟨.bool false,by simp [Go.execOp,aq,aj,eW,eqGuard,Go.binOp,oG ax],.bool _⟩
  ·exact ⟨.bool true,by simp [Go.execOp,aq,aj,eW,eqGuard,Go.binOp,oG ax],.bool _⟩
  ·rcases aC with rfl | rfl
   ·cases a with
    | none=>exact ⟨.bool true,by simp [Go.execOp,aq,aj,eW,eqGuard,Go.binOp,A0 ax],.dA _⟩
    | some a=>exact ⟨.bool false,by simp [Go.execOp,aq,aj,eW,eqGuard,Go.binOp,oG ax],.dA _⟩
   ·cases a with
    | none=>exact ⟨.bool false,by simp [Go.execOp,aq,aj,eW,eqGuard,Go.binOp,A0 ax],.dA _⟩
    | some a=>exact ⟨.bool true,by simp [Go.execOp,aq,aj,eW,eqGuard,Go.binOp,oG ax],.dA _⟩
 ·simp at ai
theorem Ec {o:Oper} {aV:Operand→Value} {op:BinOp} {t iF:TypeId} {x y:Operand} (aq:o.op=.binOp op t x y iF) {a b:Bool} {r:I}
  (ai:fo P op t (.bool a) (.bool b)=some r) (ab:Rel J S w (.bool a) (aV x)) (ae:Rel J S w (.bool b) (aV y)):fb P o aV J S w r:=by
 simp only [fo] at ai;have e1:=ab.h6;have b':=ae.h6;split at ai
 ·rename_i ax;simp at ai;subst ai;exact ⟨_,by simp [Go.execOp,aq,e1,b',eqGuard,Go.binOp,run_equal_bool ax],.bool _⟩
 ·rename_i ax;simp at ai;subst ai;exact ⟨_,by simp [Go.execOp,aq,e1,b',eqGuard,Go.binOp,run_equal_bool ax],.bool _⟩
 ·simp at ai
theorem nD {x y:I} {xs ys:List I} {e:Bool} (h:dL (x::xs) (y::ys)=some e) :
  ∃ k a b cV,x=.int k a∧y=.int k b∧dL xs ys=some cV∧e=((a == b) && cV):=by
 cases x <;> cases y <;> simp only [dL,reduceCtorEq] at h;split at h
 ·rename_i al;subst al;simp only [r_] at h;obtain ⟨cV,ab,ae⟩:=h;exact ⟨_,_,_,cV,rfl,rfl,ab,ae.symm⟩
 ·simp at h
theorem Fh {e:TypeId} {dj:IntKind} (d:Nat) (he:P.underlying e=some (.int dj)) (ah:dK P e=false):∀ (xs ys:List I) (vs ws:List Value) (off:Nat) (eq:Bool),
  dL xs ys=some eq→a5 (fun _=>.res) aa J S w xs vs→a5 (fun _=>.res) aa J S w ys ws→∀ (V W:Array Value),(∀ j,vs[j]?=V[off+j]?)→(∀ j,ws[j]?=W[off+j]?) →
  (forIn (List.range' off xs.length) ((none,()):Option Bool×PUnit) (fun i (_:Option Bool×PUnit)=>(do
    let a ←part e V i
    let b ←part e W i
    let c ←Op.equalIn (d+1) e a b
    if c=false then pure (ForInStep.done (some false,())) else pure (ForInStep.yield (none,())):Sem (ForInStep (Option Bool×PUnit))))).run P w =
   .ok (if eq then none else some false,()) w:=by
 intro xs
 induction xs with
 | nil=>intro ys vs ws off eq h _ _ V W _ _;cases ys <;> simp [dL] at h;subst h;simp
 | cons x xs a8 =>
   intro ys vs ws off eq h ad hw V W jL mc;cases ys with
   | nil=>cases x <;> simp [dL] at h
   | cons y ys =>
     obtain ⟨k,a,b,cV,rfl,rfl,aX,rfl⟩:=nD h;obtain ⟨v,cY,rfl,aS,_,bh⟩:=ad.g4;obtain ⟨w',ym,rfl,bj,_,mE⟩:=hw.g4;have e1:=aS.di;have b':=bj.di;subst e1 b';(have bU:V[off]?=some (.int k a):=by have:=jL 0;simpa using this.symm);(have b1:W[off]?=some (.int k b):=by have:=mc 0;simpa using this.symm);have xl:=a8 ys cY ym (off+1) cV aX bh mE V W (fun j=>by have:=jL (j+1);simpa [td,te 1] using this) (fun j=>by have:=mc (j+1);simpa [td,te 1] using this);(have q1:(part e V off).run P w=.ok (.int k a) w:=by simp [part,g0 he,ah,bU]);(have aW:(part e W off).run P w=.ok (.int k b) w:=by simp [part,g0 he,ah,b1]);(have cF:(Op.equalIn (d+1) e (.int k a) (.int k b)).run P w=.ok (a == b) w:=by rw [Op.equalIn];simp [run_underlying he]);simp only [sK,List.range'_succ,vg,Sem.run_bind,q1,aW,cF,Result.andThen_ok];by_cases jM:a=b
     ·subst jM;simpa using xl
     ·simp [jM]
theorem Fk {t e:TypeId} {len:Nat} {dj:IntKind} (d:Nat) (ax:P.underlying t=some (.array len e)) (he:P.underlying e=some (.int dj)) (gP:bF P e=some 1)
  {xs ys:List I} {V W:Array Value} {eq:Bool} (aj:xs.length=len) (h:dL xs ys=some eq) (aS:Rel J S w (.agg xs) (.agg V)) (bj:Rel J S w (.agg ys) (.agg W)) :
  (Op.equalIn (d+2) t (.agg V) (.agg W)).run P w=.ok eq w:=by
 have cq:dK P e=false:=by unfold dK;rw [he]
 rw [Op.equalIn];simp only [run_underlying ax,run_sizeOf gP,Sem.run_bind,Result.andThen_ok];cases aS with
 | agg xs V ad bU bx q1 =>
   cases bj with
   | agg ys W hw b1 bK aW =>
     have:=Fh (aa:=fun _=>none) (P:=P) (w:=w) (J:=J) (S:=S) d he cq xs ys V.toList W.toList 0 eq h ⟨by simp [ad],fun i u v a b=>q1 i u v a (by simpa using b),fun i u v a _=>aU.b4 (bU u (sv a))⟩
      ⟨by simp [hw],fun i u v a b=>aW i u v a (by simpa using b),fun i u v a _=>aU.b4 (b1 u (sv a))⟩ V W (by simp) (by simp)
     rw [aj] at this;simp [this];cases eq <;> simp
theorem zx {f:Field} {fs:List Field} {n:Nat} (h:gS P (f::fs) n=true) :
  f.offset = n ∧ f.name ≠ "_" ∧ (∃ k, P.underlying f.type = some (.int k)) ∧ bF P f.type = some 1 ∧ dK P f.type = false ∧ gS P fs (n + 1) = true := by
 simp only [gS,Bool.and_eq_true,beq_iff_eq,bne_iff_ne] at h;obtain ⟨⟨⟨ab,ae⟩,aF⟩,a_⟩:=h;split at aF
 ·rename_i k hu ah;exact ⟨ab,ae,⟨k,hu⟩,ah,by unfold dK;rw [hu],a_⟩
 ·simp at aF
theorem Fp (d:Nat):∀ (fs:List Field) (xs ys:List I) (vs ws:List Value) (off:Nat) (eq:Bool),gS P fs off=true→xs.length=fs.length→ys.length=fs.length →
  dL xs ys=some eq→a5 (fun _=>.res) aa J S w xs vs→a5 (fun _=>.res) aa J S w ys ws→∀ (V W:Array Value),(∀ j,vs[j]?=V[off+j]?)→(∀ j,ws[j]?=W[off+j]?) →
  (forIn fs ((none,()):Option Bool×PUnit) (fun f (_:Option Bool×PUnit) =>
    if f.name = "_" then pure (ForInStep.yield (none, ())) else (do
    let a ←part f.type V f.offset
    let b ←part f.type W f.offset
    let c ←Op.equalIn (d+1) f.type a b
    if c=false then pure (ForInStep.done (some false,())) else pure (ForInStep.yield (none,())):Sem (ForInStep (Option Bool×PUnit))))).run P w =
   .ok (if eq then none else some false,()) w:=by
 intro fs
 induction fs with
 | nil =>
   intro xs ys vs ws off eq _ aj aY h _ _ V W _ _;obtain rfl:=sO.1 aj;obtain rfl:=sO.1 aY;simp [dL] at h;subst h;simp
 | cons f fs a8 =>
   intro xs ys vs ws off eq aP aj aY h ad hw V W jL mc;cases xs with
   | nil=>simp at aj
   | cons x xs =>
     cases ys with
     | nil=>simp at aY
     | cons y ys =>
       obtain ⟨k,a,b,cV,rfl,rfl,aX,rfl⟩:=nD h;obtain ⟨v,cY,rfl,aS,_,bh⟩:=ad.g4;obtain ⟨w',ym,rfl,bj,_,mE⟩:=hw.g4;obtain ⟨f1,f2,⟨dj,f3⟩,f4,f5,f6⟩:=zx aP;have e1:=aS.di;have b':=bj.di;subst e1 b';(have bU:V[off]?=some (.int k a):=by have:=jL 0;simpa using this.symm);(have b1:W[off]?=some (.int k b):=by have:=mc 0;simpa using this.symm);have xl:=a8 xs ys cY ym (off+1) cV f6 (by simpa using aj) (by simpa using aY) aX bh mE V W (fun j=>by have:=jL (j+1);simpa [td,te 1] using this) (fun j=>by have:=mc (j+1);simpa [td,te 1] using this);(have q1:(part f.type V f.offset).run P w=.ok (.int k a) w:=by simp [part,g0 f3,f5,f1,bU]);(have aW:(part f.type W f.offset).run P w=.ok (.int k b) w:=by simp [part,g0 f3,f5,f1,b1]);(have cF:(Op.equalIn (d+1) f.type (.int k a) (.int k b)).run P w=.ok (a == b) w:=by rw [Op.equalIn];simp [run_underlying f3]);simp only [vg,f2,if_false,Sem.run_bind,q1,aW,cF,Result.andThen_ok];by_cases jM:a=b
       ·subst jM;simpa using xl
       ·simp [jM]
theorem run_equalIn_struct {t:TypeId} {fs:Array Field} (d:Nat) (ax:P.underlying t=some (.struct fs)) (aP:gS P fs.toList 0=true) (ij:P.stoodInHeld t=false)
  {xs ys:List I} {V W:Array Value} {eq:Bool} (aj:xs.length=fs.size) (aY:ys.length=fs.size) (h:dL xs ys=some eq) (aS:Rel J S w (.agg xs) (.agg V)) (bj:Rel J S w (.agg ys) (.agg W)) :
  (Op.equalIn (d+2) t (.agg V) (.agg W)).run P w=.ok eq w:=by
 rw [Op.equalIn];cases aS with
 | agg xs V ad bU bx q1 =>
   cases bj with
   | agg ys W hw b1 bK aW =>
     have:=Fp (aa:=fun _=>none) (P:=P) (w:=w) (J:=J) (S:=S) d fs.toList xs ys V.toList W.toList 0 eq aP (by simpa using aj) (by simpa using aY) h ⟨by simp [ad],fun i u v a b=>q1 i u v a (by simpa using b),fun i u v a _=>aU.b4 (bU u (sv a))⟩
      ⟨by simp [hw],fun i u v a b=>aW i u v a (by simpa using b),fun i u v a _=>aU.b4 (b1 u (sv a))⟩ V W (by simp) (by simp)
     simp only [run_underlying ax,Sem.run_bind,Result.andThen_ok,program,Sem.run,ij];rw [Array.forIn_toList] at this;simp [this];cases eq <;> simp
theorem Eb {o:Oper} {aV:Operand→Value} {op:BinOp} {t iF:TypeId} {x y:Operand} (aq:o.op=.binOp op t x y iF) {xs ys:List I} {r:I}
  (ai:fo P op t (.agg xs) (.agg ys)=some r) (ab:Rel J S w (.agg xs) (aV x)) (ae:Rel J S w (.agg ys) (aV y)):fb P o aV J S w r:=by
 simp only [fo] at ai;split at ai
 ·rename_i len e ax;split at ai
  ·rename_i dj he gP;split at ai
   ·rename_i ak;obtain ⟨aj,aY,aO⟩:=ak;generalize gk:aV x=cG at ab;generalize mD:aV y=yl at ae;(have e1:∃ V,cG=.agg V:=by cases ab with | agg as vs=>exact ⟨_,rfl⟩);(have b':∃ V,yl=.agg V:=by cases ae with | agg as vs=>exact ⟨_,rfl⟩);obtain ⟨V,rfl⟩:=e1;obtain ⟨W,rfl⟩:=b';have key:∀ eq,dL xs ys=some eq→(Op.equal t (.agg V) (.agg W)).run P w=.ok eq w:=fun eq h=>Fk 9998 ax he gP aj h ab ae;split at ai
    ·simp only [r_] at ai;obtain ⟨eq,h,rfl⟩:=ai;exact ⟨.bool eq,by simp [Go.execOp,aq,gk,mD,eqGuard,aO,Go.binOp,key eq h,program,Sem.run],.bool _⟩
    ·simp only [r_] at ai;obtain ⟨eq,h,rfl⟩:=ai;exact ⟨.bool (!eq),by simp [Go.execOp,aq,gk,mD,eqGuard,aO,Go.binOp,key eq h,program,Sem.run],.bool _⟩
    ·simp at ai
   ·simp at ai
  ·simp at ai
 ·rename_i fs ax;split at ai
  ·rename_i ak;obtain ⟨aP,ij,aj,aY,aO⟩:=ak;generalize gk:aV x=cG at ab;generalize mD:aV y=yl at ae;(have e1:∃ V,cG=.agg V:=by cases ab with | agg as vs=>exact ⟨_,rfl⟩);(have b':∃ V,yl=.agg V:=by cases ae with | agg as vs=>exact ⟨_,rfl⟩);obtain ⟨V,rfl⟩:=e1;obtain ⟨W,rfl⟩:=b';have key:∀ eq,dL xs ys=some eq→(Op.equal t (.agg V) (.agg W)).run P w=.ok eq w:=fun eq h=>run_equalIn_struct 9998 ax aP ij aj aY h ab ae;split at ai
   ·simp only [r_] at ai;obtain ⟨eq,h,rfl⟩:=ai;exact ⟨.bool eq,by simp [Go.execOp,aq,gk,mD,eqGuard,aO,Go.binOp,key eq h,program,Sem.run],.bool _⟩
   ·simp only [r_] at ai;obtain ⟨eq,h,rfl⟩:=ai;exact ⟨.bool (!eq),by simp [Go.execOp,aq,gk,mD,eqGuard,aO,Go.binOp,key eq h,program,Sem.run],.bool _⟩
   ·simp at ai
  ·simp at ai
 ·simp at ai
end
end Go.Proofs.Ytkoioidpbbbaiaa.Ab


namespace Go.Proofs.Ytkoioidpbbbaiaa.Ab
open Go
section
variable {P:Program} {B:Nat} {J:List Nat} {w:World} {H:List ar} {aa:Nat→Option aH} {S:Nat→Nat→Prop}
def eO (J:List Nat) (S:Nat→Nat→Prop) (w:World):Option I→Option Value→Prop
 | none,none=>True
 | some u,some v=>Rel J S w u v
 | _,_=>False
theorem m_ {x:Option I} {v:Option Value} {d y yn r:Nat} (h:cN x d y=some r) (aj:eO J S w x v) (aY:y≤yn) :
  (∃ k n,v=some (.int k n)∧x.isSome∧(∀ code,(Instr.sliceBound (.int k n) yn code).run P w=.ok r w)∧r≤y)∨(v=none∧x=none∧r=d):=by
 unfold cN at h;split at h
 ·cases v with
  | none=>simp at h;exact .inr ⟨rfl,rfl,h.symm⟩
  | some v=>simp [eO] at aj
 ·cases v with
  | none=>simp [eO] at aj
  | some v =>
    have e:=Rel.di aj;subst e;split at h
    ·rename_i af;simp at h;subst h;refine .inl ⟨_,_,rfl,rfl,fun code=>?_,by omega⟩;have ab:=af.1;have ae:_≤(yn:Int):=Int.le_trans af.2 (Int.ofNat_le.2 aY);simp [Instr.sliceBound,asIntOf,ab,ae]
    ·simp at h
 ·simp at h
theorem hV {lo hi:Option I} {lo' hi':Option Value} {isS:Bool} {len cap h l:Nat} (bE:cN hi len len=some h) (ao:cN lo 0 h=some l) (hle:len≤cap)
  (aS:eO J S w lo lo') (bj:eO J S w hi hi'):(Instr.sliceBounds isS len cap lo' hi' none).run P w=.ok (l,h,cap) w∧l≤h∧h≤len:=by
 rcases m_ (P:=P) bE bj hle with ⟨k,n,rfl,_,q,af⟩ | ⟨rfl,_,rfl⟩ <;> rcases m_ (P:=P) ao aS (sc _) with ⟨k',ja,rfl,_,fW,bw⟩ | ⟨rfl,_,rfl⟩ <;>
  refine ⟨?_,by omega,by omega⟩ <;> simp [Instr.sliceBounds, *]
theorem x7 {lo hi gU:Option I} {lo' hi' i':Option Value} {isS:Bool} {len cap m h l:Nat} (hm:cN gU len len=some m) (Dh:gU.isSome) (C5:hi.isSome)
  (bE:cN hi m m=some h) (ao:cN lo 0 h=some l) (hle:len≤cap)
  (aS:eO J S w lo lo') (bj:eO J S w hi hi') (eK:eO J S w gU i'):(Instr.sliceBounds isS len cap lo' hi' i').run P w=.ok (l,h,m) w∧l≤h∧h≤m∧m≤len:=by
 rcases m_ (P:=P) hm eK hle with ⟨k,n,rfl,_,q,af⟩ | ⟨rfl,rfl,_⟩
 ·rcases m_ (P:=P) bE bj (sc _) with ⟨aN,cj,rfl,_,aW,gN⟩ | ⟨rfl,rfl,_⟩
  ·rcases m_ (P:=P) ao aS (sc _) with ⟨k',ja,rfl,_,fW,bw⟩ | ⟨rfl,_,rfl⟩ <;>
    refine ⟨?_,by omega,by omega,by omega⟩ <;> simp [Instr.sliceBounds, *]
  ·simp at C5
 ·simp at Dh
theorem Rel.sub {cells:List I} {b o cap' n k:Nat} {f:Nat→Value} (d:Nat) (dU:hE) (ak:dU=.full→cap'=n) (hle:n≤cap') (hu:∀ z,dU≠.uniq z)
  (h:∀ (j:Nat) (u:I),cells[j]?=some u→S b (o+j)∧w.cell? ⟨b,o+j,none⟩=some (f j)∧u.plain=true∧(f j).oneCell'=true)
  (ai:∀ (j:Nat) (u:I),cells[j]?=some u→Rel J S w u (f j)):Rel J S w (.av ((cells.drop d).take k) n dU) (.slice (some ⟨b,o+d,none⟩) n cap'):=by
 refine .av _ n dU b (o+d) cap' (fun j=>f (d+j)) ak hle hu (fun j u b_=>?_) (fun j u b_=>?_)
 ·rw [sI] at b_;split at b_
  ·rw [sQ] at b_;have:=h (d+j) u b_
   rwa [show o+d+j=o+(d+j) by omega]
  ·simp at b_
 ·rw [sI] at b_;split at b_
  ·rw [sQ] at b_;exact ai (d+j) u b_
  ·simp at b_
theorem Rel.empty (c:hE) (hu:∀ z,c≠.uniq z) (b o cap:Nat) (ak:c=.full→cap=0):Rel J S w (.av [] 0 c) (.slice (some ⟨b,o,none⟩) 0 cap) :=
 .av [] 0 c b o cap (fun _=>undef) ak (Nat.zero_le _) hu (by simp) (by simp)
theorem Fo {t:TypeId} {u r:I} {x:Value} {lo hi gU:Option I} {lo' hi' i':Option Value} (ai:e0 P t u lo hi gU=some r) (aB:u.plain=true)
  (ab:Rel J S w u x) (aS:eO J S w lo lo') (bj:eO J S w hi hi') (eK:eO J S w gU i') :
  ∃ v,(Instr.sliceAt t x lo' hi' i').run P w=.ok v w∧Rel J S w r v∧r.plain=true:=by
 unfold e0 at ai;split at ai
 ·rename_i e cells len c a1;simp only [sf] at ai;obtain ⟨s,ah,ai⟩:=ai;have pl:∀ (cs:List I) (n:Nat) (p:Prop) [Decidable p],(I.av cs n (if p then .full else .shared)).plain=true:=fun cs n p _=>by split <;> rfl
  have pH:∀ (p:Prop) [Decidable p] (z:Nat),(if p then hE.full else hE.shared)≠.uniq z:=fun p _ z=>by split <;> simp
  split at ai
  ·simp only [sf] at ai;obtain ⟨h,bE,l,ao,ai⟩:=ai;simp at ai;subst ai;cases i' with
   | some _=>simp [eO] at eK
   | none =>
   cases ab with
   | b3 c a =>
     obtain ⟨q,q1,aW⟩:=hV (P:=P) (isS:=true) (cap:=0) bE ao (by omega) aS bj;(obtain rfl:h=0:=by omega);(obtain rfl:l=0:=by omega);exact ⟨.slice a 0 0,by cases a <;> simp [Instr.sliceAt,Instr.slice,run_underlying a1,q,run_sizeOf ah,Addr.add],by simpa using .b3 _ _,pl _ _ _⟩
   | cP=>simp [I.plain] at aB
   | av cells len c b o cap f ak hle hu bz b2 =>
     obtain ⟨q,q1,aW⟩:=hV (P:=P) (isS:=true) (cap:=cap) bE ao hle aS bj;refine ⟨_,by simp [Instr.sliceAt,Instr.slice,run_underlying a1,q,run_sizeOf ah];rfl,?_,pl _ _ _⟩;by_cases er:cap=l
     ·(obtain rfl:h=l:=by omega);simp only [er,if_true,tx,vh,ur];exact Rel.empty _ (pH _) _ _ _ (by simp)
     ·simp only [er,if_false,add_lit];refine Rel.sub _ _ (fun he=>?_) (by omega) (pH _) bz b2;split at he
      ·rename_i h8;rw [ak h8.1,h8.2]
      ·simp at he
  ·rename_i G0 GQ;simp only [sf] at ai;obtain ⟨m,hm,h,bE,l,ao,ai⟩:=ai;simp at ai;subst ai;cases ab with
   | b3 c a =>
     obtain ⟨q,q1,aW,cF⟩:=x7 (P:=P) (isS:=true) (cap:=0) hm rfl rfl bE ao (by omega) aS bj eK;(obtain rfl:m=0:=by omega);(obtain rfl:h=0:=by omega);(obtain rfl:l=0:=by omega);exact ⟨.slice a 0 0,by cases a <;> simp [Instr.sliceAt,Instr.slice,run_underlying a1,q,run_sizeOf ah,Addr.add],by simpa using .b3 _ _,pl _ _ _⟩
   | cP=>simp [I.plain] at aB
   | av cells len c b o cap f ak hle hu bz b2 =>
     obtain ⟨q,q1,aW,cF⟩:=x7 (P:=P) (isS:=true) (cap:=cap) hm rfl rfl bE ao hle aS bj eK;refine ⟨_,by simp [Instr.sliceAt,Instr.slice,run_underlying a1,q,run_sizeOf ah];rfl,?_,pl _ _ _⟩;by_cases er:m=l
     ·(obtain rfl:h=l:=by omega);simp only [er,if_true,tx,vh,ur];exact Rel.empty _ (by simp) _ _ _ (by simp)
     ·simp only [er,if_false,add_lit];refine Rel.sub _ _ (fun he=>?_) (by omega) (pH _) bz b2;split at he
      ·rename_i h8;rw [h8]
      ·simp at he
  ·simp at ai
 ·rename_i e id off len cap bb a1;simp only [sf] at ai;obtain ⟨s,ah,ai⟩:=ai;split at ai
  ·simp at ai
  ·rename_i bR;(obtain rfl:s=bb:=by simpa using bR);split at ai
   ·simp only [sf] at ai;obtain ⟨h,bE,l,ao,ai⟩:=ai;cases i' with
    | some _=>simp [eO] at eK
    | none =>
    cases ab with
    | ref id off len c bb b cap' af ak hle =>
      obtain ⟨q,q1,aW⟩:=hV (P:=P) (isS:=true) (cap:=cap') bE ao hle aS bj;split at ai
      ·rename_i GX;simp at ai;subst ai
       have:cap'≠l:=by omega
       refine ⟨_,by simp [Instr.sliceAt,Instr.slice,run_underlying a1,q,run_sizeOf ah,this,add_lit];rfl,.ref _ _ _ _ _ b _ af (fun n aI=>?_) (by omega),rfl⟩;simp only [r_] at aI;obtain ⟨g9,CM,rfl⟩:=aI;rw [ak g9 CM]
      ·simp at ai;subst ai;(obtain rfl:h=l:=by omega);refine ⟨_,by simp [Instr.sliceAt,Instr.slice,run_underlying a1,q,run_sizeOf ah];rfl,?_,rfl⟩;split
       ·exact Rel.empty _ (by simp) _ _ _ (by simp)
       ·simp only [add_lit];exact Rel.empty _ (by simp) _ _ _ (by simp)
   ·simp only [sf] at ai;obtain ⟨m,hm,h,bE,l,ao,ai⟩:=ai;cases ab with
    | ref id off len c bb b cap' af ak hle =>
      obtain ⟨q,q1,aW,cF⟩:=x7 (P:=P) (isS:=true) (cap:=cap') hm rfl rfl bE ao hle aS bj eK;split at ai
      ·rename_i er;split at ai
       ·rename_i jU;simp at ai;subst ai;refine ⟨_,by simp [Instr.sliceAt,Instr.slice,run_underlying a1,q,run_sizeOf ah,er];rfl,.ref _ _ _ _ _ b _ af (fun n aI=>by simpa [er] using aI) (by omega),rfl⟩
       ·simp at ai
      ·rename_i er;simp at ai;subst ai;exact ⟨_,by simp [Instr.sliceAt,Instr.slice,run_underlying a1,q,run_sizeOf ah,er,add_lit];rfl,.ref _ _ _ _ _ b _ af (fun n aI=>by simpa using aI) (by omega),rfl⟩
   ·simp at ai
 ·rename_i n e id off a1;simp only [sf] at ai;obtain ⟨s,ah,ai⟩:=ai;split at ai
  ·simp only [sf] at ai;obtain ⟨h,bE,l,ao,ai⟩:=ai;cases i' with
   | some _=>simp [eO] at eK
   | none =>
   cases ab with
   | ptr id off b af =>
     obtain ⟨q,q1,aW⟩:=hV (P:=P) (isS:=false) (cap:=n) bE ao (sc _) aS bj;split at ai
     ·simp at ai
     ·rename_i er;simp at ai;subst ai;exact ⟨_,by simp [Instr.sliceAt,Instr.sureAddr,run_underlying a1,q,run_sizeOf ah,er,add_lit];rfl,.ref _ _ _ _ _ b _ af (fun n aI=>by simpa using aI) (by omega),rfl⟩
  ·simp at ai
 ·simp at ai
end
end Go.Proofs.Ytkoioidpbbbaiaa.Ab


namespace Go.Proofs.Ytkoioidpbbbaiaa.Ab
open Go
section
variable {P:Program} {B:Nat} {J:List Nat} {w:World} {H:List ar} {aa:Nat→Option aH} {S:Nat→Nat→Prop}
theorem gC.frame {ay:Nat→Option aH} {bV:List Nat} {S':Nat→Nat→Prop} {w':World} (bN:Ext J bV)
  (cp:∀ b o,S b o→S' b o∧w'.cell? ⟨b,o,none⟩=w.cell? ⟨b,o,none⟩) {id:Nat}
  (al:∀ b l,aa b=some l→(l=.obj id∨∃ j,l=.cell id j)→ay b=some l∧w'.heap[b]?=w.heap[b]?∧∀ o,S' b o→S b o)
  {o:ar} (h:gC aa J S w id o):gC ay bV S' w' id o:=by
 cases o with
 | dead=>trivial
 | cells l =>
   obtain ⟨b,cur,e,aA,aG,aT,br,bg,bd⟩:=h;obtain ⟨aJ,aN,cb⟩:=al b _ aG (.inl rfl);refine ⟨b,cur,e,bN _ _ aA,aJ,aN.trans aT,br,fun o ah=>bg o (cb o ah),fun j u v hu ad=>?_⟩;obtain ⟨a7,g9,a9,bt⟩:=bd j u v hu ad;exact ⟨a7,g9,a9.mono bN cp,bt.mono bN cp fun b af=>al b _ af (.inr ⟨j,rfl⟩)⟩
 | grow l gid z =>
   obtain ⟨b,cur,e,aA,aG,aT,br,bg,bd,cap,dd,dy⟩:=h;obtain ⟨aJ,aN,cb⟩:=al b _ aG (.inl rfl);refine ⟨b,cur,e,bN _ _ aA,aJ,aN.trans aT,br,fun o ah=>bg o (cb o ah),fun j u v hu ad=>?_,cap,bN _ _ dd,dy⟩;obtain ⟨a7,g9,a9,bt⟩:=bd j u v hu ad;exact ⟨a7,g9,a9.mono bN cp,bt.mono bN cp fun b af=>al b _ af (.inr ⟨j,rfl⟩)⟩
 | loop st cL fn T params assign body jD =>
   obtain ⟨aj,aY,b,L,aA,aG,aT,br,bg,bd,dd,dy,dS⟩:=h;obtain ⟨aJ,aN,cb⟩:=al b _ aG (.inl rfl);exact ⟨aj,aY,b,L,bN _ _ aA,aJ,aN.trans aT,br,bg,bd,dd,fun i u v hu ad=>⟨(dy i u v hu ad).1,(dy i u v hu ad).2.mono bN cp⟩,dS⟩
 | map es clock =>
   obtain ⟨b,bB,aA,aG,aT,br,bg,bd⟩:=h;obtain ⟨aJ,aN,cb⟩:=al b _ aG (.inl rfl)
   exact ⟨b,bB,bN _ _ aA,aJ,aN.trans aT,br,fun o ah=>bg o (cb o ah),fun j i k v x hu ad =>
    let ⟨a7,a9,bt,b6,dV⟩:=bd j i k v x hu ad;⟨a7,a9,bt.mono bN cp,b6,dV.mono bN cp⟩⟩
 | iter m s e t =>
   obtain ⟨b,ec,aA,aG,aT,br,bg⟩:=h;obtain ⟨aJ,aN,cb⟩:=al b _ aG (.inl rfl);exact ⟨b,ec,bN _ _ aA,aJ,bN _ _ aT,aN.trans br,fun o ah=>bg o (cb o ah)⟩
theorem aK.frame {ay:Nat→Option aH} {S':Nat→Nat→Prop} {w':World} (ag:aK B aa J S w H) (az:bl aa S w ay S' w')
  (al:∀ b l,aa b=some l→((∃ id,l=.obj id)∨∃ id j,l=.cell id j)→ay b=some l∧w'.heap[b]?=w.heap[b]?∧∀ o,S' b o→S b o)
  (aF:∀ b o,S' b o→∃ v,w'.cell? ⟨b,o,none⟩=some v) (a_:∀ b l,ay b=some l→B≤b∧b<w'.heap.size):aK B ay J S' w' H :=
 ⟨ag.cK,fun id o aq=>(ag.obj id o aq).frame (Ext.refl J) az.set (fun b l af ao=>al b l af (by
  rcases ao with rfl | ⟨j,rfl⟩
  ·exact .inl ⟨id,rfl⟩
  ·exact .inr ⟨id,j,rfl⟩)),aF,a_,sT ag.c0 az.size⟩
theorem aK.push (ag:aK B aa J S w H) (n:Nat) {o:ar} (aq:gC aa (J++[n]) S w H.length o):aK B aa (J++[n]) S w (H++[o]) where
 cK:=by simp [ag.cK]
 obj id cz h:=by
  rcases uG id H.length with aR | rfl | GO
  ·rw [sg aR] at h;exact (ag.obj id cz h).frame (Ext.append J [n]) (fun b o ah=>⟨ah,rfl⟩) fun b l af _=>⟨af,rfl,fun o ah=>ah⟩
  ·simp at h;subst h;exact aq
  ·rw [ss (by omega)] at h
   have:id-H.length≠0:=by omega
   obtain ⟨k,al⟩:=Nat.exists_eq_succ_of_ne_zero this;rw [al] at h;simp at h
 cd:=ag.cd
 base:=ag.base
 c0:=ag.c0
theorem aK.oR (ag:aK B aa J S w H) {id:Nat} {l:List I} {g z:Nat} (aE:H[id]?=some (.grow l g z)):aK B aa J S w (H.set id (.cells l)):=by
 refine ⟨by simpa using ag.cK,fun bC o aq=>?_,ag.cd,ag.base,ag.c0⟩;by_cases cx:bC=id
 ·subst cx;rw [sk (sa.1 aE).1] at aq;cases aq;obtain ⟨b,cur,e,aA,aG,aT,br,bg,bd,_⟩:=ag.obj bC _ aE;exact ⟨b,cur,e,aA,aG,aT,br,bg,bd⟩
 ·rw [sd (Ne.symm cx)] at aq;exact ag.obj bC o aq
theorem aK.xQ (ag:aK B aa J S w H) {id:Nat} {l:List I} {g z b cap:Nat} {cur:Array Value} {e:TypeId} (aE:H[id]?=some (.cells l)) (af:J[id]?=some b) (aO:J[g]?=some cap)
  (hm:cap≤maxLen) (bk:0<z) (ak:w.heap[b]?=some (.cells cur e (0,0))) (ah:cur.size=cap*z):aK B aa J S w (H.set id (.grow l g z)):=by
 refine ⟨by simpa using ag.cK,fun bC o aq=>?_,ag.cd,ag.base,ag.c0⟩;by_cases cx:bC=id
 ·subst cx;rw [sk (sa.1 aE).1] at aq;cases aq;obtain ⟨au,cur',cV,aA,aG,aT,br,bg,bd⟩:=ag.obj bC _ aE;rw [af] at aA;cases aA;rw [ak] at aT;cases aT;exact ⟨b,cur,e,af,aG,ak,br,bg,bd,cap,aO,hm,bk,ah⟩
 ·rw [sd (Ne.symm cx)] at aq;exact ag.obj bC o aq
def lay (aa:Nat→Option aH) (n:Nat) (l:aH):Nat→Option aH:=fun b=>if b=n then some l else aa b
theorem o6 (o:Obj) {b i:Nat} (af:b<w.heap.size):(w.alloc o).cell? ⟨b,i,none⟩=w.cell? ⟨b,i,none⟩:=by
 have:(w.alloc o).heap[b]?=w.heap[b]?:=heap_alloc_old w o b af
 unfold World.cell?;simp only [this]
theorem kA (ag:aK B aa J S w H) (o:Obj) (l:aH):bl aa S w (lay aa w.heap.size l) S (w.alloc o) where
 os:=rfl
 tape:=rfl
 output:=rfl
 size:=by simp
 cE b af _:=heap_alloc_old w o b af
 set b cz ah:=⟨ah,by obtain ⟨v,ad⟩:=ag.cd b cz ah;exact o6 o (mR ad)⟩
 fresh _ _ ah:=.inl ah
 own b af:=by
  unfold lay at af;split at af
  ·rename_i h;exact .inr (by omega)
  ·exact .inl af
theorem nV (ag:aK B aa J S w H) (o:Obj) (l:aH):aK B (lay aa w.heap.size l) J S (w.alloc o) H:=by
 have az:=kA ag o l;refine ag.frame az (fun b l' af _=>?_) (fun b cz ah=>?_) (fun b l' af=>?_)
 ·have:=(ag.base b l' af).2;exact ⟨by simp [lay,show b≠w.heap.size by omega,af],heap_alloc_old w o b this,fun o ah=>ah⟩
 ·obtain ⟨v,ad⟩:=ag.cd b cz ah;exact ⟨v,((az.set b cz ah).2).trans ad⟩
 ·unfold lay at af;split at af
  ·rename_i h;subst h;exact ⟨ag.c0,by simp⟩
  ·have:=ag.base b l' af;exact ⟨this.1,by simp;omega⟩
theorem kz (aa:Nat→Option aH) (S:Nat→Nat→Prop) (w:World):bl aa S w aa S w.drew :=
 ⟨rfl,rfl,rfl,sc _,fun _ _ _=>rfl,fun _ _ h=>⟨h,rfl⟩,fun _ _ h=>.inl h,fun _ h=>.inl h⟩
theorem mA (ag:aK B aa J S w H):aK B aa J S w.drew H :=
 ag.frame (kz aa S w) (fun _ _ af _=>⟨af,rfl,fun _ h=>h⟩) ag.cd ag.base
theorem mX (ag:aK B aa J S w H) (o:Nat):¬ S w.heap.size o:=fun ah=>by
 obtain ⟨v,ad⟩:=ag.cd _ o ah;exact absurd (mR ad) (Nat.lt_irrefl _)
structure c5 (J:List Nat) (S:Nat→Nat→Prop) (w:World) (cs:List I) (vs:List Value):Prop where
 len:cs.length=vs.length
 rel:∀ (j:Nat) (u:I) (v:Value),cs[j]?=some u→vs[j]?=some v→u.plain=true∧v.oneCell'=true∧Rel J S w u v
theorem c5.mono {bV:List Nat} {S':Nat→Nat→Prop} {w':World} {cs:List I} {vs:List Value} (h:c5 J S w cs vs) (bN:Ext J bV)
  (cp:∀ b o,S b o→S' b o∧w'.cell? ⟨b,o,none⟩=w.cell? ⟨b,o,none⟩):c5 bV S' w' cs vs :=
 ⟨h.len,fun j u v hu ad=>let ⟨a,b,c⟩:=h.rel j u v hu ad;⟨a,b,c.mono bN cp⟩⟩
theorem c5.append {a b:List I} {c d:List Value} (h:c5 J S w a c) (k:c5 J S w b d):c5 J S w (a++b) (c++d):=by
 refine ⟨by simp [h.len,k.len],fun j u v hu ad=>?_⟩;rcases sL j a.length with aw | aw
 ·rw [sg aw] at hu;rw [sg (h.len ▸ aw)] at ad;exact h.rel j u v hu ad
 ·rw [ss aw] at hu;rw [ss (h.len ▸ aw),←h.len] at ad;exact k.rel _ u v hu ad
theorem ob (ag:aK B aa J S w H) {cs:List I} {vs:List Value} (ak:c5 J S w cs vs) (spare:List Value) (e:TypeId) (len cap z:Nat) (bk:0<z) (ao:cs.length=len*z)
  (px:len≤cap) (hm:cap≤maxLen) (ah:vs.length+spare.length=cap*z) :
  aZ B aa J S w H (.av cs len (.uniq z)) (.slice (some ⟨w.heap.size,0,none⟩) len cap) (w.alloc (.cells (vs++spare).toArray e)):=by
 have az:=kA ag (.cells (vs++spare).toArray e) .res;refine ⟨_,J,S,Ext.refl J,az,nV ag _ .res,.cP _ _ _ _ _ _,.inr ⟨by simp [lay],rfl,px,hm,bk,ao,⟨_,e,heap_alloc_new w _,by simp [ah],fun j u v hu ad=>?_⟩,mX ag⟩⟩;have aw:j<vs.length:=ak.len ▸ (sa.1 hu).1;have bh:vs[j]?=some v:=by simpa [sg aw] using ad
 obtain ⟨a,b,c⟩:=ak.rel j u v hu bh;exact ⟨a,b,c.mono (Ext.refl J) az.set⟩
end
end Go.Proofs.Ytkoioidpbbbaiaa.Ab


namespace Go.Proofs.Ytkoioidpbbbaiaa.Ab
open Go
section
variable {P:Program} {B:Nat} {J:List Nat} {w:World} {H:List ar} {aa:Nat→Option aH} {S:Nat→Nat→Prop}
theorem A2 {t:TypeId} {cs:List I} {b base off:Nat} {g:Nat→Value} {r:I}
  (ak:∀ (j:Nat) (u:I),cs[j]?=some u→w.cell? ⟨b,base+j,none⟩=some (g j)∧(g j).oneCell'=true∧Rel J S w u.view (g j)) (ai:e6 P t cs off=some r) :
  ∃ v,(loadVar t ⟨b,base+off,none⟩).run P w=.ok v w∧Rel J S w r v∧r.plain=true:=by
 unfold e6 at ai;cases cq:dK P t with
 | true =>
   obtain ⟨d,a1⟩:=zz cq;rw [cq] at ai;simp only [sf] at ai;obtain ⟨s,ah,ai⟩:=ai;split at ai
   ·rename_i hle;simp only [Option.some.injEq] at ai;subst ai;have bz:∀ j,j<s→w.cell? ((⟨b,base+off,none⟩:Addr).add j)=some (g (off+j)):=fun j aw=>by
     (have aR:off+j<cs.length:=by omega);rw [add_lit,td];exact (ak (off+j) _ (si aR)).1
    have ao:=run_loadCells (P:=P) (w:=w) ⟨b,base+off,none⟩ s (fun j=>g (off+j)) bz;refine ⟨_,by simp only [loadVar,Sem.run_bind,g0 a1,cq,Result.andThen_ok,if_true,run_sizeOf ah,ao];rfl,.agg _ _ ?_ ?_ ?_ ?_,rfl⟩
    ·simp;omega
    ·intro u hu;obtain ⟨x,_,rfl⟩:=sC.1 hu;exact I.dm x
    ·intro v ad;obtain ⟨j,aw,rfl⟩:=sC.1 ad;have aw:=List.mem_range.1 aw;(have aR:off+j<cs.length:=by omega);exact (ak (off+j) _ (si aR)).2.1
    ·intro j u v hu ad;simp only [sm,r_] at hu;obtain ⟨x,aj,rfl⟩:=hu;rw [sI] at aj;split at aj
     ·rename_i aw;rw [sQ] at aj;simp [aw] at ad;subst ad;exact (ak (off+j) x aj).2.2
     ·simp at aj
   ·simp at ai
 | false =>
   rw [cq] at ai;simp only at ai;split at ai
   ·rename_i d a1;simp only [r_] at ai;obtain ⟨u,hu,rfl⟩:=ai;obtain ⟨ab,ae,aF⟩:=ak off u hu;exact ⟨g off,by simp [loadVar,g0 a1,cq,load,Sem.run,ab],aF,I.dm u⟩
   ·simp at ai
theorem jk (ag:aK B aa J S w H) {t:TypeId} {a r:I} {v:Value} (ai:dz P H t a=some r) (ab:Rel J S w a v) :
  ∃ x,(Instr.loadAt t v).run P w=.ok x w∧Rel J S w r x∧r.plain=true:=by
 unfold dz at ai;split at ai
 ·rename_i id off
  have key:∀ l:List I,(∃ b cur e,J[id]?=some b∧aa b=some (.obj id)∧w.heap[b]?=some (.cells cur e (0,0))∧l.length≤cur.size∧(∀ o,¬ S b o) ∧
    ∀ (j:Nat) (u:I) (v:Value),l[j]?=some u→cur[j]?=some v→u.cW=true∧v.oneCell'=true∧Rel J S w u v∧aU aa J S w (.cell id j) u v)→e6 P t l off=some r →
    ∃ x,(Instr.loadAt t v).run P w=.ok x w∧Rel J S w r x∧r.plain=true:=by
   rintro l ⟨b,cur,e,aA,aG,aT,br,bg,bd⟩ ai;cases ab with
   | ptr id off au af =>
     rw [aA] at af;cases af;have facts:∀ (j:Nat) (u:I),l[j]?=some u→w.cell? ⟨b,0+j,none⟩=some (cur.getD j undef)∧(cur.getD j undef).oneCell'=true∧Rel J S w u.view (cur.getD j undef):=by
      intro j u hu;(have aw:j<cur.size:=by have:=(sa.1 hu).1;omega);have c8:cur[j]?=some cur[j]:=sr _;obtain ⟨a7,g9,a9,_⟩:=bd j u _ hu c8;(have aO:cur.getD j undef=cur[j]:=by simp [Array.getD,aw]);rw [aO];exact ⟨by rw [cell_of_row w b _ cur e (0,0) aT,sB,c8],g9,a9.view a7⟩
     obtain ⟨x,aj,b2⟩:=A2 facts ai;rw [sB] at aj;exact ⟨x,by simp [Instr.loadAt,Instr.sureAddr,aj],b2⟩
  split at ai
  ·rename_i l aE;exact key l (ag.obj id _ aE) ai
  ·rename_i l g z aE;obtain ⟨b,cur,e,aA,aG,aT,br,bg,bd,_⟩:=ag.obj id _ aE;exact key l ⟨b,cur,e,aA,aG,aT,br,bg,bd⟩ ai
  ·simp at ai
 ·cases ab with
  | bS cells b o f h fu =>
    obtain ⟨x,aj,b2⟩:=A2 (J:=J) (S:=S) (w:=w) (b:=b) (base:=o) (g:=f) (fun j u hu=>⟨(h j u hu).2.1,(h j u hu).2.2.2,(fu j u hu).view (I.fx (h j u hu).2.2.1)⟩) ai;rw [ti] at aj;exact ⟨x,by simp [Instr.loadAt,Instr.sureAddr,aj],b2⟩
 ·simp at ai
theorem o7 (ag:aK B aa J S w H) {l:aH} (b7:∀ id,l≠.obj id) (cj:∀ id j,l≠.cell id j) {u:I} {v:Value} {vc:List I} (ak:u.cells=some vc) (ai:Rel J S w u v) (aq:aU aa J S w l u v) :
  ∃ S':Nat→Nat→Prop,(∀ b o,S b o→S' b o)∧(∀ b o,S' b o→S b o∨aa b=some l)∧aK B aa J S' w H∧v.cells.size=vc.length ∧
    (∀ x∈v.cells.toList,x.oneCell'=true) ∧
    ∀ (j:Nat) (bH:I) (bo:Value),(vc.map I.settle)[j]?=some bH→v.cells[j]?=some bo→bH.cW=true∧Rel J S' w bH bo∧(bH.plain=true∨(j=0∧vc=[u]∧aU aa J S' w l bH bo)):=by
 have single:vc=[u]→v.cells=#[v]→v.oneCell'=true→∃ S':Nat→Nat→Prop,(∀ b o,S b o→S' b o)∧(∀ b o,S' b o→S b o∨aa b=some l)∧aK B aa J S' w H∧v.cells.size=vc.length ∧
   (∀ x∈v.cells.toList,x.oneCell'=true) ∧
   ∀ (j:Nat) (bH:I) (bo:Value),(vc.map I.settle)[j]?=some bH→v.cells[j]?=some bo→bH.cW=true∧Rel J S' w bH bo∧(bH.plain=true∨(j=0∧vc=[u]∧aU aa J S' w l bH bo)):=by
  intro fO ad ab;subst fO;rw [ad];by_cases hu:u.cW=true
  ·refine ⟨S,fun _ _ h=>h,fun _ _ h=>.inl h,ag,rfl,by simp [ab],fun j bH bo aw ef=>?_⟩;have ah:u.settle=u:=by
    unfold I.settle;split
    ·simp [I.cW] at hu
    ·rfl
   cases j with
   | zero=>simp [ah] at aw ef;subst aw ef;exact ⟨hu,ai,.inr ⟨rfl,rfl,aq⟩⟩
   | succ j=>simp at aw
  ·obtain ⟨cells,len,z,rfl⟩:∃ cells len z,u=.av cells len (.uniq z):=by
    unfold I.cW at hu;split at hu
    ·exact ⟨_,_,_,rfl⟩
    ·simp at hu
   obtain ⟨a4,aJ,aN,cb,_,bj,eK⟩:=kh ag ai aq;refine ⟨a4,aJ,aN,ag.settle aJ (fun b o h=>(aN b o h).imp id fun h=>⟨_,h,b7,cj⟩) cb,rfl,by simp [ab],fun j bH bo aw ef=>?_⟩;cases j with
   | zero=>simp [I.settle] at aw ef;subst aw ef;exact ⟨rfl,bj,.inr ⟨rfl,rfl,eK⟩⟩
   | succ j=>simp at aw
 cases ai with
 | agg as vs h p one r =>
   simp [I.cells] at ak;subst ak;refine ⟨S,fun _ _ h=>h,fun _ _ h=>.inl h,ag,h,one,fun j bH bo aw ef=>?_⟩;simp only [sm,r_] at aw;obtain ⟨x,aj,rfl⟩:=aw;have aB:=p x (sv aj);have ah:x.settle=x:=by
    unfold I.settle;split
    ·simp [I.plain] at aB
    ·rfl
   rw [ah];exact ⟨I.fx aB,r j x bo aj ef,.inl aB⟩
 | a0 v=>simp [I.cells] at ak
 | tuple as vs h p r=>simp [I.cells] at ak
 | raw=>simp [I.cells] at ak
 | c3=>simp [I.cells] at ak
 | _=>simp [I.cells] at ak;exact single ak.symm rfl rfl
theorem Ext.last (ag:aK B aa J S w H) (n:Nat):(J++[n])[H.length]?=some n:=by rw [←ag.cK];simp
theorem oa (ag:aK B aa J S w H) (l:aH) (b7:∀ id,l≠.obj id) (cj:∀ id j,l≠.cell id j) {cs:List I} {vs:Array Value} (e:TypeId) (hlen:cs.length≤vs.size)
  (ak:∀ (j:Nat) (u:I) (v:Value),cs[j]?=some u→vs[j]?=some v→u.cW=true∧v.oneCell'=true∧Rel J S w u v∧(u.plain=true∨(j=0∧aU aa J S w l u v))) :
  ∃ ay,bl aa S w ay S (w.alloc (.cells vs e))∧aK B ay (J++[w.heap.size]) S (w.alloc (.cells vs e)) (H++[.cells cs]):=by
 classical
 let ay:Nat→Option aH:=fun b=>if b=w.heap.size then some (.obj H.length) else if aa b=some l then some (.cell H.length 0) else aa b
 have bJ:∀ b l',aa b=some l'→b≠w.heap.size:=fun b l' h=>by have:=(ag.base b l' h).2;omega
 have az:bl aa S w ay S (w.alloc (.cells vs e)):=by
  have gb:=kA ag (.cells vs e) (.obj H.length);refine ⟨gb.os,gb.tape,gb.output,gb.size,gb.cE,gb.set,gb.fresh,fun b af=>?_⟩;by_cases h:b=w.heap.size
  ·exact .inr (by omega)
  ·refine .inl fun aQ=>af ?_;simp [ay,h,aQ]
 have bW:aK B ay J S (w.alloc (.cells vs e)) H:=by
  refine ag.frame az (fun b l' af ao=>?_) (fun b o ah=>?_) (fun b l' af=>?_)
  ·have h:=bJ b l' af;(have c':l'≠l:=by rcases ao with ⟨id,rfl⟩ | ⟨id,j,rfl⟩ <;> intro e <;> first | exact b7 _ e.symm | exact cj _ _ e.symm);refine ⟨?_,heap_alloc_old w _ b (ag.base b l' af).2,fun o ah=>ah⟩;simp [ay,h,af,c']
  ·obtain ⟨v,ad⟩:=ag.cd b o ah;exact ⟨v,((az.set b o ah).2).trans ad⟩
  ·by_cases h:b=w.heap.size
   ·subst h;exact ⟨ag.c0,by simp⟩
   ·have:∃ cy,aa b=some cy:=by
     cases aQ:aa b with
     | none=>simp [ay,h,aQ] at af
     | some cy=>exact ⟨cy,rfl⟩
    obtain ⟨cy,aQ⟩:=this;have:=ag.base b cy aQ;exact ⟨this.1,by simp;omega⟩
 refine ⟨ay,az,bW.push w.heap.size ⟨w.heap.size,vs,e,Ext.last ag _,by simp [ay],heap_alloc_new w _,hlen,mX ag,fun j u v hu ad=>?_⟩⟩;obtain ⟨a7,a9,bt,b6⟩:=ak j u v hu ad;refine ⟨a7,a9,bt.mono (Ext.append J _) az.set,?_⟩;rcases b6 with b6 | ⟨rfl,b6⟩
 ·exact aU.b4 b6
 ·refine b6.mono (Ext.append J _) az.set fun b af=>⟨?_,heap_alloc_old w _ b (ag.base b l af).2,fun o ah=>ah⟩;simp [ay,bJ b l af,af]
theorem FL (ag:aK B aa J S w H) {l:aH} (b7:∀ id,l≠.obj id) (cj:∀ id j,l≠.cell id j) {u:I} {v:Value} {vc:List I} (ak:u.cells=some vc) (ai:Rel J S w u v) (aq:aU aa J S w l u v) (e:TypeId) :
  ∃ x w',(Instr.box e v).run P w=.ok x w'∧aZ B aa J S w (H++[.cells (vc.map I.settle)]) (.ptr H.length 0) x w':=by
 obtain ⟨S',aJ,aN,b9,bR,et,c1⟩:=o7 ag b7 cj ak ai aq
 obtain ⟨ay,az,jJ⟩:=oa (cs:=vc.map I.settle) (vs:=v.cells) b9 l b7 cj e (by simp [bR]) (fun j bH bo hu ad=>by
  obtain ⟨aA,aG,aT⟩:=c1 j bH bo hu ad
  exact ⟨aA,et bo (by simpa using uw ad),aG,aT.imp id fun ⟨x,_,y⟩=>⟨x,y⟩⟩)
 refine ⟨.pointer (some ⟨w.heap.size,0,none⟩),w.alloc (.cells v.cells e),?_,ay,_,S',Ext.append J _,(bl.settle aJ (fun b o h=>(aN b o h).imp id fun h=>⟨_,h⟩)).trans az,jJ,
  .ptr _ _ _ (Ext.last ag _),aU.b4 rfl⟩
 simp [Instr.box,newVar,newRow,newObj,Sem.run,World.alloc_eq]
theorem FM (ag:aK B aa J S w H) {u:I} {v:Value} {vc:List I} (ak:u.cells=some vc) (aB:vc.all I.plain=true) (ai:Rel J S w u v) (e:TypeId) :
  ∃ x w',(Instr.box e v).run P w=.ok x w'∧aZ B aa J S w H (.bS vc) x w':=by
 rw [sq] at aB;have CO:v.cells.size=vc.length∧(∀ x∈v.cells.toList,x.oneCell'=true)∧∀ (j:Nat) (bH:I) (bo:Value),vc[j]?=some bH→v.cells[j]?=some bo→Rel J S w bH bo:=by
  have single:vc=[u]→v.cells=#[v]→v.oneCell'=true→v.cells.size=vc.length∧(∀ x∈v.cells.toList,x.oneCell'=true)∧∀ (j:Nat) (bH:I) (bo:Value),vc[j]?=some bH→v.cells[j]?=some bo→Rel J S w bH bo:=by
   intro fO ad ab;subst fO;rw [ad];refine ⟨rfl,by simp [ab],fun j bH bo aw ef=>?_⟩;cases j with
   | zero=>simp at aw ef;subst aw ef;exact ai
   | succ j=>simp at aw
  cases ai with
  | agg as vs h p one r =>
    simp [I.cells] at ak;subst ak;exact ⟨h,one,r⟩
  | a0 v=>simp [I.cells] at ak
  | tuple as vs h p r=>simp [I.cells] at ak
  | raw=>simp [I.cells] at ak
  | c3=>simp [I.cells] at ak
  | _=>simp [I.cells] at ak;exact single ak.symm rfl rfl
 obtain ⟨bR,et,c1⟩:=CO
 let S':Nat→Nat→Prop:=fun b o=>S b o∨(b=w.heap.size∧o<vc.length)
 have hnew:(w.alloc (.cells v.cells e)).heap[w.heap.size]?=some (.cells v.cells e (0,0)):=heap_alloc_new w _;have bz:∀ o,(w.alloc (.cells v.cells e)).cell? ⟨w.heap.size,o,none⟩=v.cells[o]?:=fun o=>cell_of_row _ _ o v.cells e (0,0) hnew;have hold:∀ b o,S b o→(w.alloc (.cells v.cells e)).cell? ⟨b,o,none⟩=w.cell? ⟨b,o,none⟩:=fun b o ah=>by
  obtain ⟨x,aj⟩:=ag.cd b o ah;exact o6 _ (mR aj)
 have az:bl aa S w aa S' (w.alloc (.cells v.cells e)):=by
  refine ⟨rfl,rfl,rfl,by simp,fun b af _=>heap_alloc_old w _ b af,fun b o ah=>⟨.inl ah,hold b o ah⟩,fun b o ah=>?_,fun b af=>.inl af⟩;rcases ah with ah | ⟨rfl,_⟩
  ·exact .inl ah
  ·exact .inr (.inr (sc _))
 refine ⟨.pointer (some ⟨w.heap.size,0,none⟩),w.alloc (.cells v.cells e),by simp [Instr.box,newVar,newRow,newObj,Sem.run,World.alloc_eq],aa,J,S',Ext.refl J,az,ag.frame az (fun b l af _=>?_) (fun b o ah=>?_) (fun b l af=>?_),
  .bS _ _ _ (fun j=>v.cells.getD j undef) (fun j bH aw=>?_) (fun j bH aw=>?_),aU.b4 rfl⟩
 ·have aR:=(ag.base b l af).2;exact ⟨af,heap_alloc_old w _ b aR,fun o ah=>ah.resolve_right fun h=>by omega⟩
 ·rcases ah with ah | ⟨rfl,aq⟩
  ·obtain ⟨x,aj⟩:=ag.cd b o ah;exact ⟨x,(hold b o ah).trans aj⟩
  ·exact ⟨_,(bz o).trans (sr (by omega))⟩
 ·have:=ag.base b l af;exact ⟨this.1,by simp;omega⟩
 ·have aR:=(sa.1 aw).1;have ef:v.cells[j]?=some (v.cells.getD j undef):=by simp [Array.getD,bR,aR]
  rw [sB];exact ⟨.inr ⟨rfl,aR⟩,(bz j).trans ef,aB bH (sv aw),et _ (by simpa using uw ef)⟩
 ·have aR:=(sa.1 aw).1;have ef:v.cells[j]?=some (v.cells.getD j undef):=by simp [Array.getD,bR,aR]
  exact (c1 j bH _ aw ef).mono (Ext.refl J) az.set
theorem GF {t:TypeId} {z:List I} (h:zeroCells P t=some z):∃ i v,P.info? t=some i∧i.zero=some v∧z=v.cells.toList.map hH∧∀ x∈v.cells.toList,x.oneCell'=true:=by
 simp only [zeroCells,sf] at h;obtain ⟨v,⟨i,hi,ad⟩,h⟩:=h;split at h
 ·rename_i c1;simp at h;exact ⟨i,v,hi,ad,h.symm,sq.1 c1⟩
 ·simp at h
theorem hD {t:TypeId} {z:List I} (h:zeroCells P t=some z):∃ i v,P.info? t=some i∧i.zero=some v∧c5 J S w z v.cells.toList:=by
 obtain ⟨i,v,hi,ad,rfl,et⟩:=GF h;refine ⟨i,v,hi,ad,by simp,fun j u bo hu bh=>?_⟩;simp only [sm,bh,se,Option.some.injEq] at hu;subst hu;exact ⟨nt _,et bo (sv bh),lP _ _ _ _⟩
theorem jl {t:TypeId} {i:TypeInfo} {v:Value} (hi:P.info? t=some i) (ad:i.zero=some v):(zeroValue t).run P w=.ok v w:=by
 simp [zeroValue,typeInfo,hi,ad]
theorem FH (ag:aK B aa J S w H) {t:TypeId} {z:List I} (bk:zeroCells P t=some z) (fT:Value) :
  ∃ x w',(Instr.alloc t true fT).run P w=.ok x w'∧aZ B aa J S w (H++[.cells z]) (.ptr H.length 0) x w':=by
 obtain ⟨i,v,hi,ad,ak⟩:=hD (J:=J) (S:=S) (w:=w) bk
 obtain ⟨ay,az,b9⟩:=oa (cs:=z) (vs:=v.cells) ag .res (by simp) (by simp) t (by have:=ak.len;simp at this;omega) (fun j u bo hu bh=>by
  obtain ⟨a,b,c⟩:=ak.rel j u bo hu (by simpa using bh)
  exact ⟨I.fx a,b,c,.inl a⟩)
 refine ⟨.pointer (some ⟨w.heap.size,0,none⟩),w.alloc (.cells v.cells t),?_,ay,_,S,Ext.append J _,az,b9,.ptr _ _ _ (Ext.last ag _),aU.b4 rfl⟩;cases fT <;> simp [Instr.alloc,jl hi ad,newVar,newRow,newObj,Sem.run,World.alloc_eq]
theorem FI (ag:aK B aa J S w H) {t:TypeId} {s:Nat} (bk:zeroCells P t=some [.av [] 0 .full]) (fT:Value) :
  ∃ x w',(Instr.alloc t true fT).run P w=.ok x w'∧aZ B aa J S w (H++[.cells [.av [] 0 (.own s)]]) (.ptr H.length 0) x w':=by
 obtain ⟨i,v,hi,ad,ak⟩:=hD (J:=J) (S:=S) (w:=w) bk
 obtain ⟨ay,az,b9⟩:=oa (cs:=[.av [] 0 (.own s)]) (vs:=v.cells) ag .res (by simp) (by simp) t (by have:=ak.len;simp at this;simp;omega) (fun j u bo hu bh=>by
  cases j with
  | succ j=>simp at hu
  | zero =>
    simp at hu;subst hu;obtain ⟨a,b,c⟩:=ak.rel 0 _ bo rfl (by simpa using bh);refine ⟨rfl,b,?_,.inr ⟨rfl,?_⟩⟩
    ·cases c with
     | b3 _ a=>exact .b3 _ a
     | av _ _ _ bm o cap f ak hle hu h ai=>exact .av _ _ _ bm o cap f (fun h=>by cases h) hle (fun z h=>by cases h) h ai
    ·cases c with
     | b3 _ a=>cases a with
       | none=>trivial
       | some a=>exact .inl ⟨rfl,rfl,rfl⟩
     | av _ _ _ b o cap f ak hle hu h ai=>exact .inl ⟨rfl,ak rfl,rfl⟩)
 refine ⟨.pointer (some ⟨w.heap.size,0,none⟩),w.alloc (.cells v.cells t),?_,ay,_,S,Ext.append J _,az,b9,.ptr _ _ _ (Ext.last ag _),aU.b4 rfl⟩;cases fT <;> simp [Instr.alloc,jl hi ad,newVar,newRow,newObj,Sem.run,World.alloc_eq]
theorem iy (z:List I):∀ n,(e_ n z).length=n*z.length
 | 0=>by simp [e_]
 | n+1=>by simp [e_,iy z n,vi,te]
theorem Ax (z:List I):∀ (n j:Nat),j<n*z.length→(e_ n z)[j]?=z[j % z.length]?
 | 0,j,h=>by simp at h
 | n+1,j,h=>by
   simp only [e_];rcases sL j z.length with aw | aw
   ·rw [sg aw,Nat.mod_eq_of_lt aw]
   ·rw [ss aw,Ax z n _ (by rw [vi] at h;omega),Nat.mod_eq_sub_mod aw]
theorem ni {z:List I} {gx:Array Value} (h:c5 J S w z gx.toList) (bk:0<z.length) (n:Nat) :
  c5 J S w (e_ n z) ((Array.range (n*z.length)).map (fun i=>gx[i % gx.size]!)).toList:=by
 have ao:z.length=gx.size:=by simpa using h.len
 refine ⟨by simp [iy],fun j u v hu ad=>?_⟩;have aw:j<n*z.length:=by have:=(sa.1 hu).1;rwa [iy] at this
 rw [Ax z n j aw] at hu;have hm:j % z.length<z.length:=Nat.mod_lt _ bk;refine h.rel (j % z.length) u v hu ?_;simp [aw] at ad;rw [←ao] at ad;have nP:j % z.length<gx.size:=ao ▸ hm;rw [getElem!_pos gx _ nP] at ad;simp [nP,ad]
theorem iA {n bytes:Nat} (h:fy n bytes=true):n*bytes≤140737488355328∧1≤bytes:=by
 simpa [fy] using h
theorem F2 (ag:aK B aa J S w H) {t:TypeId} {n c:Int} {k k':IntKind} {z:List I} {bb:Nat} (aQ:0≤n) (iX:n≤c) (bk:jv P t c.toNat=some (z,bb)) :
  ∃ x w',(Instr.makeSlice t (.int k n) (.int k' c)).run P w=.ok x w'∧aZ B aa J S w (H++[.cells z]) (.ref H.length 0 n.toNat (some c.toNat) bb) x w':=by
 unfold jv at bk;split at bk
 ·rename_i e he;split at bk
  ·rename_i s lH bytes ah xi af;split at bk
   ·rename_i ak;obtain ⟨jN,h8,pv⟩:=ak;simp only [Option.some.injEq,Prod.mk.injEq] at bk;obtain ⟨rfl,rfl⟩:=bk;obtain ⟨i,v,hi,ad,eE⟩:=hD (J:=J) (S:=S) (w:=w) xi;simp only [hi,se,Option.some.injEq] at af;subst af;obtain ⟨aS,bj⟩:=iA pv;have fP:=ni eE (by omega) c.toNat;have py:c.toNat≤140737488355328:=sT (tN _ bj) aS;(have ev:lH.length=v.cells.size:=by simpa using eE.len);(have bR:i.size=s:=by obtain ⟨j3,hi',h⟩:=nf ah;rw [hi] at hi';cases hi';exact h);have mh:(i.bytes:Int)*c≤281474976710656:=by
     have:(i.bytes:Int)*c=((c.toNat*i.bytes:Nat):Int):=by rw [uI,vj (by omega),vk]
     rw [this];omega
    have dM:=run_make (P:=P) w t e i v he hi ad k k' n c aQ iX mh (by omega);have pQ:(madeCells v.cells (c.toNat*i.size)).toList=((Array.range (c.toNat*lH.length)).map (fun i=>v.cells[i % v.cells.size]!)).toList:=by
     rw [bR,←jN];rfl
    rw [←pQ] at fP
    obtain ⟨ay,az,b9⟩:=oa (cs:=e_ c.toNat lH) (vs:=madeCells v.cells (c.toNat*i.size)) ag .res (by simp) (by simp) e (by have:=fP.len;simp at this ⊢;omega) (fun j u bo hu bh=>by
     obtain ⟨a,b,c⟩:=fP.rel j u bo hu (by simpa using bh)
     exact ⟨I.fx a,b,c,.inl a⟩)
    exact ⟨_,_,dM,ay,_,S,Ext.append J _,az,b9,.ref _ _ _ _ _ _ _ (Ext.last ag _) (fun m hm=>by simpa using hm) (by omega),aU.b4 rfl⟩
   ·simp at bk
  ·simp at bk
 ·simp at bk
theorem F3 (ag:aK B aa J S w H) {t:TypeId} {c:Int} {k k':IntKind} {z:List I} {bb:Nat} (aQ:0≤c) (bk:jv P t c.toNat=some (z,bb)) :
  ∃ x w',(Instr.makeSlice t (.int k c) (.int k' c)).run P w=.ok x w'∧aZ B aa J S w H (.av z c.toNat (.uniq bb)) x w':=by
 unfold jv at bk;split at bk
 ·rename_i e he;split at bk
  ·rename_i s lH bytes ah xi af;split at bk
   ·rename_i ak;obtain ⟨jN,h8,pv⟩:=ak;simp only [Option.some.injEq,Prod.mk.injEq] at bk;obtain ⟨rfl,rfl⟩:=bk;obtain ⟨i,v,hi,ad,eE⟩:=hD (J:=J) (S:=S) (w:=w) xi;simp only [hi,se,Option.some.injEq] at af;subst af;obtain ⟨aS,bj⟩:=iA pv;have fP:=ni eE (by omega) c.toNat;have py:c.toNat≤140737488355328:=sT (tN _ bj) aS;(have ev:lH.length=v.cells.size:=by simpa using eE.len);(have bR:i.size=s:=by obtain ⟨j3,hi',h⟩:=nf ah;rw [hi] at hi';cases hi';exact h);have mh:(i.bytes:Int)*c≤281474976710656:=by
     have:(i.bytes:Int)*c=((c.toNat*i.bytes:Nat):Int):=by rw [uI,vj (by omega),vk]
     rw [this];omega
    have dM:=run_make (P:=P) w t e i v he hi ad k k' c c (by omega) (Int.le_refl _) mh (by omega);have pQ:(madeCells v.cells (c.toNat*i.size)).toList=((Array.range (c.toNat*lH.length)).map (fun i=>v.cells[i % v.cells.size]!)).toList:=by
     rw [bR,←jN];rfl
    rw [←pQ] at fP;have iY:=ob ag fP [] e c.toNat c.toNat s h8 (by rw [iy,jN]) (sc _) (by simp only [maxLen];omega) (by rw [←fP.len,iy,jN];simp);simp only [sM,tF] at iY;exact ⟨_,_,dM,iY⟩
   ·simp at bk
  ·simp at bk
 ·simp at bk
end
end Go.Proofs.Ytkoioidpbbbaiaa.Ab


namespace Go.Proofs.Ytkoioidpbbbaiaa.Ab
open Go
section
variable {P:Program} {B:Nat} {J:List Nat} {w:World} {H:List ar} {aa:Nat→Option aH} {S:Nat→Nat→Prop}
theorem lx:∀ (vs:List I) (off:Nat) (cs:List I),(setCells off vs cs).length=cs.length
 | [],_,_=>rfl
 | v::vs,off,cs=>by simp [setCells,lx vs]
theorem na:∀ (vs:List I) (off:Nat) (cs:List I) (j:Nat),off+vs.length≤cs.length →
  (setCells off vs cs)[j]?=if off≤j∧j<off+vs.length then vs[j-off]? else cs[j]?
 | [],off,cs,j,_=>by simp [setCells];omega
 | v::vs,off,cs,j,h=>by
   simp only [sK] at h;rw [setCells,na vs (off+1) _ j (by simp;omega)];by_cases ab:j=off
   ·subst ab
    have:¬ (j+1≤j∧j<j+1+vs.length):=by omega
    rw [if_neg this,if_pos (by simp)];simp [show j<cs.length by omega]
   ·by_cases ae:off+1≤j∧j<off+1+vs.length
    ·rw [if_pos ae,if_pos (by simp;omega)];obtain ⟨k,rfl⟩:∃ k,j=off+1+k:=⟨j-(off+1),by omega⟩;rw [show off+1+k-off=k+1 by omega,show off+1+k-(off+1)=k by omega];simp
    ·rw [if_neg ae,if_neg (by simp;omega)];rw [sd (fun e=>ab e.symm)]
theorem jm (cur vs:List Value) (off j:Nat) (h:off+vs.length≤cur.length) :
  (cur.take off++vs++cur.drop (off+vs.length))[j]?=if off≤j∧j<off+vs.length then vs[j-off]? else cur[j]?:=by
 have ax:(cur.take off).length=off:=by simp;omega
 by_cases ab:j<off
 ·rw [if_neg (by omega),sx,sg (by omega),sI,if_pos ab]
 ·by_cases ae:j<off+vs.length
  ·rw [if_pos ⟨by omega,ae⟩,sx,ss (by omega),ax,sg (by omega)]
  ·rw [if_neg (by omega),ss (by simp;omega)];simp only [sy,ax,sQ];congr 1;omega
theorem og (ag:aK B aa J S w H) {id:Nat} {l l':List I} (aE:H[id]?=some (.cells l)) {b:Nat} {cur cur':Array Value} {e:TypeId} (aA:J[id]?=some b) (aG:aa b=some (.obj id))
  (aT:w.heap[b]?=some (.cells cur e (0,0))) (bg:∀ o,¬ S b o) (L:aH) (b7:∀ id,L≠.obj id) (cj:∀ id j,L≠.cell id j) (ao:l'.length≤cur'.size) (zB:Nat)
  (ak:∀ (j:Nat) (u:I) (v:Value),l'[j]?=some u→cur'[j]?=some v→u.cW=true∧v.oneCell'=true∧Rel J S w u v ∧
   (u.plain=true∨aU aa J S w (.cell id j) u v∨(j=zB∧aU aa J S w L u v))) :
  ∃ ay,bl aa S w ay S (w.setRow b cur')∧aK B ay J S (w.setRow b cur') (H.set id (.cells l')):=by
 classical
 let ay:Nat→Option aH:=fun au=>if aa au=some L then some (.cell id zB) else aa au
 have bz:∀ au o,au≠b→(w.setRow b cur').cell? ⟨au,o,none⟩=w.cell? ⟨au,o,none⟩:=fun au o h=>by
  unfold World.cell?;simp only [setRow_other w b au cur' h]
 have hJ:∀ au o,S au o→au≠b:=fun au o ah e=>bg o (e ▸ ah);have y0:L≠.obj id:=b7 id;have jT:∀ au cy,aa au=some cy→cy≠L→ay au=some cy:=fun au cy h aI=>by
  have:¬ aa au=some L:=by rw [h];intro e;cases e;exact aI rfl
  simp [ay,h,aI]
 have bR:(w.setRow b cur').heap.size=w.heap.size:=by simp [World.setRow]
 have az:bl aa S w ay S (w.setRow b cur'):=by
  refine ⟨rfl,rfl,rfl,by omega,fun au bw aI=>setRow_other w b au cur' (fun e=>by subst e;rw [aG] at aI;cases aI),fun au o ah=>⟨ah,bz au o (hJ au o ah)⟩,fun au o ah=>.inl ah,fun au bw=>?_⟩;refine .inl fun aQ=>bw ?_;simp [ay,aQ]
 refine ⟨ay,az,by simpa using ag.cK,fun bC o aq=>?_,fun au o ah=>?_,fun au cy bw=>?_,by rw [bR];exact ag.c0⟩
 ·by_cases hf:bC=id
  ·subst hf;rw [sk (sa.1 aE).1] at aq;cases aq;refine ⟨b,cur',e,aA,jT b _ aG (fun e=>y0 e.symm),setRow_heap w b cur cur' e (0,0) aT,ao,bg,fun j u v hu ad=>?_⟩;obtain ⟨a7,a9,bt,b6⟩:=ak j u v hu ad;refine ⟨a7,a9,bt.mono (Ext.refl J) az.set,?_⟩;rcases b6 with b6 | b6 | ⟨rfl,b6⟩
   ·exact aU.b4 b6
   ·exact b6.mono (Ext.refl J) az.set fun au bw=>⟨jT au _ bw (fun e=>cj _ _ e.symm),setRow_other w b au cur' (fun e=>by subst e;rw [aG] at bw;cases bw),fun o ah=>ah⟩
   ·exact b6.mono (Ext.refl J) az.set fun au bw=>⟨by simp [ay,bw],setRow_other w b au cur' (fun e=>by subst e;rw [aG] at bw;cases bw;exact y0 rfl),fun o ah=>ah⟩
  ·rw [sd (fun e=>hf e.symm)] at aq;refine (ag.obj bC o aq).frame (Ext.refl J) az.set fun au cy bw jU=>?_;have bJ:au≠b:=fun e=>by
    subst e;rw [aG] at bw;cases bw;rcases jU with h | ⟨j,h⟩
    ·cases h;exact hf rfl
    ·cases h
   exact ⟨jT au cy bw (by rcases jU with rfl | ⟨j,rfl⟩ <;> intro e <;> first | exact b7 _ e.symm | exact cj _ _ e.symm),setRow_other w b au cur' bJ,fun o ah=>ah⟩
 ·obtain ⟨v,ad⟩:=ag.cd au o ah;exact ⟨v,(bz au o (hJ au o ah)).trans ad⟩
 ·rw [bR];by_cases h:aa au=some L
  ·exact ag.base au L h
  ·simp only [ay,h,if_false] at bw;exact ag.base au cy bw
theorem Bg (ag:aK B aa J S w H) {l:aH} (b7:∀ id,l≠.obj id) (cj:∀ id j,l≠.cell id j) {lo:Nat} {t:TypeId} {a u:I} {x v:Value} {H':List ar} (h:g8 P lo H t a u=some H')
  (cu:Rel J S w a x) (ai:Rel J S w u v) (aq:aU aa J S w l u v) (y:Value) :
  ∃ w',(Instr.storeAt t x v).run P w=.ok () w'∧aZ B aa J S w H' .a0 y w':=by
 have key:∀ {H H':List ar} (_:aK B aa J S w H) {id off s:Nat} (_:bF P t=some s) {vc:List I} (_:u.cells=some vc) {ll l':List I} (_:H[id]?=some (.cells ll))
   (_:(if vc.length=s∧off+s≤ll.length then some (setCells off (vc.map I.settle) ll) else none)=some l') (_:Rel J S w (.ptr id off) x) (_:H'=H.set id (.cells l')),
   ∃ w' b cur,(Instr.storeAt t x v).run P w=.ok () w'∧aZ B aa J S w H' .a0 y w'∧J[id]?=some b∧(∃ e,w.heap[b]?=some (.cells cur e (0,0)))∧∃ cur' e,w'.heap[b]?=some (.cells cur' e (0,0))∧cur'.size=cur.size:=by
  intro H H' ag id off s ah vc fO ll l' aE c' cu b9;subst b9
  ·
     split at c'
     ·rename_i hc;obtain ⟨a7,a9⟩:=hc;simp only [Option.some.injEq] at c';subst c';obtain ⟨S',aJ,aN,b9,bR,et,c1⟩:=o7 ag b7 cj fO ai aq;obtain ⟨b,cur,e,aA,aG,aT,br,bg,bd⟩:=b9.obj id _ aE;cases cu with
      | ptr id off au af =>
        rw [aA] at af;cases af;have cJ:=run_storeCells_at P b off e v.cells.toList 0 cur w aT (by simp [bR];omega) et;simp only [ti] at cJ;obtain ⟨ay,az,jJ⟩:=og (cur':=(cur.toList.take off++v.cells.toList++cur.toList.drop (off+v.cells.toList.length)).toArray) (l':=setCells off (vc.map I.settle) ll) b9 aE aA aG aT bg l b7 cj
         (by simp [lx,bR];omega) off (fun j bH bo hu ad=>by
          rw [na _ _ _ _ (by simp;omega)] at hu;(have ad:(cur.toList.take off++v.cells.toList++cur.toList.drop (off+v.cells.toList.length))[j]?=some bo:=by simpa using ad);rw [jm _ _ _ _ (by simp [bR];omega)] at ad;simp only [List.length_map,sY,bR] at hu ad;split at hu
          ·rename_i aw;rw [if_pos aw] at ad;obtain ⟨d1,d2,d3⟩:=c1 (j-off) bH bo hu (by simpa using ad);refine ⟨d1,et bo (sv ad),d2,?_⟩;rcases d3 with d3 | ⟨d3,_,d4⟩
           ·exact .inl d3
           ·exact .inr (.inr ⟨by omega,d4⟩)
          ·rename_i aw;rw [if_neg aw] at ad;obtain ⟨d1,d0,d2,d3⟩:=bd j bH bo hu (by simpa using ad)
           exact ⟨d1,d0,d2,.inr (.inl d3)⟩)
        refine ⟨_,b,cur,?_,⟨ay,J,S',Ext.refl J,(bl.settle aJ (fun b o h=>(aN b o h).imp (fun h=>h) fun h=>⟨_,h⟩)).trans az,jJ,.a0 y,aU.b4 rfl⟩,aA,⟨e,aT⟩,_,e,setRow_heap w b cur _ e (0,0) aT,?_⟩
        ·simp only [Instr.storeAt,Instr.sureAddr,storeVar,Sem.run_bind,Sem.run_pure,Result.andThen_ok,run_sizeOf ah];rw [if_neg (by rw [bR,a7];simp)];exact cJ
        ·simp [bR];omega
     ·simp at c'
 unfold g8 at h;split at h
 ·rename_i id off s ah;split at h
  ·rename_i vc fO;unfold gT at h;split at h
   ·split at h
    ·rename_i lo' ll aE;simp only [r_] at h;obtain ⟨l',c',rfl⟩:=h;obtain ⟨w',_,_,q1,aW,_⟩:=key ag ah fO aE c' cu rfl;exact ⟨w',q1,aW⟩
    ·rename_i lo' ll g z aE;simp only [r_] at h;obtain ⟨l',c',rfl⟩:=h;have aR:=(sa.1 aE).1;obtain ⟨b,cur,e,aA,aG,aT,br,bg,bd,cap,dd,dy,dS,gF⟩:=ag.obj id _ aE;obtain ⟨w',au,Cf,q1,⟨ay,bV,S',bU,b1,eb,fU⟩,cF,⟨gb,dG⟩,cur',cV,m6,xM⟩:=key (ag.oR aE) ah fO (ll:=ll) (by rw [sk aR]) c' cu rfl;rw [aA] at cF;cases cF;rw [aT] at dG;cases dG;have aO:=eb.xQ (g:=g) (z:=z) (by rw [sk (by simpa using aR)]) (bU _ _ aA) (bU _ _ dd) dy dS m6 (by rw [xM,gF]);rw [sV,sV] at aO;exact ⟨w',q1,ay,bV,S',bU,b1,aO,fU⟩
    ·simp at h
   ·simp at h
  ·simp at h
 ·simp at h
theorem Ga (ag:aK B aa J S w H) {l:aH} (b7:∀ id,l≠.obj id) (cj:∀ id j,l≠.cell id j) {lo:Nat} {t:TypeId} {a u:I} {x v:Value} {H':List ar} (h:lO P lo H t a u=some H')
  (cu:Rel J S w a x) (ai:Rel J S w u v) (aq:aU aa J S w l u v) (y:Value) :
  ∃ w',(Instr.storeAt t x v).run P w=.ok () w'∧aZ B aa J S w H' .a0 y w':=by
 unfold lO at h;split at h
 ·rename_i id off c n z ah;split at h
  ·rename_i ak;obtain ⟨aS,bj⟩:=Gn ak.2 ak.1 ai aq;unfold fS at h;split at h
   ·split at h
    ·rename_i lo' ll aE;simp only [r_] at h;obtain ⟨l',c',rfl⟩:=h;split at c'
     ·rename_i cD;simp only [Option.some.injEq] at c';subst c';obtain ⟨b,cur,e,aA,aG,aT,br,bg,bd⟩:=ag.obj id _ aE;cases cu with
      | ptr id off au af =>
        rw [aA] at af;cases af;(have et:∃ b o cap,v=.slice (some ⟨b,o,none⟩) n cap:=by cases aS with | raw _ _ _ b o cap=>exact ⟨b,o,cap,rfl⟩);(have dY:v.cells=#[v]∧v.oneCell'=true:=by obtain ⟨b,o,cap,rfl⟩:=et;exact ⟨rfl,rfl⟩);have cJ:=run_storeCells_at P b off e v.cells.toList 0 cur w aT (by rw [dY.1];simp;omega) (by rw [dY.1];simp [dY.2]);simp only [ti,dY.1] at cJ;obtain ⟨ay,az,jJ⟩:=og (cur':=(cur.toList.take off++[v]++cur.toList.drop (off+1)).toArray) (l':=ll.set off (.raw c n z)) ag aE aA aG aT bg l b7 cj
         (by simp;omega) off (fun j bH bo hu ad=>by
          (have ad:(cur.toList.take off++[v]++cur.toList.drop (off+1))[j]?=some bo:=by simpa using ad);have dg:=jm cur.toList [v] off j (by simp;omega);simp only [List.length_singleton] at dg;rw [dg] at ad;by_cases aw:off=j
          ·subst aw;rw [sk cD] at hu;cases hu;rw [if_pos ⟨by omega,by omega⟩] at ad;simp at ad;subst ad;exact ⟨rfl,dY.2,aS,.inr (.inr ⟨rfl,bj⟩)⟩
          ·rw [sd aw] at hu;rw [if_neg (by omega)] at ad;obtain ⟨d1,d0,d2,d3⟩:=bd j bH bo hu (by simpa using ad)
           exact ⟨d1,d0,d2,.inr (.inl d3)⟩)
        refine ⟨_,?_,ay,J,S,Ext.refl J,az,jJ,.a0 y,aU.b4 rfl⟩;simp only [Instr.storeAt,Instr.sureAddr,storeVar,Sem.run_bind,Sem.run_pure,Result.andThen_ok,run_sizeOf ah];rw [if_neg (by rw [dY.1];simp),dY.1];exact cJ
     ·simp at c'
    ·simp at h
   ·simp at h
  ·simp at h
 ·simp at h
theorem F' (ag:aK B aa J S w H) {l:aH} (b7:∀ id,l≠.obj id) (cj:∀ id j,l≠.cell id j) {lo:Nat} {t:TypeId} {a u:I} {x v:Value} {H':List ar} (h:lN P lo H t a u=some H')
  (cu:Rel J S w a x) (ai:Rel J S w u v) (aq:aU aa J S w l u v) (y:Value) :
  ∃ w',(Instr.storeAt t x v).run P w=.ok () w'∧aZ B aa J S w H' .a0 y w':=by
 unfold lN at h;split at h
 ·rename_i id off as c n z bs s ah;split at h
  ·rename_i GN;unfold fS at h;split at h
   ·split at h
    ·rename_i lo' ll aE;simp only [r_] at h;obtain ⟨l',c',rfl⟩:=h;split at c'
     ·rename_i cD;simp only [Option.some.injEq] at c';subst c';obtain ⟨b,cur,e,aA,aG,aT,br,bg,bd⟩:=ag.obj id _ aE;cases cu with
      | ptr id off au af =>
        rw [aA] at af;cases af;cases ai with
        | c3 _ _ _ _ _ vs fv lp lq one oq ro ot =>
          have jX:∀ v,vs[as.length]?=some v→gD aa S w l c n z v:=aq;have cJ:=run_storeCells_at P b off e vs.toList 0 cur w aT (by simp;omega) one;simp only [ti] at cJ;obtain ⟨ay,az,jJ⟩:=og (cur':=(cur.toList.take off++vs.toList++cur.toList.drop (off+vs.toList.length)).toArray) (l':=setCells off (as++.av c n (.own z)::bs) ll) ag aE aA aG aT bg l b7 cj
           (by simp [lx];omega) (off+as.length) (fun j bH bo hu ad=>by
            rw [na _ _ _ _ (by simp;omega)] at hu;(have ad:(cur.toList.take off++vs.toList++cur.toList.drop (off+vs.toList.length))[j]?=some bo:=by simpa using ad);rw [jm _ _ _ _ (by simp;omega)] at ad;simp only [sy,sK,sY] at hu ad;split at hu
            ·rename_i aw;rw [if_pos (by omega)] at ad;(have ad:vs[j-off]?=some bo:=by simpa using ad);have ab:=one bo (by simpa using uw ad);rcases uG (j-off) as.length with ae | ae | ae
             ·rw [sg ae] at hu;have aB:=lp bH (sv hu);exact ⟨I.fx aB,ab,oq _ bH bo hu ad,.inl aB⟩
             ·rw [ae,ss (sc _),tx] at hu;simp only [tG,Option.some.injEq] at hu;subst hu;rw [ae] at ad;exact ⟨rfl,ab,ro bo ad,.inr (.inr ⟨by omega,(jX bo ad).at⟩)⟩
             ·obtain ⟨k,al⟩:∃ k,j-off=as.length+1+k:=⟨j-off-(as.length+1),by omega⟩;rw [al,ss (by omega),show as.length+1+k-as.length=k+1 by omega,ug] at hu;rw [al] at ad;have aB:=lq bH (sv hu);exact ⟨I.fx aB,ab,ot _ bH bo hu ad,.inl aB⟩
            ·rename_i aw;rw [if_neg (by omega)] at ad;obtain ⟨d1,d0,d2,d3⟩:=bd j bH bo hu (by simpa using ad)
             exact ⟨d1,d0,d2,.inr (.inl d3)⟩)
          refine ⟨_,?_,ay,J,S,Ext.refl J,az,jJ,.a0 y,aU.b4 rfl⟩;simp only [Instr.storeAt,Instr.sureAddr,storeVar,Sem.run_bind,Sem.run_pure,Result.andThen_ok,run_sizeOf ah];(have bR:(Value.agg vs).cells.size=s:=by show vs.size=s;omega);rw [if_neg (by rw [bR];simp)];exact cJ
     ·simp at c'
    ·simp at h
   ·simp at h
  ·simp at h
 ·simp at h
theorem hS (ag:aK B aa J S w H) {l:aH} (b7:∀ id,l≠.obj id) (cj:∀ id j,l≠.cell id j) {u:I} {v:Value} (ai:Rel J S w u v) (aq:aU aa J S w l u v) :
  aZ B aa J S w H u v w:=by
 classical
 let ay:Nat→Option aH:=fun b=>if aa b=some l then some .res else aa b
 have az:bl aa S w ay S w:=⟨rfl,rfl,rfl,sc _,fun _ _ _=>rfl,fun _ _ h=>⟨h,rfl⟩,fun _ _ h=>.inl h,fun b af=>.inl fun aQ=>af (by simp [ay,aQ])⟩;refine ⟨ay,J,S,Ext.refl J,az,ag.frame az (fun b l' af ao=>?_) ag.cd (fun b l' af=>?_),ai,aq.mono (Ext.refl J) az.set fun b af=>⟨by simp [ay,af],rfl,fun _ h=>h⟩⟩
 ·have bJ:l'≠l:=by rcases ao with ⟨id,rfl⟩ | ⟨id,j,rfl⟩ <;> intro e <;> first | exact b7 _ e.symm | exact cj _ _ e.symm
  exact ⟨by simp [ay,af,bJ],rfl,fun _ h=>h⟩
 ·by_cases h:aa b=some l
  ·exact ag.base b l h
  ·simp only [ay,h,if_false] at af;exact ag.base b l' af
theorem xJ (ag:aK B aa J S w H) {l:aH} (b7:∀ id,l≠.obj id) (cj:∀ id j,l≠.cell id j) {cells:List I} {len z:Nat} (aQ:len≠0) {v:Value}
  (ai:Rel J S w (.av cells len (.uniq z)) v) (aq:aU aa J S w l (.av cells len (.uniq z)) v) :
  aZ B aa J S w (H++[.cells cells]) (.ref H.length 0 len none z) v w:=by
 classical
 cases ai with
 | b3 c a=>exact absurd rfl aQ
 | av cells len c b o cap f ak hle hu h fu=>exact absurd rfl (hu z)
 | cP cells len z b o cap =>
   rcases aq with ⟨rfl,_,_⟩ | ⟨ab,aq,ae,aF,a_,bP,⟨cur,e,bQ,cO,cR⟩,cn⟩
   ·exact absurd rfl aQ
   ·simp only at ab bQ cn aq;subst aq
    let ay:Nat→Option aH:=fun au=>if au=b then some (.obj H.length) else aa au
    have az:bl aa S w ay S w:=⟨rfl,rfl,rfl,sc _,fun _ _ _=>rfl,fun _ _ h=>⟨h,rfl⟩,fun _ _ h=>.inl h,fun au af=>by
     by_cases dI:au=b
     ·subst dI;exact .inl (by simp [ab])
     ·simp only [ay,dI,if_false] at af;exact .inl af⟩
    have bW:aK B ay J S w H:=by
     refine ag.frame az (fun au l' af ao=>?_) ag.cd (fun au l' af=>?_)
     ·have bJ:au≠b:=fun e=>by
       subst e;rw [ab] at af;cases af;rcases ao with ⟨id,h⟩ | ⟨id,j,h⟩
       ·exact b7 _ h
       ·exact cj _ _ h
      exact ⟨by simp [ay,bJ,af],rfl,fun _ h=>h⟩
     ·by_cases dI:au=b
      ·subst dI;exact ag.base _ l ab
      ·simp only [ay,dI,if_false] at af;exact ag.base au l' af
    refine ⟨ay,_,S,Ext.append J [b],az,bW.push b ⟨b,cur,e,Ext.last ag _,by simp [ay],bQ,by rw [cO,bP];exact s_ _ ae,cn,fun j u v hu ad=>?_⟩,
     .ref _ _ _ _ _ b _ (Ext.last ag _) (by simp) ae,aU.b4 rfl⟩
    obtain ⟨a7,a9,bt⟩:=cR j u v hu ad;exact ⟨I.fx a7,a9,bt.mono (Ext.append J _) az.set,aU.b4 a7⟩
theorem x6 (ag:aK B aa J S w H) {u:I} {v:Value} {row:List I} (h:rowOf H u=some row) (ai:Rel J S w u v) (aI:u.cW=true) :
  (row=[]∧∃ a c,v=.slice a 0 c)∨∃ b o n c vs,v=.slice (some ⟨b,o,none⟩) n c∧c5 J S w row vs∧(∀ j x,vs[j]?=some x→w.cell? ⟨b,o+j,none⟩=some x):=by
 unfold rowOf at h;split at h
 ·rename_i cells len c;simp at h;subst h;cases ai with
  | b3 c a=>exact .inl ⟨rfl,a,_,rfl⟩
  | cP=>simp [I.cW] at aI
  | av _ _ _ b o cap f ak hle hu bz b2 =>
    refine .inr ⟨b,o,len,cap,(List.range cells.length).map f,rfl,⟨by simp,fun j u v b_ bh=>?_⟩,fun j x aj=>?_⟩
    ·have aw:=(sa.1 b_).1;simp [aw] at bh;subst bh;exact ⟨(bz j u b_).2.2.1,(bz j u b_).2.2.2,b2 j u b_⟩
    ·simp only [sm,r_] at aj;obtain ⟨k,al,rfl⟩:=aj;(have aw:j<cells.length:=by have:=(sa.1 al).1;simpa using this);simp [aw] at al;subst al;exact (bz j _ (si aw)).2.1
 ·rename_i id off len cap bb;split at h
  ·rename_i l aE;split at h
   ·rename_i hle;simp only [Option.some.injEq] at h;subst h;obtain ⟨b,cur,e,aA,aG,aT,br,bg,bd⟩:=ag.obj id _ aE;cases ai with
    | ref id off len c bb au cap' af ak Dd =>
      rw [aA] at af;cases af;refine .inr ⟨b,off,len,cap',(cur.toList.drop off).take (len*bb),rfl,⟨by simp;omega,fun j u v b_ bh=>?_⟩,fun j x aj=>?_⟩
      ·simp only [sm,r_] at b_;obtain ⟨y,aY,rfl⟩:=b_;rw [sI] at aY bh;split at aY
       ·rename_i aw;rw [if_pos aw] at bh;rw [sQ] at aY bh;obtain ⟨d1,d0,d2,_⟩:=bd (off+j) y v aY (by simpa using bh);exact ⟨I.dm y,d0,d2.view d1⟩
       ·simp at aY
      ·rw [sI] at aj;split at aj
       ·rw [sQ] at aj;rw [cell_of_row w b _ cur e (0,0) aT];simpa using aj
       ·simp at aj
   ·simp at h
  ·simp at h
 ·simp at h
theorem mP {u:I} {v:Value} {n:Nat} (h:lenOf u=some n) (ai:Rel J S w u v):∃ a c,v=.slice a n c:=by
 unfold lenOf at h;split at h
 ·simp at h;subst h;cases ai with
  | b3 c a=>exact ⟨_,_,rfl⟩
  | av=>exact ⟨_,_,rfl⟩
  | cP=>exact ⟨_,_,rfl⟩
 ·simp at h;subst h;cases ai with
  | ref=>exact ⟨_,_,rfl⟩
 ·simp at h
end
end Go.Proofs.Ytkoioidpbbbaiaa.Ab


namespace Go.Proofs.Ytkoioidpbbbaiaa.Ab
open Go
section
variable {P:Program} {B:Nat} {J:List Nat} {w:World} {H:List ar} {aa:Nat→Option aH} {S:Nat→Nat→Prop}
theorem aZ.after {b5:Nat→Option aH} {cZ:List Nat} {a4:Nat→Nat→Prop} {bI:World} (bN:Ext J cZ) (az:bl aa S w b5 a4 bI) {H':List ar} {r:I} {v:Value} {w':World} (h:aZ B b5 cZ a4 bI H' r v w'):aZ B aa J S w H' r v w':=by
 obtain ⟨ay,bV,S',a,b,c,d,e⟩:=h;exact ⟨ay,bV,S',bN.trans a,az.trans b,c,d,e⟩
theorem aZ.settle {cells:List I} {len z:Nat} {v:Value} {w':World} {H':List ar} (h:aZ B aa J S w H' (.av cells len (.uniq z)) v w'):aZ B aa J S w H' (.av cells len (.own z)) v w':=by
 obtain ⟨ay,bV,S',a,b,c,d,e⟩:=h;obtain ⟨a4,aJ,aN,cb,aS,bj,eK⟩:=kh c d e;exact ⟨ay,bV,a4,a,b.trans (bl.settle aJ fun b o h=>(aN b o h).imp (fun h=>h) fun h=>⟨_,h⟩),c.settle aJ (fun b o h=>(aN b o h).imp (fun h=>h) fun h=>⟨_,h,by simp,by simp⟩) cb,bj,eK⟩
theorem AW (t ty e:TypeId) (i:TypeInfo) (ax:P.underlying t=some (.slice e)) (hi:P.info? e=some i) (base:Option Addr) (eM hz:Nat) (hle:eM≤hz) (a:Option Addr) (c:Nat) :
  (Builtin.append_ #[t,t] ty #[.slice base eM hz,.slice a 0 c]).run P w=.ok (.slice base eM hz) w:=by
 cases a <;> cases base <;> simp [Builtin.append_,run_underlying ax,sizeOf,typeInfo,hi,Builtin.lenOf,hle,Builtin.firstCells,loadCells,loadCellsFrom,storeCells]
theorem AV (w:World) (t ty e:TypeId) (i:TypeInfo) (ax:P.underlying t=some (.slice e)) (hi:P.info? e=some i)
  (g eM hz:Nat) (cur:Array Value) (ce:TypeId) (aO:w.heap[g]?=some (.cells cur ce (0,0)))
  (a:Addr) (m c:Nat) (news:List Value) (ao:news.length=m*i.size) (pV:∀ j u,news[j]?=some u→w.cell? (a.add j)=some u) (ab:∀ u∈news,u.oneCell'=true)
  (eu:eM+m≤hz) (dJ:eM*i.size+news.length≤cur.size) :
  (Builtin.append_ #[t,t] ty #[.slice (some ⟨g,0,none⟩) eM hz,.slice (some a) m c]).run P w =
   .ok (.slice (some ⟨g,0,none⟩) (eM+m) hz) (w.setRow g (cur.toList.take (eM*i.size)++news++cur.toList.drop (eM*i.size+news.length)).toArray):=by
 have aP:=run_firstCells_some (P:=P) w i.size m a m c news ao pV;have cJ:=run_storeCells_at P g (eM*i.size) ce news 0 cur w aO (by simpa using dJ) ab;simp only [ti] at cJ;simp [Builtin.append_,run_underlying ax,sizeOf,typeInfo,hi,Builtin.lenOf,eu,aP,Addr.add_lit,cJ]
theorem Ff (w:World) (t ty e:TypeId) (i:TypeInfo) (ax:P.underlying t=some (.slice e)) (hi:P.info? e=some i)
  (g k eM hz:Nat) (cur:Array Value) (ce:TypeId) (aO:w.heap[g]?=some (.cells cur ce (0,0)))
  (a:Addr) (m c:Nat) (news:List Value) (ao:news.length=m*i.size) (pV:∀ j u,news[j]?=some u→w.cell? (a.add j)=some u) (ab:∀ u∈news,u.oneCell'=true)
  (eu:eM+m≤hz) (dJ:k+eM*i.size+news.length≤cur.size) :
  (Builtin.append_ #[t,t] ty #[.slice (some ⟨g,k,none⟩) eM hz,.slice (some a) m c]).run P w =
   .ok (.slice (some ⟨g,k,none⟩) (eM+m) hz) (w.setRow g (cur.toList.take (k+eM*i.size)++news++cur.toList.drop (k+eM*i.size+news.length)).toArray):=by
 have aP:=run_firstCells_some (P:=P) w i.size m a m c news ao pV;have cJ:=run_storeCells_at P g (k+eM*i.size) ce news 0 cur w aO (by simpa using dJ) ab;simp only [ti] at cJ;simp [Builtin.append_,run_underlying ax,sizeOf,typeInfo,hi,Builtin.lenOf,eu,aP,Addr.add_lit,cJ]
section grow
variable {t ty e:TypeId} {i:TypeInfo} {z:Value} {Hf:List I}
theorem h5 (ag:aK B aa J S w H) (ax:P.underlying t=some (.slice e)) (hi:P.info? e=some i) (bk:i.zero=some z) (ev:z.cells.size=i.size) (bR:0<i.size)
  (v:Value) (len cap:Nat) (jb:List Value) (ad:((∃ a,v=.slice a 0 0)∧len=0∧cap=0∧jb=[])∨∃ b o,v=.slice (some ⟨b,o,none⟩) len cap∧∀ j x,jb[j]?=some x→w.cell? ⟨b,o+j,none⟩=some x)
  {cs:List I} (gO:c5 J S w cs jb) (fL:cs.length=len*i.size)
  {au cz m c:Nat} {new:List I} {news:List Value} (hnew:c5 J S w new news) (bz:∀ j x,news[j]?=some x→w.cell? ⟨au,cz+j,none⟩=some x) (c2:new.length=m*i.size)
  (hm:0<m) (nM:cap<len+m) (eu:(len+m)*i.bytes≤140737488355328) (gM:1≤i.bytes) :
  ∃ x w',(Builtin.append_ #[t,t] ty #[v,.slice (some ⟨au,cz,none⟩) m c]).run P w=.ok x w'∧aZ B aa J S w H (.av (cs++new) (len+m) (.uniq i.size)) x w':=by
 have De:len+m≤140737488355328:=sT (tN _ gM) eu;have er:len+m≤maxLen:=by simp only [maxLen];omega
 have eV:news.length=m*i.size:=hnew.len ▸ c2;have zf:jb.length=len*i.size:=gO.len ▸ fL;have kI:∀ j x,news[j]?=some x→w.cell? ((⟨au,cz,none⟩:Addr).add j)=some x:=fun j x h=>by rw [add_lit];exact bz j x h
 have fin:∀ ff:Nat,ff=grownCap w (len+m) cap e →
   aZ B aa J S w H (.av (cs++new) (len+m) (.uniq i.size)) (.slice (some ⟨w.heap.size,0,none⟩) (len+m) ff)
    (w.drew.alloc (.cells (jb.toArray++news.toArray++Builtin.zeroCells z.cells (ff-(len+m))) e)):=by
  rintro ff rfl;have fh:=grownCap_ge w (len+m) cap e;have hle:=grownCap_le_maxLen w (len+m) cap e er;generalize grownCap w (len+m) cap e=ff at fh hle;have az:=kz aa S w;have h:=ob (mA ag) ((gO.append hnew).mono (Ext.refl J) az.set) (Builtin.zeroCells z.cells (ff-(len+m))).toList e (len+m) ff i.size bR
   (by rw [sy,fL,c2,ta]) fh hle (by
    rw [sy,zf,eV,←ta,sY,size_zeroCells,ev,←ta];congr 1;omega)
  have he:(jb++news++(Builtin.zeroCells z.cells (ff-(len+m))).toList).toArray=jb.toArray++news.toArray++Builtin.zeroCells z.cells (ff-(len+m)):=by
   apply Array.ext';simp
  rw [he] at h;exact aZ.after (Ext.refl J) az h
 rcases ad with ⟨⟨h3,rfl⟩,rfl,rfl,rfl⟩ | ⟨b,o,rfl,hold⟩
 ·cases h3 with
  | none =>
    have ai:=run_append_nil (P:=P) w t ty e i z ax hi bk ⟨au,cz,none⟩ m c news eV kI hm (by omega) (by rw [sB] at eu;omega);have f:=fin _ rfl;refine ⟨_,_,ai,?_⟩;simpa using f
  | some lQ =>
    have ai:=run_append_grow (P:=P) w t ty e i z ax hi bk lQ 0 0 [] (by simp) (by simp) ⟨au,cz,none⟩ m c news eV kI nM (by omega) (growslice_fits nM eu);exact ⟨_,_,ai,fin _ rfl⟩
 ·have ai:=run_append_grow (P:=P) w t ty e i z ax hi bk ⟨b,o,none⟩ len cap jb zf (fun j x h=>by rw [add_lit];exact hold j x h) ⟨au,cz,none⟩ m c news eV kI nM (by omega) (growslice_fits nM eu);exact ⟨_,_,ai,fin _ rfl⟩
theorem B1 (ag:aK B aa J S w H) (ax:P.underlying t=some (.slice e)) (hi:P.info? e=some i) (bR:0<i.size) {l:aH} (b7:∀ id,l≠.obj id) (cj:∀ id j,l≠.cell id j)
  {cells:List I} {len b cap:Nat} {cur:Array Value} {ce:TypeId} (bx:aa b=some l) (k9:cap≤maxLen) (ir:cells.length=len*i.size)
  (hs:w.heap[b]?=some (.cells cur ce (0,0))) (gV:cur.size=cap*i.size) (j8:∀ (j:Nat) (u:I) (v:Value),cells[j]?=some u→cur[j]?=some v→u.plain=true∧v.oneCell'=true∧Rel J S w u v)
  (ht:∀ o,¬ S b o)
  {au cz m c:Nat} {new:List I} {news:List Value} (hnew:c5 J S w new news) (bz:∀ j x,news[j]?=some x→w.cell? ⟨au,cz+j,none⟩=some x) (c2:new.length=m*i.size) (dJ:len+m≤cap) :
  ∃ x w',(Builtin.append_ #[t,t] ty #[.slice (some ⟨b,0,none⟩) len cap,.slice (some ⟨au,cz,none⟩) m c]).run P w=.ok x w'∧aZ B aa J S w H (.av (cells++new) (len+m) (.uniq i.size)) x w':=by
 classical
 have eV:news.length=m*i.size:=hnew.len ▸ c2;have jO:(len+m)*i.size≤cap*i.size:=s_ _ dJ;rw [ta] at jO;have et:∀ u∈news,u.oneCell'=true:=fun u hu=>by
  obtain ⟨j,aw⟩:=sW.1 hu;have aR:=(sa.1 aw).1;exact (hnew.rel j _ u (si (hnew.len ▸ aR)) aw).2.1
 have ai:=AV w t ty e i ax hi b len cap cur ce hs ⟨au,cz,none⟩ m c news eV (fun j x h=>by rw [add_lit];exact bz j x h) et dJ (by rw [gV];omega)
 let cur':Array Value:=(cur.toList.take (len*i.size)++news++cur.toList.drop (len*i.size+news.length)).toArray
 have nI:∀ bm o,bm≠b→(w.setRow b cur').cell? ⟨bm,o,none⟩=w.cell? ⟨bm,o,none⟩:=fun bm o h=>by
  unfold World.cell?;simp only [setRow_other w b bm cur' h]
 let ay:Nat→Option aH:=fun bm=>if bm=b then some .res else aa bm
 have kV:(w.setRow b cur').heap.size=w.heap.size:=by simp [World.setRow]
 have az:bl aa S w ay S (w.setRow b cur'):=by
  refine ⟨rfl,rfl,rfl,by omega,fun bm af aI=>setRow_other w b bm cur' (fun e=>by subst e;rw [bx] at aI;cases aI),fun bm o ah=>⟨ah,nI bm o (fun e=>ht o (e ▸ ah))⟩,fun _ _ ah=>.inl ah,fun bm af=>?_⟩;by_cases h:bm=b
  ·subst h;exact .inl (by simp [bx])
  ·simp only [ay,h,if_false] at af;exact .inl af
 refine ⟨_,_,ai,ay,J,S,Ext.refl J,az,ag.frame az (fun bm l' af ao=>?_) (fun bm o ah=>?_) (fun bm l' af=>?_),.cP _ _ _ _ _ _,.inr ⟨by simp [ay],rfl,dJ,k9,bR,by rw [sy,ir,c2,ta],⟨cur',ce,setRow_heap w b cur cur' ce (0,0) hs,?_,fun j u v hu ad=>?_⟩,ht⟩⟩
 ·have bJ:bm≠b:=fun e=>by
   subst e;rw [bx] at af;cases af;rcases ao with ⟨id,h⟩ | ⟨id,j,h⟩
   ·exact b7 _ h
   ·exact cj _ _ h
  exact ⟨by simp [ay,bJ,af],setRow_other w b bm cur' bJ,fun _ h=>h⟩
 ·obtain ⟨v,ad⟩:=ag.cd bm o ah;exact ⟨v,(nI bm o (fun e=>ht o (e ▸ ah))).trans ad⟩
 ·rw [kV];by_cases h:bm=b
  ·subst h;exact ag.base _ l bx
  ·simp only [ay,h,if_false] at af;exact ag.base bm l' af
 ·have ab:cur.toList.length=cap*i.size:=by simp [gV]
  show (List.toArray _).size=_;rw [tj,sy,sy,sZ,tz,ab,eV,tO (by omega)];omega
 ·have ad:(cur.toList.take (len*i.size)++news++cur.toList.drop (len*i.size+news.length))[j]?=some v:=by simpa [cur'] using ad
  have ab:cur.toList.length=cap*i.size:=by simp [gV]
  rw [jm _ _ _ _ (by rw [ab];omega)] at ad;by_cases aw:j<cells.length
  ·rw [sg aw] at hu;rw [if_neg (by omega)] at ad;obtain ⟨a7,a9,bt⟩:=j8 j u v hu (by simpa using ad);exact ⟨a7,a9,bt.mono (Ext.refl J) az.set⟩
  ·rw [ss (by omega)] at hu;have nO:=(sa.1 hu).1;rw [if_pos ⟨by omega,by rw [eV,←c2];omega⟩] at ad;rw [ir] at hu;obtain ⟨a7,a9,bt⟩:=hnew.rel _ u v hu ad;exact ⟨a7,a9,bt.mono (Ext.refl J) az.set⟩
theorem B0 (ag:aK B aa J S w H) (ax:P.underlying t=some (.slice e)) (hi:P.info? e=some i) (bR:0<i.size) {l:aH} (b7:∀ id,l≠.obj id) (cj:∀ id j,l≠.cell id j)
  {cells:List I} {len b k cap:Nat} {cur:Array Value} {ce:TypeId} {f:Nat→Value} (bx:aa b=some l) (k9:cap≤maxLen) (ir:cells.length=len*i.size)
  (hs:w.heap[b]?=some (.cells cur ce (0,0))) (gV:cur.size=k+cap*i.size)
  (h:∀ (j:Nat) (u:I),cells[j]?=some u→S b (k+j)∧w.cell? ⟨b,k+j,none⟩=some (f j)∧u.plain=true∧(f j).oneCell'=true)
  (ai:∀ (j:Nat) (u:I),cells[j]?=some u→Rel J S w u (f j)) (ht:∀ o,k+cells.length≤o→¬ S b o)
  {au cz m c:Nat} {new:List I} {news:List Value} (hnew:c5 J S w new news) (bz:∀ j x,news[j]?=some x→w.cell? ⟨au,cz+j,none⟩=some x) (c2:new.length=m*i.size) (dJ:len+m≤cap) :
  ∃ x w',(Builtin.append_ #[t,t] ty #[.slice (some ⟨b,k,none⟩) len cap,.slice (some ⟨au,cz,none⟩) m c]).run P w=.ok x w'∧aZ B aa J S w H (.av (cells++new) (len+m) (.own i.size)) x w':=by
 classical
 have eV:news.length=m*i.size:=hnew.len ▸ c2;have jO:(len+m)*i.size≤cap*i.size:=s_ _ dJ;rw [ta] at jO;have et:∀ u∈news,u.oneCell'=true:=fun u hu=>by
  obtain ⟨j,aw⟩:=sW.1 hu;have aR:=(sa.1 aw).1;exact (hnew.rel j _ u (si (hnew.len ▸ aR)) aw).2.1
 have dM:=Ff w t ty e i ax hi b k len cap cur ce hs ⟨au,cz,none⟩ m c news eV (fun j x h=>by rw [add_lit];exact bz j x h) et dJ (by rw [gV];omega)
 let cur':Array Value:=(cur.toList.take (k+len*i.size)++news++cur.toList.drop (k+len*i.size+news.length)).toArray
 have pA:∀ j:Nat,cur'[j]?=if k+len*i.size≤j∧j<k+len*i.size+news.length then news[j-(k+len*i.size)]? else cur[j]?:=fun j=>by
  have ab:cur.toList.length=k+cap*i.size:=by simp [gV]
  have:=jm cur.toList news (k+len*i.size) j (by rw [ab];omega);simpa [cur'] using this
 have kI:∀ j,(w.setRow b cur').cell? ⟨b,j,none⟩=cur'[j]?:=fun j=>cell_of_row _ b j cur' ce (0,0) (setRow_heap w b cur cur' ce (0,0) hs);have fK:∀ j,w.cell? ⟨b,j,none⟩=cur[j]?:=fun j=>cell_of_row _ b j cur ce (0,0) hs;have nI:∀ bm o,bm≠b→(w.setRow b cur').cell? ⟨bm,o,none⟩=w.cell? ⟨bm,o,none⟩:=fun bm o h=>by
  unfold World.cell?;simp only [setRow_other w b bm cur' h]
 let ay:Nat→Option aH:=fun bm=>if bm=b then some .res else aa bm
 let S':Nat→Nat→Prop:=fun bm o=>S bm o∨(bm=b∧k+cells.length≤o∧o<k+cells.length+new.length)
 have kV:(w.setRow b cur').heap.size=w.heap.size:=by simp [World.setRow]
 have cp:∀ bm o,S bm o→(w.setRow b cur').cell? ⟨bm,o,none⟩=w.cell? ⟨bm,o,none⟩:=fun bm o ah=>by
  by_cases af:bm=b
  ·subst af;have aq:o<k+cells.length:=by
    rcases sL o (k+cells.length) with h | h
    ·exact h
    ·exact absurd ah (ht o h)
   rw [kI,pA,if_neg (by omega),fK]
  ·exact nI bm o af
 have az:bl aa S w ay S' (w.setRow b cur'):=by
  refine ⟨rfl,rfl,rfl,by omega,fun bm af aI=>setRow_other w b bm cur' (fun e=>by subst e;rw [bx] at aI;cases aI),fun bm o ah=>⟨.inl ah,cp bm o ah⟩,fun bm o ah=>?_,fun bm af=>?_⟩
  ·rcases ah with ah | ⟨rfl,_⟩
   ·exact .inl ah
   ·exact .inr (.inl (by simp [bx]))
  ·by_cases h:bm=b
   ·subst h;exact .inl (by simp [bx])
   ·simp only [ay,h,if_false] at af;exact .inl af
 have pU:∀ (j:Nat) (u:I),(cells++new)[j]?=some u→S' b (k+j)∧(w.setRow b cur').cell? ⟨b,k+j,none⟩=some (cur'.getD (k+j) undef)∧u.plain=true∧(cur'.getD (k+j) undef).oneCell'=true∧Rel J S' (w.setRow b cur') u (cur'.getD (k+j) undef):=by
  intro j u hu;rw [kI];by_cases aw:j<cells.length
  ·rw [sg aw] at hu;obtain ⟨ab,ae,aF,a_⟩:=h j u hu;rw [fK] at ae;(have ak:cur'[k+j]?=some (f j):=by rw [pA,if_neg (by omega),ae]);(have aO:cur'.getD (k+j) undef=f j:=by rw [su,ak];rfl);rw [aO];exact ⟨.inl ab,ak,aF,a_,(ai j u hu).mono (Ext.refl J) az.set⟩
  ·rw [ss (by omega)] at hu;have nO:=(sa.1 hu).1;have mr:j-cells.length<news.length:=hnew.len ▸ nO;have ak:cur'[k+j]?=some (news[j-cells.length]):=by
    rw [pA,if_pos ⟨by omega,by omega⟩,←ir,Nat.add_sub_add_left];exact si mr
   (have aO:cur'.getD (k+j) undef=news[j-cells.length]:=by rw [su,ak];rfl);obtain ⟨a7,a9,bt⟩:=hnew.rel _ u _ hu (si mr);rw [aO];exact ⟨.inr ⟨rfl,by omega,by omega⟩,ak,a7,a9,bt.mono (Ext.refl J) az.set⟩
 refine ⟨_,_,dM,ay,J,S',Ext.refl J,az,ag.frame az (fun bm l' af ao=>?_) (fun bm o ah=>?_) (fun bm l' af=>?_),
  .av _ _ _ b k cap (fun j=>cur'.getD (k+j) undef) (by simp) dJ (by simp) (fun j u hu=>let ⟨aA,aG,aT,br,_⟩:=pU j u hu;⟨aA,aG,aT,br⟩) (fun j u hu=>(pU j u hu).2.2.2.2),
  .inr ⟨by simp [ay],trivial,rfl,dJ,k9,bR,by rw [sy,ir,c2,ta],⟨cur',ce,setRow_heap w b cur cur' ce (0,0) hs,?_⟩,fun o aq ah=>?_⟩⟩
 ·have bJ:bm≠b:=fun e=>by
   subst e;rw [bx] at af;cases af;rcases ao with ⟨id,h⟩ | ⟨id,j,h⟩
   ·exact b7 _ h
   ·exact cj _ _ h
  refine ⟨by simp [ay,bJ,af],setRow_other w b bm cur' bJ,fun o ah=>?_⟩;rcases ah with ah | ⟨h,_⟩
  ·exact ah
  ·exact absurd h bJ
 ·rcases ah with ah | ⟨rfl,ab,ae⟩
  ·obtain ⟨v,ad⟩:=ag.cd bm o ah;exact ⟨v,(cp bm o ah).trans ad⟩
  ·obtain ⟨u,hu⟩:∃ u,(cells++new)[o-k]?=some u:=⟨_,si (by simp;omega)⟩;have:=(pU (o-k) u hu).2.1;rw [Nat.add_sub_cancel' (by omega)] at this;exact ⟨_,this⟩
 ·rw [kV];by_cases h:bm=b
  ·subst h;exact ag.base _ l bx
  ·simp only [ay,h,if_false] at af;exact ag.base bm l' af
 ·have ab:cur.toList.length=k+cap*i.size:=by simp [gV]
  show (List.toArray _).size=k+cap*i.size;rw [tj,sy,sy,sZ,tz,ab,eV,tO (by omega)];omega
 ·simp only [sy] at aq;rcases ah with ah | ⟨_,ab,ae⟩
  ·exact ht o (by omega) ah
  ·omega
end grow
theorem yw (ag:aK B aa J S w H) {x:I} {cG:Value} {m:Nat} {new:List I} (h:appended H x=some (m,new)) (ai:Rel J S w x cG) (aI:x.cW=true) :
  (new=[]∧∃ a c,cG=.slice a m c)∨∃ b o c vs,cG=.slice (some ⟨b,o,none⟩) m c∧c5 J S w new vs∧(∀ j y,vs[j]?=some y→w.cell? ⟨b,o+j,none⟩=some y):=by
 unfold appended at h;split at h
 ·rename_i hr row hm cI;simp only [Option.some.injEq,Prod.mk.injEq] at h;obtain ⟨rfl,rfl⟩:=h;obtain ⟨a,c,ad⟩:=mP hm ai;rcases x6 ag cI ai aI with ⟨ab,n,dU,ae⟩ | ⟨b,o,n,dU,vs,ae,aF,a_⟩
  ·rw [ae] at ad;cases ad;exact .inl ⟨ab,_,_,ae⟩
  ·rw [ae] at ad;cases ad;exact .inr ⟨b,o,_,vs,ae,aF,a_⟩
 ·simp at h
end
end Go.Proofs.Ytkoioidpbbbaiaa.Ab


namespace Go.Proofs.Ytkoioidpbbbaiaa.Ab
open Go
section
variable {P:Program} {B:Nat} {J:List Nat} {w:World} {H:List ar} {aa:Nat→Option aH} {S:Nat→Nat→Prop}
theorem mQ (ag:aK B aa J S w H) {l:aH} (b7:∀ id,l≠.obj id) (cj:∀ id j,l≠.cell id j) {u:I} {v:Value} (ai:Rel J S w u v) (aq:aU aa J S w l u v) :
  ∃ S':Nat→Nat→Prop,(∀ b o,S b o→S' b o)∧(∀ b o,S' b o→S b o∨aa b=some l)∧aK B aa J S' w H∧Rel J S' w u.view v:=by
 by_cases hu:u.cW=true
 ·exact ⟨S,fun _ _ h=>h,fun _ _ h=>.inl h,ag,ai.view hu⟩
 ·obtain ⟨cells,len,z,rfl⟩:∃ cells len z,u=.av cells len (.uniq z):=by
   unfold I.cW at hu;split at hu
   ·exact ⟨_,_,_,rfl⟩
   ·simp at hu
  obtain ⟨a4,aJ,aN,cb,aS,_,_⟩:=kh ag ai aq;exact ⟨a4,aJ,aN,ag.settle aJ (fun b o h=>(aN b o h).imp (fun h=>h) fun h=>⟨_,h,b7,cj⟩) cb,aS⟩
theorem yx {u:I} {r:Nat×List I} (h:appended H u=some r):appended H u.view=some r:=by
 cases u <;> try exact h
 ·rename_i cells len c;cases c <;> exact h
 ·simp [appended,lenOf] at h
theorem Fg (t dn ty e:TypeId) (i:TypeInfo) (z:Value) (dj:IntKind) (ax:P.underlying t=some (.slice e)) (xh:P.underlying dn=some (.int dj)) (hi:P.info? e=some i) (bk:i.zero=some z)
  (base:Option Addr) (n:Int) (aQ:0<n) (af:n.toNat*i.bytes≤140737488355328) (gM:1≤i.bytes) (bR:0<i.size) :
  (Builtin.append_ #[t,dn] ty #[.slice base 0 0,.int .i64 n]).run P w =
   .ok (.slice (some ⟨w.heap.size,0,none⟩) n.toNat (grownCap w n.toNat 0 e)) (w.drew.alloc (.cells (Builtin.zeroCells z.cells n.toNat++Builtin.zeroCells z.cells (grownCap w n.toNat 0 e-n.toNat)) e)):=by
 have aI:n.toNat≤140737488355328:=sT (tN _ gM) af;have bI:IntKind.i64.wrap n=n:=IntWalk.i64_in _ (by omega);have kN:n*(i.bytes:Int)=((n.toNat*i.bytes:Nat):Int):=by rw [uI,vj (by omega)]
 have px:Builtin.nextslicecap n.toNat 0=n.toNat:=by unfold Builtin.nextslicecap;rw [if_pos (by omega)]
 have ab:¬ n<0:=by omega
 have ae:¬ ((281474976710656:Int)<n*i.bytes):=by rw [kN];omega
 have a_:¬ (281474976710656<n.toNat*i.bytes):=by omega
 have bP:¬ (9223372036854775807<max n 0):=by omega
 have bQ:n.toNat*i.size≠0:=by have:0<n.toNat:=by omega
                              have:=vl this bR;omega
 have cO:¬ n≤0:=by omega
 cases base <;> simp [Builtin.append_,run_underlying ax,run_underlying xh,sizeOf,typeInfo,hi,asInt,asIntOf,bI,ab,ae,cO,bP,a_,bQ,Builtin.lenOf,Builtin.firstCells,loadCells,loadCellsFrom,px,zeroValue,bk,grownCap,Question.forced,newRow]
theorem Bd (ag:aK B aa J S w H) {t dn:TypeId} (ty:TypeId) {u x r:I} {v cG:Value} {cy l1:aH} (b7:∀ id,cy≠.obj id) (cj:∀ id j,cy≠.cell id j) (da:∀ id,l1≠.obj id) (db:∀ id j,l1≠.cell id j) (bJ:cy≠l1)
  (h:fe P H t dn u x=some r) (ai:Rel J S w u v) (aq:aU aa J S w cy u v) (eh:Rel J S w x cG) (ig:aU aa J S w l1 x cG) :
  ∃ y w',(Builtin.append_ #[t,dn] ty #[v,cG]).run P w=.ok y w'∧aZ B aa J S w H r y w':=by
 obtain ⟨a4,aJ,aN,bW,j2⟩:=mQ ag da db eh ig;have dC:bl aa S w aa a4 w:=bl.settle aJ fun b o h=>(aN b o h).imp (fun h=>h) fun h=>⟨_,h⟩;have dD:Rel J a4 w u v:=ai.mono (Ext.refl J) dC.set
 have jY:aU aa J a4 w cy u v:=aq.mono (Ext.refl J) dC.set fun b af=>⟨af,rfl,fun o ah=>by
  rcases aN b o ah with h | h
  ·exact h
  ·rw [af] at h;cases h;exact absurd rfl bJ⟩
 suffices ah:∃ y w',(Builtin.append_ #[t,dn] ty #[v,cG]).run P w=.ok y w'∧aZ B aa J a4 w H r y w' by
  obtain ⟨y,w',a,b⟩:=ah;exact ⟨y,w',a,aZ.after (Ext.refl J) dC b⟩
 clear ai aq eh ig dC aJ aN ag;unfold fe at h;split at h
 ·rename_i e ax;split at h
  ·rename_i bb bytes z ah af bk;obtain ⟨i,hi,rfl⟩:=nf ah;simp only [hi,se,Option.some.injEq] at af;subst af;obtain ⟨j3,dh,hi',dZ,fg⟩:=hD (J:=J) (S:=a4) (w:=w) bk;rw [hi] at hi';cases hi';(have kY:z.length=dh.cells.size:=by simpa using fg.len);split at h
   ·rename_i mg;obtain rfl:t=dn:=Nat.eq_of_beq_eq_true mg;split at h
    ·rename_i m new eT;replace eT:=yx eT;split at h
     ·rename_i ak;obtain ⟨c2,bR,ev,zp⟩:=ak;(have gR:dh.cells.size=i.size:=by omega);obtain ⟨G2,G3⟩:=iA zp;have aj:=yw bW eT j2 (I.fx (I.dm x));have zero:m=0→∀ base len cap,v=.slice base len cap→len≤cap→(Builtin.append_ #[t,t] ty #[v,cG]).run P w=.ok v w:=by
       rintro rfl base len cap rfl hle;rcases aj with ⟨_,h3,c,rfl⟩ | ⟨b,o,c,vs,rfl,_,_⟩
       ·exact AW (P:=P) (w:=w) t ty e i ax hi base len cap hle h3 c
       ·exact AW (P:=P) (w:=w) t ty e i ax hi base len cap hle _ c
      have oM:0<m→∃ b o c vs,cG=.slice (some ⟨b,o,none⟩) m c∧c5 J a4 w new vs∧(∀ j y,vs[j]?=some y→w.cell? ⟨b,o+j,none⟩=some y):=by
       intro hm;rcases aj with ⟨aQ,_,c,rfl⟩ | h
       ·rw [aQ] at c2;simp at c2;have:=vl hm bR;omega
       ·exact h
      split at h
      ·rename_i cells len c;split at h
       ·
        split at h
        ·rename_i hm;cases h;have ad:∃ base cap,v=.slice base len cap∧len≤cap:=by
          cases dD with
          | b3=>exact ⟨_,_,rfl,sc _⟩
          | av _ _ _ b o cap f _ hle=>exact ⟨_,_,rfl,hle⟩
         obtain ⟨base,cap,ad,hle⟩:=ad;exact ⟨v,w,zero hm base len cap ad hle,aZ.same bW dD rfl⟩
        ·simp at h
       ·
        have ad:((∃ a,v=.slice a 0 0)∧len=0∧cells=[])∨∃ b o,∃ f:Nat→Value,v=.slice (some ⟨b,o,none⟩) len len ∧
          (∀ (j:Nat) (u:I),cells[j]?=some u→a4 b (o+j)∧w.cell? ⟨b,o+j,none⟩=some (f j)∧u.plain=true∧(f j).oneCell'=true)∧(∀ (j:Nat) (u:I),cells[j]?=some u→Rel J a4 w u (f j)):=by
         cases dD with
         | b3 _ a=>exact .inl ⟨⟨a,rfl⟩,rfl,rfl⟩
         | av _ _ _ b o cap f ak hle hu bz b2=>exact .inr ⟨b,o,f,by rw [ak rfl],bz,b2⟩
        split at h
        ·rename_i hm;split at h
         ·rename_i aQ;cases h;subst aQ;rcases ad with ⟨⟨a,ad⟩,_,_⟩ | ⟨b,o,f,ad,_,_⟩
          ·exact ⟨v,w,zero hm _ _ _ ad (sc _),aa,J,a4,Ext.refl J,bl.refl _ _ _,bW,ad ▸ .b3 _ _,by rw [ad];cases a <;> first | trivial | exact .inl ⟨rfl,rfl,rfl⟩⟩
          ·exact ⟨v,w,zero hm _ _ _ ad (sc _),aa,J,a4,Ext.refl J,bl.refl _ _ _,bW,ad ▸ .cP _ _ _ _ _ _,by rw [ad];exact .inl ⟨rfl,rfl,rfl⟩⟩
         ·cases h;rcases ad with ⟨⟨a,ad⟩,rfl,_⟩ | ⟨b,o,f,ad,_,_⟩
          ·exact ⟨v,w,zero hm _ _ _ ad (sc _),aZ.same bW dD rfl⟩
          ·exact ⟨v,w,zero hm _ _ _ ad (sc _),aZ.same bW dD rfl⟩
        ·rename_i hm;split at h
         ·rename_i hc;obtain ⟨eu,cH⟩:=hc;cases h;obtain ⟨q1,aW⟩:=iA eu;obtain ⟨au,cz,dU,vs,rfl,hnew,bz⟩:=oM (by omega);rcases ad with ⟨ad,rfl,rfl⟩ | ⟨b,o,f,ad,fK,mz⟩
          ·exact h5 bW ax hi dZ gR bR v 0 0 [] (.inl ⟨ad,rfl,rfl,rfl⟩) ⟨rfl,by simp⟩ (by simp) hnew bz c2 (by omega) (by omega) q1 aW
          ·refine h5 bW ax hi dZ gR bR v len len ((List.range cells.length).map f) (.inr ⟨b,o,ad,fun j y aY=>?_⟩) ⟨by simp,fun j bH bo b_ bh=>?_⟩ cH hnew bz c2 (by omega) (by omega) q1 aW
           ·simp only [sm,r_] at aY;obtain ⟨k,al,rfl⟩:=aY;(have aw:j<cells.length:=by have:=(sa.1 al).1;simpa using this);simp [aw] at al;subst al;exact (fK j _ (si aw)).2.1
           ·have aw:=(sa.1 b_).1;simp [aw] at bh;subst bh;exact ⟨(fK j bH b_).2.2.1,(fK j bH b_).2.2.2,mz j bH b_⟩
         ·simp at h
       ·
        rename_i cX;split at h
        ·rename_i hc;obtain ⟨rfl,eu⟩:=hc;cases h;obtain ⟨q1,aW⟩:=iA eu;by_cases hm:m=0
         ·have pT:new=[]:=List.eq_nil_of_length_eq_zero (by rw [c2,hm];simp);have ad:∃ base cap,v=.slice base len cap∧len≤cap:=by
           cases dD with
           | b3=>exact ⟨_,_,rfl,sc _⟩
           | av _ _ _ b o cap f _ hle=>exact ⟨_,_,rfl,hle⟩
          obtain ⟨base,cap,ad,hle⟩:=ad;refine ⟨v,w,zero hm base len cap ad hle,?_⟩;rw [pT,hm,sM,ti];exact hS bW b7 cj dD jY
         ·have hm:0<m:=Nat.pos_of_ne_zero hm;obtain ⟨au,cz,dU,vs,rfl,hnew,bz⟩:=oM hm;cases dD with
          | b3 _ a =>
            obtain ⟨y,w',aA,aG⟩:=h5 (ty:=ty) bW ax hi dZ gR bR (.slice a 0 0) 0 0 [] (.inl ⟨⟨a,rfl⟩,rfl,rfl,rfl⟩) (cs:=[]) ⟨rfl,by simp⟩ (by simp) hnew bz c2 hm (by omega) q1 aW;exact ⟨y,w',aA,aG.settle⟩
          | av _ _ _ b o cap f ak hle hu fK mz =>
            have gO:c5 J a4 w cells ((List.range cells.length).map f):=⟨by simp,fun j bH bo b_ bh=>by
             have aw:=(sa.1 b_).1;simp [aw] at bh;subst bh
             exact ⟨(fK j bH b_).2.2.1,(fK j bH b_).2.2.2,mz j bH b_⟩⟩
            have cH:∀ j y,((List.range cells.length).map f)[j]?=some y→w.cell? ⟨b,o+j,none⟩=some y:=fun j y aY=>by
             simp only [sm,r_] at aY;obtain ⟨k,al,rfl⟩:=aY;(have aw:j<cells.length:=by have:=(sa.1 al).1;simpa using this);simp [aw] at al;subst al;exact (fK j _ (si aw)).2.1
            have zd:cells.length=len*i.size→cap<len+m→_:=fun ao aO =>
             h5 (ty:=ty) (c:=dU) bW ax hi dZ gR bR (.slice (some ⟨b,o,none⟩) len cap) len cap _ (.inr ⟨b,o,rfl,cH⟩) gO ao hnew bz c2 hm aO q1 aW
            rcases jY with ⟨aQ,ab,ae⟩ | ⟨bU,b1,_,eb,fU,_,lk,⟨cur,ce,ln,m2⟩,m3⟩
            ·obtain ⟨y,w',aA,aG⟩:=zd (by rw [ae,aQ];simp) (by omega);exact ⟨y,w',aA,aG.settle⟩
            ·simp only at bU ln m2 m3;by_cases dJ:len+m≤cap
             ·exact B0 bW ax hi bR b7 cj bU fU lk ln m2 fK mz m3 hnew bz c2 dJ
             ·obtain ⟨y,w',aA,aG⟩:=zd lk (by omega);exact ⟨y,w',aA,aG.settle⟩
        ·simp at h
       ·
        rename_i cX;split at h
        ·rename_i hc;obtain ⟨rfl,eu⟩:=hc;cases h;obtain ⟨q1,aW⟩:=iA eu;by_cases hm:m=0
         ·have pT:new=[]:=List.eq_nil_of_length_eq_zero (by rw [c2,hm];simp);have ad:∃ base cap,v=.slice base len cap∧len≤cap:=by
           cases dD with
           | b3=>exact ⟨_,_,rfl,sc _⟩
           | av _ _ _ b o cap f _ hle=>exact ⟨_,_,rfl,hle⟩
           | cP _ _ _ b o cap =>
             refine ⟨_,_,rfl,?_⟩;rcases jY with ⟨aQ,ab,ae⟩ | ⟨_,_,h,_⟩
             ·omega
             ·exact h
          obtain ⟨base,cap,ad,hle⟩:=ad;refine ⟨v,w,zero hm base len cap ad hle,?_⟩;rw [pT,hm,sM,ti];exact hS bW b7 cj dD jY
         ·have hm:0<m:=Nat.pos_of_ne_zero hm;obtain ⟨au,cz,dU,vs,rfl,hnew,bz⟩:=oM hm;cases dD with
          | b3 _ a =>
            exact h5 (ty:=ty) bW ax hi dZ gR bR (.slice a 0 0) 0 0 [] (.inl ⟨⟨a,rfl⟩,rfl,rfl,rfl⟩) (cs:=[]) ⟨rfl,by simp⟩ (by simp) hnew bz c2 hm (by omega) q1 aW
          | av _ _ _ b o cap f ak hle hu fK mz=>exact absurd rfl (hu _)
          | cP _ _ _ b o cap =>
            rcases jY with ⟨aQ,ab,ae⟩ | ⟨bU,b1,eb,fU,_,lk,⟨cur,ce,ln,m2,p10⟩,m3⟩
            ·refine h5 (ty:=ty) bW ax hi dZ gR bR (.slice (some ⟨b,o,none⟩) len cap) len cap [] (.inr ⟨b,o,rfl,by simp⟩) ?_ (by rw [ae,aQ];simp) hnew bz c2 hm (by omega) q1 aW;rw [ae];exact ⟨rfl,by simp⟩
            ·simp only at bU b1 ln m3;subst b1;(have jO:cells.length≤cur.size:=by rw [m2,lk];exact s_ _ eb);by_cases dJ:len+m≤cap
             ·exact B1 bW ax hi bR b7 cj bU fU lk ln m2 p10 m3 hnew bz c2 dJ
             ·refine h5 (ty:=ty) bW ax hi dZ gR bR (.slice (some ⟨b,0,none⟩) len cap) len cap (cur.toList.take cells.length) (.inr ⟨b,0,rfl,fun j y aY=>?_⟩) ⟨by simp;omega,fun j bH bo b_ bh=>?_⟩ lk hnew bz c2 hm (by omega) q1 aW
              ·rw [sI] at aY;split at aY
               ·rw [sB,cell_of_row w b _ cur ce (0,0) ln];simpa using aY
               ·simp at aY
              ·rw [sI] at bh;split at bh
               ·exact p10 j bH bo b_ (by simpa using bh)
               ·simp at bh
        ·simp at h
      ·
       rename_i id off len cap oO;split at h
       ·rename_i hc;obtain ⟨rfl,rfl,hm⟩:=hc;simp only [sf] at h;obtain ⟨fT,hold,h⟩:=h;split at h
        ·rename_i eu;cases h;obtain ⟨q1,aW⟩:=iA eu;obtain ⟨au,cz,dU,vs,rfl,hnew,bz⟩:=oM hm;have fL:fT.length=cap*i.size:=by
          simp only [rowOf] at hold;split at hold
          ·split at hold
           ·simp at hold;rw [←hold];simp;omega
           ·simp at hold
          ·simp at hold
         have fO:∃ b o,v=.slice (some ⟨b,o,none⟩) cap cap:=by
          cases dD with
          | ref _ _ _ _ _ b cap' _ ak _=>exact ⟨b,off,by rw [ak cap rfl]⟩
         obtain ⟨de,G8,gj⟩:=fO;rcases x6 bW hold dD rfl with ⟨DA,n,c,ad⟩ | ⟨b,o,n,c,cY,ad,gO,fK⟩
         ·rw [ad] at gj;cases gj;subst DA;exact h5 bW ax hi dZ gR bR v _ _ [] (.inl ⟨⟨_,ad⟩,rfl,rfl,rfl⟩) ⟨rfl,by simp⟩ fL hnew bz c2 hm (by omega) q1 aW
         ·rw [ad] at gj;simp only [Value.slice.injEq,Option.some.injEq,Addr.mk.injEq] at gj;obtain ⟨⟨rfl,rfl,_⟩,rfl,rfl⟩:=gj;exact h5 bW ax hi dZ gR bR v _ _ cY (.inr ⟨b,o,ad,fK⟩) gO fL hnew bz c2 hm (by omega) q1 aW
        ·simp at h
       ·simp at h
      ·simp at h
     ·simp at h
    ·simp at h
   ·
    split at h
    ·rename_i dj n xh;split at h
     ·rename_i ak;obtain ⟨aQ,eu,bR,ev⟩:=ak;cases h;obtain ⟨q1,aW⟩:=iA eu;have gk:cG=.int .i64 n:=Rel.di j2;have ad:∃ base,v=.slice base 0 0:=by
       cases dD with
       | b3=>exact ⟨_,rfl⟩
       | av _ _ _ b o cap f ak _=>exact ⟨_,by rw [ak rfl]⟩
      obtain ⟨base,rfl⟩:=ad;subst gk;have ai:=Fg (P:=P) (w:=w) t dn ty e i dh dj ax xh hi dZ base n aQ q1 aW bR;have fh:=grownCap_ge w n.toNat 0 e;have aI:n.toNat≤140737488355328:=sT (tN _ aW) q1;have hle:=grownCap_le_maxLen w n.toNat 0 e (by simp only [maxLen];omega);generalize grownCap w n.toNat 0 e=ff at fh hle ai;have az:=kz aa a4 w;have fP:=(ni fg (by omega) n.toNat).mono (Ext.refl J) az.set
      have iY:=ob (mA bW) fP (Builtin.zeroCells dh.cells (ff-n.toNat)).toList e n.toNat ff i.size bR (by rw [iy,ev]) fh hle (by
       rw [←fP.len,iy,ev,sY,size_zeroCells,←kY,ev,←ta];congr 1;omega)
      refine ⟨_,_,ai,aZ.after (Ext.refl J) az ?_⟩;have he:(((Array.range (n.toNat*z.length)).map (fun i=>dh.cells[i % dh.cells.size]!)).toList++(Builtin.zeroCells dh.cells (ff-n.toNat)).toList).toArray =
        Builtin.zeroCells dh.cells n.toNat++Builtin.zeroCells dh.cells (ff-n.toNat):=by
       apply Array.ext';simp [Builtin.zeroCells,kY]
      rw [he] at iY;exact iY
     ·simp at h
    ·simp at h
  ·simp at h
 ·simp at h
theorem Ag (ag:aK B aa J S w H) {id:Nat} {l:List I} {b z:Nat} {cur:Array Value} (aE:id<H.length) (aG:aa b=some (.obj id)) (bg:∀ o,¬ S b o)
  (bd:∀ (j:Nat) (u:I) (v:Value),l[j]?=some u→cur[j]?=some v→u.cW=true∧v.oneCell'=true∧Rel J S w u v∧aU aa J S w (.cell id j) u v)
  {bI:World} {nb cap1 xr:Nat} {jG:Array Value} {e1:TypeId} (aq:bI.os=w.os) (ax:bI.tape=w.tape) (w6:bI.output=w.output) (kV:w.heap.size≤bI.heap.size)
  (hold:∀ au,au<w.heap.size→au≠b→bI.heap[au]?=w.heap[au]?) (kN:nb=b∨nb=w.heap.size) (Dl:nb<bI.heap.size) (jN:bI.heap[nb]?=some (.cells jG e1 (0,0)))
  (gP:jG.size=cap1*z) (hm:cap1≤maxLen) (bk:0<z) {new:List I} {news:List Value} (hnew:c5 J S w new news) (dJ:l.length+new.length≤jG.size)
  (C2:∀ j,j<l.length→jG[j]?=cur[j]?) (C3:∀ (j:Nat) (v:Value),news[j]?=some v→jG[l.length+j]?=some v) (hlen:xr≤cap1) :
  aZ B aa J S w (H.set id .dead++[.grow (l++new) (H.length+1) z,.dead]) (.cm H.length (H.length+1) xr z) (.slice (some ⟨nb,0,none⟩) xr cap1) bI:=by
 classical
 let ay:Nat→Option aH:=fun au=>if au=nb then some (.obj H.length) else if au=b then none else match aa au with
  | some (.cell i j)=>if i=id then some (.cell H.length j) else some (.cell i j)
  | o=>o
 have aR:∀ au l',aa au=some l'→au<w.heap.size:=fun au l' h=>(ag.base au l' h).2;have ze:∀ au l',aa au=some l'→au≠b→au≠nb:=fun au l' h af e=>by
  subst e;rcases kN with e | e
  ·exact af e
  ·have:=aR _ _ h;omega
 have hJ:∀ au o,S au o→au≠b:=fun au o ah e=>bg o (e ▸ ah);have bz:∀ au o,S au o→bI.cell? ⟨au,o,none⟩=w.cell? ⟨au,o,none⟩:=fun au o ah=>by
  obtain ⟨v,ad⟩:=ag.cd au o ah;unfold World.cell?;simp only [hold au (mR ad) (hJ au o ah)]
 have nS:∀ au,ay au≠none→aa au≠none∨w.heap.size≤au:=fun au af=>by
  by_cases ab:au=nb
  ·rcases kN with e | e
   ·exact .inl (by rw [ab,e,aG];simp)
   ·exact .inr (by omega)
  ·refine .inl fun aQ=>af ?_;by_cases ae:au=b
   ·simp only [ay,ab,ae,if_false,if_true];rw [if_neg (by rw [←ae];exact ab)]
   ·simp only [ay,ab,ae,if_false,aQ]
 have az:bl aa S w ay S bI:=⟨aq,ax,w6,kV,fun au af aI=>hold au af (fun e=>by subst e;rw [aG] at aI;cases aI),fun au o ah=>⟨ah,bz au o ah⟩,fun _ _ h=>.inl h,nS⟩;have mu:(J++[nb,cap1])[H.length]?=some nb:=by rw [←ag.cK];simp
 have mv:(J++[nb,cap1])[H.length+1]?=some cap1:=by rw [←ag.cK];simp
 refine ⟨ay,J++[nb,cap1],S,Ext.append J _,az,⟨by simp [ag.cK],fun bC o h=>?_,fun au o ah=>?_,fun au l' af=>?_,sT ag.c0 kV⟩,.cm _ _ _ _ nb cap1 mu mv hlen,trivial⟩
 ·rcases uG bC H.length with ao | rfl | ao
  ·rw [sg (by simpa using ao)] at h;by_cases cx:bC=id
   ·subst cx;rw [sk ao] at h;cases h;trivial
   ·rw [sd (Ne.symm cx)] at h;refine (ag.obj bC o h).frame (Ext.append J _) az.set fun au l' af c'=>?_;have bJ:au≠b:=fun e=>by
     subst e;rw [aG] at af;cases af;rcases c' with h | ⟨j,h⟩
     ·cases h;exact cx rfl
     ·cases h
    refine ⟨?_,hold au (aR _ _ af) bJ,fun _ h=>h⟩;simp only [ay,ze au l' af bJ,bJ,if_false,af];rcases c' with rfl | ⟨j,rfl⟩
    ·rfl
    ·simp [cx]
  ·rw [ss (by simp)] at h;simp only [s6,tx,tG,Option.some.injEq] at h;subst h;refine ⟨nb,jG,e1,mu,by simp [ay],jN,by rw [sy];exact dJ,?_,fun j u v hu ad=>?_,cap1,mv,hm,bk,gP⟩
   ·rcases kN with rfl | rfl
    ·exact bg
    ·exact mX ag
   ·by_cases aw:j<l.length
    ·rw [sg aw] at hu;rw [C2 j aw] at ad;obtain ⟨a7,a9,bt,b6⟩:=bd j u v hu ad;refine ⟨a7,a9,bt.mono (Ext.append J _) az.set,b6.mono (Ext.append J _) az.set fun au af=>?_⟩;(have bJ:au≠b:=fun e=>by subst e;rw [aG] at af;cases af);refine ⟨?_,hold au (aR _ _ af) bJ,fun _ h=>h⟩;simp only [ay,ze au _ af bJ,bJ,if_false,af,if_true]
    ·rw [ss (by omega)] at hu;have nO:=(sa.1 hu).1;have mr:j-l.length<news.length:=hnew.len ▸ nO;have bh:=C3 (j-l.length) _ (si mr);rw [show l.length+(j-l.length)=j by omega,ad] at bh;obtain ⟨a7,a9,bt⟩:=hnew.rel _ u v hu (by rw [si mr,bh]);exact ⟨I.fx a7,a9,bt.mono (Ext.append J _) az.set,aU.b4 a7⟩
  ·rw [ss (by simp;omega)] at h;rw [s6] at h;obtain ⟨k,al⟩:∃ k,bC-H.length=k+1:=⟨bC-H.length-1,by omega⟩;rw [al] at h;cases k with
   | zero=>simp at h;subst h;trivial
   | succ k=>simp at h
 ·obtain ⟨v,ad⟩:=ag.cd au o ah;exact ⟨v,(bz au o ah).trans ad⟩
 ·by_cases ab:au=nb
  ·rw [ab];refine ⟨?_,Dl⟩;rcases kN with e | e
   ·rw [e];exact (ag.base b _ aG).1
   ·rw [e];exact ag.c0
  ·have:∃ cy,aa au=some cy:=by
    rcases nS au (by rw [af];simp) with h | h
    ·cases aQ:aa au with
     | none=>exact absurd aQ h
     | some cy=>exact ⟨cy,rfl⟩
    ·exfalso;by_cases ae:au=b
     ·have:=aR b _ aG;omega
     ·have aQ:aa au=none:=by
       cases aQ:aa au with
       | none=>rfl
       | some cy=>have:=aR au _ aQ;omega
      simp [ay,ab,ae,aQ] at af
   obtain ⟨cy,aQ⟩:=this;have:=ag.base au cy aQ;exact ⟨this.1,by omega⟩
theorem EK (ag:aK B aa J S w H) {l:aH} (b7:∀ id,l≠.obj id) (cj:∀ id j,l≠.cell id j) {cells:List I} {len z:Nat} (aQ:len≠0) {v:Value}
  (ai:Rel J S w (.av cells len (.uniq z)) v) (aq:aU aa J S w l (.av cells len (.uniq z)) v) :
  aZ B aa J S w (H++[.grow cells (H.length+1) z,.dead]) (.cm H.length (H.length+1) len z) v w:=by
 classical
 cases ai with
 | b3 c a=>exact absurd rfl aQ
 | av cells len c b o cap f ak hle hu h fu=>exact absurd rfl (hu z)
 | cP cells len z b o cap =>
   rcases aq with ⟨rfl,_,_⟩ | ⟨ab,aq,ae,aF,a_,bP,⟨cur,e,bQ,cO,cR⟩,cn⟩
   ·exact absurd rfl aQ
   ·simp only at ab bQ cn aq;subst aq
    let ay:Nat→Option aH:=fun au=>if au=b then some (.obj H.length) else aa au
    have az:bl aa S w ay S w:=⟨rfl,rfl,rfl,sc _,fun _ _ _=>rfl,fun _ _ h=>⟨h,rfl⟩,fun _ _ h=>.inl h,fun au af=>by
     by_cases dI:au=b
     ·subst dI;exact .inl (by simp [ab])
     ·simp only [ay,dI,if_false] at af;exact .inl af⟩
    have bW:aK B ay J S w H:=by
     refine ag.frame az (fun au l' af ao=>?_) ag.cd (fun au l' af=>?_)
     ·have bJ:au≠b:=fun e=>by
       subst e;rw [ab] at af;cases af;rcases ao with ⟨id,h⟩ | ⟨id,j,h⟩
       ·exact b7 _ h
       ·exact cj _ _ h
      exact ⟨by simp [ay,bJ,af],rfl,fun _ h=>h⟩
     ·by_cases dI:au=b
      ·subst dI;exact ag.base _ l ab
      ·simp only [ay,dI,if_false] at af;exact ag.base au l' af
    have ch:=(bW.push cap (o:=.dead) trivial);(have mu:(J++[b,cap])[H.length]?=some b:=by rw [←ag.cK];simp);(have mv:(J++[b,cap])[H.length+1]?=some cap:=by rw [←ag.cK];simp);refine ⟨ay,J++[b,cap],S,Ext.append J _,az,⟨by simp [ag.cK],fun bC o bE=>?_,ag.cd,bW.base,ag.c0⟩,.cm _ _ _ _ b cap mu mv ae,trivial⟩;rcases uG bC H.length with ao | rfl | ao
    ·rw [sg ao] at bE;exact (bW.obj bC o bE).frame (Ext.append J _) (fun b o ah=>⟨ah,rfl⟩) fun b l af _=>⟨af,rfl,fun o ah=>ah⟩
    ·rw [ss (sc _)] at bE;simp only [tx,tG,Option.some.injEq] at bE;subst bE;refine ⟨b,cur,e,mu,by simp [ay],bQ,by rw [cO,bP];exact s_ _ ae,cn,fun j u v hu ad=>?_,cap,mv,aF,a_,cO⟩;obtain ⟨a7,a9,bt⟩:=cR j u v hu ad;exact ⟨I.fx a7,a9,bt.mono (Ext.append J _) az.set,aU.b4 a7⟩
    ·rw [ss (by omega)] at bE;obtain ⟨k,al⟩:∃ k,bC-H.length=k+1:=⟨bC-H.length-1,by omega⟩;rw [al] at bE;cases k with
     | zero=>simp at bE;subst bE;trivial
     | succ k=>simp at bE
theorem FK (ag:aK B aa J S w H) {lo:Nat} {ts:Array TypeId} (ty:TypeId) {u x r:I} {v cG:Value} {cy l1:aH} (b7:∀ id,cy≠.obj id) (cj:∀ id j,cy≠.cell id j) (da:∀ id,l1≠.obj id) (db:∀ id j,l1≠.cell id j) (bJ:cy≠l1)
  {H':List ar} (h:iu P lo ts H [u,x]=some (r,H')) (ai:Rel J S w u v) (aq:aU aa J S w cy u v) (eh:Rel J S w x cG) (ig:aU aa J S w l1 x cG) :
  ∃ y w',(Builtin.append_ ts ty #[v,cG]).run P w=.ok y w'∧aZ B aa J S w H' r y w':=by
 unfold iu at h;simp only at h;split at h
 ·rename_i t dn gQ;obtain rfl:ts=#[t,dn]:=by rw [←tF (xs:=ts),gQ]
  split at h
  ·
   rename_i s c n eo;split at h
   ·rename_i cells ja z eT;split at h
    ·simp at h
    ·rename_i aI;simp only [Option.some.injEq,Prod.mk.injEq] at h;obtain ⟨rfl,rfl⟩:=h;obtain ⟨y,w',q1,bu,ck,bL,bU,b1,eb,fU,m1⟩:=Bd ag ty b7 cj da db bJ eT ai aq eh ig;have q:=EK eb (l:=.res) (by simp) (by simp) aI fU m1;exact ⟨y,w',q1,aZ.after bU b1 q⟩
   ·simp at h
  ·
   rename_i s id gid len z;split at h
   ·split at h
    ·rename_i e l g cX ax aE;split at h
     ·rename_i bb bytes gx m new bR af bk eT;split at h
      ·rename_i ak;obtain ⟨rfl,rfl,rfl,rfl,ao,c2,aQ,hm,ev,zp,eu⟩:=ak;simp only [Option.some.injEq,Prod.mk.injEq] at h;obtain ⟨rfl,rfl⟩:=h;obtain ⟨i,hi,rfl⟩:=nf bR;simp only [hi,se,Option.some.injEq] at af;subst af;obtain ⟨a4,aJ,aN,bW,j2⟩:=mQ ag da db eh ig;have dC:bl aa S w aa a4 w:=bl.settle aJ fun b o h=>(aN b o h).imp (fun h=>h) fun h=>⟨_,h⟩;obtain ⟨j3,dh,hi',dZ,fg⟩:=hD (J:=J) (S:=a4) (w:=w) bk;rw [hi] at hi';cases hi';(have kY:gx.length=dh.cells.size:=by simpa using fg.len);(have gR:dh.cells.size=i.size:=by omega);obtain ⟨q1,aW⟩:=iA eu;replace eT:=yx eT;have aR:=(sa.1 aE).1;obtain ⟨au,cz,dU,vs,rfl,hnew,bz⟩:∃ b o c vs,cG=.slice (some ⟨b,o,none⟩) m c∧c5 J a4 w new vs∧(∀ j y,vs[j]?=some y→w.cell? ⟨b,o+j,none⟩=some y):=by
        rcases yw bW eT j2 (I.fx (I.dm x)) with ⟨ab,_,c,rfl⟩ | h
        ·rw [ab] at c2;simp at c2;have:=vl hm aQ;omega
        ·exact h
       have eV:vs.length=m*i.size:=hnew.len ▸ c2;obtain ⟨b,cur,ce,aA,aG,aT,br,bg,bd,cap,dd,dy,dS,gF⟩:=bW.obj id _ aE;cases ai with
       | cm _ _ _ _ de GI iS y9 hle =>
         rw [aA] at iS;cases iS;rw [dd] at y9;cases y9;have et:∀ u∈vs,u.oneCell'=true:=fun u hu=>by
          obtain ⟨j,aw⟩:=sW.1 hu;have aR:=(sa.1 aw).1;exact (hnew.rel j _ u (si (hnew.len ▸ aR)) aw).2.1
         have CJ:b<w.heap.size:=(sJ.1 aT).1
         suffices ah:∃ y w',(Builtin.append_ #[t,t] ty #[.slice (some ⟨b,0,none⟩) len cap,.slice (some ⟨au,cz,none⟩) m dU]).run P w=.ok y w'∧aZ B aa J a4 w (H.set id .dead++[.grow (l++new) (H.length+1) i.size,.dead]) (.cm H.length (H.length+1) (len+m) i.size) y w' by
          obtain ⟨y,w',bU,b1⟩:=ah;exact ⟨y,w',bU,aZ.after (Ext.refl J) dC b1⟩
         by_cases dJ:len+m≤cap
         ·have jO:(len+m)*i.size≤cap*i.size:=s_ _ dJ;rw [ta] at jO;have ai:=AV (P:=P) w t ty e i ax hi b len cap cur ce aT ⟨au,cz,none⟩ m dU vs eV (fun j x h=>by rw [add_lit];exact bz j x h) et dJ (by rw [gF];omega);(have ab:cur.toList.length=cap*i.size:=by simp [gF]);refine ⟨_,_,ai,?_⟩;refine Ag bW aR aG bg bd (nb:=b) (cap1:=cap) (e1:=ce) (hnew:=hnew) (by exact rfl) (by exact rfl) (by exact rfl) (by simp [World.setRow]) (fun bm _ gM=>by exact setRow_other w b bm _ gM) (.inl rfl) (by simpa [World.setRow] using CJ) (by exact setRow_heap w b cur _ ce (0,0) aT) ?_ dy dS ?_ (fun j aw=>?_) (fun j v aw=>?_) dJ
          ·rw [tj,sy,sy,sZ,tz,ab,eV,tO (by omega)];omega
          ·rw [tj,sy,sy,sZ,tz,ab,eV,tO (by omega),ao,c2];omega
          ·have:=jm cur.toList vs (len*i.size) j (by rw [ab];omega);rw [if_neg (by omega)] at this;simpa using this
          ·have mq:=(sa.1 aw).1;have:=jm cur.toList vs (len*i.size) (l.length+j) (by rw [ab];omega);rw [if_pos ⟨by omega,by omega⟩,ao,show len*i.size+j-len*i.size=j by omega,aw] at this;rw [ao];simpa using this
         ·have De:len+m≤140737488355328:=sT (tN _ aW) q1;(have er:len+m≤maxLen:=by simp only [maxLen];omega);have cH:len*i.size≤cap*i.size:=s_ _ hle;have fL:(cur.toList.take (len*i.size)).length=len*i.size:=by rw [sZ];simp;omega
          have ai:=run_append_grow (P:=P) w t ty e i dh ax hi dZ ⟨b,0,none⟩ len cap (cur.toList.take (len*i.size)) fL (fun j x h=>by
           rw [sI] at h;split at h
           ·rw [add_lit,sB,cell_of_row w b _ cur ce (0,0) aT];simpa using h
           ·simp at h) ⟨au,cz,none⟩ m dU vs eV (fun j x h=>by rw [add_lit];exact bz j x h) (by omega) (by omega) (growslice_fits (by omega) q1)
          have fh:=grownCap_ge w (len+m) cap e;have za:=grownCap_le_maxLen w (len+m) cap e er;generalize grownCap w (len+m) cap e=ff at fh za ai;refine ⟨_,_,ai,?_⟩;refine Ag bW aR aG bg bd (nb:=w.heap.size) (cap1:=ff) (e1:=e) (hnew:=hnew) (by exact rfl) (by exact rfl) (by exact rfl) (by simp) (fun bm gM _=>by exact heap_alloc_old w.drew _ bm gM) (.inr rfl) (by simp) (by exact heap_alloc_new w.drew _) ?_ za dS ?_ (fun j aw=>?_) (fun j v aw=>?_) fh
          ·simp only [uJ,tj,fL,eV,size_zeroCells,gR];rw [←ta,←ta];congr 1;omega
          ·simp only [uJ,tj,fL,eV,size_zeroCells,gR,ao,c2];omega
          ·rw [ao] at aw;rw [vm (by simp only [uJ,tj,fL];omega),vm (by simp only [tj,fL];omega)];simp [aw]
          ·have mq:=(sa.1 aw).1;rw [ao,vm (by simp only [uJ,tj,fL];omega),Array.getElem?_append_right (by simp only [tj,fL];omega)];simp only [tj,fL,show len*i.size+j-len*i.size=j by omega];simpa using aw
      ·simp at h
     ·simp at h
    ·simp at h
   ·simp at h
  ·simp at h
 ·simp at h
theorem FE (ag:aK B aa J S w H) (lo:Nat) (vs:List I):aK B aa J S w (jo lo H vs):=by
 unfold jo;split
 ·rename_i id _ len z _;split
  ·rename_i l g cX aE;split
   ·refine ⟨by simpa using ag.cK,fun bC o aq=>?_,ag.cd,ag.base,ag.c0⟩;by_cases cx:bC=id
    ·subst cx;rw [sk (sa.1 aE).1] at aq;cases aq;obtain ⟨b,cur,e,aA,aG,aT,br,bg,bd,dd⟩:=ag.obj bC _ aE;refine ⟨b,cur,e,aA,aG,aT,sT (by rw [sZ];omega) br,bg,fun j u v hu ad=>?_,dd⟩;rw [sI] at hu;split at hu
     ·exact bd j u v hu ad
     ·simp at hu
    ·rw [sd (Ne.symm cx)] at aq;exact ag.obj bC o aq
   ·exact ag
  ·exact ag
 ·exact ag
theorem FJ (ag:aK B aa J S w H) {lo:Nat} {ts:Array TypeId} (ty:TypeId) {u x r:I} {v cG:Value} {cy l1:aH} (b7:∀ id,cy≠.obj id) (cj:∀ id j,cy≠.cell id j) (da:∀ id,l1≠.obj id) (db:∀ id j,l1≠.cell id j) (bJ:cy≠l1)
  {H':List ar} (h:jc P lo ts H [u,x]=some (r,H')) (ai:Rel J S w u v) (aq:aU aa J S w cy u v) (eh:Rel J S w x cG) (ig:aU aa J S w l1 x cG) :
  ∃ y w',(Builtin.append_ ts ty #[v,cG]).run P w=.ok y w'∧aZ B aa J S w H' r y w' :=
 FK (FE ag lo [u,x]) ty b7 cj da db bJ h ai aq eh ig
end
end Go.Proofs.Ytkoioidpbbbaiaa.Ab


namespace Go.Proofs.Ytkoioidpbbbaiaa.Ab
open Go
section
variable {P:Program} {B:Nat} {J:List Nat} {w:World} {H:List ar} {aa:Nat→Option aH} {S:Nat→Nat→Prop}
theorem mJ {ts:Array TypeId} (h:i_ P ts[0]?=true):∃ t e,ts[0]?=some t∧P.underlying t=some (.slice e):=by
 unfold i_ at h;split at h
 ·rename_i e he;simp only [sf] at he;obtain ⟨t,ab,ae⟩:=he;exact ⟨t,e,ab,ae⟩
 ·simp at h
theorem FW (ag:aK B aa J S w H) {ts:Array TypeId} (ty:TypeId) {u r:I} {H':List ar} {v:Value} (h:hx P ts H [u]=some (r,H')) (ai:Rel J S w u v) :
  ∃ y,(Builtin.len_ ts ty #[v]).run P w=.ok y w∧aZ B aa J S w H' r y w:=by
 simp only [hx] at h;split at h
 ·split at h
  ·rename_i ah;obtain ⟨t,e,ax,he⟩:=mJ ah;simp only [Option.some.injEq,Prod.mk.injEq] at h;obtain ⟨rfl,rfl⟩:=h;have ad:∃ a c,v=.slice a _ c:=mP (n:=_) rfl ai;obtain ⟨a,c,rfl⟩:=ad;exact ⟨_,by simp [Builtin.len_,ax,run_underlying he,goInt],aZ.same ag (.int _ _) rfl⟩
  ·simp at h
 ·split at h
  ·rename_i ah;obtain ⟨t,e,ax,he⟩:=mJ ah;simp only [Option.some.injEq,Prod.mk.injEq] at h;obtain ⟨rfl,rfl⟩:=h;have ad:∃ a c,v=.slice a _ c:=mP (n:=_) rfl ai;obtain ⟨a,c,rfl⟩:=ad;exact ⟨_,by simp [Builtin.len_,ax,run_underlying he,goInt],aZ.same ag (.int _ _) rfl⟩
  ·simp at h
 ·split at h
  ·rename_i _ _ ax aE;simp only [sf] at ax;obtain ⟨t,ax,he⟩:=ax;simp only [Option.some.injEq,Prod.mk.injEq] at h;obtain ⟨rfl,rfl⟩:=h;obtain ⟨b,bB,aA,aG,aT,br,bg,bd⟩:=ag.obj _ _ aE;cases ai with
   | map _ au k =>
     rw [aA] at k;cases k;exact ⟨_,by simp [Builtin.len_,ax,run_underlying he,goInt,getObj,Sem.run,aT,br],aZ.same ag (.int _ _) rfl⟩
  ·simp at h
 ·split at h
  ·rename_i n e he;simp only [sf] at he;obtain ⟨t,ax,he⟩:=he;simp only [Option.some.injEq,Prod.mk.injEq] at h;obtain ⟨rfl,rfl⟩:=h;exact ⟨_,by simp [Builtin.len_,ax,run_underlying he,goInt],aZ.same ag (.int _ _) rfl⟩
  ·simp at h
theorem FQ (ag:aK B aa J S w H) {ts:Array TypeId} (ty:TypeId) {u r:I} {H':List ar} {v:Value} (h:j_ P ts H [u]=some (r,H')) (ai:Rel J S w u v) :
  ∃ y,(Builtin.cap_ ts ty #[v]).run P w=.ok y w∧aZ B aa J S w H' r y w:=by
 unfold j_ at h;split at h
 ·rename_i cs n heq;simp only [List.cons.injEq,and_true] at heq;subst heq;split at h
  ·rename_i ah;obtain ⟨t,e,ax,he⟩:=mJ ah;simp only [Option.some.injEq,Prod.mk.injEq] at h;obtain ⟨rfl,rfl⟩:=h;have ad:∃ a,v=.slice a n n:=by
    cases ai with
    | b3=>exact ⟨_,rfl⟩
    | av _ _ _ b o cap f ak=>exact ⟨_,by rw [ak rfl]⟩
   obtain ⟨a,rfl⟩:=ad;exact ⟨_,by simp [Builtin.cap_,ax,run_underlying he,goInt],aZ.same ag (.int _ _) rfl⟩
  ·simp at h
 ·rename_i id off len n bb heq;simp only [List.cons.injEq,and_true] at heq;subst heq;split at h
  ·rename_i ah;obtain ⟨t,e,ax,he⟩:=mJ ah;simp only [Option.some.injEq,Prod.mk.injEq] at h;obtain ⟨rfl,rfl⟩:=h;have ad:∃ a,v=.slice a len n:=by
    cases ai with
    | ref _ _ _ _ _ b cap _ ak=>exact ⟨_,by rw [ak n rfl]⟩
   obtain ⟨a,rfl⟩:=ad;exact ⟨_,by simp [Builtin.cap_,ax,run_underlying he,goInt],aZ.same ag (.int _ _) rfl⟩
  ·simp at h
 ·simp at h
theorem A4 {k:IntKind}:∀ (us:List I) (a n:Int) (vs:List Value) (bA:Nat→aH),k8 us a=some n→a5 bA aa J S w us vs→(vs.foldlM Builtin.min2 (.int k a)).run P w=.ok (.int k n) w
 | [],a,n,vs,bA,h,ad=>by
   cases vs with
   | cons=>exact absurd ad.len (by simp)
   | nil=>simp only [k8,Option.some.injEq] at h;subst h;rfl
 | u::us,a,n,vs,bA,h,ad=>by
   obtain ⟨v1,t1,rfl,aS,_,dg⟩:=ad.g4;unfold k8 at h;split at h
   ·rename_i heq;simp at heq
   ·rename_i k' b r _ heq;simp only [List.cons.injEq] at heq;obtain ⟨rfl,rfl⟩:=heq;have e1:=aS.di;subst e1;simp only [List.foldlM_cons,Builtin.min2,pure_bind];exact A4 _ _ _ _ _ h dg
   ·cases h
theorem A3 {k:IntKind}:∀ (us:List I) (a n:Int) (vs:List Value) (bA:Nat→aH),k7 us a=some n→a5 bA aa J S w us vs→(vs.foldlM Builtin.max2 (.int k a)).run P w=.ok (.int k n) w
 | [],a,n,vs,bA,h,ad=>by
   cases vs with
   | cons=>exact absurd ad.len (by simp)
   | nil=>simp only [k7,Option.some.injEq] at h;subst h;rfl
 | u::us,a,n,vs,bA,h,ad=>by
   obtain ⟨v1,t1,rfl,aS,_,dg⟩:=ad.g4;unfold k7 at h;split at h
   ·rename_i heq;simp at heq
   ·rename_i k' b r _ heq;simp only [List.cons.injEq] at heq;obtain ⟨rfl,rfl⟩:=heq;have e1:=aS.di;subst e1;simp only [List.foldlM_cons,Builtin.max2,pure_bind];exact A3 _ _ _ _ _ h dg
   ·cases h
theorem F6 {us:List I} {r:I} (ts:Array TypeId) (ty:TypeId) {bA:Nat→aH} {vs:List Value} (h:n' us=some r) (ad:a5 bA aa J S w us vs) :
  ∃ y,(Builtin.min_ ts ty vs.toArray).run P w=.ok y w∧Rel J S w r y∧r.plain=true:=by
 unfold n' at h;split at h
 ·simp only [r_] at h;obtain ⟨n,h,rfl⟩:=h;obtain ⟨v1,t1,rfl,aS,_,dg⟩:=ad.g4;have e1:=aS.di;subst e1;exact ⟨_,by simp only [Builtin.min_];exact A4 _ _ _ _ _ h dg,.int _ _,rfl⟩
 ·simp at h
theorem F5 {us:List I} {r:I} (ts:Array TypeId) (ty:TypeId) {bA:Nat→aH} {vs:List Value} (h:n_ us=some r) (ad:a5 bA aa J S w us vs) :
  ∃ y,(Builtin.max_ ts ty vs.toArray).run P w=.ok y w∧Rel J S w r y∧r.plain=true:=by
 unfold n_ at h;split at h
 ·simp only [r_] at h;obtain ⟨n,h,rfl⟩:=h;obtain ⟨v1,t1,rfl,aS,_,dg⟩:=ad.g4;have e1:=aS.di;subst e1;exact ⟨_,by simp only [Builtin.max_];exact A3 _ _ _ _ _ h dg,.int _ _,rfl⟩
 ·simp at h
theorem BE (ag:aK B aa J S w H) {lo id off len bb n:Nat} {H':List ar} {cs:List I} {vs:List Value} (eE:c5 J S w cs vs) (cH:cs.length=n) (aI:n≤len*bb)
  (h:fS lo H id (fun l=>if off+len*bb≤l.length then some (setCells off cs l) else none)=some H') {b:Nat} (af:J[id]?=some b) :
  ∃ w',(storeCells ⟨b,off,none⟩ vs).run P w=.ok () w'∧∃ ay,bl aa S w ay S w'∧aK B ay J S w' H'∧∃ cur e cur' cV,w.heap[b]?=some (.cells cur e (0,0))∧w'.heap[b]?=some (.cells cur' cV (0,0))∧cur'.size=cur.size:=by
 unfold fS at h;split at h
 ·split at h
  ·rename_i ll aE;simp only [r_] at h;obtain ⟨l',c',rfl⟩:=h;split at c'
   ·rename_i ak;cases c';obtain ⟨au,cur,e,aA,aG,aT,br,bg,bd⟩:=ag.obj id _ aE;rw [af] at aA;cases aA;have xf:vs.length=n:=eE.len ▸ cH;have et:∀ u∈vs,u.oneCell'=true:=fun u hu=>by
     obtain ⟨j,aw⟩:=sW.1 hu;have aR:=(sa.1 aw).1;exact (eE.rel j _ u (si (eE.len ▸ aR)) aw).2.1
    have cJ:=run_storeCells_at P b off e vs 0 cur w aT (by omega) et;simp only [ti] at cJ;obtain ⟨ay,az,b9⟩:=og (cur':=(cur.toList.take off++vs++cur.toList.drop (off+vs.length)).toArray) (l':=setCells off cs ll) ag aE af aG aT bg .res (by simp) (by simp)
     (by simp [lx];omega) 0 (fun j bH bo hu ad=>by
      rw [na _ _ _ _ (by omega)] at hu;(have ad:(cur.toList.take off++vs++cur.toList.drop (off+vs.length))[j]?=some bo:=by simpa using ad);rw [jm cur.toList vs off j (by have CP:cur.toList.length=cur.size:=sY;omega)] at ad;rw [eE.len] at hu;split at hu
      ·rename_i aw;rw [if_pos aw] at ad;obtain ⟨a7,a9,bt⟩:=eE.rel _ bH bo hu ad;exact ⟨I.fx a7,a9,bt,.inl a7⟩
      ·rename_i aw;rw [if_neg aw] at ad;obtain ⟨d1,d0,d2,d3⟩:=bd j bH bo hu (by simpa using ad)
       exact ⟨d1,d0,d2,.inr (.inl d3)⟩)
    exact ⟨_,cJ,ay,az,b9,cur,e,_,e,aT,setRow_heap w b cur _ e (0,0) aT,by have CP:cur.toList.length=cur.size:=sY;simp;omega⟩
   ·simp at c'
  ·simp at h
 ·simp at h
theorem BD (ag:aK B aa J S w H) {lo id off len bb n:Nat} {H':List ar} {cs:List I} {vs:List Value} (eE:c5 J S w cs vs) (cH:cs.length=n) (aI:n≤len*bb)
  (h:fS lo H id (fun l=>if off+len*bb≤l.length then some (setCells off cs l) else none)=some H') {b:Nat} (af:J[id]?=some b) :
  ∃ w',(storeCells ⟨b,off,none⟩ vs).run P w=.ok () w'∧∃ ay,bl aa S w ay S w'∧aK B ay J S w' H':=by
 obtain ⟨w',ab,ay,ae,aF,_⟩:=BE (P:=P) ag eE cH aI h af;exact ⟨w',ab,ay,ae,aF⟩
theorem Gx (ag:aK B aa J S w H) {lo id off len bb n:Nat} {H':List ar} {cs:List I} {vs:List Value} (eE:c5 J S w cs vs) (cH:cs.length=n) (aI:n≤len*bb)
  (h:gT lo H id (fun l=>if off+len*bb≤l.length then some (setCells off cs l) else none)=some H') {b:Nat} (af:J[id]?=some b) :
  ∃ w',(storeCells ⟨b,off,none⟩ vs).run P w=.ok () w'∧∃ ay,bl aa S w ay S w'∧aK B ay J S w' H':=by
 unfold gT at h;split at h
 ·rename_i bD;split at h
  ·rename_i ll aE;exact BD (P:=P) (lo:=lo) ag eE cH aI (by unfold fS;rw [if_pos bD,aE];exact h) af
  ·rename_i ll g z aE;simp only [r_] at h;obtain ⟨l',c',rfl⟩:=h;have aR:=(sa.1 aE).1;obtain ⟨de,cur,e,aA,aG,aT,br,bg,bd,cap,dd,dy,dS,gF⟩:=ag.obj id _ aE;rw [af] at aA;cases aA
   obtain ⟨w',q1,ay,aW,cF,Cf,gb,jG,e1,dG,m6,xM⟩:=BE (P:=P) (lo:=lo) (id:=id) (H':=(H.set id (.cells ll)).set id (.cells l')) (ag.oR aE) eE cH aI (by
    unfold fS;rw [if_pos bD,sk aR];exact congrArg (Option.map _) c') af
   rw [aT] at dG;cases dG;have aO:=cF.xQ (g:=g) (z:=z) (by rw [sk (by simpa using aR)]) af dd dy dS m6 (by rw [xM,gF]);rw [sV,sV] at aO;exact ⟨w',q1,ay,aW,aO⟩
  ·simp at h
 ·simp at h
theorem FT (ag:aK B aa J S w H) {lo:Nat} {ts:Array TypeId} (ty:TypeId) {u x r:I} {H':List ar} {v cG:Value} {l1:aH} (da:∀ id,l1≠.obj id) (db:∀ id j,l1≠.cell id j)
  (h:j' P lo ts H [u,x]=some (r,H')) (ai:Rel J S w u v) (eh:Rel J S w x cG) (ig:aU aa J S w l1 x cG) :
  ∃ y w',(Builtin.copy_ ts ty #[v,cG]).run P w=.ok y w'∧aZ B aa J S w H' r y w':=by
 obtain ⟨a4,aJ,aN,bW,j2⟩:=mQ ag da db eh ig;have dC:bl aa S w aa a4 w:=bl.settle aJ fun b o h=>(aN b o h).imp (fun h=>h) fun h=>⟨_,h⟩;unfold j' at h;split at h
 ·rename_i id off len cap bb nh heq;simp only [List.cons.injEq,and_true] at heq;obtain ⟨rfl,rfl⟩:=heq;split at h
  ·rename_i e he;simp only [sf] at he;obtain ⟨t,ax,he⟩:=he;split at h
   ·rename_i s m row ah hm cI;split at h
    ·rename_i ak;obtain ⟨rfl,Dz⟩:=ak;simp only [r_] at h;obtain ⟨H2,hw,h⟩:=h;simp only [Prod.mk.injEq] at h;obtain ⟨rfl,rfl⟩:=h;have Di:lenOf x.view=some m:=by
      cases x <;> try exact hm
      ·rename_i c;cases c <;> exact hm
      ·simp [lenOf] at hm
     have nW:rowOf H x.view=some row:=by
      cases x <;> try exact cI
      ·rename_i c;cases c <;> exact cI
      ·simp [rowOf] at cI
     have hk:=I.fx (I.dm x);cases ai with
     | ref _ _ _ _ _ b cap' af CN hle =>
       obtain ⟨a,c,gk⟩:=mP Di j2;have DC:∃ vs,c5 J a4 w row vs∧∀ n,n≤m→(Builtin.firstCells s n cG).run P w=.ok (vs.take (n*s)).toArray w:=by
        rcases x6 bW nW j2 hk with ⟨aQ,n,dU,ad⟩ | ⟨cw,bK,n,dU,vs,ad,gO,bz⟩
        ·refine ⟨[],⟨by simp [aQ],by simp [aQ]⟩,fun ja aI=>?_⟩;(have GY:m=0:=by rw [ad] at gk;cases gk;rfl);rw [ad];(obtain rfl:ja=0:=by omega);cases n <;> simp [Builtin.firstCells,loadCells,loadCellsFrom]
        ·refine ⟨vs,gO,fun ja aI=>?_⟩;rw [ad] at gk ⊢;cases gk;have xf:vs.length=m*s:=gO.len ▸ Dz;have Dd:ja*s≤m*s:=s_ _ aI
         exact run_firstCells_some (P:=P) w s ja ⟨cw,bK,none⟩ m c (vs.take (ja*s)) (by simp;omega) (fun j y aY=>by
          rw [sI] at aY;split at aY
          ·rw [add_lit];exact bz j y aY
          ·simp at aY)
       obtain ⟨vs,gO,CX⟩:=DC;have GZ:min m len*s≤m*s:=s_ _ (Nat.min_le_left _ _)
       have CS:c5 J a4 w (row.take (min m len*s)) (vs.take (min m len*s)):=⟨by simp [gO.len],fun j bH bo b_ bh=>by
        rw [sI] at b_ bh;split at b_
        ·rename_i aw;rw [if_pos aw] at bh;exact gO.rel j bH bo b_ bh
        ·simp at b_⟩
       obtain ⟨w',cJ,ay,az,b9⟩:=BD (P:=P) (n:=min m len*s) bW CS (by simp;omega) (s_ _ (Nat.min_le_right _ _)) hw af;refine ⟨.int .i64 (min m len:Nat),w',?_,ay,J,a4,Ext.refl J,dC.trans az,b9,.int _ _,aU.b4 rfl⟩;subst gk;have aP:=CX (min m len) (Nat.min_le_left _ _);simp only [Builtin.copy_,ax,List.getElem?_toArray,tG,ug,Sem.run_bind,run_underlying he,Result.andThen_ok,Builtin.lenOf,Sem.run_pure,run_sizeOf ah];rw [show Nat.min m len=min m len from rfl,aP];simp [cJ,goInt]
    ·simp at h
   ·simp at h
  ·simp at h
 ·simp at h
theorem FR (ag:aK B aa J S w H) {lo:Nat} {ts:Array TypeId} (ty:TypeId) {u r:I} {H':List ar} {v:Value} (h:lb P lo ts H [u]=some (r,H')) (ai:Rel J S w u v) :
  ∃ y w',(Builtin.clear_ ts ty #[v]).run P w=.ok y w'∧aZ B aa J S w H' r y w':=by
 have done:∀ {H2:List ar},aK B aa J S w H2→aZ B aa J S w H2 (.tuple []) (.tuple #[]) w:=fun ch=>aZ.same ch (.tuple [] #[] rfl (by simp) (by simp)) rfl;unfold lb at h;split at h
 ·rename_i id off len cap bb heq;simp only [List.cons.injEq,and_true] at heq;subst heq;split at h
  ·rename_i e he;simp only [sf] at he;obtain ⟨t,ax,he⟩:=he;split at h
   ·rename_i s z ah bk;split at h
    ·rename_i ak;obtain ⟨rfl,ev,bR⟩:=ak;simp only [r_,Prod.mk.injEq] at h;obtain ⟨H2,hw,rfl,rfl⟩:=h;obtain ⟨i,dh,hi,dZ,fg⟩:=hD (J:=J) (S:=S) (w:=w) bk;have fP:=ni fg (by omega) len;cases ai with
     | ref _ _ _ _ _ b cap' af CN hle =>
       obtain ⟨w',cJ,ay,az,b9⟩:=Gx (P:=P) (n:=len*s) ag fP (by rw [iy,ev]) (sc _) hw af;(have kY:z.length=dh.cells.size:=by simpa using fg.len);have heq:(Builtin.zeroCells dh.cells len).toList=((Array.range (len*z.length)).map (fun i=>dh.cells[i % dh.cells.size]!)).toList:=by
        simp [Builtin.zeroCells,kY]
       rw [←heq] at cJ;cases len with
       | zero =>
         have mE:w'=w:=by
          (have aQ:(Builtin.zeroCells dh.cells 0).toList=[]:=by simp [Builtin.zeroCells]);rw [aQ] at cJ;simp [storeCells] at cJ;exact cJ.symm
         subst mE;refine ⟨.tuple #[],w',by simp [Builtin.clear_,ax,run_underlying he],ay,J,S,Ext.refl J,az,b9,.tuple [] #[] rfl (by simp) (by simp),aU.b4 rfl⟩
       | succ n =>
         refine ⟨.tuple #[],w',?_,ay,J,S,Ext.refl J,az,b9,.tuple [] #[] rfl (by simp) (by simp),aU.b4 rfl⟩;simp [Builtin.clear_,ax,run_underlying he,jl hi dZ,cJ]
    ·simp at h
   ·simp at h
  ·simp at h
 ·rename_i c heq;simp only [List.cons.injEq,and_true] at heq;subst heq;split at h
  ·rename_i ah;obtain ⟨t,e,ax,he⟩:=mJ ah;simp only [Option.some.injEq,Prod.mk.injEq] at h;obtain ⟨rfl,rfl⟩:=h;have ad:∃ a c,v=.slice a 0 c:=mP (n:=0) rfl ai;obtain ⟨a,c,rfl⟩:=ad;refine ⟨.tuple #[],w,?_,done ag⟩;cases a <;> simp [Builtin.clear_,ax,run_underlying he]
  ·simp at h
 ·simp at h
theorem pe (off:Nat):∀ (xs:List Value) (k:Nat) (cells:Array Value) (j:Nat),off+k+xs.length≤cells.size →
  ((xs.zipIdx k).foldl (fun cs (x:Value×Nat)=>cs.setIfInBounds (off+x.2) x.1) cells)[j]?=if off+k≤j∧j<off+k+xs.length then xs[j-(off+k)]? else cells[j]?
 | [],k,cells,j,_=>by simp;omega
 | x::xs,k,cells,j,h=>by
   simp only [sK] at h;simp only [List.zipIdx_cons,List.foldl_cons];rw [pe off xs (k+1) _ j (by simp;omega)];by_cases ab:j=off+k
   ·subst ab;rw [if_neg (by omega),if_pos (by simp)];simp [show off+k<cells.size by omega]
   ·by_cases ae:off+(k+1)≤j∧j<off+(k+1)+xs.length
    ·rw [if_pos ae,if_pos (by simp;omega)];obtain ⟨m,rfl⟩:∃ m,j=off+(k+1)+m:=⟨j-(off+(k+1)),by omega⟩;rw [show off+(k+1)+m-(off+(k+1))=m by omega,show off+(k+1)+m-(off+k)=m+1 by omega];simp
    ·rw [if_neg ae,if_neg (by simp;omega),Array.getElem?_setIfInBounds_ne (by omega)]
theorem EG {u:I} {v:Value} {vc:List I} (ak:u.cells=some vc) (ai:Rel J S w u v) (aB:u.plain=true):c5 J S w vc v.cells.toList:=by
 have single:vc=[u]→v.cells=#[v]→v.oneCell'=true→c5 J S w vc v.cells.toList:=by
  intro ab ae aF;subst ab;rw [ae];refine ⟨rfl,fun j bH bo hu ad=>?_⟩;cases j with
  | zero=>simp at hu ad;subst hu ad;exact ⟨aB,aF,ai⟩
  | succ j=>simp at hu
 cases ai with
 | agg as vs h p one r =>
   simp [I.cells] at ak;subst ak;exact ⟨by simpa [Value.cells] using h.symm,fun j bH bo hu ad=>⟨p bH (sv hu),one bo (sv ad),r j bH bo hu (by simpa [Value.cells] using ad)⟩⟩
 | a0 v=>simp [I.cells] at ak
 | tuple as vs h p r=>simp [I.cells] at ak
 | raw=>simp [I.cells] at ak
 | c3=>simp [I.cells] at ak
 | _=>simp [I.cells] at ak;exact single ak.symm rfl rfl
theorem kD {place:Nat→Option (Nat×Nat)}:∀ (parts:List (Nat×I)) (parts':List (Nat×Value)) (cs c_:List I) (vs:Array Value),
  parts.map (·.1)=parts'.map (·.1)→(∀ (j:Nat) (x:Nat×I) (y:Nat×Value),parts[j]?=some x→parts'[j]?=some y→x.2.plain=true∧Rel J S w x.2 y.2) →
  fC place cs parts=some c_→c5 J S w cs vs.toList→∃ cY,Instr.fill place vs parts'=some cY∧c5 J S w c_ cY.toList
 | [],parts',cs,c_,vs,hi,_,h,ak=>by
   cases parts' with
   | nil=>simp [fC] at h;subst h;exact ⟨vs,rfl,ak⟩
   | cons=>simp at hi
 | (i,u)::parts,parts',cs,c_,vs,hi,b2,h,ak=>by
   cases parts' with
   | nil=>simp at hi
   | cons y parts' =>
     obtain ⟨j3,v⟩:=y;simp only [List.map_cons,List.cons.injEq] at hi;obtain ⟨rfl,hi⟩:=hi;obtain ⟨aB,ai⟩:=b2 0 (i,u) (i,v) rfl rfl;simp only [fC] at h;split at h
     ·rename_i off size hk;split at h
      ·rename_i vc fO;split at h
       ·rename_i hc;obtain ⟨bR,hle⟩:=hc;have eE:=EG fO ai aB;(have xf:v.cells.size=size:=by have:=eE.len;simp at this;omega);(have cH:vs.size=cs.length:=by have:=ak.len;simp at this;omega);have bn:c5 J S w (setCells off vc cs) (v.cells.zipIdx.foldl (fun cs (x:Value×Nat)=>cs.setIfInBounds (off+x.2) x.1) vs).toList:=by
         refine ⟨?_,fun j bH bo hu ad=>?_⟩
         ·rw [lx];have pF:∀ (l:List (Value×Nat)) (a:Array Value),(l.foldl (fun cs (x:Value×Nat)=>cs.setIfInBounds (off+x.2) x.1) a).size=a.size:=by
           intro l;induction l with
           | nil=>intro a;rfl
           | cons x l a8=>intro a;simp [a8]
          have:=pF v.cells.zipIdx.toList vs;simp only [sY];rw [←cH,←this,←uM]
         ·rw [na _ _ _ _ (by omega)] at hu;have aO:=pe off v.cells.toList 0 vs j (by simp;omega);(have dg:(v.cells.zipIdx.foldl (fun cs (x:Value×Nat)=>cs.setIfInBounds (off+x.2) x.1) vs)[j]?=some bo:=by simpa using ad);rw [←uM,Array.toList_zipIdx] at dg;rw [aO] at dg;simp only [ti,sY,xf] at dg;rw [bR] at hu;split at hu
          ·rename_i aw;rw [if_pos aw] at dg;exact eE.rel _ bH bo hu dg
          ·rename_i aw;rw [if_neg aw] at dg;exact ak.rel j bH bo hu (by simpa using dg)
        obtain ⟨cY,ab,ae⟩:=kD parts parts' (setCells off vc cs) c_ _ hi (fun j x y aj aY=>b2 (j+1) x y (by simpa using aj) (by simpa using aY)) h bn;exact ⟨cY,by simp only [Instr.fill,hk];rw [if_neg (by simp;omega)];exact ab,ae⟩
       ·simp at h
      ·simp at h
     ·simp at h
end
end Go.Proofs.Ytkoioidpbbbaiaa.Ab
