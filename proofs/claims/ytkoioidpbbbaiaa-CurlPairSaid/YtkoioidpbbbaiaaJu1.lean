
import Derived.RangeFuncLeaves
import Derived.RangeFuncCalls
import Derived.KernelRfl
import Derived.Laws.AppendOwn
import Derived.OrdersIn
import Derived.Below
import Derived.IntWalk
import Derived.Laws.MakeOwn
set_option linter.unusedSimpArgs false
set_option linter.unusedVariables false
set_option linter.unusedSectionVars false

open Array renaming foldl_toList→uP,getD_eq_getD_getElem?→sw,getElem?_append_left→vt,getElem?_eq_getElem→su,getElem?_eq_some_iff→sO,getElem?_map→ue,length_toList→s7,mem_of_getElem?→ux,size_append→uM,toArray_toList→tJ
open Int renaming mul_comm→vp,natCast_mul→uL,toNat_of_nonneg→vo
open List renaming all_eq_true→sr,append_assoc→sx,append_nil→sN,forIn_cons→vm,getD_eq_getElem?_getD→sA,getElem?_append_left→sj,getElem?_append_right→sv,getElem?_cons_succ→ug,getElem?_cons_zero→tK,getElem?_drop→sU,getElem?_eq_getElem→sk,getElem?_eq_some_iff→sd,getElem?_map→sq,getElem?_set→tI,getElem?_set_ne→sf,getElem?_set_self→sm,getElem?_take→sL,length_append→sE,length_cons→sM,length_drop→tA,length_eq_zero_iff→sP,length_set→s8,length_take→te,mem_iff_getElem?→sZ,mem_map→sD,mem_of_getElem?→sy,mem_of_mem_drop→uI,mem_of_mem_take→vl,set_set→sY,size_toArray→tn,take_zero→vn
open Nat renaming add_assoc→tg,add_comm→ti,add_mul→td,add_zero→tj,le_mul_of_pos_right→tQ,le_refl→se,le_trans→sX,lt_or_ge→sQ,lt_trichotomy→uJ,min_eq_left→uh,mul_le_mul_right→tb,mul_pos→vr,sub_self→tz,succ_mul→uy,zero_add→sG
open Option renaming bind_eq_some_iff→si,getD_some→uw,map_eq_some_iff→sb,map_some→sg
namespace Go.Proofs.Ytkoioidpbbbaiaa.Ab
open Go
inductive hB where
 | shared | full | own (z:Nat) | uniq (z:Nat)
 deriving DecidableEq
inductive I where
 | a0
 | bool (b:Bool)
 | int (k:IntKind) (n:Int)
 | eF
 | ptr (id off:Nat)
 | bR (cells:List I)
 | av (cells:List I) (len:Nat) (c:hB)
 | ref (id off len:Nat) (cap:Option Nat) (sz:Nat)
 | func (f:FuncId) (first captured:List I)
 | yield (id:Nat)
 | map (id:Nat)
 | agg (cs:List I)
 | tuple (vs:List I)
 | str (s:ByteArray)
 | raw (cells:List I) (len z:Nat)
 | cj (id gid len z:Nat)
 | dw
 | c0 (as cells:List I) (len z:Nat) (bs:List I)
 deriving Inhabited
structure bY where
 cz:List Bool:=[]
 mode:Nat:=0
structure dt where
 bad:Bool:=false
 two:List (Nat×List Nat×Nat×Nat):=[]
 ops:List (List bY):=[]
 ih:List (Nat×List Bool):=[]
 ij:List (Nat×List Bool):=[]
inductive ar where
 | dead
 | cells (l:List I)
 | loop (st:LoopState) (cI:Option Code) (fn:FuncId) (tmps:List I) (params:List Nat) (assign body:Code) (jA:dt)
 | map (es:List (Nat×I×I)) (clock:Nat)
 | iter (m since:Nat) (seen:List Nat) (kf:Nat)
 | grow (l:List I) (gid z:Nat)
structure a6 where
 T:List I
 H:List ar
inductive cN where
 | normal | exit (id:Nat) | ret
inductive e' where
 | fn (f:FuncId)
 | yield (l:Nat)
abbrev b6:=e'→List I→List ar→Nat→Option (I×List ar)
def I.view:I→I
 | .av c n (.own _)=>.av c n .shared
 | .av c n (.uniq _)=>.av c n .shared
 | .raw _ _ _=>.a0
 | .c0 _ _ _ _ _=>.a0
 | .cj id _ len z=>.ref id 0 len none z
 | v=>v
def I.g9:I→I
 | .av c n .full=>.av c n .shared
 | v=>v
def I.ca:I→I
 | .av c n .full=>.av c n .shared
 | .agg cs=>.agg (cs.map I.g9)
 | .tuple cs=>.tuple (cs.map I.g9)
 | v=>v
def cn:Nat→I→Bool
 | 0,_=>false
 | d+1,v=>match v with
   | .av cells _ _=>cells.all (cn d)
   | .bR cells=>cells.all (cn d)
   | .agg cs=>cs.all (cn d)
   | .tuple cs=>cs.all (cn d)
   | .func _ a b=>a.all (cn d) && b.all (cn d)
   | .bool _ | .int _ _ | .str _ | .eF | .a0=>true
   | _=>false
def I.plain:I→Bool
 | .av _ _ (.own _)=>false
 | .av _ _ (.uniq _)=>false
 | .raw _ _ _=>false
 | .c0 _ _ _ _ _=>false
 | .cj _ _ _ _=>false
 | _=>true
def I.cT:I→Bool
 | .av _ _ (.uniq _)=>false
 | _=>true
def I.settle:I→I
 | .av c n (.uniq z)=>.av c n (.own z)
 | v=>v
def I.cells:I→Option (List I)
 | .agg cs=>some cs
 | .a0=>none
 | .tuple _=>none
 | .raw _ _ _=>none
 | .c0 _ _ _ _ _=>none
 | v=>some [v]
def hE:Value→I
 | .bool b=>.bool b
 | .int k n=>.int k n
 | .pointer none=>.eF
 | .string s=>.str s
 | .slice none 0 0=>.av [] 0 .full
 | _=>.a0
def I.G7:I→Bool
 | .a0=>true
 | _=>false
noncomputable section
def dc (T:List I) (t:Nat):I :=
 @List.rec I (fun _=>Nat→I) (fun _=>.a0) (fun h _ a8 n=>@Nat.rec (fun _=>I) h (fun m _=>a8 m) n) T t
def gZ (T:List I) (t:Nat) (v:I):List I :=
 @List.rec I (fun _=>Nat→List I) (fun _=>[]) (fun h yj a8 n=>@Nat.rec (fun _=>List I) (v::yj) (fun m _=>h::a8 m) n) T t
theorem gb (T:List I):∀ t,dc T t=T.getD t .a0:=by
 induction T with
 | nil=>intro t;rfl
 | cons h yj a8=>intro t;cases t with
   | zero=>rfl
   | succ n=>exact a8 n
theorem g0 (T:List I) (v:I):∀ t,gZ T t v=T.set t v:=by
 induction T with
 | nil=>intro t;rfl
 | cons h yj a8=>intro t;cases t with
   | zero=>rfl
   | succ n=>exact congrArg (h::·) (a8 n)
def az (T:List I):Operand→I
 | .tmp t=>dc T t
 | .const v=>hE v
 | .func f=>.func f [] []
 | .global _=>.a0
def fU (T:List I) (t:Nat):I→List I
 | .av c n (.uniq z)=>gZ T t (.av c n (.own z))
 | _=>T
def rd:List I→List Bool→List Operand→List I×List I
 | T,_,[]=>([],T)
 | T,ts,.tmp t::rest =>
   match ts.headD false with
   | true=>let r:=rd (gZ T t .a0) ts.tail rest;(dc T t::r.1,r.2)
   | false=>let r:=rd (fU T t (dc T t)) ts.tail rest;((dc T t).view::r.1,r.2)
 | T,ts,x::rest=>let r:=rd T ts.tail rest;(az T x::r.1,r.2)
def eW:List Bool→List I→List I
 | b::bs,v::vs=>(match b with | true=>v | false=>.a0)::eW bs vs
 | [],vs=>vs
 | _,[]=>[]
def l4 (id:Nat):List (Nat×List Bool)→Option (List Bool)
 | []=>none
 | (i,k)::r=>match Nat.beq i id with | true=>some k | false=>l4 id r
def e2 (mJ:List (Nat×List Bool)) (id:Nat) (s:a6):a6 :=
 match l4 id mJ with
 | some k=>⟨eW k s.T,s.H⟩
 | none=>s
def opsOf (o:Oper):List Operand :=
 match o.op with
 | .call { callee:=.value f,args,.. }=>f::args.toList
 | .call { args,.. }=>args.toList
 | op=>op.operands.toList
def tmpsOf (xs:List Operand):List Nat:=xs.filterMap fun x=>match x with | .tmp t=>some t | _=>none
def c1:List Bool→List Operand→List Nat
 | _,[]=>[]
 | ts,.tmp t::rest=>match ts.headD false with
   | true=>t::c1 ts.tail rest
   | false=>c1 ts.tail rest
 | ts,_::rest=>c1 ts.tail rest
def pg (ops:Array Oper) (o:Oper):List Nat:=match o.guard with
 | some (j,_)=>((ops[j]?).bind (·.dst)).toList
 | none=>[]
def e9 (ops:Array Oper) (o:Oper):List Nat:=pg ops o++tmpsOf (opsOf o)
def jE (xs ys:List Nat):Bool:=xs.all fun x=>!(ys.contains x)
def dm (o:Oper) (mode:Nat):Nat:=match o.op with
 | .load _ _=>if mode=0 then 1 else if mode=2 then 2 else if mode=3 then 0 else if mode=5 then 2 else if mode=6 then 2 else 5
 | .box _ _=>if mode=0 then 6 else 0
 | .alloc _=>6
 | .makeSlice _ _ _=>if mode=0 then 2 else 0
 | .store _ _ _ | .makeMap _ _ | .mapUpdate _ _ _ _ | .lookup _ _ _ _ | .range _ _ | .entry _=>2
 | .move _ | .assign _=>if mode=0 then 0 else 2
 | .call c=>match c.callee with
   | .builtin b=>match b with
     | .append=>if mode=0 then 1 else 2
     | .len | .cap | .min | .max=>1
     | _=>2
   | .value _=>if mode=0 then 3 else if mode=3 then 0 else if mode=4 then 3 else if mode=6 then 3 else if mode=9 then 3 else 2
   | .invoke _ _=>2
 | _=>0
def calm (o:Oper) (mode:Nat):Bool:=match o.op with
 | .move _ | .assign _=>mode == 0
 | _=>true
def bS (a b:Nat):Bool:=a == 0 || b == 0 || ((a == 1 || a == 3) && (b == 1 || b == 3)) || (a == 1 && b == 5) || (a == 5 && b == 1) || (a == 1 && b == 6)
def kZ (bw:Oper) (c9:Nat) (bJ:Oper):Bool:=match bw.op,bJ.op with
 | .load _ _,.mapUpdate _ _ _ _=>c9 == 0
 | _,_=>false
def k0 (bw:Oper) (c9:Nat) (bJ:Oper) (c_:Nat):Bool:=match bw.op,bJ.op with
 | .load _ _,.store _ _ _=>c9 == 13 && c_ == 13
 | _,_=>false
def indep (ops:Array Oper) (bw:Oper) (aA:bY) (bJ:Oper) (aG:bY):Bool :=
 jE bw.dst.toList (e9 ops bJ) && jE bJ.dst.toList (e9 ops bw) && jE bw.dst.toList bJ.dst.toList &&
 jE (c1 aA.cz (opsOf bw)) (e9 ops bJ) && jE (c1 aG.cz (opsOf bJ)) (e9 ops bw) &&
 calm bw aA.mode && calm bJ aG.mode && (bS (dm bw aA.mode) (dm bJ aG.mode) || kZ bw aA.mode bJ || k0 bw aA.mode bJ aG.mode)
def mP (ms:List Nat) (o:Oper):Nat:=o.after.toList.foldl (fun m e=>if Region.binds .any e then m ||| (ms.getD e.on 0 ||| 1 <<< e.on) else m) 0
def fO:List Oper→List Nat→List Nat
 | [],ms=>ms
 | o::r,ms=>fO r (ms++[mP ms o])
def Ae (ops:Array Oper) (as:List bY) (ms:List Nat):Bool :=
 (List.range ops.size).all fun j=>match ops[j]? with
  | none=>true
  | some cQ=>(ms.getD j 0 == mP ms cQ) && cQ.after.toList.all (fun e=>!Region.binds .any e || Nat.blt e.on j) &&
    (List.range j).all fun i=>match ops[i]? with
     | none=>true
     | some cP=>(ms.getD j 0).testBit i || indep ops cP (as.getD i {}) cQ (as.getD j {})
def nx (ops:Array Oper) (as:List bY):Bool:=Ae ops as (fO ops.toList [])
def Ad (ops:Array Oper) (an:List bY) (ms:List Nat) (p q j i:Nat):Bool:=match ops[j]?,ops[i]? with
 | some cQ,some cP=>(ms.getD i 0).testBit j || indep ops cQ (an.getD j {}) cP (an.getD i {}) || (Nat.beq j p && Nat.beq i q)
 | _,_=>true
def m0 (ops:Array Oper) (an:List bY) (ms:List Nat) (p q:Nat):List Nat→Bool
 | []=>true
 | j::r=>r.all (Ad ops an ms p q j) && m0 ops an ms p q r
def ob:List Nat→Bool
 | []=>true
 | j::r=>!r.contains j && ob r
def zY (ops:Array Oper) (ms:List Nat):Bool:=(List.range ops.size).all fun j=>match ops[j]? with
 | none=>true
 | some cQ=>(ms.getD j 0 == mP ms cQ) && cQ.after.toList.all (fun e=>!Region.binds .any e || Nat.blt e.on j)
def lW (ops:Array Oper) (an:List bY) (x:List Nat×Nat×Nat):Bool :=
 zY ops (fO ops.toList []) && m0 ops an (fO ops.toList []) x.2.1 x.2.2 (List.range ops.size) && m0 ops an (fO ops.toList []) x.2.2 x.2.1 x.1 &&
 ob x.1 && (List.range ops.size).all (fun i=>x.1.contains i) && x.1.all (fun i=>Nat.blt i ops.size) && !Nat.beq x.2.1 x.2.2 && Nat.blt x.2.1 ops.size && Nat.blt x.2.2 ops.size
def Bw (id:Nat):List (Nat×List Nat×Nat×Nat)→Option (List Nat×Nat×Nat)
 | []=>none
 | (i,x)::r=>match Nat.beq i id with | true=>some x | false=>Bw id r
def kg (A:dt) (id:Nat):Bool→Option (List Nat×Nat×Nat)
 | true=>Bw id A.two
 | false=>none
def xQ (A:dt) (id:Nat) (ops:Array Oper) (draw:Bool):Bool:=match kg A id draw with
 | some x=>lW ops (A.ops.getD id []) x
 | none=>!draw || nx ops (A.ops.getD id [])
def codeOk (A:dt):Code→Bool
 | .region id ops draw=>xQ A id ops draw
 | .seq a b=>codeOk A a && codeOk A b
 | .cond _ a b=>codeOk A a && codeOk A b
 | .block _ c=>codeOk A c
 | .loop c=>codeOk A c
 | .scope c=>codeOk A c
 | .rangeFunc _ _ a b=>codeOk A a && codeOk A b
 | _=>true
section
variable (P:Program)
def bE (t:TypeId):Option Nat:=(P.info? t).map (·.size)
def dH (t:TypeId):Bool:=match P.underlying t with | some (.struct _) | some (.array _ _)=>true | _=>false
def zeroCells (t:TypeId):Option (List I):=((P.info? t).bind (·.zero)).bind fun v=>match v.cells.toList.all (·.oneCell') with | true=>some (v.cells.toList.map hE) | false=>none
def jy (op:BinOp) (k:IntKind) (a b:Int):Option I :=
 match op with
 | .add=>some (.int k (k.wrap (a+b)))
 | .sub=>some (.int k (k.wrap (a-b)))
 | .mul=>some (.int k (k.wrap (a*b)))
 | .quo=>if b=0 then none else some (.int k (k.wrap (a.tdiv b)))
 | .rem=>if b=0 then none else some (.int k (a.tmod b))
 | .eql=>some (.bool (a == b))
 | .neq=>some (.bool (a != b))
 | .lss=>some (.bool (decide (a<b)))
 | .leq=>some (.bool (decide (a≤b)))
 | .gtr=>some (.bool (decide (a > b)))
 | .geq=>some (.bool (decide (a≥b)))
 | .and=>some (.int k (k.wrap (BitVec.ofInt k.bits a &&& BitVec.ofInt k.bits b).toNat))
 | .or=>some (.int k (k.wrap (BitVec.ofInt k.bits a ||| BitVec.ofInt k.bits b).toNat))
 | .xor=>some (.int k (k.wrap (BitVec.ofInt k.bits a ^^^ BitVec.ofInt k.bits b).toNat))
 | .andNot=>some (.int k (k.wrap (BitVec.ofInt k.bits a &&& ~~~ (BitVec.ofInt k.bits b)).toNat))
 | _=>none
def hD (op:BinOp) (k:IntKind) (a b:Int):Option I :=
 if b<0 then none else
 match op with
 | .shl=>some (.int k (k.wrap (a*2 ^ (min b.toNat k.bits))))
 | .shr=>some (.int k (a.fdiv (2 ^ (min b.toNat k.bits))))
 | _=>none
def dI:List I→List I→Option Bool
 | [],[]=>some true
 | .int k a::r,.int k' b::r'=>if k=k' then (dI r r').map fun e=>(a == b) && e else none
 | _,_=>none
def gP:List Field→Nat→Bool
 | [],_=>true
 | f :: fs, n => (f.offset == n) && (f.name != "_") && (match P.underlying f.type, bE P f.type with | some (.int _), some 1 => true | _, _ => false) && gP fs (n + 1)
def fk (op:BinOp) (t:TypeId) (x y:I):Option I :=
 match x,y with
 | .int k a,.int k' b =>
   match op with
   | .shl=>hD .shl k a b
   | .shr=>hD .shr k a b
   | op=>if k=k' then jy op k a b else none
 | .bool a,.bool b =>
   match P.underlying t,op with
   | some .bool,.eql=>some (.bool (a == b))
   | some .bool,.neq=>some (.bool (!(a == b)))
   | _,_=>none
 | .agg xs,.agg ys =>
   match P.underlying t with
   | some (.array len e) =>
     match P.underlying e,bE P e with
     | some (.int _),some 1 =>
       if xs.length=len∧ys.length=len∧P.eqGuardType P.depth t=false then
        match op with
        | .eql=>(dI xs ys).map fun e=>.bool e
        | .neq=>(dI xs ys).map fun e=>.bool !e
        | _=>none
       else none
     | _,_=>none
   | some (.struct fs) =>
     if gP P fs.toList 0=true∧P.stoodInHeld t=false∧xs.length=fs.size∧ys.length=fs.size∧P.eqGuardType P.depth t=false then
      match op with
      | .eql=>(dI xs ys).map fun e=>.bool e
      | .neq=>(dI xs ys).map fun e=>.bool !e
      | _=>none
     else none
   | _=>none
 | _,_=>none
def kp (op:UnOp):I→Option I
 | .bool b=>match op with | .not=>some (.bool !b) | _=>none
 | .int k n=>match op with | .neg=>some (.int k (k.wrap (-n))) | _=>none
 | _=>none
def setCells:Nat→List I→List I→List I
 | _,[],cs=>cs
 | off,v::vs,cs=>setCells (off+1) vs (cs.set off v)
def fz (place:Nat→Option (Nat×Nat)):List I→List (Nat×I)→Option (List I)
 | cs,[]=>some cs
 | cs,(i,v)::rest =>
   match place i with
   | some (off,size)=>match v.cells with
     | some vc=>if vc.length=size∧off+size≤cs.length then fz place (setCells off vc cs) rest else none
     | none=>none
   | none=>none
def e7:Nat→List I→List I
 | 0,_=>[]
 | n+1,z=>z++e7 n z
def lH (t:TypeId) (parts:List (Nat×I)):Option I :=
 match zeroCells P t,P.underlying t with
 | some z,some (.struct fs)=>match fs.toList.all (fun f=>(bE P f.type).isSome) with
   | true=>(fz (fun i=>(fs[i]?).bind fun f=>(bE P f.type).map fun s=>(f.offset,s)) z parts).map .agg
   | false=>none
 | some z,some (.array _ e)=>(bE P e).bind fun s=>(fz (fun i=>some (i*s,s)) z parts).map .agg
 | _,_=>none
def jc:List (Nat×I)→List (Nat×I)→Option (List (Nat×I)×Nat×List I×Nat×Nat×List (Nat×I))
 | _,[]=>none
 | pre,(i,.av c n (.own z))::r=>some (pre,i,c,n,z,r)
 | pre,(i,.av c n (.uniq z))::r=>some (pre,i,c,n,z,r)
 | pre,x::r=>jc (pre++[x]) r
def ko (t:TypeId) (parts:List (Nat×I)):Option I :=
 match zeroCells P t,P.underlying t,jc [] parts with
 | some z,some (.struct fs),some (pre,i,c,n,s,post) =>
   match fs.toList.all (fun f=>(bE P f.type).isSome),(fs[i]?).bind fun f=>(bE P f.type).map fun s=>(f.offset,s) with
   | true,some (off,1) =>
     match pre.all (fun x=>x.2.plain) && post.all (fun x=>x.2.plain) && post.all (fun x=>match (fs[x.1]?).bind fun f=>(bE P f.type).map fun s=>(f.offset,s) with | some (o,s)=>decide (off<o∨o+s≤off) | none=>false) with
     | true=>(fz (fun i=>(fs[i]?).bind fun f=>(bE P f.type).map fun s=>(f.offset,s)) z pre).bind fun eO=>if off<eO.length then
       (fz (fun i=>(fs[i]?).bind fun f=>(bE P f.type).map fun s=>(f.offset,s)) (eO.set off .a0) post).map fun ea=>.c0 (ea.take off) c n s (ea.drop (off+1)) else none
     | false=>none
   | _,_=>none
 | _,_,_=>none
def iG (t:TypeId) (len:Nat) (parts:List (Nat×I)):Option (List I×Nat) :=
 match P.underlying t with
 | some (.slice e) =>
   match bE P e,zeroCells P e with
   | some s,some z=>if 0<s∧z.length=s∧len*s≤16777216 then (fz (fun i=>some (i*s,s)) (e7 len z) parts).map fun cs=>(cs,s) else none
   | _,_=>none
 | _=>none
def g7 (i:Int) (len:Nat):Option Nat:=if 0≤i∧i<len then some i.toNat else none
def h1 (t:TypeId) (x i:I):Option I :=
 match P.underlying t,x,i with
 | some (.slice e),.av cells len _,.int _ n=>(bE P e).bind fun s=>(g7 n len).map fun j=>.bR (cells.drop (j*s))
 | some (.slice e),.ref id off len _ _,.int _ n=>(bE P e).bind fun s=>(g7 n len).map fun j=>.ptr id (off+j*s)
 | some (.array len e),.ptr id off,.int _ n=>(bE P e).bind fun s=>(g7 n len).map fun j=>.ptr id (off+j*s)
 | some (.array len e),.bR cells,.int _ n=>(bE P e).bind fun s=>(g7 n len).map fun j=>.bR (cells.drop (j*s))
 | _,_,_=>none
def jz (t:TypeId) (x:I) (f:Nat):Option I :=
 match P.underlying t,x with
 | some (.struct fs),.ptr id off=>(fs[f]?).bind fun g=>(bE P g.type).bind fun s=>if s=0 then none else some (.ptr id (off+g.offset))
 | some (.struct fs),.bR cells=>(fs[f]?).bind fun g=>(bE P g.type).bind fun s=>if s=0 then none else some (.bR (cells.drop g.offset))
 | _,_=>none
def iH (t:TypeId) (cs:List I) (off:Nat):Option I :=
 match dH P t with
 | true=>(bE P t).bind fun s=>if off+s≤cs.length then some (.agg ((cs.drop off).take s)) else none
 | false=>match P.underlying t with
   | some _=>cs[off]?
   | none=>none
def nn (t:TypeId) (x:I) (f:Nat):Option I :=
 match P.underlying t,x with
 | some (.struct fs),.agg cs=>(fs[f]?).bind fun g=>iH P g.type cs g.offset
 | _,_=>none
def oZ (t:TypeId) (x i:I):Option I :=
 match P.underlying t,x,i with
 | some (.array len e),.agg cs,.int _ n=>(bE P e).bind fun s=>(g7 n len).bind fun j=>iH P e cs (j*s)
 | some .string,.str b,.int _ n=>if 0≤n then (b[n.toNat]?).map fun x=>.int .u8 x.toNat else none
 | _,_,_=>none
def cK (x:Option I) (Ci most:Nat):Option Nat :=
 match x with
 | none=>some Ci
 | some (.int _ n)=>if 0≤n∧n≤most then some n.toNat else none
 | _=>none
def eX (t:TypeId) (x:I) (lo hi gR:Option I):Option I :=
 match P.underlying t,x with
 | some (.slice e),.av cells len c =>
   (bE P e).bind fun s =>
   match gR,hi with
   | none,_ =>
     (cK hi len len).bind fun h=>(cK lo 0 h).bind fun l =>
     some (.av ((cells.drop (l*s)).take ((h-l)*s)) (h-l) (if c=.full∧h=len then .full else .shared))
   | some _,some _ =>
     (cK gR len len).bind fun m=>(cK hi m m).bind fun h=>(cK lo 0 h).bind fun l =>
     some (.av ((cells.drop (l*s)).take ((h-l)*s)) (h-l) (if h=m then .full else .shared))
   | some _,none=>none
 | some (.slice e),.ref id off len cap sz =>
   (bE P e).bind fun s=>if s≠sz then none else
   match gR,hi with
   | none,_ =>
     (cK hi len len).bind fun h=>(cK lo 0 h).bind fun l =>
     if l<len then some (.ref id (off+l*s) (h-l) (cap.map (·-l)) sz) else some (.av [] 0 .shared)
   | some _,some _ =>
     (cK gR len len).bind fun m=>(cK hi m m).bind fun h=>(cK lo 0 h).bind fun l =>
     if m=l then (if l=0 then some (.ref id off (h-l) (some (m-l)) sz) else none) else some (.ref id (off+l*s) (h-l) (some (m-l)) sz)
   | some _,none=>none
 | some (.array n e),.ptr id off =>
   (bE P e).bind fun s =>
   match gR with
   | none=>(cK hi n n).bind fun h=>(cK lo 0 h).bind fun l =>
     if n=l then none else some (.ref id (off+l*s) (h-l) (some (n-l)) s)
   | some _=>none
 | _,_=>none
def rowOf (H:List ar):I→Option (List I)
 | .av cells _ _=>some cells
 | .ref id off len _ sz=>match H[id]? with
   | some (.cells l)=>if off+len*sz≤l.length then some (((l.drop off).take (len*sz)).map I.view) else none
   | _=>none
 | _=>none
def lenOf:I→Option Nat
 | .av _ len _=>some len
 | .ref _ _ len _ _=>some len
 | _=>none
def fv (n bytes:Nat):Bool:=Nat.ble (n*bytes) 140737488355328 && Nat.ble 1 bytes
def appended (H:List ar) (x:I):Option (Nat×List I) :=
 match lenOf x,rowOf H x with
 | some m,some row=>some (m,row)
 | _,_=>none
def fa (H:List ar) (t dj:TypeId) (s x:I):Option I :=
 match P.underlying t with
 | some (.slice e) =>
   match bE P e,(P.info? e).map (·.bytes),(zeroCells P e) with
   | some sz,some bytes,some z =>
     match Nat.beq t dj with
     | true =>
       match appended H x with
       | some (m,new) =>
         if new.length=m*sz∧0<sz∧z.length=sz∧fv m bytes then
          match s with
          | .av cells len c =>
            match c with
            | .shared=>if m=0 then some s else none
            | .full=>if m=0 then (if len=0 then some (.av [] 0 (.uniq sz)) else some s)
              else if fv (len+m) bytes∧cells.length=len*sz then some (.av (cells++new) (len+m) (.uniq sz)) else none
            | .own z=>if z=sz∧fv (len+m) bytes then some (.av (cells++new) (len+m) (.own z)) else none
            | .uniq z=>if z=sz∧fv (len+m) bytes then some (.av (cells++new) (len+m) (.uniq z)) else none
          | .ref id off len (some cap) oM =>
            if cap=len∧oM=sz∧0<m then (rowOf H (.ref id off len (some cap) oM)).bind fun fQ=>if fv (len+m) bytes then some (.av (fQ++new) (len+m) (.uniq sz)) else none
            else none
          | _=>none
         else none
       | none=>none
     | false =>
       match P.underlying dj,x,s with
       | some (.int _),.int .i64 n,.av [] 0 .full =>
         if 0<n∧fv n.toNat bytes∧0<sz∧z.length=sz then some (.av (e7 n.toNat z) n.toNat (.uniq sz)) else none
       | _,_,_=>none
   | _,_,_=>none
 | _=>none
def e3 (t:TypeId) (cs:List I) (off:Nat):Option I :=
 match dH P t with
 | true=>(bE P t).bind fun s=>if off+s≤cs.length then some (.agg (((cs.drop off).take s).map I.view)) else none
 | false=>match P.underlying t with
   | some _=>(cs[off]?).map I.view
   | none=>none
def dv (H:List ar) (t:TypeId) (a:I):Option I :=
 match a with
 | .ptr id off=>match H[id]? with
   | some (.cells l)=>e3 P t l off
   | some (.grow l _ _)=>e3 P t l off
   | _=>none
 | .bR cells=>e3 P t cells 0
 | _=>none
def fP (lo:Nat) (H:List ar) (id:Nat) (f:List I→Option (List I)):Option (List ar) :=
 if lo≤id then match H[id]? with
  | some (.cells l)=>(f l).map fun l'=>H.set id (.cells l')
  | _=>none
 else none
def gQ (lo:Nat) (H:List ar) (id:Nat) (f:List I→Option (List I)):Option (List ar) :=
 if lo≤id then match H[id]? with
  | some (.cells l)=>(f l).map fun l'=>H.set id (.cells l')
  | some (.grow l g z)=>(f l).map fun l'=>H.set id (.grow l' g z)
  | _=>none
 else none
def g5 (lo:Nat) (H:List ar) (t:TypeId) (a v:I):Option (List ar) :=
 match a,bE P t with
 | .ptr id off,some s=>match v.cells with
   | some vc=>gQ lo H id fun l=>if vc.length=s∧off+s≤l.length then some (setCells off (vc.map I.settle) l) else none
   | none=>none
 | _,_=>none
def js (t:TypeId) (n:Nat):Option (List I×Nat) :=
 match P.underlying t with
 | some (.slice e)=>match bE P e,zeroCells P e,(P.info? e).map (·.bytes) with
   | some s,some z,some bytes=>if z.length=s∧0<s∧fv n bytes then some (e7 n z,s) else none
   | _,_,_=>none
 | _=>none
def k4:List I→Int→Option Int
 | [],a=>some a
 | .int _ b::r,a=>k4 r (if b<a then b else a)
 | _::_,_=>none
def k3:List I→Int→Option Int
 | [],a=>some a
 | .int _ b::r,a=>k3 r (if b > a then b else a)
 | _::_,_=>none
def n9:List I→Option I
 | .int k a::r=>(k4 r a).map (.int k)
 | _=>none
def n8:List I→Option I
 | .int k a::r=>(k3 r a).map (.int k)
 | _=>none
def eZ (cap:Option Nat) (n:Nat):hB:=match cap with | some c=>if c=n then .full else .shared | none=>.shared
def dZ (f:I→Option I):List I→Option (List I)
 | []=>some []
 | x::xs=>match f x with
   | some y=>(dZ f xs).map (y::·)
   | none=>none
def mapM (f:I→Option I):List (Nat×I×I)→Option (List (Nat×I×I))
 | []=>some []
 | (i,k,v)::xs=>match f k,f v with
   | some k',some bn=>(mapM f xs).map ((i,k',bn)::·)
   | _,_=>none
def bL (H:List ar) (lo id0 n:Nat):Nat→I→Option I
 | 0,_=>none
 | d+1,B8 =>
   match B8 with
   | .av cells len c=>(dZ (bL H lo id0 n d) cells).map fun cs=>.av cs len c
   | .bR cells=>(dZ (bL H lo id0 n d) cells).map .bR
   | .agg cs=>(dZ (bL H lo id0 n d) cs).map .agg
   | .tuple cs=>(dZ (bL H lo id0 n d) cs).map .tuple
   | .func f a b=>match dZ (bL H lo id0 n d) a,dZ (bL H lo id0 n d) b with
     | some a,some b=>some (.func f a b)
     | _,_=>none
   | .ptr id off=>if id<lo then some (.ptr id off) else if id=id0 then some (.ptr n off) else
     match H[id]? with
     | some (.cells l)=>(dZ (bL H lo id0 n d) ((l.drop off).map I.view)).map .bR
     | _=>none
   | .ref id off len cap sz=>if id<lo then some (.ref id off len cap sz) else if id=id0 then some (.ref n off len cap sz) else
     match rowOf H (.ref id off len cap sz) with
     | some row=>(dZ (bL H lo id0 n d) row).map fun cs=>.av cs len (eZ cap len)
     | none=>none
   | .yield id=>if id<lo then some (.yield id) else none
   | .map id=>if id<lo then some (.map id) else if id=id0 then some (.map n) else some .a0
   | .raw _ _ _=>none
   | .c0 _ _ _ _ _=>none
   | .cj _ _ _ _=>none
   | v=>some v
def eK (parts:List (Nat×Operand)) (vs:List I):List (Nat×I):=(parts.map (·.1)).zip vs
def dr (vs:List I) (i:Nat):Option Operand→Option I
 | none=>none
 | some _=>vs[i]?
def xF:List I→Option I
 | [.bool c,a,b]=>some (match c with | true=>a | false=>b)
 | _=>none
def og:List I→Option I
 | [.ptr id off]=>some (.ptr id off)
 | [.bR cells]=>some (.bR cells)
 | _=>none
def gi (f:I→I→Option I):List I→Option I
 | [x,y]=>f x y
 | _=>none
def e6 (f:I→Option I):List I→Option I
 | [x]=>f x
 | _=>none
def lI (src dst:TypeId):I→Option I
 | .int _ n=>match P.underlying src,P.underlying dst with | some _,some (.int k)=>some (.int k (k.wrap n)) | _,_=>none
 | _=>none
def mW (fn:Fn) (n m:Nat) (vs:List I):Option I :=
 match fn with
 | .func f=>if vs.length=n+m then some (.func f (vs.take n) (vs.drop n)) else none
 | _=>none
def eg (t:TypeId) (l h m:Option Operand):List I→Option I
 | x::vs =>
   let i1:=match l with | some _=>1 | none=>0
   let i2:=match h with | some _=>i1+1 | none=>i1
   match x,l,h,m with
   | .av cells len (.uniq z),none,h,none =>
     match P.underlying t with
     | some (.slice e)=>(bE P e).bind fun _=>(cK (dr vs 0 h) len len).map fun n=>.av (cells.take (n*z)) n (.uniq z)
     | _=>none
   | .av cells len (.own z),some lo,none,none =>
     match P.underlying t with
     | some (.slice e)=>(bE P e).bind fun s=>if s=z then (cK (dr vs 0 (some lo)) 0 len).map fun l=>.av (cells.drop (l*z)) (len-l) (.own z) else none
     | _=>none
   | .cj id gid len z,none,h,none =>
     match P.underlying t with
     | some (.slice e)=>(bE P e).bind fun _=>(cK (dr vs 0 h) len len).map fun n=>.cj id gid n z
     | _=>none
   | x,l,h,m=>eX P t x.view (dr vs 0 l) (dr vs i1 h) (dr vs i2 m)
 | []=>none
def nm (i:Nat):I→Option I
 | .tuple ws=>ws[i]?
 | _=>none
def iW:Operand→Bool
 | .const (.slice none 0 0)=>true
 | _=>false
def nk (op:BinOp) (t:TypeId) (x:I):Option I :=
 match P.underlying t with
 | some (.slice _) =>
   match x with
   | .av _ (_+1) _ | .ref ..=>match op with
     | .eql=>some (.bool false)
     | .neq=>some (.bool true)
     | _=>none
   | .av [] 0 _=>match op with
     | .eql | .neq=>some .dw
     | _=>none
   | _=>none
 | _=>none
def cy (o:Oper) (vs:List I):Option I :=
 match o.op with
 | .pick _ _ _=>xF vs
 | .build t parts=>lH P t (eK parts.toList vs)
 | .buildSlice t len parts=>(iG P t len (eK parts.toList vs)).map fun r=>.av r.1 len (.uniq r.2)
 | .nilCheck _=>og vs
 | .binOp op t _ y _=>match iW y with
   | true=>match vs with
     | [x,_]=>nk P op t x
     | _=>none
   | false=>gi (fk P op t) vs
 | .unOp op _ _=>e6 (kp op) vs
 | .convert src dst _=>e6 (lI P src dst) vs
 | .makeFunc fn first captured=>mW fn first.size captured.size vs
 | .slice t _ l h m=>eg P t l h m vs
 | .fieldAddr t _ f=>e6 (fun x=>jz P t x f) vs
 | .field t _ f=>(e6 (fun x=>nn P t x f) vs).map I.view
 | .indexAddr t _ _=>gi (h1 P t) vs
 | .index t _ _=>(gi (oZ P t) vs).map I.view
 | .extract _ i=>(e6 (nm i) vs).map I.view
 | _=>none
def dB (o:Oper) (mode:Nat):Bool :=
 match o.op with
 | .move _ | .assign _ | .store _ _ _ | .box _ _ | .call _ | .slice _ _ _ _ _=>true
 | .build _ _=>match mode with | 0=>false | _=>true
 | _=>false
def yX (lo:Nat):I→Option Nat
 | .ptr id _=>if lo≤id then some id else none
 | .ref id _ _ _ _=>if lo≤id then some id else none
 | .map id=>if lo≤id then some id else none
 | _=>none
def Cr (lo:Nat):I→Option Nat
 | .tuple vs=>vs.findSome? (yX lo)
 | v=>yX lo v
def ke (H:List ar):I→I
 | .ref id off len cap sz=>match rowOf H (.ref id off len cap sz) with
   | some row=>.av row len .shared
   | none=>.ref id off len cap sz
 | v=>v
def hT (H:List ar):I→I
 | .ptr id off=>match H[id]? with
   | some (.cells l)=>.bR (((l.drop off).map I.view).map (ke H))
   | _=>.ptr id off
 | .ref id off len cap sz=>ke H (.ref id off len cap sz)
 | v=>v
def iA (H:List ar):I→I
 | .ptr id off=>hT H (.ptr id off)
 | .ref id off len cap sz=>hT H (.ref id off len cap sz)
 | .func f a b=>.func f (a.map (hT H)) (b.map (hT H))
 | v=>v
def gY:I→Bool
 | .bool _ | .int _ _ | .str _=>true
 | _=>false
def fw:I→Bool
 | .bool _ | .int _ _ | .str _=>true
 | .tuple vs=>vs.all gY
 | .av cells _ (.uniq _)=>cells.all gY
 | _=>false
def I.ki:I→I
 | .map _=>.a0
 | v=>v
def I.gr:I→I
 | .bR cs=>.bR (cs.map I.ki)
 | v=>v
def Et (lo:Nat):I→Option Nat
 | .map m=>if lo≤m then some m else none
 | _=>none
def zW (lo:Nat) (H:List ar):I→Option Nat
 | .ptr id _=>match H[id]? with
   | some (.cells l)=>l.findSome? (Et lo)
   | _=>none
 | _=>none
def Es (lo:Nat) (H:List ar):I→Option Nat
 | .tuple vs=>vs.findSome? (zW lo H)
 | v=>zW lo H v
def DP (mode lo:Nat) (H:List ar) (v:I):Option Nat:=match mode with
 | 8=>Es lo H v
 | _=>Cr lo v
def eN (C:b6) (lo mode:Nat) (bX:e') (args:List I) (H:List ar):Option (I×List ar) :=
 match mode with
 | 0=>(C bX args H H.length).bind fun r=>(bL r.2 H.length r.2.length 0 8 r.1).map fun v=>(v,H)
 | 1=>C bX args H lo
 | 3=>match bX,args.all (cn 8) with
   | .fn _,true=>(C bX (args.map I.ca) [] 0).bind fun r=>(bL r.2 0 r.2.length 0 8 r.1).map fun v=>(v.ca,H)
   | _,_=>none
 | 6=>match bX,(args.map (iA H)).all (cn 8) with
   | .fn _,true=>(C bX ((args.map (iA H)).map I.ca) [] 0).bind fun r=>(bL r.2 0 r.2.length 0 8 r.1).bind fun v=>match fw v with
     | true=>some (v.ca,H)
     | false=>none
   | _,_=>none
 | 9=>match bX,(args.map I.gr).all (cn 8) with
   | .fn _,true=>(C bX ((args.map I.gr).map I.ca) [] 0).bind fun r=>(bL r.2 0 r.2.length 0 8 r.1).map fun v=>(v.ca,H)
   | _,_=>none
 | 7=>match bX,args with
   | .fn _,[.ptr id 0]=>if lo≤id then match H[id]? with
     | some (.cells l)=>match cn 8 (.bR (l.map I.view)) with
       | true=>(C bX [(I.bR (l.map I.view)).ca] [] 0).bind fun r=>(bL r.2 0 r.2.length 0 8 r.1).map fun v=>(v.ca,H.set id .dead)
       | false=>none
     | _=>none else none
   | _,_=>none
 | 4=>(C bX (args.map I.ca) H H.length).bind fun r=>(bL r.2 H.length r.2.length 0 8 r.1).map fun v=>(v.ca,H)
 | _=>(C bX args H H.length).bind fun r =>
   match DP mode H.length r.2 r.1 with
   | none=>(bL r.2 H.length r.2.length 0 8 r.1).map fun v=>(v,H)
   | some id0 =>
     match r.2[id0]? with
     | some (.cells l)=>if H.length≤id0 then
       match dZ (bL r.2 H.length id0 H.length 8) l,bL r.2 H.length id0 H.length 8 r.1 with
       | some l',some v=>some (v,H++[.cells l'])
       | _,_=>none
       else none
     | some (.map es clock)=>if H.length≤id0 then
       match mapM (bL r.2 H.length id0 H.length 8) es,bL r.2 H.length id0 H.length 8 r.1 with
       | some es',some v=>some (v,H++[.map es' clock])
       | _,_=>none
       else none
     | _=>none
def kt (C:b6) (lo mode:Nat) (f:I) (args:List I) (H:List ar):Option (I×List ar) :=
 match f with
 | .func k first cap=>eN C lo mode (.fn k) (first++args++cap) H
 | .yield l=>eN C lo mode (.yield l) args H
 | _=>none
abbrev Out:=Option (I×List ar)
def eU (lo mode:Nat) (t:TypeId) (x:Operand) (H:List ar):List I→Out
 | [v] =>
   match mode with
   | 0=>match iW x,P.underlying t with
     | true,some (.slice e)=>(bE P e).map fun z=>(.av [] 0 (.uniq z),H)
     | _,_=>some (v,H)
   | 1=>match v with
     | .av cells len (.uniq z)=>if len=0 then some (v,H) else some (.ref H.length 0 len none z,H++[.cells cells])
     | .av [] 0 .full=>some (v,H)
     | .ref ..=>some (v,H)
     | _=>none
   | 4=>match v with
     | .cj id gid n z=>if lo≤id then match H[id]? with
       | some (.grow l g cU)=>if g=gid∧cU=z∧n*z≤l.length∧(l.take (n*z)).all I.plain=true then some (.av (l.take (n*z)) n (.uniq z),H.set id .dead) else none
       | _=>none else none
     | _=>some (v,H)
   | _=>match v with
     | .ref id _ _ cap _=>if lo≤id then (rowOf H v).bind fun row=>(lenOf v).map fun n =>
       (.av row n (eZ cap n),H.set id .dead) else none
     | .cj id gid n z=>if lo≤id then match H[id]? with
       | some (.grow l g cU)=>if l.length=n*z then some (.av (l.map I.view) n .shared,H.set id .dead) else none
       | _=>none else none
     | _=>some (v.view,H)
 | _=>none
def dC (lo mode:Nat) (t:TypeId) (H:List ar):List I→Out
 | [a] =>
   match mode with
   | 0=>(dv P H t a).map (·,H)
   | 3=>match a with
     | .bR cells=>(e3 P t cells 0).map (·,H)
     | _=>none
   | 5=>match P.underlying t,a with
     | some (.slice _),.ptr id off=>match H[id]? with
       | some (.cells l)=>match l[off]? with
         | some (.cj i g n z)=>some (.cj i g n z,H)
         | some (.av [] 0 .full)=>some (.av [] 0 .full,H)
         | _=>none
       | _=>none
     | _,_=>none
   | 6=>match a with
     | .ptr id off=>if lo≤id then match H[id]? with
       | some (.cells l)=>match l[off]? with
         | some (.ref rid o n cap z)=>if lo≤rid∧rid≠id then
           (rowOf H (.ref rid o n cap z)).bind fun row=>(dv P ((H.set rid .dead).set id (.cells (l.set off (.av row n (eZ cap n))))) t (.ptr id off)).map (·,(H.set rid .dead).set id (.cells (l.set off (.av row n (eZ cap n)))))
           else none
         | _=>none
       | _=>none else none
     | _=>none
   | 13=>match a with
     | .ptr id off=>match H[id]? with
       | some (.cells l)=>if l.length=3 then (dv P H t (.ptr id off)).map (·,H) else none
       | _=>none
     | _=>none
   | _=>match P.underlying t,a with
     | some (.slice _),.ptr id off=>if lo≤id then match H[id]? with
       | some (.cells l)=>match l[off]? with
         | some (.av c n (.own z))=>some (.av c n (.own z),H.set id (.cells (l.set off (.av c n .shared))))
         | some (.raw c n z)=>if mode=2 then (if n=0 then none else some (.ref H.length 0 n none z,H.set id (.cells (l.set off (.ref H.length 0 n none z)))++[.cells c]))
           else some (.av c n (.uniq z),H.set id (.cells (l.set off .a0)))
         | some v=>some (v.view,H)
         | _=>none
       | some (.grow l g cU)=>match l[off]? with
         | some (.av c n (.own z))=>some (.av c n (.own z),H.set id (.grow (l.set off (.av c n .shared)) g cU))
         | some (.av c n .full)=>some (.av c n .full,H)
         | _=>none
       | _=>none else none
     | _,_=>none
 | _=>none
def lK (lo:Nat) (H:List ar) (t:TypeId) (a v:I):Option (List ar) :=
 match a,v,bE P t with
 | .ptr id off,.av c n (.uniq z),some 1=>if c.all gY=true∧n≠0 then fP lo H id fun l=>if off<l.length then some (l.set off (.raw c n z)) else none else none
 | _,_,_=>none
def lJ (lo:Nat) (H:List ar) (t:TypeId) (a v:I):Option (List ar) :=
 match a,v,bE P t with
 | .ptr id off,.c0 as c n z bs,some s=>if as.length+1+bs.length=s then fP lo H id fun l=>if off+s≤l.length then some (setCells off (as++.av c n (.own z)::bs) l) else none else none
 | _,_,_=>none
def gj (lo mode:Nat) (t:TypeId) (H:List ar):List I→Out
 | [a,v]=>match mode with
   | 0=>(g5 P lo H t a v).map fun H'=>(.a0,H')
   | 2=>(lJ P lo H t a v).map fun H'=>(.a0,H')
   | 13=>match a with
     | .ptr id off=>match H[id]? with
       | some (.cells l)=>if l.length=3 then none else (g5 P lo H t (.ptr id off) v).map fun H'=>(.a0,H')
       | _=>none
     | _=>none
   | _=>(lK P lo H t a v).map fun H'=>(.a0,H')
 | _=>none
def gT (mode:Nat) (H:List ar):List I→Out
 | [v]=>match mode with
   | 0=>v.cells.map fun vc=>(.ptr H.length 0,H++[.cells (vc.map I.settle)])
   | _=>match v.cells with
     | some vc=>match vc.all I.plain with
       | true=>some (.bR vc,H)
       | false=>none
     | none=>none
 | _=>none
def k7 (mode:Nat) (t:TypeId) (H:List ar):Out :=
 match mode with
 | 0=>(zeroCells P t).map fun z=>(.ptr H.length 0,H++[.cells z])
 | _=>match zeroCells P t,P.underlying t with
   | some [.av [] 0 .full],some (.slice e)=>(bE P e).map fun s=>(.ptr H.length 0,H++[.cells [.av [] 0 (.own s)]])
   | _,_=>none
def j8 (mode:Nat) (t:TypeId) (H:List ar):List I→Out
 | [.int _ n,.int _ c] =>
   if 0≤n∧n≤c then
    match mode with
    | 0=>(js P t c.toNat).map fun r=>(.ref H.length 0 n.toNat (some c.toNat) r.2,H++[.cells r.1])
    | _=>if n=c∧0≤n then (js P t c.toNat).map fun r=>(.av r.1 n.toNat (.uniq r.2),H) else none
   else none
 | _=>none
def kY (t:TypeId):Bool:=match P.underlying t with
 | some (.int _)=>true
 | some (.struct fs)=>gP P fs.toList 0 && !P.stoodInHeld t
 | _=>false
def gH:I→I→Option Bool
 | .int k a,.int k' b=>if k=k' then some (a == b) else none
 | .agg xs,.agg ys=>dI xs ys
 | _,_=>none
def isKey (t:TypeId) (k:I):Bool:=match P.underlying t,k with
 | some (.int q),.int fT _=>q == fT
 | some (.struct fs),.agg cs=>cs.length == fs.size
 | _,_=>false
def fE (k:I):List (Nat×I×I)→Nat→Option (Option Nat)
 | [],_=>some none
 | (_,k',_)::r,i=>match gH k k' with
   | some true=>some (some i)
   | some false=>fE k r (i+1)
   | none=>none
def j3 (t:TypeId):Option (TypeId×TypeId):=match P.underlying t with
 | some (.map k e)=>match kY P k with | true=>some (k,e) | false=>none
 | _=>none
def oT (t:TypeId):Option I:=((P.info? t).bind (·.zero)).bind fun v=>match v with
 | .agg cs=>match cs.toList.all (·.oneCell') with | true=>some (.agg (cs.toList.map hE)) | false=>none
 | v=>some (hE v)
def k_ (t:TypeId) (r:Option Operand) (H:List ar):Out :=
 match r,P.underlying t with
 | none,some (.map _ _)=>some (.map H.length,H++[.map [] 0])
 | _,_=>none
def jb (lo:Nat) (t:TypeId) (H:List ar):List I→Out
 | [.map id,k,v]=>match j3 P t with
   | some (dX,_)=>match isKey P dX k with
     | true=>if lo≤id then match H[id]? with
       | some (.map es clock)=>match fE k es 0 with
         | some (some i)=>some (.a0,H.set id (.map (es.modify i fun e=>(e.1,k,v)) clock))
         | some none=>some (.a0,H.set id (.map (es++[(clock,k,v)]) (clock+1)))
         | none=>none
       | _=>none else none
     | false=>none
   | none=>none
 | _=>none
def iq (t:TypeId) (ok:Bool) (H:List ar):List I→Out
 | [.map id,k]=>match j3 P t with
   | some (dX,iK)=>match isKey P dX k,H[id]? with
     | true,some (.map es _)=>match fE k es 0 with
       | some r =>
         (match r.bind fun i=>es[i]? with | some e=>some e.2.2 | none=>oT P iK).map fun v =>
          (if ok then .tuple [v,.bool r.isSome] else v,H)
       | none=>none
     | _,_=>none
   | none=>none
 | _=>none
def hO (lo:Nat) (ts:Array TypeId) (H:List ar):List I→Out
 | [.map id,k]=>match (ts[0]?).bind (j3 P) with
   | some (dX,_)=>match isKey P dX k with
     | true=>if lo≤id then match H[id]? with
       | some (.map es clock)=>match fE k es 0 with
         | some (some i)=>some (.tuple [],H.set id (.map (es.eraseIdx i) clock))
         | some none=>some (.tuple [],H)
         | none=>none
       | _=>none else none
     | false=>none
   | none=>none
 | _=>none
def la (t:TypeId) (H:List ar):List I→Out
 | [.map id]=>match P.underlying t,H[id]? with
   | some (.map _ _),some (.map _ clock)=>some (.ptr H.length 0,H++[.iter id clock [] clock])
   | _,_=>none
 | _=>none
def k9 (H:List ar):List I→Out
 | [.ptr r 0]=>match H[r]? with
   | some (.iter m _ seen kf)=>match seen.getLast?,H[m]? with
     | some gn,some (.map es clock)=>if clock=kf then match es.find? (fun e=>e.1 == gn) with
       | some e=>some (.tuple [e.2.1,e.2.2],H)
       | none=>none else none
     | _,_=>none
   | _=>none
 | _=>none
def iX (t:Option TypeId):Bool:=match t.bind P.underlying with | some (.slice _)=>true | _=>false
def hs (ts:Array TypeId) (H:List ar):List I→Out
 | [x]=>match x with
   | .av _ n _=>match iX P ts[0]? with | true=>some (.int .i64 n,H) | false=>none
   | .ref _ _ n _ _=>match iX P ts[0]? with | true=>some (.int .i64 n,H) | false=>none
   | .map id=>match (ts[0]?).bind P.underlying,H[id]? with | some (.map _ _),some (.map es _)=>some (.int .i64 es.length,H) | _,_=>none
   | _=>match (ts[0]?).bind P.underlying with | some (.array n _)=>some (.int .i64 n,H) | _=>none
 | _=>none
def j6 (ts:Array TypeId) (H:List ar):List I→Out
 | [.av _ n .full]=>match iX P ts[0]? with | true=>some (.int .i64 n,H) | false=>none
 | [.ref _ _ _ (some n) _]=>match iX P ts[0]? with | true=>some (.int .i64 n,H) | false=>none
 | _=>none
def j7 (lo:Nat) (ts:Array TypeId) (H:List ar):List I→Out
 | [.ref id off len _ sz,x]=>match (ts[0]?).bind P.underlying with
   | some (.slice e)=>match bE P e,lenOf x,rowOf H x with
     | some s,some m,some row=>if s=sz∧row.length=m*sz then
       (fP lo H id fun l=>if off+len*sz≤l.length then some (setCells off (row.take (min m len*sz)) l) else none).map fun H'=>(.int .i64 (min m len:Nat),H') else none
     | _,_,_=>none
   | _=>none
 | _=>none
def k8 (lo:Nat) (ts:Array TypeId) (H:List ar):List I→Out
 | [.ref id off len _ sz]=>match (ts[0]?).bind P.underlying with
   | some (.slice e)=>match bE P e,zeroCells P e with
     | some s,some z=>if s=sz∧z.length=s∧0<s then
       (gQ lo H id fun l=>if off+len*sz≤l.length then some (setCells off (e7 len z) l) else none).map fun H'=>(.tuple [],H') else none
     | _,_=>none
   | _=>none
 | [.av [] 0 _]=>match iX P ts[0]? with | true=>some (.tuple [],H) | false=>none
 | _=>none
def hN (ts:Array TypeId) (H:List ar):List I→Out
 | [s,x]=>match ts.toList with
   | [t,dj]=>(fa P H t dj s x).map (·,H)
   | _=>none
 | _=>none
def im (lo:Nat) (ts:Array TypeId) (H:List ar):List I→Out
 | [s,x]=>match ts.toList with
   | [t,dj]=>match s with
     | .av _ _ _=>match fa P H t dj s x with
       | some (.av cells n (.uniq z))=>if n=0 then none else some (.cj H.length (H.length+1) n z,H++[.grow cells (H.length+1) z,.dead])
       | _=>none
     | .cj id gid len z=>if lo≤id then match P.underlying t,H[id]? with
       | some (.slice e),some (.grow l g cU)=>match bE P e,(P.info? e).map (·.bytes),zeroCells P e,appended H x with
         | some sz,some bytes,some gu,some (m,new) =>
           if t=dj∧g=gid∧cU=z∧z=sz∧l.length=len*z∧new.length=m*sz∧0<sz∧0<m∧gu.length=sz∧fv m bytes=true∧fv (len+m) bytes=true then
            some (.cj H.length (H.length+1) (len+m) z,H.set id .dead++[.grow (l++new) (H.length+1) z,.dead])
           else none
         | _,_,_,_=>none
       | _,_=>none else none
     | _=>none
   | _=>none
 | _=>none
def jl (lo:Nat) (H:List ar):List I→List ar
 | .cj id _ len z::_=>match H[id]? with
   | some (.grow l g cU)=>match Nat.blt (len*z) l.length && Nat.ble lo id with
     | true=>H.set id (.grow (l.take (len*z)) g cU)
     | false=>H
   | _=>H
 | _=>H
def i' (lo:Nat) (ts:Array TypeId) (H:List ar) (vs:List I):Out:=im P lo ts (jl lo H vs) vs
def ef (lo:Nat) (b:Builtin) (ts:Array TypeId) (H:List ar) (vs:List I):Out :=
 match b with
 | .append=>hN P ts H vs
 | .len=>hs P ts H vs
 | .cap=>j6 P ts H vs
 | .copy=>j7 P lo ts H vs
 | .clear=>k8 P lo ts H vs
 | .delete=>hO P lo ts H vs
 | .min=>(n9 vs).map (·,H)
 | .max=>(n8 vs).map (·,H)
 | _=>none
def oe (ts:Array TypeId) (H:List ar) (vs:List I):Out:=match hN P ts H vs with
 | some (.av cells n (.uniq z),_)=>if n=0 then none else some (.ref H.length 0 n none z,H++[.cells cells])
 | _=>none
def hr (C:b6) (lo mode:Nat) (H:List ar):List I→Out
 | f::args=>kt C lo mode f args H
 | []=>none
def a3 (C:b6) (lo:Nat) (o:Oper) (mode:Nat) (vs:List I) (H:List ar):Out :=
 match o.op with
 | .move x=>eU P lo mode o.type x H vs
 | .assign x=>eU P lo mode o.type x H vs
 | .load t _=>dC P lo mode t H vs
 | .store t _ _=>gj P lo mode t H vs
 | .box _ _=>gT mode H vs
 | .alloc t=>k7 P mode t H
 | .build t parts=>match mode with
   | 0=>(cy P o vs).map (·,H)
   | _=>(ko P t (eK parts.toList vs)).map (·,H)
 | .buildSlice t len parts=>match mode with
   | 0=>(cy P o vs).map (·,H)
   | _=>(iG P t len (eK parts.toList vs)).map fun r=>(.av r.1 len .full,H)
 | .makeSlice t _ _=>j8 P mode t H vs
 | .makeMap t r=>k_ P t r H
 | .mapUpdate t _ _ _=>jb P lo t H vs
 | .lookup t _ _ ok=>iq P t ok H vs
 | .range t _=>la P t H vs
 | .entry _=>k9 H vs
 | .call c=>match c.callee with
   | .builtin b=>match b with
     | .append=>match mode with
       | 0=>ef P lo b c.argTypes H vs
       | 2=>oe P c.argTypes H vs
       | _=>i' P lo c.argTypes H vs
     | _=>ef P lo b c.argTypes H vs
   | .value _=>hr C lo mode H vs
   | .invoke _ _=>none
 | _=>(cy P o vs).map (·,H)
def put (T:List I):Option Tmp→I→List I
 | some d,v=>gZ T d v
 | none,_=>T
def inPlace (o:Oper) (mode:Nat) (T:List I) (v:I):List I :=
 match mode with
 | 0=>T
 | 4=>T
 | _=>match o.op with
   | .move (.tmp t) | .assign (.tmp t)=>gZ T t v.view
   | _=>T
def execOp (C:b6) (lo:Nat) (o:Oper) (an:bY) (s:a6):Option a6 :=
 let r:=rd s.T an.cz (opsOf o)
 let vs:=match dB o an.mode with | true=>r.1 | false=>r.1.map I.view
 (a3 P C lo o an.mode vs s.H).map fun x=>⟨put (inPlace o an.mode r.2 x.1) o.dst x.1,x.2⟩
def ey (ops:Array Oper) (o:Oper) (T:List I):Option Bool :=
 match o.guard with
 | none=>some true
 | some (j,want)=>match (ops[j]?).bind (·.dst) with
   | some d=>match dc T d with
     | .bool b=>some (b == want)
     | .tuple []=>some false
     | _=>none
   | none=>none
def eb (C:b6) (lo:Nat) (ops:Array Oper):List Oper→List bY→a6→Option a6
 | [],_,s=>some s
 | o::rest,as,s =>
   match ey ops o s.T with
   | some true=>(execOp P C lo o (as.headD {}) s).bind (eb C lo ops rest as.tail)
   | some false=>eb C lo ops rest as.tail ⟨put s.T o.dst (.tuple []),s.H⟩
   | none=>none
def ik (f:a6→Option (cN×a6)):Nat→a6→Option (cN×a6)
 | 0,_=>none
 | n+1,s=>match f s with
   | some (.normal,aD)=>ik f n aD
   | r=>r
def inLoop (H:List ar):Option Nat→Bool
 | none=>true
 | some l=>match H[l]? with
   | some (.loop ..)=>true
   | _=>false
def exec (A:dt) (C:b6) (fn:FuncId) (lo d:Nat) (rl:Option Nat):Code→Nat→a6→Option (cN×a6)
 | .skip,_,s=>some (.normal,s)
 | .region id ops draw,_,s=>match kg A id draw with
   | some _=>none
   | none=>(eb P C lo ops ops.toList (A.ops.getD id []) (e2 A.ij id s)).map fun aD=>(.normal,aD)
 | .seq a b,a2,s=>match exec A C fn lo d rl a a2 s with
   | some (.normal,aD)=>exec A C fn lo d rl b a2 aD
   | r=>r
 | .cond c a b,a2,s=>match az s.T c with
   | .bool true=>exec A C fn lo d rl a a2 s
   | .bool false=>exec A C fn lo d rl b a2 s
   | _=>none
 | .block id body,_,s=>match exec A C fn lo d rl body id s with
   | some (.exit bB,aD)=>if bB=id then some (.normal,aD) else some (.exit bB,aD)
   | r=>r
 | .loop body,a2,s=>ik (fun aD=>exec A C fn lo d rl body a2 (e2 A.ih a2 aD)) d s
 | .exit id,_,s=>some (.exit id,s)
 | .ret,_,s=>some (.ret,s)
 | .scope body,a2,s=>exec A C fn lo d rl body a2 s
 | .label _,_,s=>some (.normal,s)
 | .rangeFunc f params assign body,_,s =>
   match inLoop s.H rl,az s.T f with
   | true,.func k first cap =>
     match C (.fn k) (first++[.yield s.H.length]++cap) (s.H++[.loop .ready none fn (s.T.map I.view) params.toList assign body A]) lo with
     | some (_,H')=>match H'[s.H.length]? with
       | some (.loop st cI _ _ _ _ _ _) =>
         if st=.busy then none else
         match cI with
         | none=>some (.normal,⟨s.T.map I.settle,H'.set s.H.length .dead⟩)
         | some .ret=>some (.ret,⟨s.T.map I.settle,H'.set s.H.length .dead⟩)
         | some (.exit id)=>some (.exit id,⟨s.T.map I.settle,H'.set s.H.length .dead⟩)
         | _=>none
       | _=>none
     | none=>none
   | _,_=>none
 | _,_,_=>none
def gU (H:List ar) (T:List I):List ResultVar→Option (List I)
 | []=>some []
 | .tmp t::r=>(gU H T r).map (dc T t::·)
 | .cell a t::r=>match dv P H t (dc T a),gU H T r with
   | some v,some vs=>some (v::vs)
   | _,_=>none
def jd:List I→I
 | [v]=>v
 | vs=>.tuple (vs.map I.view)
def iz:List Nat→List I→List I→Option (List I)
 | [],[],T=>some T
 | p::bp,v::vs,T=>iz bp vs (gZ T p v)
 | _,_,_=>none
def fZ (A:FuncId→dt) (gp:b6):Nat→b6
 | 0,_,_,_,_=>none
 | d+1,.fn k,args,H,lo =>
   match gp (.fn k) args H lo with
   | some r=>some r
   | none =>
   match (A k).bad with
   | true=>none
   | false =>
   match P.funcs[k]? with
   | some f=>match f.body with
     | some c =>
       match exec P (A k) (fZ A gp d) k lo d none c 0 ⟨args++List.replicate (f.ntmps-args.length) .a0,H⟩ with
       | some (.normal,s) | some (.ret,s)=>(gU P s.H s.T f.results.toList).map fun vs=>(jd vs,s.H)
       | _=>none
     | none=>none
   | none=>none
 | d+1,.yield l,args,H,lo =>
   if l<lo then none else
   match H[l]? with
   | some (.loop .ready _ fn T params assign body an) =>
     match iz params args T with
     | some bd =>
       match exec P an (fZ A gp d) fn lo d (some l) assign 0 ⟨bd,H⟩ with
       | some (.normal,s) =>
         match s.H[l]? with
         | some (.loop .ready cI fn T params assign lO iJ) =>
           match exec P an (fZ A gp d) fn lo d (some l) body 0 ⟨s.T,s.H.set l (.loop .busy cI fn T params assign lO iJ)⟩ with
           | some (e,s2) =>
             match s2.H[l]? with
             | some (.loop .busy _ fn T params assign lO iJ) =>
               match e with
               | .normal=>some (.bool true,s2.H.set l (.loop .ready none fn T params assign lO iJ))
               | .ret=>some (.bool false,s2.H.set l (.loop .done (some .ret) fn T params assign lO iJ))
               | .exit id=>some (.bool false,s2.H.set l (.loop .done (some (.exit id)) fn T params assign lO iJ))
             | _=>none
           | none=>none
         | _=>none
       | _=>none
     | none=>none
   | _=>none
end
end
end Go.Proofs.Ytkoioidpbbbaiaa.Ab


namespace Go.Proofs.Ytkoioidpbbbaiaa.Ab
open Go
inductive aH where
 | slot (i:Nat)
 | arg (i:Nat)
 | res
 | obj (id:Nat)
 | cell (id j:Nat)
 | mark
 deriving DecidableEq
inductive Rel (J:List Nat) (S:Nat→Nat→Prop) (w:World):I→Value→Prop
 | a0 (v:Value):Rel J S w .a0 v
 | bool (b:Bool):Rel J S w (.bool b) (.bool b)
 | dw (b:Bool):Rel J S w .dw (.bool b)
 | int (k:IntKind) (n:Int):Rel J S w (.int k n) (.int k n)
 | str (s:ByteArray):Rel J S w (.str s) (.string s)
 | eF:Rel J S w .eF (.pointer none)
 | ptr (id off b:Nat) (h:J[id]?=some b):Rel J S w (.ptr id off) (.pointer (some ⟨b,off,none⟩))
 | bR (cells:List I) (b o:Nat) (f:Nat→Value)
   (h:∀ (j:Nat) (u:I),cells[j]?=some u→S b (o+j)∧w.cell? ⟨b,o+j,none⟩=some (f j)∧u.plain=true∧(f j).oneCell'=true)
   (ai:∀ (j:Nat) (u:I),cells[j]?=some u→Rel J S w u (f j)):Rel J S w (.bR cells) (.pointer (some ⟨b,o,none⟩))
 | b2 (c:hB) (a:Option Addr):Rel J S w (.av [] 0 c) (.slice a 0 0)
 | av (cells:List I) (len:Nat) (c:hB) (b o cap:Nat) (f:Nat→Value)
   (ak:c=.full→cap=len) (hle:len≤cap) (hu:∀ z,c≠.uniq z)
   (h:∀ (j:Nat) (u:I),cells[j]?=some u→S b (o+j)∧w.cell? ⟨b,o+j,none⟩=some (f j)∧u.plain=true∧(f j).oneCell'=true)
   (ai:∀ (j:Nat) (u:I),cells[j]?=some u→Rel J S w u (f j)):Rel J S w (.av cells len c) (.slice (some ⟨b,o,none⟩) len cap)
 | cM (cells:List I) (len z b o cap:Nat):Rel J S w (.av cells len (.uniq z)) (.slice (some ⟨b,o,none⟩) len cap)
 | raw (cells:List I) (len z b o cap:Nat):Rel J S w (.raw cells len z) (.slice (some ⟨b,o,none⟩) len cap)
 | ref (id off len:Nat) (c:Option Nat) (sz b cap:Nat) (h:J[id]?=some b) (ak:∀ n,c=some n→cap=n) (hle:len≤cap) :
   Rel J S w (.ref id off len c sz) (.slice (some ⟨b,off,none⟩) len cap)
 | cj (id gid len z b cap:Nat) (h:J[id]?=some b) (aO:J[gid]?=some cap) (hle:len≤cap):Rel J S w (.cj id gid len z) (.slice (some ⟨b,0,none⟩) len cap)
 | func (f:FuncId) (as bs:List I) (vs ws:Array Value) (ab:vs.size=as.length) (ae:ws.size=bs.length)
   (bT:∀ u∈as,u.plain=true) (b0:∀ u∈bs,u.plain=true)
   (aS:∀ (j:Nat) (u:I) (v:Value),as[j]?=some u→vs[j]?=some v→Rel J S w u v)
   (bh:∀ (j:Nat) (u:I) (v:Value),bs[j]?=some u→ws[j]?=some v→Rel J S w u v):Rel J S w (.func f as bs) (.func (.func f) vs ws)
 | yield (id b:Nat) (h:J[id]?=some b):Rel J S w (.yield id) (.func (.yield b) #[] #[])
 | map (id b:Nat) (h:J[id]?=some b):Rel J S w (.map id) (.map (some b))
 | agg (as:List I) (vs:Array Value) (h:vs.size=as.length) (p:∀ u∈as,u.plain=true) (one:∀ v∈vs.toList,v.oneCell'=true)
   (r:∀ (j:Nat) (u:I) (v:Value),as[j]?=some u→vs[j]?=some v→Rel J S w u v):Rel J S w (.agg as) (.agg vs)
 | tuple (as:List I) (vs:Array Value) (h:vs.size=as.length) (p:∀ u∈as,u.plain=true)
   (r:∀ (j:Nat) (u:I) (v:Value),as[j]?=some u→vs[j]?=some v→Rel J S w u v):Rel J S w (.tuple as) (.tuple vs)
 | c0 (as c:List I) (n z:Nat) (bs:List I) (vs:Array Value) (h:vs.size=as.length+1+bs.length) (lh:∀ u∈as,u.plain=true) (lj:∀ u∈bs,u.plain=true) (one:∀ v∈vs.toList,v.oneCell'=true)
   (om:∀ (j:Nat) (u:I) (v:Value),as[j]?=some u→vs[j]?=some v→Rel J S w u v)
   (ro:∀ v,vs[as.length]?=some v→Rel J S w (.av c n (.own z)) v)
   (oo:∀ (j:Nat) (u:I) (v:Value),bs[j]?=some u→vs[as.length+1+j]?=some v→Rel J S w u v):Rel J S w (.c0 as c n z bs) (.agg vs)
def gA (aa:Nat→Option aH) (S:Nat→Nat→Prop) (w:World) (l:aH) (cells:List I) (len z:Nat):Value→Prop
 | .slice (some a) _ cap=>(len=0∧cap=0∧cells=[]) ∨
   (aa a.block=some l∧True∧a.spot=none∧len≤cap∧cap≤maxLen∧0<z∧cells.length=len*z ∧
    (∃ cur e,w.heap[a.block]?=some (.cells cur e (0,0))∧cur.size=a.off+cap*z)∧∀ o,a.off+cells.length≤o→¬ S a.block o)
 | _=>True
def aU (aa:Nat→Option aH) (J:List Nat) (S:Nat→Nat→Prop) (w:World) (l:aH):I→Value→Prop
 | .av cells len (.own z),.slice (some a) _ cap=>(len=0∧cap=0∧cells=[]) ∨
   (aa a.block=some l∧True∧a.spot=none∧len≤cap∧cap≤maxLen∧0<z∧cells.length=len*z ∧
    (∃ cur e,w.heap[a.block]?=some (.cells cur e (0,0))∧cur.size=a.off+cap*z)∧∀ o,a.off+cells.length≤o→¬ S a.block o)
 | .av cells len (.uniq z),.slice (some a) _ cap=>(len=0∧cap=0∧cells=[]) ∨
   (aa a.block=some l∧a.off=0∧len≤cap∧cap≤maxLen∧0<z∧cells.length=len*z ∧
    (∃ cur e,w.heap[a.block]?=some (.cells cur e (0,0))∧cur.size=cap*z ∧
     ∀ (j:Nat) (u:I) (v:Value),cells[j]?=some u→cur[j]?=some v→u.plain=true∧v.oneCell'=true∧Rel J S w u v)∧∀ o,¬ S a.block o)
 | .raw cells len z,.slice (some a) _ cap =>
   aa a.block=some l∧a.off=0∧len≤cap∧cap≤maxLen∧0<z∧cells.length=len*z∧cells.all gY=true ∧
     (∃ cur e,w.heap[a.block]?=some (.cells cur e (0,0))∧cur.size=cap*z ∧
      ∀ (j:Nat) (u:I) (v:Value),cells[j]?=some u→cur[j]?=some v→v.oneCell'=true∧Rel J S w u v)∧∀ o,¬ S a.block o
 | .c0 as c n z _,.agg vs=>∀ v,vs[as.length]?=some v→gA aa S w l c n z v
 | _,_=>True
theorem gA.at {aa:Nat→Option aH} {J:List Nat} {S:Nat→Nat→Prop} {w:World} {l:aH} {c:List I} {n z:Nat} {v:Value} (h:gA aa S w l c n z v):aU aa J S w l (.av c n (.own z)) v:=by
 cases v with
 | slice a len cap=>cases a with
   | some a=>exact h
   | none=>trivial
 | _=>trivial
theorem gA.of {aa:Nat→Option aH} {J:List Nat} {S:Nat→Nat→Prop} {w:World} {l:aH} {c:List I} {n z:Nat} {v:Value} (h:aU aa J S w l (.av c n (.own z)) v):gA aa S w l c n z v:=by
 cases v with
 | slice a len cap=>cases a with
   | some a=>exact h
   | none=>trivial
 | _=>trivial
structure bk (aa:Nat→Option aH) (S:Nat→Nat→Prop) (w:World) (ay:Nat→Option aH) (S':Nat→Nat→Prop) (w':World):Prop where
 os:w'.os=w.os
 tape:w'.tape=w.tape
 output:w'.output=w.output
 size:w.heap.size≤w'.heap.size
 cB:∀ b,b<w.heap.size→aa b=none→w'.heap[b]?=w.heap[b]?
 set:∀ b o,S b o→S' b o∧w'.cell? ⟨b,o,none⟩=w.cell? ⟨b,o,none⟩
 fresh:∀ b o,S' b o→S b o∨aa b≠none∨w.heap.size≤b
 own:∀ b,ay b≠none→aa b≠none∨w.heap.size≤b
theorem bk.refl (aa:Nat→Option aH) (S:Nat→Nat→Prop) (w:World):bk aa S w aa S w :=
 ⟨rfl,rfl,rfl,se _,fun _ _ _=>rfl,fun _ _ h=>⟨h,rfl⟩,fun _ _ h=>.inl h,fun _ h=>.inl h⟩
theorem bk.trans {aa b4 bt:Nat→Option aH} {S a4 bK:Nat→Nat→Prop} {w bH bW:World} (h:bk aa S w b4 a4 bH) (k:bk b4 a4 bH bt bK bW) :
  bk aa S w bt bK bW where
 os:=k.os.trans h.os
 tape:=k.tape.trans h.tape
 output:=k.output.trans h.output
 size:=sX h.size k.size
 cB b af aI:=by
  have ab:b4 b=none:=by
   cases hw:b4 b with
   | none=>rfl
   | some l =>
     rcases h.own b (by simp [hw]) with ae | ae
     ·exact absurd aI ae
     ·omega
  rw [k.cB b (Nat.lt_of_lt_of_le af h.size) ab,h.cB b af aI]
 set b o ah:=by
  obtain ⟨ab,ae⟩:=h.set b o ah;obtain ⟨aJ,aN⟩:=k.set b o ab;exact ⟨aJ,aN.trans ae⟩
 fresh b o ah:=by
  rcases k.fresh b o ah with ab | ab | ab
  ·exact h.fresh b o ab
  ·rcases h.own b ab with ae | ae
   ·exact .inr (.inl ae)
   ·exact .inr (.inr ae)
  ·exact .inr (.inr (sX h.size ab))
 own b af:=by
  rcases k.own b af with ab | ab
  ·exact h.own b ab
  ·exact .inr (sX h.size ab)
def Ext (J bU:List Nat):Prop:=∀ (i b:Nat),J[i]?=some b→bU[i]?=some b
theorem Ext.refl (J:List Nat):Ext J J:=fun _ _ h=>h
theorem Ext.trans {a b c:List Nat} (h:Ext a b) (k:Ext b c):Ext a c:=fun i x aj=>k i x (h i x aj)
theorem Ext.append (a b:List Nat):Ext a (a++b):=fun i x aj=>by
 rw [sj (sd.1 aj).1];exact aj
theorem Rel.mono {J bU:List Nat} {S S':Nat→Nat→Prop} {w w':World} (bM:Ext J bU)
  (cl:∀ b o,S b o→S' b o∧w'.cell? ⟨b,o,none⟩=w.cell? ⟨b,o,none⟩) {u:I} {v:Value} (h:Rel J S w u v):Rel bU S' w' u v:=by
 induction h with
 | a0 v=>exact .a0 v
 | bool b=>exact .bool b
 | dw b=>exact .dw b
 | int k n=>exact .int k n
 | str s=>exact .str s
 | eF=>exact .eF
 | ptr id off b h=>exact .ptr id off b (bM _ _ h)
 | bR cells b o f h ai a8 =>
   exact .bR cells b o f (fun j u aw=>let ⟨ab,ae,aF⟩:=h j u aw;⟨(cl _ _ ab).1,(cl _ _ ab).2.trans ae,aF⟩) a8
 | b2 c a=>exact .b2 c a
 | av cells len c b o cap f ak hle hu h ai a8 =>
   exact .av cells len c b o cap f ak hle hu (fun j u aw=>let ⟨ab,ae,aF⟩:=h j u aw;⟨(cl _ _ ab).1,(cl _ _ ab).2.trans ae,aF⟩) a8
 | cM cells len z b o cap=>exact .cM cells len z b o cap
 | raw cells len z b o cap=>exact .raw cells len z b o cap
 | ref id off len c sz b cap h ak hle=>exact .ref id off len c sz b cap (bM _ _ h) ak hle
 | cj id gid len z b cap h aO hle=>exact .cj id gid len z b cap (bM _ _ h) (bM _ _ aO) hle
 | func f as bs vs ws ab ae bT b0 aS bh i1 i2=>exact .func f as bs vs ws ab ae bT b0 i1 i2
 | yield id b h=>exact .yield id b (bM _ _ h)
 | map id b h=>exact .map id b (bM _ _ h)
 | agg as vs h p one r a8=>exact .agg as vs h p one a8
 | tuple as vs h p r a8=>exact .tuple as vs h p a8
 | c0 as c n z bs vs h lh lj one om ro oo kV io xm=>exact .c0 as c n z bs vs h lh lj one kV io xm
theorem gA.mono {aa ay:Nat→Option aH} {S S':Nat→Nat→Prop} {w w':World} {l l':aH}
  (fg:∀ b,aa b=some l→ay b=some l'∧w'.heap[b]?=w.heap[b]?∧∀ o,S' b o→S b o) {c:List I} {n z:Nat} {v:Value} (h:gA aa S w l c n z v):gA ay S' w' l' c n z v:=by
 unfold gA at h ⊢;split at h
 ·rcases h with h | ⟨ab,ae,aF,ba,bO,bP,cL,⟨cur,e,cO,ck⟩,dk⟩
  ·exact .inl h
  ·obtain ⟨aJ,aN,b'⟩:=fg _ ab;exact .inr ⟨aJ,ae,aF,ba,bO,bP,cL,⟨cur,e,aN.trans cO,ck⟩,fun o aq ah=>dk o aq (b' o ah)⟩
 ·trivial
theorem aU.mono {aa ay:Nat→Option aH} {J bU:List Nat} {S S':Nat→Nat→Prop} {w w':World} {l l':aH} (bM:Ext J bU)
  (cl:∀ b o,S b o→S' b o∧w'.cell? ⟨b,o,none⟩=w.cell? ⟨b,o,none⟩)
  (fg:∀ b,aa b=some l→ay b=some l'∧w'.heap[b]?=w.heap[b]?∧∀ o,S' b o→S b o) {u:I} {v:Value} (h:aU aa J S w l u v) :
  aU ay bU S' w' l' u v:=by
 unfold aU at h ⊢;split at h
 ·rcases h with h | ⟨ab,ae,aF,ba,bO,bP,cL,⟨cur,e,cO,ck⟩,dk⟩
  ·exact .inl h
  ·obtain ⟨aJ,aN,b'⟩:=fg _ ab;exact .inr ⟨aJ,ae,aF,ba,bO,bP,cL,⟨cur,e,aN.trans cO,ck⟩,fun o aq ah=>dk o aq (b' o ah)⟩
 ·rcases h with h | ⟨ab,aQ,ba,bO,bP,cL,⟨cur,e,cO,ck,dk⟩,fl⟩
  ·exact .inl h
  ·obtain ⟨aJ,aN,b'⟩:=fg _ ab;exact .inr ⟨aJ,aQ,ba,bO,bP,cL,⟨cur,e,aN.trans cO,ck,fun j u v hu ad=>⟨(dk j u v hu ad).1,(dk j u v hu ad).2.1,((dk j u v hu ad).2.2).mono bM cl⟩⟩,fun o ah=>fl o (b' o ah)⟩
 ·obtain ⟨ab,aQ,ba,bO,bP,cL,ah,⟨cur,e,cO,ck,dk⟩,fl⟩:=h;obtain ⟨aJ,aN,b'⟩:=fg _ ab;exact ⟨aJ,aQ,ba,bO,bP,cL,ah,⟨cur,e,aN.trans cO,ck,fun j u v hu ad=>⟨(dk j u v hu ad).1,((dk j u v hu ad).2).mono bM cl⟩⟩,fun o ah=>fl o (b' o ah)⟩
 ·exact fun v ad=>(h v ad).mono fg
 ·trivial
theorem aU.b3 {aa:Nat→Option aH} {J:List Nat} {S:Nat→Nat→Prop} {w:World} {l:aH} {u:I} {v:Value} (h:u.plain=true):aU aa J S w l u v:=by
 unfold aU;split <;> first | trivial | simp [I.plain] at h
def gz (aa:Nat→Option aH) (J:List Nat) (S:Nat→Nat→Prop) (w:World) (id:Nat):ar→Prop
 | .dead=>True
 | .cells l=>∃ b cur e,J[id]?=some b∧aa b=some (.obj id)∧w.heap[b]?=some (.cells cur e (0,0))∧l.length≤cur.size∧(∀ o,¬ S b o) ∧
   ∀ (j:Nat) (u:I) (v:Value),l[j]?=some u→cur[j]?=some v→u.cT=true∧v.oneCell'=true∧Rel J S w u v∧aU aa J S w (.cell id j) u v
 | .loop st cI fn T params assign body jA=>codeOk jA assign=true∧codeOk jA body=true∧∃ b L,J[id]?=some b∧aa b=some (.obj id)∧w.heap[b]?=some (.loop L)∧L.state=st∧L.pending=cI∧True ∧
   L.tmps.size=T.length∧(∀ (i:Nat) (u:I) (v:Value),T[i]?=some u→L.tmps[i]?=some v→u.plain=true∧Rel J S w u v)∧L.params.toList=params∧L.assign=assign∧L.body=body
 | .map es clock=>∃ b bA,J[id]?=some b∧aa b=some (.obj id)∧w.heap[b]?=some (.map bA clock)∧bA.size=es.length∧(∀ o,¬ S b o) ∧
   ∀ (j i:Nat) (k v:I) (x:MapEntry),es[j]?=some (i,k,v)→bA[j]?=some x→x.born=i∧k.plain=true∧Rel J S w k x.key∧v.plain=true∧Rel J S w v x.val
 | .grow l gid z=>∃ b cur e,J[id]?=some b∧aa b=some (.obj id)∧w.heap[b]?=some (.cells cur e (0,0))∧l.length≤cur.size∧(∀ o,¬ S b o) ∧
   (∀ (j:Nat) (u:I) (v:Value),l[j]?=some u→cur[j]?=some v→u.cT=true∧v.oneCell'=true∧Rel J S w u v∧aU aa J S w (.cell id j) u v) ∧
   ∃ cap,J[gid]?=some cap∧cap≤maxLen∧0<z∧cur.size=cap*z
 | .iter m since seen kf=>∃ b d',J[id]?=some b∧aa b=some (.obj id)∧J[m]?=some d'∧w.heap[b]?=some (.mapIter (some d') since seen.toArray kf)∧(∀ o,¬ S b o)
structure aK (B:Nat) (aa:Nat→Option aH) (J:List Nat) (S:Nat→Nat→Prop) (w:World) (H:List ar):Prop where
 cH:J.length=H.length
 obj:∀ (id:Nat) (o:ar),H[id]?=some o→gz aa J S w id o
 cb:∀ b o,S b o→∃ v,w.cell? ⟨b,o,none⟩=some v
 base:∀ b l,aa b=some l→B≤b∧b<w.heap.size
 cX:B≤w.heap.size
structure a5 (bz:Nat→aH) (aa:Nat→Option aH) (J:List Nat) (S:Nat→Nat→Prop) (w:World) (T:List I) (bb:List Value):Prop where
 len:T.length=bb.length
 rel:∀ (i:Nat) (u:I) (v:Value),T[i]?=some u→bb[i]?=some v→Rel J S w u v
 own:∀ (i:Nat) (u:I) (v:Value),T[i]?=some u→bb[i]?=some v→aU aa J S w (bz i) u v
theorem A8 {J bU:List Nat} {S S':Nat→Nat→Prop} {w w':World} {u:I} {v:Value} (h:gY u=true) (ai:Rel J S w u v):Rel bU S' w' u v:=by
 cases ai <;> simp [gY] at h <;> constructor
theorem Fy {u:I} (h:gY u=true):u.plain=true:=by
 cases u <;> simp [gY] at h <;> rfl
theorem EV {aa:Nat→Option aH} {J:List Nat} {S:Nat→Nat→Prop} {w:World} {l:aH} {c:List I} {n z:Nat} {v:Value} (ai:Rel J S w (.raw c n z) v) (aq:aU aa J S w l (.raw c n z) v) :
  Rel J S w (.av c n (.uniq z)) v∧aU aa J S w l (.av c n (.uniq z)) v:=by
 cases ai with
 | raw _ _ _ b o cap =>
   obtain ⟨ab,aQ,ba,bO,bP,cL,ah,⟨cur,e,cO,ck,dk⟩,fl⟩:=aq;rw [sr] at ah;exact ⟨.cM _ _ _ _ _ _,.inr ⟨ab,aQ,ba,bO,bP,cL,⟨cur,e,cO,ck,fun j u v hu ad=>⟨Fy (ah u (sy hu)),dk j u v hu ad⟩⟩,fl⟩⟩
theorem Gq {aa:Nat→Option aH} {J:List Nat} {S:Nat→Nat→Prop} {w:World} {l:aH} {c:List I} {n z:Nat} {v:Value} (aI:n≠0) (ah:c.all gY=true) (ai:Rel J S w (.av c n (.uniq z)) v) (aq:aU aa J S w l (.av c n (.uniq z)) v) :
  Rel J S w (.raw c n z) v∧aU aa J S w l (.raw c n z) v:=by
 cases ai with
 | b2 _ a=>exact absurd rfl aI
 | av _ _ _ b o cap f ak hle hu h ai=>exact absurd rfl (hu z)
 | cM _ _ _ b o cap =>
   rcases aq with ⟨h,_,_⟩ | ⟨ab,aQ,ba,bO,bP,cL,⟨cur,e,cO,ck,dk⟩,fl⟩
   ·exact absurd h aI
   ·exact ⟨.raw _ _ _ _ _ _,ab,aQ,ba,bO,bP,cL,ah,⟨cur,e,cO,ck,fun j u v hu ad=>(dk j u v hu ad).2⟩,fl⟩
theorem mN {w:World} {b o:Nat} {v:Value} (h:w.cell? ⟨b,o,none⟩=some v):b<w.heap.size:=World.block_lt_of_cell? w ⟨b,o,none⟩ h
end Go.Proofs.Ytkoioidpbbbaiaa.Ab


namespace Go.Proofs.Ytkoioidpbbbaiaa.Ab
open Go
structure ez (aa:Nat→Option aH) (S:Nat→Nat→Prop) (ay:Nat→Option aH) (S':Nat→Nat→Prop):Prop where
 set:∀ b o,S b o→S' b o
 fresh:∀ b o,S' b o→S b o∨∃ i,aa b=some (.slot i)
 cB:∀ b l,aa b=some l→(∀ i,l≠.slot i)→ay b=some l
 none:∀ b,aa b=none→ay b=none
 slot:∀ b i,ay b=some (.slot i)→aa b=some (.slot i)
theorem ez.refl (aa:Nat→Option aH) (S:Nat→Nat→Prop):ez aa S aa S :=
 ⟨fun _ _ h=>h,fun _ _ h=>.inl h,fun _ _ h _=>h,fun _ h=>h,fun _ _ h=>h⟩
theorem ez.trans {aa b4 bt:Nat→Option aH} {S a4 bK:Nat→Nat→Prop} (h:ez aa S b4 a4) (k:ez b4 a4 bt bK):ez aa S bt bK where
 set b o ah:=k.set b o (h.set b o ah)
 fresh b o ah:=by
  rcases k.fresh b o ah with ab | ⟨i,ab⟩
  ·exact h.fresh b o ab
  ·exact .inr ⟨i,h.slot b i ab⟩
 cB b l ao aI:=k.cB b l (h.cB b l ao aI) aI
 none b af:=k.none b (h.none b af)
 slot b i af:=h.slot b i (k.slot b i af)
theorem ez.az {aa ay:Nat→Option aH} {S S':Nat→Nat→Prop} (h:ez aa S ay S') (w:World):bk aa S w ay S' w where
 os:=rfl
 tape:=rfl
 output:=rfl
 size:=se _
 cB _ _ _:=rfl
 set b o ah:=⟨h.set b o ah,rfl⟩
 fresh b o ah:=by
  rcases h.fresh b o ah with ab | ⟨i,ab⟩
  ·exact .inl ab
  ·exact .inr (.inl (by simp [ab]))
 own b af:=by
  refine .inl fun aQ=>af (h.none b aQ)
theorem aU.gs {aa ay:Nat→Option aH} {S S':Nat→Nat→Prop} (g:ez aa S ay S') {J:List Nat} {w:World} {l:aH} (ao:∀ i,l≠.slot i) {u:I} {v:Value}
  (h:aU aa J S w l u v):aU ay J S' w l u v:=by
 refine h.mono (Ext.refl J) (fun b o ah=>⟨g.set b o ah,rfl⟩) fun b af=>⟨g.cB b l af ao,rfl,fun o ah=>?_⟩;rcases g.fresh b o ah with ab | ⟨i,ab⟩
 ·exact ab
 ·rw [af] at ab;cases ab;exact absurd rfl (ao i)
theorem Rel.gs {aa ay:Nat→Option aH} {S S':Nat→Nat→Prop} (g:ez aa S ay S') {J:List Nat} {w:World} {u:I} {v:Value} (h:Rel J S w u v):Rel J S' w u v :=
 h.mono (Ext.refl J) fun b o ah=>⟨g.set b o ah,rfl⟩
theorem gz.gs {aa ay:Nat→Option aH} {S S':Nat→Nat→Prop} (g:ez aa S ay S') {J:List Nat} {w:World} {id:Nat} {o:ar} (h:gz aa J S w id o):gz ay J S' w id o:=by
 have cl:∀ b bB,aa b=some (.obj bB)→∀ o,S' b o→S b o:=fun b bB af o ah=>by
  rcases g.fresh b o ah with ab | ⟨i,ab⟩
  ·exact ab
  ·rw [af] at ab;cases ab
 cases o with
 | dead=>trivial
 | cells l =>
   obtain ⟨b,cur,e,ab,ae,aF,ba,bO,bP⟩:=h
   exact ⟨b,cur,e,ab,g.cB b _ ae (by simp),aF,ba,fun o ah=>bO o (cl b id ae o ah),fun j u v hu ad =>
    let ⟨aA,h0,aG,aT⟩:=bP j u v hu ad;⟨aA,h0,aG.gs g,aT.gs g (by simp)⟩⟩
 | grow l gid z =>
   obtain ⟨b,cur,e,ab,ae,aF,ba,bO,bP,cL⟩:=h
   exact ⟨b,cur,e,ab,g.cB b _ ae (by simp),aF,ba,fun o ah=>bO o (cl b id ae o ah),fun j u v hu ad =>
    let ⟨aA,h0,aG,aT⟩:=bP j u v hu ad;⟨aA,h0,aG.gs g,aT.gs g (by simp)⟩,cL⟩
 | loop st cI fn T params assign body jA =>
   obtain ⟨aj,aY,b,L,ab,ae,aF,ba,bO,bP,cL,cO,ck⟩:=h;exact ⟨aj,aY,b,L,ab,g.cB b _ ae (by simp),aF,ba,bO,bP,cL,fun i u v hu ad=>⟨(cO i u v hu ad).1,(cO i u v hu ad).2.gs g⟩,ck⟩
 | map es clock =>
   obtain ⟨b,bA,ab,ae,aF,ba,bO,bP⟩:=h
   exact ⟨b,bA,ab,g.cB b _ ae (by simp),aF,ba,fun o ah=>bO o (cl b id ae o ah),fun j i k v x hu ad =>
    let ⟨aA,aG,aT,bq,bf⟩:=bP j i k v x hu ad;⟨aA,aG,aT.gs g,bq,bf.gs g⟩⟩
 | iter m s e t =>
   obtain ⟨b,d',ab,ae,aF,ba,bO⟩:=h;exact ⟨b,d',ab,g.cB b _ ae (by simp),aF,ba,fun o ah=>bO o (cl b id ae o ah)⟩
theorem aK.gs {B:Nat} {aa ay:Nat→Option aH} {S S':Nat→Nat→Prop} (g:ez aa S ay S') {J:List Nat} {w:World} {H:List ar} (h:aK B aa J S w H)
  (hw:∀ b o,S' b o→∃ v,w.cell? ⟨b,o,none⟩=some v):aK B ay J S' w H where
 cH:=h.cH
 obj id o aq:=(h.obj id o aq).gs g
 cb:=hw
 base b l ao:=by
  cases af:aa b with
  | none=>rw [g.none b af] at ao;cases ao
  | some l'=>exact h.base b l' af
 cX:=h.cX
theorem lL (J:List Nat) (S:Nat→Nat→Prop) (w:World) (v:Value):Rel J S w (hE v) v:=by
 unfold hE;split
 ·exact .bool _
 ·exact .int _ _
 ·exact .eF
 ·exact .str _
 ·exact .b2 _ _
 ·exact .a0 _
theorem np (v:Value):(hE v).plain=true:=by
 unfold hE;split <;> rfl
theorem I.di (u:I):u.view.plain=true:=by
 cases u with
 | av c n k=>cases k <;> rfl
 | _=>rfl
theorem I.fu {u:I} (h:u.plain=true):u.cT=true:=by
 unfold I.plain at h;unfold I.cT;split at h <;> simp_all
theorem I.km {u:I} (h:u.plain=true):u.view=u:=by
 unfold I.view;split <;> simp_all [I.plain]
theorem Rel.view {J:List Nat} {S:Nat→Nat→Prop} {w:World} {u:I} {v:Value} (h:Rel J S w u v) (aI:u.cT=true):Rel J S w u.view v:=by
 cases h with
 | b2 c a=>cases c <;> simp [I.view] <;> exact .b2 _ _
 | av cells len c b o cap f ak hle hu h ai =>
   cases c with
   | shared=>exact .av cells len .shared b o cap f ak hle hu h ai
   | full=>exact .av cells len .full b o cap f ak hle hu h ai
   | own z=>exact .av cells len .shared b o cap f (by simp) hle (by simp) h ai
   | uniq z=>exact absurd rfl (hu z)
 | cM=>simp [I.cT] at aI
 | raw=>exact .a0 _
 | c0=>exact .a0 _
 | cj id gid len z b cap h aO hle=>exact .ref id 0 len none z b cap h (by simp) hle
 | a0 v=>exact .a0 v
 | bool b=>exact .bool b
 | dw b=>exact .dw b
 | int k n=>exact .int k n
 | str s=>exact .str s
 | eF=>exact .eF
 | ptr id off b h=>exact .ptr id off b h
 | bR cells b o f h ai=>exact .bR cells b o f h ai
 | ref id off len c sz b cap h ak hle=>exact .ref id off len c sz b cap h ak hle
 | func f as bs vs ws ab ae bT b0 aS bh=>exact .func f as bs vs ws ab ae bT b0 aS bh
 | yield id b h=>exact .yield id b h
 | map id b h=>exact .map id b h
 | agg as vs h p one r=>exact .agg as vs h p one r
 | tuple as vs h p r=>exact .tuple as vs h p r
section
variable {B:Nat} {J:List Nat} {w:World} {H:List ar}
theorem a5.gs {bz:Nat→aH} (ao:∀ i k,bz i≠.slot k) {aa ay:Nat→Option aH} {S S':Nat→Nat→Prop} (g:ez aa S ay S') {T:List I} {bb:List Value} (h:a5 bz aa J S w T bb) :
  a5 bz ay J S' w T bb :=
 ⟨h.len,fun i u v hu ad=>(h.rel i u v hu ad).gs g,fun i u v hu ad=>(h.own i u v hu ad).gs g (ao i)⟩
theorem Gj {aa:Nat→Option aH} {S:Nat→Nat→Prop} {T:List I} {bb:List Value} (l:aH) (ao:∀ i,l≠.slot i)
  (bZ:a5 .slot aa J S w T bb) (ag:aK B aa J S w H) (t:Nat) :
  ∃ ay,ez aa S ay S∧a5 .slot ay J S w (T.set t .a0) bb∧aK B ay J S w H ∧
    Rel J S w (T.getD t .a0) (bb.getD t undef)∧aU ay J S w l (T.getD t .a0) (bb.getD t undef):=by
 classical
 refine ⟨fun b=>if aa b=some (.slot t) then some l else aa b,?_,?_,?_,?_,?_⟩
 ·refine ⟨fun _ _ h=>h,fun _ _ h=>.inl h,fun b l' h aI=>?_,fun b h=>?_,fun b i h=>?_⟩
  ·have:aa b≠some (.slot t):=by rw [h];intro e;cases e;exact aI t rfl
   simp only [this,if_false];exact h
  ·simp [h]
  ·split at h
   ·cases h;exact absurd rfl (ao i)
   ·exact h
 ·refine ⟨by simpa using bZ.len,fun i u v hu ad=>?_,fun i u v hu ad=>?_⟩
  ·rw [tI] at hu;split at hu
   ·split at hu
    ·cases hu;exact .a0 _
    ·cases hu
   ·exact bZ.rel i u v hu ad
  ·rw [tI] at hu;split at hu
   ·split at hu
    ·cases hu;exact aU.b3 rfl
    ·cases hu
   ·rename_i bI;refine (bZ.own i u v hu ad).mono (Ext.refl J) (fun b o ah=>⟨ah,rfl⟩) fun b af=>⟨?_,rfl,fun o ah=>ah⟩
    have:aa b≠some (.slot t):=by rw [af];intro e;cases e;exact bI rfl
    simp only [this,if_false];exact af
 ·refine ag.gs ⟨fun _ _ h=>h,fun _ _ h=>.inl h,fun b l' h aI=>?_,fun b h=>?_,fun b i h=>?_⟩ ag.cb
  ·have:aa b≠some (.slot t):=by rw [h];intro e;cases e;exact aI t rfl
   simp only [this,if_false];exact h
  ·simp [h]
  ·split at h
   ·cases h;exact absurd rfl (ao i)
   ·exact h
 ·cases hu:T[t]? with
  | none=>rw [sA,hu];exact .a0 _
  | some u =>
    have aR:=(sd.1 hu).1;have ad:bb[t]?=some (bb[t]'(bZ.len ▸ aR)):=sk _;rw [sA,hu,sA,ad];exact bZ.rel t _ _ hu ad
 ·cases hu:T[t]? with
  | none=>rw [sA,hu];exact aU.b3 rfl
  | some u =>
    have aR:=(sd.1 hu).1;have ad:bb[t]?=some (bb[t]'(bZ.len ▸ aR)):=sk _;rw [sA,hu,sA,ad];refine (bZ.own t _ _ hu ad).mono (Ext.refl J) (fun b o ah=>⟨ah,rfl⟩) fun b af=>⟨?_,rfl,fun o ah=>ah⟩;simp [af]
theorem kc {aa:Nat→Option aH} {S:Nat→Nat→Prop} {l:aH} {cells:List I} {len z:Nat} {v:Value} (ag:aK B aa J S w H)
  (ai:Rel J S w (.av cells len (.uniq z)) v) (aq:aU aa J S w l (.av cells len (.uniq z)) v) :
  ∃ S':Nat→Nat→Prop,(∀ b o,S b o→S' b o)∧(∀ b o,S' b o→S b o∨aa b=some l)∧(∀ b o,S' b o→∃ v,w.cell? ⟨b,o,none⟩=some v) ∧
    Rel J S' w (.av cells len .shared) v∧Rel J S' w (.av cells len (.own z)) v∧aU aa J S' w l (.av cells len (.own z)) v:=by
 cases ai with
 | b2 c a=>exact ⟨S,fun _ _ h=>h,fun _ _ h=>.inl h,ag.cb,.b2 _ _,.b2 _ _,by cases a <;> first | trivial | exact .inl ⟨rfl,rfl,rfl⟩⟩
 | av cells len c b o cap f ak hle b8 h nP=>exact absurd rfl (b8 z)
 | cM cells len z b o cap =>
   rcases aq with ⟨rfl,rfl,rfl⟩ | ⟨ab,aQ,ae,aF,ba,bO,⟨cur,e,bP,cL,cO⟩,ck⟩
   ·refine ⟨S,fun _ _ h=>h,fun _ _ h=>.inl h,ag.cb,?_,?_,.inl ⟨rfl,rfl,rfl⟩⟩
    ·exact .av [] 0 .shared b o 0 (fun _=>undef) (by simp) (se _) (by simp) (by simp) (by simp)
    ·exact .av [] 0 (.own z) b o 0 (fun _=>undef) (by simp) (se _) (by simp) (by simp) (by simp)
   ·simp only at aQ;subst aQ;(have jK:cells.length≤cur.size:=by rw [cL,bO];exact tb _ ae);have bx:∀ j,w.cell? ⟨b,j,none⟩=cur[j]?:=fun j=>by
     unfold World.cell?;simp only at bP;rw [bP];simp
    have aO:∀ au o,S au o→(S au o∨(au=b∧o<cells.length)):=fun _ _ h=>.inl h;have nN:∀ {u:I} {v:Value},Rel J S w u v→Rel J (fun au o=>S au o∨(au=b∧o<cells.length)) w u v:=fun h=>h.mono (Ext.refl J) fun b o ah=>⟨aO b o ah,rfl⟩;have yG:∀ (j:Nat) (u:I),cells[j]?=some u→(S b (0+j)∨(b=b∧0+j<cells.length))∧w.cell? ⟨b,0+j,none⟩=some (cur.getD j undef)∧u.plain=true∧(cur.getD j undef).oneCell'=true:=by
     intro j u aw;have ml:=(sd.1 aw).1;have c5:cur[j]?=some (cur[j]'(by omega)):=su _;refine ⟨.inr ⟨rfl,by omega⟩,?_,(cO j u _ aw c5).1,?_⟩
     ·rw [sG,bx,c5];simp [Array.getD,show j<cur.size by omega]
     ·have:=(cO j u _ aw c5).2.1;simpa [Array.getD,show j<cur.size by omega] using this
    have At:∀ (j:Nat) (u:I),cells[j]?=some u→Rel J (fun au o=>S au o∨(au=b∧o<cells.length)) w u (cur.getD j undef):=by
     intro j u aw;have ml:=(sd.1 aw).1;have c5:cur[j]?=some (cur[j]'(by omega)):=su _;have:=nN (cO j u _ aw c5).2.2;simpa [Array.getD,show j<cur.size by omega] using this
    refine ⟨fun au o=>S au o∨(au=b∧o<cells.length),aO,?_,?_,?_,?_,?_⟩
    ·rintro au o (h | ⟨rfl,h⟩)
     ·exact .inl h
     ·exact .inr ab
    ·rintro au o (h | ⟨rfl,h⟩)
     ·exact ag.cb au o h
     ·exact ⟨cur[o]'(by omega),by rw [bx];exact su _⟩
    ·exact .av cells len .shared b 0 cap (fun j=>cur.getD j undef) (by simp) ae (by simp) yG At
    ·exact .av cells len (.own z) b 0 cap (fun j=>cur.getD j undef) (by simp) ae (by simp) yG At
    ·refine .inr ⟨ab,trivial,rfl,ae,aF,ba,bO,⟨cur,e,bP,by simpa using cL⟩,fun o aq ah=>?_⟩;simp only [sG] at aq;rcases ah with ah | ⟨_,ah⟩
     ·exact ck o ah
     ·omega
theorem FD {aa:Nat→Option aH} {S:Nat→Nat→Prop} {T:List I} {bb:List Value}
  (bZ:a5 .slot aa J S w T bb) (ag:aK B aa J S w H) (t:Nat) (cells:List I) (len z:Nat) (hu:T[t]?=some (.av cells len (.uniq z))) :
  ∃ S',ez aa S aa S'∧a5 .slot aa J S' w (T.set t (.av cells len (.own z))) bb∧aK B aa J S' w H ∧
    Rel J S' w (.av cells len .shared) (bb.getD t undef):=by
 have aR:=(sd.1 hu).1;have ad:bb[t]?=some (bb[t]'(bZ.len ▸ aR)):=sk _;have ai:=bZ.rel t _ _ hu ad;have aq:=bZ.own t _ _ hu ad;rw [sA,ad];simp only [uw];generalize bb[t]'(bZ.len ▸ aR)=v at ad ai aq;obtain ⟨S',aJ,aN,hw,aS,bh,eH⟩:=kc ag ai aq;have aO:ez aa S aa S':=⟨aJ,fun b o h=>(aN b o h).imp id fun h=>⟨t,h⟩,fun _ _ h _=>h,fun _ h=>h,fun _ _ h=>h⟩;have DJ:∀ b i,i≠t→aa b=some (.slot i)→∀ o,S' b o→S b o:=fun b i hi af o ah=>by
  rcases aN b o ah with h | h
  ·exact h
  ·rw [af] at h;cases h;exact absurd rfl hi
 refine ⟨S',aO,⟨by simpa using bZ.len,fun i bG bn b8 bg=>?_,fun i bG bn b8 bg=>?_⟩,ag.gs aO hw,aS⟩
 ·rw [tI] at b8;split at b8
  ·rename_i heq;subst heq;cases b8;rw [ad] at bg;cases bg;exact bh
  ·exact (bZ.rel i _ _ b8 bg).gs aO
 ·rw [tI] at b8;split at b8
  ·rename_i heq;subst heq;cases b8;rw [ad] at bg;cases bg;exact eH
  ·rename_i bI;exact (bZ.own i _ _ b8 bg).mono (Ext.refl J) (fun b o ah=>⟨aO.set b o ah,rfl⟩) fun b af=>⟨af,rfl,fun o ah=>DJ b i (fun e=>bI e.symm) af o ah⟩
theorem a5.cons {bz:Nat→aH} {aa:Nat→Option aH} {S:Nat→Nat→Prop} {u:I} {v:Value} {T:List I} {bb:List Value} (ab:Rel J S w u v) (ae:aU aa J S w (bz 0) u v)
  (h:a5 (fun i=>bz (i+1)) aa J S w T bb):a5 bz aa J S w (u::T) (v::bb):=by
 refine ⟨by simp [h.len],fun i bG bn hu ad=>?_,fun i bG bn hu ad=>?_⟩
 ·cases i with
  | zero=>simp at hu ad;subst hu ad;exact ab
  | succ i=>exact h.rel i bG bn (by simpa using hu) (by simpa using ad)
 ·cases i with
  | zero=>simp at hu ad;subst hu ad;exact ae
  | succ i=>exact h.own i bG bn (by simpa using hu) (by simpa using ad)
theorem a5.nil {bz:Nat→aH} {aa:Nat→Option aH} {S:Nat→Nat→Prop}:a5 bz aa J S w [] []:=⟨rfl,by simp,by simp⟩
theorem EX (a:Act):∀ (ops:List Operand) (ts:List Bool) (T:List I) (k:Nat) (aa:Nat→Option aH) (S:Nat→Nat→Prop),
  a5 .slot aa J S w T a.tmps.toList→aK B aa J S w H →
  ∃ ay S',ez aa S ay S'∧a5 .slot ay J S' w (rd T ts ops).2 a.tmps.toList∧aK B ay J S' w H∧a5 (fun i=>.arg (k+i)) ay J S' w (rd T ts ops).1 (ops.map a.eval):=by
 intro ops
 induction ops with
 | nil=>intro ts T k aa S bZ ag;exact ⟨aa,S,ez.refl _ _,by simpa [rd] using bZ,ag,by simpa [rd] using a5.nil⟩
 | cons x rest a8 =>
   intro ts T k aa S bZ ag;have ny:∀ u:I,Rel J S w u (a.eval x)→u.plain=true→(rd T ts (x::rest))=(u::(rd T ts.tail rest).1,(rd T ts.tail rest).2) →
     ∃ ay S',ez aa S ay S'∧a5 .slot ay J S' w (rd T ts (x::rest)).2 a.tmps.toList∧aK B ay J S' w H ∧
       a5 (fun i=>.arg (k+i)) ay J S' w (rd T ts (x::rest)).1 ((x::rest).map a.eval):=by
    intro u hu aB he;obtain ⟨ay,S',g,l8,b7,ad⟩:=a8 ts.tail T (k+1) aa S bZ ag;rw [he];refine ⟨ay,S',g,l8,b7,?_⟩;refine a5.cons (hu.gs g) (aU.b3 aB) ?_;simpa [tg,ti 1] using ad
   cases x with
   | const v =>
     exact ny (hE v) (lL J S w v) (np v) rfl
   | func f=>exact ny (.func f [] []) (.func f [] [] #[] #[] rfl rfl (by simp) (by simp) (by simp) (by simp)) rfl rfl
   | global g=>exact ny .a0 (.a0 _) rfl rfl
   | tmp t =>
     (have jN:a.eval (.tmp t)=a.tmps.toList.getD t undef:=by simp [Act.eval,sw]);cases ax:ts.headD false with
     | true =>
       obtain ⟨b4,cc,kC,bV,dz,jU⟩:=Gj (.arg k) (by simp) bZ ag t;obtain ⟨ay,S',g,l8,b7,ad⟩:=a8 ts.tail (T.set t .a0) (k+1) b4 S kC bV;have he:rd T ts (.tmp t::rest)=(T.getD t .a0::(rd (T.set t .a0) ts.tail rest).1,(rd (T.set t .a0) ts.tail rest).2):=by
        simp only [rd,ax,g0,gb]
       rw [he];refine ⟨ay,S',cc.trans g,l8,b7,?_⟩;refine a5.cons ?_ ?_ ?_
       ·rw [jN];exact dz.gs g
       ·rw [jN];exact jU.gs g (by simp)
       ·simpa [tg,ti 1] using ad
     | false =>
       have he:rd T ts (.tmp t::rest)=((T.getD t .a0).view::(rd (fU T t (T.getD t .a0)) ts.tail rest).1,(rd (fU T t (T.getD t .a0)) ts.tail rest).2):=by
        simp only [rd,ax,gb]
       by_cases a_:∃ cells len z,T[t]?=some (.av cells len (.uniq z))
       ·obtain ⟨cells,len,z,a_⟩:=a_;obtain ⟨a4,cc,kC,bV,dz⟩:=FD bZ ag t cells len z a_;obtain ⟨ay,S',g,l8,b7,ad⟩:=a8 ts.tail (T.set t (.av cells len (.own z))) (k+1) aa a4 kC bV;(have aO:T.getD t .a0=.av cells len (.uniq z):=by rw [sA,a_];rfl);rw [he,aO];simp only [fU,g0,I.view];refine ⟨ay,S',cc.trans g,l8,b7,?_⟩;refine a5.cons ?_ (aU.b3 rfl) ?_
        ·rw [jN];exact dz.gs g
        ·simpa [tg,ti 1] using ad
       ·have pU:(T.getD t .a0).cT=true:=by
         rw [sA];cases hu:T[t]? with
         | none=>rfl
         | some u =>
           simp only [uw];unfold I.cT;split
           ·exact absurd ⟨_,_,_,hu⟩ a_
           ·rfl
        have eE:fU T t (T.getD t .a0)=T:=by
         unfold fU;split
         ·rename_i h;rw [h] at pU;simp [I.cT] at pU
         ·rfl
        have ai:Rel J S w (T.getD t .a0) (a.eval (.tmp t)):=by
         rw [jN];cases hu:T[t]? with
         | none=>rw [sA,hu];exact .a0 _
         | some u =>
           have aR:=(sd.1 hu).1;have ad:a.tmps.toList[t]?=some (a.tmps.toList[t]'(bZ.len ▸ aR)):=sk _;rw [sA,hu,sA,ad];exact bZ.rel t _ _ hu ad
        refine ny (T.getD t .a0).view (ai.view pU) (I.di _) ?_;rw [he,eE]
end
end Go.Proofs.Ytkoioidpbbbaiaa.Ab


namespace Go.Proofs.Ytkoioidpbbbaiaa.Ab
open Go
section
variable {P:Program} {B:Nat} {J:List Nat} {w:World} {H:List ar} {aa:Nat→Option aH} {S:Nat→Nat→Prop}
def aZ (B:Nat) (aa:Nat→Option aH) (J:List Nat) (S:Nat→Nat→Prop) (w:World) (H':List ar) (r:I) (v:Value) (w':World):Prop :=
 ∃ ay bU S',Ext J bU∧bk aa S w ay S' w'∧aK B ay bU S' w' H'∧Rel bU S' w' r v∧aU ay bU S' w' .res r v
theorem aZ.same (ag:aK B aa J S w H) {r:I} {v:Value} (ai:Rel J S w r v) (aB:r.plain=true):aZ B aa J S w H r v w :=
 ⟨aa,J,S,Ext.refl J,bk.refl _ _ _,ag,ai,aU.b3 aB⟩
theorem aK.settle (ag:aK B aa J S w H) {S':Nat→Nat→Prop} (ab:∀ b o,S b o→S' b o)
  (ae:∀ b o,S' b o→S b o∨∃ l,aa b=some l∧(∀ id,l≠.obj id)∧∀ id j,l≠.cell id j) (aF:∀ b o,S' b o→∃ v,w.cell? ⟨b,o,none⟩=some v):aK B aa J S' w H:=by
 have hm:∀ {u:I} {v:Value},Rel J S w u v→Rel J S' w u v:=fun h=>h.mono (Ext.refl J) fun b o ah=>⟨ab b o ah,rfl⟩;refine ⟨ag.cH,fun id o aq=>?_,aF,ag.base,ag.cX⟩;have h:=ag.obj id o aq;cases o with
 | dead=>trivial
 | cells l =>
   obtain ⟨b,cur,e,aA,aG,aT,bq,bf,bc⟩:=h;refine ⟨b,cur,e,aA,aG,aT,bq,fun o ah=>?_,fun j u v hu ad=>?_⟩
   ·rcases ae b o ah with h | ⟨l,h,n1,_⟩
    ·exact bf o h
    ·rw [aG] at h;cases h;exact n1 id rfl
   ·obtain ⟨a7,g6,a9,br⟩:=bc j u v hu ad;refine ⟨a7,g6,hm a9,br.mono (Ext.refl J) (fun b o ah=>⟨ab b o ah,rfl⟩) fun b af=>⟨af,rfl,fun o ah=>?_⟩⟩;rcases ae b o ah with h | ⟨l,h,_,n2⟩
    ·exact h
    ·rw [af] at h;cases h;exact absurd rfl (n2 id j)
 | grow l gid z =>
   obtain ⟨b,cur,e,aA,aG,aT,bq,bf,bc,da⟩:=h;refine ⟨b,cur,e,aA,aG,aT,bq,fun o ah=>?_,fun j u v hu ad=>?_,da⟩
   ·rcases ae b o ah with h | ⟨l,h,n1,_⟩
    ·exact bf o h
    ·rw [aG] at h;cases h;exact n1 id rfl
   ·obtain ⟨a7,g6,a9,br⟩:=bc j u v hu ad;refine ⟨a7,g6,hm a9,br.mono (Ext.refl J) (fun b o ah=>⟨ab b o ah,rfl⟩) fun b af=>⟨af,rfl,fun o ah=>?_⟩⟩;rcases ae b o ah with h | ⟨l,h,_,n2⟩
    ·exact h
    ·rw [af] at h;cases h;exact absurd rfl (n2 id j)
 | loop st cI fn T params assign body jA =>
   obtain ⟨aj,aY,b,L,aA,aG,aT,bq,bf,bc,da,du,dP⟩:=h;exact ⟨aj,aY,b,L,aA,aG,aT,bq,bf,bc,da,fun i u v hu ad=>⟨(du i u v hu ad).1,hm (du i u v hu ad).2⟩,dP⟩
 | map es clock =>
   obtain ⟨b,bA,aA,aG,aT,bq,bf,bc⟩:=h;refine ⟨b,bA,aA,aG,aT,bq,fun o ah=>?_,fun j i k v x hu ad=>?_⟩
   ·rcases ae b o ah with h | ⟨l,h,n1,_⟩
    ·exact bf o h
    ·rw [aG] at h;cases h;exact n1 id rfl
   ·obtain ⟨a7,a9,br,b5,dS⟩:=bc j i k v x hu ad;exact ⟨a7,a9,hm br,b5,hm dS⟩
 | iter m s e t =>
   obtain ⟨b,d',aA,aG,aT,bq,bf⟩:=h;refine ⟨b,d',aA,aG,aT,bq,fun o ah=>?_⟩;rcases ae b o ah with h | ⟨l,h,n1,_⟩
   ·exact bf o h
   ·rw [aG] at h;cases h;exact n1 id rfl
theorem bk.settle {S':Nat→Nat→Prop} (ab:∀ b o,S b o→S' b o) (ae:∀ b o,S' b o→S b o∨∃ l,aa b=some l):bk aa S w aa S' w :=
 ⟨rfl,rfl,rfl,se _,fun _ _ _=>rfl,fun b o h=>⟨ab b o h,rfl⟩,fun b o h=>(ae b o h).imp id fun ⟨l,ao⟩=>.inl (by simp [ao]),fun _ h=>.inl h⟩
theorem a5.g1 {bz:Nat→aH} {u:I} {T:List I} {bb:List Value} (h:a5 bz aa J S w (u::T) bb) :
  ∃ v hU,bb=v::hU∧Rel J S w u v∧aU aa J S w (bz 0) u v∧a5 (fun i=>bz (i+1)) aa J S w T hU:=by
 cases bb with
 | nil=>exact absurd h.len (by simp)
 | cons v hU =>
   exact ⟨v,hU,rfl,h.rel 0 u v rfl rfl,h.own 0 u v rfl rfl,by simpa using h.len,fun i bG bn hu ad=>h.rel (i+1) bG bn (by simpa using hu) (by simpa using ad),
    fun i bG bn hu ad=>h.own (i+1) bG bn (by simpa using hu) (by simpa using ad)⟩
theorem FC:∀ (T:List I) (bb:List Value) (bz:Nat→aH) (S:Nat→Nat→Prop),(∀ i j,bz i=bz j→i=j)→(∀ i id,bz i≠.obj id)→(∀ i id j,bz i≠.cell id j) →
  a5 bz aa J S w T bb→aK B aa J S w H →
  ∃ S':Nat→Nat→Prop,(∀ b o,S b o→S' b o)∧(∀ b o,S' b o→S b o∨∃ i,aa b=some (bz i))∧aK B aa J S' w H∧a5 bz aa J S' w (T.map I.view) bb:=by
 intro T
 induction T with
 | nil=>intro bb bz S _ _ _ ad ag;exact ⟨S,fun _ _ h=>h,fun _ _ h=>.inl h,ag,by simpa using ad⟩
 | cons u T a8 =>
   intro bb bz S aw n1 n2 ad ag;obtain ⟨v,hU,rfl,ai,aq,ax⟩:=ad.g1;have first:∃ a4:Nat→Nat→Prop,(∀ b o,S b o→a4 b o)∧(∀ b o,a4 b o→S b o∨aa b=some (bz 0))∧aK B aa J a4 w H∧Rel J a4 w u.view v:=by
    by_cases hu:u.cT=true
    ·exact ⟨S,fun _ _ h=>h,fun _ _ h=>.inl h,ag,ai.view hu⟩
    ·obtain ⟨cells,len,z,rfl⟩:∃ cells len z,u=.av cells len (.uniq z):=by
      unfold I.cT at hu;split at hu
      ·exact ⟨_,_,_,rfl⟩
      ·simp at hu
     obtain ⟨a4,aJ,aN,b',aS,_,_⟩:=kc ag ai aq;exact ⟨a4,aJ,aN,ag.settle aJ (fun b o h=>(aN b o h).imp id fun h=>⟨_,h,n1 0,n2 0⟩) b',aS⟩
   (obtain ⟨a4,aJ,aN,bV,dz⟩:=first);have xd:a5 (fun i=>bz (i+1)) aa J a4 w T hU:=by
    refine ⟨ax.len,fun i bG bn hu ad=>(ax.rel i bG bn hu ad).mono (Ext.refl J) fun b o ah=>⟨aJ b o ah,rfl⟩,fun i bG bn hu ad=>?_⟩;refine (ax.own i bG bn hu ad).mono (Ext.refl J) (fun b o ah=>⟨aJ b o ah,rfl⟩) fun b af=>⟨af,rfl,fun o ah=>?_⟩;rcases aN b o ah with h | h
    ·exact h
    ·rw [af] at h;injection h with h;exact absurd (aw _ _ h) (by omega)
   obtain ⟨S',dA,dq,b7,bg⟩:=a8 hU (fun i=>bz (i+1)) a4 (fun i j h=>by have:=aw _ _ h;omega) (fun i=>n1 (i+1)) (fun i=>n2 (i+1)) xd bV;refine ⟨S',fun b o h=>dA b o (aJ b o h),fun b o h=>?_,b7,?_⟩
   ·rcases dq b o h with h | ⟨i,h⟩
    ·exact (aN b o h).imp id fun h=>⟨0,h⟩
    ·exact .inr ⟨i+1,h⟩
   ·exact a5.cons (dz.mono (Ext.refl J) fun b o ah=>⟨dA b o ah,rfl⟩) (aU.b3 (I.di _)) bg
theorem Rel.df {k:IntKind} {n:Int} {v:Value} (h:Rel J S w (.int k n) v):v=.int k n:=by cases h;rfl
theorem Rel.h3 {b:Bool} {v:Value} (h:Rel J S w (.bool b) v):v=.bool b:=by cases h;rfl
theorem Rel.B1 {v:Value} (h:Rel J S w .dw v):∃ b,v=.bool b:=by cases h;exact ⟨_,rfl⟩
def e_ (P:Program) (o:Oper) (aV:Operand→Value) (J:List Nat) (S:Nat→Nat→Prop) (w:World) (r:I):Prop :=
 ∃ v,(Go.execOp aV o).run P w=.ok (.value v) w∧Rel J S w r v
theorem zV {o:Oper} {aV:Operand→Value} {c a b:Operand} (aq:o.op=.pick c a b) {x:Bool} {fx gq:I} (ab:Rel J S w (.bool x) (aV c))
  (ae:Rel J S w fx (aV a)) (aF:Rel J S w gq (aV b)):e_ P o aV J S w (match x with | true=>fx | false=>gq):=by
 have e:=ab.h3;cases x with
 | true=>exact ⟨aV a,by simp [Go.execOp,aq,e,asBool],ae⟩
 | false=>exact ⟨aV b,by simp [Go.execOp,aq,e,asBool],aF⟩
theorem Eo {o:Oper} {aV:Operand→Value} {x:Operand} (aq:o.op=.nilCheck x) {id off:Nat} (ab:Rel J S w (.ptr id off) (aV x)) :
  e_ P o aV J S w (.ptr id off):=by
 refine ⟨aV x,?_,ab⟩;generalize aj:aV x=cD at ab ⊢;cases ab with
 | ptr id off b h=>simp [Go.execOp,aq,aj]
theorem Ep {o:Oper} {aV:Operand→Value} {x:Operand} (aq:o.op=.nilCheck x) {cells:List I} (ab:Rel J S w (.bR cells) (aV x)) :
  e_ P o aV J S w (.bR cells):=by
 generalize ad:aV x=v at ab;have ae:=ab;cases ab with
 | bR _ b cw f h ai=>exact ⟨.pointer (some ⟨b,cw,none⟩),by simp [Go.execOp,aq,ad],ae⟩
theorem Er {o:Oper} {aV:Operand→Value} {op:UnOp} {t:TypeId} {x:Operand} (aq:o.op=.unOp op t x) {u r:I} (ai:kp op u=some r) (ab:Rel J S w u (aV x)) :
  e_ P o aV J S w r:=by
 unfold kp at ai;split at ai
 ·have e:=ab.h3;cases op <;> simp at ai;subst ai;exact ⟨_,by simp [Go.execOp,aq,e,Op.unary],.bool _⟩
 ·have e:=ab.df;cases op <;> simp at ai;subst ai;exact ⟨_,by simp [Go.execOp,aq,e,Op.unary,Op.intArith],.int _ _⟩
 ·simp at ai
theorem Eg {o:Oper} {aV:Operand→Value} {s d:TypeId} {x:Operand} (aq:o.op=.convert s d x) {u r:I} (ai:lI P s d u=some r) (ab:Rel J S w u (aV x)):e_ P o aV J S w r:=by
 unfold lI at ai;split at ai
 ·have e:=ab.df;split at ai
  ·rename_i fD k CW al;simp at ai;subst ai;refine ⟨_,?_,.int _ _⟩;simp only [Go.execOp,aq,e,convert,Sem.run_bind,run_underlying CW,run_underlying al,Result.andThen_ok];cases fD <;> simp [Conv.intToInt]
  ·simp at ai
 ·simp at ai
theorem El {o:Oper} {aV:Operand→Value} {fn:Fn} {first captured:Array Operand} (aq:o.op=.makeFunc fn first captured) {us:List I} {r:I}
  (ai:mW fn first.size captured.size us=some r) {bz:Nat→aH} (ad:a5 bz aa J S w us ((first++captured).toList.map aV)) (aB:∀ u∈us,u.plain=true) :
  e_ P o aV J S w r:=by
 unfold mW at ai;split at ai
 ·rename_i f;split at ai
  ·rename_i ao;simp at ai;subst ai;refine ⟨.func (.func f) (first.map aV) (captured.map aV),by simp [Go.execOp,aq,Instr.makeFunc],.func f _ _ _ _ ?_ ?_ ?_ ?_ ?_ ?_⟩
   ·simp;omega
   ·simp;omega
   ·exact fun u hu=>aB u (vl hu)
   ·exact fun u hu=>aB u (uI hu)
   ·intro j u v hu bg;refine ad.rel j u v ?_ ?_
    ·rw [sL] at hu;split at hu <;> simp_all
    ·simp only [ue,sb] at bg;obtain ⟨x,aj,rfl⟩:=bg;have:=(sO.1 aj).1;rw [su this] at aj;cases aj;simp [sj,this]
   ·intro j u v hu bg;refine ad.rel (first.size+j) u v ?_ ?_
    ·simpa [sU] using hu
    ·simp only [ue,sb] at bg;obtain ⟨x,aj,rfl⟩:=bg;simp [sv,aj]
  ·simp at ai
 ·simp at ai
theorem Ei {o:Oper} {aV:Operand→Value} {x:Operand} {i:Nat} (aq:o.op=.extract x i) {u r:I} (ai:nm i u=some r) (ab:Rel J S w u (aV x)) :
  e_ P o aV J S w r.view:=by
 unfold nm at ai;generalize aj:aV x=cD at ab;split at ai
 ·cases ab with
  | tuple as vs h p m5 =>
    have aR:=(sd.1 ai).1;have ad:vs[i]?=some (vs[i]'(by omega)):=su _;have aB:r.plain=true:=p r (sy ai);refine ⟨vs[i]'(by omega),?_,?_⟩
    ·simp [Go.execOp,aq,aj,Instr.extract,ad]
    ·rw [I.km aB];exact m5 i _ _ ai ad
 ·simp at ai
theorem Fl {op:BinOp} {t:TypeId} {x y:Operand} {k k':IntKind} {a b:Int}:(eqGuard op t x y (.int k a) (.int k' b)).run P w=.ok () w:=by
 unfold eqGuard;split <;> simp
theorem Fk {op:BinOp} {t:TypeId} {k k':IntKind} {a b:Int} {r:I} (ai:fk P op t (.int k a) (.int k' b)=some r) :
  ∃ v,(Go.binOp op t (.int k a) (.int k' b)).run P w=.ok v w∧Rel J S w r v:=by
 have FE:∀ mV,(mV=.shl∨mV=.shr)→hD mV k a b=some r→∃ v,(Op.shift mV k a k' b).run P w=.ok v w∧Rel J S w r v:=by
  intro mV aC h;unfold hD at h;split at h
  ·simp at h
  ·rename_i af;rcases aC with rfl | rfl <;> simp at h <;> subst h
   ·exact ⟨_,by simp [Op.shift,af],.int _ _⟩
   ·exact ⟨_,by simp [Op.shift,af],.int _ _⟩
 have B5:k=k'→jy op k a b=some r→∃ v,(Go.binOp op t (.int k a) (.int k' b)).run P w=.ok v w∧Rel J S w r v:=by
  rintro rfl h;cases op <;> simp only [jy,Option.some.injEq,reduceCtorEq] at h
  case quo =>
   split at h
   ·simp at h
   ·rename_i af;simp at h;subst h;exact ⟨_,by simp [Go.binOp,Op.intDiv,af],.int _ _⟩
  case rem =>
   split at h
   ·simp at h
   ·rename_i af;simp at h;subst h;exact ⟨_,by simp [Go.binOp,Op.intDiv,af],.int _ _⟩
  all_goals subst h
  all_goals first
   | (refine ⟨_,?_,.bool _⟩;simp [Go.binOp,Op.intCmp];done)
   | (refine ⟨_,?_,.int _ _⟩;simp [Go.binOp,Op.intArith];done)
   | (refine ⟨_,?_,.int _ _⟩;simp [Go.binOp,Op.intBits];done)
 unfold fk at ai;cases op <;> simp only at ai <;> first
  | (obtain ⟨v,ab,ae⟩:=FE _ (by simp) ai;exact ⟨v,by simpa [Go.binOp] using ab,ae⟩)
  | (split at ai
     ·exact B5 ‹_› ai
     ·simp at ai)
theorem Ef {o:Oper} {aV:Operand→Value} {op:BinOp} {t iC:TypeId} {x y:Operand} (aq:o.op=.binOp op t x y iC) {k k':IntKind} {a b:Int} {r:I}
  (ai:fk P op t (.int k a) (.int k' b)=some r) (ab:Rel J S w (.int k a) (aV x)) (ae:Rel J S w (.int k' b) (aV y)):e_ P o aV J S w r:=by
 obtain ⟨v,ad,b1⟩:=Fk (P:=P) (w:=w) (J:=J) (S:=S) (t:=t) ai;refine ⟨v,?_,b1⟩;simp only [Go.execOp,aq,ab.df,ae.df,Sem.run_bind,Fl,ad,Result.andThen_ok,Sem.run_pure]
theorem m' {t:TypeId} {s:Nat} (h:bE P t=some s):∃ i,P.info? t=some i∧i.size=s:=by
 simp only [bE,sb] at h;exact h
theorem run_sizeOf {t:TypeId} {s:Nat} (h:bE P t=some s):(sizeOf t).run P w=.ok s w:=by
 obtain ⟨i,hi,rfl⟩:=m' h;simp [sizeOf,typeInfo,hi]
theorem gX {t:TypeId} {d:TypeDesc} (h:P.underlying t=some d):(isAgg t).run P w=.ok (dH P t) w:=by
 simp only [isAgg,dH,h,Sem.run_bind,run_underlying h,Result.andThen_ok];cases d <;> simp
theorem lS {i:Int} {len j:Nat} (h:g7 i len=some j):0≤i∧i<len∧j=i.toNat:=by
 unfold g7 at h;split at h
 ·simp at h;exact ⟨by omega,by omega,h.symm⟩
 ·simp at h
theorem add_lit (b o n:Nat):(⟨b,o,none⟩:Addr).add n=⟨b,o+n,none⟩:=by
 unfold Addr.add;split <;> simp_all
theorem Rel.drop {cells:List I} {b o:Nat} {f:Nat→Value} (n:Nat)
  (h:∀ (j:Nat) (u:I),cells[j]?=some u→S b (o+j)∧w.cell? ⟨b,o+j,none⟩=some (f j)∧u.plain=true∧(f j).oneCell'=true)
  (ai:∀ (j:Nat) (u:I),cells[j]?=some u→Rel J S w u (f j)):Rel J S w (.bR (cells.drop n)) (.pointer (some ⟨b,o+n,none⟩)):=by
 refine .bR _ b (o+n) (fun j=>f (n+j)) (fun j u hu=>?_) (fun j u hu=>?_)
 ·rw [sU] at hu;have:=h (n+j) u hu
  rwa [show o+n+j=o+(n+j) by omega]
 ·rw [sU] at hu;exact ai (n+j) u hu
theorem En {o:Oper} {aV:Operand→Value} {t:TypeId} {x i:Operand} (aq:o.op=.indexAddr t x i) {fx gq r:I} (ai:h1 P t fx gq=some r)
  (ab:Rel J S w fx (aV x)) (ae:Rel J S w gq (aV i)) (aI:fx.cT=true):e_ P o aV J S w r:=by
 unfold h1 at ai;generalize aj:aV x=cD at ab;split at ai
 ·rename_i a1;simp only [si,sb] at ai;obtain ⟨s,ah,j,aw,rfl⟩:=ai;obtain ⟨dA,dq,rfl⟩:=lS aw;have e:=ae.df;cases ab with
  | b2 c a=>exact absurd dq (by simp;omega)
  | cM=>simp [I.cT] at aI
  | av cells len c b j5 cap f ak hle hu h fq =>
    refine ⟨_,?_,Rel.drop _ h fq⟩;simp [Go.execOp,aq,aj,e,Instr.indexAt,asIntOf,run_underlying a1,dA,dq,run_sizeOf ah,add_lit]
 ·rename_i a1;simp only [si,sb] at ai;obtain ⟨s,ah,j,aw,rfl⟩:=ai;obtain ⟨dA,dq,rfl⟩:=lS aw;have e:=ae.df;cases ab with
  | ref id off len c sz b cap h ak hle =>
    refine ⟨_,?_,.ptr _ _ b h⟩;simp [Go.execOp,aq,aj,e,Instr.indexAt,asIntOf,run_underlying a1,dA,dq,run_sizeOf ah,add_lit]
 ·rename_i a1;simp only [si,sb] at ai;obtain ⟨s,ah,j,aw,rfl⟩:=ai;obtain ⟨dA,dq,rfl⟩:=lS aw;have e:=ae.df;cases ab with
  | ptr id off b h =>
    refine ⟨_,?_,.ptr _ _ b h⟩;simp [Go.execOp,aq,aj,e,Instr.indexAt,asIntOf,Instr.sureAddr,run_underlying a1,dA,dq,run_sizeOf ah,add_lit]
 ·rename_i a1;simp only [si,sb] at ai;obtain ⟨s,ah,j,aw,rfl⟩:=ai;obtain ⟨dA,dq,rfl⟩:=lS aw;have e:=ae.df;cases ab with
  | bR cells b j5 f h fq =>
    refine ⟨_,?_,Rel.drop _ h fq⟩;simp [Go.execOp,aq,aj,e,Instr.indexAt,asIntOf,Instr.sureAddr,run_underlying a1,dA,dq,run_sizeOf ah,add_lit]
 ·simp at ai
theorem A2 {b o s:Nat} {g:Field} (ah:bE P g.type=some s) (aQ:s≠0):(fieldPlace ⟨b,o,none⟩ g).run P w=.ok ⟨b,o+g.offset,none⟩ w:=by
 simp [fieldPlace,run_sizeOf ah,aQ,add_lit]
theorem Ek {o:Oper} {aV:Operand→Value} {t:TypeId} {x:Operand} {l3:Nat} (aq:o.op=.fieldAddr t x l3) {u r:I} (ai:jz P t u l3=some r)
  (ab:Rel J S w u (aV x)):e_ P o aV J S w r:=by
 unfold jz at ai;generalize aj:aV x=cD at ab;split at ai
 ·rename_i a1;simp only [si] at ai;obtain ⟨g,aO,s,ah,ai⟩:=ai;split at ai
  ·simp at ai
  ·rename_i aQ;simp at ai;subst ai;cases ab with
   | ptr id off b h =>
     refine ⟨_,?_,.ptr _ _ b h⟩;simp [Go.execOp,aq,aj,Instr.fieldAt,Instr.sureAddr,run_underlying a1,aO,A2 ah aQ]
 ·rename_i a1;simp only [si] at ai;obtain ⟨g,aO,s,ah,ai⟩:=ai;split at ai
  ·simp at ai
  ·rename_i aQ;simp at ai;subst ai;cases ab with
   | bR cells b j5 f h fq =>
     refine ⟨_,?_,Rel.drop _ h fq⟩;simp [Go.execOp,aq,aj,Instr.fieldAt,Instr.sureAddr,run_underlying a1,aO,A2 ah aQ]
 ·simp at ai
theorem zA {t:TypeId} (h:dH P t=true):∃ d,P.underlying t=some d:=by
 unfold dH at h;split at h <;> first | exact ⟨_,by assumption⟩ | simp at h
theorem A6 {t:TypeId} {as:List I} {vs:Array Value} {off:Nat} {r:I} (ai:iH P t as off=some r) (ao:vs.size=as.length)
  (aB:∀ u∈as,u.plain=true) (eo:∀ v∈vs.toList,v.oneCell'=true) (b1:∀ (j:Nat) (u:I) (v:Value),as[j]?=some u→vs[j]?=some v→Rel J S w u v) :
  ∃ v,(part t vs off).run P w=.ok v w∧Rel J S w r v∧r.plain=true:=by
 unfold iH at ai;cases cm:dH P t with
 | true =>
   obtain ⟨d,a1⟩:=zA cm;rw [cm] at ai;simp only [si] at ai;obtain ⟨s,ah,ai⟩:=ai;split at ai
   ·rename_i hle;simp at ai;subst ai;refine ⟨.agg (vs.extract off (off+s)),by simp [part,gX a1,cm,run_sizeOf ah],.agg _ _ ?_ ?_ ?_ ?_,rfl⟩
    ·simp;omega
    ·exact fun u hu=>aB u (uI (vl hu))
    ·exact fun v ad=>eo v (by rw [Array.toList_extract] at ad;exact uI (vl ad))
    ·intro j u v hu ad;rw [sL] at hu;split at hu
     ·rw [sU] at hu;rw [Array.getElem?_extract] at ad;split at ad
      ·exact b1 _ u v hu ad
      ·simp at ad
     ·simp at hu
   ·simp at ai
 | false =>
   rw [cm] at ai;simp only at ai;split at ai
   ·rename_i d a1;have aR:=(sd.1 ai).1;have ad:vs[off]?=some (vs[off]'(by omega)):=su _;exact ⟨_,by simp [part,gX a1,cm,ad],b1 off _ _ ai ad,aB r (sy ai)⟩
   ·simp at ai
theorem Ej {o:Oper} {aV:Operand→Value} {t:TypeId} {x:Operand} {l3:Nat} (aq:o.op=.field t x l3) {u r:I} (ai:nn P t u l3=some r)
  (ab:Rel J S w u (aV x)):e_ P o aV J S w r.view:=by
 unfold nn at ai;generalize aj:aV x=cD at ab;split at ai
 ·rename_i a1;simp only [si] at ai;obtain ⟨g,aO,ai⟩:=ai;cases ab with
  | agg as vs h p one m5 =>
    obtain ⟨v,ad,b1,hg⟩:=A6 (w:=w) ai h p one m5;refine ⟨v,?_,by rw [I.km hg];exact b1⟩;simp [Go.execOp,aq,aj,Instr.field,run_underlying a1,aO,asAgg,ad]
 ·simp at ai
theorem Em {o:Oper} {aV:Operand→Value} {t:TypeId} {x i:Operand} (aq:o.op=.index t x i) {fx gq r:I} (ai:oZ P t fx gq=some r)
  (ab:Rel J S w fx (aV x)) (ae:Rel J S w gq (aV i)):e_ P o aV J S w r.view:=by
 unfold oZ at ai;generalize aj:aV x=cD at ab;split at ai
 ·rename_i a1;simp only [si] at ai;obtain ⟨s,ah,j,aw,ai⟩:=ai;obtain ⟨dA,dq,rfl⟩:=lS aw;have e:=ae.df;cases ab with
  | agg as vs h p one m5 =>
    obtain ⟨v,ad,b1,hg⟩:=A6 (w:=w) ai h p one m5;refine ⟨v,?_,by rw [I.km hg];exact b1⟩;simp [Go.execOp,aq,aj,e,Instr.index,asIntOf,run_underlying a1,dA,dq,run_sizeOf ah,ad]
 ·rename_i b k n a1;have e:=ae.df;split at ai
  ·rename_i aQ;simp only [sb] at ai;obtain ⟨y,aY,rfl⟩:=ai;cases ab with
   | str b =>
     refine ⟨_,?_,.int _ _⟩;simp [Go.execOp,aq,aj,e,Instr.index,asIntOf,run_underlying a1,aQ,aY]
  ·simp at ai
 ·simp at ai
theorem Fo {t e:TypeId} (d:Nat) (ax:P.underlying t=some (.slice e)) (a:Addr) (len cap:Nat) :
  (Op.equalIn (d+1) t (.slice (some a) len cap) (.slice none 0 0)).run P w=.ok false w:=by
 rw [Op.equalIn];simp [run_underlying ax]
theorem oE {t e:TypeId} (ax:P.underlying t=some (.slice e)) (a:Addr) (len cap:Nat) :
  (Op.equal t (.slice (some a) len cap) (.slice none 0 0)).run P w=.ok false w:=Fo 9999 ax a len cap
theorem run_equalIn_bool {t:TypeId} (d:Nat) (ax:P.underlying t=some .bool) (a b:Bool):(Op.equalIn (d+1) t (.bool a) (.bool b)).run P w=.ok (a == b) w:=by
 rw [Op.equalIn];simp [run_underlying ax]
theorem run_equal_bool {t:TypeId} (ax:P.underlying t=some .bool) (a b:Bool):(Op.equal t (.bool a) (.bool b)).run P w=.ok (a == b) w:=run_equalIn_bool 9999 ax a b
theorem Fp {t e:TypeId} (d:Nat) (ax:P.underlying t=some (.slice e)) (len cap:Nat) :
  (Op.equalIn (d+1) t (.slice none len cap) (.slice none 0 0)).run P w=.ok true w:=by
 rw [Op.equalIn];simp [run_underlying ax]
theorem A1 {t e:TypeId} (ax:P.underlying t=some (.slice e)) (len cap:Nat) :
  (Op.equal t (.slice none len cap) (.slice none 0 0)).run P w=.ok true w:=Fp 9999 ax len cap
theorem Eh {o:Oper} {aV:Operand→Value} {op:BinOp} {t iC:TypeId} {x y:Operand} (aq:o.op=.binOp op t x y iC) (aY:iW y=true) {u r:I}
  (ai:nk P op t u=some r) (ab:Rel J S w u (aV x)) (eT:∀ v,aV (.const v)=v):e_ P o aV J S w r:=by
 have DO:y=.const (.slice none 0 0):=by
  unfold iW at aY;split at aY
  ·rfl
  ·simp at aY
 subst DO;generalize aj:aV x=cD at ab;unfold nk at ai;split at ai
 ·rename_i e ax;have ah:((∃ b j5 len cap,cD=.slice (some ⟨b,j5,none⟩) len cap)∧((op=.eql∧r=.bool false)∨(op=.neq∧r=.bool true))) ∨
    ((∃ a len cap,cD=.slice a len cap)∧(op=.eql∨op=.neq)∧r=.dw):=by
   split at ai
   ·refine .inl ⟨?_,by split at ai <;> simp_all⟩;cases ab with
    | av cells len c b j5 cap f ak hle hu h fq=>exact ⟨_,_,_,_,rfl⟩
    | cM=>exact ⟨_,_,_,_,rfl⟩
   ·refine .inl ⟨?_,by split at ai <;> simp_all⟩;cases ab with
    | ref id off len c sz b cap h ak hle=>exact ⟨_,_,_,_,rfl⟩
   ·refine .inr ⟨?_,by split at ai <;> simp_all⟩;cases ab with
    | b2 c a=>exact ⟨_,_,_,rfl⟩
    | av cells len c b j5 cap f ak hle hu h fq=>exact ⟨_,_,_,rfl⟩
    | cM=>exact ⟨_,_,_,rfl⟩
   ·simp at ai
  rcases ah with ⟨⟨b,j5,len,cap,rfl⟩,⟨rfl,rfl⟩ | ⟨rfl,rfl⟩⟩ | ⟨⟨a,len,cap,rfl⟩,aC,rfl⟩
  ·exact ⟨.bool false,by simp [Go.execOp,aq,aj,eT,eqGuard,Go.binOp,oE ax],.bool _⟩
  ·exact ⟨.bool true,by simp [Go.execOp,aq,aj,eT,eqGuard,Go.binOp,oE ax],.bool _⟩
  ·rcases aC with rfl | rfl
   ·cases a with
    | none=>exact ⟨.bool true,by simp [Go.execOp,aq,aj,eT,eqGuard,Go.binOp,A1 ax],.dw _⟩
    | some a=>exact ⟨.bool false,by simp [Go.execOp,aq,aj,eT,eqGuard,Go.binOp,oE ax],.dw _⟩
   ·cases a with
    | none=>exact ⟨.bool false,by simp [Go.execOp,aq,aj,eT,eqGuard,Go.binOp,A1 ax],.dw _⟩
    | some a=>exact ⟨.bool true,by simp [Go.execOp,aq,aj,eT,eqGuard,Go.binOp,oE ax],.dw _⟩
 ·simp at ai
theorem Ee {o:Oper} {aV:Operand→Value} {op:BinOp} {t iC:TypeId} {x y:Operand} (aq:o.op=.binOp op t x y iC) {a b:Bool} {r:I}
  (ai:fk P op t (.bool a) (.bool b)=some r) (ab:Rel J S w (.bool a) (aV x)) (ae:Rel J S w (.bool b) (aV y)):e_ P o aV J S w r:=by
 simp only [fk] at ai;have e1:=ab.h3;have b9:=ae.h3;split at ai
 ·rename_i ax;simp at ai;subst ai;exact ⟨_,by simp [Go.execOp,aq,e1,b9,eqGuard,Go.binOp,run_equal_bool ax],.bool _⟩
 ·rename_i ax;simp at ai;subst ai;exact ⟨_,by simp [Go.execOp,aq,e1,b9,eqGuard,Go.binOp,run_equal_bool ax],.bool _⟩
 ·simp at ai
theorem nz {x y:I} {xs ys:List I} {e:Bool} (h:dI (x::xs) (y::ys)=some e) :
  ∃ k a b cS,x=.int k a∧y=.int k b∧dI xs ys=some cS∧e=((a == b) && cS):=by
 cases x <;> cases y <;> simp only [dI,reduceCtorEq] at h;split at h
 ·rename_i al;subst al;simp only [sb] at h;obtain ⟨cS,ab,ae⟩:=h;exact ⟨_,_,_,cS,rfl,rfl,ab,ae.symm⟩
 ·simp at h
theorem Fj {e:TypeId} {dg:IntKind} (d:Nat) (he:P.underlying e=some (.int dg)) (ah:dH P e=false):∀ (xs ys:List I) (vs ws:List Value) (off:Nat) (eq:Bool),
  dI xs ys=some eq→a5 (fun _=>.res) aa J S w xs vs→a5 (fun _=>.res) aa J S w ys ws→∀ (V W:Array Value),(∀ j,vs[j]?=V[off+j]?)→(∀ j,ws[j]?=W[off+j]?) →
  (forIn (List.range' off xs.length) ((none,()):Option Bool×PUnit) (fun i (_:Option Bool×PUnit)=>(do
    let a ←part e V i
    let b ←part e W i
    let c ←Op.equalIn (d+1) e a b
    if c=false then pure (ForInStep.done (some false,())) else pure (ForInStep.yield (none,())):Sem (ForInStep (Option Bool×PUnit))))).run P w =
   .ok (if eq then none else some false,()) w:=by
 intro xs
 induction xs with
 | nil=>intro ys vs ws off eq h _ _ V W _ _;cases ys <;> simp [dI] at h;subst h;simp
 | cons x xs a8 =>
   intro ys vs ws off eq h ad hw V W jH l9;cases ys with
   | nil=>cases x <;> simp [dI] at h
   | cons y ys =>
     obtain ⟨k,a,b,cS,rfl,rfl,aX,rfl⟩:=nz h;obtain ⟨v,cV,rfl,aS,_,bg⟩:=ad.g1;obtain ⟨w',yo,rfl,bh,_,mA⟩:=hw.g1;have e1:=aS.df;have b9:=bh.df;subst e1 b9;(have bT:V[off]?=some (.int k a):=by have:=jH 0;simpa using this.symm);(have b0:W[off]?=some (.int k b):=by have:=l9 0;simpa using this.symm);have xn:=a8 ys cV yo (off+1) cS aX bg mA V W (fun j=>by have:=jH (j+1);simpa [tg,ti 1] using this) (fun j=>by have:=l9 (j+1);simpa [tg,ti 1] using this);(have q1:(part e V off).run P w=.ok (.int k a) w:=by simp [part,gX he,ah,bT]);(have aW:(part e W off).run P w=.ok (.int k b) w:=by simp [part,gX he,ah,b0]);(have cC:(Op.equalIn (d+1) e (.int k a) (.int k b)).run P w=.ok (a == b) w:=by rw [Op.equalIn];simp [run_underlying he]);simp only [sM,List.range'_succ,vm,Sem.run_bind,q1,aW,cC,Result.andThen_ok];by_cases jI:a=b
     ·subst jI;simpa using xn
     ·simp [jI]
theorem Fm {t e:TypeId} {len:Nat} {dg:IntKind} (d:Nat) (ax:P.underlying t=some (.array len e)) (he:P.underlying e=some (.int dg)) (gM:bE P e=some 1)
  {xs ys:List I} {V W:Array Value} {eq:Bool} (aj:xs.length=len) (h:dI xs ys=some eq) (aS:Rel J S w (.agg xs) (.agg V)) (bh:Rel J S w (.agg ys) (.agg W)) :
  (Op.equalIn (d+2) t (.agg V) (.agg W)).run P w=.ok eq w:=by
 have cm:dH P e=false:=by unfold dH;rw [he]
 rw [Op.equalIn];simp only [run_underlying ax,run_sizeOf gM,Sem.run_bind,Result.andThen_ok];cases aS with
 | agg xs V ad bT bw q1 =>
   cases bh with
   | agg ys W hw b0 bJ aW =>
     have:=Fj (aa:=fun _=>none) (P:=P) (w:=w) (J:=J) (S:=S) d he cm xs ys V.toList W.toList 0 eq h ⟨by simp [ad],fun i u v a b=>q1 i u v a (by simpa using b),fun i u v a _=>aU.b3 (bT u (sy a))⟩
      ⟨by simp [hw],fun i u v a b=>aW i u v a (by simpa using b),fun i u v a _=>aU.b3 (b0 u (sy a))⟩ V W (by simp) (by simp)
     rw [aj] at this;simp [this];cases eq <;> simp
theorem zy {f:Field} {fs:List Field} {n:Nat} (h:gP P (f::fs) n=true) :
  f.offset = n ∧ f.name ≠ "_" ∧ (∃ k, P.underlying f.type = some (.int k)) ∧ bE P f.type = some 1 ∧ dH P f.type = false ∧ gP P fs (n + 1) = true := by
 simp only [gP,Bool.and_eq_true,beq_iff_eq,bne_iff_ne] at h;obtain ⟨⟨⟨ab,ae⟩,aF⟩,ba⟩:=h;split at aF
 ·rename_i k hu ah;exact ⟨ab,ae,⟨k,hu⟩,ah,by unfold dH;rw [hu],ba⟩
 ·simp at aF
theorem Fs (d:Nat):∀ (fs:List Field) (xs ys:List I) (vs ws:List Value) (off:Nat) (eq:Bool),gP P fs off=true→xs.length=fs.length→ys.length=fs.length →
  dI xs ys=some eq→a5 (fun _=>.res) aa J S w xs vs→a5 (fun _=>.res) aa J S w ys ws→∀ (V W:Array Value),(∀ j,vs[j]?=V[off+j]?)→(∀ j,ws[j]?=W[off+j]?) →
  (forIn fs ((none,()):Option Bool×PUnit) (fun f (_:Option Bool×PUnit) =>
    if f.name = "_" then pure (ForInStep.yield (none, ())) else (do
    let a ←part f.type V f.offset
    let b ←part f.type W f.offset
    let c ←Op.equalIn (d+1) f.type a b
    if c=false then pure (ForInStep.done (some false,())) else pure (ForInStep.yield (none,())):Sem (ForInStep (Option Bool×PUnit))))).run P w =
   .ok (if eq then none else some false,()) w:=by
 intro fs
 induction fs with
 | nil =>
   intro xs ys vs ws off eq _ aj aY h _ _ V W _ _;obtain rfl:=sP.1 aj;obtain rfl:=sP.1 aY;simp [dI] at h;subst h;simp
 | cons f fs a8 =>
   intro xs ys vs ws off eq aP aj aY h ad hw V W jH l9;cases xs with
   | nil=>simp at aj
   | cons x xs =>
     cases ys with
     | nil=>simp at aY
     | cons y ys =>
       obtain ⟨k,a,b,cS,rfl,rfl,aX,rfl⟩:=nz h;obtain ⟨v,cV,rfl,aS,_,bg⟩:=ad.g1;obtain ⟨w',yo,rfl,bh,_,mA⟩:=hw.g1;obtain ⟨f1,f2,⟨dg,f3⟩,f4,f5,f6⟩:=zy aP;have e1:=aS.df;have b9:=bh.df;subst e1 b9;(have bT:V[off]?=some (.int k a):=by have:=jH 0;simpa using this.symm);(have b0:W[off]?=some (.int k b):=by have:=l9 0;simpa using this.symm);have xn:=a8 xs ys cV yo (off+1) cS f6 (by simpa using aj) (by simpa using aY) aX bg mA V W (fun j=>by have:=jH (j+1);simpa [tg,ti 1] using this) (fun j=>by have:=l9 (j+1);simpa [tg,ti 1] using this);(have q1:(part f.type V f.offset).run P w=.ok (.int k a) w:=by simp [part,gX f3,f5,f1,bT]);(have aW:(part f.type W f.offset).run P w=.ok (.int k b) w:=by simp [part,gX f3,f5,f1,b0]);(have cC:(Op.equalIn (d+1) f.type (.int k a) (.int k b)).run P w=.ok (a == b) w:=by rw [Op.equalIn];simp [run_underlying f3]);simp only [vm,f2,if_false,Sem.run_bind,q1,aW,cC,Result.andThen_ok];by_cases jI:a=b
       ·subst jI;simpa using xn
       ·simp [jI]
theorem run_equalIn_struct {t:TypeId} {fs:Array Field} (d:Nat) (ax:P.underlying t=some (.struct fs)) (aP:gP P fs.toList 0=true) (ie:P.stoodInHeld t=false)
  {xs ys:List I} {V W:Array Value} {eq:Bool} (aj:xs.length=fs.size) (aY:ys.length=fs.size) (h:dI xs ys=some eq) (aS:Rel J S w (.agg xs) (.agg V)) (bh:Rel J S w (.agg ys) (.agg W)) :
  (Op.equalIn (d+2) t (.agg V) (.agg W)).run P w=.ok eq w:=by
 rw [Op.equalIn];cases aS with
 | agg xs V ad bT bw q1 =>
   cases bh with
   | agg ys W hw b0 bJ aW =>
     have:=Fs (aa:=fun _=>none) (P:=P) (w:=w) (J:=J) (S:=S) d fs.toList xs ys V.toList W.toList 0 eq aP (by simpa using aj) (by simpa using aY) h ⟨by simp [ad],fun i u v a b=>q1 i u v a (by simpa using b),fun i u v a _=>aU.b3 (bT u (sy a))⟩
      ⟨by simp [hw],fun i u v a b=>aW i u v a (by simpa using b),fun i u v a _=>aU.b3 (b0 u (sy a))⟩ V W (by simp) (by simp)
     simp only [run_underlying ax,Sem.run_bind,Result.andThen_ok,program,Sem.run,ie];rw [Array.forIn_toList] at this;simp [this];cases eq <;> simp
theorem Ed {o:Oper} {aV:Operand→Value} {op:BinOp} {t iC:TypeId} {x y:Operand} (aq:o.op=.binOp op t x y iC) {xs ys:List I} {r:I}
  (ai:fk P op t (.agg xs) (.agg ys)=some r) (ab:Rel J S w (.agg xs) (aV x)) (ae:Rel J S w (.agg ys) (aV y)):e_ P o aV J S w r:=by
 simp only [fk] at ai;split at ai
 ·rename_i len e ax;split at ai
  ·rename_i dg he gM;split at ai
   ·rename_i ak;obtain ⟨aj,aY,aO⟩:=ak;generalize gh:aV x=cD at ab;generalize mz:aV y=yn at ae;(have e1:∃ V,cD=.agg V:=by cases ab with | agg as vs=>exact ⟨_,rfl⟩);(have b9:∃ V,yn=.agg V:=by cases ae with | agg as vs=>exact ⟨_,rfl⟩);obtain ⟨V,rfl⟩:=e1;obtain ⟨W,rfl⟩:=b9;have key:∀ eq,dI xs ys=some eq→(Op.equal t (.agg V) (.agg W)).run P w=.ok eq w:=fun eq h=>Fm 9998 ax he gM aj h ab ae;split at ai
    ·simp only [sb] at ai;obtain ⟨eq,h,rfl⟩:=ai;exact ⟨.bool eq,by simp [Go.execOp,aq,gh,mz,eqGuard,aO,Go.binOp,key eq h,program,Sem.run],.bool _⟩
    ·simp only [sb] at ai;obtain ⟨eq,h,rfl⟩:=ai;exact ⟨.bool (!eq),by simp [Go.execOp,aq,gh,mz,eqGuard,aO,Go.binOp,key eq h,program,Sem.run],.bool _⟩
    ·simp at ai
   ·simp at ai
  ·simp at ai
 ·rename_i fs ax;split at ai
  ·rename_i ak;obtain ⟨aP,ie,aj,aY,aO⟩:=ak;generalize gh:aV x=cD at ab;generalize mz:aV y=yn at ae;(have e1:∃ V,cD=.agg V:=by cases ab with | agg as vs=>exact ⟨_,rfl⟩);(have b9:∃ V,yn=.agg V:=by cases ae with | agg as vs=>exact ⟨_,rfl⟩);obtain ⟨V,rfl⟩:=e1;obtain ⟨W,rfl⟩:=b9;have key:∀ eq,dI xs ys=some eq→(Op.equal t (.agg V) (.agg W)).run P w=.ok eq w:=fun eq h=>run_equalIn_struct 9998 ax aP ie aj aY h ab ae;split at ai
   ·simp only [sb] at ai;obtain ⟨eq,h,rfl⟩:=ai;exact ⟨.bool eq,by simp [Go.execOp,aq,gh,mz,eqGuard,aO,Go.binOp,key eq h,program,Sem.run],.bool _⟩
   ·simp only [sb] at ai;obtain ⟨eq,h,rfl⟩:=ai;exact ⟨.bool (!eq),by simp [Go.execOp,aq,gh,mz,eqGuard,aO,Go.binOp,key eq h,program,Sem.run],.bool _⟩
   ·simp at ai
  ·simp at ai
 ·simp at ai
end
end Go.Proofs.Ytkoioidpbbbaiaa.Ab


namespace Go.Proofs.Ytkoioidpbbbaiaa.Ab
open Go
section
variable {P:Program} {B:Nat} {J:List Nat} {w:World} {H:List ar} {aa:Nat→Option aH} {S:Nat→Nat→Prop}
def eL (J:List Nat) (S:Nat→Nat→Prop) (w:World):Option I→Option Value→Prop
 | none,none=>True
 | some u,some v=>Rel J S w u v
 | _,_=>False
theorem m6 {x:Option I} {v:Option Value} {d y yp r:Nat} (h:cK x d y=some r) (aj:eL J S w x v) (aY:y≤yp) :
  (∃ k n,v=some (.int k n)∧x.isSome∧(∀ code,(Instr.sliceBound (.int k n) yp code).run P w=.ok r w)∧r≤y)∨(v=none∧x=none∧r=d):=by
 unfold cK at h;split at h
 ·cases v with
  | none=>simp at h;exact .inr ⟨rfl,rfl,h.symm⟩
  | some v=>simp [eL] at aj
 ·cases v with
  | none=>simp [eL] at aj
  | some v =>
    have e:=Rel.df aj;subst e;split at h
    ·rename_i af;simp at h;subst h;refine .inl ⟨_,_,rfl,rfl,fun code=>?_,by omega⟩;have ab:=af.1;have ae:_≤(yp:Int):=Int.le_trans af.2 (Int.ofNat_le.2 aY);simp [Instr.sliceBound,asIntOf,ab,ae]
    ·simp at h
 ·simp at h
theorem hS {lo hi:Option I} {lo' hi':Option Value} {isS:Bool} {len cap h l:Nat} (bD:cK hi len len=some h) (ao:cK lo 0 h=some l) (hle:len≤cap)
  (aS:eL J S w lo lo') (bh:eL J S w hi hi'):(Instr.sliceBounds isS len cap lo' hi' none).run P w=.ok (l,h,cap) w∧l≤h∧h≤len:=by
 rcases m6 (P:=P) bD bh hle with ⟨k,n,rfl,_,q,af⟩ | ⟨rfl,_,rfl⟩ <;> rcases m6 (P:=P) ao aS (se _) with ⟨k',iZ,rfl,_,fT,bu⟩ | ⟨rfl,_,rfl⟩ <;>
  refine ⟨?_,by omega,by omega⟩ <;> simp [Instr.sliceBounds, *]
theorem x9 {lo hi gR:Option I} {lo' hi' iY:Option Value} {isS:Bool} {len cap m h l:Nat} (hm:cK gR len len=some m) (Dj:gR.isSome) (C7:hi.isSome)
  (bD:cK hi m m=some h) (ao:cK lo 0 h=some l) (hle:len≤cap)
  (aS:eL J S w lo lo') (bh:eL J S w hi hi') (eH:eL J S w gR iY):(Instr.sliceBounds isS len cap lo' hi' iY).run P w=.ok (l,h,m) w∧l≤h∧h≤m∧m≤len:=by
 rcases m6 (P:=P) hm eH hle with ⟨k,n,rfl,_,q,af⟩ | ⟨rfl,rfl,_⟩
 ·rcases m6 (P:=P) bD bh (se _) with ⟨aN,n2,rfl,_,aW,gK⟩ | ⟨rfl,rfl,_⟩
  ·rcases m6 (P:=P) ao aS (se _) with ⟨k',iZ,rfl,_,fT,bu⟩ | ⟨rfl,_,rfl⟩ <;>
    refine ⟨?_,by omega,by omega,by omega⟩ <;> simp [Instr.sliceBounds, *]
  ·simp at C7
 ·simp at Dj
theorem Rel.sub {cells:List I} {b o cap' n k:Nat} {f:Nat→Value} (d:Nat) (dR:hB) (ak:dR=.full→cap'=n) (hle:n≤cap') (hu:∀ z,dR≠.uniq z)
  (h:∀ (j:Nat) (u:I),cells[j]?=some u→S b (o+j)∧w.cell? ⟨b,o+j,none⟩=some (f j)∧u.plain=true∧(f j).oneCell'=true)
  (ai:∀ (j:Nat) (u:I),cells[j]?=some u→Rel J S w u (f j)):Rel J S w (.av ((cells.drop d).take k) n dR) (.slice (some ⟨b,o+d,none⟩) n cap'):=by
 refine .av _ n dR b (o+d) cap' (fun j=>f (d+j)) ak hle hu (fun j u b8=>?_) (fun j u b8=>?_)
 ·rw [sL] at b8;split at b8
  ·rw [sU] at b8;have:=h (d+j) u b8
   rwa [show o+d+j=o+(d+j) by omega]
  ·simp at b8
 ·rw [sL] at b8;split at b8
  ·rw [sU] at b8;exact ai (d+j) u b8
  ·simp at b8
theorem Rel.empty (c:hB) (hu:∀ z,c≠.uniq z) (b o cap:Nat) (ak:c=.full→cap=0):Rel J S w (.av [] 0 c) (.slice (some ⟨b,o,none⟩) 0 cap) :=
 .av [] 0 c b o cap (fun _=>undef) ak (Nat.zero_le _) hu (by simp) (by simp)
theorem Fq {t:TypeId} {u r:I} {x:Value} {lo hi gR:Option I} {lo' hi' iY:Option Value} (ai:eX P t u lo hi gR=some r) (aB:u.plain=true)
  (ab:Rel J S w u x) (aS:eL J S w lo lo') (bh:eL J S w hi hi') (eH:eL J S w gR iY) :
  ∃ v,(Instr.sliceAt t x lo' hi' iY).run P w=.ok v w∧Rel J S w r v∧r.plain=true:=by
 unfold eX at ai;split at ai
 ·rename_i e cells len c a1;simp only [si] at ai;obtain ⟨s,ah,ai⟩:=ai;have pl:∀ (cs:List I) (n:Nat) (p:Prop) [Decidable p],(I.av cs n (if p then .full else .shared)).plain=true:=fun cs n p _=>by split <;> rfl
  have pF:∀ (p:Prop) [Decidable p] (z:Nat),(if p then hB.full else hB.shared)≠.uniq z:=fun p _ z=>by split <;> simp
  split at ai
  ·simp only [si] at ai;obtain ⟨h,bD,l,ao,ai⟩:=ai;simp at ai;subst ai;cases iY with
   | some _=>simp [eL] at eH
   | none =>
   cases ab with
   | b2 c a =>
     obtain ⟨q,q1,aW⟩:=hS (P:=P) (isS:=true) (cap:=0) bD ao (by omega) aS bh;(obtain rfl:h=0:=by omega);(obtain rfl:l=0:=by omega);exact ⟨.slice a 0 0,by cases a <;> simp [Instr.sliceAt,Instr.slice,run_underlying a1,q,run_sizeOf ah,Addr.add],by simpa using .b2 _ _,pl _ _ _⟩
   | cM=>simp [I.plain] at aB
   | av cells len c b o cap f ak hle hu bx b1 =>
     obtain ⟨q,q1,aW⟩:=hS (P:=P) (isS:=true) (cap:=cap) bD ao hle aS bh;refine ⟨_,by simp [Instr.sliceAt,Instr.slice,run_underlying a1,q,run_sizeOf ah];rfl,?_,pl _ _ _⟩;by_cases en:cap=l
     ·(obtain rfl:h=l:=by omega);simp only [en,if_true,tz,Nat.zero_mul,vn];exact Rel.empty _ (pF _) _ _ _ (by simp)
     ·simp only [en,if_false,add_lit];refine Rel.sub _ _ (fun he=>?_) (by omega) (pF _) bx b1;split at he
      ·rename_i h5;rw [ak h5.1,h5.2]
      ·simp at he
  ·rename_i G2 GU;simp only [si] at ai;obtain ⟨m,hm,h,bD,l,ao,ai⟩:=ai;simp at ai;subst ai;cases ab with
   | b2 c a =>
     obtain ⟨q,q1,aW,cC⟩:=x9 (P:=P) (isS:=true) (cap:=0) hm rfl rfl bD ao (by omega) aS bh eH;(obtain rfl:m=0:=by omega);(obtain rfl:h=0:=by omega);(obtain rfl:l=0:=by omega);exact ⟨.slice a 0 0,by cases a <;> simp [Instr.sliceAt,Instr.slice,run_underlying a1,q,run_sizeOf ah,Addr.add],by simpa using .b2 _ _,pl _ _ _⟩
   | cM=>simp [I.plain] at aB
   | av cells len c b o cap f ak hle hu bx b1 =>
     obtain ⟨q,q1,aW,cC⟩:=x9 (P:=P) (isS:=true) (cap:=cap) hm rfl rfl bD ao hle aS bh eH;refine ⟨_,by simp [Instr.sliceAt,Instr.slice,run_underlying a1,q,run_sizeOf ah];rfl,?_,pl _ _ _⟩;by_cases en:m=l
     ·(obtain rfl:h=l:=by omega);simp only [en,if_true,tz,Nat.zero_mul,vn];exact Rel.empty _ (by simp) _ _ _ (by simp)
     ·simp only [en,if_false,add_lit];refine Rel.sub _ _ (fun he=>?_) (by omega) (pF _) bx b1;split at he
      ·rename_i h5;rw [h5]
      ·simp at he
  ·simp at ai
 ·rename_i e id off len cap sz a1;simp only [si] at ai;obtain ⟨s,ah,ai⟩:=ai;split at ai
  ·simp at ai
  ·rename_i bQ;(obtain rfl:s=sz:=by simpa using bQ);split at ai
   ·simp only [si] at ai;obtain ⟨h,bD,l,ao,ai⟩:=ai;cases iY with
    | some _=>simp [eL] at eH
    | none =>
    cases ab with
    | ref id off len c sz b cap' af ak hle =>
      obtain ⟨q,q1,aW⟩:=hS (P:=P) (isS:=true) (cap:=cap') bD ao hle aS bh;split at ai
      ·rename_i GZ;simp at ai;subst ai
       have:cap'≠l:=by omega
       refine ⟨_,by simp [Instr.sliceAt,Instr.slice,run_underlying a1,q,run_sizeOf ah,this,add_lit];rfl,.ref _ _ _ _ _ b _ af (fun n aI=>?_) (by omega),rfl⟩;simp only [sb] at aI;obtain ⟨g6,CO,rfl⟩:=aI;rw [ak g6 CO]
      ·simp at ai;subst ai;(obtain rfl:h=l:=by omega);refine ⟨_,by simp [Instr.sliceAt,Instr.slice,run_underlying a1,q,run_sizeOf ah];rfl,?_,rfl⟩;split
       ·exact Rel.empty _ (by simp) _ _ _ (by simp)
       ·simp only [add_lit];exact Rel.empty _ (by simp) _ _ _ (by simp)
   ·simp only [si] at ai;obtain ⟨m,hm,h,bD,l,ao,ai⟩:=ai;cases ab with
    | ref id off len c sz b cap' af ak hle =>
      obtain ⟨q,q1,aW,cC⟩:=x9 (P:=P) (isS:=true) (cap:=cap') hm rfl rfl bD ao hle aS bh eH;split at ai
      ·rename_i en;split at ai
       ·rename_i jQ;simp at ai;subst ai;refine ⟨_,by simp [Instr.sliceAt,Instr.slice,run_underlying a1,q,run_sizeOf ah,en];rfl,.ref _ _ _ _ _ b _ af (fun n aI=>by simpa [en] using aI) (by omega),rfl⟩
       ·simp at ai
      ·rename_i en;simp at ai;subst ai;exact ⟨_,by simp [Instr.sliceAt,Instr.slice,run_underlying a1,q,run_sizeOf ah,en,add_lit];rfl,.ref _ _ _ _ _ b _ af (fun n aI=>by simpa using aI) (by omega),rfl⟩
   ·simp at ai
 ·rename_i n e id off a1;simp only [si] at ai;obtain ⟨s,ah,ai⟩:=ai;split at ai
  ·simp only [si] at ai;obtain ⟨h,bD,l,ao,ai⟩:=ai;cases iY with
   | some _=>simp [eL] at eH
   | none =>
   cases ab with
   | ptr id off b af =>
     obtain ⟨q,q1,aW⟩:=hS (P:=P) (isS:=false) (cap:=n) bD ao (se _) aS bh;split at ai
     ·simp at ai
     ·rename_i en;simp at ai;subst ai;exact ⟨_,by simp [Instr.sliceAt,Instr.sureAddr,run_underlying a1,q,run_sizeOf ah,en,add_lit];rfl,.ref _ _ _ _ _ b _ af (fun n aI=>by simpa using aI) (by omega),rfl⟩
  ·simp at ai
 ·simp at ai
end
end Go.Proofs.Ytkoioidpbbbaiaa.Ab


namespace Go.Proofs.Ytkoioidpbbbaiaa.Ab
open Go
section
variable {P:Program} {B:Nat} {J:List Nat} {w:World} {H:List ar} {aa:Nat→Option aH} {S:Nat→Nat→Prop}
theorem gz.frame {ay:Nat→Option aH} {bU:List Nat} {S':Nat→Nat→Prop} {w':World} (bM:Ext J bU)
  (cl:∀ b o,S b o→S' b o∧w'.cell? ⟨b,o,none⟩=w.cell? ⟨b,o,none⟩) {id:Nat}
  (al:∀ b l,aa b=some l→(l=.obj id∨∃ j,l=.cell id j)→ay b=some l∧w'.heap[b]?=w.heap[b]?∧∀ o,S' b o→S b o)
  {o:ar} (h:gz aa J S w id o):gz ay bU S' w' id o:=by
 cases o with
 | dead=>trivial
 | cells l =>
   obtain ⟨b,cur,e,aA,aG,aT,bq,bf,bc⟩:=h;obtain ⟨aJ,aN,b'⟩:=al b _ aG (.inl rfl);refine ⟨b,cur,e,bM _ _ aA,aJ,aN.trans aT,bq,fun o ah=>bf o (b' o ah),fun j u v hu ad=>?_⟩;obtain ⟨a7,g6,a9,br⟩:=bc j u v hu ad;exact ⟨a7,g6,a9.mono bM cl,br.mono bM cl fun b af=>al b _ af (.inr ⟨j,rfl⟩)⟩
 | grow l gid z =>
   obtain ⟨b,cur,e,aA,aG,aT,bq,bf,bc,cap,da,du⟩:=h;obtain ⟨aJ,aN,b'⟩:=al b _ aG (.inl rfl);refine ⟨b,cur,e,bM _ _ aA,aJ,aN.trans aT,bq,fun o ah=>bf o (b' o ah),fun j u v hu ad=>?_,cap,bM _ _ da,du⟩;obtain ⟨a7,g6,a9,br⟩:=bc j u v hu ad;exact ⟨a7,g6,a9.mono bM cl,br.mono bM cl fun b af=>al b _ af (.inr ⟨j,rfl⟩)⟩
 | loop st cI fn T params assign body jA =>
   obtain ⟨aj,aY,b,L,aA,aG,aT,bq,bf,bc,da,du,dP⟩:=h;obtain ⟨aJ,aN,b'⟩:=al b _ aG (.inl rfl);exact ⟨aj,aY,b,L,bM _ _ aA,aJ,aN.trans aT,bq,bf,bc,da,fun i u v hu ad=>⟨(du i u v hu ad).1,(du i u v hu ad).2.mono bM cl⟩,dP⟩
 | map es clock =>
   obtain ⟨b,bA,aA,aG,aT,bq,bf,bc⟩:=h;obtain ⟨aJ,aN,b'⟩:=al b _ aG (.inl rfl)
   exact ⟨b,bA,bM _ _ aA,aJ,aN.trans aT,bq,fun o ah=>bf o (b' o ah),fun j i k v x hu ad =>
    let ⟨a7,a9,br,b5,dS⟩:=bc j i k v x hu ad;⟨a7,a9,br.mono bM cl,b5,dS.mono bM cl⟩⟩
 | iter m s e t =>
   obtain ⟨b,d',aA,aG,aT,bq,bf⟩:=h;obtain ⟨aJ,aN,b'⟩:=al b _ aG (.inl rfl);exact ⟨b,d',bM _ _ aA,aJ,bM _ _ aT,aN.trans bq,fun o ah=>bf o (b' o ah)⟩
theorem aK.frame {ay:Nat→Option aH} {S':Nat→Nat→Prop} {w':World} (ag:aK B aa J S w H) (az:bk aa S w ay S' w')
  (al:∀ b l,aa b=some l→((∃ id,l=.obj id)∨∃ id j,l=.cell id j)→ay b=some l∧w'.heap[b]?=w.heap[b]?∧∀ o,S' b o→S b o)
  (aF:∀ b o,S' b o→∃ v,w'.cell? ⟨b,o,none⟩=some v) (ba:∀ b l,ay b=some l→B≤b∧b<w'.heap.size):aK B ay J S' w' H :=
 ⟨ag.cH,fun id o aq=>(ag.obj id o aq).frame (Ext.refl J) az.set (fun b l af ao=>al b l af (by
  rcases ao with rfl | ⟨j,rfl⟩
  ·exact .inl ⟨id,rfl⟩
  ·exact .inr ⟨id,j,rfl⟩)),aF,ba,sX ag.cX az.size⟩
theorem aK.push (ag:aK B aa J S w H) (n:Nat) {o:ar} (aq:gz aa (J++[n]) S w H.length o):aK B aa (J++[n]) S w (H++[o]) where
 cH:=by simp [ag.cH]
 obj id cw h:=by
  rcases uJ id H.length with aR | rfl | GR
  ·rw [sj aR] at h;exact (ag.obj id cw h).frame (Ext.append J [n]) (fun b o ah=>⟨ah,rfl⟩) fun b l af _=>⟨af,rfl,fun o ah=>ah⟩
  ·simp at h;subst h;exact aq
  ·rw [sv (by omega)] at h
   have:id-H.length≠0:=by omega
   obtain ⟨k,al⟩:=Nat.exists_eq_succ_of_ne_zero this;rw [al] at h;simp at h
 cb:=ag.cb
 base:=ag.base
 cX:=ag.cX
theorem aK.oP (ag:aK B aa J S w H) {id:Nat} {l:List I} {g z:Nat} (aE:H[id]?=some (.grow l g z)):aK B aa J S w (H.set id (.cells l)):=by
 refine ⟨by simpa using ag.cH,fun bB o aq=>?_,ag.cb,ag.base,ag.cX⟩;by_cases ct:bB=id
 ·subst ct;rw [sm (sd.1 aE).1] at aq;cases aq;obtain ⟨b,cur,e,aA,aG,aT,bq,bf,bc,_⟩:=ag.obj bB _ aE;exact ⟨b,cur,e,aA,aG,aT,bq,bf,bc⟩
 ·rw [sf (Ne.symm ct)] at aq;exact ag.obj bB o aq
theorem aK.xS (ag:aK B aa J S w H) {id:Nat} {l:List I} {g z b cap:Nat} {cur:Array Value} {e:TypeId} (aE:H[id]?=some (.cells l)) (af:J[id]?=some b) (aO:J[g]?=some cap)
  (hm:cap≤maxLen) (bj:0<z) (ak:w.heap[b]?=some (.cells cur e (0,0))) (ah:cur.size=cap*z):aK B aa J S w (H.set id (.grow l g z)):=by
 refine ⟨by simpa using ag.cH,fun bB o aq=>?_,ag.cb,ag.base,ag.cX⟩;by_cases ct:bB=id
 ·subst ct;rw [sm (sd.1 aE).1] at aq;cases aq;obtain ⟨au,cur',cS,aA,aG,aT,bq,bf,bc⟩:=ag.obj bB _ aE;rw [af] at aA;cases aA;rw [ak] at aT;cases aT;exact ⟨b,cur,e,af,aG,ak,bq,bf,bc,cap,aO,hm,bj,ah⟩
 ·rw [sf (Ne.symm ct)] at aq;exact ag.obj bB o aq
def lay (aa:Nat→Option aH) (n:Nat) (l:aH):Nat→Option aH:=fun b=>if b=n then some l else aa b
theorem o4 (o:Obj) {b i:Nat} (af:b<w.heap.size):(w.alloc o).cell? ⟨b,i,none⟩=w.cell? ⟨b,i,none⟩:=by
 have:(w.alloc o).heap[b]?=w.heap[b]?:=heap_alloc_old w o b af
 unfold World.cell?;simp only [this]
theorem kv (ag:aK B aa J S w H) (o:Obj) (l:aH):bk aa S w (lay aa w.heap.size l) S (w.alloc o) where
 os:=rfl
 tape:=rfl
 output:=rfl
 size:=by simp
 cB b af _:=heap_alloc_old w o b af
 set b cw ah:=⟨ah,by obtain ⟨v,ad⟩:=ag.cb b cw ah;exact o4 o (mN ad)⟩
 fresh _ _ ah:=.inl ah
 own b af:=by
  unfold lay at af;split at af
  ·rename_i h;exact .inr (by omega)
  ·exact .inl af
theorem nR (ag:aK B aa J S w H) (o:Obj) (l:aH):aK B (lay aa w.heap.size l) J S (w.alloc o) H:=by
 have az:=kv ag o l;refine ag.frame az (fun b l' af _=>?_) (fun b cw ah=>?_) (fun b l' af=>?_)
 ·have:=(ag.base b l' af).2;exact ⟨by simp [lay,show b≠w.heap.size by omega,af],heap_alloc_old w o b this,fun o ah=>ah⟩
 ·obtain ⟨v,ad⟩:=ag.cb b cw ah;exact ⟨v,((az.set b cw ah).2).trans ad⟩
 ·unfold lay at af;split at af
  ·rename_i h;subst h;exact ⟨ag.cX,by simp⟩
  ·have:=ag.base b l' af;exact ⟨this.1,by simp;omega⟩
theorem ku (aa:Nat→Option aH) (S:Nat→Nat→Prop) (w:World):bk aa S w aa S w.drew :=
 ⟨rfl,rfl,rfl,se _,fun _ _ _=>rfl,fun _ _ h=>⟨h,rfl⟩,fun _ _ h=>.inl h,fun _ h=>.inl h⟩
theorem mw (ag:aK B aa J S w H):aK B aa J S w.drew H :=
 ag.frame (ku aa S w) (fun _ _ af _=>⟨af,rfl,fun _ h=>h⟩) ag.cb ag.base
theorem mT (ag:aK B aa J S w H) (o:Nat):¬ S w.heap.size o:=fun ah=>by
 obtain ⟨v,ad⟩:=ag.cb _ o ah;exact absurd (mN ad) (Nat.lt_irrefl _)
structure c2 (J:List Nat) (S:Nat→Nat→Prop) (w:World) (cs:List I) (vs:List Value):Prop where
 len:cs.length=vs.length
 rel:∀ (j:Nat) (u:I) (v:Value),cs[j]?=some u→vs[j]?=some v→u.plain=true∧v.oneCell'=true∧Rel J S w u v
theorem c2.mono {bU:List Nat} {S':Nat→Nat→Prop} {w':World} {cs:List I} {vs:List Value} (h:c2 J S w cs vs) (bM:Ext J bU)
  (cl:∀ b o,S b o→S' b o∧w'.cell? ⟨b,o,none⟩=w.cell? ⟨b,o,none⟩):c2 bU S' w' cs vs :=
 ⟨h.len,fun j u v hu ad=>let ⟨a,b,c⟩:=h.rel j u v hu ad;⟨a,b,c.mono bM cl⟩⟩
theorem c2.append {a b:List I} {c d:List Value} (h:c2 J S w a c) (k:c2 J S w b d):c2 J S w (a++b) (c++d):=by
 refine ⟨by simp [h.len,k.len],fun j u v hu ad=>?_⟩;rcases sQ j a.length with aw | aw
 ·rw [sj aw] at hu;rw [sj (h.len ▸ aw)] at ad;exact h.rel j u v hu ad
 ·rw [sv aw] at hu;rw [sv (h.len ▸ aw),←h.len] at ad;exact k.rel _ u v hu ad
theorem n' (ag:aK B aa J S w H) {cs:List I} {vs:List Value} (ak:c2 J S w cs vs) (spare:List Value) (e:TypeId) (len cap z:Nat) (bj:0<z) (ao:cs.length=len*z)
  (pv:len≤cap) (hm:cap≤maxLen) (ah:vs.length+spare.length=cap*z) :
  aZ B aa J S w H (.av cs len (.uniq z)) (.slice (some ⟨w.heap.size,0,none⟩) len cap) (w.alloc (.cells (vs++spare).toArray e)):=by
 have az:=kv ag (.cells (vs++spare).toArray e) .res;refine ⟨_,J,S,Ext.refl J,az,nR ag _ .res,.cM _ _ _ _ _ _,.inr ⟨by simp [lay],rfl,pv,hm,bj,ao,⟨_,e,heap_alloc_new w _,by simp [ah],fun j u v hu ad=>?_⟩,mT ag⟩⟩;have aw:j<vs.length:=ak.len ▸ (sd.1 hu).1;have bg:vs[j]?=some v:=by simpa [sj aw] using ad
 obtain ⟨a,b,c⟩:=ak.rel j u v hu bg;exact ⟨a,b,c.mono (Ext.refl J) az.set⟩
end
end Go.Proofs.Ytkoioidpbbbaiaa.Ab


namespace Go.Proofs.Ytkoioidpbbbaiaa.Ab
open Go
section
variable {P:Program} {B:Nat} {J:List Nat} {w:World} {H:List ar} {aa:Nat→Option aH} {S:Nat→Nat→Prop}
theorem A3 {t:TypeId} {cs:List I} {b base off:Nat} {g:Nat→Value} {r:I}
  (ak:∀ (j:Nat) (u:I),cs[j]?=some u→w.cell? ⟨b,base+j,none⟩=some (g j)∧(g j).oneCell'=true∧Rel J S w u.view (g j)) (ai:e3 P t cs off=some r) :
  ∃ v,(loadVar t ⟨b,base+off,none⟩).run P w=.ok v w∧Rel J S w r v∧r.plain=true:=by
 unfold e3 at ai;cases cm:dH P t with
 | true =>
   obtain ⟨d,a1⟩:=zA cm;rw [cm] at ai;simp only [si] at ai;obtain ⟨s,ah,ai⟩:=ai;split at ai
   ·rename_i hle;simp only [Option.some.injEq] at ai;subst ai;have bx:∀ j,j<s→w.cell? ((⟨b,base+off,none⟩:Addr).add j)=some (g (off+j)):=fun j aw=>by
     (have aR:off+j<cs.length:=by omega);rw [add_lit,tg];exact (ak (off+j) _ (sk aR)).1
    have ao:=run_loadCells (P:=P) (w:=w) ⟨b,base+off,none⟩ s (fun j=>g (off+j)) bx;refine ⟨_,by simp only [loadVar,Sem.run_bind,gX a1,cm,Result.andThen_ok,if_true,run_sizeOf ah,ao];rfl,.agg _ _ ?_ ?_ ?_ ?_,rfl⟩
    ·simp;omega
    ·intro u hu;obtain ⟨x,_,rfl⟩:=sD.1 hu;exact I.di x
    ·intro v ad;obtain ⟨j,aw,rfl⟩:=sD.1 ad;have aw:=List.mem_range.1 aw;(have aR:off+j<cs.length:=by omega);exact (ak (off+j) _ (sk aR)).2.1
    ·intro j u v hu ad;simp only [sq,sb] at hu;obtain ⟨x,aj,rfl⟩:=hu;rw [sL] at aj;split at aj
     ·rename_i aw;rw [sU] at aj;simp [aw] at ad;subst ad;exact (ak (off+j) x aj).2.2
     ·simp at aj
   ·simp at ai
 | false =>
   rw [cm] at ai;simp only at ai;split at ai
   ·rename_i d a1;simp only [sb] at ai;obtain ⟨u,hu,rfl⟩:=ai;obtain ⟨ab,ae,aF⟩:=ak off u hu;exact ⟨g off,by simp [loadVar,gX a1,cm,load,Sem.run,ab],aF,I.di u⟩
   ·simp at ai
theorem jh (ag:aK B aa J S w H) {t:TypeId} {a r:I} {v:Value} (ai:dv P H t a=some r) (ab:Rel J S w a v) :
  ∃ x,(Instr.loadAt t v).run P w=.ok x w∧Rel J S w r x∧r.plain=true:=by
 unfold dv at ai;split at ai
 ·rename_i id off
  have key:∀ l:List I,(∃ b cur e,J[id]?=some b∧aa b=some (.obj id)∧w.heap[b]?=some (.cells cur e (0,0))∧l.length≤cur.size∧(∀ o,¬ S b o) ∧
    ∀ (j:Nat) (u:I) (v:Value),l[j]?=some u→cur[j]?=some v→u.cT=true∧v.oneCell'=true∧Rel J S w u v∧aU aa J S w (.cell id j) u v)→e3 P t l off=some r →
    ∃ x,(Instr.loadAt t v).run P w=.ok x w∧Rel J S w r x∧r.plain=true:=by
   rintro l ⟨b,cur,e,aA,aG,aT,bq,bf,bc⟩ ai;cases ab with
   | ptr id off au af =>
     rw [aA] at af;cases af;have facts:∀ (j:Nat) (u:I),l[j]?=some u→w.cell? ⟨b,0+j,none⟩=some (cur.getD j undef)∧(cur.getD j undef).oneCell'=true∧Rel J S w u.view (cur.getD j undef):=by
      intro j u hu;(have aw:j<cur.size:=by have:=(sd.1 hu).1;omega);have c5:cur[j]?=some cur[j]:=su _;obtain ⟨a7,g6,a9,_⟩:=bc j u _ hu c5;(have aO:cur.getD j undef=cur[j]:=by simp [Array.getD,aw]);rw [aO];exact ⟨by rw [cell_of_row w b _ cur e (0,0) aT,sG,c5],g6,a9.view a7⟩
     obtain ⟨x,aj,b1⟩:=A3 facts ai;rw [sG] at aj;exact ⟨x,by simp [Instr.loadAt,Instr.sureAddr,aj],b1⟩
  split at ai
  ·rename_i l aE;exact key l (ag.obj id _ aE) ai
  ·rename_i l g z aE;obtain ⟨b,cur,e,aA,aG,aT,bq,bf,bc,_⟩:=ag.obj id _ aE;exact key l ⟨b,cur,e,aA,aG,aT,bq,bf,bc⟩ ai
  ·simp at ai
 ·cases ab with
  | bR cells b o f h fq =>
    obtain ⟨x,aj,b1⟩:=A3 (J:=J) (S:=S) (w:=w) (b:=b) (base:=o) (g:=f) (fun j u hu=>⟨(h j u hu).2.1,(h j u hu).2.2.2,(fq j u hu).view (I.fu (h j u hu).2.2.1)⟩) ai;rw [tj] at aj;exact ⟨x,by simp [Instr.loadAt,Instr.sureAddr,aj],b1⟩
 ·simp at ai
theorem o5 (ag:aK B aa J S w H) {l:aH} (n1:∀ id,l≠.obj id) (n2:∀ id j,l≠.cell id j) {u:I} {v:Value} {vc:List I} (ak:u.cells=some vc) (ai:Rel J S w u v) (aq:aU aa J S w l u v) :
  ∃ S':Nat→Nat→Prop,(∀ b o,S b o→S' b o)∧(∀ b o,S' b o→S b o∨aa b=some l)∧aK B aa J S' w H∧v.cells.size=vc.length ∧
    (∀ x∈v.cells.toList,x.oneCell'=true) ∧
    ∀ (j:Nat) (bG:I) (bn:Value),(vc.map I.settle)[j]?=some bG→v.cells[j]?=some bn→bG.cT=true∧Rel J S' w bG bn∧(bG.plain=true∨(j=0∧vc=[u]∧aU aa J S' w l bG bn)):=by
 have single:vc=[u]→v.cells=#[v]→v.oneCell'=true→∃ S':Nat→Nat→Prop,(∀ b o,S b o→S' b o)∧(∀ b o,S' b o→S b o∨aa b=some l)∧aK B aa J S' w H∧v.cells.size=vc.length ∧
   (∀ x∈v.cells.toList,x.oneCell'=true) ∧
   ∀ (j:Nat) (bG:I) (bn:Value),(vc.map I.settle)[j]?=some bG→v.cells[j]?=some bn→bG.cT=true∧Rel J S' w bG bn∧(bG.plain=true∨(j=0∧vc=[u]∧aU aa J S' w l bG bn)):=by
  intro fL ad ab;subst fL;rw [ad];by_cases hu:u.cT=true
  ·refine ⟨S,fun _ _ h=>h,fun _ _ h=>.inl h,ag,rfl,by simp [ab],fun j bG bn aw ec=>?_⟩;have ah:u.settle=u:=by
    unfold I.settle;split
    ·simp [I.cT] at hu
    ·rfl
   cases j with
   | zero=>simp [ah] at aw ec;subst aw ec;exact ⟨hu,ai,.inr ⟨rfl,rfl,aq⟩⟩
   | succ j=>simp at aw
  ·obtain ⟨cells,len,z,rfl⟩:∃ cells len z,u=.av cells len (.uniq z):=by
    unfold I.cT at hu;split at hu
    ·exact ⟨_,_,_,rfl⟩
    ·simp at hu
   obtain ⟨a4,aJ,aN,b',_,bh,eH⟩:=kc ag ai aq;refine ⟨a4,aJ,aN,ag.settle aJ (fun b o h=>(aN b o h).imp id fun h=>⟨_,h,n1,n2⟩) b',rfl,by simp [ab],fun j bG bn aw ec=>?_⟩;cases j with
   | zero=>simp [I.settle] at aw ec;subst aw ec;exact ⟨rfl,bh,.inr ⟨rfl,rfl,eH⟩⟩
   | succ j=>simp at aw
 cases ai with
 | agg as vs h p one r =>
   simp [I.cells] at ak;subst ak;refine ⟨S,fun _ _ h=>h,fun _ _ h=>.inl h,ag,h,one,fun j bG bn aw ec=>?_⟩;simp only [sq,sb] at aw;obtain ⟨x,aj,rfl⟩:=aw;have aB:=p x (sy aj);have ah:x.settle=x:=by
    unfold I.settle;split
    ·simp [I.plain] at aB
    ·rfl
   rw [ah];exact ⟨I.fu aB,r j x bn aj ec,.inl aB⟩
 | a0 v=>simp [I.cells] at ak
 | tuple as vs h p r=>simp [I.cells] at ak
 | raw=>simp [I.cells] at ak
 | c0=>simp [I.cells] at ak
 | _=>simp [I.cells] at ak;exact single ak.symm rfl rfl
theorem Ext.last (ag:aK B aa J S w H) (n:Nat):(J++[n])[H.length]?=some n:=by rw [←ag.cH];simp
theorem n_ (ag:aK B aa J S w H) (l:aH) (n1:∀ id,l≠.obj id) (n2:∀ id j,l≠.cell id j) {cs:List I} {vs:Array Value} (e:TypeId) (hlen:cs.length≤vs.size)
  (ak:∀ (j:Nat) (u:I) (v:Value),cs[j]?=some u→vs[j]?=some v→u.cT=true∧v.oneCell'=true∧Rel J S w u v∧(u.plain=true∨(j=0∧aU aa J S w l u v))) :
  ∃ ay,bk aa S w ay S (w.alloc (.cells vs e))∧aK B ay (J++[w.heap.size]) S (w.alloc (.cells vs e)) (H++[.cells cs]):=by
 classical
 let ay:Nat→Option aH:=fun b=>if b=w.heap.size then some (.obj H.length) else if aa b=some l then some (.cell H.length 0) else aa b
 have bI:∀ b l',aa b=some l'→b≠w.heap.size:=fun b l' h=>by have:=(ag.base b l' h).2;omega
 have az:bk aa S w ay S (w.alloc (.cells vs e)):=by
  have f_:=kv ag (.cells vs e) (.obj H.length);refine ⟨f_.os,f_.tape,f_.output,f_.size,f_.cB,f_.set,f_.fresh,fun b af=>?_⟩;by_cases h:b=w.heap.size
  ·exact .inr (by omega)
  ·refine .inl fun aQ=>af ?_;simp [ay,h,aQ]
 have bV:aK B ay J S (w.alloc (.cells vs e)) H:=by
  refine ag.frame az (fun b l' af ao=>?_) (fun b o ah=>?_) (fun b l' af=>?_)
  ·have h:=bI b l' af;(have c8:l'≠l:=by rcases ao with ⟨id,rfl⟩ | ⟨id,j,rfl⟩ <;> intro e <;> first | exact n1 _ e.symm | exact n2 _ _ e.symm);refine ⟨?_,heap_alloc_old w _ b (ag.base b l' af).2,fun o ah=>ah⟩;simp [ay,h,af,c8]
  ·obtain ⟨v,ad⟩:=ag.cb b o ah;exact ⟨v,((az.set b o ah).2).trans ad⟩
  ·by_cases h:b=w.heap.size
   ·subst h;exact ⟨ag.cX,by simp⟩
   ·have:∃ cu,aa b=some cu:=by
     cases aQ:aa b with
     | none=>simp [ay,h,aQ] at af
     | some cu=>exact ⟨cu,rfl⟩
    obtain ⟨cu,aQ⟩:=this;have:=ag.base b cu aQ;exact ⟨this.1,by simp;omega⟩
 refine ⟨ay,az,bV.push w.heap.size ⟨w.heap.size,vs,e,Ext.last ag _,by simp [ay],heap_alloc_new w _,hlen,mT ag,fun j u v hu ad=>?_⟩⟩;obtain ⟨a7,a9,br,b5⟩:=ak j u v hu ad;refine ⟨a7,a9,br.mono (Ext.append J _) az.set,?_⟩;rcases b5 with b5 | ⟨rfl,b5⟩
 ·exact aU.b3 b5
 ·refine b5.mono (Ext.append J _) az.set fun b af=>⟨?_,heap_alloc_old w _ b (ag.base b l af).2,fun o ah=>ah⟩;simp [ay,bI b l af,af]
theorem FN (ag:aK B aa J S w H) {l:aH} (n1:∀ id,l≠.obj id) (n2:∀ id j,l≠.cell id j) {u:I} {v:Value} {vc:List I} (ak:u.cells=some vc) (ai:Rel J S w u v) (aq:aU aa J S w l u v) (e:TypeId) :
  ∃ x w',(Instr.box e v).run P w=.ok x w'∧aZ B aa J S w (H++[.cells (vc.map I.settle)]) (.ptr H.length 0) x w':=by
 obtain ⟨S',aJ,aN,b7,bQ,eo,cY⟩:=o5 ag n1 n2 ak ai aq
 obtain ⟨ay,az,jF⟩:=n_ (cs:=vc.map I.settle) (vs:=v.cells) b7 l n1 n2 e (by simp [bQ]) (fun j bG bn hu ad=>by
  obtain ⟨aA,aG,aT⟩:=cY j bG bn hu ad
  exact ⟨aA,eo bn (by simpa using ux ad),aG,aT.imp id fun ⟨x,_,y⟩=>⟨x,y⟩⟩)
 refine ⟨.pointer (some ⟨w.heap.size,0,none⟩),w.alloc (.cells v.cells e),?_,ay,_,S',Ext.append J _,(bk.settle aJ (fun b o h=>(aN b o h).imp id fun h=>⟨_,h⟩)).trans az,jF,
  .ptr _ _ _ (Ext.last ag _),aU.b3 rfl⟩
 simp [Instr.box,newVar,newRow,newObj,Sem.run,World.alloc_eq]
theorem FO (ag:aK B aa J S w H) {u:I} {v:Value} {vc:List I} (ak:u.cells=some vc) (aB:vc.all I.plain=true) (ai:Rel J S w u v) (e:TypeId) :
  ∃ x w',(Instr.box e v).run P w=.ok x w'∧aZ B aa J S w H (.bR vc) x w':=by
 rw [sr] at aB;have CQ:v.cells.size=vc.length∧(∀ x∈v.cells.toList,x.oneCell'=true)∧∀ (j:Nat) (bG:I) (bn:Value),vc[j]?=some bG→v.cells[j]?=some bn→Rel J S w bG bn:=by
  have single:vc=[u]→v.cells=#[v]→v.oneCell'=true→v.cells.size=vc.length∧(∀ x∈v.cells.toList,x.oneCell'=true)∧∀ (j:Nat) (bG:I) (bn:Value),vc[j]?=some bG→v.cells[j]?=some bn→Rel J S w bG bn:=by
   intro fL ad ab;subst fL;rw [ad];refine ⟨rfl,by simp [ab],fun j bG bn aw ec=>?_⟩;cases j with
   | zero=>simp at aw ec;subst aw ec;exact ai
   | succ j=>simp at aw
  cases ai with
  | agg as vs h p one r =>
    simp [I.cells] at ak;subst ak;exact ⟨h,one,r⟩
  | a0 v=>simp [I.cells] at ak
  | tuple as vs h p r=>simp [I.cells] at ak
  | raw=>simp [I.cells] at ak
  | c0=>simp [I.cells] at ak
  | _=>simp [I.cells] at ak;exact single ak.symm rfl rfl
 obtain ⟨bQ,eo,cY⟩:=CQ
 let S':Nat→Nat→Prop:=fun b o=>S b o∨(b=w.heap.size∧o<vc.length)
 have hnew:(w.alloc (.cells v.cells e)).heap[w.heap.size]?=some (.cells v.cells e (0,0)):=heap_alloc_new w _;have bx:∀ o,(w.alloc (.cells v.cells e)).cell? ⟨w.heap.size,o,none⟩=v.cells[o]?:=fun o=>cell_of_row _ _ o v.cells e (0,0) hnew;have hold:∀ b o,S b o→(w.alloc (.cells v.cells e)).cell? ⟨b,o,none⟩=w.cell? ⟨b,o,none⟩:=fun b o ah=>by
  obtain ⟨x,aj⟩:=ag.cb b o ah;exact o4 _ (mN aj)
 have az:bk aa S w aa S' (w.alloc (.cells v.cells e)):=by
  refine ⟨rfl,rfl,rfl,by simp,fun b af _=>heap_alloc_old w _ b af,fun b o ah=>⟨.inl ah,hold b o ah⟩,fun b o ah=>?_,fun b af=>.inl af⟩;rcases ah with ah | ⟨rfl,_⟩
  ·exact .inl ah
  ·exact .inr (.inr (se _))
 refine ⟨.pointer (some ⟨w.heap.size,0,none⟩),w.alloc (.cells v.cells e),by simp [Instr.box,newVar,newRow,newObj,Sem.run,World.alloc_eq],aa,J,S',Ext.refl J,az,ag.frame az (fun b l af _=>?_) (fun b o ah=>?_) (fun b l af=>?_),
  .bR _ _ _ (fun j=>v.cells.getD j undef) (fun j bG aw=>?_) (fun j bG aw=>?_),aU.b3 rfl⟩
 ·have aR:=(ag.base b l af).2;exact ⟨af,heap_alloc_old w _ b aR,fun o ah=>ah.resolve_right fun h=>by omega⟩
 ·rcases ah with ah | ⟨rfl,aq⟩
  ·obtain ⟨x,aj⟩:=ag.cb b o ah;exact ⟨x,(hold b o ah).trans aj⟩
  ·exact ⟨_,(bx o).trans (su (by omega))⟩
 ·have:=ag.base b l af;exact ⟨this.1,by simp;omega⟩
 ·have aR:=(sd.1 aw).1;have ec:v.cells[j]?=some (v.cells.getD j undef):=by simp [Array.getD,bQ,aR]
  rw [sG];exact ⟨.inr ⟨rfl,aR⟩,(bx j).trans ec,aB bG (sy aw),eo _ (by simpa using ux ec)⟩
 ·have aR:=(sd.1 aw).1;have ec:v.cells[j]?=some (v.cells.getD j undef):=by simp [Array.getD,bQ,aR]
  exact (cY j bG _ aw ec).mono (Ext.refl J) az.set
theorem GH {t:TypeId} {z:List I} (h:zeroCells P t=some z):∃ i v,P.info? t=some i∧i.zero=some v∧z=v.cells.toList.map hE∧∀ x∈v.cells.toList,x.oneCell'=true:=by
 simp only [zeroCells,si] at h;obtain ⟨v,⟨i,hi,ad⟩,h⟩:=h;split at h
 ·rename_i cY;simp at h;exact ⟨i,v,hi,ad,h.symm,sr.1 cY⟩
 ·simp at h
theorem hA {t:TypeId} {z:List I} (h:zeroCells P t=some z):∃ i v,P.info? t=some i∧i.zero=some v∧c2 J S w z v.cells.toList:=by
 obtain ⟨i,v,hi,ad,rfl,eo⟩:=GH h;refine ⟨i,v,hi,ad,by simp,fun j u bn hu bg=>?_⟩;simp only [sq,bg,sg,Option.some.injEq] at hu;subst hu;exact ⟨np _,eo bn (sy bg),lL _ _ _ _⟩
theorem ji {t:TypeId} {i:TypeInfo} {v:Value} (hi:P.info? t=some i) (ad:i.zero=some v):(zeroValue t).run P w=.ok v w:=by
 simp [zeroValue,typeInfo,hi,ad]
theorem FJ (ag:aK B aa J S w H) {t:TypeId} {z:List I} (bj:zeroCells P t=some z) (fQ:Value) :
  ∃ x w',(Instr.alloc t true fQ).run P w=.ok x w'∧aZ B aa J S w (H++[.cells z]) (.ptr H.length 0) x w':=by
 obtain ⟨i,v,hi,ad,ak⟩:=hA (J:=J) (S:=S) (w:=w) bj
 obtain ⟨ay,az,b7⟩:=n_ (cs:=z) (vs:=v.cells) ag .res (by simp) (by simp) t (by have:=ak.len;simp at this;omega) (fun j u bn hu bg=>by
  obtain ⟨a,b,c⟩:=ak.rel j u bn hu (by simpa using bg)
  exact ⟨I.fu a,b,c,.inl a⟩)
 refine ⟨.pointer (some ⟨w.heap.size,0,none⟩),w.alloc (.cells v.cells t),?_,ay,_,S,Ext.append J _,az,b7,.ptr _ _ _ (Ext.last ag _),aU.b3 rfl⟩;cases fQ <;> simp [Instr.alloc,ji hi ad,newVar,newRow,newObj,Sem.run,World.alloc_eq]
theorem FK (ag:aK B aa J S w H) {t:TypeId} {s:Nat} (bj:zeroCells P t=some [.av [] 0 .full]) (fQ:Value) :
  ∃ x w',(Instr.alloc t true fQ).run P w=.ok x w'∧aZ B aa J S w (H++[.cells [.av [] 0 (.own s)]]) (.ptr H.length 0) x w':=by
 obtain ⟨i,v,hi,ad,ak⟩:=hA (J:=J) (S:=S) (w:=w) bj
 obtain ⟨ay,az,b7⟩:=n_ (cs:=[.av [] 0 (.own s)]) (vs:=v.cells) ag .res (by simp) (by simp) t (by have:=ak.len;simp at this;simp;omega) (fun j u bn hu bg=>by
  cases j with
  | succ j=>simp at hu
  | zero =>
    simp at hu;subst hu;obtain ⟨a,b,c⟩:=ak.rel 0 _ bn rfl (by simpa using bg);refine ⟨rfl,b,?_,.inr ⟨rfl,?_⟩⟩
    ·cases c with
     | b2 _ a=>exact .b2 _ a
     | av _ _ _ bl o cap f ak hle hu h ai=>exact .av _ _ _ bl o cap f (fun h=>by cases h) hle (fun z h=>by cases h) h ai
    ·cases c with
     | b2 _ a=>cases a with
       | none=>trivial
       | some a=>exact .inl ⟨rfl,rfl,rfl⟩
     | av _ _ _ b o cap f ak hle hu h ai=>exact .inl ⟨rfl,ak rfl,rfl⟩)
 refine ⟨.pointer (some ⟨w.heap.size,0,none⟩),w.alloc (.cells v.cells t),?_,ay,_,S,Ext.append J _,az,b7,.ptr _ _ _ (Ext.last ag _),aU.b3 rfl⟩;cases fQ <;> simp [Instr.alloc,ji hi ad,newVar,newRow,newObj,Sem.run,World.alloc_eq]
theorem iu (z:List I):∀ n,(e7 n z).length=n*z.length
 | 0=>by simp [e7]
 | n+1=>by simp [e7,iu z n,uy,ti]
theorem Ay (z:List I):∀ (n j:Nat),j<n*z.length→(e7 n z)[j]?=z[j % z.length]?
 | 0,j,h=>by simp at h
 | n+1,j,h=>by
   simp only [e7];rcases sQ j z.length with aw | aw
   ·rw [sj aw,Nat.mod_eq_of_lt aw]
   ·rw [sv aw,Ay z n _ (by rw [uy] at h;omega),Nat.mod_eq_sub_mod aw]
theorem nd {z:List I} {gu:Array Value} (h:c2 J S w z gu.toList) (bj:0<z.length) (n:Nat) :
  c2 J S w (e7 n z) ((Array.range (n*z.length)).map (fun i=>gu[i % gu.size]!)).toList:=by
 have ao:z.length=gu.size:=by simpa using h.len
 refine ⟨by simp [iu],fun j u v hu ad=>?_⟩;have aw:j<n*z.length:=by have:=(sd.1 hu).1;rwa [iu] at this
 rw [Ay z n j aw] at hu;have hm:j % z.length<z.length:=Nat.mod_lt _ bj;refine h.rel (j % z.length) u v hu ?_;simp [aw] at ad;rw [←ao] at ad;have nL:j % z.length<gu.size:=ao ▸ hm;rw [getElem!_pos gu _ nL] at ad;simp [nL,ad]
theorem iw {n bytes:Nat} (h:fv n bytes=true):n*bytes≤140737488355328∧1≤bytes:=by
 simpa [fv] using h
theorem F4 (ag:aK B aa J S w H) {t:TypeId} {n c:Int} {k k':IntKind} {z:List I} {sz:Nat} (aQ:0≤n) (iU:n≤c) (bj:js P t c.toNat=some (z,sz)) :
  ∃ x w',(Instr.makeSlice t (.int k n) (.int k' c)).run P w=.ok x w'∧aZ B aa J S w (H++[.cells z]) (.ref H.length 0 n.toNat (some c.toNat) sz) x w':=by
 unfold js at bj;split at bj
 ·rename_i e he;split at bj
  ·rename_i s lD bytes ah xk af;split at bj
   ·rename_i ak;obtain ⟨jJ,h5,ps⟩:=ak;simp only [Option.some.injEq,Prod.mk.injEq] at bj;obtain ⟨rfl,rfl⟩:=bj;obtain ⟨i,v,hi,ad,eB⟩:=hA (J:=J) (S:=S) (w:=w) xk;simp only [hi,sg,Option.some.injEq] at af;subst af;obtain ⟨aS,bh⟩:=iw ps;have fM:=nd eB (by omega) c.toNat;have pw:c.toNat≤140737488355328:=sX (tQ _ bh) aS;(have er:lD.length=v.cells.size:=by simpa using eB.len);(have bQ:i.size=s:=by obtain ⟨jZ,hi',h⟩:=m' ah;rw [hi] at hi';cases hi';exact h);have mc:(i.bytes:Int)*c≤281474976710656:=by
     have:(i.bytes:Int)*c=((c.toNat*i.bytes:Nat):Int):=by rw [uL,vo (by omega),vp]
     rw [this];omega
    have dJ:=run_make (P:=P) w t e i v he hi ad k k' n c aQ iU mc (by omega);have pO:(madeCells v.cells (c.toNat*i.size)).toList=((Array.range (c.toNat*lD.length)).map (fun i=>v.cells[i % v.cells.size]!)).toList:=by
     rw [bQ,←jJ];rfl
    rw [←pO] at fM
    obtain ⟨ay,az,b7⟩:=n_ (cs:=e7 c.toNat lD) (vs:=madeCells v.cells (c.toNat*i.size)) ag .res (by simp) (by simp) e (by have:=fM.len;simp at this ⊢;omega) (fun j u bn hu bg=>by
     obtain ⟨a,b,c⟩:=fM.rel j u bn hu (by simpa using bg)
     exact ⟨I.fu a,b,c,.inl a⟩)
    exact ⟨_,_,dJ,ay,_,S,Ext.append J _,az,b7,.ref _ _ _ _ _ _ _ (Ext.last ag _) (fun m hm=>by simpa using hm) (by omega),aU.b3 rfl⟩
   ·simp at bj
  ·simp at bj
 ·simp at bj
theorem F5 (ag:aK B aa J S w H) {t:TypeId} {c:Int} {k k':IntKind} {z:List I} {sz:Nat} (aQ:0≤c) (bj:js P t c.toNat=some (z,sz)) :
  ∃ x w',(Instr.makeSlice t (.int k c) (.int k' c)).run P w=.ok x w'∧aZ B aa J S w H (.av z c.toNat (.uniq sz)) x w':=by
 unfold js at bj;split at bj
 ·rename_i e he;split at bj
  ·rename_i s lD bytes ah xk af;split at bj
   ·rename_i ak;obtain ⟨jJ,h5,ps⟩:=ak;simp only [Option.some.injEq,Prod.mk.injEq] at bj;obtain ⟨rfl,rfl⟩:=bj;obtain ⟨i,v,hi,ad,eB⟩:=hA (J:=J) (S:=S) (w:=w) xk;simp only [hi,sg,Option.some.injEq] at af;subst af;obtain ⟨aS,bh⟩:=iw ps;have fM:=nd eB (by omega) c.toNat;have pw:c.toNat≤140737488355328:=sX (tQ _ bh) aS;(have er:lD.length=v.cells.size:=by simpa using eB.len);(have bQ:i.size=s:=by obtain ⟨jZ,hi',h⟩:=m' ah;rw [hi] at hi';cases hi';exact h);have mc:(i.bytes:Int)*c≤281474976710656:=by
     have:(i.bytes:Int)*c=((c.toNat*i.bytes:Nat):Int):=by rw [uL,vo (by omega),vp]
     rw [this];omega
    have dJ:=run_make (P:=P) w t e i v he hi ad k k' c c (by omega) (Int.le_refl _) mc (by omega);have pO:(madeCells v.cells (c.toNat*i.size)).toList=((Array.range (c.toNat*lD.length)).map (fun i=>v.cells[i % v.cells.size]!)).toList:=by
     rw [bQ,←jJ];rfl
    rw [←pO] at fM;have iV:=n' ag fM [] e c.toNat c.toNat s h5 (by rw [iu,jJ]) (se _) (by simp only [maxLen];omega) (by rw [←fM.len,iu,jJ];simp);simp only [sN,tJ] at iV;exact ⟨_,_,dJ,iV⟩
   ·simp at bj
  ·simp at bj
 ·simp at bj
end
end Go.Proofs.Ytkoioidpbbbaiaa.Ab


namespace Go.Proofs.Ytkoioidpbbbaiaa.Ab
open Go
section
variable {P:Program} {B:Nat} {J:List Nat} {w:World} {H:List ar} {aa:Nat→Option aH} {S:Nat→Nat→Prop}
theorem lq:∀ (vs:List I) (off:Nat) (cs:List I),(setCells off vs cs).length=cs.length
 | [],_,_=>rfl
 | v::vs,off,cs=>by simp [setCells,lq vs]
theorem m8:∀ (vs:List I) (off:Nat) (cs:List I) (j:Nat),off+vs.length≤cs.length →
  (setCells off vs cs)[j]?=if off≤j∧j<off+vs.length then vs[j-off]? else cs[j]?
 | [],off,cs,j,_=>by simp [setCells];omega
 | v::vs,off,cs,j,h=>by
   simp only [sM] at h;rw [setCells,m8 vs (off+1) _ j (by simp;omega)];by_cases ab:j=off
   ·subst ab
    have:¬ (j+1≤j∧j<j+1+vs.length):=by omega
    rw [if_neg this,if_pos (by simp)];simp [show j<cs.length by omega]
   ·by_cases ae:off+1≤j∧j<off+1+vs.length
    ·rw [if_pos ae,if_pos (by simp;omega)];obtain ⟨k,rfl⟩:∃ k,j=off+1+k:=⟨j-(off+1),by omega⟩;rw [show off+1+k-off=k+1 by omega,show off+1+k-(off+1)=k by omega];simp
    ·rw [if_neg ae,if_neg (by simp;omega)];rw [sf (fun e=>ab e.symm)]
theorem jj (cur vs:List Value) (off j:Nat) (h:off+vs.length≤cur.length) :
  (cur.take off++vs++cur.drop (off+vs.length))[j]?=if off≤j∧j<off+vs.length then vs[j-off]? else cur[j]?:=by
 have ax:(cur.take off).length=off:=by simp;omega
 by_cases ab:j<off
 ·rw [if_neg (by omega),sx,sj (by omega),sL,if_pos ab]
 ·by_cases ae:j<off+vs.length
  ·rw [if_pos ⟨by omega,ae⟩,sx,sv (by omega),ax,sj (by omega)]
  ·rw [if_neg (by omega),sv (by simp;omega)];simp only [sE,ax,sU];congr 1;omega
theorem od (ag:aK B aa J S w H) {id:Nat} {l l':List I} (aE:H[id]?=some (.cells l)) {b:Nat} {cur cur':Array Value} {e:TypeId} (aA:J[id]?=some b) (aG:aa b=some (.obj id))
  (aT:w.heap[b]?=some (.cells cur e (0,0))) (bf:∀ o,¬ S b o) (L:aH) (n1:∀ id,L≠.obj id) (n2:∀ id j,L≠.cell id j) (ao:l'.length≤cur'.size) (zC:Nat)
  (ak:∀ (j:Nat) (u:I) (v:Value),l'[j]?=some u→cur'[j]?=some v→u.cT=true∧v.oneCell'=true∧Rel J S w u v ∧
   (u.plain=true∨aU aa J S w (.cell id j) u v∨(j=zC∧aU aa J S w L u v))) :
  ∃ ay,bk aa S w ay S (w.setRow b cur')∧aK B ay J S (w.setRow b cur') (H.set id (.cells l')):=by
 classical
 let ay:Nat→Option aH:=fun au=>if aa au=some L then some (.cell id zC) else aa au
 have bx:∀ au o,au≠b→(w.setRow b cur').cell? ⟨au,o,none⟩=w.cell? ⟨au,o,none⟩:=fun au o h=>by
  unfold World.cell?;simp only [setRow_other w b au cur' h]
 have hG:∀ au o,S au o→au≠b:=fun au o ah e=>bf o (e ▸ ah);have y1:L≠.obj id:=n1 id;have jP:∀ au cu,aa au=some cu→cu≠L→ay au=some cu:=fun au cu h aI=>by
  have:¬ aa au=some L:=by rw [h];intro e;cases e;exact aI rfl
  simp [ay,h,aI]
 have bQ:(w.setRow b cur').heap.size=w.heap.size:=by simp [World.setRow]
 have az:bk aa S w ay S (w.setRow b cur'):=by
  refine ⟨rfl,rfl,rfl,by omega,fun au bu aI=>setRow_other w b au cur' (fun e=>by subst e;rw [aG] at aI;cases aI),fun au o ah=>⟨ah,bx au o (hG au o ah)⟩,fun au o ah=>.inl ah,fun au bu=>?_⟩;refine .inl fun aQ=>bu ?_;simp [ay,aQ]
 refine ⟨ay,az,by simpa using ag.cH,fun bB o aq=>?_,fun au o ah=>?_,fun au cu bu=>?_,by rw [bQ];exact ag.cX⟩
 ·by_cases hb:bB=id
  ·subst hb;rw [sm (sd.1 aE).1] at aq;cases aq;refine ⟨b,cur',e,aA,jP b _ aG (fun e=>y1 e.symm),setRow_heap w b cur cur' e (0,0) aT,ao,bf,fun j u v hu ad=>?_⟩;obtain ⟨a7,a9,br,b5⟩:=ak j u v hu ad;refine ⟨a7,a9,br.mono (Ext.refl J) az.set,?_⟩;rcases b5 with b5 | b5 | ⟨rfl,b5⟩
   ·exact aU.b3 b5
   ·exact b5.mono (Ext.refl J) az.set fun au bu=>⟨jP au _ bu (fun e=>n2 _ _ e.symm),setRow_other w b au cur' (fun e=>by subst e;rw [aG] at bu;cases bu),fun o ah=>ah⟩
   ·exact b5.mono (Ext.refl J) az.set fun au bu=>⟨by simp [ay,bu],setRow_other w b au cur' (fun e=>by subst e;rw [aG] at bu;cases bu;exact y1 rfl),fun o ah=>ah⟩
  ·rw [sf (fun e=>hb e.symm)] at aq;refine (ag.obj bB o aq).frame (Ext.refl J) az.set fun au cu bu jQ=>?_;have bI:au≠b:=fun e=>by
    subst e;rw [aG] at bu;cases bu;rcases jQ with h | ⟨j,h⟩
    ·cases h;exact hb rfl
    ·cases h
   exact ⟨jP au cu bu (by rcases jQ with rfl | ⟨j,rfl⟩ <;> intro e <;> first | exact n1 _ e.symm | exact n2 _ _ e.symm),setRow_other w b au cur' bI,fun o ah=>ah⟩
 ·obtain ⟨v,ad⟩:=ag.cb au o ah;exact ⟨v,(bx au o (hG au o ah)).trans ad⟩
 ·rw [bQ];by_cases h:aa au=some L
  ·exact ag.base au L h
  ·simp only [ay,h,if_false] at bu;exact ag.base au cu bu
theorem Bh (ag:aK B aa J S w H) {l:aH} (n1:∀ id,l≠.obj id) (n2:∀ id j,l≠.cell id j) {lo:Nat} {t:TypeId} {a u:I} {x v:Value} {H':List ar} (h:g5 P lo H t a u=some H')
  (cq:Rel J S w a x) (ai:Rel J S w u v) (aq:aU aa J S w l u v) (y:Value) :
  ∃ w',(Instr.storeAt t x v).run P w=.ok () w'∧aZ B aa J S w H' .a0 y w':=by
 have key:∀ {H H':List ar} (_:aK B aa J S w H) {id off s:Nat} (_:bE P t=some s) {vc:List I} (_:u.cells=some vc) {ll l':List I} (_:H[id]?=some (.cells ll))
   (_:(if vc.length=s∧off+s≤ll.length then some (setCells off (vc.map I.settle) ll) else none)=some l') (_:Rel J S w (.ptr id off) x) (_:H'=H.set id (.cells l')),
   ∃ w' b cur,(Instr.storeAt t x v).run P w=.ok () w'∧aZ B aa J S w H' .a0 y w'∧J[id]?=some b∧(∃ e,w.heap[b]?=some (.cells cur e (0,0)))∧∃ cur' e,w'.heap[b]?=some (.cells cur' e (0,0))∧cur'.size=cur.size:=by
  intro H H' ag id off s ah vc fL ll l' aE c8 cq b7;subst b7
  ·
     split at c8
     ·rename_i g';obtain ⟨a7,a9⟩:=g';simp only [Option.some.injEq] at c8;subst c8;obtain ⟨S',aJ,aN,b7,bQ,eo,cY⟩:=o5 ag n1 n2 fL ai aq;obtain ⟨b,cur,e,aA,aG,aT,bq,bf,bc⟩:=b7.obj id _ aE;cases cq with
      | ptr id off au af =>
        rw [aA] at af;cases af;have cG:=run_storeCells_at P b off e v.cells.toList 0 cur w aT (by simp [bQ];omega) eo;simp only [tj] at cG;obtain ⟨ay,az,jF⟩:=od (cur':=(cur.toList.take off++v.cells.toList++cur.toList.drop (off+v.cells.toList.length)).toArray) (l':=setCells off (vc.map I.settle) ll) b7 aE aA aG aT bf l n1 n2
         (by simp [lq,bQ];omega) off (fun j bG bn hu ad=>by
          rw [m8 _ _ _ _ (by simp;omega)] at hu;(have ad:(cur.toList.take off++v.cells.toList++cur.toList.drop (off+v.cells.toList.length))[j]?=some bn:=by simpa using ad);rw [jj _ _ _ _ (by simp [bQ];omega)] at ad;simp only [List.length_map,s7,bQ] at hu ad;split at hu
          ·rename_i aw;rw [if_pos aw] at ad;obtain ⟨d1,d2,d3⟩:=cY (j-off) bG bn hu (by simpa using ad);refine ⟨d1,eo bn (sy ad),d2,?_⟩;rcases d3 with d3 | ⟨d3,_,d4⟩
           ·exact .inl d3
           ·exact .inr (.inr ⟨by omega,d4⟩)
          ·rename_i aw;rw [if_neg aw] at ad;obtain ⟨d1,d0,d2,d3⟩:=bc j bG bn hu (by simpa using ad)
           exact ⟨d1,d0,d2,.inr (.inl d3)⟩)
        refine ⟨_,b,cur,?_,⟨ay,J,S',Ext.refl J,(bk.settle aJ (fun b o h=>(aN b o h).imp (fun h=>h) fun h=>⟨_,h⟩)).trans az,jF,.a0 y,aU.b3 rfl⟩,aA,⟨e,aT⟩,_,e,setRow_heap w b cur _ e (0,0) aT,?_⟩
        ·simp only [Instr.storeAt,Instr.sureAddr,storeVar,Sem.run_bind,Sem.run_pure,Result.andThen_ok,run_sizeOf ah];rw [if_neg (by rw [bQ,a7];simp)];exact cG
        ·simp [bQ];omega
     ·simp at c8
 unfold g5 at h;split at h
 ·rename_i id off s ah;split at h
  ·rename_i vc fL;unfold gQ at h;split at h
   ·split at h
    ·rename_i lo' ll aE;simp only [sb] at h;obtain ⟨l',c8,rfl⟩:=h;obtain ⟨w',_,_,q1,aW,_⟩:=key ag ah fL aE c8 cq rfl;exact ⟨w',q1,aW⟩
    ·rename_i lo' ll g z aE;simp only [sb] at h;obtain ⟨l',c8,rfl⟩:=h;have aR:=(sd.1 aE).1;obtain ⟨b,cur,e,aA,aG,aT,bq,bf,bc,cap,da,du,dP,gC⟩:=ag.obj id _ aE;obtain ⟨w',au,Ch,q1,⟨ay,bU,S',bT,b0,d_,fR⟩,cC,⟨f_,dD⟩,cur',cS,m2,xO⟩:=key (ag.oP aE) ah fL (ll:=ll) (by rw [sm aR]) c8 cq rfl;rw [aA] at cC;cases cC;rw [aT] at dD;cases dD;have aO:=d_.xS (g:=g) (z:=z) (by rw [sm (by simpa using aR)]) (bT _ _ aA) (bT _ _ da) du dP m2 (by rw [xO,gC]);rw [sY,sY] at aO;exact ⟨w',q1,ay,bU,S',bT,b0,aO,fR⟩
    ·simp at h
   ·simp at h
  ·simp at h
 ·simp at h
theorem Gc (ag:aK B aa J S w H) {l:aH} (n1:∀ id,l≠.obj id) (n2:∀ id j,l≠.cell id j) {lo:Nat} {t:TypeId} {a u:I} {x v:Value} {H':List ar} (h:lK P lo H t a u=some H')
  (cq:Rel J S w a x) (ai:Rel J S w u v) (aq:aU aa J S w l u v) (y:Value) :
  ∃ w',(Instr.storeAt t x v).run P w=.ok () w'∧aZ B aa J S w H' .a0 y w':=by
 unfold lK at h;split at h
 ·rename_i id off c n z ah;split at h
  ·rename_i ak;obtain ⟨aS,bh⟩:=Gq ak.2 ak.1 ai aq;unfold fP at h;split at h
   ·split at h
    ·rename_i lo' ll aE;simp only [sb] at h;obtain ⟨l',c8,rfl⟩:=h;split at c8
     ·rename_i cA;simp only [Option.some.injEq] at c8;subst c8;obtain ⟨b,cur,e,aA,aG,aT,bq,bf,bc⟩:=ag.obj id _ aE;cases cq with
      | ptr id off au af =>
        rw [aA] at af;cases af;(have eo:∃ b o cap,v=.slice (some ⟨b,o,none⟩) n cap:=by cases aS with | raw _ _ _ b o cap=>exact ⟨b,o,cap,rfl⟩);(have dV:v.cells=#[v]∧v.oneCell'=true:=by obtain ⟨b,o,cap,rfl⟩:=eo;exact ⟨rfl,rfl⟩);have cG:=run_storeCells_at P b off e v.cells.toList 0 cur w aT (by rw [dV.1];simp;omega) (by rw [dV.1];simp [dV.2]);simp only [tj,dV.1] at cG;obtain ⟨ay,az,jF⟩:=od (cur':=(cur.toList.take off++[v]++cur.toList.drop (off+1)).toArray) (l':=ll.set off (.raw c n z)) ag aE aA aG aT bf l n1 n2
         (by simp;omega) off (fun j bG bn hu ad=>by
          (have ad:(cur.toList.take off++[v]++cur.toList.drop (off+1))[j]?=some bn:=by simpa using ad);have dd:=jj cur.toList [v] off j (by simp;omega);simp only [List.length_singleton] at dd;rw [dd] at ad;by_cases aw:off=j
          ·subst aw;rw [sm cA] at hu;cases hu;rw [if_pos ⟨by omega,by omega⟩] at ad;simp at ad;subst ad;exact ⟨rfl,dV.2,aS,.inr (.inr ⟨rfl,bh⟩)⟩
          ·rw [sf aw] at hu;rw [if_neg (by omega)] at ad;obtain ⟨d1,d0,d2,d3⟩:=bc j bG bn hu (by simpa using ad)
           exact ⟨d1,d0,d2,.inr (.inl d3)⟩)
        refine ⟨_,?_,ay,J,S,Ext.refl J,az,jF,.a0 y,aU.b3 rfl⟩;simp only [Instr.storeAt,Instr.sureAddr,storeVar,Sem.run_bind,Sem.run_pure,Result.andThen_ok,run_sizeOf ah];rw [if_neg (by rw [dV.1];simp),dV.1];exact cG
     ·simp at c8
    ·simp at h
   ·simp at h
  ·simp at h
 ·simp at h
theorem Gb (ag:aK B aa J S w H) {l:aH} (n1:∀ id,l≠.obj id) (n2:∀ id j,l≠.cell id j) {lo:Nat} {t:TypeId} {a u:I} {x v:Value} {H':List ar} (h:lJ P lo H t a u=some H')
  (cq:Rel J S w a x) (ai:Rel J S w u v) (aq:aU aa J S w l u v) (y:Value) :
  ∃ w',(Instr.storeAt t x v).run P w=.ok () w'∧aZ B aa J S w H' .a0 y w':=by
 unfold lJ at h;split at h
 ·rename_i id off as c n z bs s ah;split at h
  ·rename_i GQ;unfold fP at h;split at h
   ·split at h
    ·rename_i lo' ll aE;simp only [sb] at h;obtain ⟨l',c8,rfl⟩:=h;split at c8
     ·rename_i cA;simp only [Option.some.injEq] at c8;subst c8;obtain ⟨b,cur,e,aA,aG,aT,bq,bf,bc⟩:=ag.obj id _ aE;cases cq with
      | ptr id off au af =>
        rw [aA] at af;cases af;cases ai with
        | c0 _ _ _ _ _ vs fr lh lj one om ro oo =>
          have jT:∀ v,vs[as.length]?=some v→gA aa S w l c n z v:=aq;have cG:=run_storeCells_at P b off e vs.toList 0 cur w aT (by simp;omega) one;simp only [tj] at cG;obtain ⟨ay,az,jF⟩:=od (cur':=(cur.toList.take off++vs.toList++cur.toList.drop (off+vs.toList.length)).toArray) (l':=setCells off (as++.av c n (.own z)::bs) ll) ag aE aA aG aT bf l n1 n2
           (by simp [lq];omega) (off+as.length) (fun j bG bn hu ad=>by
            rw [m8 _ _ _ _ (by simp;omega)] at hu;(have ad:(cur.toList.take off++vs.toList++cur.toList.drop (off+vs.toList.length))[j]?=some bn:=by simpa using ad);rw [jj _ _ _ _ (by simp;omega)] at ad;simp only [sE,sM,s7] at hu ad;split at hu
            ·rename_i aw;rw [if_pos (by omega)] at ad;(have ad:vs[j-off]?=some bn:=by simpa using ad);have ab:=one bn (by simpa using ux ad);rcases uJ (j-off) as.length with ae | ae | ae
             ·rw [sj ae] at hu;have aB:=lh bG (sy hu);exact ⟨I.fu aB,ab,om _ bG bn hu ad,.inl aB⟩
             ·rw [ae,sv (se _),tz] at hu;simp only [tK,Option.some.injEq] at hu;subst hu;rw [ae] at ad;exact ⟨rfl,ab,ro bn ad,.inr (.inr ⟨by omega,(jT bn ad).at⟩)⟩
             ·obtain ⟨k,al⟩:∃ k,j-off=as.length+1+k:=⟨j-off-(as.length+1),by omega⟩;rw [al,sv (by omega),show as.length+1+k-as.length=k+1 by omega,ug] at hu;rw [al] at ad;have aB:=lj bG (sy hu);exact ⟨I.fu aB,ab,oo _ bG bn hu ad,.inl aB⟩
            ·rename_i aw;rw [if_neg (by omega)] at ad;obtain ⟨d1,d0,d2,d3⟩:=bc j bG bn hu (by simpa using ad)
             exact ⟨d1,d0,d2,.inr (.inl d3)⟩)
          refine ⟨_,?_,ay,J,S,Ext.refl J,az,jF,.a0 y,aU.b3 rfl⟩;simp only [Instr.storeAt,Instr.sureAddr,storeVar,Sem.run_bind,Sem.run_pure,Result.andThen_ok,run_sizeOf ah];(have bQ:(Value.agg vs).cells.size=s:=by show vs.size=s;omega);rw [if_neg (by rw [bQ];simp)];exact cG
     ·simp at c8
    ·simp at h
   ·simp at h
  ·simp at h
 ·simp at h
theorem hP (ag:aK B aa J S w H) {l:aH} (n1:∀ id,l≠.obj id) (n2:∀ id j,l≠.cell id j) {u:I} {v:Value} (ai:Rel J S w u v) (aq:aU aa J S w l u v) :
  aZ B aa J S w H u v w:=by
 classical
 let ay:Nat→Option aH:=fun b=>if aa b=some l then some .res else aa b
 have az:bk aa S w ay S w:=⟨rfl,rfl,rfl,se _,fun _ _ _=>rfl,fun _ _ h=>⟨h,rfl⟩,fun _ _ h=>.inl h,fun b af=>.inl fun aQ=>af (by simp [ay,aQ])⟩;refine ⟨ay,J,S,Ext.refl J,az,ag.frame az (fun b l' af ao=>?_) ag.cb (fun b l' af=>?_),ai,aq.mono (Ext.refl J) az.set fun b af=>⟨by simp [ay,af],rfl,fun _ h=>h⟩⟩
 ·have bI:l'≠l:=by rcases ao with ⟨id,rfl⟩ | ⟨id,j,rfl⟩ <;> intro e <;> first | exact n1 _ e.symm | exact n2 _ _ e.symm
  exact ⟨by simp [ay,af,bI],rfl,fun _ h=>h⟩
 ·by_cases h:aa b=some l
  ·exact ag.base b l h
  ·simp only [ay,h,if_false] at af;exact ag.base b l' af
theorem xL (ag:aK B aa J S w H) {l:aH} (n1:∀ id,l≠.obj id) (n2:∀ id j,l≠.cell id j) {cells:List I} {len z:Nat} (aQ:len≠0) {v:Value}
  (ai:Rel J S w (.av cells len (.uniq z)) v) (aq:aU aa J S w l (.av cells len (.uniq z)) v) :
  aZ B aa J S w (H++[.cells cells]) (.ref H.length 0 len none z) v w:=by
 classical
 cases ai with
 | b2 c a=>exact absurd rfl aQ
 | av cells len c b o cap f ak hle hu h fq=>exact absurd rfl (hu z)
 | cM cells len z b o cap =>
   rcases aq with ⟨rfl,_,_⟩ | ⟨ab,aq,ae,aF,ba,bO,⟨cur,e,bP,cL,cO⟩,ck⟩
   ·exact absurd rfl aQ
   ·simp only at ab bP ck aq;subst aq
    let ay:Nat→Option aH:=fun au=>if au=b then some (.obj H.length) else aa au
    have az:bk aa S w ay S w:=⟨rfl,rfl,rfl,se _,fun _ _ _=>rfl,fun _ _ h=>⟨h,rfl⟩,fun _ _ h=>.inl h,fun au af=>by
     by_cases dF:au=b
     ·subst dF;exact .inl (by simp [ab])
     ·simp only [ay,dF,if_false] at af;exact .inl af⟩
    have bV:aK B ay J S w H:=by
     refine ag.frame az (fun au l' af ao=>?_) ag.cb (fun au l' af=>?_)
     ·have bI:au≠b:=fun e=>by
       subst e;rw [ab] at af;cases af;rcases ao with ⟨id,h⟩ | ⟨id,j,h⟩
       ·exact n1 _ h
       ·exact n2 _ _ h
      exact ⟨by simp [ay,bI,af],rfl,fun _ h=>h⟩
     ·by_cases dF:au=b
      ·subst dF;exact ag.base _ l ab
      ·simp only [ay,dF,if_false] at af;exact ag.base au l' af
    refine ⟨ay,_,S,Ext.append J [b],az,bV.push b ⟨b,cur,e,Ext.last ag _,by simp [ay],bP,by rw [cL,bO];exact tb _ ae,ck,fun j u v hu ad=>?_⟩,
     .ref _ _ _ _ _ b _ (Ext.last ag _) (by simp) ae,aU.b3 rfl⟩
    obtain ⟨a7,a9,br⟩:=cO j u v hu ad;exact ⟨I.fu a7,a9,br.mono (Ext.append J _) az.set,aU.b3 a7⟩
theorem x8 (ag:aK B aa J S w H) {u:I} {v:Value} {row:List I} (h:rowOf H u=some row) (ai:Rel J S w u v) (aI:u.cT=true) :
  (row=[]∧∃ a c,v=.slice a 0 c)∨∃ b o n c vs,v=.slice (some ⟨b,o,none⟩) n c∧c2 J S w row vs∧(∀ j x,vs[j]?=some x→w.cell? ⟨b,o+j,none⟩=some x):=by
 unfold rowOf at h;split at h
 ·rename_i cells len c;simp at h;subst h;cases ai with
  | b2 c a=>exact .inl ⟨rfl,a,_,rfl⟩
  | cM=>simp [I.cT] at aI
  | av _ _ _ b o cap f ak hle hu bx b1 =>
    refine .inr ⟨b,o,len,cap,(List.range cells.length).map f,rfl,⟨by simp,fun j u v b8 bg=>?_⟩,fun j x aj=>?_⟩
    ·have aw:=(sd.1 b8).1;simp [aw] at bg;subst bg;exact ⟨(bx j u b8).2.2.1,(bx j u b8).2.2.2,b1 j u b8⟩
    ·simp only [sq,sb] at aj;obtain ⟨k,al,rfl⟩:=aj;(have aw:j<cells.length:=by have:=(sd.1 al).1;simpa using this);simp [aw] at al;subst al;exact (bx j _ (sk aw)).2.1
 ·rename_i id off len cap sz;split at h
  ·rename_i l aE;split at h
   ·rename_i hle;simp only [Option.some.injEq] at h;subst h;obtain ⟨b,cur,e,aA,aG,aT,bq,bf,bc⟩:=ag.obj id _ aE;cases ai with
    | ref id off len c sz au cap' af ak Df =>
      rw [aA] at af;cases af;refine .inr ⟨b,off,len,cap',(cur.toList.drop off).take (len*sz),rfl,⟨by simp;omega,fun j u v b8 bg=>?_⟩,fun j x aj=>?_⟩
      ·simp only [sq,sb] at b8;obtain ⟨y,aY,rfl⟩:=b8;rw [sL] at aY bg;split at aY
       ·rename_i aw;rw [if_pos aw] at bg;rw [sU] at aY bg;obtain ⟨d1,d0,d2,_⟩:=bc (off+j) y v aY (by simpa using bg);exact ⟨I.di y,d0,d2.view d1⟩
       ·simp at aY
      ·rw [sL] at aj;split at aj
       ·rw [sU] at aj;rw [cell_of_row w b _ cur e (0,0) aT];simpa using aj
       ·simp at aj
   ·simp at h
  ·simp at h
 ·simp at h
theorem mL {u:I} {v:Value} {n:Nat} (h:lenOf u=some n) (ai:Rel J S w u v):∃ a c,v=.slice a n c:=by
 unfold lenOf at h;split at h
 ·simp at h;subst h;cases ai with
  | b2 c a=>exact ⟨_,_,rfl⟩
  | av=>exact ⟨_,_,rfl⟩
  | cM=>exact ⟨_,_,rfl⟩
 ·simp at h;subst h;cases ai with
  | ref=>exact ⟨_,_,rfl⟩
 ·simp at h
end
end Go.Proofs.Ytkoioidpbbbaiaa.Ab


namespace Go.Proofs.Ytkoioidpbbbaiaa.Ab
open Go
section
variable {P:Program} {B:Nat} {J:List Nat} {w:World} {H:List ar} {aa:Nat→Option aH} {S:Nat→Nat→Prop}
theorem aZ.after {b4:Nat→Option aH} {cW:List Nat} {a4:Nat→Nat→Prop} {bH:World} (bM:Ext J cW) (az:bk aa S w b4 a4 bH) {H':List ar} {r:I} {v:Value} {w':World} (h:aZ B b4 cW a4 bH H' r v w'):aZ B aa J S w H' r v w':=by
 obtain ⟨ay,bU,S',a,b,c,d,e⟩:=h;exact ⟨ay,bU,S',bM.trans a,az.trans b,c,d,e⟩
theorem aZ.settle {cells:List I} {len z:Nat} {v:Value} {w':World} {H':List ar} (h:aZ B aa J S w H' (.av cells len (.uniq z)) v w'):aZ B aa J S w H' (.av cells len (.own z)) v w':=by
 obtain ⟨ay,bU,S',a,b,c,d,e⟩:=h;obtain ⟨a4,aJ,aN,b',aS,bh,eH⟩:=kc c d e;exact ⟨ay,bU,a4,a,b.trans (bk.settle aJ fun b o h=>(aN b o h).imp (fun h=>h) fun h=>⟨_,h⟩),c.settle aJ (fun b o h=>(aN b o h).imp (fun h=>h) fun h=>⟨_,h,by simp,by simp⟩) b',bh,eH⟩
theorem AX (t ty e:TypeId) (i:TypeInfo) (ax:P.underlying t=some (.slice e)) (hi:P.info? e=some i) (base:Option Addr) (eJ hv:Nat) (hle:eJ≤hv) (a:Option Addr) (c:Nat) :
  (Builtin.append_ #[t,t] ty #[.slice base eJ hv,.slice a 0 c]).run P w=.ok (.slice base eJ hv) w:=by
 cases a <;> cases base <;> simp [Builtin.append_,run_underlying ax,sizeOf,typeInfo,hi,Builtin.lenOf,hle,Builtin.firstCells,loadCells,loadCellsFrom,storeCells]
theorem AW (w:World) (t ty e:TypeId) (i:TypeInfo) (ax:P.underlying t=some (.slice e)) (hi:P.info? e=some i)
  (g eJ hv:Nat) (cur:Array Value) (ce:TypeId) (aO:w.heap[g]?=some (.cells cur ce (0,0)))
  (a:Addr) (m c:Nat) (news:List Value) (ao:news.length=m*i.size) (pT:∀ j u,news[j]?=some u→w.cell? (a.add j)=some u) (ab:∀ u∈news,u.oneCell'=true)
  (ep:eJ+m≤hv) (dG:eJ*i.size+news.length≤cur.size) :
  (Builtin.append_ #[t,t] ty #[.slice (some ⟨g,0,none⟩) eJ hv,.slice (some a) m c]).run P w =
   .ok (.slice (some ⟨g,0,none⟩) (eJ+m) hv) (w.setRow g (cur.toList.take (eJ*i.size)++news++cur.toList.drop (eJ*i.size+news.length)).toArray):=by
 have aP:=run_firstCells_some (P:=P) w i.size m a m c news ao pT;have cG:=run_storeCells_at P g (eJ*i.size) ce news 0 cur w aO (by simpa using dG) ab;simp only [tj] at cG;simp [Builtin.append_,run_underlying ax,sizeOf,typeInfo,hi,Builtin.lenOf,ep,aP,Addr.add_lit,cG]
theorem Fh (w:World) (t ty e:TypeId) (i:TypeInfo) (ax:P.underlying t=some (.slice e)) (hi:P.info? e=some i)
  (g k eJ hv:Nat) (cur:Array Value) (ce:TypeId) (aO:w.heap[g]?=some (.cells cur ce (0,0)))
  (a:Addr) (m c:Nat) (news:List Value) (ao:news.length=m*i.size) (pT:∀ j u,news[j]?=some u→w.cell? (a.add j)=some u) (ab:∀ u∈news,u.oneCell'=true)
  (ep:eJ+m≤hv) (dG:k+eJ*i.size+news.length≤cur.size) :
  (Builtin.append_ #[t,t] ty #[.slice (some ⟨g,k,none⟩) eJ hv,.slice (some a) m c]).run P w =
   .ok (.slice (some ⟨g,k,none⟩) (eJ+m) hv) (w.setRow g (cur.toList.take (k+eJ*i.size)++news++cur.toList.drop (k+eJ*i.size+news.length)).toArray):=by
 have aP:=run_firstCells_some (P:=P) w i.size m a m c news ao pT;have cG:=run_storeCells_at P g (k+eJ*i.size) ce news 0 cur w aO (by simpa using dG) ab;simp only [tj] at cG;simp [Builtin.append_,run_underlying ax,sizeOf,typeInfo,hi,Builtin.lenOf,ep,aP,Addr.add_lit,cG]
section grow
variable {t ty e:TypeId} {i:TypeInfo} {z:Value} {Hh:List I}
theorem h2 (ag:aK B aa J S w H) (ax:P.underlying t=some (.slice e)) (hi:P.info? e=some i) (bj:i.zero=some z) (er:z.cells.size=i.size) (bQ:0<i.size)
  (v:Value) (len cap:Nat) (i_:List Value) (ad:((∃ a,v=.slice a 0 0)∧len=0∧cap=0∧i_=[])∨∃ b o,v=.slice (some ⟨b,o,none⟩) len cap∧∀ j x,i_[j]?=some x→w.cell? ⟨b,o+j,none⟩=some x)
  {cs:List I} (gL:c2 J S w cs i_) (fI:cs.length=len*i.size)
  {au cw m c:Nat} {new:List I} {news:List Value} (hnew:c2 J S w new news) (bx:∀ j x,news[j]?=some x→w.cell? ⟨au,cw+j,none⟩=some x) (cZ:new.length=m*i.size)
  (hm:0<m) (nI:cap<len+m) (ep:(len+m)*i.bytes≤140737488355328) (gJ:1≤i.bytes) :
  ∃ x w',(Builtin.append_ #[t,t] ty #[v,.slice (some ⟨au,cw,none⟩) m c]).run P w=.ok x w'∧aZ B aa J S w H (.av (cs++new) (len+m) (.uniq i.size)) x w':=by
 have Dg:len+m≤140737488355328:=sX (tQ _ gJ) ep;have en:len+m≤maxLen:=by simp only [maxLen];omega
 have eS:news.length=m*i.size:=hnew.len ▸ cZ;have zg:i_.length=len*i.size:=gL.len ▸ fI;have kE:∀ j x,news[j]?=some x→w.cell? ((⟨au,cw,none⟩:Addr).add j)=some x:=fun j x h=>by rw [add_lit];exact bx j x h
 have fin:∀ fb:Nat,fb=grownCap w (len+m) cap e →
   aZ B aa J S w H (.av (cs++new) (len+m) (.uniq i.size)) (.slice (some ⟨w.heap.size,0,none⟩) (len+m) fb)
    (w.drew.alloc (.cells (i_.toArray++news.toArray++Builtin.zeroCells z.cells (fb-(len+m))) e)):=by
  rintro fb rfl;have fe:=grownCap_ge w (len+m) cap e;have hle:=grownCap_le_maxLen w (len+m) cap e en;generalize grownCap w (len+m) cap e=fb at fe hle;have az:=ku aa S w;have h:=n' (mw ag) ((gL.append hnew).mono (Ext.refl J) az.set) (Builtin.zeroCells z.cells (fb-(len+m))).toList e (len+m) fb i.size bQ
   (by rw [sE,fI,cZ,td]) fe hle (by
    rw [sE,zg,eS,←td,s7,size_zeroCells,er,←td];congr 1;omega)
  have he:(i_++news++(Builtin.zeroCells z.cells (fb-(len+m))).toList).toArray=i_.toArray++news.toArray++Builtin.zeroCells z.cells (fb-(len+m)):=by
   apply Array.ext';simp
  rw [he] at h;exact aZ.after (Ext.refl J) az h
 rcases ad with ⟨⟨h0,rfl⟩,rfl,rfl,rfl⟩ | ⟨b,o,rfl,hold⟩
 ·cases h0 with
  | none =>
    have ai:=run_append_nil (P:=P) w t ty e i z ax hi bj ⟨au,cw,none⟩ m c news eS kE hm (by omega) (by rw [sG] at ep;omega);have f:=fin _ rfl;refine ⟨_,_,ai,?_⟩;simpa using f
  | some lM =>
    have ai:=run_append_grow (P:=P) w t ty e i z ax hi bj lM 0 0 [] (by simp) (by simp) ⟨au,cw,none⟩ m c news eS kE nI (by omega) (growslice_fits nI ep);exact ⟨_,_,ai,fin _ rfl⟩
 ·have ai:=run_append_grow (P:=P) w t ty e i z ax hi bj ⟨b,o,none⟩ len cap i_ zg (fun j x h=>by rw [add_lit];exact hold j x h) ⟨au,cw,none⟩ m c news eS kE nI (by omega) (growslice_fits nI ep);exact ⟨_,_,ai,fin _ rfl⟩
theorem B3 (ag:aK B aa J S w H) (ax:P.underlying t=some (.slice e)) (hi:P.info? e=some i) (bQ:0<i.size) {l:aH} (n1:∀ id,l≠.obj id) (n2:∀ id j,l≠.cell id j)
  {cells:List I} {len b cap:Nat} {cur:Array Value} {ce:TypeId} (bw:aa b=some l) (k5:cap≤maxLen) (il:cells.length=len*i.size)
  (hp:w.heap[b]?=some (.cells cur ce (0,0))) (gS:cur.size=cap*i.size) (j4:∀ (j:Nat) (u:I) (v:Value),cells[j]?=some u→cur[j]?=some v→u.plain=true∧v.oneCell'=true∧Rel J S w u v)
  (hq:∀ o,¬ S b o)
  {au cw m c:Nat} {new:List I} {news:List Value} (hnew:c2 J S w new news) (bx:∀ j x,news[j]?=some x→w.cell? ⟨au,cw+j,none⟩=some x) (cZ:new.length=m*i.size) (dG:len+m≤cap) :
  ∃ x w',(Builtin.append_ #[t,t] ty #[.slice (some ⟨b,0,none⟩) len cap,.slice (some ⟨au,cw,none⟩) m c]).run P w=.ok x w'∧aZ B aa J S w H (.av (cells++new) (len+m) (.uniq i.size)) x w':=by
 classical
 have eS:news.length=m*i.size:=hnew.len ▸ cZ;have jK:(len+m)*i.size≤cap*i.size:=tb _ dG;rw [td] at jK;have eo:∀ u∈news,u.oneCell'=true:=fun u hu=>by
  obtain ⟨j,aw⟩:=sZ.1 hu;have aR:=(sd.1 aw).1;exact (hnew.rel j _ u (sk (hnew.len ▸ aR)) aw).2.1
 have ai:=AW w t ty e i ax hi b len cap cur ce hp ⟨au,cw,none⟩ m c news eS (fun j x h=>by rw [add_lit];exact bx j x h) eo dG (by rw [gS];omega)
 let cur':Array Value:=(cur.toList.take (len*i.size)++news++cur.toList.drop (len*i.size+news.length)).toArray
 have nE:∀ bl o,bl≠b→(w.setRow b cur').cell? ⟨bl,o,none⟩=w.cell? ⟨bl,o,none⟩:=fun bl o h=>by
  unfold World.cell?;simp only [setRow_other w b bl cur' h]
 let ay:Nat→Option aH:=fun bl=>if bl=b then some .res else aa bl
 have kR:(w.setRow b cur').heap.size=w.heap.size:=by simp [World.setRow]
 have az:bk aa S w ay S (w.setRow b cur'):=by
  refine ⟨rfl,rfl,rfl,by omega,fun bl af aI=>setRow_other w b bl cur' (fun e=>by subst e;rw [bw] at aI;cases aI),fun bl o ah=>⟨ah,nE bl o (fun e=>hq o (e ▸ ah))⟩,fun _ _ ah=>.inl ah,fun bl af=>?_⟩;by_cases h:bl=b
  ·subst h;exact .inl (by simp [bw])
  ·simp only [ay,h,if_false] at af;exact .inl af
 refine ⟨_,_,ai,ay,J,S,Ext.refl J,az,ag.frame az (fun bl l' af ao=>?_) (fun bl o ah=>?_) (fun bl l' af=>?_),.cM _ _ _ _ _ _,.inr ⟨by simp [ay],rfl,dG,k5,bQ,by rw [sE,il,cZ,td],⟨cur',ce,setRow_heap w b cur cur' ce (0,0) hp,?_,fun j u v hu ad=>?_⟩,hq⟩⟩
 ·have bI:bl≠b:=fun e=>by
   subst e;rw [bw] at af;cases af;rcases ao with ⟨id,h⟩ | ⟨id,j,h⟩
   ·exact n1 _ h
   ·exact n2 _ _ h
  exact ⟨by simp [ay,bI,af],setRow_other w b bl cur' bI,fun _ h=>h⟩
 ·obtain ⟨v,ad⟩:=ag.cb bl o ah;exact ⟨v,(nE bl o (fun e=>hq o (e ▸ ah))).trans ad⟩
 ·rw [kR];by_cases h:bl=b
  ·subst h;exact ag.base _ l bw
  ·simp only [ay,h,if_false] at af;exact ag.base bl l' af
 ·have ab:cur.toList.length=cap*i.size:=by simp [gS]
  show (List.toArray _).size=_;rw [tn,sE,sE,te,tA,ab,eS,uh (by omega)];omega
 ·have ad:(cur.toList.take (len*i.size)++news++cur.toList.drop (len*i.size+news.length))[j]?=some v:=by simpa [cur'] using ad
  have ab:cur.toList.length=cap*i.size:=by simp [gS]
  rw [jj _ _ _ _ (by rw [ab];omega)] at ad;by_cases aw:j<cells.length
  ·rw [sj aw] at hu;rw [if_neg (by omega)] at ad;obtain ⟨a7,a9,br⟩:=j4 j u v hu (by simpa using ad);exact ⟨a7,a9,br.mono (Ext.refl J) az.set⟩
  ·rw [sv (by omega)] at hu;have nK:=(sd.1 hu).1;rw [if_pos ⟨by omega,by rw [eS,←cZ];omega⟩] at ad;rw [il] at hu;obtain ⟨a7,a9,br⟩:=hnew.rel _ u v hu ad;exact ⟨a7,a9,br.mono (Ext.refl J) az.set⟩
theorem B2 (ag:aK B aa J S w H) (ax:P.underlying t=some (.slice e)) (hi:P.info? e=some i) (bQ:0<i.size) {l:aH} (n1:∀ id,l≠.obj id) (n2:∀ id j,l≠.cell id j)
  {cells:List I} {len b k cap:Nat} {cur:Array Value} {ce:TypeId} {f:Nat→Value} (bw:aa b=some l) (k5:cap≤maxLen) (il:cells.length=len*i.size)
  (hp:w.heap[b]?=some (.cells cur ce (0,0))) (gS:cur.size=k+cap*i.size)
  (h:∀ (j:Nat) (u:I),cells[j]?=some u→S b (k+j)∧w.cell? ⟨b,k+j,none⟩=some (f j)∧u.plain=true∧(f j).oneCell'=true)
  (ai:∀ (j:Nat) (u:I),cells[j]?=some u→Rel J S w u (f j)) (hq:∀ o,k+cells.length≤o→¬ S b o)
  {au cw m c:Nat} {new:List I} {news:List Value} (hnew:c2 J S w new news) (bx:∀ j x,news[j]?=some x→w.cell? ⟨au,cw+j,none⟩=some x) (cZ:new.length=m*i.size) (dG:len+m≤cap) :
  ∃ x w',(Builtin.append_ #[t,t] ty #[.slice (some ⟨b,k,none⟩) len cap,.slice (some ⟨au,cw,none⟩) m c]).run P w=.ok x w'∧aZ B aa J S w H (.av (cells++new) (len+m) (.own i.size)) x w':=by
 classical
 have eS:news.length=m*i.size:=hnew.len ▸ cZ;have jK:(len+m)*i.size≤cap*i.size:=tb _ dG;rw [td] at jK;have eo:∀ u∈news,u.oneCell'=true:=fun u hu=>by
  obtain ⟨j,aw⟩:=sZ.1 hu;have aR:=(sd.1 aw).1;exact (hnew.rel j _ u (sk (hnew.len ▸ aR)) aw).2.1
 have dJ:=Fh w t ty e i ax hi b k len cap cur ce hp ⟨au,cw,none⟩ m c news eS (fun j x h=>by rw [add_lit];exact bx j x h) eo dG (by rw [gS];omega)
 let cur':Array Value:=(cur.toList.take (k+len*i.size)++news++cur.toList.drop (k+len*i.size+news.length)).toArray
 have py:∀ j:Nat,cur'[j]?=if k+len*i.size≤j∧j<k+len*i.size+news.length then news[j-(k+len*i.size)]? else cur[j]?:=fun j=>by
  have ab:cur.toList.length=k+cap*i.size:=by simp [gS]
  have:=jj cur.toList news (k+len*i.size) j (by rw [ab];omega);simpa [cur'] using this
 have kE:∀ j,(w.setRow b cur').cell? ⟨b,j,none⟩=cur'[j]?:=fun j=>cell_of_row _ b j cur' ce (0,0) (setRow_heap w b cur cur' ce (0,0) hp);have fH:∀ j,w.cell? ⟨b,j,none⟩=cur[j]?:=fun j=>cell_of_row _ b j cur ce (0,0) hp;have nE:∀ bl o,bl≠b→(w.setRow b cur').cell? ⟨bl,o,none⟩=w.cell? ⟨bl,o,none⟩:=fun bl o h=>by
  unfold World.cell?;simp only [setRow_other w b bl cur' h]
 let ay:Nat→Option aH:=fun bl=>if bl=b then some .res else aa bl
 let S':Nat→Nat→Prop:=fun bl o=>S bl o∨(bl=b∧k+cells.length≤o∧o<k+cells.length+new.length)
 have kR:(w.setRow b cur').heap.size=w.heap.size:=by simp [World.setRow]
 have cl:∀ bl o,S bl o→(w.setRow b cur').cell? ⟨bl,o,none⟩=w.cell? ⟨bl,o,none⟩:=fun bl o ah=>by
  by_cases af:bl=b
  ·subst af;have aq:o<k+cells.length:=by
    rcases sQ o (k+cells.length) with h | h
    ·exact h
    ·exact absurd ah (hq o h)
   rw [kE,py,if_neg (by omega),fH]
  ·exact nE bl o af
 have az:bk aa S w ay S' (w.setRow b cur'):=by
  refine ⟨rfl,rfl,rfl,by omega,fun bl af aI=>setRow_other w b bl cur' (fun e=>by subst e;rw [bw] at aI;cases aI),fun bl o ah=>⟨.inl ah,cl bl o ah⟩,fun bl o ah=>?_,fun bl af=>?_⟩
  ·rcases ah with ah | ⟨rfl,_⟩
   ·exact .inl ah
   ·exact .inr (.inl (by simp [bw]))
  ·by_cases h:bl=b
   ·subst h;exact .inl (by simp [bw])
   ·simp only [ay,h,if_false] at af;exact .inl af
 have pS:∀ (j:Nat) (u:I),(cells++new)[j]?=some u→S' b (k+j)∧(w.setRow b cur').cell? ⟨b,k+j,none⟩=some (cur'.getD (k+j) undef)∧u.plain=true∧(cur'.getD (k+j) undef).oneCell'=true∧Rel J S' (w.setRow b cur') u (cur'.getD (k+j) undef):=by
  intro j u hu;rw [kE];by_cases aw:j<cells.length
  ·rw [sj aw] at hu;obtain ⟨ab,ae,aF,ba⟩:=h j u hu;rw [fH] at ae;(have ak:cur'[k+j]?=some (f j):=by rw [py,if_neg (by omega),ae]);(have aO:cur'.getD (k+j) undef=f j:=by rw [sw,ak];rfl);rw [aO];exact ⟨.inl ab,ak,aF,ba,(ai j u hu).mono (Ext.refl J) az.set⟩
  ·rw [sv (by omega)] at hu;have nK:=(sd.1 hu).1;have mm:j-cells.length<news.length:=hnew.len ▸ nK;have ak:cur'[k+j]?=some (news[j-cells.length]):=by
    rw [py,if_pos ⟨by omega,by omega⟩,←il,Nat.add_sub_add_left];exact sk mm
   (have aO:cur'.getD (k+j) undef=news[j-cells.length]:=by rw [sw,ak];rfl);obtain ⟨a7,a9,br⟩:=hnew.rel _ u _ hu (sk mm);rw [aO];exact ⟨.inr ⟨rfl,by omega,by omega⟩,ak,a7,a9,br.mono (Ext.refl J) az.set⟩
 refine ⟨_,_,dJ,ay,J,S',Ext.refl J,az,ag.frame az (fun bl l' af ao=>?_) (fun bl o ah=>?_) (fun bl l' af=>?_),
  .av _ _ _ b k cap (fun j=>cur'.getD (k+j) undef) (by simp) dG (by simp) (fun j u hu=>let ⟨aA,aG,aT,bq,_⟩:=pS j u hu;⟨aA,aG,aT,bq⟩) (fun j u hu=>(pS j u hu).2.2.2.2),
  .inr ⟨by simp [ay],trivial,rfl,dG,k5,bQ,by rw [sE,il,cZ,td],⟨cur',ce,setRow_heap w b cur cur' ce (0,0) hp,?_⟩,fun o aq ah=>?_⟩⟩
 ·have bI:bl≠b:=fun e=>by
   subst e;rw [bw] at af;cases af;rcases ao with ⟨id,h⟩ | ⟨id,j,h⟩
   ·exact n1 _ h
   ·exact n2 _ _ h
  refine ⟨by simp [ay,bI,af],setRow_other w b bl cur' bI,fun o ah=>?_⟩;rcases ah with ah | ⟨h,_⟩
  ·exact ah
  ·exact absurd h bI
 ·rcases ah with ah | ⟨rfl,ab,ae⟩
  ·obtain ⟨v,ad⟩:=ag.cb bl o ah;exact ⟨v,(cl bl o ah).trans ad⟩
  ·obtain ⟨u,hu⟩:∃ u,(cells++new)[o-k]?=some u:=⟨_,sk (by simp;omega)⟩;have:=(pS (o-k) u hu).2.1;rw [Nat.add_sub_cancel' (by omega)] at this;exact ⟨_,this⟩
 ·rw [kR];by_cases h:bl=b
  ·subst h;exact ag.base _ l bw
  ·simp only [ay,h,if_false] at af;exact ag.base bl l' af
 ·have ab:cur.toList.length=k+cap*i.size:=by simp [gS]
  show (List.toArray _).size=k+cap*i.size;rw [tn,sE,sE,te,tA,ab,eS,uh (by omega)];omega
 ·simp only [sE] at aq;rcases ah with ah | ⟨_,ab,ae⟩
  ·exact hq o (by omega) ah
  ·omega
end grow
theorem yx (ag:aK B aa J S w H) {x:I} {cD:Value} {m:Nat} {new:List I} (h:appended H x=some (m,new)) (ai:Rel J S w x cD) (aI:x.cT=true) :
  (new=[]∧∃ a c,cD=.slice a m c)∨∃ b o c vs,cD=.slice (some ⟨b,o,none⟩) m c∧c2 J S w new vs∧(∀ j y,vs[j]?=some y→w.cell? ⟨b,o+j,none⟩=some y):=by
 unfold appended at h;split at h
 ·rename_i ho row hm cF;simp only [Option.some.injEq,Prod.mk.injEq] at h;obtain ⟨rfl,rfl⟩:=h;obtain ⟨a,c,ad⟩:=mL hm ai;rcases x8 ag cF ai aI with ⟨ab,n,dR,ae⟩ | ⟨b,o,n,dR,vs,ae,aF,ba⟩
  ·rw [ae] at ad;cases ad;exact .inl ⟨ab,_,_,ae⟩
  ·rw [ae] at ad;cases ad;exact .inr ⟨b,o,_,vs,ae,aF,ba⟩
 ·simp at h
end
end Go.Proofs.Ytkoioidpbbbaiaa.Ab


namespace Go.Proofs.Ytkoioidpbbbaiaa.Ab
open Go
section
variable {P:Program} {B:Nat} {J:List Nat} {w:World} {H:List ar} {aa:Nat→Option aH} {S:Nat→Nat→Prop}
theorem mM (ag:aK B aa J S w H) {l:aH} (n1:∀ id,l≠.obj id) (n2:∀ id j,l≠.cell id j) {u:I} {v:Value} (ai:Rel J S w u v) (aq:aU aa J S w l u v) :
  ∃ S':Nat→Nat→Prop,(∀ b o,S b o→S' b o)∧(∀ b o,S' b o→S b o∨aa b=some l)∧aK B aa J S' w H∧Rel J S' w u.view v:=by
 by_cases hu:u.cT=true
 ·exact ⟨S,fun _ _ h=>h,fun _ _ h=>.inl h,ag,ai.view hu⟩
 ·obtain ⟨cells,len,z,rfl⟩:∃ cells len z,u=.av cells len (.uniq z):=by
   unfold I.cT at hu;split at hu
   ·exact ⟨_,_,_,rfl⟩
   ·simp at hu
  obtain ⟨a4,aJ,aN,b',aS,_,_⟩:=kc ag ai aq;exact ⟨a4,aJ,aN,ag.settle aJ (fun b o h=>(aN b o h).imp (fun h=>h) fun h=>⟨_,h,n1,n2⟩) b',aS⟩
theorem yy {u:I} {r:Nat×List I} (h:appended H u=some r):appended H u.view=some r:=by
 cases u <;> try exact h
 ·rename_i cells len c;cases c <;> exact h
 ·simp [appended,lenOf] at h
theorem Fi (t dj ty e:TypeId) (i:TypeInfo) (z:Value) (dg:IntKind) (ax:P.underlying t=some (.slice e)) (xj:P.underlying dj=some (.int dg)) (hi:P.info? e=some i) (bj:i.zero=some z)
  (base:Option Addr) (n:Int) (aQ:0<n) (af:n.toNat*i.bytes≤140737488355328) (gJ:1≤i.bytes) (bQ:0<i.size) :
  (Builtin.append_ #[t,dj] ty #[.slice base 0 0,.int .i64 n]).run P w =
   .ok (.slice (some ⟨w.heap.size,0,none⟩) n.toNat (grownCap w n.toNat 0 e)) (w.drew.alloc (.cells (Builtin.zeroCells z.cells n.toNat++Builtin.zeroCells z.cells (grownCap w n.toNat 0 e-n.toNat)) e)):=by
 have aI:n.toNat≤140737488355328:=sX (tQ _ gJ) af;have bH:IntKind.i64.wrap n=n:=IntWalk.i64_in _ (by omega);have kJ:n*(i.bytes:Int)=((n.toNat*i.bytes:Nat):Int):=by rw [uL,vo (by omega)]
 have pv:Builtin.nextslicecap n.toNat 0=n.toNat:=by unfold Builtin.nextslicecap;rw [if_pos (by omega)]
 have ab:¬ n<0:=by omega
 have ae:¬ ((281474976710656:Int)<n*i.bytes):=by rw [kJ];omega
 have ba:¬ (281474976710656<n.toNat*i.bytes):=by omega
 have bO:¬ (9223372036854775807<max n 0):=by omega
 have bP:n.toNat*i.size≠0:=by have:0<n.toNat:=by omega
                              have:=vr this bQ;omega
 have cL:¬ n≤0:=by omega
 cases base <;> simp [Builtin.append_,run_underlying ax,run_underlying xj,sizeOf,typeInfo,hi,asInt,asIntOf,bH,ab,ae,cL,bO,ba,bP,Builtin.lenOf,Builtin.firstCells,loadCells,loadCellsFrom,pv,zeroValue,bj,grownCap,Question.forced,newRow]
theorem Be (ag:aK B aa J S w H) {t dj:TypeId} (ty:TypeId) {u x r:I} {v cD:Value} {cu l1:aH} (n1:∀ id,cu≠.obj id) (n2:∀ id j,cu≠.cell id j) (c9:∀ id,l1≠.obj id) (c_:∀ id j,l1≠.cell id j) (bI:cu≠l1)
  (h:fa P H t dj u x=some r) (ai:Rel J S w u v) (aq:aU aa J S w cu u v) (ee:Rel J S w x cD) (ib:aU aa J S w l1 x cD) :
  ∃ y w',(Builtin.append_ #[t,dj] ty #[v,cD]).run P w=.ok y w'∧aZ B aa J S w H r y w':=by
 obtain ⟨a4,aJ,aN,bV,jY⟩:=mM ag c9 c_ ee ib;have dy:bk aa S w aa a4 w:=bk.settle aJ fun b o h=>(aN b o h).imp (fun h=>h) fun h=>⟨_,h⟩;have dz:Rel J a4 w u v:=ai.mono (Ext.refl J) dy.set
 have jU:aU aa J a4 w cu u v:=aq.mono (Ext.refl J) dy.set fun b af=>⟨af,rfl,fun o ah=>by
  rcases aN b o ah with h | h
  ·exact h
  ·rw [af] at h;cases h;exact absurd rfl bI⟩
 suffices ah:∃ y w',(Builtin.append_ #[t,dj] ty #[v,cD]).run P w=.ok y w'∧aZ B aa J a4 w H r y w' by
  obtain ⟨y,w',a,b⟩:=ah;exact ⟨y,w',a,aZ.after (Ext.refl J) dy b⟩
 clear ai aq ee ib dy aJ aN ag;unfold fa at h;split at h
 ·rename_i e ax;split at h
  ·rename_i sz bytes z ah af bj;obtain ⟨i,hi,rfl⟩:=m' ah;simp only [hi,sg,Option.some.injEq] at af;subst af;obtain ⟨jZ,de,hi',dW,fc⟩:=hA (J:=J) (S:=a4) (w:=w) bj;rw [hi] at hi';cases hi';(have kU:z.length=de.cells.size:=by simpa using fc.len);split at h
   ·rename_i mb;obtain rfl:t=dj:=Nat.eq_of_beq_eq_true mb;split at h
    ·rename_i m new eQ;replace eQ:=yy eQ;split at h
     ·rename_i ak;obtain ⟨cZ,bQ,er,zq⟩:=ak;(have gO:de.cells.size=i.size:=by omega);obtain ⟨G4,G5⟩:=iw zq;have aj:=yx bV eQ jY (I.fu (I.di x));have zero:m=0→∀ base len cap,v=.slice base len cap→len≤cap→(Builtin.append_ #[t,t] ty #[v,cD]).run P w=.ok v w:=by
       rintro rfl base len cap rfl hle;rcases aj with ⟨_,h0,c,rfl⟩ | ⟨b,o,c,vs,rfl,_,_⟩
       ·exact AX (P:=P) (w:=w) t ty e i ax hi base len cap hle h0 c
       ·exact AX (P:=P) (w:=w) t ty e i ax hi base len cap hle _ c
      have oK:0<m→∃ b o c vs,cD=.slice (some ⟨b,o,none⟩) m c∧c2 J a4 w new vs∧(∀ j y,vs[j]?=some y→w.cell? ⟨b,o+j,none⟩=some y):=by
       intro hm;rcases aj with ⟨aQ,_,c,rfl⟩ | h
       ·rw [aQ] at cZ;simp at cZ;have:=vr hm bQ;omega
       ·exact h
      split at h
      ·rename_i cells len c;split at h
       ·
        split at h
        ·rename_i hm;cases h;have ad:∃ base cap,v=.slice base len cap∧len≤cap:=by
          cases dz with
          | b2=>exact ⟨_,_,rfl,se _⟩
          | av _ _ _ b o cap f _ hle=>exact ⟨_,_,rfl,hle⟩
         obtain ⟨base,cap,ad,hle⟩:=ad;exact ⟨v,w,zero hm base len cap ad hle,aZ.same bV dz rfl⟩
        ·simp at h
       ·
        have ad:((∃ a,v=.slice a 0 0)∧len=0∧cells=[])∨∃ b o,∃ f:Nat→Value,v=.slice (some ⟨b,o,none⟩) len len ∧
          (∀ (j:Nat) (u:I),cells[j]?=some u→a4 b (o+j)∧w.cell? ⟨b,o+j,none⟩=some (f j)∧u.plain=true∧(f j).oneCell'=true)∧(∀ (j:Nat) (u:I),cells[j]?=some u→Rel J a4 w u (f j)):=by
         cases dz with
         | b2 _ a=>exact .inl ⟨⟨a,rfl⟩,rfl,rfl⟩
         | av _ _ _ b o cap f ak hle hu bx b1=>exact .inr ⟨b,o,f,by rw [ak rfl],bx,b1⟩
        split at h
        ·rename_i hm;split at h
         ·rename_i aQ;cases h;subst aQ;rcases ad with ⟨⟨a,ad⟩,_,_⟩ | ⟨b,o,f,ad,_,_⟩
          ·exact ⟨v,w,zero hm _ _ _ ad (se _),aa,J,a4,Ext.refl J,bk.refl _ _ _,bV,ad ▸ .b2 _ _,by rw [ad];cases a <;> first | trivial | exact .inl ⟨rfl,rfl,rfl⟩⟩
          ·exact ⟨v,w,zero hm _ _ _ ad (se _),aa,J,a4,Ext.refl J,bk.refl _ _ _,bV,ad ▸ .cM _ _ _ _ _ _,by rw [ad];exact .inl ⟨rfl,rfl,rfl⟩⟩
         ·cases h;rcases ad with ⟨⟨a,ad⟩,rfl,_⟩ | ⟨b,o,f,ad,_,_⟩
          ·exact ⟨v,w,zero hm _ _ _ ad (se _),aZ.same bV dz rfl⟩
          ·exact ⟨v,w,zero hm _ _ _ ad (se _),aZ.same bV dz rfl⟩
        ·rename_i hm;split at h
         ·rename_i g';obtain ⟨ep,cE⟩:=g';cases h;obtain ⟨q1,aW⟩:=iw ep;obtain ⟨au,cw,dR,vs,rfl,hnew,bx⟩:=oK (by omega);rcases ad with ⟨ad,rfl,rfl⟩ | ⟨b,o,f,ad,fH,mv⟩
          ·exact h2 bV ax hi dW gO bQ v 0 0 [] (.inl ⟨ad,rfl,rfl,rfl⟩) ⟨rfl,by simp⟩ (by simp) hnew bx cZ (by omega) (by omega) q1 aW
          ·refine h2 bV ax hi dW gO bQ v len len ((List.range cells.length).map f) (.inr ⟨b,o,ad,fun j y aY=>?_⟩) ⟨by simp,fun j bG bn b8 bg=>?_⟩ cE hnew bx cZ (by omega) (by omega) q1 aW
           ·simp only [sq,sb] at aY;obtain ⟨k,al,rfl⟩:=aY;(have aw:j<cells.length:=by have:=(sd.1 al).1;simpa using this);simp [aw] at al;subst al;exact (fH j _ (sk aw)).2.1
           ·have aw:=(sd.1 b8).1;simp [aw] at bg;subst bg;exact ⟨(fH j bG b8).2.2.1,(fH j bG b8).2.2.2,mv j bG b8⟩
         ·simp at h
       ·
        rename_i cU;split at h
        ·rename_i g';obtain ⟨rfl,ep⟩:=g';cases h;obtain ⟨q1,aW⟩:=iw ep;by_cases hm:m=0
         ·have pR:new=[]:=List.eq_nil_of_length_eq_zero (by rw [cZ,hm];simp);have ad:∃ base cap,v=.slice base len cap∧len≤cap:=by
           cases dz with
           | b2=>exact ⟨_,_,rfl,se _⟩
           | av _ _ _ b o cap f _ hle=>exact ⟨_,_,rfl,hle⟩
          obtain ⟨base,cap,ad,hle⟩:=ad;refine ⟨v,w,zero hm base len cap ad hle,?_⟩;rw [pR,hm,sN,tj];exact hP bV n1 n2 dz jU
         ·have hm:0<m:=Nat.pos_of_ne_zero hm;obtain ⟨au,cw,dR,vs,rfl,hnew,bx⟩:=oK hm;cases dz with
          | b2 _ a =>
            obtain ⟨y,w',aA,aG⟩:=h2 (ty:=ty) bV ax hi dW gO bQ (.slice a 0 0) 0 0 [] (.inl ⟨⟨a,rfl⟩,rfl,rfl,rfl⟩) (cs:=[]) ⟨rfl,by simp⟩ (by simp) hnew bx cZ hm (by omega) q1 aW;exact ⟨y,w',aA,aG.settle⟩
          | av _ _ _ b o cap f ak hle hu fH mv =>
            have gL:c2 J a4 w cells ((List.range cells.length).map f):=⟨by simp,fun j bG bn b8 bg=>by
             have aw:=(sd.1 b8).1;simp [aw] at bg;subst bg
             exact ⟨(fH j bG b8).2.2.1,(fH j bG b8).2.2.2,mv j bG b8⟩⟩
            have cE:∀ j y,((List.range cells.length).map f)[j]?=some y→w.cell? ⟨b,o+j,none⟩=some y:=fun j y aY=>by
             simp only [sq,sb] at aY;obtain ⟨k,al,rfl⟩:=aY;(have aw:j<cells.length:=by have:=(sd.1 al).1;simpa using this);simp [aw] at al;subst al;exact (fH j _ (sk aw)).2.1
            have ze:cells.length=len*i.size→cap<len+m→_:=fun ao aO =>
             h2 (ty:=ty) (c:=dR) bV ax hi dW gO bQ (.slice (some ⟨b,o,none⟩) len cap) len cap _ (.inr ⟨b,o,rfl,cE⟩) gL ao hnew bx cZ hm aO q1 aW
            rcases jU with ⟨aQ,ab,ae⟩ | ⟨bT,b0,_,d_,fR,_,lf,⟨cur,ce,lg,mY⟩,mZ⟩
            ·obtain ⟨y,w',aA,aG⟩:=ze (by rw [ae,aQ];simp) (by omega);exact ⟨y,w',aA,aG.settle⟩
            ·simp only at bT lg mY mZ;by_cases dG:len+m≤cap
             ·exact B2 bV ax hi bQ n1 n2 bT fR lf lg mY fH mv mZ hnew bx cZ dG
             ·obtain ⟨y,w',aA,aG⟩:=ze lf (by omega);exact ⟨y,w',aA,aG.settle⟩
        ·simp at h
       ·
        rename_i cU;split at h
        ·rename_i g';obtain ⟨rfl,ep⟩:=g';cases h;obtain ⟨q1,aW⟩:=iw ep;by_cases hm:m=0
         ·have pR:new=[]:=List.eq_nil_of_length_eq_zero (by rw [cZ,hm];simp);have ad:∃ base cap,v=.slice base len cap∧len≤cap:=by
           cases dz with
           | b2=>exact ⟨_,_,rfl,se _⟩
           | av _ _ _ b o cap f _ hle=>exact ⟨_,_,rfl,hle⟩
           | cM _ _ _ b o cap =>
             refine ⟨_,_,rfl,?_⟩;rcases jU with ⟨aQ,ab,ae⟩ | ⟨_,_,h,_⟩
             ·omega
             ·exact h
          obtain ⟨base,cap,ad,hle⟩:=ad;refine ⟨v,w,zero hm base len cap ad hle,?_⟩;rw [pR,hm,sN,tj];exact hP bV n1 n2 dz jU
         ·have hm:0<m:=Nat.pos_of_ne_zero hm;obtain ⟨au,cw,dR,vs,rfl,hnew,bx⟩:=oK hm;cases dz with
          | b2 _ a =>
            exact h2 (ty:=ty) bV ax hi dW gO bQ (.slice a 0 0) 0 0 [] (.inl ⟨⟨a,rfl⟩,rfl,rfl,rfl⟩) (cs:=[]) ⟨rfl,by simp⟩ (by simp) hnew bx cZ hm (by omega) q1 aW
          | av _ _ _ b o cap f ak hle hu fH mv=>exact absurd rfl (hu _)
          | cM _ _ _ b o cap =>
            rcases jU with ⟨aQ,ab,ae⟩ | ⟨bT,b0,d_,fR,_,lf,⟨cur,ce,lg,mY,p10⟩,mZ⟩
            ·refine h2 (ty:=ty) bV ax hi dW gO bQ (.slice (some ⟨b,o,none⟩) len cap) len cap [] (.inr ⟨b,o,rfl,by simp⟩) ?_ (by rw [ae,aQ];simp) hnew bx cZ hm (by omega) q1 aW;rw [ae];exact ⟨rfl,by simp⟩
            ·simp only at bT b0 lg mZ;subst b0;(have jK:cells.length≤cur.size:=by rw [mY,lf];exact tb _ d_);by_cases dG:len+m≤cap
             ·exact B3 bV ax hi bQ n1 n2 bT fR lf lg mY p10 mZ hnew bx cZ dG
             ·refine h2 (ty:=ty) bV ax hi dW gO bQ (.slice (some ⟨b,0,none⟩) len cap) len cap (cur.toList.take cells.length) (.inr ⟨b,0,rfl,fun j y aY=>?_⟩) ⟨by simp;omega,fun j bG bn b8 bg=>?_⟩ lf hnew bx cZ hm (by omega) q1 aW
              ·rw [sL] at aY;split at aY
               ·rw [sG,cell_of_row w b _ cur ce (0,0) lg];simpa using aY
               ·simp at aY
              ·rw [sL] at bg;split at bg
               ·exact p10 j bG bn b8 (by simpa using bg)
               ·simp at bg
        ·simp at h
      ·
       rename_i id off len cap oM;split at h
       ·rename_i g';obtain ⟨rfl,rfl,hm⟩:=g';simp only [si] at h;obtain ⟨fQ,hold,h⟩:=h;split at h
        ·rename_i ep;cases h;obtain ⟨q1,aW⟩:=iw ep;obtain ⟨au,cw,dR,vs,rfl,hnew,bx⟩:=oK hm;have fI:fQ.length=cap*i.size:=by
          simp only [rowOf] at hold;split at hold
          ·split at hold
           ·simp at hold;rw [←hold];simp;omega
           ·simp at hold
          ·simp at hold
         have fL:∃ b o,v=.slice (some ⟨b,o,none⟩) cap cap:=by
          cases dz with
          | ref _ _ _ _ _ b cap' _ ak _=>exact ⟨b,off,by rw [ak cap rfl]⟩
         obtain ⟨db,G_,gg⟩:=fL;rcases x8 bV hold dz rfl with ⟨DC,n,c,ad⟩ | ⟨b,o,n,c,cV,ad,gL,fH⟩
         ·rw [ad] at gg;cases gg;subst DC;exact h2 bV ax hi dW gO bQ v _ _ [] (.inl ⟨⟨_,ad⟩,rfl,rfl,rfl⟩) ⟨rfl,by simp⟩ fI hnew bx cZ hm (by omega) q1 aW
         ·rw [ad] at gg;simp only [Value.slice.injEq,Option.some.injEq,Addr.mk.injEq] at gg;obtain ⟨⟨rfl,rfl,_⟩,rfl,rfl⟩:=gg;exact h2 bV ax hi dW gO bQ v _ _ cV (.inr ⟨b,o,ad,fH⟩) gL fI hnew bx cZ hm (by omega) q1 aW
        ·simp at h
       ·simp at h
      ·simp at h
     ·simp at h
    ·simp at h
   ·
    split at h
    ·rename_i dg n xj;split at h
     ·rename_i ak;obtain ⟨aQ,ep,bQ,er⟩:=ak;cases h;obtain ⟨q1,aW⟩:=iw ep;have gh:cD=.int .i64 n:=Rel.df jY;have ad:∃ base,v=.slice base 0 0:=by
       cases dz with
       | b2=>exact ⟨_,rfl⟩
       | av _ _ _ b o cap f ak _=>exact ⟨_,by rw [ak rfl]⟩
      obtain ⟨base,rfl⟩:=ad;subst gh;have ai:=Fi (P:=P) (w:=w) t dj ty e i de dg ax xj hi dW base n aQ q1 aW bQ;have fe:=grownCap_ge w n.toNat 0 e;have aI:n.toNat≤140737488355328:=sX (tQ _ aW) q1;have hle:=grownCap_le_maxLen w n.toNat 0 e (by simp only [maxLen];omega);generalize grownCap w n.toNat 0 e=fb at fe hle ai;have az:=ku aa a4 w;have fM:=(nd fc (by omega) n.toNat).mono (Ext.refl J) az.set
      have iV:=n' (mw bV) fM (Builtin.zeroCells de.cells (fb-n.toNat)).toList e n.toNat fb i.size bQ (by rw [iu,er]) fe hle (by
       rw [←fM.len,iu,er,s7,size_zeroCells,←kU,er,←td];congr 1;omega)
      refine ⟨_,_,ai,aZ.after (Ext.refl J) az ?_⟩;have he:(((Array.range (n.toNat*z.length)).map (fun i=>de.cells[i % de.cells.size]!)).toList++(Builtin.zeroCells de.cells (fb-n.toNat)).toList).toArray =
        Builtin.zeroCells de.cells n.toNat++Builtin.zeroCells de.cells (fb-n.toNat):=by
       apply Array.ext';simp [Builtin.zeroCells,kU]
      rw [he] at iV;exact iV
     ·simp at h
    ·simp at h
  ·simp at h
 ·simp at h
theorem Ah (ag:aK B aa J S w H) {id:Nat} {l:List I} {b z:Nat} {cur:Array Value} (aE:id<H.length) (aG:aa b=some (.obj id)) (bf:∀ o,¬ S b o)
  (bc:∀ (j:Nat) (u:I) (v:Value),l[j]?=some u→cur[j]?=some v→u.cT=true∧v.oneCell'=true∧Rel J S w u v∧aU aa J S w (.cell id j) u v)
  {bH:World} {nb cap1 xu:Nat} {jD:Array Value} {e1:TypeId} (aq:bH.os=w.os) (ax:bH.tape=w.tape) (pY:bH.output=w.output) (kR:w.heap.size≤bH.heap.size)
  (hold:∀ au,au<w.heap.size→au≠b→bH.heap[au]?=w.heap[au]?) (kJ:nb=b∨nb=w.heap.size) (Dn:nb<bH.heap.size) (jJ:bH.heap[nb]?=some (.cells jD e1 (0,0)))
  (gM:jD.size=cap1*z) (hm:cap1≤maxLen) (bj:0<z) {new:List I} {news:List Value} (hnew:c2 J S w new news) (dG:l.length+new.length≤jD.size)
  (C4:∀ j,j<l.length→jD[j]?=cur[j]?) (C5:∀ (j:Nat) (v:Value),news[j]?=some v→jD[l.length+j]?=some v) (hlen:xu≤cap1) :
  aZ B aa J S w (H.set id .dead++[.grow (l++new) (H.length+1) z,.dead]) (.cj H.length (H.length+1) xu z) (.slice (some ⟨nb,0,none⟩) xu cap1) bH:=by
 classical
 let ay:Nat→Option aH:=fun au=>if au=nb then some (.obj H.length) else if au=b then none else match aa au with
  | some (.cell i j)=>if i=id then some (.cell H.length j) else some (.cell i j)
  | o=>o
 have aR:∀ au l',aa au=some l'→au<w.heap.size:=fun au l' h=>(ag.base au l' h).2;have zf:∀ au l',aa au=some l'→au≠b→au≠nb:=fun au l' h af e=>by
  subst e;rcases kJ with e | e
  ·exact af e
  ·have:=aR _ _ h;omega
 have hG:∀ au o,S au o→au≠b:=fun au o ah e=>bf o (e ▸ ah);have bx:∀ au o,S au o→bH.cell? ⟨au,o,none⟩=w.cell? ⟨au,o,none⟩:=fun au o ah=>by
  obtain ⟨v,ad⟩:=ag.cb au o ah;unfold World.cell?;simp only [hold au (mN ad) (hG au o ah)]
 have nO:∀ au,ay au≠none→aa au≠none∨w.heap.size≤au:=fun au af=>by
  by_cases ab:au=nb
  ·rcases kJ with e | e
   ·exact .inl (by rw [ab,e,aG];simp)
   ·exact .inr (by omega)
  ·refine .inl fun aQ=>af ?_;by_cases ae:au=b
   ·simp only [ay,ab,ae,if_false,if_true];rw [if_neg (by rw [←ae];exact ab)]
   ·simp only [ay,ab,ae,if_false,aQ]
 have az:bk aa S w ay S bH:=⟨aq,ax,pY,kR,fun au af aI=>hold au af (fun e=>by subst e;rw [aG] at aI;cases aI),fun au o ah=>⟨ah,bx au o ah⟩,fun _ _ h=>.inl h,nO⟩;have mn:(J++[nb,cap1])[H.length]?=some nb:=by rw [←ag.cH];simp
 have mo:(J++[nb,cap1])[H.length+1]?=some cap1:=by rw [←ag.cH];simp
 refine ⟨ay,J++[nb,cap1],S,Ext.append J _,az,⟨by simp [ag.cH],fun bB o h=>?_,fun au o ah=>?_,fun au l' af=>?_,sX ag.cX kR⟩,.cj _ _ _ _ nb cap1 mn mo hlen,trivial⟩
 ·rcases uJ bB H.length with ao | rfl | ao
  ·rw [sj (by simpa using ao)] at h;by_cases ct:bB=id
   ·subst ct;rw [sm ao] at h;cases h;trivial
   ·rw [sf (Ne.symm ct)] at h;refine (ag.obj bB o h).frame (Ext.append J _) az.set fun au l' af c8=>?_;have bI:au≠b:=fun e=>by
     subst e;rw [aG] at af;cases af;rcases c8 with h | ⟨j,h⟩
     ·cases h;exact ct rfl
     ·cases h
    refine ⟨?_,hold au (aR _ _ af) bI,fun _ h=>h⟩;simp only [ay,zf au l' af bI,bI,if_false,af];rcases c8 with rfl | ⟨j,rfl⟩
    ·rfl
    ·simp [ct]
  ·rw [sv (by simp)] at h;simp only [s8,tz,tK,Option.some.injEq] at h;subst h;refine ⟨nb,jD,e1,mn,by simp [ay],jJ,by rw [sE];exact dG,?_,fun j u v hu ad=>?_,cap1,mo,hm,bj,gM⟩
   ·rcases kJ with rfl | rfl
    ·exact bf
    ·exact mT ag
   ·by_cases aw:j<l.length
    ·rw [sj aw] at hu;rw [C4 j aw] at ad;obtain ⟨a7,a9,br,b5⟩:=bc j u v hu ad;refine ⟨a7,a9,br.mono (Ext.append J _) az.set,b5.mono (Ext.append J _) az.set fun au af=>?_⟩;(have bI:au≠b:=fun e=>by subst e;rw [aG] at af;cases af);refine ⟨?_,hold au (aR _ _ af) bI,fun _ h=>h⟩;simp only [ay,zf au _ af bI,bI,if_false,af,if_true]
    ·rw [sv (by omega)] at hu;have nK:=(sd.1 hu).1;have mm:j-l.length<news.length:=hnew.len ▸ nK;have bg:=C5 (j-l.length) _ (sk mm);rw [show l.length+(j-l.length)=j by omega,ad] at bg;obtain ⟨a7,a9,br⟩:=hnew.rel _ u v hu (by rw [sk mm,bg]);exact ⟨I.fu a7,a9,br.mono (Ext.append J _) az.set,aU.b3 a7⟩
  ·rw [sv (by simp;omega)] at h;rw [s8] at h;obtain ⟨k,al⟩:∃ k,bB-H.length=k+1:=⟨bB-H.length-1,by omega⟩;rw [al] at h;cases k with
   | zero=>simp at h;subst h;trivial
   | succ k=>simp at h
 ·obtain ⟨v,ad⟩:=ag.cb au o ah;exact ⟨v,(bx au o ah).trans ad⟩
 ·by_cases ab:au=nb
  ·rw [ab];refine ⟨?_,Dn⟩;rcases kJ with e | e
   ·rw [e];exact (ag.base b _ aG).1
   ·rw [e];exact ag.cX
  ·have:∃ cu,aa au=some cu:=by
    rcases nO au (by rw [af];simp) with h | h
    ·cases aQ:aa au with
     | none=>exact absurd aQ h
     | some cu=>exact ⟨cu,rfl⟩
    ·exfalso;by_cases ae:au=b
     ·have:=aR b _ aG;omega
     ·have aQ:aa au=none:=by
       cases aQ:aa au with
       | none=>rfl
       | some cu=>have:=aR au _ aQ;omega
      simp [ay,ab,ae,aQ] at af
   obtain ⟨cu,aQ⟩:=this;have:=ag.base au cu aQ;exact ⟨this.1,by omega⟩
theorem EM (ag:aK B aa J S w H) {l:aH} (n1:∀ id,l≠.obj id) (n2:∀ id j,l≠.cell id j) {cells:List I} {len z:Nat} (aQ:len≠0) {v:Value}
  (ai:Rel J S w (.av cells len (.uniq z)) v) (aq:aU aa J S w l (.av cells len (.uniq z)) v) :
  aZ B aa J S w (H++[.grow cells (H.length+1) z,.dead]) (.cj H.length (H.length+1) len z) v w:=by
 classical
 cases ai with
 | b2 c a=>exact absurd rfl aQ
 | av cells len c b o cap f ak hle hu h fq=>exact absurd rfl (hu z)
 | cM cells len z b o cap =>
   rcases aq with ⟨rfl,_,_⟩ | ⟨ab,aq,ae,aF,ba,bO,⟨cur,e,bP,cL,cO⟩,ck⟩
   ·exact absurd rfl aQ
   ·simp only at ab bP ck aq;subst aq
    let ay:Nat→Option aH:=fun au=>if au=b then some (.obj H.length) else aa au
    have az:bk aa S w ay S w:=⟨rfl,rfl,rfl,se _,fun _ _ _=>rfl,fun _ _ h=>⟨h,rfl⟩,fun _ _ h=>.inl h,fun au af=>by
     by_cases dF:au=b
     ·subst dF;exact .inl (by simp [ab])
     ·simp only [ay,dF,if_false] at af;exact .inl af⟩
    have bV:aK B ay J S w H:=by
     refine ag.frame az (fun au l' af ao=>?_) ag.cb (fun au l' af=>?_)
     ·have bI:au≠b:=fun e=>by
       subst e;rw [ab] at af;cases af;rcases ao with ⟨id,h⟩ | ⟨id,j,h⟩
       ·exact n1 _ h
       ·exact n2 _ _ h
      exact ⟨by simp [ay,bI,af],rfl,fun _ h=>h⟩
     ·by_cases dF:au=b
      ·subst dF;exact ag.base _ l ab
      ·simp only [ay,dF,if_false] at af;exact ag.base au l' af
    have cf:=(bV.push cap (o:=.dead) trivial);(have mn:(J++[b,cap])[H.length]?=some b:=by rw [←ag.cH];simp);(have mo:(J++[b,cap])[H.length+1]?=some cap:=by rw [←ag.cH];simp);refine ⟨ay,J++[b,cap],S,Ext.append J _,az,⟨by simp [ag.cH],fun bB o bD=>?_,ag.cb,bV.base,ag.cX⟩,.cj _ _ _ _ b cap mn mo ae,trivial⟩;rcases uJ bB H.length with ao | rfl | ao
    ·rw [sj ao] at bD;exact (bV.obj bB o bD).frame (Ext.append J _) (fun b o ah=>⟨ah,rfl⟩) fun b l af _=>⟨af,rfl,fun o ah=>ah⟩
    ·rw [sv (se _)] at bD;simp only [tz,tK,Option.some.injEq] at bD;subst bD;refine ⟨b,cur,e,mn,by simp [ay],bP,by rw [cL,bO];exact tb _ ae,ck,fun j u v hu ad=>?_,cap,mo,aF,ba,cL⟩;obtain ⟨a7,a9,br⟩:=cO j u v hu ad;exact ⟨I.fu a7,a9,br.mono (Ext.append J _) az.set,aU.b3 a7⟩
    ·rw [sv (by omega)] at bD;obtain ⟨k,al⟩:∃ k,bB-H.length=k+1:=⟨bB-H.length-1,by omega⟩;rw [al] at bD;cases k with
     | zero=>simp at bD;subst bD;trivial
     | succ k=>simp at bD
theorem FM (ag:aK B aa J S w H) {lo:Nat} {ts:Array TypeId} (ty:TypeId) {u x r:I} {v cD:Value} {cu l1:aH} (n1:∀ id,cu≠.obj id) (n2:∀ id j,cu≠.cell id j) (c9:∀ id,l1≠.obj id) (c_:∀ id j,l1≠.cell id j) (bI:cu≠l1)
  {H':List ar} (h:im P lo ts H [u,x]=some (r,H')) (ai:Rel J S w u v) (aq:aU aa J S w cu u v) (ee:Rel J S w x cD) (ib:aU aa J S w l1 x cD) :
  ∃ y w',(Builtin.append_ ts ty #[v,cD]).run P w=.ok y w'∧aZ B aa J S w H' r y w':=by
 unfold im at h;simp only at h;split at h
 ·rename_i t dj gN;obtain rfl:ts=#[t,dj]:=by rw [←tJ (xs:=ts),gN]
  split at h
  ·
   rename_i s c n ej;split at h
   ·rename_i cells iZ z eQ;split at h
    ·simp at h
    ·rename_i aI;simp only [Option.some.injEq,Prod.mk.injEq] at h;obtain ⟨rfl,rfl⟩:=h;obtain ⟨y,w',q1,bt,cg,bK,bT,b0,d_,fR,mX⟩:=Be ag ty n1 n2 c9 c_ bI eQ ai aq ee ib;have q:=EM d_ (l:=.res) (by simp) (by simp) aI fR mX;exact ⟨y,w',q1,aZ.after bT b0 q⟩
   ·simp at h
  ·
   rename_i s id gid len z;split at h
   ·split at h
    ·rename_i e l g cU ax aE;split at h
     ·rename_i sz bytes gu m new bQ af bj eQ;split at h
      ·rename_i ak;obtain ⟨rfl,rfl,rfl,rfl,ao,cZ,aQ,hm,er,zq,ep⟩:=ak;simp only [Option.some.injEq,Prod.mk.injEq] at h;obtain ⟨rfl,rfl⟩:=h;obtain ⟨i,hi,rfl⟩:=m' bQ;simp only [hi,sg,Option.some.injEq] at af;subst af;obtain ⟨a4,aJ,aN,bV,jY⟩:=mM ag c9 c_ ee ib;have dy:bk aa S w aa a4 w:=bk.settle aJ fun b o h=>(aN b o h).imp (fun h=>h) fun h=>⟨_,h⟩;obtain ⟨jZ,de,hi',dW,fc⟩:=hA (J:=J) (S:=a4) (w:=w) bj;rw [hi] at hi';cases hi';(have kU:gu.length=de.cells.size:=by simpa using fc.len);(have gO:de.cells.size=i.size:=by omega);obtain ⟨q1,aW⟩:=iw ep;replace eQ:=yy eQ;have aR:=(sd.1 aE).1;obtain ⟨au,cw,dR,vs,rfl,hnew,bx⟩:∃ b o c vs,cD=.slice (some ⟨b,o,none⟩) m c∧c2 J a4 w new vs∧(∀ j y,vs[j]?=some y→w.cell? ⟨b,o+j,none⟩=some y):=by
        rcases yx bV eQ jY (I.fu (I.di x)) with ⟨ab,_,c,rfl⟩ | h
        ·rw [ab] at cZ;simp at cZ;have:=vr hm aQ;omega
        ·exact h
       have eS:vs.length=m*i.size:=hnew.len ▸ cZ;obtain ⟨b,cur,ce,aA,aG,aT,bq,bf,bc,cap,da,du,dP,gC⟩:=bV.obj id _ aE;cases ai with
       | cj _ _ _ _ db GK iP y_ hle =>
         rw [aA] at iP;cases iP;rw [da] at y_;cases y_;have eo:∀ u∈vs,u.oneCell'=true:=fun u hu=>by
          obtain ⟨j,aw⟩:=sZ.1 hu;have aR:=(sd.1 aw).1;exact (hnew.rel j _ u (sk (hnew.len ▸ aR)) aw).2.1
         have CL:b<w.heap.size:=(sO.1 aT).1
         suffices ah:∃ y w',(Builtin.append_ #[t,t] ty #[.slice (some ⟨b,0,none⟩) len cap,.slice (some ⟨au,cw,none⟩) m dR]).run P w=.ok y w'∧aZ B aa J a4 w (H.set id .dead++[.grow (l++new) (H.length+1) i.size,.dead]) (.cj H.length (H.length+1) (len+m) i.size) y w' by
          obtain ⟨y,w',bT,b0⟩:=ah;exact ⟨y,w',bT,aZ.after (Ext.refl J) dy b0⟩
         by_cases dG:len+m≤cap
         ·have jK:(len+m)*i.size≤cap*i.size:=tb _ dG;rw [td] at jK;have ai:=AW (P:=P) w t ty e i ax hi b len cap cur ce aT ⟨au,cw,none⟩ m dR vs eS (fun j x h=>by rw [add_lit];exact bx j x h) eo dG (by rw [gC];omega);(have ab:cur.toList.length=cap*i.size:=by simp [gC]);refine ⟨_,_,ai,?_⟩;refine Ah bV aR aG bf bc (nb:=b) (cap1:=cap) (e1:=ce) (hnew:=hnew) (by exact rfl) (by exact rfl) (by exact rfl) (by simp [World.setRow]) (fun bl _ gJ=>by exact setRow_other w b bl _ gJ) (.inl rfl) (by simpa [World.setRow] using CL) (by exact setRow_heap w b cur _ ce (0,0) aT) ?_ du dP ?_ (fun j aw=>?_) (fun j v aw=>?_) dG
          ·rw [tn,sE,sE,te,tA,ab,eS,uh (by omega)];omega
          ·rw [tn,sE,sE,te,tA,ab,eS,uh (by omega),ao,cZ];omega
          ·have:=jj cur.toList vs (len*i.size) j (by rw [ab];omega);rw [if_neg (by omega)] at this;simpa using this
          ·have ml:=(sd.1 aw).1;have:=jj cur.toList vs (len*i.size) (l.length+j) (by rw [ab];omega);rw [if_pos ⟨by omega,by omega⟩,ao,show len*i.size+j-len*i.size=j by omega,aw] at this;rw [ao];simpa using this
         ·have Dg:len+m≤140737488355328:=sX (tQ _ aW) q1;(have en:len+m≤maxLen:=by simp only [maxLen];omega);have cE:len*i.size≤cap*i.size:=tb _ hle;have fI:(cur.toList.take (len*i.size)).length=len*i.size:=by rw [te];simp;omega
          have ai:=run_append_grow (P:=P) w t ty e i de ax hi dW ⟨b,0,none⟩ len cap (cur.toList.take (len*i.size)) fI (fun j x h=>by
           rw [sL] at h;split at h
           ·rw [add_lit,sG,cell_of_row w b _ cur ce (0,0) aT];simpa using h
           ·simp at h) ⟨au,cw,none⟩ m dR vs eS (fun j x h=>by rw [add_lit];exact bx j x h) (by omega) (by omega) (growslice_fits (by omega) q1)
          have fe:=grownCap_ge w (len+m) cap e;have zb:=grownCap_le_maxLen w (len+m) cap e en;generalize grownCap w (len+m) cap e=fb at fe zb ai;refine ⟨_,_,ai,?_⟩;refine Ah bV aR aG bf bc (nb:=w.heap.size) (cap1:=fb) (e1:=e) (hnew:=hnew) (by exact rfl) (by exact rfl) (by exact rfl) (by simp) (fun bl gJ _=>by exact heap_alloc_old w.drew _ bl gJ) (.inr rfl) (by simp) (by exact heap_alloc_new w.drew _) ?_ zb dP ?_ (fun j aw=>?_) (fun j v aw=>?_) fe
          ·simp only [uM,tn,fI,eS,size_zeroCells,gO];rw [←td,←td];congr 1;omega
          ·simp only [uM,tn,fI,eS,size_zeroCells,gO,ao,cZ];omega
          ·rw [ao] at aw;rw [vt (by simp only [uM,tn,fI];omega),vt (by simp only [tn,fI];omega)];simp [aw]
          ·have ml:=(sd.1 aw).1;rw [ao,vt (by simp only [uM,tn,fI];omega),Array.getElem?_append_right (by simp only [tn,fI];omega)];simp only [tn,fI,show len*i.size+j-len*i.size=j by omega];simpa using aw
      ·simp at h
     ·simp at h
    ·simp at h
   ·simp at h
  ·simp at h
 ·simp at h
theorem FG (ag:aK B aa J S w H) (lo:Nat) (vs:List I):aK B aa J S w (jl lo H vs):=by
 unfold jl;split
 ·rename_i id _ len z _;split
  ·rename_i l g cU aE;split
   ·refine ⟨by simpa using ag.cH,fun bB o aq=>?_,ag.cb,ag.base,ag.cX⟩;by_cases ct:bB=id
    ·subst ct;rw [sm (sd.1 aE).1] at aq;cases aq;obtain ⟨b,cur,e,aA,aG,aT,bq,bf,bc,da⟩:=ag.obj bB _ aE;refine ⟨b,cur,e,aA,aG,aT,sX (by rw [te];omega) bq,bf,fun j u v hu ad=>?_,da⟩;rw [sL] at hu;split at hu
     ·exact bc j u v hu ad
     ·simp at hu
    ·rw [sf (Ne.symm ct)] at aq;exact ag.obj bB o aq
   ·exact ag
  ·exact ag
 ·exact ag
theorem FL (ag:aK B aa J S w H) {lo:Nat} {ts:Array TypeId} (ty:TypeId) {u x r:I} {v cD:Value} {cu l1:aH} (n1:∀ id,cu≠.obj id) (n2:∀ id j,cu≠.cell id j) (c9:∀ id,l1≠.obj id) (c_:∀ id j,l1≠.cell id j) (bI:cu≠l1)
  {H':List ar} (h:i' P lo ts H [u,x]=some (r,H')) (ai:Rel J S w u v) (aq:aU aa J S w cu u v) (ee:Rel J S w x cD) (ib:aU aa J S w l1 x cD) :
  ∃ y w',(Builtin.append_ ts ty #[v,cD]).run P w=.ok y w'∧aZ B aa J S w H' r y w' :=
 FM (FG ag lo [u,x]) ty n1 n2 c9 c_ bI h ai aq ee ib
end
end Go.Proofs.Ytkoioidpbbbaiaa.Ab


namespace Go.Proofs.Ytkoioidpbbbaiaa.Ab
open Go
section
variable {P:Program} {B:Nat} {J:List Nat} {w:World} {H:List ar} {aa:Nat→Option aH} {S:Nat→Nat→Prop}
theorem mF {ts:Array TypeId} (h:iX P ts[0]?=true):∃ t e,ts[0]?=some t∧P.underlying t=some (.slice e):=by
 unfold iX at h;split at h
 ·rename_i e he;simp only [si] at he;obtain ⟨t,ab,ae⟩:=he;exact ⟨t,e,ab,ae⟩
 ·simp at h
theorem FY (ag:aK B aa J S w H) {ts:Array TypeId} (ty:TypeId) {u r:I} {H':List ar} {v:Value} (h:hs P ts H [u]=some (r,H')) (ai:Rel J S w u v) :
  ∃ y,(Builtin.len_ ts ty #[v]).run P w=.ok y w∧aZ B aa J S w H' r y w:=by
 simp only [hs] at h;split at h
 ·split at h
  ·rename_i ah;obtain ⟨t,e,ax,he⟩:=mF ah;simp only [Option.some.injEq,Prod.mk.injEq] at h;obtain ⟨rfl,rfl⟩:=h;have ad:∃ a c,v=.slice a _ c:=mL (n:=_) rfl ai;obtain ⟨a,c,rfl⟩:=ad;exact ⟨_,by simp [Builtin.len_,ax,run_underlying he,goInt],aZ.same ag (.int _ _) rfl⟩
  ·simp at h
 ·split at h
  ·rename_i ah;obtain ⟨t,e,ax,he⟩:=mF ah;simp only [Option.some.injEq,Prod.mk.injEq] at h;obtain ⟨rfl,rfl⟩:=h;have ad:∃ a c,v=.slice a _ c:=mL (n:=_) rfl ai;obtain ⟨a,c,rfl⟩:=ad;exact ⟨_,by simp [Builtin.len_,ax,run_underlying he,goInt],aZ.same ag (.int _ _) rfl⟩
  ·simp at h
 ·split at h
  ·rename_i _ _ ax aE;simp only [si] at ax;obtain ⟨t,ax,he⟩:=ax;simp only [Option.some.injEq,Prod.mk.injEq] at h;obtain ⟨rfl,rfl⟩:=h;obtain ⟨b,bA,aA,aG,aT,bq,bf,bc⟩:=ag.obj _ _ aE;cases ai with
   | map _ au k =>
     rw [aA] at k;cases k;exact ⟨_,by simp [Builtin.len_,ax,run_underlying he,goInt,getObj,Sem.run,aT,bq],aZ.same ag (.int _ _) rfl⟩
  ·simp at h
 ·split at h
  ·rename_i n e he;simp only [si] at he;obtain ⟨t,ax,he⟩:=he;simp only [Option.some.injEq,Prod.mk.injEq] at h;obtain ⟨rfl,rfl⟩:=h;exact ⟨_,by simp [Builtin.len_,ax,run_underlying he,goInt],aZ.same ag (.int _ _) rfl⟩
  ·simp at h
theorem FT (ag:aK B aa J S w H) {ts:Array TypeId} (ty:TypeId) {u r:I} {H':List ar} {v:Value} (h:j6 P ts H [u]=some (r,H')) (ai:Rel J S w u v) :
  ∃ y,(Builtin.cap_ ts ty #[v]).run P w=.ok y w∧aZ B aa J S w H' r y w:=by
 unfold j6 at h;split at h
 ·rename_i cs n heq;simp only [List.cons.injEq,and_true] at heq;subst heq;split at h
  ·rename_i ah;obtain ⟨t,e,ax,he⟩:=mF ah;simp only [Option.some.injEq,Prod.mk.injEq] at h;obtain ⟨rfl,rfl⟩:=h;have ad:∃ a,v=.slice a n n:=by
    cases ai with
    | b2=>exact ⟨_,rfl⟩
    | av _ _ _ b o cap f ak=>exact ⟨_,by rw [ak rfl]⟩
   obtain ⟨a,rfl⟩:=ad;exact ⟨_,by simp [Builtin.cap_,ax,run_underlying he,goInt],aZ.same ag (.int _ _) rfl⟩
  ·simp at h
 ·rename_i id off len n sz heq;simp only [List.cons.injEq,and_true] at heq;subst heq;split at h
  ·rename_i ah;obtain ⟨t,e,ax,he⟩:=mF ah;simp only [Option.some.injEq,Prod.mk.injEq] at h;obtain ⟨rfl,rfl⟩:=h;have ad:∃ a,v=.slice a len n:=by
    cases ai with
    | ref _ _ _ _ _ b cap _ ak=>exact ⟨_,by rw [ak n rfl]⟩
   obtain ⟨a,rfl⟩:=ad;exact ⟨_,by simp [Builtin.cap_,ax,run_underlying he,goInt],aZ.same ag (.int _ _) rfl⟩
  ·simp at h
 ·simp at h
theorem A5 {k:IntKind}:∀ (us:List I) (a n:Int) (vs:List Value) (bz:Nat→aH),k4 us a=some n→a5 bz aa J S w us vs→(vs.foldlM Builtin.min2 (.int k a)).run P w=.ok (.int k n) w
 | [],a,n,vs,bz,h,ad=>by
   cases vs with
   | cons=>exact absurd ad.len (by simp)
   | nil=>simp only [k4,Option.some.injEq] at h;subst h;rfl
 | u::us,a,n,vs,bz,h,ad=>by
   obtain ⟨v1,t1,rfl,aS,_,dd⟩:=ad.g1;unfold k4 at h;split at h
   ·rename_i heq;simp at heq
   ·rename_i k' b r _ heq;simp only [List.cons.injEq] at heq;obtain ⟨rfl,rfl⟩:=heq;have e1:=aS.df;subst e1;simp only [List.foldlM_cons,Builtin.min2,pure_bind];exact A5 _ _ _ _ _ h dd
   ·cases h
theorem A4 {k:IntKind}:∀ (us:List I) (a n:Int) (vs:List Value) (bz:Nat→aH),k3 us a=some n→a5 bz aa J S w us vs→(vs.foldlM Builtin.max2 (.int k a)).run P w=.ok (.int k n) w
 | [],a,n,vs,bz,h,ad=>by
   cases vs with
   | cons=>exact absurd ad.len (by simp)
   | nil=>simp only [k3,Option.some.injEq] at h;subst h;rfl
 | u::us,a,n,vs,bz,h,ad=>by
   obtain ⟨v1,t1,rfl,aS,_,dd⟩:=ad.g1;unfold k3 at h;split at h
   ·rename_i heq;simp at heq
   ·rename_i k' b r _ heq;simp only [List.cons.injEq] at heq;obtain ⟨rfl,rfl⟩:=heq;have e1:=aS.df;subst e1;simp only [List.foldlM_cons,Builtin.max2,pure_bind];exact A4 _ _ _ _ _ h dd
   ·cases h
theorem F8 {us:List I} {r:I} (ts:Array TypeId) (ty:TypeId) {bz:Nat→aH} {vs:List Value} (h:n9 us=some r) (ad:a5 bz aa J S w us vs) :
  ∃ y,(Builtin.min_ ts ty vs.toArray).run P w=.ok y w∧Rel J S w r y∧r.plain=true:=by
 unfold n9 at h;split at h
 ·simp only [sb] at h;obtain ⟨n,h,rfl⟩:=h;obtain ⟨v1,t1,rfl,aS,_,dd⟩:=ad.g1;have e1:=aS.df;subst e1;exact ⟨_,by simp only [Builtin.min_];exact A5 _ _ _ _ _ h dd,.int _ _,rfl⟩
 ·simp at h
theorem F7 {us:List I} {r:I} (ts:Array TypeId) (ty:TypeId) {bz:Nat→aH} {vs:List Value} (h:n8 us=some r) (ad:a5 bz aa J S w us vs) :
  ∃ y,(Builtin.max_ ts ty vs.toArray).run P w=.ok y w∧Rel J S w r y∧r.plain=true:=by
 unfold n8 at h;split at h
 ·simp only [sb] at h;obtain ⟨n,h,rfl⟩:=h;obtain ⟨v1,t1,rfl,aS,_,dd⟩:=ad.g1;have e1:=aS.df;subst e1;exact ⟨_,by simp only [Builtin.max_];exact A4 _ _ _ _ _ h dd,.int _ _,rfl⟩
 ·simp at h
theorem BF (ag:aK B aa J S w H) {lo id off len sz n:Nat} {H':List ar} {cs:List I} {vs:List Value} (eB:c2 J S w cs vs) (cE:cs.length=n) (aI:n≤len*sz)
  (h:fP lo H id (fun l=>if off+len*sz≤l.length then some (setCells off cs l) else none)=some H') {b:Nat} (af:J[id]?=some b) :
  ∃ w',(storeCells ⟨b,off,none⟩ vs).run P w=.ok () w'∧∃ ay,bk aa S w ay S w'∧aK B ay J S w' H'∧∃ cur e cur' cS,w.heap[b]?=some (.cells cur e (0,0))∧w'.heap[b]?=some (.cells cur' cS (0,0))∧cur'.size=cur.size:=by
 unfold fP at h;split at h
 ·split at h
  ·rename_i ll aE;simp only [sb] at h;obtain ⟨l',c8,rfl⟩:=h;split at c8
   ·rename_i ak;cases c8;obtain ⟨au,cur,e,aA,aG,aT,bq,bf,bc⟩:=ag.obj id _ aE;rw [af] at aA;cases aA;have xh:vs.length=n:=eB.len ▸ cE;have eo:∀ u∈vs,u.oneCell'=true:=fun u hu=>by
     obtain ⟨j,aw⟩:=sZ.1 hu;have aR:=(sd.1 aw).1;exact (eB.rel j _ u (sk (eB.len ▸ aR)) aw).2.1
    have cG:=run_storeCells_at P b off e vs 0 cur w aT (by omega) eo;simp only [tj] at cG;obtain ⟨ay,az,b7⟩:=od (cur':=(cur.toList.take off++vs++cur.toList.drop (off+vs.length)).toArray) (l':=setCells off cs ll) ag aE af aG aT bf .res (by simp) (by simp)
     (by simp [lq];omega) 0 (fun j bG bn hu ad=>by
      rw [m8 _ _ _ _ (by omega)] at hu;(have ad:(cur.toList.take off++vs++cur.toList.drop (off+vs.length))[j]?=some bn:=by simpa using ad);rw [jj cur.toList vs off j (by have CR:cur.toList.length=cur.size:=s7;omega)] at ad;rw [eB.len] at hu;split at hu
      ·rename_i aw;rw [if_pos aw] at ad;obtain ⟨a7,a9,br⟩:=eB.rel _ bG bn hu ad;exact ⟨I.fu a7,a9,br,.inl a7⟩
      ·rename_i aw;rw [if_neg aw] at ad;obtain ⟨d1,d0,d2,d3⟩:=bc j bG bn hu (by simpa using ad)
       exact ⟨d1,d0,d2,.inr (.inl d3)⟩)
    exact ⟨_,cG,ay,az,b7,cur,e,_,e,aT,setRow_heap w b cur _ e (0,0) aT,by have CR:cur.toList.length=cur.size:=s7;simp;omega⟩
   ·simp at c8
  ·simp at h
 ·simp at h
theorem BE (ag:aK B aa J S w H) {lo id off len sz n:Nat} {H':List ar} {cs:List I} {vs:List Value} (eB:c2 J S w cs vs) (cE:cs.length=n) (aI:n≤len*sz)
  (h:fP lo H id (fun l=>if off+len*sz≤l.length then some (setCells off cs l) else none)=some H') {b:Nat} (af:J[id]?=some b) :
  ∃ w',(storeCells ⟨b,off,none⟩ vs).run P w=.ok () w'∧∃ ay,bk aa S w ay S w'∧aK B ay J S w' H':=by
 obtain ⟨w',ab,ay,ae,aF,_⟩:=BF (P:=P) ag eB cE aI h af;exact ⟨w',ab,ay,ae,aF⟩
theorem Gz (ag:aK B aa J S w H) {lo id off len sz n:Nat} {H':List ar} {cs:List I} {vs:List Value} (eB:c2 J S w cs vs) (cE:cs.length=n) (aI:n≤len*sz)
  (h:gQ lo H id (fun l=>if off+len*sz≤l.length then some (setCells off cs l) else none)=some H') {b:Nat} (af:J[id]?=some b) :
  ∃ w',(storeCells ⟨b,off,none⟩ vs).run P w=.ok () w'∧∃ ay,bk aa S w ay S w'∧aK B ay J S w' H':=by
 unfold gQ at h;split at h
 ·rename_i bC;split at h
  ·rename_i ll aE;exact BE (P:=P) (lo:=lo) ag eB cE aI (by unfold fP;rw [if_pos bC,aE];exact h) af
  ·rename_i ll g z aE;simp only [sb] at h;obtain ⟨l',c8,rfl⟩:=h;have aR:=(sd.1 aE).1;obtain ⟨db,cur,e,aA,aG,aT,bq,bf,bc,cap,da,du,dP,gC⟩:=ag.obj id _ aE;rw [af] at aA;cases aA
   obtain ⟨w',q1,ay,aW,cC,Ch,f_,jD,e1,dD,m2,xO⟩:=BF (P:=P) (lo:=lo) (id:=id) (H':=(H.set id (.cells ll)).set id (.cells l')) (ag.oP aE) eB cE aI (by
    unfold fP;rw [if_pos bC,sm aR];exact congrArg (Option.map _) c8) af
   rw [aT] at dD;cases dD;have aO:=cC.xS (g:=g) (z:=z) (by rw [sm (by simpa using aR)]) af da du dP m2 (by rw [xO,gC]);rw [sY,sY] at aO;exact ⟨w',q1,ay,aW,aO⟩
  ·simp at h
 ·simp at h
theorem FV (ag:aK B aa J S w H) {lo:Nat} {ts:Array TypeId} (ty:TypeId) {u x r:I} {H':List ar} {v cD:Value} {l1:aH} (c9:∀ id,l1≠.obj id) (c_:∀ id j,l1≠.cell id j)
  (h:j7 P lo ts H [u,x]=some (r,H')) (ai:Rel J S w u v) (ee:Rel J S w x cD) (ib:aU aa J S w l1 x cD) :
  ∃ y w',(Builtin.copy_ ts ty #[v,cD]).run P w=.ok y w'∧aZ B aa J S w H' r y w':=by
 obtain ⟨a4,aJ,aN,bV,jY⟩:=mM ag c9 c_ ee ib;have dy:bk aa S w aa a4 w:=bk.settle aJ fun b o h=>(aN b o h).imp (fun h=>h) fun h=>⟨_,h⟩;unfold j7 at h;split at h
 ·rename_i id off len cap sz nc heq;simp only [List.cons.injEq,and_true] at heq;obtain ⟨rfl,rfl⟩:=heq;split at h
  ·rename_i e he;simp only [si] at he;obtain ⟨t,ax,he⟩:=he;split at h
   ·rename_i s m row ah hm cF;split at h
    ·rename_i ak;obtain ⟨rfl,DB⟩:=ak;simp only [sb] at h;obtain ⟨H2,hw,h⟩:=h;simp only [Prod.mk.injEq] at h;obtain ⟨rfl,rfl⟩:=h;have Dk:lenOf x.view=some m:=by
      cases x <;> try exact hm
      ·rename_i c;cases c <;> exact hm
      ·simp [lenOf] at hm
     have nS:rowOf H x.view=some row:=by
      cases x <;> try exact cF
      ·rename_i c;cases c <;> exact cF
      ·simp [rowOf] at cF
     have hg:=I.fu (I.di x);cases ai with
     | ref _ _ _ _ _ b cap' af CP hle =>
       obtain ⟨a,c,gh⟩:=mL Dk jY;have DF:∃ vs,c2 J a4 w row vs∧∀ n,n≤m→(Builtin.firstCells s n cD).run P w=.ok (vs.take (n*s)).toArray w:=by
        rcases x8 bV nS jY hg with ⟨aQ,n,dR,ad⟩ | ⟨cr,bJ,n,dR,vs,ad,gL,bx⟩
        ·refine ⟨[],⟨by simp [aQ],by simp [aQ]⟩,fun iZ aI=>?_⟩;(have G0:m=0:=by rw [ad] at gh;cases gh;rfl);rw [ad];(obtain rfl:iZ=0:=by omega);cases n <;> simp [Builtin.firstCells,loadCells,loadCellsFrom]
        ·refine ⟨vs,gL,fun iZ aI=>?_⟩;rw [ad] at gh ⊢;cases gh;have xh:vs.length=m*s:=gL.len ▸ DB;have Df:iZ*s≤m*s:=tb _ aI
         exact run_firstCells_some (P:=P) w s iZ ⟨cr,bJ,none⟩ m c (vs.take (iZ*s)) (by simp;omega) (fun j y aY=>by
          rw [sL] at aY;split at aY
          ·rw [add_lit];exact bx j y aY
          ·simp at aY)
       obtain ⟨vs,gL,CZ⟩:=DF;have G1:min m len*s≤m*s:=tb _ (Nat.min_le_left _ _)
       have CU:c2 J a4 w (row.take (min m len*s)) (vs.take (min m len*s)):=⟨by simp [gL.len],fun j bG bn b8 bg=>by
        rw [sL] at b8 bg;split at b8
        ·rename_i aw;rw [if_pos aw] at bg;exact gL.rel j bG bn b8 bg
        ·simp at b8⟩
       obtain ⟨w',cG,ay,az,b7⟩:=BE (P:=P) (n:=min m len*s) bV CU (by simp;omega) (tb _ (Nat.min_le_right _ _)) hw af;refine ⟨.int .i64 (min m len:Nat),w',?_,ay,J,a4,Ext.refl J,dy.trans az,b7,.int _ _,aU.b3 rfl⟩;subst gh;have aP:=CZ (min m len) (Nat.min_le_left _ _);simp only [Builtin.copy_,ax,List.getElem?_toArray,tK,ug,Sem.run_bind,run_underlying he,Result.andThen_ok,Builtin.lenOf,Sem.run_pure,run_sizeOf ah];rw [show Nat.min m len=min m len from rfl,aP];simp [cG,goInt]
    ·simp at h
   ·simp at h
  ·simp at h
 ·simp at h
theorem FU (ag:aK B aa J S w H) {lo:Nat} {ts:Array TypeId} (ty:TypeId) {u r:I} {H':List ar} {v:Value} (h:k8 P lo ts H [u]=some (r,H')) (ai:Rel J S w u v) :
  ∃ y w',(Builtin.clear_ ts ty #[v]).run P w=.ok y w'∧aZ B aa J S w H' r y w':=by
 have done:∀ {H2:List ar},aK B aa J S w H2→aZ B aa J S w H2 (.tuple []) (.tuple #[]) w:=fun cf=>aZ.same cf (.tuple [] #[] rfl (by simp) (by simp)) rfl;unfold k8 at h;split at h
 ·rename_i id off len cap sz heq;simp only [List.cons.injEq,and_true] at heq;subst heq;split at h
  ·rename_i e he;simp only [si] at he;obtain ⟨t,ax,he⟩:=he;split at h
   ·rename_i s z ah bj;split at h
    ·rename_i ak;obtain ⟨rfl,er,bQ⟩:=ak;simp only [sb,Prod.mk.injEq] at h;obtain ⟨H2,hw,rfl,rfl⟩:=h;obtain ⟨i,de,hi,dW,fc⟩:=hA (J:=J) (S:=S) (w:=w) bj;have fM:=nd fc (by omega) len;cases ai with
     | ref _ _ _ _ _ b cap' af CP hle =>
       obtain ⟨w',cG,ay,az,b7⟩:=Gz (P:=P) (n:=len*s) ag fM (by rw [iu,er]) (se _) hw af;(have kU:z.length=de.cells.size:=by simpa using fc.len);have heq:(Builtin.zeroCells de.cells len).toList=((Array.range (len*z.length)).map (fun i=>de.cells[i % de.cells.size]!)).toList:=by
        simp [Builtin.zeroCells,kU]
       rw [←heq] at cG;cases len with
       | zero =>
         have mA:w'=w:=by
          (have aQ:(Builtin.zeroCells de.cells 0).toList=[]:=by simp [Builtin.zeroCells]);rw [aQ] at cG;simp [storeCells] at cG;exact cG.symm
         subst mA;refine ⟨.tuple #[],w',by simp [Builtin.clear_,ax,run_underlying he],ay,J,S,Ext.refl J,az,b7,.tuple [] #[] rfl (by simp) (by simp),aU.b3 rfl⟩
       | succ n =>
         refine ⟨.tuple #[],w',?_,ay,J,S,Ext.refl J,az,b7,.tuple [] #[] rfl (by simp) (by simp),aU.b3 rfl⟩;simp [Builtin.clear_,ax,run_underlying he,ji hi dW,cG]
    ·simp at h
   ·simp at h
  ·simp at h
 ·rename_i c heq;simp only [List.cons.injEq,and_true] at heq;subst heq;split at h
  ·rename_i ah;obtain ⟨t,e,ax,he⟩:=mF ah;simp only [Option.some.injEq,Prod.mk.injEq] at h;obtain ⟨rfl,rfl⟩:=h;have ad:∃ a c,v=.slice a 0 c:=mL (n:=0) rfl ai;obtain ⟨a,c,rfl⟩:=ad;refine ⟨.tuple #[],w,?_,done ag⟩;cases a <;> simp [Builtin.clear_,ax,run_underlying he]
  ·simp at h
 ·simp at h
theorem pc (off:Nat):∀ (xs:List Value) (k:Nat) (cells:Array Value) (j:Nat),off+k+xs.length≤cells.size →
  ((xs.zipIdx k).foldl (fun cs (x:Value×Nat)=>cs.setIfInBounds (off+x.2) x.1) cells)[j]?=if off+k≤j∧j<off+k+xs.length then xs[j-(off+k)]? else cells[j]?
 | [],k,cells,j,_=>by simp;omega
 | x::xs,k,cells,j,h=>by
   simp only [sM] at h;simp only [List.zipIdx_cons,List.foldl_cons];rw [pc off xs (k+1) _ j (by simp;omega)];by_cases ab:j=off+k
   ·subst ab;rw [if_neg (by omega),if_pos (by simp)];simp [show off+k<cells.size by omega]
   ·by_cases ae:off+(k+1)≤j∧j<off+(k+1)+xs.length
    ·rw [if_pos ae,if_pos (by simp;omega)];obtain ⟨m,rfl⟩:∃ m,j=off+(k+1)+m:=⟨j-(off+(k+1)),by omega⟩;rw [show off+(k+1)+m-(off+(k+1))=m by omega,show off+(k+1)+m-(off+k)=m+1 by omega];simp
    ·rw [if_neg ae,if_neg (by simp;omega),Array.getElem?_setIfInBounds_ne (by omega)]
theorem EI {u:I} {v:Value} {vc:List I} (ak:u.cells=some vc) (ai:Rel J S w u v) (aB:u.plain=true):c2 J S w vc v.cells.toList:=by
 have single:vc=[u]→v.cells=#[v]→v.oneCell'=true→c2 J S w vc v.cells.toList:=by
  intro ab ae aF;subst ab;rw [ae];refine ⟨rfl,fun j bG bn hu ad=>?_⟩;cases j with
  | zero=>simp at hu ad;subst hu ad;exact ⟨aB,aF,ai⟩
  | succ j=>simp at hu
 cases ai with
 | agg as vs h p one r =>
   simp [I.cells] at ak;subst ak;exact ⟨by simpa [Value.cells] using h.symm,fun j bG bn hu ad=>⟨p bG (sy hu),one bn (sy ad),r j bG bn hu (by simpa [Value.cells] using ad)⟩⟩
 | a0 v=>simp [I.cells] at ak
 | tuple as vs h p r=>simp [I.cells] at ak
 | raw=>simp [I.cells] at ak
 | c0=>simp [I.cells] at ak
 | _=>simp [I.cells] at ak;exact single ak.symm rfl rfl
theorem kz {place:Nat→Option (Nat×Nat)}:∀ (parts:List (Nat×I)) (parts':List (Nat×Value)) (cs c7:List I) (vs:Array Value),
  parts.map (·.1)=parts'.map (·.1)→(∀ (j:Nat) (x:Nat×I) (y:Nat×Value),parts[j]?=some x→parts'[j]?=some y→x.2.plain=true∧Rel J S w x.2 y.2) →
  fz place cs parts=some c7→c2 J S w cs vs.toList→∃ cV,Instr.fill place vs parts'=some cV∧c2 J S w c7 cV.toList
 | [],parts',cs,c7,vs,hi,_,h,ak=>by
   cases parts' with
   | nil=>simp [fz] at h;subst h;exact ⟨vs,rfl,ak⟩
   | cons=>simp at hi
 | (i,u)::parts,parts',cs,c7,vs,hi,b1,h,ak=>by
   cases parts' with
   | nil=>simp at hi
   | cons y parts' =>
     obtain ⟨jZ,v⟩:=y;simp only [List.map_cons,List.cons.injEq] at hi;obtain ⟨rfl,hi⟩:=hi;obtain ⟨aB,ai⟩:=b1 0 (i,u) (i,v) rfl rfl;simp only [fz] at h;split at h
     ·rename_i off size hg;split at h
      ·rename_i vc fL;split at h
       ·rename_i g';obtain ⟨bQ,hle⟩:=g';have eB:=EI fL ai aB;(have xh:v.cells.size=size:=by have:=eB.len;simp at this;omega);(have cE:vs.size=cs.length:=by have:=ak.len;simp at this;omega);have bm:c2 J S w (setCells off vc cs) (v.cells.zipIdx.foldl (fun cs (x:Value×Nat)=>cs.setIfInBounds (off+x.2) x.1) vs).toList:=by
         refine ⟨?_,fun j bG bn hu ad=>?_⟩
         ·rw [lq];have pD:∀ (l:List (Value×Nat)) (a:Array Value),(l.foldl (fun cs (x:Value×Nat)=>cs.setIfInBounds (off+x.2) x.1) a).size=a.size:=by
           intro l;induction l with
           | nil=>intro a;rfl
           | cons x l a8=>intro a;simp [a8]
          have:=pD v.cells.zipIdx.toList vs;simp only [s7];rw [←cE,←this,←uP]
         ·rw [m8 _ _ _ _ (by omega)] at hu;have aO:=pc off v.cells.toList 0 vs j (by simp;omega);(have dd:(v.cells.zipIdx.foldl (fun cs (x:Value×Nat)=>cs.setIfInBounds (off+x.2) x.1) vs)[j]?=some bn:=by simpa using ad);rw [←uP,Array.toList_zipIdx] at dd;rw [aO] at dd;simp only [tj,s7,xh] at dd;rw [bQ] at hu;split at hu
          ·rename_i aw;rw [if_pos aw] at dd;exact eB.rel _ bG bn hu dd
          ·rename_i aw;rw [if_neg aw] at dd;exact ak.rel j bG bn hu (by simpa using dd)
        obtain ⟨cV,ab,ae⟩:=kz parts parts' (setCells off vc cs) c7 _ hi (fun j x y aj aY=>b1 (j+1) x y (by simpa using aj) (by simpa using aY)) h bm;exact ⟨cV,by simp only [Instr.fill,hg];rw [if_neg (by simp;omega)];exact ab,ae⟩
       ·simp at h
      ·simp at h
     ·simp at h
end
end Go.Proofs.Ytkoioidpbbbaiaa.Ab
