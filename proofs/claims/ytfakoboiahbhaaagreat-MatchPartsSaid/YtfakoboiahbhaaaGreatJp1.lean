
import Derived.RangeFuncLeaves
import Derived.RangeFuncCalls
import Derived.KernelRfl
import Derived.Laws.AppendOwn
import Derived.OrdersIn
import Derived.Below
import Derived.IntWalk
import Derived.Laws.MakeOwn
set_option linter.unusedSimpArgs false
set_option linter.unusedVariables false
set_option linter.unusedSectionVars false

open Array renaming foldl_toList→vD,getD_eq_getD_getElem?→sk,getElem?_append_left→vA,getElem?_eq_getElem→sv,getElem?_eq_some_iff→sS,getElem?_map→uX,length_toList→tt,mem_of_getElem?→vv,size_append→u5,toArray_toList→t_
open Int renaming natCast_mul→uZ,toNat_of_nonneg→tK
open List renaming all_eq_true→ss,append_assoc→sy,append_nil→sV,eq_nil_of_length_eq_zero→vz,forIn_cons→vr,getD_eq_getElem?_getD→sC,getElem?_append_left→se,getElem?_append_right→sB,getElem?_cons_zero→ua,getElem?_drop→sY,getElem?_eq_getElem→sd,getElem?_eq_some_iff→rV,getElem?_map→sm,getElem?_set→uW,getElem?_set_ne→sa,getElem?_set_self→rY,getElem?_take→sR,length_append→sj,length_cons→sD,length_drop→tV,length_eq_zero_iff→tn,length_set→tz,length_take→s_,mem_iff_getElem?→tu,mem_map→sq,mem_of_getElem?→sA,mem_of_mem_drop→vp,mem_of_mem_take→uK,set_set→rZ,size_toArray→tG,take_zero→tI
open Nat renaming add_assoc→tE,add_comm→td,add_mul→tp,add_zero→tJ,le_mul_of_pos_right→tZ,le_refl→rX,le_trans→sJ,lt_or_ge→sO,lt_trichotomy→vu,min_eq_left→tL,mul_le_mul_right→tj,mul_pos→vw,sub_self→tT,zero_add→sP,zero_mul→vt
open Option renaming bind_eq_some_iff→sb,getD_some→uq,map_eq_some_iff→rU,map_some→sc
namespace Go.Proofs.YtfakoboiahbhaaaGreat.Ab
open Go
inductive ir where
 | shared | full | own (z:Nat) | uniq (z:Nat)
 deriving DecidableEq
inductive I where
 | junk
 | bool (b:Bool)
 | int (k:IntKind) (n:Int)
 | eC
 | ptr (id off:Nat)
 | bW (cells:List I)
 | ay (cells:List I) (len:Nat) (c:ir)
 | ref (id off len:Nat) (cap:Option Nat) (sz:Nat)
 | func (f:FuncId) (first captured:List I)
 | yield (id:Nat)
 | map (id:Nat)
 | agg (cs:List I)
 | tuple (vs:List I)
 | str (s:ByteArray)
 | raw (cells:List I) (len z:Nat)
 | cn (id gid len z:Nat)
 | dq
 deriving Inhabited
structure b7 where
 takes:List Bool:=[]
 mode:Nat:=0
structure c9 where
 bad:Bool:=false
 two:List (Nat×Nat):=[]
 ops:List (List b7):=[]
 h_:List (Nat×List Bool):=[]
 h':List (Nat×List Bool):=[]
inductive au where
 | dead
 | cells (l:List I)
 | loop (st:LoopState) (cH:Option Code) (fn:FuncId) (tmps:List I) (params:List Nat) (assign body:Code) (js:c9)
 | map (es:List (Nat×I×I)) (clock:Nat)
 | iter (m since:Nat) (seen:List Nat) (j_:Nat)
 | grow (l:List I) (gid z:Nat)
structure a6 where
 T:List I
 H:List au
inductive cD where
 | normal | exit (id:Nat) | ret
inductive e5 where
 | fn (f:FuncId)
 | yield (l:Nat)
abbrev b8:=e5→List I→List au→Nat→Option (I×List au)
def I.view:I→I
 | .ay c n (.own _)=>.ay c n .shared
 | .ay c n (.uniq _)=>.ay c n .shared
 | .raw _ _ _=>.junk
 | .cn id _ len z=>.ref id 0 len none z
 | v=>v
def I.gU:I→I
 | .ay c n .full=>.ay c n .shared
 | v=>v
def I.cu:I→I
 | .ay c n .full=>.ay c n .shared
 | .agg cs=>.agg (cs.map I.gU)
 | .tuple cs=>.tuple (cs.map I.gU)
 | v=>v
def ct:Nat→I→Bool
 | 0,_=>false
 | d+1,v=>match v with
   | .ay cells _ _=>cells.all (ct d)
   | .bW cells=>cells.all (ct d)
   | .agg cs=>cs.all (ct d)
   | .tuple cs=>cs.all (ct d)
   | .func _ a b=>a.all (ct d) && b.all (ct d)
   | .bool _ | .int _ _ | .str _ | .eC=>true
   | _=>false
def I.plain:I→Bool
 | .ay _ _ (.own _)=>false
 | .ay _ _ (.uniq _)=>false
 | .raw _ _ _=>false
 | .cn _ _ _ _=>false
 | _=>true
def I.cV:I→Bool
 | .ay _ _ (.uniq _)=>false
 | _=>true
def I.settle:I→I
 | .ay c n (.uniq z)=>.ay c n (.own z)
 | v=>v
def I.cells:I→Option (List I)
 | .agg cs=>some cs
 | .junk=>none
 | .tuple _=>none
 | .raw _ _ _=>none
 | v=>some [v]
def hp:Value→I
 | .bool b=>.bool b
 | .int k n=>.int k n
 | .pointer none=>.eC
 | .string s=>.str s
 | .slice none 0 0=>.ay [] 0 .full
 | _=>.junk
noncomputable section
def c6 (T:List I) (t:Nat):I :=
 @List.rec I (fun _=>Nat→I) (fun _=>.junk) (fun h _ a' n=>@Nat.rec (fun _=>I) h (fun m _=>a' m) n) T t
def gK (T:List I) (t:Nat) (v:I):List I :=
 @List.rec I (fun _=>Nat→List I) (fun _=>[]) (fun h xT a' n=>@Nat.rec (fun _=>List I) (v::xT) (fun m _=>h::a' m) n) T t
theorem fV (T:List I):∀ t,c6 T t=T.getD t .junk:=by
 induction T with
 | nil=>intro t;rfl
 | cons h xT a'=>intro t;cases t with
   | zero=>rfl
   | succ n=>exact a' n
theorem gL (T:List I) (v:I):∀ t,gK T t v=T.set t v:=by
 induction T with
 | nil=>intro t;rfl
 | cons h xT a'=>intro t;cases t with
   | zero=>rfl
   | succ n=>exact congrArg (h::·) (a' n)
def aA (T:List I):Operand→I
 | .tmp t=>c6 T t
 | .const v=>hp v
 | .func f=>.func f [] []
 | .global _=>.junk
def fP (T:List I) (t:Nat):I→List I
 | .ay c n (.uniq z)=>gK T t (.ay c n (.own z))
 | _=>T
def rd:List I→List Bool→List Operand→List I×List I
 | T,_,[]=>([],T)
 | T,ts,.tmp t::rest =>
   match ts.headD false with
   | true=>let r:=rd (gK T t .junk) ts.tail rest;(c6 T t::r.1,r.2)
   | false=>let r:=rd (fP T t (c6 T t)) ts.tail rest;((c6 T t).view::r.1,r.2)
 | T,ts,x::rest=>let r:=rd T ts.tail rest;(aA T x::r.1,r.2)
def eS:List Bool→List I→List I
 | b::bs,v::vs=>(match b with | true=>v | false=>.junk)::eS bs vs
 | [],vs=>vs
 | _,[]=>[]
def lJ (id:Nat):List (Nat×List Bool)→Option (List Bool)
 | []=>none
 | (i,k)::r=>match Nat.beq i id with | true=>some k | false=>lJ id r
def eX (mo:List (Nat×List Bool)) (id:Nat) (s:a6):a6 :=
 match lJ id mo with
 | some k=>⟨eS k s.T,s.H⟩
 | none=>s
def opsOf (o:Oper):List Operand :=
 match o.op with
 | .call { callee:=.value f,args,.. }=>f::args.toList
 | .call { args,.. }=>args.toList
 | op=>op.operands.toList
def tmpsOf (xs:List Operand):List Nat:=xs.filterMap fun x=>match x with | .tmp t=>some t | _=>none
def c1:List Bool→List Operand→List Nat
 | _,[]=>[]
 | ts,.tmp t::rest=>match ts.headD false with
   | true=>t::c1 ts.tail rest
   | false=>c1 ts.tail rest
 | ts,_::rest=>c1 ts.tail rest
def oY (ops:Array Oper) (o:Oper):List Nat:=match o.guard with
 | some (j,_)=>((ops[j]?).bind (·.dst)).toList
 | none=>[]
def e2 (ops:Array Oper) (o:Oper):List Nat:=oY ops o++tmpsOf (opsOf o)
def jw (xs ys:List Nat):Bool:=xs.all fun x=>!(ys.contains x)
def dj (o:Oper) (mode:Nat):Nat:=match o.op with
 | .load _ _=>if mode=0 then 1 else if mode=2 then 2 else if mode=3 then 0 else if mode=5 then 2 else 5
 | .box _ _=>if mode=0 then 6 else 0
 | .alloc _=>6
 | .makeSlice _ _ _=>if mode=0 then 2 else 0
 | .store _ _ _ | .makeMap _ _ | .mapUpdate _ _ _ _ | .lookup _ _ _ _ | .range _ _ | .entry _=>2
 | .move _ | .assign _=>if mode=0 then 0 else 2
 | .call c=>match c.callee with
   | .builtin b=>match b with
     | .append=>if mode=0 then 1 else 2
     | .len | .cap | .min | .max=>1
     | _=>2
   | .value _=>if mode=0 then 3 else if mode=3 then 0 else if mode=4 then 3 else if mode=6 then 3 else 2
   | .invoke _ _=>2
 | _=>0
def calm (o:Oper) (mode:Nat):Bool:=match o.op with
 | .move _ | .assign _=>mode == 0
 | _=>true
def bQ (a b:Nat):Bool:=a == 0 || b == 0 || ((a == 1 || a == 3) && (b == 1 || b == 3)) || (a == 1 && b == 5) || (a == 5 && b == 1) || (a == 1 && b == 6)
def kN (bC:Oper) (df:Nat) (bS:Oper):Bool:=match bC.op,bS.op with
 | .load _ _,.mapUpdate _ _ _ _=>df == 0
 | _,_=>false
def indep (ops:Array Oper) (bC:Oper) (aB:b7) (bS:Oper) (aH:b7):Bool :=
 jw bC.dst.toList (e2 ops bS) && jw bS.dst.toList (e2 ops bC) && jw bC.dst.toList bS.dst.toList &&
 jw (c1 aB.takes (opsOf bC)) (e2 ops bS) && jw (c1 aH.takes (opsOf bS)) (e2 ops bC) &&
 calm bC aB.mode && calm bS aH.mode && (bQ (dj bC aB.mode) (dj bS aH.mode) || kN bC aB.mode bS)
def mx (ms:List Nat) (o:Oper):Nat:=o.after.toList.foldl (fun m e=>if Region.binds .any e then m ||| (ms.getD e.on 0 ||| 1 <<< e.on) else m) 0
def g8:List Oper→List Nat→List Nat
 | [],ms=>ms
 | o::r,ms=>g8 r (ms++[mx ms o])
def zH (ops:Array Oper) (as:List b7) (ms:List Nat):Bool :=
 (List.range ops.size).all fun j=>match ops[j]? with
  | none=>true
  | some c3=>(ms.getD j 0 == mx ms c3) && c3.after.toList.all (fun e=>!Region.binds .any e || Nat.blt e.on j) &&
    (List.range j).all fun i=>match ops[i]? with
     | none=>true
     | some cQ=>(ms.getD j 0).testBit i || indep ops cQ (as.getD i {}) c3 (as.getD j {})
def m8 (ops:Array Oper) (as:List b7):Bool:=zH ops as (g8 ops.toList [])
def zI (ops:Array Oper) (an:List b7) (ms:List Nat) (p q:Nat):Bool :=
 (List.range ops.size).all fun j=>match ops[j]? with
  | none=>true
  | some c3=>(ms.getD j 0 == mx ms c3) && c3.after.toList.all (fun e=>!Region.binds .any e || Nat.blt e.on j) &&
    (List.range j).all fun i=>match ops[i]? with
     | none=>true
     | some cQ=>(ms.getD j 0).testBit i || indep ops cQ (an.getD i {}) c3 (an.getD j {}) || (Nat.beq i p && Nat.beq j q)
def m9 (ops:Array Oper) (an:List b7) (p q:Nat):Bool:=zI ops an (g8 ops.toList []) p q
def A_ (id:Nat):List (Nat×Nat)→Option Nat
 | []=>none
 | (i,p)::r=>match Nat.beq i id with | true=>some p | false=>A_ id r
def j' (A:c9) (id:Nat):Bool→Option Nat
 | true=>A_ id A.two
 | false=>none
def xo (A:c9) (id:Nat) (ops:Array Oper) (draw:Bool):Bool:=match j' A id draw with
 | some p=>Nat.blt (p+1) ops.size && m9 ops (A.ops.getD id []) p (p+1)
 | none=>!draw || m8 ops (A.ops.getD id [])
def codeOk (A:c9):Code→Bool
 | .region id ops draw=>xo A id ops draw
 | .seq a b=>codeOk A a && codeOk A b
 | .cond _ a b=>codeOk A a && codeOk A b
 | .block _ c=>codeOk A c
 | .loop c=>codeOk A c
 | .scope c=>codeOk A c
 | .rangeFunc _ _ a b=>codeOk A a && codeOk A b
 | _=>true
section
variable (P:Program)
def bU (t:TypeId):Option Nat:=(P.info? t).map (·.size)
def dJ (t:TypeId):Bool:=match P.underlying t with | some (.struct _) | some (.array _ _)=>true | _=>false
def zeroCells (t:TypeId):Option (List I):=((P.info? t).bind (·.zero)).bind fun v=>match v.cells.toList.all (·.oneCell') with | true=>some (v.cells.toList.map hp) | false=>none
def jq (op:BinOp) (k:IntKind) (a b:Int):Option I :=
 match op with
 | .add=>some (.int k (k.wrap (a+b)))
 | .sub=>some (.int k (k.wrap (a-b)))
 | .mul=>some (.int k (k.wrap (a*b)))
 | .quo=>if b=0 then none else some (.int k (k.wrap (a.tdiv b)))
 | .rem=>if b=0 then none else some (.int k (a.tmod b))
 | .eql=>some (.bool (a == b))
 | .neq=>some (.bool (a != b))
 | .lss=>some (.bool (decide (a<b)))
 | .leq=>some (.bool (decide (a≤b)))
 | .gtr=>some (.bool (decide (a > b)))
 | .geq=>some (.bool (decide (a≥b)))
 | .and=>some (.int k (k.wrap (BitVec.ofInt k.bits a &&& BitVec.ofInt k.bits b).toNat))
 | .or=>some (.int k (k.wrap (BitVec.ofInt k.bits a ||| BitVec.ofInt k.bits b).toNat))
 | .xor=>some (.int k (k.wrap (BitVec.ofInt k.bits a ^^^ BitVec.ofInt k.bits b).toNat))
 | .andNot=>some (.int k (k.wrap (BitVec.ofInt k.bits a &&& ~~~ (BitVec.ofInt k.bits b)).toNat))
 | _=>none
def ho (op:BinOp) (k:IntKind) (a b:Int):Option I :=
 if b<0 then none else
 match op with
 | .shl=>some (.int k (k.wrap (a*2 ^ (min b.toNat k.bits))))
 | .shr=>some (.int k (a.fdiv (2 ^ (min b.toNat k.bits))))
 | _=>none
def dL:List I→List I→Option Bool
 | [],[]=>some true
 | .int k a::r,.int k' b::r'=>if k=k' then (dL r r').map fun e=>(a == b) && e else none
 | _,_=>none
def gC:List Field→Nat→Bool
 | [],_=>true
 | f :: bG, n => (f.offset == n) && (f.name != "_") && (match P.underlying f.type, bU P f.type with | some (.int _), some 1 => true | _, _ => false) && gC bG (n + 1)
def fi (op:BinOp) (t:TypeId) (x y:I):Option I :=
 match x,y with
 | .int k a,.int k' b =>
   match op with
   | .shl=>ho .shl k a b
   | .shr=>ho .shr k a b
   | op=>if k=k' then jq op k a b else none
 | .bool a,.bool b =>
   match P.underlying t,op with
   | some .bool,.eql=>some (.bool (a == b))
   | some .bool,.neq=>some (.bool (!(a == b)))
   | _,_=>none
 | .agg xs,.agg ys =>
   match P.underlying t with
   | some (.array len e) =>
     match P.underlying e,bU P e with
     | some (.int _),some 1 =>
       if xs.length=len∧ys.length=len∧P.eqGuardType P.depth t=false then
        match op with
        | .eql=>(dL xs ys).map fun e=>.bool e
        | .neq=>(dL xs ys).map fun e=>.bool !e
        | _=>none
       else none
     | _,_=>none
   | some (.struct bG) =>
     if gC P bG.toList 0=true∧P.stoodInHeld t=false∧xs.length=bG.size∧ys.length=bG.size∧P.eqGuardType P.depth t=false then
      match op with
      | .eql=>(dL xs ys).map fun e=>.bool e
      | .neq=>(dL xs ys).map fun e=>.bool !e
      | _=>none
     else none
   | _=>none
 | _,_=>none
def kf (op:UnOp):I→Option I
 | .bool b=>match op with | .not=>some (.bool !b) | _=>none
 | .int k n=>match op with | .neg=>some (.int k (k.wrap (-n))) | _=>none
 | _=>none
def setCells:Nat→List I→List I→List I
 | _,[],cs=>cs
 | off,v::vs,cs=>setCells (off+1) vs (cs.set off v)
def gq (place:Nat→Option (Nat×Nat)):List I→List (Nat×I)→Option (List I)
 | cs,[]=>some cs
 | cs,(i,v)::rest =>
   match place i with
   | some (off,size)=>match v.cells with
     | some bH=>if bH.length=size∧off+size≤cs.length then gq place (setCells off bH cs) rest else none
     | none=>none
   | none=>none
def eZ:Nat→List I→List I
 | 0,_=>[]
 | n+1,z=>z++eZ n z
def lq (t:TypeId) (parts:List (Nat×I)):Option I :=
 match zeroCells P t,P.underlying t with
 | some z,some (.struct bG)=>match bG.toList.all (fun f=>(bU P f.type).isSome) with
   | true=>(gq (fun i=>(bG[i]?).bind fun f=>(bU P f.type).map fun s=>(f.offset,s)) z parts).map .agg
   | false=>none
 | some z,some (.array _ e)=>(bU P e).bind fun s=>(gq (fun i=>some (i*s,s)) z parts).map .agg
 | _,_=>none
def iz (t:TypeId) (len:Nat) (parts:List (Nat×I)):Option (List I×Nat) :=
 match P.underlying t with
 | some (.slice e) =>
   match bU P e,zeroCells P e with
   | some s,some z=>if 0<s∧z.length=s∧len*s≤16777216 then (gq (fun i=>some (i*s,s)) (eZ len z) parts).map fun cs=>(cs,s) else none
   | _,_=>none
 | _=>none
def gS (i:Int) (len:Nat):Option Nat:=if 0≤i∧i<len then some i.toNat else none
def hV (t:TypeId) (x i:I):Option I :=
 match P.underlying t,x,i with
 | some (.slice e),.ay cells len _,.int _ n=>(bU P e).bind fun s=>(gS n len).map fun j=>.bW (cells.drop (j*s))
 | some (.slice e),.ref id off len _ _,.int _ n=>(bU P e).bind fun s=>(gS n len).map fun j=>.ptr id (off+j*s)
 | some (.array len e),.ptr id off,.int _ n=>(bU P e).bind fun s=>(gS n len).map fun j=>.ptr id (off+j*s)
 | some (.array len e),.bW cells,.int _ n=>(bU P e).bind fun s=>(gS n len).map fun j=>.bW (cells.drop (j*s))
 | _,_,_=>none
def jr (t:TypeId) (x:I) (f:Nat):Option I :=
 match P.underlying t,x with
 | some (.struct bG),.ptr id off=>(bG[f]?).bind fun g=>(bU P g.type).bind fun s=>if s=0 then none else some (.ptr id (off+g.offset))
 | some (.struct bG),.bW cells=>(bG[f]?).bind fun g=>(bU P g.type).bind fun s=>if s=0 then none else some (.bW (cells.drop g.offset))
 | _,_=>none
def iA (t:TypeId) (cs:List I) (off:Nat):Option I :=
 match dJ P t with
 | true=>(bU P t).bind fun s=>if off+s≤cs.length then some (.agg ((cs.drop off).take s)) else none
 | false=>match P.underlying t with
   | some _=>cs[off]?
   | none=>none
def m0 (t:TypeId) (x:I) (f:Nat):Option I :=
 match P.underlying t,x with
 | some (.struct bG),.agg cs=>(bG[f]?).bind fun g=>iA P g.type cs g.offset
 | _,_=>none
def oz (t:TypeId) (x i:I):Option I :=
 match P.underlying t,x,i with
 | some (.array len e),.agg cs,.int _ n=>(bU P e).bind fun s=>(gS n len).bind fun j=>iA P e cs (j*s)
 | some .string,.str b,.int _ n=>if 0≤n then (b[n.toNat]?).map fun x=>.int .u8 x.toNat else none
 | _,_,_=>none
def cJ (x:Option I) (BQ most:Nat):Option Nat :=
 match x with
 | none=>some BQ
 | some (.int _ n)=>if 0≤n∧n≤most then some n.toNat else none
 | _=>none
def eT (t:TypeId) (x:I) (lo hi gD:Option I):Option I :=
 match P.underlying t,x with
 | some (.slice e),.ay cells len c =>
   (bU P e).bind fun s =>
   match gD,hi with
   | none,_ =>
     (cJ hi len len).bind fun h=>(cJ lo 0 h).bind fun l =>
     some (.ay ((cells.drop (l*s)).take ((h-l)*s)) (h-l) (if c=.full∧h=len then .full else .shared))
   | some _,some _ =>
     (cJ gD len len).bind fun m=>(cJ hi m m).bind fun h=>(cJ lo 0 h).bind fun l =>
     some (.ay ((cells.drop (l*s)).take ((h-l)*s)) (h-l) (if h=m then .full else .shared))
   | some _,none=>none
 | some (.slice e),.ref id off len cap sz =>
   (bU P e).bind fun s=>if s≠sz then none else
   match gD,hi with
   | none,_ =>
     (cJ hi len len).bind fun h=>(cJ lo 0 h).bind fun l =>
     if l<len then some (.ref id (off+l*s) (h-l) (cap.map (·-l)) sz) else some (.ay [] 0 .shared)
   | some _,some _ =>
     (cJ gD len len).bind fun m=>(cJ hi m m).bind fun h=>(cJ lo 0 h).bind fun l =>
     if m=l then (if l=0 then some (.ref id off (h-l) (some (m-l)) sz) else none) else some (.ref id (off+l*s) (h-l) (some (m-l)) sz)
   | some _,none=>none
 | some (.array n e),.ptr id off =>
   (bU P e).bind fun s =>
   match gD with
   | none=>(cJ hi n n).bind fun h=>(cJ lo 0 h).bind fun l =>
     if n=l then none else some (.ref id (off+l*s) (h-l) (some (n-l)) s)
   | some _=>none
 | _,_=>none
def rowOf (H:List au):I→Option (List I)
 | .ay cells _ _=>some cells
 | .ref id off len _ sz=>match H[id]? with
   | some (.cells l)=>if off+len*sz≤l.length then some (((l.drop off).take (len*sz)).map I.view) else none
   | _=>none
 | _=>none
def lenOf:I→Option Nat
 | .ay _ len _=>some len
 | .ref _ _ len _ _=>some len
 | _=>none
def fr (n bytes:Nat):Bool:=Nat.ble (n*bytes) 140737488355328 && Nat.ble 1 bytes
def appended (H:List au) (x:I):Option (Nat×List I) :=
 match lenOf x,rowOf H x with
 | some m,some row=>some (m,row)
 | _,_=>none
def e6 (H:List au) (t dp:TypeId) (s x:I):Option I :=
 match P.underlying t with
 | some (.slice e) =>
   match bU P e,(P.info? e).map (·.bytes),(zeroCells P e) with
   | some sz,some bytes,some z =>
     match Nat.beq t dp with
     | true =>
       match appended H x with
       | some (m,new) =>
         if new.length=m*sz∧0<sz∧z.length=sz∧fr m bytes then
          match s with
          | .ay cells len c =>
            match c with
            | .shared=>if m=0 then some s else none
            | .full=>if m=0 then (if len=0 then some (.ay [] 0 (.uniq sz)) else some s)
              else if fr (len+m) bytes∧cells.length=len*sz then some (.ay (cells++new) (len+m) (.uniq sz)) else none
            | .own z=>if z=sz∧fr (len+m) bytes then some (.ay (cells++new) (len+m) (.own z)) else none
            | .uniq z=>if z=sz∧fr (len+m) bytes then some (.ay (cells++new) (len+m) (.uniq z)) else none
          | .ref id off len (some cap) oe =>
            if cap=len∧oe=sz∧0<m then (rowOf H (.ref id off len (some cap) oe)).bind fun fL=>if fr (len+m) bytes then some (.ay (fL++new) (len+m) (.uniq sz)) else none
            else none
          | _=>none
         else none
       | none=>none
     | false =>
       match P.underlying dp,x,s with
       | some (.int _),.int .i64 n,.ay [] 0 .full =>
         if 0<n∧fr n.toNat bytes∧0<sz∧z.length=sz then some (.ay (eZ n.toNat z) n.toNat (.uniq sz)) else none
       | _,_,_=>none
   | _,_,_=>none
 | _=>none
def et (t:TypeId) (cs:List I) (off:Nat):Option I :=
 match dJ P t with
 | true=>(bU P t).bind fun s=>if off+s≤cs.length then some (.agg (((cs.drop off).take s).map I.view)) else none
 | false=>match P.underlying t with
   | some _=>(cs[off]?).map I.view
   | none=>none
def dS (H:List au) (t:TypeId) (a:I):Option I :=
 match a with
 | .ptr id off=>match H[id]? with
   | some (.cells l)=>et P t l off
   | some (.grow l _ _)=>et P t l off
   | _=>none
 | .bW cells=>et P t cells 0
 | _=>none
def g9 (lo:Nat) (H:List au) (id:Nat) (f:List I→Option (List I)):Option (List au) :=
 if lo≤id then match H[id]? with
  | some (.cells l)=>(f l).map fun l'=>H.set id (.cells l')
  | _=>none
 else none
def g_ (lo:Nat) (H:List au) (id:Nat) (f:List I→Option (List I)):Option (List au) :=
 if lo≤id then match H[id]? with
  | some (.cells l)=>(f l).map fun l'=>H.set id (.cells l')
  | some (.grow l g z)=>(f l).map fun l'=>H.set id (.grow l' g z)
  | _=>none
 else none
def iB (lo:Nat) (H:List au) (t:TypeId) (a v:I):Option (List au) :=
 match a,bU P t with
 | .ptr id off,some s=>match v.cells with
   | some bH=>g_ lo H id fun l=>if bH.length=s∧off+s≤l.length then some (setCells off (bH.map I.settle) l) else none
   | none=>none
 | _,_=>none
def jh (t:TypeId) (n:Nat):Option (List I×Nat) :=
 match P.underlying t with
 | some (.slice e)=>match bU P e,zeroCells P e,(P.info? e).map (·.bytes) with
   | some s,some z,some bytes=>if z.length=s∧0<s∧fr n bytes then some (eZ n z,s) else none
   | _,_,_=>none
 | _=>none
def kQ:List I→Int→Option Int
 | [],a=>some a
 | .int _ b::r,a=>kQ r (if b<a then b else a)
 | _::_,_=>none
def kP:List I→Int→Option Int
 | [],a=>some a
 | .int _ b::r,a=>kP r (if b > a then b else a)
 | _::_,_=>none
def nO:List I→Option I
 | .int k a::r=>(kQ r a).map (.int k)
 | _=>none
def nN:List I→Option I
 | .int k a::r=>(kP r a).map (.int k)
 | _=>none
def gW (cap:Option Nat) (n:Nat):ir:=match cap with | some c=>if c=n then .full else .shared | none=>.shared
def ec (f:I→Option I):List I→Option (List I)
 | []=>some []
 | x::xs=>match f x with
   | some y=>(ec f xs).map (y::·)
   | none=>none
def mapM (f:I→Option I):List (Nat×I×I)→Option (List (Nat×I×I))
 | []=>some []
 | (i,k,v)::xs=>match f k,f v with
   | some k',some bu=>(mapM f xs).map ((i,k',bu)::·)
   | _,_=>none
def bL (H:List au) (lo id0 n:Nat):Nat→I→Option I
 | 0,_=>none
 | d+1,BF =>
   match BF with
   | .ay cells len c=>(ec (bL H lo id0 n d) cells).map fun cs=>.ay cs len c
   | .bW cells=>(ec (bL H lo id0 n d) cells).map .bW
   | .agg cs=>(ec (bL H lo id0 n d) cs).map .agg
   | .tuple cs=>(ec (bL H lo id0 n d) cs).map .tuple
   | .func f a b=>match ec (bL H lo id0 n d) a,ec (bL H lo id0 n d) b with
     | some a,some b=>some (.func f a b)
     | _,_=>none
   | .ptr id off=>if id<lo then some (.ptr id off) else if id=id0 then some (.ptr n off) else
     match H[id]? with
     | some (.cells l)=>(ec (bL H lo id0 n d) ((l.drop off).map I.view)).map .bW
     | _=>none
   | .ref id off len cap sz=>if id<lo then some (.ref id off len cap sz) else if id=id0 then some (.ref n off len cap sz) else
     match rowOf H (.ref id off len cap sz) with
     | some row=>(ec (bL H lo id0 n d) row).map fun cs=>.ay cs len (gW cap len)
     | none=>none
   | .yield id=>if id<lo then some (.yield id) else none
   | .map id=>if id<lo then some (.map id) else if id=id0 then some (.map n) else none
   | .raw _ _ _=>none
   | .cn _ _ _ _=>none
   | v=>some v
def ft (parts:List (Nat×Operand)) (vs:List I):List (Nat×I):=(parts.map (·.1)).zip vs
def dn (vs:List I) (i:Nat):Option Operand→Option I
 | none=>none
 | some _=>vs[i]?
def xh:List I→Option I
 | [.bool c,a,b]=>some (match c with | true=>a | false=>b)
 | _=>none
def nU:List I→Option I
 | [.ptr id off]=>some (.ptr id off)
 | [.bW cells]=>some (.bW cells)
 | _=>none
def f' (f:I→I→Option I):List I→Option I
 | [x,y]=>f x y
 | _=>none
def eY (f:I→Option I):List I→Option I
 | [x]=>f x
 | _=>none
def lr (src dst:TypeId):I→Option I
 | .int _ n=>match P.underlying src,P.underlying dst with | some _,some (.int k)=>some (.int k (k.wrap n)) | _,_=>none
 | _=>none
def mD (fn:Fn) (n m:Nat) (vs:List I):Option I :=
 match fn with
 | .func f=>if vs.length=n+m then some (.func f (vs.take n) (vs.drop n)) else none
 | _=>none
def ei (t:TypeId) (l h m:Option Operand):List I→Option I
 | x::vs =>
   let i1:=match l with | some _=>1 | none=>0
   let i2:=match h with | some _=>i1+1 | none=>i1
   match x,l,h,m with
   | .ay cells len (.uniq z),none,h,none =>
     match P.underlying t with
     | some (.slice e)=>(bU P e).bind fun _=>(cJ (dn vs 0 h) len len).map fun n=>.ay (cells.take (n*z)) n (.uniq z)
     | _=>none
   | .ay cells len (.own z),some lo,none,none =>
     match P.underlying t with
     | some (.slice e)=>(bU P e).bind fun s=>if s=z then (cJ (dn vs 0 (some lo)) 0 len).map fun l=>.ay (cells.drop (l*z)) (len-l) (.own z) else none
     | _=>none
   | .cn id gid len z,none,h,none =>
     match P.underlying t with
     | some (.slice e)=>(bU P e).bind fun _=>(cJ (dn vs 0 h) len len).map fun n=>.cn id gid n z
     | _=>none
   | x,l,h,m=>eT P t x.view (dn vs 0 l) (dn vs i1 h) (dn vs i2 m)
 | []=>none
def mZ (i:Nat):I→Option I
 | .tuple ws=>ws[i]?
 | _=>none
def iR:Operand→Bool
 | .const (.slice none 0 0)=>true
 | _=>false
def mY (op:BinOp) (t:TypeId) (x:I):Option I :=
 match P.underlying t with
 | some (.slice _) =>
   match x with
   | .ay _ (_+1) _ | .ref ..=>match op with
     | .eql=>some (.bool false)
     | .neq=>some (.bool true)
     | _=>none
   | .ay [] 0 _=>match op with
     | .eql | .neq=>some .dq
     | _=>none
   | _=>none
 | _=>none
def cA (o:Oper) (vs:List I):Option I :=
 match o.op with
 | .pick _ _ _=>xh vs
 | .build t parts=>lq P t (ft parts.toList vs)
 | .buildSlice t len parts=>(iz P t len (ft parts.toList vs)).map fun r=>.ay r.1 len (.uniq r.2)
 | .nilCheck _=>nU vs
 | .binOp op t _ y _=>match iR y with
   | true=>match vs with
     | [x,_]=>mY P op t x
     | _=>none
   | false=>f' (fi P op t) vs
 | .unOp op _ _=>eY (kf op) vs
 | .convert src dst _=>eY (lr P src dst) vs
 | .makeFunc fn first captured=>mD fn first.size captured.size vs
 | .slice t _ l h m=>ei P t l h m vs
 | .fieldAddr t _ f=>eY (fun x=>jr P t x f) vs
 | .field t _ f=>(eY (fun x=>m0 P t x f) vs).map I.view
 | .indexAddr t _ _=>f' (hV P t) vs
 | .index t _ _=>(f' (oz P t) vs).map I.view
 | .extract _ i=>(eY (mZ i) vs).map I.view
 | _=>none
def dO (o:Oper):Bool :=
 match o.op with
 | .move _ | .assign _ | .store _ _ _ | .box _ _ | .call _ | .slice _ _ _ _ _=>true
 | _=>false
def yu (lo:Nat):I→Option Nat
 | .ptr id _=>if lo≤id then some id else none
 | .ref id _ _ _ _=>if lo≤id then some id else none
 | .map id=>if lo≤id then some id else none
 | _=>none
def BX (lo:Nat):I→Option Nat
 | .tuple vs=>vs.findSome? (yu lo)
 | v=>yu lo v
def j9 (H:List au):I→I
 | .ref id off len cap sz=>match rowOf H (.ref id off len cap sz) with
   | some row=>.ay row len .shared
   | none=>.ref id off len cap sz
 | v=>v
def hI (H:List au):I→I
 | .ptr id off=>match H[id]? with
   | some (.cells l)=>.bW (((l.drop off).map I.view).map (j9 H))
   | _=>.ptr id off
 | .ref id off len cap sz=>j9 H (.ref id off len cap sz)
 | v=>v
def im (H:List au):I→I
 | .ptr id off=>hI H (.ptr id off)
 | .ref id off len cap sz=>hI H (.ref id off len cap sz)
 | .func f a b=>.func f (a.map (hI H)) (b.map (hI H))
 | v=>v
def gJ:I→Bool
 | .bool _ | .int _ _ | .str _=>true
 | _=>false
def gg:I→Bool
 | .bool _ | .int _ _ | .str _=>true
 | .tuple vs=>vs.all gJ
 | .ay cells _ (.uniq _)=>cells.all gJ
 | _=>false
def eU (C:b8) (lo mode:Nat) (b2:e5) (args:List I) (H:List au):Option (I×List au) :=
 match mode with
 | 0=>(C b2 args H H.length).bind fun r=>(bL r.2 H.length r.2.length 0 8 r.1).map fun v=>(v,H)
 | 1=>C b2 args H lo
 | 3=>match b2,args.all (ct 8) with
   | .fn _,true=>(C b2 (args.map I.cu) [] 0).bind fun r=>(bL r.2 0 r.2.length 0 8 r.1).map fun v=>(v.cu,H)
   | _,_=>none
 | 6=>match b2,(args.map (im H)).all (ct 8) with
   | .fn _,true=>(C b2 ((args.map (im H)).map I.cu) [] 0).bind fun r=>(bL r.2 0 r.2.length 0 8 r.1).bind fun v=>match gg v with
     | true=>some (v.cu,H)
     | false=>none
   | _,_=>none
 | 7=>match b2,args with
   | .fn _,[.ptr id 0]=>if lo≤id then match H[id]? with
     | some (.cells l)=>match ct 8 (.bW (l.map I.view)) with
       | true=>(C b2 [(I.bW (l.map I.view)).cu] [] 0).bind fun r=>(bL r.2 0 r.2.length 0 8 r.1).map fun v=>(v.cu,H.set id .dead)
       | false=>none
     | _=>none else none
   | _,_=>none
 | 4=>(C b2 (args.map I.cu) H H.length).bind fun r=>(bL r.2 H.length r.2.length 0 8 r.1).map fun v=>(v.cu,H)
 | _=>(C b2 args H H.length).bind fun r =>
   match BX H.length r.1 with
   | none=>(bL r.2 H.length r.2.length 0 8 r.1).map fun v=>(v,H)
   | some id0 =>
     match r.2[id0]? with
     | some (.cells l)=>if H.length≤id0 then
       match ec (bL r.2 H.length id0 H.length 8) l,bL r.2 H.length id0 H.length 8 r.1 with
       | some l',some v=>some (v,H++[.cells l'])
       | _,_=>none
       else none
     | some (.map es clock)=>if H.length≤id0 then
       match mapM (bL r.2 H.length id0 H.length 8) es,bL r.2 H.length id0 H.length 8 r.1 with
       | some es',some v=>some (v,H++[.map es' clock])
       | _,_=>none
       else none
     | _=>none
def ki (C:b8) (lo mode:Nat) (f:I) (args:List I) (H:List au):Option (I×List au) :=
 match f with
 | .func k first cap=>eU C lo mode (.fn k) (first++args++cap) H
 | .yield l=>eU C lo mode (.yield l) args H
 | _=>none
abbrev Out:=Option (I×List au)
def eR (lo mode:Nat) (t:TypeId) (x:Operand) (H:List au):List I→Out
 | [v] =>
   match mode with
   | 0=>match iR x,P.underlying t with
     | true,some (.slice e)=>(bU P e).map fun z=>(.ay [] 0 (.uniq z),H)
     | _,_=>some (v,H)
   | 1=>match v with
     | .ay cells len (.uniq z)=>if len=0 then some (v,H) else some (.ref H.length 0 len none z,H++[.cells cells])
     | .ay [] 0 .full=>some (v,H)
     | .ref ..=>some (v,H)
     | _=>none
   | 4=>match v with
     | .cn id gid n z=>if lo≤id then match H[id]? with
       | some (.grow l g cW)=>if g=gid∧cW=z∧n*z≤l.length∧(l.take (n*z)).all I.plain=true then some (.ay (l.take (n*z)) n (.uniq z),H.set id .dead) else none
       | _=>none else none
     | _=>some (v,H)
   | _=>match v with
     | .ref id _ _ cap _=>if lo≤id then (rowOf H v).bind fun row=>(lenOf v).map fun n =>
       (.ay row n (gW cap n),H.set id .dead) else none
     | .cn id gid n z=>if lo≤id then match H[id]? with
       | some (.grow l g cW)=>if l.length=n*z then some (.ay (l.map I.view) n .shared,H.set id .dead) else none
       | _=>none else none
     | _=>some (v.view,H)
 | _=>none
def dP (lo mode:Nat) (t:TypeId) (H:List au):List I→Out
 | [a] =>
   match mode with
   | 0=>(dS P H t a).map (·,H)
   | 3=>match a with
     | .bW cells=>(et P t cells 0).map (·,H)
     | _=>none
   | 5=>match P.underlying t,a with
     | some (.slice _),.ptr id off=>match H[id]? with
       | some (.cells l)=>match l[off]? with
         | some (.cn i g n z)=>some (.cn i g n z,H)
         | some (.ay [] 0 .full)=>some (.ay [] 0 .full,H)
         | _=>none
       | _=>none
     | _,_=>none
   | _=>match P.underlying t,a with
     | some (.slice _),.ptr id off=>if lo≤id then match H[id]? with
       | some (.cells l)=>match l[off]? with
         | some (.ay c n (.own z))=>some (.ay c n (.own z),H.set id (.cells (l.set off (.ay c n .shared))))
         | some (.raw c n z)=>if mode=2 then (if n=0 then none else some (.ref H.length 0 n none z,H.set id (.cells (l.set off (.ref H.length 0 n none z)))++[.cells c]))
           else some (.ay c n (.uniq z),H.set id (.cells (l.set off .junk)))
         | some v=>some (v.view,H)
         | _=>none
       | some (.grow l g cW)=>match l[off]? with
         | some (.ay c n (.own z))=>some (.ay c n (.own z),H.set id (.grow (l.set off (.ay c n .shared)) g cW))
         | some (.ay c n .full)=>some (.ay c n .full,H)
         | _=>none
       | _=>none else none
     | _,_=>none
 | _=>none
def lu (lo:Nat) (H:List au) (t:TypeId) (a v:I):Option (List au) :=
 match a,v,bU P t with
 | .ptr id off,.ay c n (.uniq z),some 1=>if c.all gJ=true∧n≠0 then g9 lo H id fun l=>if off<l.length then some (l.set off (.raw c n z)) else none else none
 | _,_,_=>none
def hD (lo mode:Nat) (t:TypeId) (H:List au):List I→Out
 | [a,v]=>match mode with
   | 0=>(iB P lo H t a v).map fun H'=>(.junk,H')
   | _=>(lu P lo H t a v).map fun H'=>(.junk,H')
 | _=>none
def gF (mode:Nat) (H:List au):List I→Out
 | [v]=>match mode with
   | 0=>v.cells.map fun bH=>(.ptr H.length 0,H++[.cells (bH.map I.settle)])
   | _=>match v.cells with
     | some bH=>match bH.all I.plain with
       | true=>some (.bW bH,H)
       | false=>none
     | none=>none
 | _=>none
def kT (mode:Nat) (t:TypeId) (H:List au):Out :=
 match mode with
 | 0=>(zeroCells P t).map fun z=>(.ptr H.length 0,H++[.cells z])
 | _=>match zeroCells P t,P.underlying t with
   | some [.ay [] 0 .full],some (.slice e)=>(bU P e).map fun s=>(.ptr H.length 0,H++[.cells [.ay [] 0 (.own s)]])
   | _,_=>none
def jX (mode:Nat) (t:TypeId) (H:List au):List I→Out
 | [.int _ n,.int _ c] =>
   if 0≤n∧n≤c then
    match mode with
    | 0=>(jh P t c.toNat).map fun r=>(.ref H.length 0 n.toNat (some c.toNat) r.2,H++[.cells r.1])
    | _=>if n=c∧0≤n then (jh P t c.toNat).map fun r=>(.ay r.1 n.toNat (.uniq r.2),H) else none
   else none
 | _=>none
def kK (t:TypeId):Bool:=match P.underlying t with
 | some (.int _)=>true
 | some (.struct bG)=>gC P bG.toList 0 && !P.stoodInHeld t
 | _=>false
def gy:I→I→Option Bool
 | .int k a,.int k' b=>if k=k' then some (a == b) else none
 | .agg xs,.agg ys=>dL xs ys
 | _,_=>none
def isKey (t:TypeId) (k:I):Bool:=match P.underlying t,k with
 | some (.int q),.int fO _=>q == fO
 | some (.struct bG),.agg cs=>cs.length == bG.size
 | _,_=>false
def fB (k:I):List (Nat×I×I)→Nat→Option (Option Nat)
 | [],_=>some none
 | (_,k',_)::r,i=>match gy k k' with
   | some true=>some (some i)
   | some false=>fB k r (i+1)
   | none=>none
def jS (t:TypeId):Option (TypeId×TypeId):=match P.underlying t with
 | some (.map k e)=>match kK P k with | true=>some (k,e) | false=>none
 | _=>none
def ot (t:TypeId):Option I:=((P.info? t).bind (·.zero)).bind fun v=>match v with
 | .agg cs=>match cs.toList.all (·.oneCell') with | true=>some (.agg (cs.toList.map hp)) | false=>none
 | v=>some (hp v)
def kW (t:TypeId) (r:Option Operand) (H:List au):Out :=
 match r,P.underlying t with
 | none,some (.map _ _)=>some (.map H.length,H++[.map [] 0])
 | _,_=>none
def iZ (lo:Nat) (t:TypeId) (H:List au):List I→Out
 | [.map id,k,v]=>match jS P t with
   | some (ea,_)=>match isKey P ea k with
     | true=>if lo≤id then match H[id]? with
       | some (.map es clock)=>match fB k es 0 with
         | some (some i)=>some (.junk,H.set id (.map (es.modify i fun e=>(e.1,k,v)) clock))
         | some none=>some (.junk,H.set id (.map (es++[(clock,k,v)]) (clock+1)))
         | none=>none
       | _=>none else none
     | false=>none
   | none=>none
 | _=>none
def ie (t:TypeId) (ok:Bool) (H:List au):List I→Out
 | [.map id,k]=>match jS P t with
   | some (ea,iE)=>match isKey P ea k,H[id]? with
     | true,some (.map es _)=>match fB k es 0 with
       | some r =>
         (match r.bind fun i=>es[i]? with | some e=>some e.2.2 | none=>ot P iE).map fun v =>
          (if ok then .tuple [v,.bool r.isSome] else v,H)
       | none=>none
     | _,_=>none
   | none=>none
 | _=>none
def hC (lo:Nat) (ts:Array TypeId) (H:List au):List I→Out
 | [.map id,k]=>match (ts[0]?).bind (jS P) with
   | some (ea,_)=>match isKey P ea k with
     | true=>if lo≤id then match H[id]? with
       | some (.map es clock)=>match fB k es 0 with
         | some (some i)=>some (.tuple [],H.set id (.map (es.eraseIdx i) clock))
         | some none=>some (.tuple [],H)
         | none=>none
       | _=>none else none
     | false=>none
   | none=>none
 | _=>none
def kX (t:TypeId) (H:List au):List I→Out
 | [.map id]=>match P.underlying t,H[id]? with
   | some (.map _ _),some (.map _ clock)=>some (.ptr H.length 0,H++[.iter id clock [] clock])
   | _,_=>none
 | _=>none
def kV (H:List au):List I→Out
 | [.ptr r 0]=>match H[r]? with
   | some (.iter m _ seen j_)=>match seen.getLast?,H[m]? with
     | some gh,some (.map es clock)=>if clock=j_ then match es.find? (fun e=>e.1 == gh) with
       | some e=>some (.tuple [e.2.1,e.2.2],H)
       | none=>none else none
     | _,_=>none
   | _=>none
 | _=>none
def iS (t:Option TypeId):Bool:=match t.bind P.underlying with | some (.slice _)=>true | _=>false
def hb (ts:Array TypeId) (H:List au):List I→Out
 | [x]=>match x with
   | .ay _ n _=>match iS P ts[0]? with | true=>some (.int .i64 n,H) | false=>none
   | .ref _ _ n _ _=>match iS P ts[0]? with | true=>some (.int .i64 n,H) | false=>none
   | .map id=>match (ts[0]?).bind P.underlying,H[id]? with | some (.map _ _),some (.map es _)=>some (.int .i64 es.length,H) | _,_=>none
   | _=>match (ts[0]?).bind P.underlying with | some (.array n _)=>some (.int .i64 n,H) | _=>none
 | _=>none
def jV (ts:Array TypeId) (H:List au):List I→Out
 | [.ay _ n .full]=>match iS P ts[0]? with | true=>some (.int .i64 n,H) | false=>none
 | [.ref _ _ _ (some n) _]=>match iS P ts[0]? with | true=>some (.int .i64 n,H) | false=>none
 | _=>none
def jW (lo:Nat) (ts:Array TypeId) (H:List au):List I→Out
 | [.ref id off len _ sz,x]=>match (ts[0]?).bind P.underlying with
   | some (.slice e)=>match bU P e,lenOf x,rowOf H x with
     | some s,some m,some row=>if s=sz∧row.length=m*sz then
       (g9 lo H id fun l=>if off+len*sz≤l.length then some (setCells off (row.take (min m len*sz)) l) else none).map fun H'=>(.int .i64 (min m len:Nat),H') else none
     | _,_,_=>none
   | _=>none
 | _=>none
def kU (lo:Nat) (ts:Array TypeId) (H:List au):List I→Out
 | [.ref id off len _ sz]=>match (ts[0]?).bind P.underlying with
   | some (.slice e)=>match bU P e,zeroCells P e with
     | some s,some z=>if s=sz∧z.length=s∧0<s then
       (g_ lo H id fun l=>if off+len*sz≤l.length then some (setCells off (eZ len z) l) else none).map fun H'=>(.tuple [],H') else none
     | _,_=>none
   | _=>none
 | [.ay [] 0 _]=>match iS P ts[0]? with | true=>some (.tuple [],H) | false=>none
 | _=>none
def iX (ts:Array TypeId) (H:List au):List I→Out
 | [s,x]=>match ts.toList with
   | [t,dp]=>(e6 P H t dp s x).map (·,H)
   | _=>none
 | _=>none
def ic (lo:Nat) (ts:Array TypeId) (H:List au):List I→Out
 | [s,x]=>match ts.toList with
   | [t,dp]=>match s with
     | .ay _ _ _=>match e6 P H t dp s x with
       | some (.ay cells n (.uniq z))=>if n=0 then none else some (.cn H.length (H.length+1) n z,H++[.grow cells (H.length+1) z,.dead])
       | _=>none
     | .cn id gid len z=>if lo≤id then match P.underlying t,H[id]? with
       | some (.slice e),some (.grow l g cW)=>match bU P e,(P.info? e).map (·.bytes),zeroCells P e,appended H x with
         | some sz,some bytes,some gj,some (m,new) =>
           if t=dp∧g=gid∧cW=z∧z=sz∧l.length=len*z∧new.length=m*sz∧0<sz∧0<m∧gj.length=sz∧fr m bytes=true∧fr (len+m) bytes=true then
            some (.cn H.length (H.length+1) (len+m) z,H.set id .dead++[.grow (l++new) (H.length+1) z,.dead])
           else none
         | _,_,_,_=>none
       | _,_=>none else none
     | _=>none
   | _=>none
 | _=>none
def jb (lo:Nat) (H:List au):List I→List au
 | .cn id _ len z::_=>match H[id]? with
   | some (.grow l g cW)=>match Nat.blt (len*z) l.length && Nat.ble lo id with
     | true=>H.set id (.grow (l.take (len*z)) g cW)
     | false=>H
   | _=>H
 | _=>H
def iY (lo:Nat) (ts:Array TypeId) (H:List au) (vs:List I):Out:=ic P lo ts (jb lo H vs) vs
def eu (lo:Nat) (b:Builtin) (ts:Array TypeId) (H:List au) (vs:List I):Out :=
 match b with
 | .append=>iX P ts H vs
 | .len=>hb P ts H vs
 | .cap=>jV P ts H vs
 | .copy=>jW P lo ts H vs
 | .clear=>kU P lo ts H vs
 | .delete=>hC P lo ts H vs
 | .min=>(nO vs).map (·,H)
 | .max=>(nN vs).map (·,H)
 | _=>none
def hB (C:b8) (lo mode:Nat) (H:List au):List I→Out
 | f::args=>ki C lo mode f args H
 | []=>none
def a9 (C:b8) (lo:Nat) (o:Oper) (mode:Nat) (vs:List I) (H:List au):Out :=
 match o.op with
 | .move x=>eR P lo mode o.type x H vs
 | .assign x=>eR P lo mode o.type x H vs
 | .load t _=>dP P lo mode t H vs
 | .store t _ _=>hD P lo mode t H vs
 | .box _ _=>gF mode H vs
 | .alloc t=>kT P mode t H
 | .buildSlice t len parts=>match mode with
   | 0=>(cA P o vs).map (·,H)
   | _=>(iz P t len (ft parts.toList vs)).map fun r=>(.ay r.1 len .full,H)
 | .makeSlice t _ _=>jX P mode t H vs
 | .makeMap t r=>kW P t r H
 | .mapUpdate t _ _ _=>iZ P lo t H vs
 | .lookup t _ _ ok=>ie P t ok H vs
 | .range t _=>kX P t H vs
 | .entry _=>kV H vs
 | .call c=>match c.callee with
   | .builtin b=>match b with
     | .append=>match mode with
       | 0=>eu P lo b c.argTypes H vs
       | _=>iY P lo c.argTypes H vs
     | _=>eu P lo b c.argTypes H vs
   | .value _=>hB C lo mode H vs
   | .invoke _ _=>none
 | _=>(cA P o vs).map (·,H)
def put (T:List I):Option Tmp→I→List I
 | some d,v=>gK T d v
 | none,_=>T
def inPlace (o:Oper) (mode:Nat) (T:List I) (v:I):List I :=
 match mode with
 | 0=>T
 | 4=>T
 | _=>match o.op with
   | .move (.tmp t) | .assign (.tmp t)=>gK T t v.view
   | _=>T
def execOp (C:b8) (lo:Nat) (o:Oper) (an:b7) (s:a6):Option a6 :=
 let r:=rd s.T an.takes (opsOf o)
 let vs:=match dO o with | true=>r.1 | false=>r.1.map I.view
 (a9 P C lo o an.mode vs s.H).map fun x=>⟨put (inPlace o an.mode r.2 x.1) o.dst x.1,x.2⟩
def ev (ops:Array Oper) (o:Oper) (T:List I):Option Bool :=
 match o.guard with
 | none=>some true
 | some (j,want)=>match (ops[j]?).bind (·.dst) with
   | some d=>match c6 T d with
     | .bool b=>some (b == want)
     | .tuple []=>some false
     | _=>none
   | none=>none
def eI (C:b8) (lo:Nat) (ops:Array Oper):List Oper→List b7→a6→Option a6
 | [],_,s=>some s
 | o::rest,as,s =>
   match ev ops o s.T with
   | some true=>(execOp P C lo o (as.headD {}) s).bind (eI C lo ops rest as.tail)
   | some false=>eI C lo ops rest as.tail ⟨put s.T o.dst (.tuple []),s.H⟩
   | none=>none
def ia (f:a6→Option (cD×a6)):Nat→a6→Option (cD×a6)
 | 0,_=>none
 | n+1,s=>match f s with
   | some (.normal,aF)=>ia f n aF
   | r=>r
def inLoop (H:List au):Option Nat→Bool
 | none=>true
 | some l=>match H[l]? with
   | some (.loop ..)=>true
   | _=>false
def exec (A:c9) (C:b8) (fn:FuncId) (lo d:Nat) (rl:Option Nat):Code→Nat→a6→Option (cD×a6)
 | .skip,_,s=>some (.normal,s)
 | .region id ops draw,_,s=>match j' A id draw with
   | some _=>none
   | none=>(eI P C lo ops ops.toList (A.ops.getD id []) (eX A.h' id s)).map fun aF=>(.normal,aF)
 | .seq a b,aZ,s=>match exec A C fn lo d rl a aZ s with
   | some (.normal,aF)=>exec A C fn lo d rl b aZ aF
   | r=>r
 | .cond c a b,aZ,s=>match aA s.T c with
   | .bool true=>exec A C fn lo d rl a aZ s
   | .bool false=>exec A C fn lo d rl b aZ s
   | _=>none
 | .block id body,_,s=>match exec A C fn lo d rl body id s with
   | some (.exit bA,aF)=>if bA=id then some (.normal,aF) else some (.exit bA,aF)
   | r=>r
 | .loop body,aZ,s=>ia (fun aF=>exec A C fn lo d rl body aZ (eX A.h_ aZ aF)) d s
 | .exit id,_,s=>some (.exit id,s)
 | .ret,_,s=>some (.ret,s)
 | .scope body,aZ,s=>exec A C fn lo d rl body aZ s
 | .label _,_,s=>some (.normal,s)
 | .rangeFunc f params assign body,_,s =>
   match inLoop s.H rl,aA s.T f with
   | true,.func k first cap =>
     match C (.fn k) (first++[.yield s.H.length]++cap) (s.H++[.loop .ready none fn (s.T.map I.view) params.toList assign body A]) lo with
     | some (_,H')=>match H'[s.H.length]? with
       | some (.loop st cH _ _ _ _ _ _) =>
         if st=.busy then none else
         match cH with
         | none=>some (.normal,⟨s.T.map I.settle,H'.set s.H.length .dead⟩)
         | some .ret=>some (.ret,⟨s.T.map I.settle,H'.set s.H.length .dead⟩)
         | some (.exit id)=>some (.exit id,⟨s.T.map I.settle,H'.set s.H.length .dead⟩)
         | _=>none
       | _=>none
     | none=>none
   | _,_=>none
 | _,_,_=>none
def ff (H:List au) (T:List I):List ResultVar→Option (List I)
 | []=>some []
 | .tmp t::r=>(ff H T r).map (c6 T t::·)
 | .cell a t::r=>match dS P H t (c6 T a),ff H T r with
   | some v,some vs=>some (v::vs)
   | _,_=>none
def hc:List I→I
 | [v]=>v
 | vs=>.tuple (vs.map I.view)
def hj:List Nat→List I→List I→Option (List I)
 | [],[],T=>some T
 | p::bj,v::vs,T=>hj bj vs (gK T p v)
 | _,_,_=>none
def fS (A:FuncId→c9) (tab:b8):Nat→b8
 | 0,_,_,_,_=>none
 | d+1,.fn k,args,H,lo =>
   match tab (.fn k) args H lo with
   | some r=>some r
   | none =>
   match (A k).bad with
   | true=>none
   | false =>
   match P.funcs[k]? with
   | some f=>match f.body with
     | some c =>
       match exec P (A k) (fS A tab d) k lo d none c 0 ⟨args++List.replicate (f.ntmps-args.length) .junk,H⟩ with
       | some (.normal,s) | some (.ret,s)=>(ff P s.H s.T f.results.toList).map fun vs=>(hc vs,s.H)
       | _=>none
     | none=>none
   | none=>none
 | d+1,.yield l,args,H,lo =>
   if l<lo then none else
   match H[l]? with
   | some (.loop .ready _ fn T params assign body an) =>
     match hj params args T with
     | some a8 =>
       match exec P an (fS A tab d) fn lo d (some l) assign 0 ⟨a8,H⟩ with
       | some (.normal,s) =>
         match s.H[l]? with
         | some (.loop .ready cH fn T params assign lz iC) =>
           match exec P an (fS A tab d) fn lo d (some l) body 0 ⟨s.T,s.H.set l (.loop .busy cH fn T params assign lz iC)⟩ with
           | some (e,s2) =>
             match s2.H[l]? with
             | some (.loop .busy _ fn T params assign lz iC) =>
               match e with
               | .normal=>some (.bool true,s2.H.set l (.loop .ready none fn T params assign lz iC))
               | .ret=>some (.bool false,s2.H.set l (.loop .done (some .ret) fn T params assign lz iC))
               | .exit id=>some (.bool false,s2.H.set l (.loop .done (some (.exit id)) fn T params assign lz iC))
             | _=>none
           | none=>none
         | _=>none
       | _=>none
     | none=>none
   | _=>none
end
end
end Go.Proofs.YtfakoboiahbhaaaGreat.Ab


namespace Go.Proofs.YtfakoboiahbhaaaGreat.Ab
open Go
inductive aI where
 | slot (i:Nat)
 | arg (i:Nat)
 | res
 | obj (id:Nat)
 | cell (id j:Nat)
 | mark
 deriving DecidableEq
inductive Rel (J:List Nat) (S:Nat→Nat→Prop) (w:World):I→Value→Prop
 | junk (v:Value):Rel J S w .junk v
 | bool (b:Bool):Rel J S w (.bool b) (.bool b)
 | dq (b:Bool):Rel J S w .dq (.bool b)
 | int (k:IntKind) (n:Int):Rel J S w (.int k n) (.int k n)
 | str (s:ByteArray):Rel J S w (.str s) (.string s)
 | eC:Rel J S w .eC (.pointer none)
 | ptr (id off b:Nat) (h:J[id]?=some b):Rel J S w (.ptr id off) (.pointer (some ⟨b,off,none⟩))
 | bW (cells:List I) (b o:Nat) (f:Nat→Value)
   (h:∀ (j:Nat) (u:I),cells[j]?=some u→S b (o+j)∧w.cell? ⟨b,o+j,none⟩=some (f j)∧u.plain=true∧(f j).oneCell'=true)
   (aj:∀ (j:Nat) (u:I),cells[j]?=some u→Rel J S w u (f j)):Rel J S w (.bW cells) (.pointer (some ⟨b,o,none⟩))
 | b3 (c:ir) (a:Option Addr):Rel J S w (.ay [] 0 c) (.slice a 0 0)
 | ay (cells:List I) (len:Nat) (c:ir) (b o cap:Nat) (f:Nat→Value)
   (ao:c=.full→cap=len) (hle:len≤cap) (hu:∀ z,c≠.uniq z)
   (h:∀ (j:Nat) (u:I),cells[j]?=some u→S b (o+j)∧w.cell? ⟨b,o+j,none⟩=some (f j)∧u.plain=true∧(f j).oneCell'=true)
   (aj:∀ (j:Nat) (u:I),cells[j]?=some u→Rel J S w u (f j)):Rel J S w (.ay cells len c) (.slice (some ⟨b,o,none⟩) len cap)
 | cM (cells:List I) (len z b o cap:Nat):Rel J S w (.ay cells len (.uniq z)) (.slice (some ⟨b,o,none⟩) len cap)
 | raw (cells:List I) (len z b o cap:Nat):Rel J S w (.raw cells len z) (.slice (some ⟨b,o,none⟩) len cap)
 | ref (id off len:Nat) (c:Option Nat) (sz b cap:Nat) (h:J[id]?=some b) (ao:∀ n,c=some n→cap=n) (hle:len≤cap) :
   Rel J S w (.ref id off len c sz) (.slice (some ⟨b,off,none⟩) len cap)
 | cn (id gid len z b cap:Nat) (h:J[id]?=some b) (aO:J[gid]?=some cap) (hle:len≤cap):Rel J S w (.cn id gid len z) (.slice (some ⟨b,0,none⟩) len cap)
 | func (f:FuncId) (as bs:List I) (vs ws:Array Value) (ad:vs.size=as.length) (af:ws.size=bs.length)
   (bT:∀ u∈as,u.plain=true) (b6:∀ u∈bs,u.plain=true)
   (aS:∀ (j:Nat) (u:I) (v:Value),as[j]?=some u→vs[j]?=some v→Rel J S w u v)
   (bk:∀ (j:Nat) (u:I) (v:Value),bs[j]?=some u→ws[j]?=some v→Rel J S w u v):Rel J S w (.func f as bs) (.func (.func f) vs ws)
 | yield (id b:Nat) (h:J[id]?=some b):Rel J S w (.yield id) (.func (.yield b) #[] #[])
 | map (id b:Nat) (h:J[id]?=some b):Rel J S w (.map id) (.map (some b))
 | agg (as:List I) (vs:Array Value) (h:vs.size=as.length) (p:∀ u∈as,u.plain=true) (one:∀ v∈vs.toList,v.oneCell'=true)
   (r:∀ (j:Nat) (u:I) (v:Value),as[j]?=some u→vs[j]?=some v→Rel J S w u v):Rel J S w (.agg as) (.agg vs)
 | tuple (as:List I) (vs:Array Value) (h:vs.size=as.length) (p:∀ u∈as,u.plain=true)
   (r:∀ (j:Nat) (u:I) (v:Value),as[j]?=some u→vs[j]?=some v→Rel J S w u v):Rel J S w (.tuple as) (.tuple vs)
def aW (U:Nat→Option aI) (J:List Nat) (S:Nat→Nat→Prop) (w:World) (l:aI):I→Value→Prop
 | .ay cells len (.own z),.slice (some a) _ cap=>(len=0∧cap=0∧cells=[]) ∨
   (U a.block=some l∧True∧a.spot=none∧len≤cap∧cap≤maxLen∧0<z∧cells.length=len*z ∧
    (∃ cur e,w.heap[a.block]?=some (.cells cur e (0,0))∧cur.size=a.off+cap*z)∧∀ o,a.off+cells.length≤o→¬ S a.block o)
 | .ay cells len (.uniq z),.slice (some a) _ cap=>(len=0∧cap=0∧cells=[]) ∨
   (U a.block=some l∧a.off=0∧len≤cap∧cap≤maxLen∧0<z∧cells.length=len*z ∧
    (∃ cur e,w.heap[a.block]?=some (.cells cur e (0,0))∧cur.size=cap*z ∧
     ∀ (j:Nat) (u:I) (v:Value),cells[j]?=some u→cur[j]?=some v→u.plain=true∧v.oneCell'=true∧Rel J S w u v)∧∀ o,¬ S a.block o)
 | .raw cells len z,.slice (some a) _ cap =>
   U a.block=some l∧a.off=0∧len≤cap∧cap≤maxLen∧0<z∧cells.length=len*z∧cells.all gJ=true ∧
     (∃ cur e,w.heap[a.block]?=some (.cells cur e (0,0))∧cur.size=cap*z ∧
      ∀ (j:Nat) (u:I) (v:Value),cells[j]?=some u→cur[j]?=some v→v.oneCell'=true∧Rel J S w u v)∧∀ o,¬ S a.block o
 | _,_=>True
structure bh (U:Nat→Option aI) (S:Nat→Nat→Prop) (w:World) (az:Nat→Option aI) (S':Nat→Nat→Prop) (w':World):Prop where
 os:w'.os=w.os
 tape:w'.tape=w.tape
 output:w'.output=w.output
 size:w.heap.size≤w'.heap.size
 cF:∀ b,b<w.heap.size→U b=none→w'.heap[b]?=w.heap[b]?
 set:∀ b o,S b o→S' b o∧w'.cell? ⟨b,o,none⟩=w.cell? ⟨b,o,none⟩
 fresh:∀ b o,S' b o→S b o∨U b≠none∨w.heap.size≤b
 own:∀ b,az b≠none→U b≠none∨w.heap.size≤b
theorem bh.refl (U:Nat→Option aI) (S:Nat→Nat→Prop) (w:World):bh U S w U S w :=
 ⟨rfl,rfl,rfl,rX _,fun _ _ _=>rfl,fun _ _ h=>⟨h,rfl⟩,fun _ _ h=>.inl h,fun _ h=>.inl h⟩
theorem bh.trans {U b4 bp:Nat→Option aI} {S a5 bJ:Nat→Nat→Prop} {w bE bV:World} (h:bh U S w b4 a5 bE) (k:bh b4 a5 bE bp bJ bV) :
  bh U S w bp bJ bV where
 os:=k.os.trans h.os
 tape:=k.tape.trans h.tape
 output:=k.output.trans h.output
 size:=sJ h.size k.size
 cF b ag aN:=by
  have ad:b4 b=none:=by
   cases hw:b4 b with
   | none=>rfl
   | some l =>
     rcases h.own b (by simp [hw]) with af | af
     ·exact absurd aN af
     ·omega
  rw [k.cF b (Nat.lt_of_lt_of_le ag h.size) ad,h.cF b ag aN]
 set b o ai:=by
  obtain ⟨ad,af⟩:=h.set b o ai;obtain ⟨aJ,aP⟩:=k.set b o ad;exact ⟨aJ,aP.trans af⟩
 fresh b o ai:=by
  rcases k.fresh b o ai with ad | ad | ad
  ·exact h.fresh b o ad
  ·rcases h.own b ad with af | af
   ·exact .inr (.inl af)
   ·exact .inr (.inr af)
  ·exact .inr (.inr (sJ h.size ad))
 own b ag:=by
  rcases k.own b ag with ad | ad
  ·exact h.own b ad
  ·exact .inr (sJ h.size ad)
def Ext (J b1:List Nat):Prop:=∀ (i b:Nat),J[i]?=some b→b1[i]?=some b
theorem Ext.refl (J:List Nat):Ext J J:=fun _ _ h=>h
theorem Ext.trans {a b c:List Nat} (h:Ext a b) (k:Ext b c):Ext a c:=fun i x al=>k i x (h i x al)
theorem Ext.append (a b:List Nat):Ext a (a++b):=fun i x al=>by
 rw [se (rV.1 al).1];exact al
theorem Rel.mono {J b1:List Nat} {S S':Nat→Nat→Prop} {w w':World} (bM:Ext J b1)
  (cp:∀ b o,S b o→S' b o∧w'.cell? ⟨b,o,none⟩=w.cell? ⟨b,o,none⟩) {u:I} {v:Value} (h:Rel J S w u v):Rel b1 S' w' u v:=by
 induction h with
 | junk v=>exact .junk v
 | bool b=>exact .bool b
 | dq b=>exact .dq b
 | int k n=>exact .int k n
 | str s=>exact .str s
 | eC=>exact .eC
 | ptr id off b h=>exact .ptr id off b (bM _ _ h)
 | bW cells b o f h aj a' =>
   exact .bW cells b o f (fun j u aw=>let ⟨ad,af,aG⟩:=h j u aw;⟨(cp _ _ ad).1,(cp _ _ ad).2.trans af,aG⟩) a'
 | b3 c a=>exact .b3 c a
 | ay cells len c b o cap f ao hle hu h aj a' =>
   exact .ay cells len c b o cap f ao hle hu (fun j u aw=>let ⟨ad,af,aG⟩:=h j u aw;⟨(cp _ _ ad).1,(cp _ _ ad).2.trans af,aG⟩) a'
 | cM cells len z b o cap=>exact .cM cells len z b o cap
 | raw cells len z b o cap=>exact .raw cells len z b o cap
 | ref id off len c sz b cap h ao hle=>exact .ref id off len c sz b cap (bM _ _ h) ao hle
 | cn id gid len z b cap h aO hle=>exact .cn id gid len z b cap (bM _ _ h) (bM _ _ aO) hle
 | func f as bs vs ws ad af bT b6 aS bk i1 i2=>exact .func f as bs vs ws ad af bT b6 i1 i2
 | yield id b h=>exact .yield id b (bM _ _ h)
 | map id b h=>exact .map id b (bM _ _ h)
 | agg as vs h p one r a'=>exact .agg as vs h p one a'
 | tuple as vs h p r a'=>exact .tuple as vs h p a'
theorem aW.mono {U az:Nat→Option aI} {J b1:List Nat} {S S':Nat→Nat→Prop} {w w':World} {l l':aI} (bM:Ext J b1)
  (cp:∀ b o,S b o→S' b o∧w'.cell? ⟨b,o,none⟩=w.cell? ⟨b,o,none⟩)
  (f_:∀ b,U b=some l→az b=some l'∧w'.heap[b]?=w.heap[b]?∧∀ o,S' b o→S b o) {u:I} {v:Value} (h:aW U J S w l u v) :
  aW az b1 S' w' l' u v:=by
 unfold aW at h ⊢;split at h
 ·rcases h with h | ⟨ad,af,aG,a7,bN,bX,cP,⟨cur,e,cT,cX⟩,dz⟩
  ·exact .inl h
  ·obtain ⟨aJ,aP,cl⟩:=f_ _ ad;exact .inr ⟨aJ,af,aG,a7,bN,bX,cP,⟨cur,e,aP.trans cT,cX⟩,fun o aq ai=>dz o aq (cl o ai)⟩
 ·rcases h with h | ⟨ad,aT,a7,bN,bX,cP,⟨cur,e,cT,cX,dz⟩,fj⟩
  ·exact .inl h
  ·obtain ⟨aJ,aP,cl⟩:=f_ _ ad;exact .inr ⟨aJ,aT,a7,bN,bX,cP,⟨cur,e,aP.trans cT,cX,fun j u v hu ae=>⟨(dz j u v hu ae).1,(dz j u v hu ae).2.1,((dz j u v hu ae).2.2).mono bM cp⟩⟩,fun o ai=>fj o (cl o ai)⟩
 ·obtain ⟨ad,aT,a7,bN,bX,cP,ai,⟨cur,e,cT,cX,dz⟩,fj⟩:=h;obtain ⟨aJ,aP,cl⟩:=f_ _ ad;exact ⟨aJ,aT,a7,bN,bX,cP,ai,⟨cur,e,aP.trans cT,cX,fun j u v hu ae=>⟨(dz j u v hu ae).1,((dz j u v hu ae).2).mono bM cp⟩⟩,fun o ai=>fj o (cl o ai)⟩
 ·trivial
theorem aW.b5 {U:Nat→Option aI} {J:List Nat} {S:Nat→Nat→Prop} {w:World} {l:aI} {u:I} {v:Value} (h:u.plain=true):aW U J S w l u v:=by
 unfold aW;split <;> first | trivial | simp [I.plain] at h
def gp (U:Nat→Option aI) (J:List Nat) (S:Nat→Nat→Prop) (w:World) (id:Nat):au→Prop
 | .dead=>True
 | .cells l=>∃ b cur e,J[id]?=some b∧U b=some (.obj id)∧w.heap[b]?=some (.cells cur e (0,0))∧l.length≤cur.size∧(∀ o,¬ S b o) ∧
   ∀ (j:Nat) (u:I) (v:Value),l[j]?=some u→cur[j]?=some v→u.cV=true∧v.oneCell'=true∧Rel J S w u v∧aW U J S w (.cell id j) u v
 | .loop st cH fn T params assign body js=>codeOk js assign=true∧codeOk js body=true∧∃ b L,J[id]?=some b∧U b=some (.obj id)∧w.heap[b]?=some (.loop L)∧L.state=st∧L.pending=cH∧True ∧
   L.tmps.size=T.length∧(∀ (i:Nat) (u:I) (v:Value),T[i]?=some u→L.tmps[i]?=some v→u.plain=true∧Rel J S w u v)∧L.params.toList=params∧L.assign=assign∧L.body=body
 | .map es clock=>∃ b bz,J[id]?=some b∧U b=some (.obj id)∧w.heap[b]?=some (.map bz clock)∧bz.size=es.length∧(∀ o,¬ S b o) ∧
   ∀ (j i:Nat) (k v:I) (x:MapEntry),es[j]?=some (i,k,v)→bz[j]?=some x→x.born=i∧k.plain=true∧Rel J S w k x.key∧v.plain=true∧Rel J S w v x.val
 | .grow l gid z=>∃ b cur e,J[id]?=some b∧U b=some (.obj id)∧w.heap[b]?=some (.cells cur e (0,0))∧l.length≤cur.size∧(∀ o,¬ S b o) ∧
   (∀ (j:Nat) (u:I) (v:Value),l[j]?=some u→cur[j]?=some v→u.cV=true∧v.oneCell'=true∧Rel J S w u v∧aW U J S w (.cell id j) u v) ∧
   ∃ cap,J[gid]?=some cap∧cap≤maxLen∧0<z∧cur.size=cap*z
 | .iter m since seen j_=>∃ b ed,J[id]?=some b∧U b=some (.obj id)∧J[m]?=some ed∧w.heap[b]?=some (.mapIter (some ed) since seen.toArray j_)∧(∀ o,¬ S b o)
structure aL (B:Nat) (U:Nat→Option aI) (J:List Nat) (S:Nat→Nat→Prop) (w:World) (H:List au):Prop where
 cG:J.length=H.length
 obj:∀ (id:Nat) (o:au),H[id]?=some o→gp U J S w id o
 ch:∀ b o,S b o→∃ v,w.cell? ⟨b,o,none⟩=some v
 base:∀ b l,U b=some l→B≤b∧b<w.heap.size
 cZ:B≤w.heap.size
structure a_ (bB:Nat→aI) (U:Nat→Option aI) (J:List Nat) (S:Nat→Nat→Prop) (w:World) (T:List I) (bf:List Value):Prop where
 len:T.length=bf.length
 rel:∀ (i:Nat) (u:I) (v:Value),T[i]?=some u→bf[i]?=some v→Rel J S w u v
 own:∀ (i:Nat) (u:I) (v:Value),T[i]?=some u→bf[i]?=some v→aW U J S w (bB i) u v
theorem AJ {J b1:List Nat} {S S':Nat→Nat→Prop} {w w':World} {u:I} {v:Value} (h:gJ u=true) (aj:Rel J S w u v):Rel b1 S' w' u v:=by
 cases aj <;> simp [gJ] at h <;> constructor
theorem ET {u:I} (h:gJ u=true):u.plain=true:=by
 cases u <;> simp [gJ] at h <;> rfl
theorem Ef {U:Nat→Option aI} {J:List Nat} {S:Nat→Nat→Prop} {w:World} {l:aI} {c:List I} {n z:Nat} {v:Value} (aj:Rel J S w (.raw c n z) v) (aq:aW U J S w l (.raw c n z) v) :
  Rel J S w (.ay c n (.uniq z)) v∧aW U J S w l (.ay c n (.uniq z)) v:=by
 cases aj with
 | raw _ _ _ b o cap =>
   obtain ⟨ad,aT,a7,bN,bX,cP,ai,⟨cur,e,cT,cX,dz⟩,fj⟩:=aq;rw [ss] at ai;exact ⟨.cM _ _ _ _ _ _,.inr ⟨ad,aT,a7,bN,bX,cP,⟨cur,e,cT,cX,fun j u v hu ae=>⟨ET (ai u (sA hu)),dz j u v hu ae⟩⟩,fj⟩⟩
theorem FK {U:Nat→Option aI} {J:List Nat} {S:Nat→Nat→Prop} {w:World} {l:aI} {c:List I} {n z:Nat} {v:Value} (aN:n≠0) (ai:c.all gJ=true) (aj:Rel J S w (.ay c n (.uniq z)) v) (aq:aW U J S w l (.ay c n (.uniq z)) v) :
  Rel J S w (.raw c n z) v∧aW U J S w l (.raw c n z) v:=by
 cases aj with
 | b3 _ a=>exact absurd rfl aN
 | ay _ _ _ b o cap f ao hle hu h aj=>exact absurd rfl (hu z)
 | cM _ _ _ b o cap =>
   rcases aq with ⟨h,_,_⟩ | ⟨ad,aT,a7,bN,bX,cP,⟨cur,e,cT,cX,dz⟩,fj⟩
   ·exact absurd h aN
   ·exact ⟨.raw _ _ _ _ _ _,ad,aT,a7,bN,bX,cP,ai,⟨cur,e,cT,cX,fun j u v hu ae=>(dz j u v hu ae).2⟩,fj⟩
theorem mv {w:World} {b o:Nat} {v:Value} (h:w.cell? ⟨b,o,none⟩=some v):b<w.heap.size:=World.block_lt_of_cell? w ⟨b,o,none⟩ h
end Go.Proofs.YtfakoboiahbhaaaGreat.Ab


namespace Go.Proofs.YtfakoboiahbhaaaGreat.Ab
open Go
structure ew (U:Nat→Option aI) (S:Nat→Nat→Prop) (az:Nat→Option aI) (S':Nat→Nat→Prop):Prop where
 set:∀ b o,S b o→S' b o
 fresh:∀ b o,S' b o→S b o∨∃ i,U b=some (.slot i)
 cF:∀ b l,U b=some l→(∀ i,l≠.slot i)→az b=some l
 none:∀ b,U b=none→az b=none
 slot:∀ b i,az b=some (.slot i)→U b=some (.slot i)
theorem ew.refl (U:Nat→Option aI) (S:Nat→Nat→Prop):ew U S U S :=
 ⟨fun _ _ h=>h,fun _ _ h=>.inl h,fun _ _ h _=>h,fun _ h=>h,fun _ _ h=>h⟩
theorem ew.trans {U b4 bp:Nat→Option aI} {S a5 bJ:Nat→Nat→Prop} (h:ew U S b4 a5) (k:ew b4 a5 bp bJ):ew U S bp bJ where
 set b o ai:=k.set b o (h.set b o ai)
 fresh b o ai:=by
  rcases k.fresh b o ai with ad | ⟨i,ad⟩
  ·exact h.fresh b o ad
  ·exact .inr ⟨i,h.slot b i ad⟩
 cF b l ak aN:=k.cF b l (h.cF b l ak aN) aN
 none b ag:=k.none b (h.none b ag)
 slot b i ag:=h.slot b i (k.slot b i ag)
theorem ew.aA {U az:Nat→Option aI} {S S':Nat→Nat→Prop} (h:ew U S az S') (w:World):bh U S w az S' w where
 os:=rfl
 tape:=rfl
 output:=rfl
 size:=rX _
 cF _ _ _:=rfl
 set b o ai:=⟨h.set b o ai,rfl⟩
 fresh b o ai:=by
  rcases h.fresh b o ai with ad | ⟨i,ad⟩
  ·exact .inl ad
  ·exact .inr (.inl (by simp [ad]))
 own b ag:=by
  refine .inl fun aT=>ag (h.none b aT)
theorem aW.gs {U az:Nat→Option aI} {S S':Nat→Nat→Prop} (g:ew U S az S') {J:List Nat} {w:World} {l:aI} (ak:∀ i,l≠.slot i) {u:I} {v:Value}
  (h:aW U J S w l u v):aW az J S' w l u v:=by
 refine h.mono (Ext.refl J) (fun b o ai=>⟨g.set b o ai,rfl⟩) fun b ag=>⟨g.cF b l ag ak,rfl,fun o ai=>?_⟩;rcases g.fresh b o ai with ad | ⟨i,ad⟩
 ·exact ad
 ·rw [ag] at ad;cases ad;exact absurd rfl (ak i)
theorem Rel.gs {U az:Nat→Option aI} {S S':Nat→Nat→Prop} (g:ew U S az S') {J:List Nat} {w:World} {u:I} {v:Value} (h:Rel J S w u v):Rel J S' w u v :=
 h.mono (Ext.refl J) fun b o ai=>⟨g.set b o ai,rfl⟩
theorem gp.gs {U az:Nat→Option aI} {S S':Nat→Nat→Prop} (g:ew U S az S') {J:List Nat} {w:World} {id:Nat} {o:au} (h:gp U J S w id o):gp az J S' w id o:=by
 have cp:∀ b bA,U b=some (.obj bA)→∀ o,S' b o→S b o:=fun b bA ag o ai=>by
  rcases g.fresh b o ai with ad | ⟨i,ad⟩
  ·exact ad
  ·rw [ag] at ad;cases ad
 cases o with
 | dead=>trivial
 | cells l =>
   obtain ⟨b,cur,e,ad,af,aG,a7,bN,bX⟩:=h
   exact ⟨b,cur,e,ad,g.cF b _ af (by simp),aG,a7,fun o ai=>bN o (cp b id af o ai),fun j u v hu ae =>
    let ⟨aB,jo,aH,aR⟩:=bX j u v hu ae;⟨aB,jo,aH.gs g,aR.gs g (by simp)⟩⟩
 | grow l gid z =>
   obtain ⟨b,cur,e,ad,af,aG,a7,bN,bX,cP⟩:=h
   exact ⟨b,cur,e,ad,g.cF b _ af (by simp),aG,a7,fun o ai=>bN o (cp b id af o ai),fun j u v hu ae =>
    let ⟨aB,jo,aH,aR⟩:=bX j u v hu ae;⟨aB,jo,aH.gs g,aR.gs g (by simp)⟩,cP⟩
 | loop st cH fn T params assign body js =>
   obtain ⟨al,a1,b,L,ad,af,aG,a7,bN,bX,cP,cT,cX⟩:=h;exact ⟨al,a1,b,L,ad,g.cF b _ af (by simp),aG,a7,bN,bX,cP,fun i u v hu ae=>⟨(cT i u v hu ae).1,(cT i u v hu ae).2.gs g⟩,cX⟩
 | map es clock =>
   obtain ⟨b,bz,ad,af,aG,a7,bN,bX⟩:=h
   exact ⟨b,bz,ad,g.cF b _ af (by simp),aG,a7,fun o ai=>bN o (cp b id af o ai),fun j i k v x hu ae =>
    let ⟨aB,aH,aR,bl,bc⟩:=bX j i k v x hu ae;⟨aB,aH,aR.gs g,bl,bc.gs g⟩⟩
 | iter m s e t =>
   obtain ⟨b,ed,ad,af,aG,a7,bN⟩:=h;exact ⟨b,ed,ad,g.cF b _ af (by simp),aG,a7,fun o ai=>bN o (cp b id af o ai)⟩
theorem aL.gs {B:Nat} {U az:Nat→Option aI} {S S':Nat→Nat→Prop} (g:ew U S az S') {J:List Nat} {w:World} {H:List au} (h:aL B U J S w H)
  (hw:∀ b o,S' b o→∃ v,w.cell? ⟨b,o,none⟩=some v):aL B az J S' w H where
 cG:=h.cG
 obj id o aq:=(h.obj id o aq).gs g
 ch:=hw
 base b l ak:=by
  cases ag:U b with
  | none=>rw [g.none b ag] at ak;cases ak
  | some l'=>exact h.base b l' ag
 cZ:=h.cZ
theorem lv (J:List Nat) (S:Nat→Nat→Prop) (w:World) (v:Value):Rel J S w (hp v) v:=by
 unfold hp;split
 ·exact .bool _
 ·exact .int _ _
 ·exact .eC
 ·exact .str _
 ·exact .b3 _ _
 ·exact .junk _
theorem m1 (v:Value):(hp v).plain=true:=by
 unfold hp;split <;> rfl
theorem I.dh (u:I):u.view.plain=true:=by
 unfold I.view;split <;> first | rfl | skip
 rename_i ad af aG a7;unfold I.plain;split
 ·exact absurd rfl (ad _ _ _)
 ·exact absurd rfl (af _ _ _)
 ·exact absurd rfl (aG _ _ _)
 ·exact absurd rfl (a7 _ _ _ _)
 ·rfl
theorem I.ga {u:I} (h:u.plain=true):u.cV=true:=by
 unfold I.plain at h;unfold I.cV;split at h <;> simp_all
theorem I.ke {u:I} (h:u.plain=true):u.view=u:=by
 unfold I.view;split <;> simp_all [I.plain]
theorem Rel.view {J:List Nat} {S:Nat→Nat→Prop} {w:World} {u:I} {v:Value} (h:Rel J S w u v) (aN:u.cV=true):Rel J S w u.view v:=by
 cases h with
 | b3 c a=>cases c <;> simp [I.view] <;> exact .b3 _ _
 | ay cells len c b o cap f ao hle hu h aj =>
   cases c with
   | shared=>exact .ay cells len .shared b o cap f ao hle hu h aj
   | full=>exact .ay cells len .full b o cap f ao hle hu h aj
   | own z=>exact .ay cells len .shared b o cap f (by simp) hle (by simp) h aj
   | uniq z=>exact absurd rfl (hu z)
 | cM=>simp [I.cV] at aN
 | raw=>exact .junk _
 | cn id gid len z b cap h aO hle=>exact .ref id 0 len none z b cap h (by simp) hle
 | junk v=>exact .junk v
 | bool b=>exact .bool b
 | dq b=>exact .dq b
 | int k n=>exact .int k n
 | str s=>exact .str s
 | eC=>exact .eC
 | ptr id off b h=>exact .ptr id off b h
 | bW cells b o f h aj=>exact .bW cells b o f h aj
 | ref id off len c sz b cap h ao hle=>exact .ref id off len c sz b cap h ao hle
 | func f as bs vs ws ad af bT b6 aS bk=>exact .func f as bs vs ws ad af bT b6 aS bk
 | yield id b h=>exact .yield id b h
 | map id b h=>exact .map id b h
 | agg as vs h p one r=>exact .agg as vs h p one r
 | tuple as vs h p r=>exact .tuple as vs h p r
section
variable {B:Nat} {J:List Nat} {w:World} {H:List au}
theorem a_.gs {bB:Nat→aI} (ak:∀ i k,bB i≠.slot k) {U az:Nat→Option aI} {S S':Nat→Nat→Prop} (g:ew U S az S') {T:List I} {bf:List Value} (h:a_ bB U J S w T bf) :
  a_ bB az J S' w T bf :=
 ⟨h.len,fun i u v hu ae=>(h.rel i u v hu ae).gs g,fun i u v hu ae=>(h.own i u v hu ae).gs g (ak i)⟩
theorem FF {U:Nat→Option aI} {S:Nat→Nat→Prop} {T:List I} {bf:List Value} (l:aI) (ak:∀ i,l≠.slot i)
  (bZ:a_ .slot U J S w T bf) (ah:aL B U J S w H) (t:Nat) :
  ∃ az,ew U S az S∧a_ .slot az J S w (T.set t .junk) bf∧aL B az J S w H ∧
    Rel J S w (T.getD t .junk) (bf.getD t undef)∧aW az J S w l (T.getD t .junk) (bf.getD t undef):=by
 classical
 refine ⟨fun b=>if U b=some (.slot t) then some l else U b,?_,?_,?_,?_,?_⟩
 ·refine ⟨fun _ _ h=>h,fun _ _ h=>.inl h,fun b l' h aN=>?_,fun b h=>?_,fun b i h=>?_⟩
  ·have:U b≠some (.slot t):=by rw [h];intro e;cases e;exact aN t rfl
   simp only [this,if_false];exact h
  ·simp [h]
  ·split at h
   ·cases h;exact absurd rfl (ak i)
   ·exact h
 ·refine ⟨by simpa using bZ.len,fun i u v hu ae=>?_,fun i u v hu ae=>?_⟩
  ·rw [uW] at hu;split at hu
   ·split at hu
    ·cases hu;exact .junk _
    ·cases hu
   ·exact bZ.rel i u v hu ae
  ·rw [uW] at hu;split at hu
   ·split at hu
    ·cases hu;exact aW.b5 rfl
    ·cases hu
   ·rename_i bO;refine (bZ.own i u v hu ae).mono (Ext.refl J) (fun b o ai=>⟨ai,rfl⟩) fun b ag=>⟨?_,rfl,fun o ai=>ai⟩
    have:U b≠some (.slot t):=by rw [ag];intro e;cases e;exact bO rfl
    simp only [this,if_false];exact ag
 ·refine ah.gs ⟨fun _ _ h=>h,fun _ _ h=>.inl h,fun b l' h aN=>?_,fun b h=>?_,fun b i h=>?_⟩ ah.ch
  ·have:U b≠some (.slot t):=by rw [h];intro e;cases e;exact aN t rfl
   simp only [this,if_false];exact h
  ·simp [h]
  ·split at h
   ·cases h;exact absurd rfl (ak i)
   ·exact h
 ·cases hu:T[t]? with
  | none=>rw [sC,hu];exact .junk _
  | some u =>
    have aV:=(rV.1 hu).1;have ae:bf[t]?=some (bf[t]'(bZ.len ▸ aV)):=sd _;rw [sC,hu,sC,ae];exact bZ.rel t _ _ hu ae
 ·cases hu:T[t]? with
  | none=>rw [sC,hu];exact aW.b5 rfl
  | some u =>
    have aV:=(rV.1 hu).1;have ae:bf[t]?=some (bf[t]'(bZ.len ▸ aV)):=sd _;rw [sC,hu,sC,ae];refine (bZ.own t _ _ hu ae).mono (Ext.refl J) (fun b o ai=>⟨ai,rfl⟩) fun b ag=>⟨?_,rfl,fun o ai=>ai⟩;simp [ag]
theorem j8 {U:Nat→Option aI} {S:Nat→Nat→Prop} {l:aI} {cells:List I} {len z:Nat} {v:Value} (ah:aL B U J S w H)
  (aj:Rel J S w (.ay cells len (.uniq z)) v) (aq:aW U J S w l (.ay cells len (.uniq z)) v) :
  ∃ S':Nat→Nat→Prop,(∀ b o,S b o→S' b o)∧(∀ b o,S' b o→S b o∨U b=some l)∧(∀ b o,S' b o→∃ v,w.cell? ⟨b,o,none⟩=some v) ∧
    Rel J S' w (.ay cells len .shared) v∧Rel J S' w (.ay cells len (.own z)) v∧aW U J S' w l (.ay cells len (.own z)) v:=by
 cases aj with
 | b3 c a=>exact ⟨S,fun _ _ h=>h,fun _ _ h=>.inl h,ah.ch,.b3 _ _,.b3 _ _,by cases a <;> first | trivial | exact .inl ⟨rfl,rfl,rfl⟩⟩
 | ay cells len c b o cap f ao hle ca h yT=>exact absurd rfl (ca z)
 | cM cells len z b o cap =>
   rcases aq with ⟨rfl,rfl,rfl⟩ | ⟨ad,aT,af,aG,a7,bN,⟨cur,e,bX,cP,cT⟩,cX⟩
   ·refine ⟨S,fun _ _ h=>h,fun _ _ h=>.inl h,ah.ch,?_,?_,.inl ⟨rfl,rfl,rfl⟩⟩
    ·exact .ay [] 0 .shared b o 0 (fun _=>undef) (by simp) (rX _) (by simp) (by simp) (by simp)
    ·exact .ay [] 0 (.own z) b o 0 (fun _=>undef) (by simp) (rX _) (by simp) (by simp) (by simp)
   ·simp only at aT;subst aT;(have jD:cells.length≤cur.size:=by rw [cP,bN];exact tj _ af);have bx:∀ j,w.cell? ⟨b,j,none⟩=cur[j]?:=fun j=>by
     unfold World.cell?;simp only at bX;rw [bX];simp
    have aO:∀ ar o,S ar o→(S ar o∨(ar=b∧o<cells.length)):=fun _ _ h=>.inl h;have CL:∀ {u:I} {v:Value},Rel J S w u v→Rel J (fun ar o=>S ar o∨(ar=b∧o<cells.length)) w u v:=fun h=>h.mono (Ext.refl J) fun b o ai=>⟨aO b o ai,rfl⟩;have yc:∀ (j:Nat) (u:I),cells[j]?=some u→(S b (0+j)∨(b=b∧0+j<cells.length))∧w.cell? ⟨b,0+j,none⟩=some (cur.getD j undef)∧u.plain=true∧(cur.getD j undef).oneCell'=true:=by
     intro j u aw;have lY:=(rV.1 aw).1;have c7:cur[j]?=some (cur[j]'(by omega)):=sv _;refine ⟨.inr ⟨rfl,by omega⟩,?_,(cT j u _ aw c7).1,?_⟩
     ·rw [sP,bx,c7];simp [Array.getD,show j<cur.size by omega]
     ·have:=(cT j u _ aw c7).2.1;simpa [Array.getD,show j<cur.size by omega] using this
    have z3:∀ (j:Nat) (u:I),cells[j]?=some u→Rel J (fun ar o=>S ar o∨(ar=b∧o<cells.length)) w u (cur.getD j undef):=by
     intro j u aw;have lY:=(rV.1 aw).1;have c7:cur[j]?=some (cur[j]'(by omega)):=sv _;have:=CL (cT j u _ aw c7).2.2;simpa [Array.getD,show j<cur.size by omega] using this
    refine ⟨fun ar o=>S ar o∨(ar=b∧o<cells.length),aO,?_,?_,?_,?_,?_⟩
    ·rintro ar o (h | ⟨rfl,h⟩)
     ·exact .inl h
     ·exact .inr ad
    ·rintro ar o (h | ⟨rfl,h⟩)
     ·exact ah.ch ar o h
     ·exact ⟨cur[o]'(by omega),by rw [bx];exact sv _⟩
    ·exact .ay cells len .shared b 0 cap (fun j=>cur.getD j undef) (by simp) af (by simp) yc z3
    ·exact .ay cells len (.own z) b 0 cap (fun j=>cur.getD j undef) (by simp) af (by simp) yc z3
    ·refine .inr ⟨ad,trivial,rfl,af,aG,a7,bN,⟨cur,e,bX,by simpa using cP⟩,fun o aq ai=>?_⟩;simp only [sP] at aq;rcases ai with ai | ⟨_,ai⟩
     ·exact cX o ai
     ·omega
theorem EY {U:Nat→Option aI} {S:Nat→Nat→Prop} {T:List I} {bf:List Value}
  (bZ:a_ .slot U J S w T bf) (ah:aL B U J S w H) (t:Nat) (cells:List I) (len z:Nat) (hu:T[t]?=some (.ay cells len (.uniq z))) :
  ∃ S',ew U S U S'∧a_ .slot U J S' w (T.set t (.ay cells len (.own z))) bf∧aL B U J S' w H ∧
    Rel J S' w (.ay cells len .shared) (bf.getD t undef):=by
 have aV:=(rV.1 hu).1;have ae:bf[t]?=some (bf[t]'(bZ.len ▸ aV)):=sd _;have aj:=bZ.rel t _ _ hu ae;have aq:=bZ.own t _ _ hu ae;rw [sC,ae];simp only [uq];generalize bf[t]'(bZ.len ▸ aV)=v at ae aj aq;obtain ⟨S',aJ,aP,hw,aS,bk,eE⟩:=j8 ah aj aq;have aO:ew U S U S':=⟨aJ,fun b o h=>(aP b o h).imp id fun h=>⟨t,h⟩,fun _ _ h _=>h,fun _ h=>h,fun _ _ h=>h⟩;have C':∀ b i,i≠t→U b=some (.slot i)→∀ o,S' b o→S b o:=fun b i hi ag o ai=>by
  rcases aP b o ai with h | h
  ·exact h
  ·rw [ag] at h;cases h;exact absurd rfl hi
 refine ⟨S',aO,⟨by simpa using bZ.len,fun i bI bu ca bd=>?_,fun i bI bu ca bd=>?_⟩,ah.gs aO hw,aS⟩
 ·rw [uW] at ca;split at ca
  ·rename_i heq;subst heq;cases ca;rw [ae] at bd;cases bd;exact bk
  ·exact (bZ.rel i _ _ ca bd).gs aO
 ·rw [uW] at ca;split at ca
  ·rename_i heq;subst heq;cases ca;rw [ae] at bd;cases bd;exact eE
  ·rename_i bO;exact (bZ.own i _ _ ca bd).mono (Ext.refl J) (fun b o ai=>⟨aO.set b o ai,rfl⟩) fun b ag=>⟨ag,rfl,fun o ai=>C' b i (fun e=>bO e.symm) ag o ai⟩
theorem a_.cons {bB:Nat→aI} {U:Nat→Option aI} {S:Nat→Nat→Prop} {u:I} {v:Value} {T:List I} {bf:List Value} (ad:Rel J S w u v) (af:aW U J S w (bB 0) u v)
  (h:a_ (fun i=>bB (i+1)) U J S w T bf):a_ bB U J S w (u::T) (v::bf):=by
 refine ⟨by simp [h.len],fun i bI bu hu ae=>?_,fun i bI bu hu ae=>?_⟩
 ·cases i with
  | zero=>simp at hu ae;subst hu ae;exact ad
  | succ i=>exact h.rel i bI bu (by simpa using hu) (by simpa using ae)
 ·cases i with
  | zero=>simp at hu ae;subst hu ae;exact af
  | succ i=>exact h.own i bI bu (by simpa using hu) (by simpa using ae)
theorem a_.nil {bB:Nat→aI} {U:Nat→Option aI} {S:Nat→Nat→Prop}:a_ bB U J S w [] []:=⟨rfl,by simp,by simp⟩
theorem Eh (a:Act):∀ (ops:List Operand) (ts:List Bool) (T:List I) (k:Nat) (U:Nat→Option aI) (S:Nat→Nat→Prop),
  a_ .slot U J S w T a.tmps.toList→aL B U J S w H →
  ∃ az S',ew U S az S'∧a_ .slot az J S' w (rd T ts ops).2 a.tmps.toList∧aL B az J S' w H∧a_ (fun i=>.arg (k+i)) az J S' w (rd T ts ops).1 (ops.map a.eval):=by
 intro ops
 induction ops with
 | nil=>intro ts T k U S bZ ah;exact ⟨U,S,ew.refl _ _,by simpa [rd] using bZ,ah,by simpa [rd] using a_.nil⟩
 | cons x rest a' =>
   intro ts T k U S bZ ah;have m_:∀ u:I,Rel J S w u (a.eval x)→u.plain=true→(rd T ts (x::rest))=(u::(rd T ts.tail rest).1,(rd T ts.tail rest).2) →
     ∃ az S',ew U S az S'∧a_ .slot az J S' w (rd T ts (x::rest)).2 a.tmps.toList∧aL B az J S' w H ∧
       a_ (fun i=>.arg (k+i)) az J S' w (rd T ts (x::rest)).1 ((x::rest).map a.eval):=by
    intro u hu aC he;obtain ⟨az,S',g,lP,cf,ae⟩:=a' ts.tail T (k+1) U S bZ ah;rw [he];refine ⟨az,S',g,lP,cf,?_⟩;refine a_.cons (hu.gs g) (aW.b5 aC) ?_;simpa [tE,td 1] using ae
   cases x with
   | const v =>
     exact m_ (hp v) (lv J S w v) (m1 v) rfl
   | func f=>exact m_ (.func f [] []) (.func f [] [] #[] #[] rfl rfl (by simp) (by simp) (by simp) (by simp)) rfl rfl
   | global g=>exact m_ .junk (.junk _) rfl rfl
   | tmp t =>
     (have jF:a.eval (.tmp t)=a.tmps.toList.getD t undef:=by simp [Act.eval,sk]);cases ax:ts.headD false with
     | true =>
       obtain ⟨b4,cd,kq,bY,dr,jK⟩:=FF (.arg k) (by simp) bZ ah t;obtain ⟨az,S',g,lP,cf,ae⟩:=a' ts.tail (T.set t .junk) (k+1) b4 S kq bY;have he:rd T ts (.tmp t::rest)=(T.getD t .junk::(rd (T.set t .junk) ts.tail rest).1,(rd (T.set t .junk) ts.tail rest).2):=by
        simp only [rd,ax,gL,fV]
       rw [he];refine ⟨az,S',cd.trans g,lP,cf,?_⟩;refine a_.cons ?_ ?_ ?_
       ·rw [jF];exact dr.gs g
       ·rw [jF];exact jK.gs g (by simp)
       ·simpa [tE,td 1] using ae
     | false =>
       have he:rd T ts (.tmp t::rest)=((T.getD t .junk).view::(rd (fP T t (T.getD t .junk)) ts.tail rest).1,(rd (fP T t (T.getD t .junk)) ts.tail rest).2):=by
        simp only [rd,ax,fV]
       by_cases a4:∃ cells len z,T[t]?=some (.ay cells len (.uniq z))
       ·obtain ⟨cells,len,z,a4⟩:=a4;obtain ⟨a5,cd,kq,bY,dr⟩:=EY bZ ah t cells len z a4;obtain ⟨az,S',g,lP,cf,ae⟩:=a' ts.tail (T.set t (.ay cells len (.own z))) (k+1) U a5 kq bY;(have aO:T.getD t .junk=.ay cells len (.uniq z):=by rw [sC,a4];rfl);rw [he,aO];simp only [fP,gL,I.view];refine ⟨az,S',cd.trans g,lP,cf,?_⟩;refine a_.cons ?_ (aW.b5 rfl) ?_
        ·rw [jF];exact dr.gs g
        ·simpa [tE,td 1] using ae
       ·have pC:(T.getD t .junk).cV=true:=by
         rw [sC];cases hu:T[t]? with
         | none=>rfl
         | some u =>
           simp only [uq];unfold I.cV;split
           ·exact absurd ⟨_,_,_,hu⟩ a4
           ·rfl
        have eh:fP T t (T.getD t .junk)=T:=by
         unfold fP;split
         ·rename_i h;rw [h] at pC;simp [I.cV] at pC
         ·rfl
        have aj:Rel J S w (T.getD t .junk) (a.eval (.tmp t)):=by
         rw [jF];cases hu:T[t]? with
         | none=>rw [sC,hu];exact .junk _
         | some u =>
           have aV:=(rV.1 hu).1;have ae:a.tmps.toList[t]?=some (a.tmps.toList[t]'(bZ.len ▸ aV)):=sd _;rw [sC,hu,sC,ae];exact bZ.rel t _ _ hu ae
        refine m_ (T.getD t .junk).view (aj.view pC) (I.dh _) ?_;rw [he,eh]
end
end Go.Proofs.YtfakoboiahbhaaaGreat.Ab


namespace Go.Proofs.YtfakoboiahbhaaaGreat.Ab
open Go
section
variable {P:Program} {B:Nat} {J:List Nat} {w:World} {H:List au} {U:Nat→Option aI} {S:Nat→Nat→Prop}
def a2 (B:Nat) (U:Nat→Option aI) (J:List Nat) (S:Nat→Nat→Prop) (w:World) (H':List au) (r:I) (v:Value) (w':World):Prop :=
 ∃ az b1 S',Ext J b1∧bh U S w az S' w'∧aL B az b1 S' w' H'∧Rel b1 S' w' r v∧aW az b1 S' w' .res r v
theorem a2.same (ah:aL B U J S w H) {r:I} {v:Value} (aj:Rel J S w r v) (aC:r.plain=true):a2 B U J S w H r v w :=
 ⟨U,J,S,Ext.refl J,bh.refl _ _ _,ah,aj,aW.b5 aC⟩
theorem aL.settle (ah:aL B U J S w H) {S':Nat→Nat→Prop} (ad:∀ b o,S b o→S' b o)
  (af:∀ b o,S' b o→S b o∨∃ l,U b=some l∧(∀ id,l≠.obj id)∧∀ id j,l≠.cell id j) (aG:∀ b o,S' b o→∃ v,w.cell? ⟨b,o,none⟩=some v):aL B U J S' w H:=by
 have hm:∀ {u:I} {v:Value},Rel J S w u v→Rel J S' w u v:=fun h=>h.mono (Ext.refl J) fun b o ai=>⟨ad b o ai,rfl⟩;refine ⟨ah.cG,fun id o aq=>?_,aG,ah.base,ah.cZ⟩;have h:=ah.obj id o aq;cases o with
 | dead=>trivial
 | cells l =>
   obtain ⟨b,cur,e,aB,aH,aR,bl,bc,bg⟩:=h;refine ⟨b,cur,e,aB,aH,aR,bl,fun o ai=>?_,fun j u v hu ae=>?_⟩
   ·rcases af b o ai with h | ⟨l,h,cc,_⟩
    ·exact bc o h
    ·rw [aH] at h;cases h;exact cc id rfl
   ·obtain ⟨ba,gR,bm,bt⟩:=bg j u v hu ae;refine ⟨ba,gR,hm bm,bt.mono (Ext.refl J) (fun b o ai=>⟨ad b o ai,rfl⟩) fun b ag=>⟨ag,rfl,fun o ai=>?_⟩⟩;rcases af b o ai with h | ⟨l,h,_,cq⟩
    ·exact h
    ·rw [ag] at h;cases h;exact absurd rfl (cq id j)
 | grow l gid z =>
   obtain ⟨b,cur,e,aB,aH,aR,bl,bc,bg,c2⟩:=h;refine ⟨b,cur,e,aB,aH,aR,bl,fun o ai=>?_,fun j u v hu ae=>?_,c2⟩
   ·rcases af b o ai with h | ⟨l,h,cc,_⟩
    ·exact bc o h
    ·rw [aH] at h;cases h;exact cc id rfl
   ·obtain ⟨ba,gR,bm,bt⟩:=bg j u v hu ae;refine ⟨ba,gR,hm bm,bt.mono (Ext.refl J) (fun b o ai=>⟨ad b o ai,rfl⟩) fun b ag=>⟨ag,rfl,fun o ai=>?_⟩⟩;rcases af b o ai with h | ⟨l,h,_,cq⟩
    ·exact h
    ·rw [ag] at h;cases h;exact absurd rfl (cq id j)
 | loop st cH fn T params assign body js =>
   obtain ⟨al,a1,b,L,aB,aH,aR,bl,bc,bg,c2,db,dE⟩:=h;exact ⟨al,a1,b,L,aB,aH,aR,bl,bc,bg,c2,fun i u v hu ae=>⟨(db i u v hu ae).1,hm (db i u v hu ae).2⟩,dE⟩
 | map es clock =>
   obtain ⟨b,bz,aB,aH,aR,bl,bc,bg⟩:=h;refine ⟨b,bz,aB,aH,aR,bl,fun o ai=>?_,fun j i k v x hu ae=>?_⟩
   ·rcases af b o ai with h | ⟨l,h,cc,_⟩
    ·exact bc o h
    ·rw [aH] at h;cases h;exact cc id rfl
   ·obtain ⟨ba,bm,bt,b9,dX⟩:=bg j i k v x hu ae;exact ⟨ba,bm,hm bt,b9,hm dX⟩
 | iter m s e t =>
   obtain ⟨b,ed,aB,aH,aR,bl,bc⟩:=h;refine ⟨b,ed,aB,aH,aR,bl,fun o ai=>?_⟩;rcases af b o ai with h | ⟨l,h,cc,_⟩
   ·exact bc o h
   ·rw [aH] at h;cases h;exact cc id rfl
theorem bh.settle {S':Nat→Nat→Prop} (ad:∀ b o,S b o→S' b o) (af:∀ b o,S' b o→S b o∨∃ l,U b=some l):bh U S w U S' w :=
 ⟨rfl,rfl,rfl,rX _,fun _ _ _=>rfl,fun b o h=>⟨ad b o h,rfl⟩,fun b o h=>(af b o h).imp id fun ⟨l,ak⟩=>.inl (by simp [ak]),fun _ h=>.inl h⟩
theorem a_.gN {bB:Nat→aI} {u:I} {T:List I} {bf:List Value} (h:a_ bB U J S w (u::T) bf) :
  ∃ v hK,bf=v::hK∧Rel J S w u v∧aW U J S w (bB 0) u v∧a_ (fun i=>bB (i+1)) U J S w T hK:=by
 cases bf with
 | nil=>exact absurd h.len (by simp)
 | cons v hK =>
   exact ⟨v,hK,rfl,h.rel 0 u v rfl rfl,h.own 0 u v rfl rfl,by simpa using h.len,fun i bI bu hu ae=>h.rel (i+1) bI bu (by simpa using hu) (by simpa using ae),
    fun i bI bu hu ae=>h.own (i+1) bI bu (by simpa using hu) (by simpa using ae)⟩
theorem EX:∀ (T:List I) (bf:List Value) (bB:Nat→aI) (S:Nat→Nat→Prop),(∀ i j,bB i=bB j→i=j)→(∀ i id,bB i≠.obj id)→(∀ i id j,bB i≠.cell id j) →
  a_ bB U J S w T bf→aL B U J S w H →
  ∃ S':Nat→Nat→Prop,(∀ b o,S b o→S' b o)∧(∀ b o,S' b o→S b o∨∃ i,U b=some (bB i))∧aL B U J S' w H∧a_ bB U J S' w (T.map I.view) bf:=by
 intro T
 induction T with
 | nil=>intro bf bB S _ _ _ ae ah;exact ⟨S,fun _ _ h=>h,fun _ _ h=>.inl h,ah,by simpa using ae⟩
 | cons u T a' =>
   intro bf bB S aw cc cq ae ah;obtain ⟨v,hK,rfl,aj,aq,ax⟩:=ae.gN;have first:∃ a5:Nat→Nat→Prop,(∀ b o,S b o→a5 b o)∧(∀ b o,a5 b o→S b o∨U b=some (bB 0))∧aL B U J a5 w H∧Rel J a5 w u.view v:=by
    by_cases hu:u.cV=true
    ·exact ⟨S,fun _ _ h=>h,fun _ _ h=>.inl h,ah,aj.view hu⟩
    ·obtain ⟨cells,len,z,rfl⟩:∃ cells len z,u=.ay cells len (.uniq z):=by
      unfold I.cV at hu;split at hu
      ·exact ⟨_,_,_,rfl⟩
      ·simp at hu
     obtain ⟨a5,aJ,aP,cl,aS,_,_⟩:=j8 ah aj aq;exact ⟨a5,aJ,aP,ah.settle aJ (fun b o h=>(aP b o h).imp id fun h=>⟨_,h,cc 0,cq 0⟩) cl,aS⟩
   (obtain ⟨a5,aJ,aP,bY,dr⟩:=first);have pJ:a_ (fun i=>bB (i+1)) U J a5 w T hK:=by
    refine ⟨ax.len,fun i bI bu hu ae=>(ax.rel i bI bu hu ae).mono (Ext.refl J) fun b o ai=>⟨aJ b o ai,rfl⟩,fun i bI bu hu ae=>?_⟩;refine (ax.own i bI bu hu ae).mono (Ext.refl J) (fun b o ai=>⟨aJ b o ai,rfl⟩) fun b ag=>⟨ag,rfl,fun o ai=>?_⟩;rcases aP b o ai with h | h
    ·exact h
    ·rw [ag] at h;injection h with h;exact absurd (aw _ _ h) (by omega)
   obtain ⟨S',dt,dm,cf,bd⟩:=a' hK (fun i=>bB (i+1)) a5 (fun i j h=>by have:=aw _ _ h;omega) (fun i=>cc (i+1)) (fun i=>cq (i+1)) pJ bY;refine ⟨S',fun b o h=>dt b o (aJ b o h),fun b o h=>?_,cf,?_⟩
   ·rcases dm b o h with h | ⟨i,h⟩
    ·exact (aP b o h).imp id fun h=>⟨0,h⟩
    ·exact .inr ⟨i+1,h⟩
   ·exact a_.cons (dr.mono (Ext.refl J) fun b o ai=>⟨dt b o ai,rfl⟩) (aW.b5 (I.dh _)) bd
theorem Rel.dd {k:IntKind} {n:Int} {v:Value} (h:Rel J S w (.int k n) v):v=.int k n:=by cases h;rfl
theorem Rel.hX {b:Bool} {v:Value} (h:Rel J S w (.bool b) v):v=.bool b:=by cases h;rfl
theorem Rel.Bx {v:Value} (h:Rel J S w .dq v):∃ b,v=.bool b:=by cases h;exact ⟨_,rfl⟩
def e4 (P:Program) (o:Oper) (aU:Operand→Value) (J:List Nat) (S:Nat→Nat→Prop) (w:World) (r:I):Prop :=
 ∃ v,(Go.execOp aU o).run P w=.ok (.value v) w∧Rel J S w r v
theorem zr {o:Oper} {aU:Operand→Value} {c a b:Operand} (aq:o.op=.pick c a b) {x:Bool} {fs gi:I} (ad:Rel J S w (.bool x) (aU c))
  (af:Rel J S w fs (aU a)) (aG:Rel J S w gi (aU b)):e4 P o aU J S w (match x with | true=>fs | false=>gi):=by
 have e:=ad.hX;cases x with
 | true=>exact ⟨aU a,by simp [Go.execOp,aq,e,asBool],af⟩
 | false=>exact ⟨aU b,by simp [Go.execOp,aq,e,asBool],aG⟩
theorem DP {o:Oper} {aU:Operand→Value} {x:Operand} (aq:o.op=.nilCheck x) {id off:Nat} (ad:Rel J S w (.ptr id off) (aU x)) :
  e4 P o aU J S w (.ptr id off):=by
 refine ⟨aU x,?_,ad⟩;generalize al:aU x=cC at ad ⊢;cases ad with
 | ptr id off b h=>simp [Go.execOp,aq,al]
theorem DQ {o:Oper} {aU:Operand→Value} {x:Operand} (aq:o.op=.nilCheck x) {cells:List I} (ad:Rel J S w (.bW cells) (aU x)) :
  e4 P o aU J S w (.bW cells):=by
 generalize ae:aU x=v at ad;have af:=ad;cases ad with
 | bW _ b cN f h aj=>exact ⟨.pointer (some ⟨b,cN,none⟩),by simp [Go.execOp,aq,ae],af⟩
theorem DR {o:Oper} {aU:Operand→Value} {op:UnOp} {t:TypeId} {x:Operand} (aq:o.op=.unOp op t x) {u r:I} (aj:kf op u=some r) (ad:Rel J S w u (aU x)) :
  e4 P o aU J S w r:=by
 unfold kf at aj;split at aj
 ·have e:=ad.hX;cases op <;> simp at aj;subst aj;exact ⟨_,by simp [Go.execOp,aq,e,Op.unary],.bool _⟩
 ·have e:=ad.dd;cases op <;> simp at aj;subst aj;exact ⟨_,by simp [Go.execOp,aq,e,Op.unary,Op.intArith],.int _ _⟩
 ·simp at aj
theorem DH {o:Oper} {aU:Operand→Value} {s d:TypeId} {x:Operand} (aq:o.op=.convert s d x) {u r:I} (aj:lr P s d u=some r) (ad:Rel J S w u (aU x)):e4 P o aU J S w r:=by
 unfold lr at aj;split at aj
 ·have e:=ad.dd;split at aj
  ·rename_i fA k Cn av;simp at aj;subst aj;refine ⟨_,?_,.int _ _⟩;simp only [Go.execOp,aq,e,convert,Sem.run_bind,run_underlying Cn,run_underlying av,Result.andThen_ok];cases fA <;> simp [Conv.intToInt]
  ·simp at aj
 ·simp at aj
theorem DM {o:Oper} {aU:Operand→Value} {fn:Fn} {first captured:Array Operand} (aq:o.op=.makeFunc fn first captured) {us:List I} {r:I}
  (aj:mD fn first.size captured.size us=some r) {bB:Nat→aI} (ae:a_ bB U J S w us ((first++captured).toList.map aU)) (aC:∀ u∈us,u.plain=true) :
  e4 P o aU J S w r:=by
 unfold mD at aj;split at aj
 ·rename_i f;split at aj
  ·rename_i ak;simp at aj;subst aj;refine ⟨.func (.func f) (first.map aU) (captured.map aU),by simp [Go.execOp,aq,Instr.makeFunc],.func f _ _ _ _ ?_ ?_ ?_ ?_ ?_ ?_⟩
   ·simp;omega
   ·simp;omega
   ·exact fun u hu=>aC u (uK hu)
   ·exact fun u hu=>aC u (vp hu)
   ·intro j u v hu bd;refine ae.rel j u v ?_ ?_
    ·rw [sR] at hu;split at hu <;> simp_all
    ·simp only [uX,rU] at bd;obtain ⟨x,al,rfl⟩:=bd;have:=(sS.1 al).1;rw [sv this] at al;cases al;simp [se,this]
   ·intro j u v hu bd;refine ae.rel (first.size+j) u v ?_ ?_
    ·simpa [sY] using hu
    ·simp only [uX,rU] at bd;obtain ⟨x,al,rfl⟩:=bd;simp [sB,al]
  ·simp at aj
 ·simp at aj
theorem DJ {o:Oper} {aU:Operand→Value} {x:Operand} {i:Nat} (aq:o.op=.extract x i) {u r:I} (aj:mZ i u=some r) (ad:Rel J S w u (aU x)) :
  e4 P o aU J S w r.view:=by
 unfold mZ at aj;generalize al:aU x=cC at ad;split at aj
 ·cases ad with
  | tuple as vs h p mL =>
    have aV:=(rV.1 aj).1;have ae:vs[i]?=some (vs[i]'(by omega)):=sv _;have aC:r.plain=true:=p r (sA aj);refine ⟨vs[i]'(by omega),?_,?_⟩
    ·simp [Go.execOp,aq,al,Instr.extract,ae]
    ·rw [I.ke aC];exact mL i _ _ aj ae
 ·simp at aj
theorem EH {op:BinOp} {t:TypeId} {x y:Operand} {k k':IntKind} {a b:Int}:(eqGuard op t x y (.int k a) (.int k' b)).run P w=.ok () w:=by
 unfold eqGuard;split <;> simp
theorem EG {op:BinOp} {t:TypeId} {k k':IntKind} {a b:Int} {r:I} (aj:fi P op t (.int k a) (.int k' b)=some r) :
  ∃ v,(Go.binOp op t (.int k a) (.int k' b)).run P w=.ok v w∧Rel J S w r v:=by
 have EZ:∀ mB,(mB=.shl∨mB=.shr)→ho mB k a b=some r→∃ v,(Op.shift mB k a k' b).run P w=.ok v w∧Rel J S w r v:=by
  intro mB aD h;unfold ho at h;split at h
  ·simp at h
  ·rename_i ag;rcases aD with rfl | rfl <;> simp at h <;> subst h
   ·exact ⟨_,by simp [Op.shift,ag],.int _ _⟩
   ·exact ⟨_,by simp [Op.shift,ag],.int _ _⟩
 have BB:k=k'→jq op k a b=some r→∃ v,(Go.binOp op t (.int k a) (.int k' b)).run P w=.ok v w∧Rel J S w r v:=by
  rintro rfl h;cases op <;> simp only [jq,Option.some.injEq,reduceCtorEq] at h
  case quo =>
   split at h
   ·simp at h
   ·rename_i ag;simp at h;subst h;exact ⟨_,by simp [Go.binOp,Op.intDiv,ag],.int _ _⟩
  case rem =>
   split at h
   ·simp at h
   ·rename_i ag;simp at h;subst h;exact ⟨_,by simp [Go.binOp,Op.intDiv,ag],.int _ _⟩
  all_goals subst h
  all_goals first
   | (refine ⟨_,?_,.bool _⟩;simp [Go.binOp,Op.intCmp];done)
   | (refine ⟨_,?_,.int _ _⟩;simp [Go.binOp,Op.intArith];done)
   | (refine ⟨_,?_,.int _ _⟩;simp [Go.binOp,Op.intBits];done)
 unfold fi at aj;cases op <;> simp only at aj <;> first
  | (obtain ⟨v,ad,af⟩:=EZ _ (by simp) aj;exact ⟨v,by simpa [Go.binOp] using ad,af⟩)
  | (split at aj
     ·exact BB ‹_› aj
     ·simp at aj)
theorem DG {o:Oper} {aU:Operand→Value} {op:BinOp} {t iq:TypeId} {x y:Operand} (aq:o.op=.binOp op t x y iq) {k k':IntKind} {a b:Int} {r:I}
  (aj:fi P op t (.int k a) (.int k' b)=some r) (ad:Rel J S w (.int k a) (aU x)) (af:Rel J S w (.int k' b) (aU y)):e4 P o aU J S w r:=by
 obtain ⟨v,ae,b'⟩:=EG (P:=P) (w:=w) (J:=J) (S:=S) (t:=t) aj;refine ⟨v,?_,b'⟩;simp only [Go.execOp,aq,ad.dd,af.dd,Sem.run_bind,EH,ae,Result.andThen_ok,Sem.run_pure]
theorem mR {t:TypeId} {s:Nat} (h:bU P t=some s):∃ i,P.info? t=some i∧i.size=s:=by
 simp only [bU,rU] at h;exact h
theorem run_sizeOf {t:TypeId} {s:Nat} (h:bU P t=some s):(sizeOf t).run P w=.ok s w:=by
 obtain ⟨i,hi,rfl⟩:=mR h;simp [sizeOf,typeInfo,hi]
theorem gI {t:TypeId} {d:TypeDesc} (h:P.underlying t=some d):(isAgg t).run P w=.ok (dJ P t) w:=by
 simp only [isAgg,dJ,h,Sem.run_bind,run_underlying h,Result.andThen_ok];cases d <;> simp
theorem lD {i:Int} {len j:Nat} (h:gS i len=some j):0≤i∧i<len∧j=i.toNat:=by
 unfold gS at h;split at h
 ·simp at h;exact ⟨by omega,by omega,h.symm⟩
 ·simp at h
theorem add_lit (b o n:Nat):(⟨b,o,none⟩:Addr).add n=⟨b,o+n,none⟩:=by
 unfold Addr.add;split <;> simp_all
theorem Rel.drop {cells:List I} {b o:Nat} {f:Nat→Value} (n:Nat)
  (h:∀ (j:Nat) (u:I),cells[j]?=some u→S b (o+j)∧w.cell? ⟨b,o+j,none⟩=some (f j)∧u.plain=true∧(f j).oneCell'=true)
  (aj:∀ (j:Nat) (u:I),cells[j]?=some u→Rel J S w u (f j)):Rel J S w (.bW (cells.drop n)) (.pointer (some ⟨b,o+n,none⟩)):=by
 refine .bW _ b (o+n) (fun j=>f (n+j)) (fun j u hu=>?_) (fun j u hu=>?_)
 ·rw [sY] at hu;have:=h (n+j) u hu
  rwa [show o+n+j=o+(n+j) by omega]
 ·rw [sY] at hu;exact aj (n+j) u hu
theorem DO {o:Oper} {aU:Operand→Value} {t:TypeId} {x i:Operand} (aq:o.op=.indexAddr t x i) {fs gi r:I} (aj:hV P t fs gi=some r)
  (ad:Rel J S w fs (aU x)) (af:Rel J S w gi (aU i)) (aN:fs.cV=true):e4 P o aU J S w r:=by
 unfold hV at aj;generalize al:aU x=cC at ad;split at aj
 ·rename_i a0;simp only [sb,rU] at aj;obtain ⟨s,ai,j,aw,rfl⟩:=aj;obtain ⟨dt,dm,rfl⟩:=lD aw;have e:=af.dd;cases ad with
  | b3 c a=>exact absurd dm (by simp;omega)
  | cM=>simp [I.cV] at aN
  | ay cells len c b jU cap f ao hle hu h fo =>
    refine ⟨_,?_,Rel.drop _ h fo⟩;simp [Go.execOp,aq,al,e,Instr.indexAt,asIntOf,run_underlying a0,dt,dm,run_sizeOf ai,add_lit]
 ·rename_i a0;simp only [sb,rU] at aj;obtain ⟨s,ai,j,aw,rfl⟩:=aj;obtain ⟨dt,dm,rfl⟩:=lD aw;have e:=af.dd;cases ad with
  | ref id off len c sz b cap h ao hle =>
    refine ⟨_,?_,.ptr _ _ b h⟩;simp [Go.execOp,aq,al,e,Instr.indexAt,asIntOf,run_underlying a0,dt,dm,run_sizeOf ai,add_lit]
 ·rename_i a0;simp only [sb,rU] at aj;obtain ⟨s,ai,j,aw,rfl⟩:=aj;obtain ⟨dt,dm,rfl⟩:=lD aw;have e:=af.dd;cases ad with
  | ptr id off b h =>
    refine ⟨_,?_,.ptr _ _ b h⟩;simp [Go.execOp,aq,al,e,Instr.indexAt,asIntOf,Instr.sureAddr,run_underlying a0,dt,dm,run_sizeOf ai,add_lit]
 ·rename_i a0;simp only [sb,rU] at aj;obtain ⟨s,ai,j,aw,rfl⟩:=aj;obtain ⟨dt,dm,rfl⟩:=lD aw;have e:=af.dd;cases ad with
  | bW cells b jU f h fo =>
    refine ⟨_,?_,Rel.drop _ h fo⟩;simp [Go.execOp,aq,al,e,Instr.indexAt,asIntOf,Instr.sureAddr,run_underlying a0,dt,dm,run_sizeOf ai,add_lit]
 ·simp at aj
theorem AB {b o s:Nat} {g:Field} (ai:bU P g.type=some s) (aT:s≠0):(fieldPlace ⟨b,o,none⟩ g).run P w=.ok ⟨b,o+g.offset,none⟩ w:=by
 simp [fieldPlace,run_sizeOf ai,aT,add_lit]
theorem DL {o:Oper} {aU:Operand→Value} {t:TypeId} {x:Operand} {lI:Nat} (aq:o.op=.fieldAddr t x lI) {u r:I} (aj:jr P t u lI=some r)
  (ad:Rel J S w u (aU x)):e4 P o aU J S w r:=by
 unfold jr at aj;generalize al:aU x=cC at ad;split at aj
 ·rename_i a0;simp only [sb] at aj;obtain ⟨g,aO,s,ai,aj⟩:=aj;split at aj
  ·simp at aj
  ·rename_i aT;simp at aj;subst aj;cases ad with
   | ptr id off b h =>
     refine ⟨_,?_,.ptr _ _ b h⟩;simp [Go.execOp,aq,al,Instr.fieldAt,Instr.sureAddr,run_underlying a0,aO,AB ai aT]
 ·rename_i a0;simp only [sb] at aj;obtain ⟨g,aO,s,ai,aj⟩:=aj;split at aj
  ·simp at aj
  ·rename_i aT;simp at aj;subst aj;cases ad with
   | bW cells b jU f h fo =>
     refine ⟨_,?_,Rel.drop _ h fo⟩;simp [Go.execOp,aq,al,Instr.fieldAt,Instr.sureAddr,run_underlying a0,aO,AB ai aT]
 ·simp at aj
theorem y7 {t:TypeId} (h:dJ P t=true):∃ d,P.underlying t=some d:=by
 unfold dJ at h;split at h <;> first | exact ⟨_,by assumption⟩ | simp at h
theorem AH {t:TypeId} {as:List I} {vs:Array Value} {off:Nat} {r:I} (aj:iA P t as off=some r) (ak:vs.size=as.length)
  (aC:∀ u∈as,u.plain=true) (en:∀ v∈vs.toList,v.oneCell'=true) (b':∀ (j:Nat) (u:I) (v:Value),as[j]?=some u→vs[j]?=some v→Rel J S w u v) :
  ∃ v,(part t vs off).run P w=.ok v w∧Rel J S w r v∧r.plain=true:=by
 unfold iA at aj;cases ck:dJ P t with
 | true =>
   obtain ⟨d,a0⟩:=y7 ck;rw [ck] at aj;simp only [sb] at aj;obtain ⟨s,ai,aj⟩:=aj;split at aj
   ·rename_i hle;simp at aj;subst aj;refine ⟨.agg (vs.extract off (off+s)),by simp [part,gI a0,ck,run_sizeOf ai],.agg _ _ ?_ ?_ ?_ ?_,rfl⟩
    ·simp;omega
    ·exact fun u hu=>aC u (vp (uK hu))
    ·exact fun v ae=>en v (by rw [Array.toList_extract] at ae;exact vp (uK ae))
    ·intro j u v hu ae;rw [sR] at hu;split at hu
     ·rw [sY] at hu;rw [Array.getElem?_extract] at ae;split at ae
      ·exact b' _ u v hu ae
      ·simp at ae
     ·simp at hu
   ·simp at aj
 | false =>
   rw [ck] at aj;simp only at aj;split at aj
   ·rename_i d a0;have aV:=(rV.1 aj).1;have ae:vs[off]?=some (vs[off]'(by omega)):=sv _;exact ⟨_,by simp [part,gI a0,ck,ae],b' off _ _ aj ae,aC r (sA aj)⟩
   ·simp at aj
theorem DK {o:Oper} {aU:Operand→Value} {t:TypeId} {x:Operand} {lI:Nat} (aq:o.op=.field t x lI) {u r:I} (aj:m0 P t u lI=some r)
  (ad:Rel J S w u (aU x)):e4 P o aU J S w r.view:=by
 unfold m0 at aj;generalize al:aU x=cC at ad;split at aj
 ·rename_i a0;simp only [sb] at aj;obtain ⟨g,aO,aj⟩:=aj;cases ad with
  | agg as vs h p one mL =>
    obtain ⟨v,ae,b',h7⟩:=AH (w:=w) aj h p one mL;refine ⟨v,?_,by rw [I.ke h7];exact b'⟩;simp [Go.execOp,aq,al,Instr.field,run_underlying a0,aO,asAgg,ae]
 ·simp at aj
theorem DN {o:Oper} {aU:Operand→Value} {t:TypeId} {x i:Operand} (aq:o.op=.index t x i) {fs gi r:I} (aj:oz P t fs gi=some r)
  (ad:Rel J S w fs (aU x)) (af:Rel J S w gi (aU i)):e4 P o aU J S w r.view:=by
 unfold oz at aj;generalize al:aU x=cC at ad;split at aj
 ·rename_i a0;simp only [sb] at aj;obtain ⟨s,ai,j,aw,aj⟩:=aj;obtain ⟨dt,dm,rfl⟩:=lD aw;have e:=af.dd;cases ad with
  | agg as vs h p one mL =>
    obtain ⟨v,ae,b',h7⟩:=AH (w:=w) aj h p one mL;refine ⟨v,?_,by rw [I.ke h7];exact b'⟩;simp [Go.execOp,aq,al,e,Instr.index,asIntOf,run_underlying a0,dt,dm,run_sizeOf ai,ae]
 ·rename_i b k n a0;have e:=af.dd;split at aj
  ·rename_i aT;simp only [rU] at aj;obtain ⟨y,a1,rfl⟩:=aj;cases ad with
   | str b =>
     refine ⟨_,?_,.int _ _⟩;simp [Go.execOp,aq,al,e,Instr.index,asIntOf,run_underlying a0,aT,a1]
  ·simp at aj
 ·simp at aj
theorem EJ {t e:TypeId} (d:Nat) (ax:P.underlying t=some (.slice e)) (a:Addr) (len cap:Nat) :
  (Op.equalIn (d+1) t (.slice (some a) len cap) (.slice none 0 0)).run P w=.ok false w:=by
 rw [Op.equalIn];simp [run_underlying ax]
theorem n8 {t e:TypeId} (ax:P.underlying t=some (.slice e)) (a:Addr) (len cap:Nat) :
  (Op.equal t (.slice (some a) len cap) (.slice none 0 0)).run P w=.ok false w:=EJ 9999 ax a len cap
theorem run_equalIn_bool {t:TypeId} (d:Nat) (ax:P.underlying t=some .bool) (a b:Bool):(Op.equalIn (d+1) t (.bool a) (.bool b)).run P w=.ok (a == b) w:=by
 rw [Op.equalIn];simp [run_underlying ax]
theorem run_equal_bool {t:TypeId} (ax:P.underlying t=some .bool) (a b:Bool):(Op.equal t (.bool a) (.bool b)).run P w=.ok (a == b) w:=run_equalIn_bool 9999 ax a b
theorem EK {t e:TypeId} (d:Nat) (ax:P.underlying t=some (.slice e)) (len cap:Nat) :
  (Op.equalIn (d+1) t (.slice none len cap) (.slice none 0 0)).run P w=.ok true w:=by
 rw [Op.equalIn];simp [run_underlying ax]
theorem AA {t e:TypeId} (ax:P.underlying t=some (.slice e)) (len cap:Nat) :
  (Op.equal t (.slice none len cap) (.slice none 0 0)).run P w=.ok true w:=EK 9999 ax len cap
theorem DI {o:Oper} {aU:Operand→Value} {op:BinOp} {t iq:TypeId} {x y:Operand} (aq:o.op=.binOp op t x y iq) (a1:iR y=true) {u r:I}
  (aj:mY P op t u=some r) (ad:Rel J S w u (aU x)) (eM:∀ v,aU (.const v)=v):e4 P o aU J S w r:=by
 have Dd:y=.const (.slice none 0 0):=by
  unfold iR at a1;split at a1
  ·rfl
  ·simp at a1
 subst Dd;generalize al:aU x=cC at ad;unfold mY at aj;split at aj
 ·rename_i e ax;have ai:((∃ b jU len cap,cC=.slice (some ⟨b,jU,none⟩) len cap)∧((op=.eql∧r=.bool false)∨(op=.neq∧r=.bool true))) ∨
    ((∃ a len cap,cC=.slice a len cap)∧(op=.eql∨op=.neq)∧r=.dq):=by
   split at aj
   ·refine .inl ⟨?_,by split at aj <;> simp_all⟩;cases ad with
    | ay cells len c b jU cap f ao hle hu h fo=>exact ⟨_,_,_,_,rfl⟩
    | cM=>exact ⟨_,_,_,_,rfl⟩
   ·refine .inl ⟨?_,by split at aj <;> simp_all⟩;cases ad with
    | ref id off len c sz b cap h ao hle=>exact ⟨_,_,_,_,rfl⟩
   ·refine .inr ⟨?_,by split at aj <;> simp_all⟩;cases ad with
    | b3 c a=>exact ⟨_,_,_,rfl⟩
    | ay cells len c b jU cap f ao hle hu h fo=>exact ⟨_,_,_,rfl⟩
    | cM=>exact ⟨_,_,_,rfl⟩
   ·simp at aj
  rcases ai with ⟨⟨b,jU,len,cap,rfl⟩,⟨rfl,rfl⟩ | ⟨rfl,rfl⟩⟩ | ⟨⟨a,len,cap,rfl⟩,aD,rfl⟩
  ·exact ⟨.bool false,by simp [Go.execOp,aq,al,eM,eqGuard,Go.binOp,n8 ax],.bool _⟩
  ·exact ⟨.bool true,by simp [Go.execOp,aq,al,eM,eqGuard,Go.binOp,n8 ax],.bool _⟩
  ·rcases aD with rfl | rfl
   ·cases a with
    | none=>exact ⟨.bool true,by simp [Go.execOp,aq,al,eM,eqGuard,Go.binOp,AA ax],.dq _⟩
    | some a=>exact ⟨.bool false,by simp [Go.execOp,aq,al,eM,eqGuard,Go.binOp,n8 ax],.dq _⟩
   ·cases a with
    | none=>exact ⟨.bool false,by simp [Go.execOp,aq,al,eM,eqGuard,Go.binOp,AA ax],.dq _⟩
    | some a=>exact ⟨.bool true,by simp [Go.execOp,aq,al,eM,eqGuard,Go.binOp,n8 ax],.dq _⟩
 ·simp at aj
theorem DF {o:Oper} {aU:Operand→Value} {op:BinOp} {t iq:TypeId} {x y:Operand} (aq:o.op=.binOp op t x y iq) {a b:Bool} {r:I}
  (aj:fi P op t (.bool a) (.bool b)=some r) (ad:Rel J S w (.bool a) (aU x)) (af:Rel J S w (.bool b) (aU y)):e4 P o aU J S w r:=by
 simp only [fi] at aj;have e1:=ad.hX;have cm:=af.hX;split at aj
 ·rename_i ax;simp at aj;subst aj;exact ⟨_,by simp [Go.execOp,aq,e1,cm,eqGuard,Go.binOp,run_equal_bool ax],.bool _⟩
 ·rename_i ax;simp at aj;subst aj;exact ⟨_,by simp [Go.execOp,aq,e1,cm,eqGuard,Go.binOp,run_equal_bool ax],.bool _⟩
 ·simp at aj
theorem m' {x y:I} {xs ys:List I} {e:Bool} (h:dL (x::xs) (y::ys)=some e) :
  ∃ k a b cO,x=.int k a∧y=.int k b∧dL xs ys=some cO∧e=((a == b) && cO):=by
 cases x <;> cases y <;> simp only [dL,reduceCtorEq] at h;split at h
 ·rename_i av;subst av;simp only [rU] at h;obtain ⟨cO,ad,af⟩:=h;exact ⟨_,_,_,cO,rfl,rfl,ad,af.symm⟩
 ·simp at h
theorem EF {e:TypeId} {de:IntKind} (d:Nat) (he:P.underlying e=some (.int de)) (ai:dJ P e=false):∀ (xs ys:List I) (vs ws:List Value) (off:Nat) (eq:Bool),
  dL xs ys=some eq→a_ (fun _=>.res) U J S w xs vs→a_ (fun _=>.res) U J S w ys ws→∀ (V W:Array Value),(∀ j,vs[j]?=V[off+j]?)→(∀ j,ws[j]?=W[off+j]?) →
  (forIn (List.range' off xs.length) ((none,()):Option Bool×PUnit) (fun i (_:Option Bool×PUnit)=>(do
    let a ←part e V i
    let b ←part e W i
    let c ←Op.equalIn (d+1) e a b
    if c=false then pure (ForInStep.done (some false,())) else pure (ForInStep.yield (none,())):Sem (ForInStep (Option Bool×PUnit))))).run P w =
   .ok (if eq then none else some false,()) w:=by
 intro xs
 induction xs with
 | nil=>intro ys vs ws off eq h _ _ V W _ _;cases ys <;> simp [dL] at h;subst h;simp
 | cons x xs a' =>
   intro ys vs ws off eq h ae hw V W jA lQ;cases ys with
   | nil=>cases x <;> simp [dL] at h
   | cons y ys =>
     obtain ⟨k,a,b,cO,rfl,rfl,aY,rfl⟩:=m' h;obtain ⟨v,dv,rfl,aS,_,bd⟩:=ae.gN;obtain ⟨w',xY,rfl,bk,_,me⟩:=hw.gN;have e1:=aS.dd;have cm:=bk.dd;subst e1 cm;(have bT:V[off]?=some (.int k a):=by have:=jA 0;simpa using this.symm);(have b6:W[off]?=some (.int k b):=by have:=lQ 0;simpa using this.symm);have pR:=a' ys dv xY (off+1) cO aY bd me V W (fun j=>by have:=jA (j+1);simpa [tE,td 1] using this) (fun j=>by have:=lQ (j+1);simpa [tE,td 1] using this);(have q1:(part e V off).run P w=.ok (.int k a) w:=by simp [part,gI he,ai,bT]);(have aX:(part e W off).run P w=.ok (.int k b) w:=by simp [part,gI he,ai,b6]);(have cB:(Op.equalIn (d+1) e (.int k a) (.int k b)).run P w=.ok (a == b) w:=by rw [Op.equalIn];simp [run_underlying he]);simp only [sD,List.range'_succ,vr,Sem.run_bind,q1,aX,cB,Result.andThen_ok];by_cases jB:a=b
     ·subst jB;simpa using pR
     ·simp [jB]
theorem EI {t e:TypeId} {len:Nat} {de:IntKind} (d:Nat) (ax:P.underlying t=some (.array len e)) (he:P.underlying e=some (.int de)) (gA:bU P e=some 1)
  {xs ys:List I} {V W:Array Value} {eq:Bool} (al:xs.length=len) (h:dL xs ys=some eq) (aS:Rel J S w (.agg xs) (.agg V)) (bk:Rel J S w (.agg ys) (.agg W)) :
  (Op.equalIn (d+2) t (.agg V) (.agg W)).run P w=.ok eq w:=by
 have ck:dJ P e=false:=by unfold dJ;rw [he]
 rw [Op.equalIn];simp only [run_underlying ax,run_sizeOf gA,Sem.run_bind,Result.andThen_ok];cases aS with
 | agg xs V ae bT bC q1 =>
   cases bk with
   | agg ys W hw b6 bS aX =>
     have:=EF (U:=fun _=>none) (P:=P) (w:=w) (J:=J) (S:=S) d he ck xs ys V.toList W.toList 0 eq h ⟨by simp [ae],fun i u v a b=>q1 i u v a (by simpa using b),fun i u v a _=>aW.b5 (bT u (sA a))⟩
      ⟨by simp [hw],fun i u v a b=>aX i u v a (by simpa using b),fun i u v a _=>aW.b5 (b6 u (sA a))⟩ V W (by simp) (by simp)
     rw [al] at this;simp [this];cases eq <;> simp
theorem y5 {f:Field} {bG:List Field} {n:Nat} (h:gC P (f::bG) n=true) :
  f.offset = n ∧ f.name ≠ "_" ∧ (∃ k, P.underlying f.type = some (.int k)) ∧ bU P f.type = some 1 ∧ dJ P f.type = false ∧ gC P bG (n + 1) = true := by
 simp only [gC,Bool.and_eq_true,beq_iff_eq,bne_iff_ne] at h;obtain ⟨⟨⟨ad,af⟩,aG⟩,a7⟩:=h;split at aG
 ·rename_i k hu ai;exact ⟨ad,af,⟨k,hu⟩,ai,by unfold dJ;rw [hu],a7⟩
 ·simp at aG
theorem EM (d:Nat):∀ (bG:List Field) (xs ys:List I) (vs ws:List Value) (off:Nat) (eq:Bool),gC P bG off=true→xs.length=bG.length→ys.length=bG.length →
  dL xs ys=some eq→a_ (fun _=>.res) U J S w xs vs→a_ (fun _=>.res) U J S w ys ws→∀ (V W:Array Value),(∀ j,vs[j]?=V[off+j]?)→(∀ j,ws[j]?=W[off+j]?) →
  (forIn bG ((none,()):Option Bool×PUnit) (fun f (_:Option Bool×PUnit) =>
    if f.name = "_" then pure (ForInStep.yield (none, ())) else (do
    let a ←part f.type V f.offset
    let b ←part f.type W f.offset
    let c ←Op.equalIn (d+1) f.type a b
    if c=false then pure (ForInStep.done (some false,())) else pure (ForInStep.yield (none,())):Sem (ForInStep (Option Bool×PUnit))))).run P w =
   .ok (if eq then none else some false,()) w:=by
 intro bG
 induction bG with
 | nil =>
   intro xs ys vs ws off eq _ al a1 h _ _ V W _ _;obtain rfl:=tn.1 al;obtain rfl:=tn.1 a1;simp [dL] at h;subst h;simp
 | cons f bG a' =>
   intro xs ys vs ws off eq aQ al a1 h ae hw V W jA lQ;cases xs with
   | nil=>simp at al
   | cons x xs =>
     cases ys with
     | nil=>simp at a1
     | cons y ys =>
       obtain ⟨k,a,b,cO,rfl,rfl,aY,rfl⟩:=m' h;obtain ⟨v,dv,rfl,aS,_,bd⟩:=ae.gN;obtain ⟨w',xY,rfl,bk,_,me⟩:=hw.gN;obtain ⟨f1,f2,⟨de,f3⟩,f4,f5,f6⟩:=y5 aQ;have e1:=aS.dd;have cm:=bk.dd;subst e1 cm;(have bT:V[off]?=some (.int k a):=by have:=jA 0;simpa using this.symm);(have b6:W[off]?=some (.int k b):=by have:=lQ 0;simpa using this.symm);have pR:=a' xs ys dv xY (off+1) cO f6 (by simpa using al) (by simpa using a1) aY bd me V W (fun j=>by have:=jA (j+1);simpa [tE,td 1] using this) (fun j=>by have:=lQ (j+1);simpa [tE,td 1] using this);(have q1:(part f.type V f.offset).run P w=.ok (.int k a) w:=by simp [part,gI f3,f5,f1,bT]);(have aX:(part f.type W f.offset).run P w=.ok (.int k b) w:=by simp [part,gI f3,f5,f1,b6]);(have cB:(Op.equalIn (d+1) f.type (.int k a) (.int k b)).run P w=.ok (a == b) w:=by rw [Op.equalIn];simp [run_underlying f3]);simp only [vr,f2,if_false,Sem.run_bind,q1,aX,cB,Result.andThen_ok];by_cases jB:a=b
       ·subst jB;simpa using pR
       ·simp [jB]
theorem run_equalIn_struct {t:TypeId} {bG:Array Field} (d:Nat) (ax:P.underlying t=some (.struct bG)) (aQ:gC P bG.toList 0=true) (h8:P.stoodInHeld t=false)
  {xs ys:List I} {V W:Array Value} {eq:Bool} (al:xs.length=bG.size) (a1:ys.length=bG.size) (h:dL xs ys=some eq) (aS:Rel J S w (.agg xs) (.agg V)) (bk:Rel J S w (.agg ys) (.agg W)) :
  (Op.equalIn (d+2) t (.agg V) (.agg W)).run P w=.ok eq w:=by
 rw [Op.equalIn];cases aS with
 | agg xs V ae bT bC q1 =>
   cases bk with
   | agg ys W hw b6 bS aX =>
     have:=EM (U:=fun _=>none) (P:=P) (w:=w) (J:=J) (S:=S) d bG.toList xs ys V.toList W.toList 0 eq aQ (by simpa using al) (by simpa using a1) h ⟨by simp [ae],fun i u v a b=>q1 i u v a (by simpa using b),fun i u v a _=>aW.b5 (bT u (sA a))⟩
      ⟨by simp [hw],fun i u v a b=>aX i u v a (by simpa using b),fun i u v a _=>aW.b5 (b6 u (sA a))⟩ V W (by simp) (by simp)
     simp only [run_underlying ax,Sem.run_bind,Result.andThen_ok,program,Sem.run,h8];rw [Array.forIn_toList] at this;simp [this];cases eq <;> simp
theorem DE {o:Oper} {aU:Operand→Value} {op:BinOp} {t iq:TypeId} {x y:Operand} (aq:o.op=.binOp op t x y iq) {xs ys:List I} {r:I}
  (aj:fi P op t (.agg xs) (.agg ys)=some r) (ad:Rel J S w (.agg xs) (aU x)) (af:Rel J S w (.agg ys) (aU y)):e4 P o aU J S w r:=by
 simp only [fi] at aj;split at aj
 ·rename_i len e ax;split at aj
  ·rename_i de he gA;split at aj
   ·rename_i ao;obtain ⟨al,a1,aO⟩:=ao;generalize fZ:aU x=cC at ad;generalize mc:aU y=xW at af;(have e1:∃ V,cC=.agg V:=by cases ad with | agg as vs=>exact ⟨_,rfl⟩);(have cm:∃ V,xW=.agg V:=by cases af with | agg as vs=>exact ⟨_,rfl⟩);obtain ⟨V,rfl⟩:=e1;obtain ⟨W,rfl⟩:=cm;have key:∀ eq,dL xs ys=some eq→(Op.equal t (.agg V) (.agg W)).run P w=.ok eq w:=fun eq h=>EI 9998 ax he gA al h ad af;split at aj
    ·simp only [rU] at aj;obtain ⟨eq,h,rfl⟩:=aj;exact ⟨.bool eq,by simp [Go.execOp,aq,fZ,mc,eqGuard,aO,Go.binOp,key eq h,program,Sem.run],.bool _⟩
    ·simp only [rU] at aj;obtain ⟨eq,h,rfl⟩:=aj;exact ⟨.bool (!eq),by simp [Go.execOp,aq,fZ,mc,eqGuard,aO,Go.binOp,key eq h,program,Sem.run],.bool _⟩
    ·simp at aj
   ·simp at aj
  ·simp at aj
 ·rename_i bG ax;split at aj
  ·rename_i ao;obtain ⟨aQ,h8,al,a1,aO⟩:=ao;generalize fZ:aU x=cC at ad;generalize mc:aU y=xW at af;(have e1:∃ V,cC=.agg V:=by cases ad with | agg as vs=>exact ⟨_,rfl⟩);(have cm:∃ V,xW=.agg V:=by cases af with | agg as vs=>exact ⟨_,rfl⟩);obtain ⟨V,rfl⟩:=e1;obtain ⟨W,rfl⟩:=cm;have key:∀ eq,dL xs ys=some eq→(Op.equal t (.agg V) (.agg W)).run P w=.ok eq w:=fun eq h=>run_equalIn_struct 9998 ax aQ h8 al a1 h ad af;split at aj
   ·simp only [rU] at aj;obtain ⟨eq,h,rfl⟩:=aj;exact ⟨.bool eq,by simp [Go.execOp,aq,fZ,mc,eqGuard,aO,Go.binOp,key eq h,program,Sem.run],.bool _⟩
   ·simp only [rU] at aj;obtain ⟨eq,h,rfl⟩:=aj;exact ⟨.bool (!eq),by simp [Go.execOp,aq,fZ,mc,eqGuard,aO,Go.binOp,key eq h,program,Sem.run],.bool _⟩
   ·simp at aj
  ·simp at aj
 ·simp at aj
end
end Go.Proofs.YtfakoboiahbhaaaGreat.Ab


namespace Go.Proofs.YtfakoboiahbhaaaGreat.Ab
open Go
section
variable {P:Program} {B:Nat} {J:List Nat} {w:World} {H:List au} {U:Nat→Option aI} {S:Nat→Nat→Prop}
def eH (J:List Nat) (S:Nat→Nat→Prop) (w:World):Option I→Option Value→Prop
 | none,none=>True
 | some u,some v=>Rel J S w u v
 | _,_=>False
theorem mM {x:Option I} {v:Option Value} {d y xZ r:Nat} (h:cJ x d y=some r) (al:eH J S w x v) (a1:y≤xZ) :
  (∃ k n,v=some (.int k n)∧x.isSome∧(∀ code,(Instr.sliceBound (.int k n) xZ code).run P w=.ok r w)∧r≤y)∨(v=none∧x=none∧r=d):=by
 unfold cJ at h;split at h
 ·cases v with
  | none=>simp at h;exact .inr ⟨rfl,rfl,h.symm⟩
  | some v=>simp [eH] at al
 ·cases v with
  | none=>simp [eH] at al
  | some v =>
    have e:=Rel.dd al;subst e;split at h
    ·rename_i ag;simp at h;subst h;refine .inl ⟨_,_,rfl,rfl,fun code=>?_,by omega⟩;have ad:=ag.1;have af:_≤(xZ:Int):=Int.le_trans ag.2 (Int.ofNat_le.2 a1);simp [Instr.sliceBound,asIntOf,ad,af]
    ·simp at h
 ·simp at h
theorem hH {lo hi:Option I} {lo' hi':Option Value} {isS:Bool} {len cap h l:Nat} (bK:cJ hi len len=some h) (ak:cJ lo 0 h=some l) (hle:len≤cap)
  (aS:eH J S w lo lo') (bk:eH J S w hi hi'):(Instr.sliceBounds isS len cap lo' hi' none).run P w=.ok (l,h,cap) w∧l≤h∧h≤len:=by
 rcases mM (P:=P) bK bk hle with ⟨k,n,rfl,_,q,ag⟩ | ⟨rfl,_,rfl⟩ <;> rcases mM (P:=P) ak aS (rX _) with ⟨k',iV,rfl,_,fO,br⟩ | ⟨rfl,_,rfl⟩ <;>
  refine ⟨?_,by omega,by omega⟩ <;> simp [Instr.sliceBounds, *]
theorem xG {lo hi gD:Option I} {lo' hi' iU:Option Value} {isS:Bool} {len cap m h l:Nat} (hm:cJ gD len len=some m) (CM:gD.isSome) (Cz:hi.isSome)
  (bK:cJ hi m m=some h) (ak:cJ lo 0 h=some l) (hle:len≤cap)
  (aS:eH J S w lo lo') (bk:eH J S w hi hi') (eE:eH J S w gD iU):(Instr.sliceBounds isS len cap lo' hi' iU).run P w=.ok (l,h,m) w∧l≤h∧h≤m∧m≤len:=by
 rcases mM (P:=P) hm eE hle with ⟨k,n,rfl,_,q,ag⟩ | ⟨rfl,rfl,_⟩
 ·rcases mM (P:=P) bK bk (rX _) with ⟨aP,cq,rfl,_,aX,fl⟩ | ⟨rfl,rfl,_⟩
  ·rcases mM (P:=P) ak aS (rX _) with ⟨k',iV,rfl,_,fO,br⟩ | ⟨rfl,_,rfl⟩ <;>
    refine ⟨?_,by omega,by omega,by omega⟩ <;> simp [Instr.sliceBounds, *]
  ·simp at Cz
 ·simp at CM
theorem Rel.sub {cells:List I} {b o cap' n k:Nat} {f:Nat→Value} (d:Nat) (dW:ir) (ao:dW=.full→cap'=n) (hle:n≤cap') (hu:∀ z,dW≠.uniq z)
  (h:∀ (j:Nat) (u:I),cells[j]?=some u→S b (o+j)∧w.cell? ⟨b,o+j,none⟩=some (f j)∧u.plain=true∧(f j).oneCell'=true)
  (aj:∀ (j:Nat) (u:I),cells[j]?=some u→Rel J S w u (f j)):Rel J S w (.ay ((cells.drop d).take k) n dW) (.slice (some ⟨b,o+d,none⟩) n cap'):=by
 refine .ay _ n dW b (o+d) cap' (fun j=>f (d+j)) ao hle hu (fun j u ca=>?_) (fun j u ca=>?_)
 ·rw [sR] at ca;split at ca
  ·rw [sY] at ca;have:=h (d+j) u ca
   rwa [show o+d+j=o+(d+j) by omega]
  ·simp at ca
 ·rw [sR] at ca;split at ca
  ·rw [sY] at ca;exact aj (d+j) u ca
  ·simp at ca
theorem Rel.empty (c:ir) (hu:∀ z,c≠.uniq z) (b o cap:Nat) (ao:c=.full→cap=0):Rel J S w (.ay [] 0 c) (.slice (some ⟨b,o,none⟩) 0 cap) :=
 .ay [] 0 c b o cap (fun _=>undef) ao (Nat.zero_le _) hu (by simp) (by simp)
theorem EL {t:TypeId} {u r:I} {x:Value} {lo hi gD:Option I} {lo' hi' iU:Option Value} (aj:eT P t u lo hi gD=some r) (aC:u.plain=true)
  (ad:Rel J S w u x) (aS:eH J S w lo lo') (bk:eH J S w hi hi') (eE:eH J S w gD iU) :
  ∃ v,(Instr.sliceAt t x lo' hi' iU).run P w=.ok v w∧Rel J S w r v∧r.plain=true:=by
 unfold eT at aj;split at aj
 ·rename_i e cells len c a0;simp only [sb] at aj;obtain ⟨s,ai,aj⟩:=aj;have pl:∀ (cs:List I) (n:Nat) (p:Prop) [Decidable p],(I.ay cs n (if p then .full else .shared)).plain=true:=fun cs n p _=>by split <;> rfl
  have pg:∀ (p:Prop) [Decidable p] (z:Nat),(if p then ir.full else ir.shared)≠.uniq z:=fun p _ z=>by split <;> simp
  split at aj
  ·simp only [sb] at aj;obtain ⟨h,bK,l,ak,aj⟩:=aj;simp at aj;subst aj;cases iU with
   | some _=>simp [eH] at eE
   | none =>
   cases ad with
   | b3 c a =>
     obtain ⟨q,q1,aX⟩:=hH (P:=P) (isS:=true) (cap:=0) bK ak (by omega) aS bk;(obtain rfl:h=0:=by omega);(obtain rfl:l=0:=by omega);exact ⟨.slice a 0 0,by cases a <;> simp [Instr.sliceAt,Instr.slice,run_underlying a0,q,run_sizeOf ai,Addr.add],by simpa using .b3 _ _,pl _ _ _⟩
   | cM=>simp [I.plain] at aC
   | ay cells len c b o cap f ao hle hu bx b' =>
     obtain ⟨q,q1,aX⟩:=hH (P:=P) (isS:=true) (cap:=cap) bK ak hle aS bk;refine ⟨_,by simp [Instr.sliceAt,Instr.slice,run_underlying a0,q,run_sizeOf ai];rfl,?_,pl _ _ _⟩;by_cases ek:cap=l
     ·(obtain rfl:h=l:=by omega);simp only [ek,if_true,tT,vt,tI];exact Rel.empty _ (pg _) _ _ _ (by simp)
     ·simp only [ek,if_false,add_lit];refine Rel.sub _ _ (fun he=>?_) (by omega) (pg _) bx b';split at he
      ·rename_i hZ;rw [ao hZ.1,hZ.2]
      ·simp at he
  ·rename_i Gf Gb;simp only [sb] at aj;obtain ⟨m,hm,h,bK,l,ak,aj⟩:=aj;simp at aj;subst aj;cases ad with
   | b3 c a =>
     obtain ⟨q,q1,aX,cB⟩:=xG (P:=P) (isS:=true) (cap:=0) hm rfl rfl bK ak (by omega) aS bk eE;(obtain rfl:m=0:=by omega);(obtain rfl:h=0:=by omega);(obtain rfl:l=0:=by omega);exact ⟨.slice a 0 0,by cases a <;> simp [Instr.sliceAt,Instr.slice,run_underlying a0,q,run_sizeOf ai,Addr.add],by simpa using .b3 _ _,pl _ _ _⟩
   | cM=>simp [I.plain] at aC
   | ay cells len c b o cap f ao hle hu bx b' =>
     obtain ⟨q,q1,aX,cB⟩:=xG (P:=P) (isS:=true) (cap:=cap) hm rfl rfl bK ak hle aS bk eE;refine ⟨_,by simp [Instr.sliceAt,Instr.slice,run_underlying a0,q,run_sizeOf ai];rfl,?_,pl _ _ _⟩;by_cases ek:m=l
     ·(obtain rfl:h=l:=by omega);simp only [ek,if_true,tT,vt,tI];exact Rel.empty _ (by simp) _ _ _ (by simp)
     ·simp only [ek,if_false,add_lit];refine Rel.sub _ _ (fun he=>?_) (by omega) (pg _) bx b';split at he
      ·rename_i hZ;rw [hZ]
      ·simp at he
  ·simp at aj
 ·rename_i e id off len cap sz a0;simp only [sb] at aj;obtain ⟨s,ai,aj⟩:=aj;split at aj
  ·simp at aj
  ·rename_i bR;(obtain rfl:s=sz:=by simpa using bR);split at aj
   ·simp only [sb] at aj;obtain ⟨h,bK,l,ak,aj⟩:=aj;cases iU with
    | some _=>simp [eH] at eE
    | none =>
    cases ad with
    | ref id off len c sz b cap' ag ao hle =>
      obtain ⟨q,q1,aX⟩:=hH (P:=P) (isS:=true) (cap:=cap') bK ak hle aS bk;split at aj
      ·rename_i Gc;simp at aj;subst aj
       have:cap'≠l:=by omega
       refine ⟨_,by simp [Instr.sliceAt,Instr.slice,run_underlying a0,q,run_sizeOf ai,this,add_lit];rfl,.ref _ _ _ _ _ b _ ag (fun n aN=>?_) (by omega),rfl⟩;simp only [rU] at aN;obtain ⟨gR,Cf,rfl⟩:=aN;rw [ao gR Cf]
      ·simp at aj;subst aj;(obtain rfl:h=l:=by omega);refine ⟨_,by simp [Instr.sliceAt,Instr.slice,run_underlying a0,q,run_sizeOf ai];rfl,?_,rfl⟩;split
       ·exact Rel.empty _ (by simp) _ _ _ (by simp)
       ·simp only [add_lit];exact Rel.empty _ (by simp) _ _ _ (by simp)
   ·simp only [sb] at aj;obtain ⟨m,hm,h,bK,l,ak,aj⟩:=aj;cases ad with
    | ref id off len c sz b cap' ag ao hle =>
      obtain ⟨q,q1,aX,cB⟩:=xG (P:=P) (isS:=true) (cap:=cap') hm rfl rfl bK ak hle aS bk eE;split at aj
      ·rename_i ek;split at aj
       ·rename_i jH;simp at aj;subst aj;refine ⟨_,by simp [Instr.sliceAt,Instr.slice,run_underlying a0,q,run_sizeOf ai,ek];rfl,.ref _ _ _ _ _ b _ ag (fun n aN=>by simpa [ek] using aN) (by omega),rfl⟩
       ·simp at aj
      ·rename_i ek;simp at aj;subst aj;exact ⟨_,by simp [Instr.sliceAt,Instr.slice,run_underlying a0,q,run_sizeOf ai,ek,add_lit];rfl,.ref _ _ _ _ _ b _ ag (fun n aN=>by simpa using aN) (by omega),rfl⟩
   ·simp at aj
 ·rename_i n e id off a0;simp only [sb] at aj;obtain ⟨s,ai,aj⟩:=aj;split at aj
  ·simp only [sb] at aj;obtain ⟨h,bK,l,ak,aj⟩:=aj;cases iU with
   | some _=>simp [eH] at eE
   | none =>
   cases ad with
   | ptr id off b ag =>
     obtain ⟨q,q1,aX⟩:=hH (P:=P) (isS:=false) (cap:=n) bK ak (rX _) aS bk;split at aj
     ·simp at aj
     ·rename_i ek;simp at aj;subst aj;exact ⟨_,by simp [Instr.sliceAt,Instr.sureAddr,run_underlying a0,q,run_sizeOf ai,ek,add_lit];rfl,.ref _ _ _ _ _ b _ ag (fun n aN=>by simpa using aN) (by omega),rfl⟩
  ·simp at aj
 ·simp at aj
end
end Go.Proofs.YtfakoboiahbhaaaGreat.Ab


namespace Go.Proofs.YtfakoboiahbhaaaGreat.Ab
open Go
section
variable {P:Program} {B:Nat} {J:List Nat} {w:World} {H:List au} {U:Nat→Option aI} {S:Nat→Nat→Prop}
theorem gp.frame {az:Nat→Option aI} {b1:List Nat} {S':Nat→Nat→Prop} {w':World} (bM:Ext J b1)
  (cp:∀ b o,S b o→S' b o∧w'.cell? ⟨b,o,none⟩=w.cell? ⟨b,o,none⟩) {id:Nat}
  (av:∀ b l,U b=some l→(l=.obj id∨∃ j,l=.cell id j)→az b=some l∧w'.heap[b]?=w.heap[b]?∧∀ o,S' b o→S b o)
  {o:au} (h:gp U J S w id o):gp az b1 S' w' id o:=by
 cases o with
 | dead=>trivial
 | cells l =>
   obtain ⟨b,cur,e,aB,aH,aR,bl,bc,bg⟩:=h;obtain ⟨aJ,aP,cl⟩:=av b _ aH (.inl rfl);refine ⟨b,cur,e,bM _ _ aB,aJ,aP.trans aR,bl,fun o ai=>bc o (cl o ai),fun j u v hu ae=>?_⟩;obtain ⟨ba,gR,bm,bt⟩:=bg j u v hu ae;exact ⟨ba,gR,bm.mono bM cp,bt.mono bM cp fun b ag=>av b _ ag (.inr ⟨j,rfl⟩)⟩
 | grow l gid z =>
   obtain ⟨b,cur,e,aB,aH,aR,bl,bc,bg,cap,c2,db⟩:=h;obtain ⟨aJ,aP,cl⟩:=av b _ aH (.inl rfl);refine ⟨b,cur,e,bM _ _ aB,aJ,aP.trans aR,bl,fun o ai=>bc o (cl o ai),fun j u v hu ae=>?_,cap,bM _ _ c2,db⟩;obtain ⟨ba,gR,bm,bt⟩:=bg j u v hu ae;exact ⟨ba,gR,bm.mono bM cp,bt.mono bM cp fun b ag=>av b _ ag (.inr ⟨j,rfl⟩)⟩
 | loop st cH fn T params assign body js =>
   obtain ⟨al,a1,b,L,aB,aH,aR,bl,bc,bg,c2,db,dE⟩:=h;obtain ⟨aJ,aP,cl⟩:=av b _ aH (.inl rfl);exact ⟨al,a1,b,L,bM _ _ aB,aJ,aP.trans aR,bl,bc,bg,c2,fun i u v hu ae=>⟨(db i u v hu ae).1,(db i u v hu ae).2.mono bM cp⟩,dE⟩
 | map es clock =>
   obtain ⟨b,bz,aB,aH,aR,bl,bc,bg⟩:=h;obtain ⟨aJ,aP,cl⟩:=av b _ aH (.inl rfl)
   exact ⟨b,bz,bM _ _ aB,aJ,aP.trans aR,bl,fun o ai=>bc o (cl o ai),fun j i k v x hu ae =>
    let ⟨ba,bm,bt,b9,dX⟩:=bg j i k v x hu ae;⟨ba,bm,bt.mono bM cp,b9,dX.mono bM cp⟩⟩
 | iter m s e t =>
   obtain ⟨b,ed,aB,aH,aR,bl,bc⟩:=h;obtain ⟨aJ,aP,cl⟩:=av b _ aH (.inl rfl);exact ⟨b,ed,bM _ _ aB,aJ,bM _ _ aR,aP.trans bl,fun o ai=>bc o (cl o ai)⟩
theorem aL.frame {az:Nat→Option aI} {S':Nat→Nat→Prop} {w':World} (ah:aL B U J S w H) (aA:bh U S w az S' w')
  (av:∀ b l,U b=some l→((∃ id,l=.obj id)∨∃ id j,l=.cell id j)→az b=some l∧w'.heap[b]?=w.heap[b]?∧∀ o,S' b o→S b o)
  (aG:∀ b o,S' b o→∃ v,w'.cell? ⟨b,o,none⟩=some v) (a7:∀ b l,az b=some l→B≤b∧b<w'.heap.size):aL B az J S' w' H :=
 ⟨ah.cG,fun id o aq=>(ah.obj id o aq).frame (Ext.refl J) aA.set (fun b l ag ak=>av b l ag (by
  rcases ak with rfl | ⟨j,rfl⟩
  ·exact .inl ⟨id,rfl⟩
  ·exact .inr ⟨id,j,rfl⟩)),aG,a7,sJ ah.cZ aA.size⟩
theorem aL.push (ah:aL B U J S w H) (n:Nat) {o:au} (aq:gp U (J++[n]) S w H.length o):aL B U (J++[n]) S w (H++[o]) where
 cG:=by simp [ah.cG]
 obj id cN h:=by
  rcases vu id H.length with aV | rfl | Ga
  ·rw [se aV] at h;exact (ah.obj id cN h).frame (Ext.append J [n]) (fun b o ai=>⟨ai,rfl⟩) fun b l ag _=>⟨ag,rfl,fun o ai=>ai⟩
  ·simp at h;subst h;exact aq
  ·rw [sB (by omega)] at h
   have:id-H.length≠0:=by omega
   obtain ⟨k,av⟩:=Nat.exists_eq_succ_of_ne_zero this;rw [av] at h;simp at h
 ch:=ah.ch
 base:=ah.base
 cZ:=ah.cZ
theorem aL.oi (ah:aL B U J S w H) {id:Nat} {l:List I} {g z:Nat} (aE:H[id]?=some (.grow l g z)):aL B U J S w (H.set id (.cells l)):=by
 refine ⟨by simpa using ah.cG,fun bA o aq=>?_,ah.ch,ah.base,ah.cZ⟩;by_cases cw:bA=id
 ·subst cw;rw [rY (rV.1 aE).1] at aq;cases aq;obtain ⟨b,cur,e,aB,aH,aR,bl,bc,bg,_⟩:=ah.obj bA _ aE;exact ⟨b,cur,e,aB,aH,aR,bl,bc,bg⟩
 ·rw [sa (Ne.symm cw)] at aq;exact ah.obj bA o aq
theorem aL.xq (ah:aL B U J S w H) {id:Nat} {l:List I} {g z b cap:Nat} {cur:Array Value} {e:TypeId} (aE:H[id]?=some (.cells l)) (ag:J[id]?=some b) (aO:J[g]?=some cap)
  (hm:cap≤maxLen) (bo:0<z) (ao:w.heap[b]?=some (.cells cur e (0,0))) (ai:cur.size=cap*z):aL B U J S w (H.set id (.grow l g z)):=by
 refine ⟨by simpa using ah.cG,fun bA o aq=>?_,ah.ch,ah.base,ah.cZ⟩;by_cases cw:bA=id
 ·subst cw;rw [rY (rV.1 aE).1] at aq;cases aq;obtain ⟨ar,cur',cO,aB,aH,aR,bl,bc,bg⟩:=ah.obj bA _ aE;rw [ag] at aB;cases aB;rw [ao] at aR;cases aR;exact ⟨b,cur,e,ag,aH,ao,bl,bc,bg,cap,aO,hm,bo,ai⟩
 ·rw [sa (Ne.symm cw)] at aq;exact ah.obj bA o aq
def lay (U:Nat→Option aI) (n:Nat) (l:aI):Nat→Option aI:=fun b=>if b=n then some l else U b
theorem oH (o:Obj) {b i:Nat} (ag:b<w.heap.size):(w.alloc o).cell? ⟨b,i,none⟩=w.cell? ⟨b,i,none⟩:=by
 have:(w.alloc o).heap[b]?=w.heap[b]?:=heap_alloc_old w o b ag
 unfold World.cell?;simp only [this]
theorem kk (ah:aL B U J S w H) (o:Obj) (l:aI):bh U S w (lay U w.heap.size l) S (w.alloc o) where
 os:=rfl
 tape:=rfl
 output:=rfl
 size:=by simp
 cF b ag _:=heap_alloc_old w o b ag
 set b cN ai:=⟨ai,by obtain ⟨v,ae⟩:=ah.ch b cN ai;exact oH o (mv ae)⟩
 fresh _ _ ai:=.inl ai
 own b ag:=by
  unfold lay at ag;split at ag
  ·rename_i h;exact .inr (by omega)
  ·exact .inl ag
theorem nw (ah:aL B U J S w H) (o:Obj) (l:aI):aL B (lay U w.heap.size l) J S (w.alloc o) H:=by
 have aA:=kk ah o l;refine ah.frame aA (fun b l' ag _=>?_) (fun b cN ai=>?_) (fun b l' ag=>?_)
 ·have:=(ah.base b l' ag).2;exact ⟨by simp [lay,show b≠w.heap.size by omega,ag],heap_alloc_old w o b this,fun o ai=>ai⟩
 ·obtain ⟨v,ae⟩:=ah.ch b cN ai;exact ⟨v,((aA.set b cN ai).2).trans ae⟩
 ·unfold lay at ag;split at ag
  ·rename_i h;subst h;exact ⟨ah.cZ,by simp⟩
  ·have:=ah.base b l' ag;exact ⟨this.1,by simp;omega⟩
theorem kj (U:Nat→Option aI) (S:Nat→Nat→Prop) (w:World):bh U S w U S w.drew :=
 ⟨rfl,rfl,rfl,rX _,fun _ _ _=>rfl,fun _ _ h=>⟨h,rfl⟩,fun _ _ h=>.inl h,fun _ h=>.inl h⟩
theorem l9 (ah:aL B U J S w H):aL B U J S w.drew H :=
 ah.frame (kj U S w) (fun _ _ ag _=>⟨ag,rfl,fun _ h=>h⟩) ah.ch ah.base
theorem mz (ah:aL B U J S w H) (o:Nat):¬ S w.heap.size o:=fun ai=>by
 obtain ⟨v,ae⟩:=ah.ch _ o ai;exact absurd (mv ae) (Nat.lt_irrefl _)
structure c5 (J:List Nat) (S:Nat→Nat→Prop) (w:World) (cs:List I) (vs:List Value):Prop where
 len:cs.length=vs.length
 rel:∀ (j:Nat) (u:I) (v:Value),cs[j]?=some u→vs[j]?=some v→u.plain=true∧v.oneCell'=true∧Rel J S w u v
theorem c5.mono {b1:List Nat} {S':Nat→Nat→Prop} {w':World} {cs:List I} {vs:List Value} (h:c5 J S w cs vs) (bM:Ext J b1)
  (cp:∀ b o,S b o→S' b o∧w'.cell? ⟨b,o,none⟩=w.cell? ⟨b,o,none⟩):c5 b1 S' w' cs vs :=
 ⟨h.len,fun j u v hu ae=>let ⟨a,b,c⟩:=h.rel j u v hu ae;⟨a,b,c.mono bM cp⟩⟩
theorem c5.append {a b:List I} {c d:List Value} (h:c5 J S w a c) (k:c5 J S w b d):c5 J S w (a++b) (c++d):=by
 refine ⟨by simp [h.len,k.len],fun j u v hu ae=>?_⟩;rcases sO j a.length with aw | aw
 ·rw [se aw] at hu;rw [se (h.len ▸ aw)] at ae;exact h.rel j u v hu ae
 ·rw [sB aw] at hu;rw [sB (h.len ▸ aw),←h.len] at ae;exact k.rel _ u v hu ae
theorem nQ (ah:aL B U J S w H) {cs:List I} {vs:List Value} (ao:c5 J S w cs vs) (spare:List Value) (e:TypeId) (len cap z:Nat) (bo:0<z) (ak:cs.length=len*z)
  (o':len≤cap) (hm:cap≤maxLen) (ai:vs.length+spare.length=cap*z) :
  a2 B U J S w H (.ay cs len (.uniq z)) (.slice (some ⟨w.heap.size,0,none⟩) len cap) (w.alloc (.cells (vs++spare).toArray e)):=by
 have aA:=kk ah (.cells (vs++spare).toArray e) .res;refine ⟨_,J,S,Ext.refl J,aA,nw ah _ .res,.cM _ _ _ _ _ _,.inr ⟨by simp [lay],rfl,o',hm,bo,ak,⟨_,e,heap_alloc_new w _,by simp [ai],fun j u v hu ae=>?_⟩,mz ah⟩⟩;have aw:j<vs.length:=ao.len ▸ (rV.1 hu).1;have bd:vs[j]?=some v:=by simpa [se aw] using ae
 obtain ⟨a,b,c⟩:=ao.rel j u v hu bd;exact ⟨a,b,c.mono (Ext.refl J) aA.set⟩
end
end Go.Proofs.YtfakoboiahbhaaaGreat.Ab


namespace Go.Proofs.YtfakoboiahbhaaaGreat.Ab
open Go
section
variable {P:Program} {B:Nat} {J:List Nat} {w:World} {H:List au} {U:Nat→Option aI} {S:Nat→Nat→Prop}
theorem AD {t:TypeId} {cs:List I} {b base off:Nat} {g:Nat→Value} {r:I}
  (ao:∀ (j:Nat) (u:I),cs[j]?=some u→w.cell? ⟨b,base+j,none⟩=some (g j)∧(g j).oneCell'=true∧Rel J S w u.view (g j)) (aj:et P t cs off=some r) :
  ∃ v,(loadVar t ⟨b,base+off,none⟩).run P w=.ok v w∧Rel J S w r v∧r.plain=true:=by
 unfold et at aj;cases ck:dJ P t with
 | true =>
   obtain ⟨d,a0⟩:=y7 ck;rw [ck] at aj;simp only [sb] at aj;obtain ⟨s,ai,aj⟩:=aj;split at aj
   ·rename_i hle;simp only [Option.some.injEq] at aj;subst aj;have bx:∀ j,j<s→w.cell? ((⟨b,base+off,none⟩:Addr).add j)=some (g (off+j)):=fun j aw=>by
     (have aV:off+j<cs.length:=by omega);rw [add_lit,tE];exact (ao (off+j) _ (sd aV)).1
    have ak:=run_loadCells (P:=P) (w:=w) ⟨b,base+off,none⟩ s (fun j=>g (off+j)) bx;refine ⟨_,by simp only [loadVar,Sem.run_bind,gI a0,ck,Result.andThen_ok,if_true,run_sizeOf ai,ak];rfl,.agg _ _ ?_ ?_ ?_ ?_,rfl⟩
    ·simp;omega
    ·intro u hu;obtain ⟨x,_,rfl⟩:=sq.1 hu;exact I.dh x
    ·intro v ae;obtain ⟨j,aw,rfl⟩:=sq.1 ae;have aw:=List.mem_range.1 aw;(have aV:off+j<cs.length:=by omega);exact (ao (off+j) _ (sd aV)).2.1
    ·intro j u v hu ae;simp only [sm,rU] at hu;obtain ⟨x,al,rfl⟩:=hu;rw [sR] at al;split at al
     ·rename_i aw;rw [sY] at al;simp [aw] at ae;subst ae;exact (ao (off+j) x al).2.2
     ·simp at al
   ·simp at aj
 | false =>
   rw [ck] at aj;simp only at aj;split at aj
   ·rename_i d a0;simp only [rU] at aj;obtain ⟨u,hu,rfl⟩:=aj;obtain ⟨ad,af,aG⟩:=ao off u hu;exact ⟨g off,by simp [loadVar,gI a0,ck,load,Sem.run,ad],aG,I.dh u⟩
   ·simp at aj
theorem k5 (ah:aL B U J S w H) {t:TypeId} {a r:I} {v:Value} (aj:dS P H t a=some r) (ad:Rel J S w a v) :
  ∃ x,(Instr.loadAt t v).run P w=.ok x w∧Rel J S w r x∧r.plain=true:=by
 unfold dS at aj;split at aj
 ·rename_i id off
  have key:∀ l:List I,(∃ b cur e,J[id]?=some b∧U b=some (.obj id)∧w.heap[b]?=some (.cells cur e (0,0))∧l.length≤cur.size∧(∀ o,¬ S b o) ∧
    ∀ (j:Nat) (u:I) (v:Value),l[j]?=some u→cur[j]?=some v→u.cV=true∧v.oneCell'=true∧Rel J S w u v∧aW U J S w (.cell id j) u v)→et P t l off=some r →
    ∃ x,(Instr.loadAt t v).run P w=.ok x w∧Rel J S w r x∧r.plain=true:=by
   rintro l ⟨b,cur,e,aB,aH,aR,bl,bc,bg⟩ aj;cases ad with
   | ptr id off ar ag =>
     rw [aB] at ag;cases ag;have facts:∀ (j:Nat) (u:I),l[j]?=some u→w.cell? ⟨b,0+j,none⟩=some (cur.getD j undef)∧(cur.getD j undef).oneCell'=true∧Rel J S w u.view (cur.getD j undef):=by
      intro j u hu;(have aw:j<cur.size:=by have:=(rV.1 hu).1;omega);have c7:cur[j]?=some cur[j]:=sv _;obtain ⟨ba,gR,bm,_⟩:=bg j u _ hu c7;(have aO:cur.getD j undef=cur[j]:=by simp [Array.getD,aw]);rw [aO];exact ⟨by rw [cell_of_row w b _ cur e (0,0) aR,sP,c7],gR,bm.view ba⟩
     obtain ⟨x,al,b'⟩:=AD facts aj;rw [sP] at al;exact ⟨x,by simp [Instr.loadAt,Instr.sureAddr,al],b'⟩
  split at aj
  ·rename_i l aE;exact key l (ah.obj id _ aE) aj
  ·rename_i l g z aE;obtain ⟨b,cur,e,aB,aH,aR,bl,bc,bg,_⟩:=ah.obj id _ aE;exact key l ⟨b,cur,e,aB,aH,aR,bl,bc,bg⟩ aj
  ·simp at aj
 ·cases ad with
  | bW cells b o f h fo =>
    obtain ⟨x,al,b'⟩:=AD (J:=J) (S:=S) (w:=w) (b:=b) (base:=o) (g:=f) (fun j u hu=>⟨(h j u hu).2.1,(h j u hu).2.2.2,(fo j u hu).view (I.ga (h j u hu).2.2.1)⟩) aj;rw [tJ] at al;exact ⟨x,by simp [Instr.loadAt,Instr.sureAddr,al],b'⟩
 ·simp at aj
theorem yd (ah:aL B U J S w H) {l:aI} (cc:∀ id,l≠.obj id) (cq:∀ id j,l≠.cell id j) {u:I} {v:Value} {bH:List I} (ao:u.cells=some bH) (aj:Rel J S w u v) (aq:aW U J S w l u v) :
  ∃ S':Nat→Nat→Prop,(∀ b o,S b o→S' b o)∧(∀ b o,S' b o→S b o∨U b=some l)∧aL B U J S' w H∧v.cells.size=bH.length ∧
    (∀ x∈v.cells.toList,x.oneCell'=true) ∧
    ∀ (j:Nat) (bI:I) (bu:Value),(bH.map I.settle)[j]?=some bI→v.cells[j]?=some bu→bI.cV=true∧Rel J S' w bI bu∧(bI.plain=true∨(j=0∧bH=[u]∧aW U J S' w l bI bu)):=by
 have single:bH=[u]→v.cells=#[v]→v.oneCell'=true→∃ S':Nat→Nat→Prop,(∀ b o,S b o→S' b o)∧(∀ b o,S' b o→S b o∨U b=some l)∧aL B U J S' w H∧v.cells.size=bH.length ∧
   (∀ x∈v.cells.toList,x.oneCell'=true) ∧
   ∀ (j:Nat) (bI:I) (bu:Value),(bH.map I.settle)[j]?=some bI→v.cells[j]?=some bu→bI.cV=true∧Rel J S' w bI bu∧(bI.plain=true∨(j=0∧bH=[u]∧aW U J S' w l bI bu)):=by
  intro fI ae ad;subst fI;rw [ae];by_cases hu:u.cV=true
  ·refine ⟨S,fun _ _ h=>h,fun _ _ h=>.inl h,ah,rfl,by simp [ad],fun j bI bu aw ee=>?_⟩;have ai:u.settle=u:=by
    unfold I.settle;split
    ·simp [I.cV] at hu
    ·rfl
   cases j with
   | zero=>simp [ai] at aw ee;subst aw ee;exact ⟨hu,aj,.inr ⟨rfl,rfl,aq⟩⟩
   | succ j=>simp at aw
  ·obtain ⟨cells,len,z,rfl⟩:∃ cells len z,u=.ay cells len (.uniq z):=by
    unfold I.cV at hu;split at hu
    ·exact ⟨_,_,_,rfl⟩
    ·simp at hu
   obtain ⟨a5,aJ,aP,cl,_,bk,eE⟩:=j8 ah aj aq;refine ⟨a5,aJ,aP,ah.settle aJ (fun b o h=>(aP b o h).imp id fun h=>⟨_,h,cc,cq⟩) cl,rfl,by simp [ad],fun j bI bu aw ee=>?_⟩;cases j with
   | zero=>simp [I.settle] at aw ee;subst aw ee;exact ⟨rfl,bk,.inr ⟨rfl,rfl,eE⟩⟩
   | succ j=>simp at aw
 cases aj with
 | agg as vs h p one r =>
   simp [I.cells] at ao;subst ao;refine ⟨S,fun _ _ h=>h,fun _ _ h=>.inl h,ah,h,one,fun j bI bu aw ee=>?_⟩;simp only [sm,rU] at aw;obtain ⟨x,al,rfl⟩:=aw;have aC:=p x (sA al);have ai:x.settle=x:=by
    unfold I.settle;split
    ·simp [I.plain] at aC
    ·rfl
   rw [ai];exact ⟨I.ga aC,r j x bu al ee,.inl aC⟩
 | junk v=>simp [I.cells] at ao
 | tuple as vs h p r=>simp [I.cells] at ao
 | raw=>simp [I.cells] at ao
 | _=>simp [I.cells] at ao;exact single ao.symm rfl rfl
theorem Ext.last (ah:aL B U J S w H) (n:Nat):(J++[n])[H.length]?=some n:=by rw [←ah.cG];simp
theorem nP (ah:aL B U J S w H) (l:aI) (cc:∀ id,l≠.obj id) (cq:∀ id j,l≠.cell id j) {cs:List I} {vs:Array Value} (e:TypeId) (hlen:cs.length≤vs.size)
  (ao:∀ (j:Nat) (u:I) (v:Value),cs[j]?=some u→vs[j]?=some v→u.cV=true∧v.oneCell'=true∧Rel J S w u v∧(u.plain=true∨(j=0∧aW U J S w l u v))) :
  ∃ az,bh U S w az S (w.alloc (.cells vs e))∧aL B az (J++[w.heap.size]) S (w.alloc (.cells vs e)) (H++[.cells cs]):=by
 classical
 let az:Nat→Option aI:=fun b=>if b=w.heap.size then some (.obj H.length) else if U b=some l then some (.cell H.length 0) else U b
 have bO:∀ b l',U b=some l'→b≠w.heap.size:=fun b l' h=>by have:=(ah.base b l' h).2;omega
 have aA:bh U S w az S (w.alloc (.cells vs e)):=by
  have fT:=kk ah (.cells vs e) (.obj H.length);refine ⟨fT.os,fT.tape,fT.output,fT.size,fT.cF,fT.set,fT.fresh,fun b ag=>?_⟩;by_cases h:b=w.heap.size
  ·exact .inr (by omega)
  ·refine .inl fun aT=>ag ?_;simp [az,h,aT]
 have bY:aL B az J S (w.alloc (.cells vs e)) H:=by
  refine ah.frame aA (fun b l' ag ak=>?_) (fun b o ai=>?_) (fun b l' ag=>?_)
  ·have h:=bO b l' ag;(have dA:l'≠l:=by rcases ak with ⟨id,rfl⟩ | ⟨id,j,rfl⟩ <;> intro e <;> first | exact cc _ e.symm | exact cq _ _ e.symm);refine ⟨?_,heap_alloc_old w _ b (ah.base b l' ag).2,fun o ai=>ai⟩;simp [az,h,ag,dA]
  ·obtain ⟨v,ae⟩:=ah.ch b o ai;exact ⟨v,((aA.set b o ai).2).trans ae⟩
  ·by_cases h:b=w.heap.size
   ·subst h;exact ⟨ah.cZ,by simp⟩
   ·have:∃ cx,U b=some cx:=by
     cases aT:U b with
     | none=>simp [az,h,aT] at ag
     | some cx=>exact ⟨cx,rfl⟩
    obtain ⟨cx,aT⟩:=this;have:=ah.base b cx aT;exact ⟨this.1,by simp;omega⟩
 refine ⟨az,aA,bY.push w.heap.size ⟨w.heap.size,vs,e,Ext.last ah _,by simp [az],heap_alloc_new w _,hlen,mz ah,fun j u v hu ae=>?_⟩⟩;obtain ⟨ba,bm,bt,b9⟩:=ao j u v hu ae;refine ⟨ba,bm,bt.mono (Ext.append J _) aA.set,?_⟩;rcases b9 with b9 | ⟨rfl,b9⟩
 ·exact aW.b5 b9
 ·refine b9.mono (Ext.append J _) aA.set fun b ag=>⟨?_,heap_alloc_old w _ b (ah.base b l ag).2,fun o ai=>ai⟩;simp [az,bO b l ag,ag]
theorem E8 (ah:aL B U J S w H) {l:aI} (cc:∀ id,l≠.obj id) (cq:∀ id j,l≠.cell id j) {u:I} {v:Value} {bH:List I} (ao:u.cells=some bH) (aj:Rel J S w u v) (aq:aW U J S w l u v) (e:TypeId) :
  ∃ x w',(Instr.box e v).run P w=.ok x w'∧a2 B U J S w (H++[.cells (bH.map I.settle)]) (.ptr H.length 0) x w':=by
 obtain ⟨S',aJ,aP,cf,bR,en,c'⟩:=yd ah cc cq ao aj aq
 obtain ⟨az,aA,lN⟩:=nP (cs:=bH.map I.settle) (vs:=v.cells) cf l cc cq e (by simp [bR]) (fun j bI bu hu ae=>by
  obtain ⟨aB,aH,aR⟩:=c' j bI bu hu ae
  exact ⟨aB,en bu (by simpa using vv ae),aH,aR.imp id fun ⟨x,_,y⟩=>⟨x,y⟩⟩)
 refine ⟨.pointer (some ⟨w.heap.size,0,none⟩),w.alloc (.cells v.cells e),?_,az,_,S',Ext.append J _,(bh.settle aJ (fun b o h=>(aP b o h).imp id fun h=>⟨_,h⟩)).trans aA,lN,
  .ptr _ _ _ (Ext.last ah _),aW.b5 rfl⟩
 simp [Instr.box,newVar,newRow,newObj,Sem.run,World.alloc_eq]
theorem E9 (ah:aL B U J S w H) {u:I} {v:Value} {bH:List I} (ao:u.cells=some bH) (aC:bH.all I.plain=true) (aj:Rel J S w u v) (e:TypeId) :
  ∃ x w',(Instr.box e v).run P w=.ok x w'∧a2 B U J S w H (.bW bH) x w':=by
 rw [ss] at aC;have Ch:v.cells.size=bH.length∧(∀ x∈v.cells.toList,x.oneCell'=true)∧∀ (j:Nat) (bI:I) (bu:Value),bH[j]?=some bI→v.cells[j]?=some bu→Rel J S w bI bu:=by
  have single:bH=[u]→v.cells=#[v]→v.oneCell'=true→v.cells.size=bH.length∧(∀ x∈v.cells.toList,x.oneCell'=true)∧∀ (j:Nat) (bI:I) (bu:Value),bH[j]?=some bI→v.cells[j]?=some bu→Rel J S w bI bu:=by
   intro fI ae ad;subst fI;rw [ae];refine ⟨rfl,by simp [ad],fun j bI bu aw ee=>?_⟩;cases j with
   | zero=>simp at aw ee;subst aw ee;exact aj
   | succ j=>simp at aw
  cases aj with
  | agg as vs h p one r =>
    simp [I.cells] at ao;subst ao;exact ⟨h,one,r⟩
  | junk v=>simp [I.cells] at ao
  | tuple as vs h p r=>simp [I.cells] at ao
  | raw=>simp [I.cells] at ao
  | _=>simp [I.cells] at ao;exact single ao.symm rfl rfl
 obtain ⟨bR,en,c'⟩:=Ch
 let S':Nat→Nat→Prop:=fun b o=>S b o∨(b=w.heap.size∧o<bH.length)
 have hnew:(w.alloc (.cells v.cells e)).heap[w.heap.size]?=some (.cells v.cells e (0,0)):=heap_alloc_new w _;have bx:∀ o,(w.alloc (.cells v.cells e)).cell? ⟨w.heap.size,o,none⟩=v.cells[o]?:=fun o=>cell_of_row _ _ o v.cells e (0,0) hnew;have hold:∀ b o,S b o→(w.alloc (.cells v.cells e)).cell? ⟨b,o,none⟩=w.cell? ⟨b,o,none⟩:=fun b o ai=>by
  obtain ⟨x,al⟩:=ah.ch b o ai;exact oH _ (mv al)
 have aA:bh U S w U S' (w.alloc (.cells v.cells e)):=by
  refine ⟨rfl,rfl,rfl,by simp,fun b ag _=>heap_alloc_old w _ b ag,fun b o ai=>⟨.inl ai,hold b o ai⟩,fun b o ai=>?_,fun b ag=>.inl ag⟩;rcases ai with ai | ⟨rfl,_⟩
  ·exact .inl ai
  ·exact .inr (.inr (rX _))
 refine ⟨.pointer (some ⟨w.heap.size,0,none⟩),w.alloc (.cells v.cells e),by simp [Instr.box,newVar,newRow,newObj,Sem.run,World.alloc_eq],U,J,S',Ext.refl J,aA,ah.frame aA (fun b l ag _=>?_) (fun b o ai=>?_) (fun b l ag=>?_),
  .bW _ _ _ (fun j=>v.cells.getD j undef) (fun j bI aw=>?_) (fun j bI aw=>?_),aW.b5 rfl⟩
 ·have aV:=(ah.base b l ag).2;exact ⟨ag,heap_alloc_old w _ b aV,fun o ai=>ai.resolve_right fun h=>by omega⟩
 ·rcases ai with ai | ⟨rfl,aq⟩
  ·obtain ⟨x,al⟩:=ah.ch b o ai;exact ⟨x,(hold b o ai).trans al⟩
  ·exact ⟨_,(bx o).trans (sv (by omega))⟩
 ·have:=ah.base b l ag;exact ⟨this.1,by simp;omega⟩
 ·have aV:=(rV.1 aw).1;have ee:v.cells[j]?=some (v.cells.getD j undef):=by simp [Array.getD,bR,aV]
  rw [sP];exact ⟨.inr ⟨rfl,aV⟩,(bx j).trans ee,aC bI (sA aw),en _ (by simpa using vv ee)⟩
 ·have aV:=(rV.1 aw).1;have ee:v.cells[j]?=some (v.cells.getD j undef):=by simp [Array.getD,bR,aV]
  exact (c' j bI _ aw ee).mono (Ext.refl J) aA.set
theorem FZ {t:TypeId} {z:List I} (h:zeroCells P t=some z):∃ i v,P.info? t=some i∧i.zero=some v∧z=v.cells.toList.map hp∧∀ x∈v.cells.toList,x.oneCell'=true:=by
 simp only [zeroCells,sb] at h;obtain ⟨v,⟨i,hi,ae⟩,h⟩:=h;split at h
 ·rename_i c';simp at h;exact ⟨i,v,hi,ae,h.symm,ss.1 c'⟩
 ·simp at h
theorem hO {t:TypeId} {z:List I} (h:zeroCells P t=some z):∃ i v,P.info? t=some i∧i.zero=some v∧c5 J S w z v.cells.toList:=by
 obtain ⟨i,v,hi,ae,rfl,en⟩:=FZ h;refine ⟨i,v,hi,ae,by simp,fun j u bu hu bd=>?_⟩;simp only [sm,bd,sc,Option.some.injEq] at hu;subst hu;exact ⟨m1 _,en bu (sA bd),lv _ _ _ _⟩
theorem j5 {t:TypeId} {i:TypeInfo} {v:Value} (hi:P.info? t=some i) (ae:i.zero=some v):(zeroValue t).run P w=.ok v w:=by
 simp [zeroValue,typeInfo,hi,ae]
theorem E4 (ah:aL B U J S w H) {t:TypeId} {z:List I} (bo:zeroCells P t=some z) (fL:Value) :
  ∃ x w',(Instr.alloc t true fL).run P w=.ok x w'∧a2 B U J S w (H++[.cells z]) (.ptr H.length 0) x w':=by
 obtain ⟨i,v,hi,ae,ao⟩:=hO (J:=J) (S:=S) (w:=w) bo
 obtain ⟨az,aA,cf⟩:=nP (cs:=z) (vs:=v.cells) ah .res (by simp) (by simp) t (by have:=ao.len;simp at this;omega) (fun j u bu hu bd=>by
  obtain ⟨a,b,c⟩:=ao.rel j u bu hu (by simpa using bd)
  exact ⟨I.ga a,b,c,.inl a⟩)
 refine ⟨.pointer (some ⟨w.heap.size,0,none⟩),w.alloc (.cells v.cells t),?_,az,_,S,Ext.append J _,aA,cf,.ptr _ _ _ (Ext.last ah _),aW.b5 rfl⟩;cases fL <;> simp [Instr.alloc,j5 hi ae,newVar,newRow,newObj,Sem.run,World.alloc_eq]
theorem E5 (ah:aL B U J S w H) {t:TypeId} {s:Nat} (bo:zeroCells P t=some [.ay [] 0 .full]) (fL:Value) :
  ∃ x w',(Instr.alloc t true fL).run P w=.ok x w'∧a2 B U J S w (H++[.cells [.ay [] 0 (.own s)]]) (.ptr H.length 0) x w':=by
 obtain ⟨i,v,hi,ae,ao⟩:=hO (J:=J) (S:=S) (w:=w) bo
 obtain ⟨az,aA,cf⟩:=nP (cs:=[.ay [] 0 (.own s)]) (vs:=v.cells) ah .res (by simp) (by simp) t (by have:=ao.len;simp at this;simp;omega) (fun j u bu hu bd=>by
  cases j with
  | succ j=>simp at hu
  | zero =>
    simp at hu;subst hu;obtain ⟨a,b,c⟩:=ao.rel 0 _ bu rfl (by simpa using bd);refine ⟨rfl,b,?_,.inr ⟨rfl,?_⟩⟩
    ·cases c with
     | b3 _ a=>exact .b3 _ a
     | ay _ _ _ bq o cap f ao hle hu h aj=>exact .ay _ _ _ bq o cap f (fun h=>by cases h) hle (fun z h=>by cases h) h aj
    ·cases c with
     | b3 _ a=>cases a with
       | none=>trivial
       | some a=>exact .inl ⟨rfl,rfl,rfl⟩
     | ay _ _ _ b o cap f ao hle hu h aj=>exact .inl ⟨rfl,ao rfl,rfl⟩)
 refine ⟨.pointer (some ⟨w.heap.size,0,none⟩),w.alloc (.cells v.cells t),?_,az,_,S,Ext.append J _,aA,cf,.ptr _ _ _ (Ext.last ah _),aW.b5 rfl⟩;cases fL <;> simp [Instr.alloc,j5 hi ae,newVar,newRow,newObj,Sem.run,World.alloc_eq]
theorem ij (z:List I):∀ n,(eZ n z).length=n*z.length
 | 0=>by simp [eZ]
 | n+1=>by simp [eZ,ij z n,Nat.succ_mul,td]
theorem z8 (z:List I):∀ (n j:Nat),j<n*z.length→(eZ n z)[j]?=z[j % z.length]?
 | 0,j,h=>by simp at h
 | n+1,j,h=>by
   simp only [eZ];rcases sO j z.length with aw | aw
   ·rw [se aw,Nat.mod_eq_of_lt aw]
   ·rw [sB aw,z8 z n _ (by rw [Nat.succ_mul] at h;omega),Nat.mod_eq_sub_mod aw]
theorem mT {z:List I} {gj:Array Value} (h:c5 J S w z gj.toList) (bo:0<z.length) (n:Nat) :
  c5 J S w (eZ n z) ((Array.range (n*z.length)).map (fun i=>gj[i % gj.size]!)).toList:=by
 have ak:z.length=gj.size:=by simpa using h.len
 refine ⟨by simp [ij],fun j u v hu ae=>?_⟩;have aw:j<n*z.length:=by have:=(rV.1 hu).1;rwa [ij] at this
 rw [z8 z n j aw] at hu;have hm:j % z.length<z.length:=Nat.mod_lt _ bo;refine h.rel (j % z.length) u v hu ?_;simp [aw] at ae;rw [←ak] at ae;have nr:j % z.length<gj.size:=ak ▸ hm;rw [getElem!_pos gj _ nr] at ae;simp [nr,ae]
theorem ik {n bytes:Nat} (h:fr n bytes=true):n*bytes≤140737488355328∧1≤bytes:=by
 simpa [fr] using h
theorem Fl (ah:aL B U J S w H) {t:TypeId} {n c:Int} {k k':IntKind} {z:List I} {sz:Nat} (aT:0≤n) (iN:n≤c) (bo:jh P t c.toNat=some (z,sz)) :
  ∃ x w',(Instr.makeSlice t (.int k n) (.int k' c)).run P w=.ok x w'∧a2 B U J S w (H++[.cells z]) (.ref H.length 0 n.toNat (some c.toNat) sz) x w':=by
 unfold jh at bo;split at bo
 ·rename_i e he;split at bo
  ·rename_i s lh bytes ai pO ag;split at bo
   ·rename_i ao;obtain ⟨jC,hZ,o9⟩:=ao;simp only [Option.some.injEq,Prod.mk.injEq] at bo;obtain ⟨rfl,rfl⟩:=bo;obtain ⟨i,v,hi,ae,eB⟩:=hO (J:=J) (S:=S) (w:=w) pO;simp only [hi,sc,Option.some.injEq] at ag;subst ag;obtain ⟨aS,bk⟩:=ik o9;have fJ:=mT eB (by omega) c.toNat;have pa:c.toNat≤140737488355328:=sJ (tZ _ bk) aS;(have ep:lh.length=v.cells.size:=by simpa using eB.len);(have bR:i.size=s:=by obtain ⟨nB,hi',h⟩:=mR ai;rw [hi] at hi';cases hi';exact h);have lR:(i.bytes:Int)*c≤281474976710656:=by
     have:(i.bytes:Int)*c=((c.toNat*i.bytes:Nat):Int):=by rw [uZ,tK (by omega),Int.mul_comm]
     rw [this];omega
    have dM:=run_make (P:=P) w t e i v he hi ae k k' n c aT iN lR (by omega);have pw:(madeCells v.cells (c.toNat*i.size)).toList=((Array.range (c.toNat*lh.length)).map (fun i=>v.cells[i % v.cells.size]!)).toList:=by
     rw [bR,←jC];rfl
    rw [←pw] at fJ
    obtain ⟨az,aA,cf⟩:=nP (cs:=eZ c.toNat lh) (vs:=madeCells v.cells (c.toNat*i.size)) ah .res (by simp) (by simp) e (by have:=fJ.len;simp at this ⊢;omega) (fun j u bu hu bd=>by
     obtain ⟨a,b,c⟩:=fJ.rel j u bu hu (by simpa using bd)
     exact ⟨I.ga a,b,c,.inl a⟩)
    exact ⟨_,_,dM,az,_,S,Ext.append J _,aA,cf,.ref _ _ _ _ _ _ _ (Ext.last ah _) (fun m hm=>by simpa using hm) (by omega),aW.b5 rfl⟩
   ·simp at bo
  ·simp at bo
 ·simp at bo
theorem Fm (ah:aL B U J S w H) {t:TypeId} {c:Int} {k k':IntKind} {z:List I} {sz:Nat} (aT:0≤c) (bo:jh P t c.toNat=some (z,sz)) :
  ∃ x w',(Instr.makeSlice t (.int k c) (.int k' c)).run P w=.ok x w'∧a2 B U J S w H (.ay z c.toNat (.uniq sz)) x w':=by
 unfold jh at bo;split at bo
 ·rename_i e he;split at bo
  ·rename_i s lh bytes ai pO ag;split at bo
   ·rename_i ao;obtain ⟨jC,hZ,o9⟩:=ao;simp only [Option.some.injEq,Prod.mk.injEq] at bo;obtain ⟨rfl,rfl⟩:=bo;obtain ⟨i,v,hi,ae,eB⟩:=hO (J:=J) (S:=S) (w:=w) pO;simp only [hi,sc,Option.some.injEq] at ag;subst ag;obtain ⟨aS,bk⟩:=ik o9;have fJ:=mT eB (by omega) c.toNat;have pa:c.toNat≤140737488355328:=sJ (tZ _ bk) aS;(have ep:lh.length=v.cells.size:=by simpa using eB.len);(have bR:i.size=s:=by obtain ⟨nB,hi',h⟩:=mR ai;rw [hi] at hi';cases hi';exact h);have lR:(i.bytes:Int)*c≤281474976710656:=by
     have:(i.bytes:Int)*c=((c.toNat*i.bytes:Nat):Int):=by rw [uZ,tK (by omega),Int.mul_comm]
     rw [this];omega
    have dM:=run_make (P:=P) w t e i v he hi ae k k' c c (by omega) (Int.le_refl _) lR (by omega);have pw:(madeCells v.cells (c.toNat*i.size)).toList=((Array.range (c.toNat*lh.length)).map (fun i=>v.cells[i % v.cells.size]!)).toList:=by
     rw [bR,←jC];rfl
    rw [←pw] at fJ;have iO:=nQ ah fJ [] e c.toNat c.toNat s hZ (by rw [ij,jC]) (rX _) (by simp only [maxLen];omega) (by rw [←fJ.len,ij,jC];simp);simp only [sV,t_] at iO;exact ⟨_,_,dM,iO⟩
   ·simp at bo
  ·simp at bo
 ·simp at bo
end
end Go.Proofs.YtfakoboiahbhaaaGreat.Ab


namespace Go.Proofs.YtfakoboiahbhaaaGreat.Ab
open Go
section
variable {P:Program} {B:Nat} {J:List Nat} {w:World} {H:List au} {U:Nat→Option aI} {S:Nat→Nat→Prop}
theorem mO:∀ (vs:List I) (off:Nat) (cs:List I),(setCells off vs cs).length=cs.length
 | [],_,_=>rfl
 | v::vs,off,cs=>by simp [setCells,mO vs]
theorem n':∀ (vs:List I) (off:Nat) (cs:List I) (j:Nat),off+vs.length≤cs.length →
  (setCells off vs cs)[j]?=if off≤j∧j<off+vs.length then vs[j-off]? else cs[j]?
 | [],off,cs,j,_=>by simp [setCells];omega
 | v::vs,off,cs,j,h=>by
   simp only [sD] at h;rw [setCells,n' vs (off+1) _ j (by simp;omega)];by_cases ad:j=off
   ·subst ad
    have:¬ (j+1≤j∧j<j+1+vs.length):=by omega
    rw [if_neg this,if_pos (by simp)];simp [show j<cs.length by omega]
   ·by_cases af:off+1≤j∧j<off+1+vs.length
    ·rw [if_pos af,if_pos (by simp;omega)];obtain ⟨k,rfl⟩:∃ k,j=off+1+k:=⟨j-(off+1),by omega⟩;rw [show off+1+k-off=k+1 by omega,show off+1+k-(off+1)=k by omega];simp
    ·rw [if_neg af,if_neg (by simp;omega)];rw [sa (fun e=>ad e.symm)]
theorem j6 (cur vs:List Value) (off j:Nat) (h:off+vs.length≤cur.length) :
  (cur.take off++vs++cur.drop (off+vs.length))[j]?=if off≤j∧j<off+vs.length then vs[j-off]? else cur[j]?:=by
 have ax:(cur.take off).length=off:=by simp;omega
 by_cases ad:j<off
 ·rw [if_neg (by omega),sy,se (by omega),sR,if_pos ad]
 ·by_cases af:j<off+vs.length
  ·rw [if_pos ⟨by omega,af⟩,sy,sB (by omega),ax,se (by omega)]
  ·rw [if_neg (by omega),sB (by simp;omega)];simp only [sj,ax,sY];congr 1;omega
theorem xg (ah:aL B U J S w H) {id:Nat} {l l':List I} (aE:H[id]?=some (.cells l)) {b:Nat} {cur cur':Array Value} {e:TypeId} (aB:J[id]?=some b) (aH:U b=some (.obj id))
  (aR:w.heap[b]?=some (.cells cur e (0,0))) (bc:∀ o,¬ S b o) (L:aI) (cc:∀ id,L≠.obj id) (cq:∀ id j,L≠.cell id j) (ak:l'.length≤cur'.size) (y9:Nat)
  (ao:∀ (j:Nat) (u:I) (v:Value),l'[j]?=some u→cur'[j]?=some v→u.cV=true∧v.oneCell'=true∧Rel J S w u v ∧
   (u.plain=true∨aW U J S w (.cell id j) u v∨(j=y9∧aW U J S w L u v))) :
  ∃ az,bh U S w az S (w.setRow b cur')∧aL B az J S (w.setRow b cur') (H.set id (.cells l')):=by
 classical
 let az:Nat→Option aI:=fun ar=>if U ar=some L then some (.cell id y9) else U ar
 have bx:∀ ar o,ar≠b→(w.setRow b cur').cell? ⟨ar,o,none⟩=w.cell? ⟨ar,o,none⟩:=fun ar o h=>by
  unfold World.cell?;simp only [setRow_other w b ar cur' h]
 have hs:∀ ar o,S ar o→ar≠b:=fun ar o ai e=>bc o (e ▸ ai);have yw:L≠.obj id:=cc id;have ps:∀ ar cx,U ar=some cx→cx≠L→az ar=some cx:=fun ar cx h aN=>by
  have:¬ U ar=some L:=by rw [h];intro e;cases e;exact aN rfl
  simp [az,h,aN]
 have bR:(w.setRow b cur').heap.size=w.heap.size:=by simp [World.setRow]
 have aA:bh U S w az S (w.setRow b cur'):=by
  refine ⟨rfl,rfl,rfl,by omega,fun ar br aN=>setRow_other w b ar cur' (fun e=>by subst e;rw [aH] at aN;cases aN),fun ar o ai=>⟨ai,bx ar o (hs ar o ai)⟩,fun ar o ai=>.inl ai,fun ar br=>?_⟩;refine .inl fun aT=>br ?_;simp [az,aT]
 refine ⟨az,aA,by simpa using ah.cG,fun bA o aq=>?_,fun ar o ai=>?_,fun ar cx br=>?_,by rw [bR];exact ah.cZ⟩
 ·by_cases gY:bA=id
  ·subst gY;rw [rY (rV.1 aE).1] at aq;cases aq;refine ⟨b,cur',e,aB,ps b _ aH (fun e=>yw e.symm),setRow_heap w b cur cur' e (0,0) aR,ak,bc,fun j u v hu ae=>?_⟩;obtain ⟨ba,bm,bt,b9⟩:=ao j u v hu ae;refine ⟨ba,bm,bt.mono (Ext.refl J) aA.set,?_⟩;rcases b9 with b9 | b9 | ⟨rfl,b9⟩
   ·exact aW.b5 b9
   ·exact b9.mono (Ext.refl J) aA.set fun ar br=>⟨ps ar _ br (fun e=>cq _ _ e.symm),setRow_other w b ar cur' (fun e=>by subst e;rw [aH] at br;cases br),fun o ai=>ai⟩
   ·exact b9.mono (Ext.refl J) aA.set fun ar br=>⟨by simp [az,br],setRow_other w b ar cur' (fun e=>by subst e;rw [aH] at br;cases br;exact yw rfl),fun o ai=>ai⟩
  ·rw [sa (fun e=>gY e.symm)] at aq;refine (ah.obj bA o aq).frame (Ext.refl J) aA.set fun ar cx br jH=>?_;have bO:ar≠b:=fun e=>by
    subst e;rw [aH] at br;cases br;rcases jH with h | ⟨j,h⟩
    ·cases h;exact gY rfl
    ·cases h
   exact ⟨ps ar cx br (by rcases jH with rfl | ⟨j,rfl⟩ <;> intro e <;> first | exact cc _ e.symm | exact cq _ _ e.symm),setRow_other w b ar cur' bO,fun o ai=>ai⟩
 ·obtain ⟨v,ae⟩:=ah.ch ar o ai;exact ⟨v,(bx ar o (hs ar o ai)).trans ae⟩
 ·rw [bR];by_cases h:U ar=some L
  ·exact ah.base ar L h
  ·simp only [az,h,if_false] at br;exact ah.base ar cx br
theorem Fw (ah:aL B U J S w H) {l:aI} (cc:∀ id,l≠.obj id) (cq:∀ id j,l≠.cell id j) {lo:Nat} {t:TypeId} {a u:I} {x v:Value} {H':List au} (h:iB P lo H t a u=some H')
  (cg:Rel J S w a x) (aj:Rel J S w u v) (aq:aW U J S w l u v) (y:Value) :
  ∃ w',(Instr.storeAt t x v).run P w=.ok () w'∧a2 B U J S w H' .junk y w':=by
 have key:∀ {H H':List au} (_:aL B U J S w H) {id off s:Nat} (_:bU P t=some s) {bH:List I} (_:u.cells=some bH) {ll l':List I} (_:H[id]?=some (.cells ll))
   (_:(if bH.length=s∧off+s≤ll.length then some (setCells off (bH.map I.settle) ll) else none)=some l') (_:Rel J S w (.ptr id off) x) (_:H'=H.set id (.cells l')),
   ∃ w' b cur,(Instr.storeAt t x v).run P w=.ok () w'∧a2 B U J S w H' .junk y w'∧J[id]?=some b∧(∃ e,w.heap[b]?=some (.cells cur e (0,0)))∧∃ cur' e,w'.heap[b]?=some (.cells cur' e (0,0))∧cur'.size=cur.size:=by
  intro H H' ah id off s ai bH fI ll l' aE dA cg cf;subst cf
  ·
     split at dA
     ·rename_i gX;obtain ⟨ba,bm⟩:=gX;simp only [Option.some.injEq] at dA;subst dA;obtain ⟨S',aJ,aP,cf,bR,en,c'⟩:=yd ah cc cq fI aj aq;obtain ⟨b,cur,e,aB,aH,aR,bl,bc,bg⟩:=cf.obj id _ aE;cases cg with
      | ptr id off ar ag =>
        rw [aB] at ag;cases ag;have cL:=run_storeCells_at P b off e v.cells.toList 0 cur w aR (by simp [bR];omega) en;simp only [tJ] at cL;obtain ⟨az,aA,lN⟩:=xg (cur':=(cur.toList.take off++v.cells.toList++cur.toList.drop (off+v.cells.toList.length)).toArray) (l':=setCells off (bH.map I.settle) ll) cf aE aB aH aR bc l cc cq
         (by simp [mO,bR];omega) off (fun j bI bu hu ae=>by
          rw [n' _ _ _ _ (by simp;omega)] at hu;(have ae:(cur.toList.take off++v.cells.toList++cur.toList.drop (off+v.cells.toList.length))[j]?=some bu:=by simpa using ae);rw [j6 _ _ _ _ (by simp [bR];omega)] at ae;simp only [List.length_map,tt,bR] at hu ae;split at hu
          ·rename_i aw;rw [if_pos aw] at ae;obtain ⟨d1,d2,d3⟩:=c' (j-off) bI bu hu (by simpa using ae);refine ⟨d1,en bu (sA ae),d2,?_⟩;rcases d3 with d3 | ⟨d3,_,d4⟩
           ·exact .inl d3
           ·exact .inr (.inr ⟨by omega,d4⟩)
          ·rename_i aw;rw [if_neg aw] at ae;obtain ⟨d1,d0,d2,d3⟩:=bg j bI bu hu (by simpa using ae)
           exact ⟨d1,d0,d2,.inr (.inl d3)⟩)
        refine ⟨_,b,cur,?_,⟨az,J,S',Ext.refl J,(bh.settle aJ (fun b o h=>(aP b o h).imp (fun h=>h) fun h=>⟨_,h⟩)).trans aA,lN,.junk y,aW.b5 rfl⟩,aB,⟨e,aR⟩,_,e,setRow_heap w b cur _ e (0,0) aR,?_⟩
        ·simp only [Instr.storeAt,Instr.sureAddr,storeVar,Sem.run_bind,Sem.run_pure,Result.andThen_ok,run_sizeOf ai];rw [if_neg (by rw [bR,ba];simp)];exact cL
        ·simp [bR];omega
     ·simp at dA
 unfold iB at h;split at h
 ·rename_i id off s ai;split at h
  ·rename_i bH fI;unfold g_ at h;split at h
   ·split at h
    ·rename_i lo' ll aE;simp only [rU] at h;obtain ⟨l',dA,rfl⟩:=h;obtain ⟨w',_,_,q1,aX,_⟩:=key ah ai fI aE dA cg rfl;exact ⟨w',q1,aX⟩
    ·rename_i lo' ll g z aE;simp only [rU] at h;obtain ⟨l',dA,rfl⟩:=h;have aV:=(rV.1 aE).1;obtain ⟨b,cur,e,aB,aH,aR,bl,bc,bg,cap,c2,db,dE,fw⟩:=ah.obj id _ aE;obtain ⟨w',ar,BP,q1,⟨az,b1,S',bT,b6,eD,fM⟩,cB,⟨fT,dQ⟩,cur',cO,mI,xl⟩:=key (ah.oi aE) ai fI (ll:=ll) (by rw [rY aV]) dA cg rfl;rw [aB] at cB;cases cB;rw [aR] at dQ;cases dQ;have aO:=eD.xq (g:=g) (z:=z) (by rw [rY (by simpa using aV)]) (bT _ _ aB) (bT _ _ c2) db dE mI (by rw [xl,fw]);rw [rZ,rZ] at aO;exact ⟨w',q1,az,b1,S',bT,b6,aO,fM⟩
    ·simp at h
   ·simp at h
  ·simp at h
 ·simp at h
theorem Fx (ah:aL B U J S w H) {l:aI} (cc:∀ id,l≠.obj id) (cq:∀ id j,l≠.cell id j) {lo:Nat} {t:TypeId} {a u:I} {x v:Value} {H':List au} (h:lu P lo H t a u=some H')
  (cg:Rel J S w a x) (aj:Rel J S w u v) (aq:aW U J S w l u v) (y:Value) :
  ∃ w',(Instr.storeAt t x v).run P w=.ok () w'∧a2 B U J S w H' .junk y w':=by
 unfold lu at h;split at h
 ·rename_i id off c n z ai;split at h
  ·rename_i ao;obtain ⟨aS,bk⟩:=FK ao.2 ao.1 aj aq;unfold g9 at h;split at h
   ·split at h
    ·rename_i lo' ll aE;simp only [rU] at h;obtain ⟨l',dA,rfl⟩:=h;split at dA
     ·rename_i cY;simp only [Option.some.injEq] at dA;subst dA;obtain ⟨b,cur,e,aB,aH,aR,bl,bc,bg⟩:=ah.obj id _ aE;cases cg with
      | ptr id off ar ag =>
        rw [aB] at ag;cases ag;(have en:∃ b o cap,v=.slice (some ⟨b,o,none⟩) n cap:=by cases aS with | raw _ _ _ b o cap=>exact ⟨b,o,cap,rfl⟩);(have d':v.cells=#[v]∧v.oneCell'=true:=by obtain ⟨b,o,cap,rfl⟩:=en;exact ⟨rfl,rfl⟩);have cL:=run_storeCells_at P b off e v.cells.toList 0 cur w aR (by rw [d'.1];simp;omega) (by rw [d'.1];simp [d'.2]);simp only [tJ,d'.1] at cL;obtain ⟨az,aA,lN⟩:=xg (cur':=(cur.toList.take off++[v]++cur.toList.drop (off+1)).toArray) (l':=ll.set off (.raw c n z)) ah aE aB aH aR bc l cc cq
         (by simp;omega) off (fun j bI bu hu ae=>by
          (have ae:(cur.toList.take off++[v]++cur.toList.drop (off+1))[j]?=some bu:=by simpa using ae);have dB:=j6 cur.toList [v] off j (by simp;omega);simp only [List.length_singleton] at dB;rw [dB] at ae;by_cases aw:off=j
          ·subst aw;rw [rY cY] at hu;cases hu;rw [if_pos ⟨by omega,by omega⟩] at ae;simp at ae;subst ae;exact ⟨rfl,d'.2,aS,.inr (.inr ⟨rfl,bk⟩)⟩
          ·rw [sa aw] at hu;rw [if_neg (by omega)] at ae;obtain ⟨d1,d0,d2,d3⟩:=bg j bI bu hu (by simpa using ae)
           exact ⟨d1,d0,d2,.inr (.inl d3)⟩)
        refine ⟨_,?_,az,J,S,Ext.refl J,aA,lN,.junk y,aW.b5 rfl⟩;simp only [Instr.storeAt,Instr.sureAddr,storeVar,Sem.run_bind,Sem.run_pure,Result.andThen_ok,run_sizeOf ai];rw [if_neg (by rw [d'.1];simp),d'.1];exact cL
     ·simp at dA
    ·simp at h
   ·simp at h
  ·simp at h
 ·simp at h
theorem ih (ah:aL B U J S w H) {l:aI} (cc:∀ id,l≠.obj id) (cq:∀ id j,l≠.cell id j) {u:I} {v:Value} (aj:Rel J S w u v) (aq:aW U J S w l u v) :
  a2 B U J S w H u v w:=by
 classical
 let az:Nat→Option aI:=fun b=>if U b=some l then some .res else U b
 have aA:bh U S w az S w:=⟨rfl,rfl,rfl,rX _,fun _ _ _=>rfl,fun _ _ h=>⟨h,rfl⟩,fun _ _ h=>.inl h,fun b ag=>.inl fun aT=>ag (by simp [az,aT])⟩;refine ⟨az,J,S,Ext.refl J,aA,ah.frame aA (fun b l' ag ak=>?_) ah.ch (fun b l' ag=>?_),aj,aq.mono (Ext.refl J) aA.set fun b ag=>⟨by simp [az,ag],rfl,fun _ h=>h⟩⟩
 ·have bO:l'≠l:=by rcases ak with ⟨id,rfl⟩ | ⟨id,j,rfl⟩ <;> intro e <;> first | exact cc _ e.symm | exact cq _ _ e.symm
  exact ⟨by simp [az,ag,bO],rfl,fun _ h=>h⟩
 ·by_cases h:U b=some l
  ·exact ah.base b l h
  ·simp only [az,h,if_false] at ag;exact ah.base b l' ag
theorem zN (ah:aL B U J S w H) {l:aI} (cc:∀ id,l≠.obj id) (cq:∀ id j,l≠.cell id j) {cells:List I} {len z:Nat} (aT:len≠0) {v:Value}
  (aj:Rel J S w (.ay cells len (.uniq z)) v) (aq:aW U J S w l (.ay cells len (.uniq z)) v) :
  a2 B U J S w (H++[.cells cells]) (.ref H.length 0 len none z) v w:=by
 classical
 cases aj with
 | b3 c a=>exact absurd rfl aT
 | ay cells len c b o cap f ao hle hu h fo=>exact absurd rfl (hu z)
 | cM cells len z b o cap =>
   rcases aq with ⟨rfl,_,_⟩ | ⟨ad,aq,af,aG,a7,bN,⟨cur,e,bX,cP,cT⟩,cX⟩
   ·exact absurd rfl aT
   ·simp only at ad bX cX aq;subst aq
    let az:Nat→Option aI:=fun ar=>if ar=b then some (.obj H.length) else U ar
    have aA:bh U S w az S w:=⟨rfl,rfl,rfl,rX _,fun _ _ _=>rfl,fun _ _ h=>⟨h,rfl⟩,fun _ _ h=>.inl h,fun ar ag=>by
     by_cases dG:ar=b
     ·subst dG;exact .inl (by simp [ad])
     ·simp only [az,dG,if_false] at ag;exact .inl ag⟩
    have bY:aL B az J S w H:=by
     refine ah.frame aA (fun ar l' ag ak=>?_) ah.ch (fun ar l' ag=>?_)
     ·have bO:ar≠b:=fun e=>by
       subst e;rw [ad] at ag;cases ag;rcases ak with ⟨id,h⟩ | ⟨id,j,h⟩
       ·exact cc _ h
       ·exact cq _ _ h
      exact ⟨by simp [az,bO,ag],rfl,fun _ h=>h⟩
     ·by_cases dG:ar=b
      ·subst dG;exact ah.base _ l ad
      ·simp only [az,dG,if_false] at ag;exact ah.base ar l' ag
    refine ⟨az,_,S,Ext.append J [b],aA,bY.push b ⟨b,cur,e,Ext.last ah _,by simp [az],bX,by rw [cP,bN];exact tj _ af,cX,fun j u v hu ae=>?_⟩,
     .ref _ _ _ _ _ b _ (Ext.last ah _) (by simp) af,aW.b5 rfl⟩
    obtain ⟨ba,bm,bt⟩:=cT j u v hu ae;exact ⟨I.ga ba,bm,bt.mono (Ext.append J _) aA.set,aW.b5 ba⟩
theorem xF (ah:aL B U J S w H) {u:I} {v:Value} {row:List I} (h:rowOf H u=some row) (aj:Rel J S w u v) (aN:u.cV=true) :
  (row=[]∧∃ a c,v=.slice a 0 c)∨∃ b o n c vs,v=.slice (some ⟨b,o,none⟩) n c∧c5 J S w row vs∧(∀ j x,vs[j]?=some x→w.cell? ⟨b,o+j,none⟩=some x):=by
 unfold rowOf at h;split at h
 ·rename_i cells len c;simp at h;subst h;cases aj with
  | b3 c a=>exact .inl ⟨rfl,a,_,rfl⟩
  | cM=>simp [I.cV] at aN
  | ay _ _ _ b o cap f ao hle hu bx b' =>
    refine .inr ⟨b,o,len,cap,(List.range cells.length).map f,rfl,⟨by simp,fun j u v ca bd=>?_⟩,fun j x al=>?_⟩
    ·have aw:=(rV.1 ca).1;simp [aw] at bd;subst bd;exact ⟨(bx j u ca).2.2.1,(bx j u ca).2.2.2,b' j u ca⟩
    ·simp only [sm,rU] at al;obtain ⟨k,av,rfl⟩:=al;(have aw:j<cells.length:=by have:=(rV.1 av).1;simpa using this);simp [aw] at av;subst av;exact (bx j _ (sd aw)).2.1
 ·rename_i id off len cap sz;split at h
  ·rename_i l aE;split at h
   ·rename_i hle;simp only [Option.some.injEq] at h;subst h;obtain ⟨b,cur,e,aB,aH,aR,bl,bc,bg⟩:=ah.obj id _ aE;cases aj with
    | ref id off len c sz ar cap' ag ao CH =>
      rw [aB] at ag;cases ag;refine .inr ⟨b,off,len,cap',(cur.toList.drop off).take (len*sz),rfl,⟨by simp;omega,fun j u v ca bd=>?_⟩,fun j x al=>?_⟩
      ·simp only [sm,rU] at ca;obtain ⟨y,a1,rfl⟩:=ca;rw [sR] at a1 bd;split at a1
       ·rename_i aw;rw [if_pos aw] at bd;rw [sY] at a1 bd;obtain ⟨d1,d0,d2,_⟩:=bg (off+j) y v a1 (by simpa using bd);exact ⟨I.dh y,d0,d2.view d1⟩
       ·simp at a1
      ·rw [sR] at al;split at al
       ·rw [sY] at al;rw [cell_of_row w b _ cur e (0,0) aR];simpa using al
       ·simp at al
   ·simp at h
  ·simp at h
 ·simp at h
theorem mr {u:I} {v:Value} {n:Nat} (h:lenOf u=some n) (aj:Rel J S w u v):∃ a c,v=.slice a n c:=by
 unfold lenOf at h;split at h
 ·simp at h;subst h;cases aj with
  | b3 c a=>exact ⟨_,_,rfl⟩
  | ay=>exact ⟨_,_,rfl⟩
  | cM=>exact ⟨_,_,rfl⟩
 ·simp at h;subst h;cases aj with
  | ref=>exact ⟨_,_,rfl⟩
 ·simp at h
end
end Go.Proofs.YtfakoboiahbhaaaGreat.Ab


namespace Go.Proofs.YtfakoboiahbhaaaGreat.Ab
open Go
section
variable {P:Program} {B:Nat} {J:List Nat} {w:World} {H:List au} {U:Nat→Option aI} {S:Nat→Nat→Prop}
theorem a2.after {b4:Nat→Option aI} {cS:List Nat} {a5:Nat→Nat→Prop} {bE:World} (bM:Ext J cS) (aA:bh U S w b4 a5 bE) {H':List au} {r:I} {v:Value} {w':World} (h:a2 B b4 cS a5 bE H' r v w'):a2 B U J S w H' r v w':=by
 obtain ⟨az,b1,S',a,b,c,d,e⟩:=h;exact ⟨az,b1,S',bM.trans a,aA.trans b,c,d,e⟩
theorem a2.settle {cells:List I} {len z:Nat} {v:Value} {w':World} {H':List au} (h:a2 B U J S w H' (.ay cells len (.uniq z)) v w'):a2 B U J S w H' (.ay cells len (.own z)) v w':=by
 obtain ⟨az,b1,S',a,b,c,d,e⟩:=h;obtain ⟨a5,aJ,aP,cl,aS,bk,eE⟩:=j8 c d e;exact ⟨az,b1,a5,a,b.trans (bh.settle aJ fun b o h=>(aP b o h).imp (fun h=>h) fun h=>⟨_,h⟩),c.settle aJ (fun b o h=>(aP b o h).imp (fun h=>h) fun h=>⟨_,h,by simp,by simp⟩) cl,bk,eE⟩
theorem Aw (t ty e:TypeId) (i:TypeInfo) (ax:P.underlying t=some (.slice e)) (hi:P.info? e=some i) (base:Option Addr) (eG hh:Nat) (hle:eG≤hh) (a:Option Addr) (c:Nat) :
  (Builtin.append_ #[t,t] ty #[.slice base eG hh,.slice a 0 c]).run P w=.ok (.slice base eG hh) w:=by
 cases a <;> cases base <;> simp [Builtin.append_,run_underlying ax,sizeOf,typeInfo,hi,Builtin.lenOf,hle,Builtin.firstCells,loadCells,loadCellsFrom,storeCells]
theorem Av (w:World) (t ty e:TypeId) (i:TypeInfo) (ax:P.underlying t=some (.slice e)) (hi:P.info? e=some i)
  (g eG hh:Nat) (cur:Array Value) (ce:TypeId) (aO:w.heap[g]?=some (.cells cur ce (0,0)))
  (a:Addr) (m c:Nat) (news:List Value) (ak:news.length=m*i.size) (pB:∀ j u,news[j]?=some u→w.cell? (a.add j)=some u) (ad:∀ u∈news,u.oneCell'=true)
  (eo:eG+m≤hh) (dH:eG*i.size+news.length≤cur.size) :
  (Builtin.append_ #[t,t] ty #[.slice (some ⟨g,0,none⟩) eG hh,.slice (some a) m c]).run P w =
   .ok (.slice (some ⟨g,0,none⟩) (eG+m) hh) (w.setRow g (cur.toList.take (eG*i.size)++news++cur.toList.drop (eG*i.size+news.length)).toArray):=by
 have aQ:=run_firstCells_some (P:=P) w i.size m a m c news ak pB;have cL:=run_storeCells_at P g (eG*i.size) ce news 0 cur w aO (by simpa using dH) ad;simp only [tJ] at cL;simp [Builtin.append_,run_underlying ax,sizeOf,typeInfo,hi,Builtin.lenOf,eo,aQ,Addr.add_lit,cL]
theorem ED (w:World) (t ty e:TypeId) (i:TypeInfo) (ax:P.underlying t=some (.slice e)) (hi:P.info? e=some i)
  (g k eG hh:Nat) (cur:Array Value) (ce:TypeId) (aO:w.heap[g]?=some (.cells cur ce (0,0)))
  (a:Addr) (m c:Nat) (news:List Value) (ak:news.length=m*i.size) (pB:∀ j u,news[j]?=some u→w.cell? (a.add j)=some u) (ad:∀ u∈news,u.oneCell'=true)
  (eo:eG+m≤hh) (dH:k+eG*i.size+news.length≤cur.size) :
  (Builtin.append_ #[t,t] ty #[.slice (some ⟨g,k,none⟩) eG hh,.slice (some a) m c]).run P w =
   .ok (.slice (some ⟨g,k,none⟩) (eG+m) hh) (w.setRow g (cur.toList.take (k+eG*i.size)++news++cur.toList.drop (k+eG*i.size+news.length)).toArray):=by
 have aQ:=run_firstCells_some (P:=P) w i.size m a m c news ak pB;have cL:=run_storeCells_at P g (k+eG*i.size) ce news 0 cur w aO (by simpa using dH) ad;simp only [tJ] at cL;simp [Builtin.append_,run_underlying ax,sizeOf,typeInfo,hi,Builtin.lenOf,eo,aQ,Addr.add_lit,cL]
section grow
variable {t ty e:TypeId} {i:TypeInfo} {z:Value} {GL:List I}
theorem hW (ah:aL B U J S w H) (ax:P.underlying t=some (.slice e)) (hi:P.info? e=some i) (bo:i.zero=some z) (ep:z.cells.size=i.size) (bR:0<i.size)
  (v:Value) (len cap:Nat) (iW:List Value) (ae:((∃ a,v=.slice a 0 0)∧len=0∧cap=0∧iW=[])∨∃ b o,v=.slice (some ⟨b,o,none⟩) len cap∧∀ j x,iW[j]?=some x→w.cell? ⟨b,o+j,none⟩=some x)
  {cs:List I} (gz:c5 J S w cs iW) (fH:cs.length=len*i.size)
  {ar cN m c:Nat} {new:List I} {news:List Value} (hnew:c5 J S w new news) (bx:∀ j x,news[j]?=some x→w.cell? ⟨ar,cN+j,none⟩=some x) (c0:new.length=m*i.size)
  (hm:0<m) (nn:cap<len+m) (eo:(len+m)*i.bytes≤140737488355328) (eV:1≤i.bytes) :
  ∃ x w',(Builtin.append_ #[t,t] ty #[v,.slice (some ⟨ar,cN,none⟩) m c]).run P w=.ok x w'∧a2 B U J S w H (.ay (cs++new) (len+m) (.uniq i.size)) x w':=by
 have CI:len+m≤140737488355328:=sJ (tZ _ eV) eo;have ek:len+m≤maxLen:=by simp only [maxLen];omega
 have eL:news.length=m*i.size:=hnew.len ▸ c0;have yP:iW.length=len*i.size:=gz.len ▸ fH;have ks:∀ j x,news[j]?=some x→w.cell? ((⟨ar,cN,none⟩:Addr).add j)=some x:=fun j x h=>by rw [add_lit];exact bx j x h
 have fin:∀ e7:Nat,e7=grownCap w (len+m) cap e →
   a2 B U J S w H (.ay (cs++new) (len+m) (.uniq i.size)) (.slice (some ⟨w.heap.size,0,none⟩) (len+m) e7)
    (w.drew.alloc (.cells (iW.toArray++news.toArray++Builtin.zeroCells z.cells (e7-(len+m))) e)):=by
  rintro e7 rfl;have e9:=grownCap_ge w (len+m) cap e;have hle:=grownCap_le_maxLen w (len+m) cap e ek;generalize grownCap w (len+m) cap e=e7 at e9 hle;have aA:=kj U S w;have h:=nQ (l9 ah) ((gz.append hnew).mono (Ext.refl J) aA.set) (Builtin.zeroCells z.cells (e7-(len+m))).toList e (len+m) e7 i.size bR
   (by rw [sj,fH,c0,tp]) e9 hle (by
    rw [sj,yP,eL,←tp,tt,size_zeroCells,ep,←tp];congr 1;omega)
  have he:(iW++news++(Builtin.zeroCells z.cells (e7-(len+m))).toList).toArray=iW.toArray++news.toArray++Builtin.zeroCells z.cells (e7-(len+m)):=by
   apply Array.ext';simp
  rw [he] at h;exact a2.after (Ext.refl J) aA h
 rcases ae with ⟨⟨jo,rfl⟩,rfl,rfl,rfl⟩ | ⟨b,o,rfl,hold⟩
 ·cases jo with
  | none =>
    have aj:=run_append_nil (P:=P) w t ty e i z ax hi bo ⟨ar,cN,none⟩ m c news eL ks hm (by omega) (by rw [sP] at eo;omega);have f:=fin _ rfl;refine ⟨_,_,aj,?_⟩;simpa using f
  | some lx =>
    have aj:=run_append_grow (P:=P) w t ty e i z ax hi bo lx 0 0 [] (by simp) (by simp) ⟨ar,cN,none⟩ m c news eL ks nn (by omega) (growslice_fits nn eo);exact ⟨_,_,aj,fin _ rfl⟩
 ·have aj:=run_append_grow (P:=P) w t ty e i z ax hi bo ⟨b,o,none⟩ len cap iW yP (fun j x h=>by rw [add_lit];exact hold j x h) ⟨ar,cN,none⟩ m c news eL ks nn (by omega) (growslice_fits nn eo);exact ⟨_,_,aj,fin _ rfl⟩
theorem Bz (ah:aL B U J S w H) (ax:P.underlying t=some (.slice e)) (hi:P.info? e=some i) (bR:0<i.size) {l:aI} (cc:∀ id,l≠.obj id) (cq:∀ id j,l≠.cell id j)
  {cells:List I} {len b cap:Nat} {cur:Array Value} {ce:TypeId} (bC:U b=some l) (kR:cap≤maxLen) (ib:cells.length=len*i.size)
  (g':w.heap[b]?=some (.cells cur ce (0,0))) (gE:cur.size=cap*i.size) (jT:∀ (j:Nat) (u:I) (v:Value),cells[j]?=some u→cur[j]?=some v→u.plain=true∧v.oneCell'=true∧Rel J S w u v)
  (ha:∀ o,¬ S b o)
  {ar cN m c:Nat} {new:List I} {news:List Value} (hnew:c5 J S w new news) (bx:∀ j x,news[j]?=some x→w.cell? ⟨ar,cN+j,none⟩=some x) (c0:new.length=m*i.size) (dH:len+m≤cap) :
  ∃ x w',(Builtin.append_ #[t,t] ty #[.slice (some ⟨b,0,none⟩) len cap,.slice (some ⟨ar,cN,none⟩) m c]).run P w=.ok x w'∧a2 B U J S w H (.ay (cells++new) (len+m) (.uniq i.size)) x w':=by
 classical
 have eL:news.length=m*i.size:=hnew.len ▸ c0;have jD:(len+m)*i.size≤cap*i.size:=tj _ dH;rw [tp] at jD;have en:∀ u∈news,u.oneCell'=true:=fun u hu=>by
  obtain ⟨j,aw⟩:=tu.1 hu;have aV:=(rV.1 aw).1;exact (hnew.rel j _ u (sd (hnew.len ▸ aV)) aw).2.1
 have aj:=Av w t ty e i ax hi b len cap cur ce g' ⟨ar,cN,none⟩ m c news eL (fun j x h=>by rw [add_lit];exact bx j x h) en dH (by rw [gE];omega)
 let cur':Array Value:=(cur.toList.take (len*i.size)++news++cur.toList.drop (len*i.size+news.length)).toArray
 have ni:∀ bq o,bq≠b→(w.setRow b cur').cell? ⟨bq,o,none⟩=w.cell? ⟨bq,o,none⟩:=fun bq o h=>by
  unfold World.cell?;simp only [setRow_other w b bq cur' h]
 let az:Nat→Option aI:=fun bq=>if bq=b then some .res else U bq
 have kE:(w.setRow b cur').heap.size=w.heap.size:=by simp [World.setRow]
 have aA:bh U S w az S (w.setRow b cur'):=by
  refine ⟨rfl,rfl,rfl,by omega,fun bq ag aN=>setRow_other w b bq cur' (fun e=>by subst e;rw [bC] at aN;cases aN),fun bq o ai=>⟨ai,ni bq o (fun e=>ha o (e ▸ ai))⟩,fun _ _ ai=>.inl ai,fun bq ag=>?_⟩;by_cases h:bq=b
  ·subst h;exact .inl (by simp [bC])
  ·simp only [az,h,if_false] at ag;exact .inl ag
 refine ⟨_,_,aj,az,J,S,Ext.refl J,aA,ah.frame aA (fun bq l' ag ak=>?_) (fun bq o ai=>?_) (fun bq l' ag=>?_),.cM _ _ _ _ _ _,.inr ⟨by simp [az],rfl,dH,kR,bR,by rw [sj,ib,c0,tp],⟨cur',ce,setRow_heap w b cur cur' ce (0,0) g',?_,fun j u v hu ae=>?_⟩,ha⟩⟩
 ·have bO:bq≠b:=fun e=>by
   subst e;rw [bC] at ag;cases ag;rcases ak with ⟨id,h⟩ | ⟨id,j,h⟩
   ·exact cc _ h
   ·exact cq _ _ h
  exact ⟨by simp [az,bO,ag],setRow_other w b bq cur' bO,fun _ h=>h⟩
 ·obtain ⟨v,ae⟩:=ah.ch bq o ai;exact ⟨v,(ni bq o (fun e=>ha o (e ▸ ai))).trans ae⟩
 ·rw [kE];by_cases h:bq=b
  ·subst h;exact ah.base _ l bC
  ·simp only [az,h,if_false] at ag;exact ah.base bq l' ag
 ·have ad:cur.toList.length=cap*i.size:=by simp [gE]
  show (List.toArray _).size=_;rw [tG,sj,sj,s_,tV,ad,eL,tL (by omega)];omega
 ·have ae:(cur.toList.take (len*i.size)++news++cur.toList.drop (len*i.size+news.length))[j]?=some v:=by simpa [cur'] using ae
  have ad:cur.toList.length=cap*i.size:=by simp [gE]
  rw [j6 _ _ _ _ (by rw [ad];omega)] at ae;by_cases aw:j<cells.length
  ·rw [se aw] at hu;rw [if_neg (by omega)] at ae;obtain ⟨ba,bm,bt⟩:=jT j u v hu (by simpa using ae);exact ⟨ba,bm,bt.mono (Ext.refl J) aA.set⟩
  ·rw [sB (by omega)] at hu;have nq:=(rV.1 hu).1;rw [if_pos ⟨by omega,by rw [eL,←c0];omega⟩] at ae;rw [ib] at hu;obtain ⟨ba,bm,bt⟩:=hnew.rel _ u v hu ae;exact ⟨ba,bm,bt.mono (Ext.refl J) aA.set⟩
theorem By (ah:aL B U J S w H) (ax:P.underlying t=some (.slice e)) (hi:P.info? e=some i) (bR:0<i.size) {l:aI} (cc:∀ id,l≠.obj id) (cq:∀ id j,l≠.cell id j)
  {cells:List I} {len b k cap:Nat} {cur:Array Value} {ce:TypeId} {f:Nat→Value} (bC:U b=some l) (kR:cap≤maxLen) (ib:cells.length=len*i.size)
  (g':w.heap[b]?=some (.cells cur ce (0,0))) (gE:cur.size=k+cap*i.size)
  (h:∀ (j:Nat) (u:I),cells[j]?=some u→S b (k+j)∧w.cell? ⟨b,k+j,none⟩=some (f j)∧u.plain=true∧(f j).oneCell'=true)
  (aj:∀ (j:Nat) (u:I),cells[j]?=some u→Rel J S w u (f j)) (ha:∀ o,k+cells.length≤o→¬ S b o)
  {ar cN m c:Nat} {new:List I} {news:List Value} (hnew:c5 J S w new news) (bx:∀ j x,news[j]?=some x→w.cell? ⟨ar,cN+j,none⟩=some x) (c0:new.length=m*i.size) (dH:len+m≤cap) :
  ∃ x w',(Builtin.append_ #[t,t] ty #[.slice (some ⟨b,k,none⟩) len cap,.slice (some ⟨ar,cN,none⟩) m c]).run P w=.ok x w'∧a2 B U J S w H (.ay (cells++new) (len+m) (.own i.size)) x w':=by
 classical
 have eL:news.length=m*i.size:=hnew.len ▸ c0;have jD:(len+m)*i.size≤cap*i.size:=tj _ dH;rw [tp] at jD;have en:∀ u∈news,u.oneCell'=true:=fun u hu=>by
  obtain ⟨j,aw⟩:=tu.1 hu;have aV:=(rV.1 aw).1;exact (hnew.rel j _ u (sd (hnew.len ▸ aV)) aw).2.1
 have dM:=ED w t ty e i ax hi b k len cap cur ce g' ⟨ar,cN,none⟩ m c news eL (fun j x h=>by rw [add_lit];exact bx j x h) en dH (by rw [gE];omega)
 let cur':Array Value:=(cur.toList.take (k+len*i.size)++news++cur.toList.drop (k+len*i.size+news.length)).toArray
 have pc:∀ j:Nat,cur'[j]?=if k+len*i.size≤j∧j<k+len*i.size+news.length then news[j-(k+len*i.size)]? else cur[j]?:=fun j=>by
  have ad:cur.toList.length=k+cap*i.size:=by simp [gE]
  have:=j6 cur.toList news (k+len*i.size) j (by rw [ad];omega);simpa [cur'] using this
 have ks:∀ j,(w.setRow b cur').cell? ⟨b,j,none⟩=cur'[j]?:=fun j=>cell_of_row _ b j cur' ce (0,0) (setRow_heap w b cur cur' ce (0,0) g');have fF:∀ j,w.cell? ⟨b,j,none⟩=cur[j]?:=fun j=>cell_of_row _ b j cur ce (0,0) g';have ni:∀ bq o,bq≠b→(w.setRow b cur').cell? ⟨bq,o,none⟩=w.cell? ⟨bq,o,none⟩:=fun bq o h=>by
  unfold World.cell?;simp only [setRow_other w b bq cur' h]
 let az:Nat→Option aI:=fun bq=>if bq=b then some .res else U bq
 let S':Nat→Nat→Prop:=fun bq o=>S bq o∨(bq=b∧k+cells.length≤o∧o<k+cells.length+new.length)
 have kE:(w.setRow b cur').heap.size=w.heap.size:=by simp [World.setRow]
 have cp:∀ bq o,S bq o→(w.setRow b cur').cell? ⟨bq,o,none⟩=w.cell? ⟨bq,o,none⟩:=fun bq o ai=>by
  by_cases ag:bq=b
  ·subst ag;have aq:o<k+cells.length:=by
    rcases sO o (k+cells.length) with h | h
    ·exact h
    ·exact absurd ai (ha o h)
   rw [ks,pc,if_neg (by omega),fF]
  ·exact ni bq o ag
 have aA:bh U S w az S' (w.setRow b cur'):=by
  refine ⟨rfl,rfl,rfl,by omega,fun bq ag aN=>setRow_other w b bq cur' (fun e=>by subst e;rw [bC] at aN;cases aN),fun bq o ai=>⟨.inl ai,cp bq o ai⟩,fun bq o ai=>?_,fun bq ag=>?_⟩
  ·rcases ai with ai | ⟨rfl,_⟩
   ·exact .inl ai
   ·exact .inr (.inl (by simp [bC]))
  ·by_cases h:bq=b
   ·subst h;exact .inl (by simp [bC])
   ·simp only [az,h,if_false] at ag;exact .inl ag
 have pA:∀ (j:Nat) (u:I),(cells++new)[j]?=some u→S' b (k+j)∧(w.setRow b cur').cell? ⟨b,k+j,none⟩=some (cur'.getD (k+j) undef)∧u.plain=true∧(cur'.getD (k+j) undef).oneCell'=true∧Rel J S' (w.setRow b cur') u (cur'.getD (k+j) undef):=by
  intro j u hu;rw [ks];by_cases aw:j<cells.length
  ·rw [se aw] at hu;obtain ⟨ad,af,aG,a7⟩:=h j u hu;rw [fF] at af;(have ao:cur'[k+j]?=some (f j):=by rw [pc,if_neg (by omega),af]);(have aO:cur'.getD (k+j) undef=f j:=by rw [sk,ao];rfl);rw [aO];exact ⟨.inl ad,ao,aG,a7,(aj j u hu).mono (Ext.refl J) aA.set⟩
  ·rw [sB (by omega)] at hu;have nq:=(rV.1 hu).1;have lZ:j-cells.length<news.length:=hnew.len ▸ nq;have ao:cur'[k+j]?=some (news[j-cells.length]):=by
    rw [pc,if_pos ⟨by omega,by omega⟩,←ib,Nat.add_sub_add_left];exact sd lZ
   (have aO:cur'.getD (k+j) undef=news[j-cells.length]:=by rw [sk,ao];rfl);obtain ⟨ba,bm,bt⟩:=hnew.rel _ u _ hu (sd lZ);rw [aO];exact ⟨.inr ⟨rfl,by omega,by omega⟩,ao,ba,bm,bt.mono (Ext.refl J) aA.set⟩
 refine ⟨_,_,dM,az,J,S',Ext.refl J,aA,ah.frame aA (fun bq l' ag ak=>?_) (fun bq o ai=>?_) (fun bq l' ag=>?_),
  .ay _ _ _ b k cap (fun j=>cur'.getD (k+j) undef) (by simp) dH (by simp) (fun j u hu=>let ⟨aB,aH,aR,bl,_⟩:=pA j u hu;⟨aB,aH,aR,bl⟩) (fun j u hu=>(pA j u hu).2.2.2.2),
  .inr ⟨by simp [az],trivial,rfl,dH,kR,bR,by rw [sj,ib,c0,tp],⟨cur',ce,setRow_heap w b cur cur' ce (0,0) g',?_⟩,fun o aq ai=>?_⟩⟩
 ·have bO:bq≠b:=fun e=>by
   subst e;rw [bC] at ag;cases ag;rcases ak with ⟨id,h⟩ | ⟨id,j,h⟩
   ·exact cc _ h
   ·exact cq _ _ h
  refine ⟨by simp [az,bO,ag],setRow_other w b bq cur' bO,fun o ai=>?_⟩;rcases ai with ai | ⟨h,_⟩
  ·exact ai
  ·exact absurd h bO
 ·rcases ai with ai | ⟨rfl,ad,af⟩
  ·obtain ⟨v,ae⟩:=ah.ch bq o ai;exact ⟨v,(cp bq o ai).trans ae⟩
  ·obtain ⟨u,hu⟩:∃ u,(cells++new)[o-k]?=some u:=⟨_,sd (by simp;omega)⟩;have:=(pA (o-k) u hu).2.1;rw [Nat.add_sub_cancel' (by omega)] at this;exact ⟨_,this⟩
 ·rw [kE];by_cases h:bq=b
  ·subst h;exact ah.base _ l bC
  ·simp only [az,h,if_false] at ag;exact ah.base bq l' ag
 ·have ad:cur.toList.length=k+cap*i.size:=by simp [gE]
  show (List.toArray _).size=k+cap*i.size;rw [tG,sj,sj,s_,tV,ad,eL,tL (by omega)];omega
 ·simp only [sj] at aq;rcases ai with ai | ⟨_,ad,af⟩
  ·exact ha o (by omega) ai
  ·omega
end grow
theorem x5 (ah:aL B U J S w H) {x:I} {cC:Value} {m:Nat} {new:List I} (h:appended H x=some (m,new)) (aj:Rel J S w x cC) (aN:x.cV=true) :
  (new=[]∧∃ a c,cC=.slice a m c)∨∃ b o c vs,cC=.slice (some ⟨b,o,none⟩) m c∧c5 J S w new vs∧(∀ j y,vs[j]?=some y→w.cell? ⟨b,o+j,none⟩=some y):=by
 unfold appended at h;split at h
 ·rename_i g7 row hm cU;simp only [Option.some.injEq,Prod.mk.injEq] at h;obtain ⟨rfl,rfl⟩:=h;obtain ⟨a,c,ae⟩:=mr hm aj;rcases xF ah cU aj aN with ⟨ad,n,dW,af⟩ | ⟨b,o,n,dW,vs,af,aG,a7⟩
  ·rw [af] at ae;cases ae;exact .inl ⟨ad,_,_,af⟩
  ·rw [af] at ae;cases ae;exact .inr ⟨b,o,_,vs,af,aG,a7⟩
 ·simp at h
end
end Go.Proofs.YtfakoboiahbhaaaGreat.Ab


namespace Go.Proofs.YtfakoboiahbhaaaGreat.Ab
open Go
section
variable {P:Program} {B:Nat} {J:List Nat} {w:World} {H:List au} {U:Nat→Option aI} {S:Nat→Nat→Prop}
theorem mu (ah:aL B U J S w H) {l:aI} (cc:∀ id,l≠.obj id) (cq:∀ id j,l≠.cell id j) {u:I} {v:Value} (aj:Rel J S w u v) (aq:aW U J S w l u v) :
  ∃ S':Nat→Nat→Prop,(∀ b o,S b o→S' b o)∧(∀ b o,S' b o→S b o∨U b=some l)∧aL B U J S' w H∧Rel J S' w u.view v:=by
 by_cases hu:u.cV=true
 ·exact ⟨S,fun _ _ h=>h,fun _ _ h=>.inl h,ah,aj.view hu⟩
 ·obtain ⟨cells,len,z,rfl⟩:∃ cells len z,u=.ay cells len (.uniq z):=by
   unfold I.cV at hu;split at hu
   ·exact ⟨_,_,_,rfl⟩
   ·simp at hu
  obtain ⟨a5,aJ,aP,cl,aS,_,_⟩:=j8 ah aj aq;exact ⟨a5,aJ,aP,ah.settle aJ (fun b o h=>(aP b o h).imp (fun h=>h) fun h=>⟨_,h,cc,cq⟩) cl,aS⟩
theorem x6 {u:I} {r:Nat×List I} (h:appended H u=some r):appended H u.view=some r:=by
 cases u <;> try exact h
 ·rename_i cells len c;cases c <;> exact h
 ·simp [appended,lenOf] at h
theorem EE (t dp ty e:TypeId) (i:TypeInfo) (z:Value) (de:IntKind) (ax:P.underlying t=some (.slice e)) (pN:P.underlying dp=some (.int de)) (hi:P.info? e=some i) (bo:i.zero=some z)
  (base:Option Addr) (n:Int) (aT:0<n) (ag:n.toNat*i.bytes≤140737488355328) (eV:1≤i.bytes) (bR:0<i.size) :
  (Builtin.append_ #[t,dp] ty #[.slice base 0 0,.int .i64 n]).run P w =
   .ok (.slice (some ⟨w.heap.size,0,none⟩) n.toNat (grownCap w n.toNat 0 e)) (w.drew.alloc (.cells (Builtin.zeroCells z.cells n.toNat++Builtin.zeroCells z.cells (grownCap w n.toNat 0 e-n.toNat)) e)):=by
 have aN:n.toNat≤140737488355328:=sJ (tZ _ eV) ag;have bE:IntKind.i64.wrap n=n:=IntWalk.i64_in _ (by omega);have kz:n*(i.bytes:Int)=((n.toNat*i.bytes:Nat):Int):=by rw [uZ,tK (by omega)]
 have o':Builtin.nextslicecap n.toNat 0=n.toNat:=by unfold Builtin.nextslicecap;rw [if_pos (by omega)]
 have ad:¬ n<0:=by omega
 have af:¬ ((281474976710656:Int)<n*i.bytes):=by rw [kz];omega
 have a7:¬ (281474976710656<n.toNat*i.bytes):=by omega
 have bN:¬ (9223372036854775807<max n 0):=by omega
 have bX:n.toNat*i.size≠0:=by have:0<n.toNat:=by omega
                              have:=vw this bR;omega
 have cP:¬ n≤0:=by omega
 cases base <;> simp [Builtin.append_,run_underlying ax,run_underlying pN,sizeOf,typeInfo,hi,asInt,asIntOf,bE,ad,af,cP,bN,a7,bX,Builtin.lenOf,Builtin.firstCells,loadCells,loadCellsFrom,o',zeroValue,bo,grownCap,Question.forced,newRow]
theorem AQ (ah:aL B U J S w H) {t dp:TypeId} (ty:TypeId) {u x r:I} {v cC:Value} {cx dK:aI} (cc:∀ id,cx≠.obj id) (cq:∀ id j,cx≠.cell id j) (df:∀ id,dK≠.obj id) (dg:∀ id j,dK≠.cell id j) (bO:cx≠dK)
  (h:e6 P H t dp u x=some r) (aj:Rel J S w u v) (aq:aW U J S w cx u v) (eg:Rel J S w x cC) (h6:aW U J S w dK x cC) :
  ∃ y w',(Builtin.append_ #[t,dp] ty #[v,cC]).run P w=.ok y w'∧a2 B U J S w H r y w':=by
 obtain ⟨a5,aJ,aP,bY,jO⟩:=mu ah df dg eg h6;have dc:bh U S w U a5 w:=bh.settle aJ fun b o h=>(aP b o h).imp (fun h=>h) fun h=>⟨_,h⟩;have dr:Rel J a5 w u v:=aj.mono (Ext.refl J) dc.set
 have jK:aW U J a5 w cx u v:=aq.mono (Ext.refl J) dc.set fun b ag=>⟨ag,rfl,fun o ai=>by
  rcases aP b o ai with h | h
  ·exact h
  ·rw [ag] at h;cases h;exact absurd rfl bO⟩
 suffices ai:∃ y w',(Builtin.append_ #[t,dp] ty #[v,cC]).run P w=.ok y w'∧a2 B U J a5 w H r y w' by
  obtain ⟨y,w',a,b⟩:=ai;exact ⟨y,w',a,a2.after (Ext.refl J) dc b⟩
 clear aj aq eg h6 dc aJ aP ah;unfold e6 at h;split at h
 ·rename_i e ax;split at h
  ·rename_i sz bytes z ai ag bo;obtain ⟨i,hi,rfl⟩:=mR ai;simp only [hi,sc,Option.some.injEq] at ag;subst ag;obtain ⟨nB,dw,hi',er,fG⟩:=hO (J:=J) (S:=a5) (w:=w) bo;rw [hi] at hi';cases hi';(have kH:z.length=dw.cells.size:=by simpa using fG.len);split at h
   ·rename_i nh;obtain rfl:t=dp:=Nat.eq_of_beq_eq_true nh;split at h
    ·rename_i m new eJ;replace eJ:=x6 eJ;split at h
     ·rename_i ao;obtain ⟨c0,bR,ep,yX⟩:=ao;(have gB:dw.cells.size=i.size:=by omega);obtain ⟨Gg,Gh⟩:=ik yX;have al:=x5 bY eJ jO (I.ga (I.dh x));have zero:m=0→∀ base len cap,v=.slice base len cap→len≤cap→(Builtin.append_ #[t,t] ty #[v,cC]).run P w=.ok v w:=by
       rintro rfl base len cap rfl hle;rcases al with ⟨_,jo,c,rfl⟩ | ⟨b,o,c,vs,rfl,_,_⟩
       ·exact Aw (P:=P) (w:=w) t ty e i ax hi base len cap hle jo c
       ·exact Aw (P:=P) (w:=w) t ty e i ax hi base len cap hle _ c
      have od:0<m→∃ b o c vs,cC=.slice (some ⟨b,o,none⟩) m c∧c5 J a5 w new vs∧(∀ j y,vs[j]?=some y→w.cell? ⟨b,o+j,none⟩=some y):=by
       intro hm;rcases al with ⟨aT,_,c,rfl⟩ | h
       ·rw [aT] at c0;simp at c0;have:=vw hm bR;omega
       ·exact h
      split at h
      ·rename_i cells len c;split at h
       ·
        split at h
        ·rename_i hm;cases h;have ae:∃ base cap,v=.slice base len cap∧len≤cap:=by
          cases dr with
          | b3=>exact ⟨_,_,rfl,rX _⟩
          | ay _ _ _ b o cap f _ hle=>exact ⟨_,_,rfl,hle⟩
         obtain ⟨base,cap,ae,hle⟩:=ae;exact ⟨v,w,zero hm base len cap ae hle,a2.same bY dr rfl⟩
        ·simp at h
       ·
        have ae:((∃ a,v=.slice a 0 0)∧len=0∧cells=[])∨∃ b o,∃ f:Nat→Value,v=.slice (some ⟨b,o,none⟩) len len ∧
          (∀ (j:Nat) (u:I),cells[j]?=some u→a5 b (o+j)∧w.cell? ⟨b,o+j,none⟩=some (f j)∧u.plain=true∧(f j).oneCell'=true)∧(∀ (j:Nat) (u:I),cells[j]?=some u→Rel J a5 w u (f j)):=by
         cases dr with
         | b3 _ a=>exact .inl ⟨⟨a,rfl⟩,rfl,rfl⟩
         | ay _ _ _ b o cap f ao hle hu bx b'=>exact .inr ⟨b,o,f,by rw [ao rfl],bx,b'⟩
        split at h
        ·rename_i hm;split at h
         ·rename_i aT;cases h;subst aT;rcases ae with ⟨⟨a,ae⟩,_,_⟩ | ⟨b,o,f,ae,_,_⟩
          ·exact ⟨v,w,zero hm _ _ _ ae (rX _),U,J,a5,Ext.refl J,bh.refl _ _ _,bY,ae ▸ .b3 _ _,by rw [ae];cases a <;> first | trivial | exact .inl ⟨rfl,rfl,rfl⟩⟩
          ·exact ⟨v,w,zero hm _ _ _ ae (rX _),U,J,a5,Ext.refl J,bh.refl _ _ _,bY,ae ▸ .cM _ _ _ _ _ _,by rw [ae];exact .inl ⟨rfl,rfl,rfl⟩⟩
         ·cases h;rcases ae with ⟨⟨a,ae⟩,rfl,_⟩ | ⟨b,o,f,ae,_,_⟩
          ·exact ⟨v,w,zero hm _ _ _ ae (rX _),a2.same bY dr rfl⟩
          ·exact ⟨v,w,zero hm _ _ _ ae (rX _),a2.same bY dr rfl⟩
        ·rename_i hm;split at h
         ·rename_i gX;obtain ⟨eo,cE⟩:=gX;cases h;obtain ⟨q1,aX⟩:=ik eo;obtain ⟨ar,cN,dW,vs,rfl,hnew,bx⟩:=od (by omega);rcases ae with ⟨ae,rfl,rfl⟩ | ⟨b,o,f,ae,fF,l8⟩
          ·exact hW bY ax hi er gB bR v 0 0 [] (.inl ⟨ae,rfl,rfl,rfl⟩) ⟨rfl,by simp⟩ (by simp) hnew bx c0 (by omega) (by omega) q1 aX
          ·refine hW bY ax hi er gB bR v len len ((List.range cells.length).map f) (.inr ⟨b,o,ae,fun j y a1=>?_⟩) ⟨by simp,fun j bI bu ca bd=>?_⟩ cE hnew bx c0 (by omega) (by omega) q1 aX
           ·simp only [sm,rU] at a1;obtain ⟨k,av,rfl⟩:=a1;(have aw:j<cells.length:=by have:=(rV.1 av).1;simpa using this);simp [aw] at av;subst av;exact (fF j _ (sd aw)).2.1
           ·have aw:=(rV.1 ca).1;simp [aw] at bd;subst bd;exact ⟨(fF j bI ca).2.2.1,(fF j bI ca).2.2.2,l8 j bI ca⟩
         ·simp at h
       ·
        rename_i cW;split at h
        ·rename_i gX;obtain ⟨rfl,eo⟩:=gX;cases h;obtain ⟨q1,aX⟩:=ik eo;by_cases hm:m=0
         ·have pz:new=[]:=vz (by rw [c0,hm];simp);have ae:∃ base cap,v=.slice base len cap∧len≤cap:=by
           cases dr with
           | b3=>exact ⟨_,_,rfl,rX _⟩
           | ay _ _ _ b o cap f _ hle=>exact ⟨_,_,rfl,hle⟩
          obtain ⟨base,cap,ae,hle⟩:=ae;refine ⟨v,w,zero hm base len cap ae hle,?_⟩;rw [pz,hm,sV,tJ];exact ih bY cc cq dr jK
         ·have hm:0<m:=Nat.pos_of_ne_zero hm;obtain ⟨ar,cN,dW,vs,rfl,hnew,bx⟩:=od hm;cases dr with
          | b3 _ a =>
            obtain ⟨y,w',aB,aH⟩:=hW (ty:=ty) bY ax hi er gB bR (.slice a 0 0) 0 0 [] (.inl ⟨⟨a,rfl⟩,rfl,rfl,rfl⟩) (cs:=[]) ⟨rfl,by simp⟩ (by simp) hnew bx c0 hm (by omega) q1 aX;exact ⟨y,w',aB,aH.settle⟩
          | ay _ _ _ b o cap f ao hle hu fF l8 =>
            have gz:c5 J a5 w cells ((List.range cells.length).map f):=⟨by simp,fun j bI bu ca bd=>by
             have aw:=(rV.1 ca).1;simp [aw] at bd;subst bd
             exact ⟨(fF j bI ca).2.2.1,(fF j bI ca).2.2.2,l8 j bI ca⟩⟩
            have cE:∀ j y,((List.range cells.length).map f)[j]?=some y→w.cell? ⟨b,o+j,none⟩=some y:=fun j y a1=>by
             simp only [sm,rU] at a1;obtain ⟨k,av,rfl⟩:=a1;(have aw:j<cells.length:=by have:=(rV.1 av).1;simpa using this);simp [aw] at av;subst av;exact (fF j _ (sd aw)).2.1
            have yN:cells.length=len*i.size→cap<len+m→_:=fun ak aO =>
             hW (ty:=ty) (c:=dW) bY ax hi er gB bR (.slice (some ⟨b,o,none⟩) len cap) len cap _ (.inr ⟨b,o,rfl,cE⟩) gz ak hnew bx c0 hm aO q1 aX
            rcases jK with ⟨aT,ad,af⟩ | ⟨bT,b6,_,eD,fM,_,k0,⟨cur,ce,k1,mF⟩,mG⟩
            ·obtain ⟨y,w',aB,aH⟩:=yN (by rw [af,aT];simp) (by omega);exact ⟨y,w',aB,aH.settle⟩
            ·simp only at bT k1 mF mG;by_cases dH:len+m≤cap
             ·exact By bY ax hi bR cc cq bT fM k0 k1 mF fF l8 mG hnew bx c0 dH
             ·obtain ⟨y,w',aB,aH⟩:=yN k0 (by omega);exact ⟨y,w',aB,aH.settle⟩
        ·simp at h
       ·
        rename_i cW;split at h
        ·rename_i gX;obtain ⟨rfl,eo⟩:=gX;cases h;obtain ⟨q1,aX⟩:=ik eo;by_cases hm:m=0
         ·have pz:new=[]:=vz (by rw [c0,hm];simp);have ae:∃ base cap,v=.slice base len cap∧len≤cap:=by
           cases dr with
           | b3=>exact ⟨_,_,rfl,rX _⟩
           | ay _ _ _ b o cap f _ hle=>exact ⟨_,_,rfl,hle⟩
           | cM _ _ _ b o cap =>
             refine ⟨_,_,rfl,?_⟩;rcases jK with ⟨aT,ad,af⟩ | ⟨_,_,h,_⟩
             ·omega
             ·exact h
          obtain ⟨base,cap,ae,hle⟩:=ae;refine ⟨v,w,zero hm base len cap ae hle,?_⟩;rw [pz,hm,sV,tJ];exact ih bY cc cq dr jK
         ·have hm:0<m:=Nat.pos_of_ne_zero hm;obtain ⟨ar,cN,dW,vs,rfl,hnew,bx⟩:=od hm;cases dr with
          | b3 _ a =>
            exact hW (ty:=ty) bY ax hi er gB bR (.slice a 0 0) 0 0 [] (.inl ⟨⟨a,rfl⟩,rfl,rfl,rfl⟩) (cs:=[]) ⟨rfl,by simp⟩ (by simp) hnew bx c0 hm (by omega) q1 aX
          | ay _ _ _ b o cap f ao hle hu fF l8=>exact absurd rfl (hu _)
          | cM _ _ _ b o cap =>
            rcases jK with ⟨aT,ad,af⟩ | ⟨bT,b6,eD,fM,_,k0,⟨cur,ce,k1,mF,zG⟩,mG⟩
            ·refine hW (ty:=ty) bY ax hi er gB bR (.slice (some ⟨b,o,none⟩) len cap) len cap [] (.inr ⟨b,o,rfl,by simp⟩) ?_ (by rw [af,aT];simp) hnew bx c0 hm (by omega) q1 aX;rw [af];exact ⟨rfl,by simp⟩
            ·simp only at bT b6 k1 mG;subst b6;(have jD:cells.length≤cur.size:=by rw [mF,k0];exact tj _ eD);by_cases dH:len+m≤cap
             ·exact Bz bY ax hi bR cc cq bT fM k0 k1 mF zG mG hnew bx c0 dH
             ·refine hW (ty:=ty) bY ax hi er gB bR (.slice (some ⟨b,0,none⟩) len cap) len cap (cur.toList.take cells.length) (.inr ⟨b,0,rfl,fun j y a1=>?_⟩) ⟨by simp;omega,fun j bI bu ca bd=>?_⟩ k0 hnew bx c0 hm (by omega) q1 aX
              ·rw [sR] at a1;split at a1
               ·rw [sP,cell_of_row w b _ cur ce (0,0) k1];simpa using a1
               ·simp at a1
              ·rw [sR] at bd;split at bd
               ·exact zG j bI bu ca (by simpa using bd)
               ·simp at bd
        ·simp at h
      ·
       rename_i id off len cap oe;split at h
       ·rename_i gX;obtain ⟨rfl,rfl,hm⟩:=gX;simp only [sb] at h;obtain ⟨fL,hold,h⟩:=h;split at h
        ·rename_i eo;cases h;obtain ⟨q1,aX⟩:=ik eo;obtain ⟨ar,cN,dW,vs,rfl,hnew,bx⟩:=od hm;have fH:fL.length=cap*i.size:=by
          simp only [rowOf] at hold;split at hold
          ·split at hold
           ·simp at hold;rw [←hold];simp;omega
           ·simp at hold
          ·simp at hold
         have fI:∃ b o,v=.slice (some ⟨b,o,none⟩) cap cap:=by
          cases dr with
          | ref _ _ _ _ _ b cap' _ ao _=>exact ⟨b,off,by rw [ao cap rfl]⟩
         obtain ⟨dy,Gr,fY⟩:=fI;rcases xF bY hold dr rfl with ⟨C5,n,c,ae⟩ | ⟨b,o,n,c,dv,ae,gz,fF⟩
         ·rw [ae] at fY;cases fY;subst C5;exact hW bY ax hi er gB bR v _ _ [] (.inl ⟨⟨_,ae⟩,rfl,rfl,rfl⟩) ⟨rfl,by simp⟩ fH hnew bx c0 hm (by omega) q1 aX
         ·rw [ae] at fY;simp only [Value.slice.injEq,Option.some.injEq,Addr.mk.injEq] at fY;obtain ⟨⟨rfl,rfl,_⟩,rfl,rfl⟩:=fY;exact hW bY ax hi er gB bR v _ _ dv (.inr ⟨b,o,ae,fF⟩) gz fH hnew bx c0 hm (by omega) q1 aX
        ·simp at h
       ·simp at h
      ·simp at h
     ·simp at h
    ·simp at h
   ·
    split at h
    ·rename_i de n pN;split at h
     ·rename_i ao;obtain ⟨aT,eo,bR,ep⟩:=ao;cases h;obtain ⟨q1,aX⟩:=ik eo;have fZ:cC=.int .i64 n:=Rel.dd jO;have ae:∃ base,v=.slice base 0 0:=by
       cases dr with
       | b3=>exact ⟨_,rfl⟩
       | ay _ _ _ b o cap f ao _=>exact ⟨_,by rw [ao rfl]⟩
      obtain ⟨base,rfl⟩:=ae;subst fZ;have aj:=EE (P:=P) (w:=w) t dp ty e i dw de ax pN hi er base n aT q1 aX bR;have e9:=grownCap_ge w n.toNat 0 e;have aN:n.toNat≤140737488355328:=sJ (tZ _ aX) q1;have hle:=grownCap_le_maxLen w n.toNat 0 e (by simp only [maxLen];omega);generalize grownCap w n.toNat 0 e=e7 at e9 hle aj;have aA:=kj U a5 w;have fJ:=(mT fG (by omega) n.toNat).mono (Ext.refl J) aA.set
      have iO:=nQ (l9 bY) fJ (Builtin.zeroCells dw.cells (e7-n.toNat)).toList e n.toNat e7 i.size bR (by rw [ij,ep]) e9 hle (by
       rw [←fJ.len,ij,ep,tt,size_zeroCells,←kH,ep,←tp];congr 1;omega)
      refine ⟨_,_,aj,a2.after (Ext.refl J) aA ?_⟩;have he:(((Array.range (n.toNat*z.length)).map (fun i=>dw.cells[i % dw.cells.size]!)).toList++(Builtin.zeroCells dw.cells (e7-n.toNat)).toList).toArray =
        Builtin.zeroCells dw.cells n.toNat++Builtin.zeroCells dw.cells (e7-n.toNat):=by
       apply Array.ext';simp [Builtin.zeroCells,kH]
      rw [he] at iO;exact iO
     ·simp at h
    ·simp at h
  ·simp at h
 ·simp at h
theorem zM (ah:aL B U J S w H) {id:Nat} {l:List I} {b z:Nat} {cur:Array Value} (aE:id<H.length) (aH:U b=some (.obj id)) (bc:∀ o,¬ S b o)
  (bg:∀ (j:Nat) (u:I) (v:Value),l[j]?=some u→cur[j]?=some v→u.cV=true∧v.oneCell'=true∧Rel J S w u v∧aW U J S w (.cell id j) u v)
  {bE:World} {nb cap1 w9:Nat} {jv:Array Value} {e1:TypeId} (aq:bE.os=w.os) (ax:bE.tape=w.tape) (CU:bE.output=w.output) (kE:w.heap.size≤bE.heap.size)
  (hold:∀ ar,ar<w.heap.size→ar≠b→bE.heap[ar]?=w.heap[ar]?) (kz:nb=b∨nb=w.heap.size) (CQ:nb<bE.heap.size) (jC:bE.heap[nb]?=some (.cells jv e1 (0,0)))
  (gA:jv.size=cap1*z) (hm:cap1≤maxLen) (bo:0<z) {new:List I} {news:List Value} (hnew:c5 J S w new news) (dH:l.length+new.length≤jv.size)
  (Cw:∀ j,j<l.length→jv[j]?=cur[j]?) (Cx:∀ (j:Nat) (v:Value),news[j]?=some v→jv[l.length+j]?=some v) (hlen:w9≤cap1) :
  a2 B U J S w (H.set id .dead++[.grow (l++new) (H.length+1) z,.dead]) (.cn H.length (H.length+1) w9 z) (.slice (some ⟨nb,0,none⟩) w9 cap1) bE:=by
 classical
 let az:Nat→Option aI:=fun ar=>if ar=nb then some (.obj H.length) else if ar=b then none else match U ar with
  | some (.cell i j)=>if i=id then some (.cell H.length j) else some (.cell i j)
  | o=>o
 have aV:∀ ar l',U ar=some l'→ar<w.heap.size:=fun ar l' h=>(ah.base ar l' h).2;have yO:∀ ar l',U ar=some l'→ar≠b→ar≠nb:=fun ar l' h ag e=>by
  subst e;rcases kz with e | e
  ·exact ag e
  ·have:=aV _ _ h;omega
 have hs:∀ ar o,S ar o→ar≠b:=fun ar o ai e=>bc o (e ▸ ai);have bx:∀ ar o,S ar o→bE.cell? ⟨ar,o,none⟩=w.cell? ⟨ar,o,none⟩:=fun ar o ai=>by
  obtain ⟨v,ae⟩:=ah.ch ar o ai;unfold World.cell?;simp only [hold ar (mv ae) (hs ar o ai)]
 have ns:∀ ar,az ar≠none→U ar≠none∨w.heap.size≤ar:=fun ar ag=>by
  by_cases ad:ar=nb
  ·rcases kz with e | e
   ·exact .inl (by rw [ad,e,aH];simp)
   ·exact .inr (by omega)
  ·refine .inl fun aT=>ag ?_;by_cases af:ar=b
   ·simp only [az,ad,af,if_false,if_true];rw [if_neg (by rw [←af];exact ad)]
   ·simp only [az,ad,af,if_false,aT]
 have aA:bh U S w az S bE:=⟨aq,ax,CU,kE,fun ar ag aN=>hold ar ag (fun e=>by subst e;rw [aH] at aN;cases aN),fun ar o ai=>⟨ai,bx ar o ai⟩,fun _ _ h=>.inl h,ns⟩;have l0:(J++[nb,cap1])[H.length]?=some nb:=by rw [←ah.cG];simp
 have l1:(J++[nb,cap1])[H.length+1]?=some cap1:=by rw [←ah.cG];simp
 refine ⟨az,J++[nb,cap1],S,Ext.append J _,aA,⟨by simp [ah.cG],fun bA o h=>?_,fun ar o ai=>?_,fun ar l' ag=>?_,sJ ah.cZ kE⟩,.cn _ _ _ _ nb cap1 l0 l1 hlen,trivial⟩
 ·rcases vu bA H.length with ak | rfl | ak
  ·rw [se (by simpa using ak)] at h;by_cases cw:bA=id
   ·subst cw;rw [rY ak] at h;cases h;trivial
   ·rw [sa (Ne.symm cw)] at h;refine (ah.obj bA o h).frame (Ext.append J _) aA.set fun ar l' ag dA=>?_;have bO:ar≠b:=fun e=>by
     subst e;rw [aH] at ag;cases ag;rcases dA with h | ⟨j,h⟩
     ·cases h;exact cw rfl
     ·cases h
    refine ⟨?_,hold ar (aV _ _ ag) bO,fun _ h=>h⟩;simp only [az,yO ar l' ag bO,bO,if_false,ag];rcases dA with rfl | ⟨j,rfl⟩
    ·rfl
    ·simp [cw]
  ·rw [sB (by simp)] at h;simp only [tz,tT,ua,Option.some.injEq] at h;subst h;refine ⟨nb,jv,e1,l0,by simp [az],jC,by rw [sj];exact dH,?_,fun j u v hu ae=>?_,cap1,l1,hm,bo,gA⟩
   ·rcases kz with rfl | rfl
    ·exact bc
    ·exact mz ah
   ·by_cases aw:j<l.length
    ·rw [se aw] at hu;rw [Cw j aw] at ae;obtain ⟨ba,bm,bt,b9⟩:=bg j u v hu ae;refine ⟨ba,bm,bt.mono (Ext.append J _) aA.set,b9.mono (Ext.append J _) aA.set fun ar ag=>?_⟩;(have bO:ar≠b:=fun e=>by subst e;rw [aH] at ag;cases ag);refine ⟨?_,hold ar (aV _ _ ag) bO,fun _ h=>h⟩;simp only [az,yO ar _ ag bO,bO,if_false,ag,if_true]
    ·rw [sB (by omega)] at hu;have nq:=(rV.1 hu).1;have lZ:j-l.length<news.length:=hnew.len ▸ nq;have bd:=Cx (j-l.length) _ (sd lZ);rw [show l.length+(j-l.length)=j by omega,ae] at bd;obtain ⟨ba,bm,bt⟩:=hnew.rel _ u v hu (by rw [sd lZ,bd]);exact ⟨I.ga ba,bm,bt.mono (Ext.append J _) aA.set,aW.b5 ba⟩
  ·rw [sB (by simp;omega)] at h;rw [tz] at h;obtain ⟨k,av⟩:∃ k,bA-H.length=k+1:=⟨bA-H.length-1,by omega⟩;rw [av] at h;cases k with
   | zero=>simp at h;subst h;trivial
   | succ k=>simp at h
 ·obtain ⟨v,ae⟩:=ah.ch ar o ai;exact ⟨v,(bx ar o ai).trans ae⟩
 ·by_cases ad:ar=nb
  ·rw [ad];refine ⟨?_,CQ⟩;rcases kz with e | e
   ·rw [e];exact (ah.base b _ aH).1
   ·rw [e];exact ah.cZ
  ·have:∃ cx,U ar=some cx:=by
    rcases ns ar (by rw [ag];simp) with h | h
    ·cases aT:U ar with
     | none=>exact absurd aT h
     | some cx=>exact ⟨cx,rfl⟩
    ·exfalso;by_cases af:ar=b
     ·have:=aV b _ aH;omega
     ·have aT:U ar=none:=by
       cases aT:U ar with
       | none=>rfl
       | some cx=>have:=aV ar _ aT;omega
      simp [az,ad,af,aT] at ag
   obtain ⟨cx,aT⟩:=this;have:=ah.base ar cx aT;exact ⟨this.1,by omega⟩
theorem D' (ah:aL B U J S w H) {l:aI} (cc:∀ id,l≠.obj id) (cq:∀ id j,l≠.cell id j) {cells:List I} {len z:Nat} (aT:len≠0) {v:Value}
  (aj:Rel J S w (.ay cells len (.uniq z)) v) (aq:aW U J S w l (.ay cells len (.uniq z)) v) :
  a2 B U J S w (H++[.grow cells (H.length+1) z,.dead]) (.cn H.length (H.length+1) len z) v w:=by
 classical
 cases aj with
 | b3 c a=>exact absurd rfl aT
 | ay cells len c b o cap f ao hle hu h fo=>exact absurd rfl (hu z)
 | cM cells len z b o cap =>
   rcases aq with ⟨rfl,_,_⟩ | ⟨ad,aq,af,aG,a7,bN,⟨cur,e,bX,cP,cT⟩,cX⟩
   ·exact absurd rfl aT
   ·simp only at ad bX cX aq;subst aq
    let az:Nat→Option aI:=fun ar=>if ar=b then some (.obj H.length) else U ar
    have aA:bh U S w az S w:=⟨rfl,rfl,rfl,rX _,fun _ _ _=>rfl,fun _ _ h=>⟨h,rfl⟩,fun _ _ h=>.inl h,fun ar ag=>by
     by_cases dG:ar=b
     ·subst dG;exact .inl (by simp [ad])
     ·simp only [az,dG,if_false] at ag;exact .inl ag⟩
    have bY:aL B az J S w H:=by
     refine ah.frame aA (fun ar l' ag ak=>?_) ah.ch (fun ar l' ag=>?_)
     ·have bO:ar≠b:=fun e=>by
       subst e;rw [ad] at ag;cases ag;rcases ak with ⟨id,h⟩ | ⟨id,j,h⟩
       ·exact cc _ h
       ·exact cq _ _ h
      exact ⟨by simp [az,bO,ag],rfl,fun _ h=>h⟩
     ·by_cases dG:ar=b
      ·subst dG;exact ah.base _ l ad
      ·simp only [az,dG,if_false] at ag;exact ah.base ar l' ag
    have cr:=(bY.push cap (o:=.dead) trivial);(have l0:(J++[b,cap])[H.length]?=some b:=by rw [←ah.cG];simp);(have l1:(J++[b,cap])[H.length+1]?=some cap:=by rw [←ah.cG];simp);refine ⟨az,J++[b,cap],S,Ext.append J _,aA,⟨by simp [ah.cG],fun bA o bK=>?_,ah.ch,bY.base,ah.cZ⟩,.cn _ _ _ _ b cap l0 l1 af,trivial⟩;rcases vu bA H.length with ak | rfl | ak
    ·rw [se ak] at bK;exact (bY.obj bA o bK).frame (Ext.append J _) (fun b o ai=>⟨ai,rfl⟩) fun b l ag _=>⟨ag,rfl,fun o ai=>ai⟩
    ·rw [sB (rX _)] at bK;simp only [tT,ua,Option.some.injEq] at bK;subst bK;refine ⟨b,cur,e,l0,by simp [az],bX,by rw [cP,bN];exact tj _ af,cX,fun j u v hu ae=>?_,cap,l1,aG,a7,cP⟩;obtain ⟨ba,bm,bt⟩:=cT j u v hu ae;exact ⟨I.ga ba,bm,bt.mono (Ext.append J _) aA.set,aW.b5 ba⟩
    ·rw [sB (by omega)] at bK;obtain ⟨k,av⟩:∃ k,bA-H.length=k+1:=⟨bA-H.length-1,by omega⟩;rw [av] at bK;cases k with
     | zero=>simp at bK;subst bK;trivial
     | succ k=>simp at bK
theorem E7 (ah:aL B U J S w H) {lo:Nat} {ts:Array TypeId} (ty:TypeId) {u x r:I} {v cC:Value} {cx dK:aI} (cc:∀ id,cx≠.obj id) (cq:∀ id j,cx≠.cell id j) (df:∀ id,dK≠.obj id) (dg:∀ id j,dK≠.cell id j) (bO:cx≠dK)
  {H':List au} (h:ic P lo ts H [u,x]=some (r,H')) (aj:Rel J S w u v) (aq:aW U J S w cx u v) (eg:Rel J S w x cC) (h6:aW U J S w dK x cC) :
  ∃ y w',(Builtin.append_ ts ty #[v,cC]).run P w=.ok y w'∧a2 B U J S w H' r y w':=by
 unfold ic at h;simp only at h;split at h
 ·rename_i t dp g4;obtain rfl:ts=#[t,dp]:=by rw [←t_ (xs:=ts),g4]
  split at h
  ·
   rename_i s c n gx;split at h
   ·rename_i cells iV z eJ;split at h
    ·simp at h
    ·rename_i aN;simp only [Option.some.injEq,Prod.mk.injEq] at h;obtain ⟨rfl,rfl⟩:=h;obtain ⟨y,w',q1,bp,cj,bJ,bT,b6,eD,fM,mE⟩:=AQ ah ty cc cq df dg bO eJ aj aq eg h6;have q:=D' eD (l:=.res) (by simp) (by simp) aN fM mE;exact ⟨y,w',q1,a2.after bT b6 q⟩
   ·simp at h
  ·
   rename_i s id gid len z;split at h
   ·split at h
    ·rename_i e l g cW ax aE;split at h
     ·rename_i sz bytes gj m new bR ag bo eJ;split at h
      ·rename_i ao;obtain ⟨rfl,rfl,rfl,rfl,ak,c0,aT,hm,ep,yX,eo⟩:=ao;simp only [Option.some.injEq,Prod.mk.injEq] at h;obtain ⟨rfl,rfl⟩:=h;obtain ⟨i,hi,rfl⟩:=mR bR;simp only [hi,sc,Option.some.injEq] at ag;subst ag;obtain ⟨a5,aJ,aP,bY,jO⟩:=mu ah df dg eg h6;have dc:bh U S w U a5 w:=bh.settle aJ fun b o h=>(aP b o h).imp (fun h=>h) fun h=>⟨_,h⟩;obtain ⟨nB,dw,hi',er,fG⟩:=hO (J:=J) (S:=a5) (w:=w) bo;rw [hi] at hi';cases hi';(have kH:gj.length=dw.cells.size:=by simpa using fG.len);(have gB:dw.cells.size=i.size:=by omega);obtain ⟨q1,aX⟩:=ik eo;replace eJ:=x6 eJ;have aV:=(rV.1 aE).1;obtain ⟨ar,cN,dW,vs,rfl,hnew,bx⟩:∃ b o c vs,cC=.slice (some ⟨b,o,none⟩) m c∧c5 J a5 w new vs∧(∀ j y,vs[j]?=some y→w.cell? ⟨b,o+j,none⟩=some y):=by
        rcases x5 bY eJ jO (I.ga (I.dh x)) with ⟨ad,_,c,rfl⟩ | h
        ·rw [ad] at c0;simp at c0;have:=vw hm aT;omega
        ·exact h
       have eL:vs.length=m*i.size:=hnew.len ▸ c0;obtain ⟨b,cur,ce,aB,aH,aR,bl,bc,bg,cap,c2,db,dE,fw⟩:=bY.obj id _ aE;cases aj with
       | cn _ _ _ _ dy F5 iH yG hle =>
         rw [aB] at iH;cases iH;rw [c2] at yG;cases yG;have en:∀ u∈vs,u.oneCell'=true:=fun u hu=>by
          obtain ⟨j,aw⟩:=tu.1 hu;have aV:=(rV.1 aw).1;exact (hnew.rel j _ u (sd (hnew.len ▸ aV)) aw).2.1
         have Cd:b<w.heap.size:=(sS.1 aR).1
         suffices ai:∃ y w',(Builtin.append_ #[t,t] ty #[.slice (some ⟨b,0,none⟩) len cap,.slice (some ⟨ar,cN,none⟩) m dW]).run P w=.ok y w'∧a2 B U J a5 w (H.set id .dead++[.grow (l++new) (H.length+1) i.size,.dead]) (.cn H.length (H.length+1) (len+m) i.size) y w' by
          obtain ⟨y,w',bT,b6⟩:=ai;exact ⟨y,w',bT,a2.after (Ext.refl J) dc b6⟩
         by_cases dH:len+m≤cap
         ·have jD:(len+m)*i.size≤cap*i.size:=tj _ dH;rw [tp] at jD;have aj:=Av (P:=P) w t ty e i ax hi b len cap cur ce aR ⟨ar,cN,none⟩ m dW vs eL (fun j x h=>by rw [add_lit];exact bx j x h) en dH (by rw [fw];omega);(have ad:cur.toList.length=cap*i.size:=by simp [fw]);refine ⟨_,_,aj,?_⟩;refine zM bY aV aH bc bg (nb:=b) (cap1:=cap) (e1:=ce) (hnew:=hnew) (by exact rfl) (by exact rfl) (by exact rfl) (by simp [World.setRow]) (fun bq _ eV=>by exact setRow_other w b bq _ eV) (.inl rfl) (by simpa [World.setRow] using Cd) (by exact setRow_heap w b cur _ ce (0,0) aR) ?_ db dE ?_ (fun j aw=>?_) (fun j v aw=>?_) dH
          ·rw [tG,sj,sj,s_,tV,ad,eL,tL (by omega)];omega
          ·rw [tG,sj,sj,s_,tV,ad,eL,tL (by omega),ak,c0];omega
          ·have:=j6 cur.toList vs (len*i.size) j (by rw [ad];omega);rw [if_neg (by omega)] at this;simpa using this
          ·have lY:=(rV.1 aw).1;have:=j6 cur.toList vs (len*i.size) (l.length+j) (by rw [ad];omega);rw [if_pos ⟨by omega,by omega⟩,ak,show len*i.size+j-len*i.size=j by omega,aw] at this;rw [ak];simpa using this
         ·have CI:len+m≤140737488355328:=sJ (tZ _ aX) q1;(have ek:len+m≤maxLen:=by simp only [maxLen];omega);have cE:len*i.size≤cap*i.size:=tj _ hle;have fH:(cur.toList.take (len*i.size)).length=len*i.size:=by rw [s_];simp;omega
          have aj:=run_append_grow (P:=P) w t ty e i dw ax hi er ⟨b,0,none⟩ len cap (cur.toList.take (len*i.size)) fH (fun j x h=>by
           rw [sR] at h;split at h
           ·rw [add_lit,sP,cell_of_row w b _ cur ce (0,0) aR];simpa using h
           ·simp at h) ⟨ar,cN,none⟩ m dW vs eL (fun j x h=>by rw [add_lit];exact bx j x h) (by omega) (by omega) (growslice_fits (by omega) q1)
          have e9:=grownCap_ge w (len+m) cap e;have yJ:=grownCap_le_maxLen w (len+m) cap e ek;generalize grownCap w (len+m) cap e=e7 at e9 yJ aj;refine ⟨_,_,aj,?_⟩;refine zM bY aV aH bc bg (nb:=w.heap.size) (cap1:=e7) (e1:=e) (hnew:=hnew) (by exact rfl) (by exact rfl) (by exact rfl) (by simp) (fun bq eV _=>by exact heap_alloc_old w.drew _ bq eV) (.inr rfl) (by simp) (by exact heap_alloc_new w.drew _) ?_ yJ dE ?_ (fun j aw=>?_) (fun j v aw=>?_) e9
          ·simp only [u5,tG,fH,eL,size_zeroCells,gB];rw [←tp,←tp];congr 1;omega
          ·simp only [u5,tG,fH,eL,size_zeroCells,gB,ak,c0];omega
          ·rw [ak] at aw;rw [vA (by simp only [u5,tG,fH];omega),vA (by simp only [tG,fH];omega)];simp [aw]
          ·have lY:=(rV.1 aw).1;rw [ak,vA (by simp only [u5,tG,fH];omega),Array.getElem?_append_right (by simp only [tG,fH];omega)];simp only [tG,fH,show len*i.size+j-len*i.size=j by omega];simpa using aw
      ·simp at h
     ·simp at h
    ·simp at h
   ·simp at h
  ·simp at h
 ·simp at h
theorem E1 (ah:aL B U J S w H) (lo:Nat) (vs:List I):aL B U J S w (jb lo H vs):=by
 unfold jb;split
 ·rename_i id _ len z _;split
  ·rename_i l g cW aE;split
   ·refine ⟨by simpa using ah.cG,fun bA o aq=>?_,ah.ch,ah.base,ah.cZ⟩;by_cases cw:bA=id
    ·subst cw;rw [rY (rV.1 aE).1] at aq;cases aq;obtain ⟨b,cur,e,aB,aH,aR,bl,bc,bg,c2⟩:=ah.obj bA _ aE;refine ⟨b,cur,e,aB,aH,aR,sJ (by rw [s_];omega) bl,bc,fun j u v hu ae=>?_,c2⟩;rw [sR] at hu;split at hu
     ·exact bg j u v hu ae
     ·simp at hu
    ·rw [sa (Ne.symm cw)] at aq;exact ah.obj bA o aq
   ·exact ah
  ·exact ah
 ·exact ah
theorem E6 (ah:aL B U J S w H) {lo:Nat} {ts:Array TypeId} (ty:TypeId) {u x r:I} {v cC:Value} {cx dK:aI} (cc:∀ id,cx≠.obj id) (cq:∀ id j,cx≠.cell id j) (df:∀ id,dK≠.obj id) (dg:∀ id j,dK≠.cell id j) (bO:cx≠dK)
  {H':List au} (h:iY P lo ts H [u,x]=some (r,H')) (aj:Rel J S w u v) (aq:aW U J S w cx u v) (eg:Rel J S w x cC) (h6:aW U J S w dK x cC) :
  ∃ y w',(Builtin.append_ ts ty #[v,cC]).run P w=.ok y w'∧a2 B U J S w H' r y w' :=
 E7 (E1 ah lo [u,x]) ty cc cq df dg bO h aj aq eg h6
end
end Go.Proofs.YtfakoboiahbhaaaGreat.Ab


namespace Go.Proofs.YtfakoboiahbhaaaGreat.Ab
open Go
section
variable {P:Program} {B:Nat} {J:List Nat} {w:World} {H:List au} {U:Nat→Option aI} {S:Nat→Nat→Prop}
theorem mj {ts:Array TypeId} (h:iS P ts[0]?=true):∃ t e,ts[0]?=some t∧P.underlying t=some (.slice e):=by
 unfold iS at h;split at h
 ·rename_i e he;simp only [sb] at he;obtain ⟨t,ad,af⟩:=he;exact ⟨t,e,ad,af⟩
 ·simp at h
theorem Fg (ah:aL B U J S w H) {ts:Array TypeId} (ty:TypeId) {u r:I} {H':List au} {v:Value} (h:hb P ts H [u]=some (r,H')) (aj:Rel J S w u v) :
  ∃ y,(Builtin.len_ ts ty #[v]).run P w=.ok y w∧a2 B U J S w H' r y w:=by
 simp only [hb] at h;split at h
 ·split at h
  ·rename_i ai;obtain ⟨t,e,ax,he⟩:=mj ai;simp only [Option.some.injEq,Prod.mk.injEq] at h;obtain ⟨rfl,rfl⟩:=h;have ae:∃ a c,v=.slice a _ c:=mr (n:=_) rfl aj;obtain ⟨a,c,rfl⟩:=ae;exact ⟨_,by simp [Builtin.len_,ax,run_underlying he,goInt],a2.same ah (.int _ _) rfl⟩
  ·simp at h
 ·split at h
  ·rename_i ai;obtain ⟨t,e,ax,he⟩:=mj ai;simp only [Option.some.injEq,Prod.mk.injEq] at h;obtain ⟨rfl,rfl⟩:=h;have ae:∃ a c,v=.slice a _ c:=mr (n:=_) rfl aj;obtain ⟨a,c,rfl⟩:=ae;exact ⟨_,by simp [Builtin.len_,ax,run_underlying he,goInt],a2.same ah (.int _ _) rfl⟩
  ·simp at h
 ·split at h
  ·rename_i _ _ ax aE;simp only [sb] at ax;obtain ⟨t,ax,he⟩:=ax;simp only [Option.some.injEq,Prod.mk.injEq] at h;obtain ⟨rfl,rfl⟩:=h;obtain ⟨b,bz,aB,aH,aR,bl,bc,bg⟩:=ah.obj _ _ aE;cases aj with
   | map _ ar k =>
     rw [aB] at k;cases k;exact ⟨_,by simp [Builtin.len_,ax,run_underlying he,goInt,getObj,Sem.run,aR,bl],a2.same ah (.int _ _) rfl⟩
  ·simp at h
 ·split at h
  ·rename_i n e he;simp only [sb] at he;obtain ⟨t,ax,he⟩:=he;simp only [Option.some.injEq,Prod.mk.injEq] at h;obtain ⟨rfl,rfl⟩:=h;exact ⟨_,by simp [Builtin.len_,ax,run_underlying he,goInt],a2.same ah (.int _ _) rfl⟩
  ·simp at h
theorem Fa (ah:aL B U J S w H) {ts:Array TypeId} (ty:TypeId) {u r:I} {H':List au} {v:Value} (h:jV P ts H [u]=some (r,H')) (aj:Rel J S w u v) :
  ∃ y,(Builtin.cap_ ts ty #[v]).run P w=.ok y w∧a2 B U J S w H' r y w:=by
 unfold jV at h;split at h
 ·rename_i cs n heq;simp only [List.cons.injEq,and_true] at heq;subst heq;split at h
  ·rename_i ai;obtain ⟨t,e,ax,he⟩:=mj ai;simp only [Option.some.injEq,Prod.mk.injEq] at h;obtain ⟨rfl,rfl⟩:=h;have ae:∃ a,v=.slice a n n:=by
    cases aj with
    | b3=>exact ⟨_,rfl⟩
    | ay _ _ _ b o cap f ao=>exact ⟨_,by rw [ao rfl]⟩
   obtain ⟨a,rfl⟩:=ae;exact ⟨_,by simp [Builtin.cap_,ax,run_underlying he,goInt],a2.same ah (.int _ _) rfl⟩
  ·simp at h
 ·rename_i id off len n sz heq;simp only [List.cons.injEq,and_true] at heq;subst heq;split at h
  ·rename_i ai;obtain ⟨t,e,ax,he⟩:=mj ai;simp only [Option.some.injEq,Prod.mk.injEq] at h;obtain ⟨rfl,rfl⟩:=h;have ae:∃ a,v=.slice a len n:=by
    cases aj with
    | ref _ _ _ _ _ b cap _ ao=>exact ⟨_,by rw [ao n rfl]⟩
   obtain ⟨a,rfl⟩:=ae;exact ⟨_,by simp [Builtin.cap_,ax,run_underlying he,goInt],a2.same ah (.int _ _) rfl⟩
  ·simp at h
 ·simp at h
theorem AG {k:IntKind}:∀ (us:List I) (a n:Int) (vs:List Value) (bB:Nat→aI),kQ us a=some n→a_ bB U J S w us vs→(vs.foldlM Builtin.min2 (.int k a)).run P w=.ok (.int k n) w
 | [],a,n,vs,bB,h,ae=>by
   cases vs with
   | cons=>exact absurd ae.len (by simp)
   | nil=>simp only [kQ,Option.some.injEq] at h;subst h;rfl
 | u::us,a,n,vs,bB,h,ae=>by
   obtain ⟨v1,t1,rfl,aS,_,dB⟩:=ae.gN;unfold kQ at h;split at h
   ·rename_i heq;simp at heq
   ·rename_i k' b r _ heq;simp only [List.cons.injEq] at heq;obtain ⟨rfl,rfl⟩:=heq;have e1:=aS.dd;subst e1;simp only [List.foldlM_cons,Builtin.min2,pure_bind];exact AG _ _ _ _ _ h dB
   ·cases h
theorem AF {k:IntKind}:∀ (us:List I) (a n:Int) (vs:List Value) (bB:Nat→aI),kP us a=some n→a_ bB U J S w us vs→(vs.foldlM Builtin.max2 (.int k a)).run P w=.ok (.int k n) w
 | [],a,n,vs,bB,h,ae=>by
   cases vs with
   | cons=>exact absurd ae.len (by simp)
   | nil=>simp only [kP,Option.some.injEq] at h;subst h;rfl
 | u::us,a,n,vs,bB,h,ae=>by
   obtain ⟨v1,t1,rfl,aS,_,dB⟩:=ae.gN;unfold kP at h;split at h
   ·rename_i heq;simp at heq
   ·rename_i k' b r _ heq;simp only [List.cons.injEq] at heq;obtain ⟨rfl,rfl⟩:=heq;have e1:=aS.dd;subst e1;simp only [List.foldlM_cons,Builtin.max2,pure_bind];exact AF _ _ _ _ _ h dB
   ·cases h
theorem Fq {us:List I} {r:I} (ts:Array TypeId) (ty:TypeId) {bB:Nat→aI} {vs:List Value} (h:nO us=some r) (ae:a_ bB U J S w us vs) :
  ∃ y,(Builtin.min_ ts ty vs.toArray).run P w=.ok y w∧Rel J S w r y∧r.plain=true:=by
 unfold nO at h;split at h
 ·simp only [rU] at h;obtain ⟨n,h,rfl⟩:=h;obtain ⟨v1,t1,rfl,aS,_,dB⟩:=ae.gN;have e1:=aS.dd;subst e1;exact ⟨_,by simp only [Builtin.min_];exact AG _ _ _ _ _ h dB,.int _ _,rfl⟩
 ·simp at h
theorem Fp {us:List I} {r:I} (ts:Array TypeId) (ty:TypeId) {bB:Nat→aI} {vs:List Value} (h:nN us=some r) (ae:a_ bB U J S w us vs) :
  ∃ y,(Builtin.max_ ts ty vs.toArray).run P w=.ok y w∧Rel J S w r y∧r.plain=true:=by
 unfold nN at h;split at h
 ·simp only [rU] at h;obtain ⟨n,h,rfl⟩:=h;obtain ⟨v1,t1,rfl,aS,_,dB⟩:=ae.gN;have e1:=aS.dd;subst e1;exact ⟨_,by simp only [Builtin.max_];exact AF _ _ _ _ _ h dB,.int _ _,rfl⟩
 ·simp at h
theorem Bg (ah:aL B U J S w H) {lo id off len sz n:Nat} {H':List au} {cs:List I} {vs:List Value} (eB:c5 J S w cs vs) (cE:cs.length=n) (aN:n≤len*sz)
  (h:g9 lo H id (fun l=>if off+len*sz≤l.length then some (setCells off cs l) else none)=some H') {b:Nat} (ag:J[id]?=some b) :
  ∃ w',(storeCells ⟨b,off,none⟩ vs).run P w=.ok () w'∧∃ az,bh U S w az S w'∧aL B az J S w' H'∧∃ cur e cur' cO,w.heap[b]?=some (.cells cur e (0,0))∧w'.heap[b]?=some (.cells cur' cO (0,0))∧cur'.size=cur.size:=by
 unfold g9 at h;split at h
 ·split at h
  ·rename_i ll aE;simp only [rU] at h;obtain ⟨l',dA,rfl⟩:=h;split at dA
   ·rename_i ao;cases dA;obtain ⟨ar,cur,e,aB,aH,aR,bl,bc,bg⟩:=ah.obj id _ aE;rw [ag] at aB;cases aB;have pM:vs.length=n:=eB.len ▸ cE;have en:∀ u∈vs,u.oneCell'=true:=fun u hu=>by
     obtain ⟨j,aw⟩:=tu.1 hu;have aV:=(rV.1 aw).1;exact (eB.rel j _ u (sd (eB.len ▸ aV)) aw).2.1
    have cL:=run_storeCells_at P b off e vs 0 cur w aR (by omega) en;simp only [tJ] at cL;obtain ⟨az,aA,cf⟩:=xg (cur':=(cur.toList.take off++vs++cur.toList.drop (off+vs.length)).toArray) (l':=setCells off cs ll) ah aE ag aH aR bc .res (by simp) (by simp)
     (by simp [mO];omega) 0 (fun j bI bu hu ae=>by
      rw [n' _ _ _ _ (by omega)] at hu;(have ae:(cur.toList.take off++vs++cur.toList.drop (off+vs.length))[j]?=some bu:=by simpa using ae);rw [j6 cur.toList vs off j (by have Ci:cur.toList.length=cur.size:=tt;omega)] at ae;rw [eB.len] at hu;split at hu
      ·rename_i aw;rw [if_pos aw] at ae;obtain ⟨ba,bm,bt⟩:=eB.rel _ bI bu hu ae;exact ⟨I.ga ba,bm,bt,.inl ba⟩
      ·rename_i aw;rw [if_neg aw] at ae;obtain ⟨d1,d0,d2,d3⟩:=bg j bI bu hu (by simpa using ae)
       exact ⟨d1,d0,d2,.inr (.inl d3)⟩)
    exact ⟨_,cL,az,aA,cf,cur,e,_,e,aR,setRow_heap w b cur _ e (0,0) aR,by have Ci:cur.toList.length=cur.size:=tt;simp;omega⟩
   ·simp at dA
  ·simp at h
 ·simp at h
theorem Bf (ah:aL B U J S w H) {lo id off len sz n:Nat} {H':List au} {cs:List I} {vs:List Value} (eB:c5 J S w cs vs) (cE:cs.length=n) (aN:n≤len*sz)
  (h:g9 lo H id (fun l=>if off+len*sz≤l.length then some (setCells off cs l) else none)=some H') {b:Nat} (ag:J[id]?=some b) :
  ∃ w',(storeCells ⟨b,off,none⟩ vs).run P w=.ok () w'∧∃ az,bh U S w az S w'∧aL B az J S w' H':=by
 obtain ⟨w',ad,az,af,aG,_⟩:=Bg (P:=P) ah eB cE aN h ag;exact ⟨w',ad,az,af,aG⟩
theorem FU (ah:aL B U J S w H) {lo id off len sz n:Nat} {H':List au} {cs:List I} {vs:List Value} (eB:c5 J S w cs vs) (cE:cs.length=n) (aN:n≤len*sz)
  (h:g_ lo H id (fun l=>if off+len*sz≤l.length then some (setCells off cs l) else none)=some H') {b:Nat} (ag:J[id]?=some b) :
  ∃ w',(storeCells ⟨b,off,none⟩ vs).run P w=.ok () w'∧∃ az,bh U S w az S w'∧aL B az J S w' H':=by
 unfold g_ at h;split at h
 ·rename_i bF;split at h
  ·rename_i ll aE;exact Bf (P:=P) (lo:=lo) ah eB cE aN (by unfold g9;rw [if_pos bF,aE];exact h) ag
  ·rename_i ll g z aE;simp only [rU] at h;obtain ⟨l',dA,rfl⟩:=h;have aV:=(rV.1 aE).1;obtain ⟨dy,cur,e,aB,aH,aR,bl,bc,bg,cap,c2,db,dE,fw⟩:=ah.obj id _ aE;rw [ag] at aB;cases aB
   obtain ⟨w',q1,az,aX,cB,BP,fT,jv,e1,dQ,mI,xl⟩:=Bg (P:=P) (lo:=lo) (id:=id) (H':=(H.set id (.cells ll)).set id (.cells l')) (ah.oi aE) eB cE aN (by
    unfold g9;rw [if_pos bF,rY aV];exact congrArg (Option.map _) dA) ag
   rw [aR] at dQ;cases dQ;have aO:=cB.xq (g:=g) (z:=z) (by rw [rY (by simpa using aV)]) ag c2 db dE mI (by rw [xl,fw]);rw [rZ,rZ] at aO;exact ⟨w',q1,az,aX,aO⟩
  ·simp at h
 ·simp at h
theorem Fc (ah:aL B U J S w H) {lo:Nat} {ts:Array TypeId} (ty:TypeId) {u x r:I} {H':List au} {v cC:Value} {dK:aI} (df:∀ id,dK≠.obj id) (dg:∀ id j,dK≠.cell id j)
  (h:jW P lo ts H [u,x]=some (r,H')) (aj:Rel J S w u v) (eg:Rel J S w x cC) (h6:aW U J S w dK x cC) :
  ∃ y w',(Builtin.copy_ ts ty #[v,cC]).run P w=.ok y w'∧a2 B U J S w H' r y w':=by
 obtain ⟨a5,aJ,aP,bY,jO⟩:=mu ah df dg eg h6;have dc:bh U S w U a5 w:=bh.settle aJ fun b o h=>(aP b o h).imp (fun h=>h) fun h=>⟨_,h⟩;unfold jW at h;split at h
 ·rename_i id off len cap sz oo heq;simp only [List.cons.injEq,and_true] at heq;obtain ⟨rfl,rfl⟩:=heq;split at h
  ·rename_i e he;simp only [sb] at he;obtain ⟨t,ax,he⟩:=he;split at h
   ·rename_i s m row ai hm cU;split at h
    ·rename_i ao;obtain ⟨rfl,C4⟩:=ao;simp only [rU] at h;obtain ⟨a3,hw,h⟩:=h;simp only [Prod.mk.injEq] at h;obtain ⟨rfl,rfl⟩:=h;have CN:lenOf x.view=some m:=by
      cases x <;> try exact hm
      ·rename_i c;cases c <;> exact hm
      ·simp [lenOf] at hm
     have nx:rowOf H x.view=some row:=by
      cases x <;> try exact cU
      ·rename_i c;cases c <;> exact cU
      ·simp [rowOf] at cU
     have h7:=I.ga (I.dh x);cases aj with
     | ref _ _ _ _ _ b cap' ag Cg hle =>
       obtain ⟨a,c,fZ⟩:=mr CN jO;have C7:∃ vs,c5 J a5 w row vs∧∀ n,n≤m→(Builtin.firstCells s n cC).run P w=.ok (vs.take (n*s)).toArray w:=by
        rcases xF bY nx jO h7 with ⟨aT,n,dW,ae⟩ | ⟨cK,bS,n,dW,vs,ae,gz,bx⟩
        ·refine ⟨[],⟨by simp [aT],by simp [aT]⟩,fun iV aN=>?_⟩;(have Gd:m=0:=by rw [ae] at fZ;cases fZ;rfl);rw [ae];(obtain rfl:iV=0:=by omega);cases n <;> simp [Builtin.firstCells,loadCells,loadCellsFrom]
        ·refine ⟨vs,gz,fun iV aN=>?_⟩;rw [ae] at fZ ⊢;cases fZ;have pM:vs.length=m*s:=gz.len ▸ C4;have CH:iV*s≤m*s:=tj _ aN
         exact run_firstCells_some (P:=P) w s iV ⟨cK,bS,none⟩ m c (vs.take (iV*s)) (by simp;omega) (fun j y a1=>by
          rw [sR] at a1;split at a1
          ·rw [add_lit];exact bx j y a1
          ·simp at a1)
       obtain ⟨vs,gz,Cr⟩:=C7;have Ge:min m len*s≤m*s:=tj _ (Nat.min_le_left _ _)
       have Cl:c5 J a5 w (row.take (min m len*s)) (vs.take (min m len*s)):=⟨by simp [gz.len],fun j bI bu ca bd=>by
        rw [sR] at ca bd;split at ca
        ·rename_i aw;rw [if_pos aw] at bd;exact gz.rel j bI bu ca bd
        ·simp at ca⟩
       obtain ⟨w',cL,az,aA,cf⟩:=Bf (P:=P) (n:=min m len*s) bY Cl (by simp;omega) (tj _ (Nat.min_le_right _ _)) hw ag;refine ⟨.int .i64 (min m len:Nat),w',?_,az,J,a5,Ext.refl J,dc.trans aA,cf,.int _ _,aW.b5 rfl⟩;subst fZ;have aQ:=Cr (min m len) (Nat.min_le_left _ _);simp only [Builtin.copy_,ax,List.getElem?_toArray,ua,List.getElem?_cons_succ,Sem.run_bind,run_underlying he,Result.andThen_ok,Builtin.lenOf,Sem.run_pure,run_sizeOf ai];rw [show Nat.min m len=min m len from rfl,aQ];simp [cL,goInt]
    ·simp at h
   ·simp at h
  ·simp at h
 ·simp at h
theorem Fb (ah:aL B U J S w H) {lo:Nat} {ts:Array TypeId} (ty:TypeId) {u r:I} {H':List au} {v:Value} (h:kU P lo ts H [u]=some (r,H')) (aj:Rel J S w u v) :
  ∃ y w',(Builtin.clear_ ts ty #[v]).run P w=.ok y w'∧a2 B U J S w H' r y w':=by
 have done:∀ {a3:List au},aL B U J S w a3→a2 B U J S w a3 (.tuple []) (.tuple #[]) w:=fun cr=>a2.same cr (.tuple [] #[] rfl (by simp) (by simp)) rfl;unfold kU at h;split at h
 ·rename_i id off len cap sz heq;simp only [List.cons.injEq,and_true] at heq;subst heq;split at h
  ·rename_i e he;simp only [sb] at he;obtain ⟨t,ax,he⟩:=he;split at h
   ·rename_i s z ai bo;split at h
    ·rename_i ao;obtain ⟨rfl,ep,bR⟩:=ao;simp only [rU,Prod.mk.injEq] at h;obtain ⟨a3,hw,rfl,rfl⟩:=h;obtain ⟨i,dw,hi,er,fG⟩:=hO (J:=J) (S:=S) (w:=w) bo;have fJ:=mT fG (by omega) len;cases aj with
     | ref _ _ _ _ _ b cap' ag Cg hle =>
       obtain ⟨w',cL,az,aA,cf⟩:=FU (P:=P) (n:=len*s) ah fJ (by rw [ij,ep]) (rX _) hw ag;(have kH:z.length=dw.cells.size:=by simpa using fG.len);have heq:(Builtin.zeroCells dw.cells len).toList=((Array.range (len*z.length)).map (fun i=>dw.cells[i % dw.cells.size]!)).toList:=by
        simp [Builtin.zeroCells,kH]
       rw [←heq] at cL;cases len with
       | zero =>
         have me:w'=w:=by
          (have aT:(Builtin.zeroCells dw.cells 0).toList=[]:=by simp [Builtin.zeroCells]);rw [aT] at cL;simp [storeCells] at cL;exact cL.symm
         subst me;refine ⟨.tuple #[],w',by simp [Builtin.clear_,ax,run_underlying he],az,J,S,Ext.refl J,aA,cf,.tuple [] #[] rfl (by simp) (by simp),aW.b5 rfl⟩
       | succ n =>
         refine ⟨.tuple #[],w',?_,az,J,S,Ext.refl J,aA,cf,.tuple [] #[] rfl (by simp) (by simp),aW.b5 rfl⟩;simp [Builtin.clear_,ax,run_underlying he,j5 hi er,cL]
    ·simp at h
   ·simp at h
  ·simp at h
 ·rename_i c heq;simp only [List.cons.injEq,and_true] at heq;subst heq;split at h
  ·rename_i ai;obtain ⟨t,e,ax,he⟩:=mj ai;simp only [Option.some.injEq,Prod.mk.injEq] at h;obtain ⟨rfl,rfl⟩:=h;have ae:∃ a c,v=.slice a 0 c:=mr (n:=0) rfl aj;obtain ⟨a,c,rfl⟩:=ae;refine ⟨.tuple #[],w,?_,done ah⟩;cases a <;> simp [Builtin.clear_,ax,run_underlying he]
  ·simp at h
 ·simp at h
theorem yt (off:Nat):∀ (xs:List Value) (k:Nat) (cells:Array Value) (j:Nat),off+k+xs.length≤cells.size →
  ((xs.zipIdx k).foldl (fun cs (x:Value×Nat)=>cs.setIfInBounds (off+x.2) x.1) cells)[j]?=if off+k≤j∧j<off+k+xs.length then xs[j-(off+k)]? else cells[j]?
 | [],k,cells,j,_=>by simp;omega
 | x::xs,k,cells,j,h=>by
   simp only [sD] at h;simp only [List.zipIdx_cons,List.foldl_cons];rw [yt off xs (k+1) _ j (by simp;omega)];by_cases ad:j=off+k
   ·subst ad;rw [if_neg (by omega),if_pos (by simp)];simp [show off+k<cells.size by omega]
   ·by_cases af:off+(k+1)≤j∧j<off+(k+1)+xs.length
    ·rw [if_pos af,if_pos (by simp;omega)];obtain ⟨m,rfl⟩:∃ m,j=off+(k+1)+m:=⟨j-(off+(k+1)),by omega⟩;rw [show off+(k+1)+m-(off+(k+1))=m by omega,show off+(k+1)+m-(off+k)=m+1 by omega];simp
    ·rw [if_neg af,if_neg (by simp;omega),Array.getElem?_setIfInBounds_ne (by omega)]
theorem D7 {u:I} {v:Value} {bH:List I} (ao:u.cells=some bH) (aj:Rel J S w u v) (aC:u.plain=true):c5 J S w bH v.cells.toList:=by
 have single:bH=[u]→v.cells=#[v]→v.oneCell'=true→c5 J S w bH v.cells.toList:=by
  intro ad af aG;subst ad;rw [af];refine ⟨rfl,fun j bI bu hu ae=>?_⟩;cases j with
  | zero=>simp at hu ae;subst hu ae;exact ⟨aC,aG,aj⟩
  | succ j=>simp at hu
 cases aj with
 | agg as vs h p one r =>
   simp [I.cells] at ao;subst ao;exact ⟨by simpa [Value.cells] using h.symm,fun j bI bu hu ae=>⟨p bI (sA hu),one bu (sA ae),r j bI bu hu (by simpa [Value.cells] using ae)⟩⟩
 | junk v=>simp [I.cells] at ao
 | tuple as vs h p r=>simp [I.cells] at ao
 | raw=>simp [I.cells] at ao
 | _=>simp [I.cells] at ao;exact single ao.symm rfl rfl
theorem nf {place:Nat→Option (Nat×Nat)}:∀ (parts:List (Nat×I)) (parts':List (Nat×Value)) (cs c_:List I) (vs:Array Value),
  parts.map (·.1)=parts'.map (·.1)→(∀ (j:Nat) (x:Nat×I) (y:Nat×Value),parts[j]?=some x→parts'[j]?=some y→x.2.plain=true∧Rel J S w x.2 y.2) →
  gq place cs parts=some c_→c5 J S w cs vs.toList→∃ dv,Instr.fill place vs parts'=some dv∧c5 J S w c_ dv.toList
 | [],parts',cs,c_,vs,hi,_,h,ao=>by
   cases parts' with
   | nil=>simp [gq] at h;subst h;exact ⟨vs,rfl,ao⟩
   | cons=>simp at hi
 | (i,u)::parts,parts',cs,c_,vs,hi,b',h,ao=>by
   cases parts' with
   | nil=>simp at hi
   | cons y parts' =>
     obtain ⟨nB,v⟩:=y;simp only [List.map_cons,List.cons.injEq] at hi;obtain ⟨rfl,hi⟩:=hi;obtain ⟨aC,aj⟩:=b' 0 (i,u) (i,v) rfl rfl;simp only [gq] at h;split at h
     ·rename_i off size h7;split at h
      ·rename_i bH fI;split at h
       ·rename_i gX;obtain ⟨bR,hle⟩:=gX;have eB:=D7 fI aj aC;(have pM:v.cells.size=size:=by have:=eB.len;simp at this;omega);(have cE:vs.size=cs.length:=by have:=ao.len;simp at this;omega);have bw:c5 J S w (setCells off bH cs) (v.cells.zipIdx.foldl (fun cs (x:Value×Nat)=>cs.setIfInBounds (off+x.2) x.1) vs).toList:=by
         refine ⟨?_,fun j bI bu hu ae=>?_⟩
         ·rw [mO];have pe:∀ (l:List (Value×Nat)) (a:Array Value),(l.foldl (fun cs (x:Value×Nat)=>cs.setIfInBounds (off+x.2) x.1) a).size=a.size:=by
           intro l;induction l with
           | nil=>intro a;rfl
           | cons x l a'=>intro a;simp [a']
          have:=pe v.cells.zipIdx.toList vs;simp only [tt];rw [←cE,←this,←vD]
         ·rw [n' _ _ _ _ (by omega)] at hu;have aO:=yt off v.cells.toList 0 vs j (by simp;omega);(have dB:(v.cells.zipIdx.foldl (fun cs (x:Value×Nat)=>cs.setIfInBounds (off+x.2) x.1) vs)[j]?=some bu:=by simpa using ae);rw [←vD,Array.toList_zipIdx] at dB;rw [aO] at dB;simp only [tJ,tt,pM] at dB;rw [bR] at hu;split at hu
          ·rename_i aw;rw [if_pos aw] at dB;exact eB.rel _ bI bu hu dB
          ·rename_i aw;rw [if_neg aw] at dB;exact ao.rel j bI bu hu (by simpa using dB)
        obtain ⟨dv,ad,af⟩:=nf parts parts' (setCells off bH cs) c_ _ hi (fun j x y al a1=>b' (j+1) x y (by simpa using al) (by simpa using a1)) h bw;exact ⟨dv,by simp only [Instr.fill,h7];rw [if_neg (by simp;omega)];exact ad,af⟩
       ·simp at h
      ·simp at h
     ·simp at h
end
end Go.Proofs.YtfakoboiahbhaaaGreat.Ab


namespace Go.Proofs.YtfakoboiahbhaaaGreat.Ab
open Go
section
variable {P:Program} {B:Nat} {J:List Nat} {w:World} {H:List au} {U:Nat→Option aI} {S:Nat→Nat→Prop}
theorem AE {α β:Type} (g:α→Sem β) (h:α→β):∀ (l:List α),(∀ x∈l,∀ w,(g x).run P w=.ok (h x) w)→∀ w,(l.mapM g).run P w=.ok (l.map h) w
 | [],_,w=>by simp
 | x::l,al,w=>by
   rw [List.mapM_cons];simp [al x (by simp),AE g h l (fun y a1=>al y (by simp [a1]))]
theorem E_ {t:TypeId} {parts:List (Nat×I)} {parts':Array (Nat×Value)} {r:I} (h:lq P t parts=some r) (hi:parts.map (·.1)=parts'.toList.map (·.1))
  (b':∀ (j:Nat) (x:Nat×I) (y:Nat×Value),parts[j]?=some x→parts'.toList[j]?=some y→x.2.plain=true∧Rel J S w x.2 y.2) :
  ∃ v,(Instr.build t parts').run P w=.ok v w∧Rel J S w r v∧r.plain=true:=by
 have fin:∀ {c_:List I} {dv:Array Value},c5 J S w c_ dv.toList→Rel J S w (.agg c_) (.agg dv):=fun {c_ dv} h =>
  .agg _ _ (by simpa using h.len.symm) (fun u hu=>by
   obtain ⟨j,aw⟩:=tu.1 hu;have aV:=(rV.1 aw).1;exact (h.rel j u _ aw (sd (h.len ▸ aV))).1) (fun v ae=>by
   obtain ⟨j,aw⟩:=tu.1 ae;have aV:=(rV.1 aw).1
   exact (h.rel j _ v (sd (h.len ▸ aV)) aw).2.1) (fun j u v hu ae=>(h.rel j u v hu (by simpa using ae)).2.2)
 unfold lq at h;split at h
 ·rename_i z bG bo a0;obtain ⟨i,dw,hi',er,fG⟩:=hO (J:=J) (S:=S) (w:=w) bo;split at h
  ·rename_i c';simp only [rU] at h;obtain ⟨c_,aQ,rfl⟩:=h;obtain ⟨dv,ad,af⟩:=nf parts parts'.toList z c_ dw.cells hi b' aQ fG;have yy:∀ f∈bG.toList,∃ s,bU P f.type=some s:=fun f aQ=>by
    have:=ss.1 c' f aQ;exact Option.isSome_iff_exists.1 this
   have hm:=AE (P:=P) (fun f:Field=>Prod.mk f.offset <$> sizeOf f.type) (fun f:Field=>(f.offset,(bU P f.type).getD 0)) bG.toList (fun f aQ w=>by
    obtain ⟨s,ai⟩:=yy f aQ;simp [run_sizeOf ai,ai]) w
   have h7:(fun (i:Nat)=>(bG.map (fun f:Field=>(f.offset,(bU P f.type).getD 0)))[i]?)=(fun (i:Nat)=>(bG[i]?).bind fun f:Field=>(bU P f.type).map fun s=>(f.offset,s)):=by
    funext i;rw [uX];cases Cq:bG[i]? with
    | none=>rfl
    | some f =>
      obtain ⟨s,ai⟩:=yy f (by simpa using vv Cq);simp [ai]
   refine ⟨.agg dv,?_,fin af,rfl⟩;rw [←h7] at ad;simp only [uX] at ad;simp [Instr.build,j5 hi' er,run_underlying a0,Array.mapM_eq_mapM_toList,hm,ad]
  ·simp at h
 ·rename_i z n e bo a0;obtain ⟨i,dw,hi',er,fG⟩:=hO (J:=J) (S:=S) (w:=w) bo;simp only [sb,rU] at h;obtain ⟨s,ai,c_,aQ,rfl⟩:=h;obtain ⟨dv,ad,af⟩:=nf parts parts'.toList z c_ dw.cells hi b' aQ fG;refine ⟨.agg dv,?_,fin af,rfl⟩;simp [Instr.build,j5 hi' er,run_underlying a0,run_sizeOf ai,ad]
 ·simp at h
theorem AR (ah:aL B U J S w H) {t:TypeId} {len:Nat} {parts:List (Nat×I)} {parts':Array (Nat×Value)} {cs:List I} {s:Nat} (h:iz P t len parts=some (cs,s))
  (hi:parts.map (·.1)=parts'.toList.map (·.1))
  (b':∀ (j:Nat) (x:Nat×I) (y:Nat×Value),parts[j]?=some x→parts'.toList[j]?=some y→x.2.plain=true∧Rel J S w x.2 y.2) :
  ∃ b w',(Instr.buildSlice t len parts').run P w=.ok (.slice (some ⟨b,0,none⟩) len len) w'∧a2 B U J S w H (.ay cs len (.uniq s)) (.slice (some ⟨b,0,none⟩) len len) w':=by
 unfold iz at h;split at h
 ·rename_i e a0;split at h
  ·rename_i aF z ai bo;split at h
   ·rename_i ao;obtain ⟨ad,af,aG⟩:=ao;simp only [rU,Prod.mk.injEq] at h;obtain ⟨c_,aQ,rfl,rfl⟩:=h;obtain ⟨i,dw,hi',er,fG⟩:=hO (J:=J) (S:=S) (w:=w) bo;have fJ:=mT fG (by omega) len;(have kH:z.length=dw.cells.size:=by simpa using fG.len);obtain ⟨dv,q1,aX⟩:=nf parts parts'.toList (eZ len z) c_ ((Array.range (len*z.length)).map (fun i=>dw.cells[i % dw.cells.size]!)) hi b' aQ fJ;have pe:∀ (place:Nat→Option (Nat×Nat)) (parts:List (Nat×I)) (a b:List I),gq place a parts=some b→b.length=a.length:=by
     intro place parts
     induction parts with
     | nil=>intro a b h;simp [gq] at h;rw [h]
     | cons x parts a' =>
       intro a b h;obtain ⟨i,u⟩:=x;simp only [gq] at h;split at h
       ·split at h
        ·split at h
         ·rw [a' _ _ h,mO]
         ·simp at h
        ·simp at h
       ·simp at h
    have cE:c_.length=len*aF:=by rw [pe _ _ _ _ aQ,ij,af]
    have iO:=nQ ah aX [] e len len aF ad cE (rX _) (by
     have:len≤len*aF:=tZ _ ad
     simp only [maxLen];omega) (by rw [←aX.len,cE];simp)
    refine ⟨_,_,?_,iO⟩;simp only [sV,t_];rw [af] at q1;(have lR:¬ (16777216<len*aF):=by omega);by_cases aT:len*aF=0
    ·obtain rfl:len=0:=by
      rcases Nat.mul_eq_zero.1 aT with h | h
      ·exact h
      ·omega
     (have Ee:Instr.fill (fun i=>some (i*aF,aF)) #[] parts'.toList=some dv:=by simpa [show Array.range 0=#[] from rfl] using q1);simp [Instr.buildSlice,run_underlying a0,run_sizeOf ai,show Array.range 0=#[] from rfl,Ee,newRow,newObj,Sem.run,World.alloc_eq]
    ·simp [Instr.buildSlice,run_underlying a0,run_sizeOf ai,aT,lR,j5 hi' er,q1,newRow,newObj,Sem.run,World.alloc_eq]
   ·simp at h
  ·simp at h
 ·simp at h
end
end Go.Proofs.YtfakoboiahbhaaaGreat.Ab
