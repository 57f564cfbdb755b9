
import Derived.Test.YtkoioidpbbbaiaaJv1
import Derived.Test.YtkoioidpbbbaiaaJv4
import Derived.Test.YtkoioidpbbbaiaaProg
import Derived.KernelRfl
import Derived.IntWalk
import Derived.ProofKit
import Derived.Deep.Slices
import Derived.ChangeStays
import Derived.Below
import Derived.WalkKit
import Derived.Sort.AssemblyPlain
set_option linter.unusedSimpArgs false
set_option linter.unusedVariables false
set_option linter.unusedSectionVars false

open Bool renaming and_eq_true→sn,and_self→tX,and_true→tu,false_eq_true→tR
open Classical renaming choose_spec→uA
open Int renaming add_zero→uX
open List renaming all_cons→tA,all_eq_true→sq,all_nil→t_,append_assoc→sx,append_nil→sM,drop_eq_getElem_cons→s7,drop_zero→tq,flatMap_cons→ua,getElem?_append→sj,getElem?_append_left→sg,getElem?_append_right→ss,getElem?_drop→sQ,getElem?_eq_getElem→si,getElem?_eq_some_iff→sa,getElem?_map→sm,getElem?_set_ne→sd,getElem?_take→sI,length_append→sy,length_cons→sK,length_eq_zero_iff→sO,length_map→sX,length_take→sZ,map_append→sP,map_congr_left→tJ,map_cons→sE,map_drop→tH,map_id→uV,map_map→vu,map_nil→uB,mem_append_left→vA,mem_append_right→vz,mem_cons_of_mem→tU,mem_cons_self→tZ,mem_flatMap→tL,mem_iff_getElem?→sW,mem_map→sC,mem_range→sH,perm_cons_erase→vC,set_set→sV,take_of_length_le→tg,take_zero→ur
open Nat renaming add_comm→te,add_mul→ta,eq_of_beq_eq_true→sN,le_refl→sc,lt_succ_self→sG,min_eq_left→tO,mul_one→tp,one_mul→vw,zero_add→sB,zero_le→sD
open Option renaming bind_some→sb,map_some→se
namespace Go.Proofs.Ytkoioidpbbbaiaa.Ab
open Go
abbrev pZ:bZ:={ cC:=[true] }
abbrev p6:bZ:={ cC:=[true,true] }
def p4 (l:List Nat):List bZ:=l.map fun n=>match n with
 | 0=>{}
 | 1=>pZ
 | _=>p6
def YW:dx:={ ops:=[[{ mode:=3 }]] }
def YX:dx:={ ops:=[[pZ],[{},{ mode:=3 },pZ,{},pZ,pZ,{ cC:=[true,false,true] }],[{ mode:=3 },pZ],[{},{},{},{ mode:=3 },pZ,{},{},pZ,pZ,pZ,pZ],[{},{},pZ,{ mode:=3 },pZ,{},{},pZ,pZ,pZ,pZ],[{},{},{ mode:=3 },pZ,{},pZ,pZ,pZ],[{},pZ,{ mode:=3 },pZ,{},pZ,pZ,pZ],[{},{ mode:=3 },{},{ mode:=3 },p6,pZ,pZ,pZ,p6,{ cC:=[false,true] },pZ,pZ,pZ,p6,{ cC:=[false,true] },pZ,pZ,pZ,p6,{ cC:=[false,true] },pZ,pZ,pZ,p6,{ cC:=[false,true] },pZ,pZ,pZ,p6,{ cC:=[false,true] },pZ,{ mode:=3 },{ cC:=[false,true] },pZ]] }
def YY:dx:={ ops:=[[pZ],[{},{ mode:=3 },pZ,pZ,{},pZ,pZ,{ cC:=[true,false,true] }],[{ mode:=3 },pZ],[{},pZ,pZ,pZ,{ mode:=3 },pZ],[],(p4 [0,1,1,1]),[{},pZ],(p4 [1,1,1]),(p4 [1,0,0,2,1,1,2,1]),(p4 [0,1,1,1,1,0,1,1,0,1,1,2,1,2,2,1]),[{},{},{},{ mode:=3 },pZ,{},{},pZ,pZ,pZ,pZ],[{},{},pZ,{ mode:=3 },pZ,{},{},pZ,pZ,pZ,pZ],[{},{},{ mode:=3 },pZ,{},pZ,pZ,pZ],[{},{},{ mode:=3 },pZ,{},pZ,pZ,pZ],[{},{ mode:=3 },pZ,{},pZ,pZ,pZ],[{},pZ,{ mode:=3 },pZ,{},pZ,pZ,pZ],[pZ,pZ,{ mode:=3 },pZ,{},pZ,pZ,pZ],[pZ,pZ,pZ,pZ,pZ,p6,pZ,pZ,pZ,pZ,p6,p6,pZ,pZ,pZ,pZ,p6,p6,pZ,pZ,pZ,p6,pZ,pZ,pZ,p6,pZ,pZ,pZ,p6,p6,pZ,pZ,pZ,p6,pZ,pZ,pZ,pZ,p6,pZ,pZ,pZ,p6,pZ,pZ,pZ,p6,pZ,pZ,pZ,p6,p6,pZ,{ mode:=3 },p6,pZ]],il:=[(0,(p8 false [2,2,3,3,161]))] }
def YZ:dx:={ ops:=[[pZ],[{},{ mode:=3 },pZ,pZ,{},pZ,pZ,{ cC:=[true,false,true] },pZ,{},pZ,pZ,{ cC:=[true,false,true] }],[{ mode:=3 },pZ],[{},pZ,pZ,pZ,{ mode:=3 },pZ],[{},{},{ mode:=3 },pZ,{},pZ,pZ,pZ],[{},{},{ mode:=3 },pZ,{},pZ,pZ,pZ],[{},{},{ mode:=3 },pZ,{},pZ,pZ,pZ],[pZ,pZ,pZ,pZ,pZ,{ cC:=[true,false,true] },pZ,pZ,pZ,{ cC:=[true,false,true] },pZ,{},pZ,{},p6,{ cC:=[true,false,true] },pZ,{},{},pZ,pZ,p6,{ cC:=[true,false,true] },pZ,{},pZ,pZ,pZ,p6,{ cC:=[true,false,true] }],[],[{},{},{},{ mode:=3 },pZ,{},pZ,pZ,pZ],[{},{},pZ,{ mode:=3 },pZ,{},pZ,pZ,pZ],[pZ,pZ,pZ,pZ,pZ,{ cC:=[true,false,true] },pZ,pZ,{},p6,{ cC:=[true,false,true] },pZ,pZ,{},p6,{ cC:=[true,false,true] }],[],[{},{},{},{ mode:=3 },pZ,{},pZ,pZ,pZ],[{},pZ],[{},pZ,pZ,pZ,pZ,{ cC:=[true,false,true] },pZ,{ mode:=3 },p6,pZ],[pZ,pZ,{},{ mode:=3 },pZ,{},pZ,pZ,pZ],[pZ,pZ,pZ,pZ,{},p6,p6,pZ,{},pZ,pZ,p6,p6,pZ,pZ,pZ,p6,p6,pZ,{ mode:=3 },p6,pZ]] }
def Y1:dx:={ ops:=[[pZ],[{},{ mode:=3 },pZ,pZ,{},pZ,pZ,{ cC:=[true,false,true] }],[{ mode:=3 },pZ],(p4 [0,1,1,1]),[{},pZ,{ mode:=3 },pZ],[{},{ mode:=3 },pZ,{},pZ,pZ,pZ],[{},{ mode:=3 },pZ,{},pZ,pZ,pZ],[{},{},{ mode:=3 },pZ,{},pZ,pZ,pZ],[pZ,pZ,{ mode:=3 },pZ,{},pZ,pZ,pZ],[pZ,pZ,pZ,pZ,pZ,{ cC:=[true,false,true] },pZ,pZ,pZ,{ cC:=[true,false,true] },pZ,pZ,pZ,{ cC:=[true,false,true] },pZ,{},pZ,{},p6,{ cC:=[true,false,true] },pZ,{},pZ,{},p6,{ cC:=[true,false,true] }],[],[],(p4 [0,0,1,2]),(p4 [1,1,1]),[{},{},p6,pZ,pZ,pZ,{},{},p6,pZ,{},p6,{ cC:=[false,false,true] },pZ,{},pZ,pZ,{},{},p6,pZ,{},{},pZ,p6,pZ,p6,{ cC:=[false,true] },{ cC:=[false,false,true] }],[],[pZ,pZ,pZ,{},pZ,pZ,p6,p6,pZ,{},pZ,pZ,pZ,{},pZ,p6,{ cC:=[true,false,true] }],[],[pZ,pZ,pZ,pZ,pZ,pZ,pZ,pZ,{ mode:=3 },{ cC:=[true,false,true] },pZ,{ mode:=3 },p6,pZ]],il:=[(0,(p8 false [5,1,1,1,1,1,1,1,1,1,1,1,128]))] }
def Y3:dx:={ ops:=[[pZ],[{},{ mode:=3 },pZ,pZ,{},pZ,pZ,{ cC:=[true,false,true] }],[{ mode:=3 },pZ],(p4 [0,1,1,1]),[{},pZ,{ mode:=3 },pZ],[],[],(p4 [0,0,2]),(p4 [1,1,1]),(p4 [0,1,1,1]),(p4 [0,0,2]),(p4 [1,1,1]),[{},{},p6,pZ,{},p6,pZ,{},pZ,{},p6,pZ,{},pZ,{},{},pZ,{},p6,p6,pZ,p6,pZ,p6,{ cC:=[false,true] }],(p4 [1,0,0,1,0,0,1,0,2,2,1,2,1,2,1,2,1]),[{},{},{},{ mode:=3 },pZ,{},pZ,pZ,pZ],[pZ,pZ,{ mode:=3 },pZ,{},pZ,pZ,pZ],[pZ,pZ,pZ,{},pZ,pZ,p6,p6,pZ,pZ,pZ,p6,pZ,pZ,pZ,p6,p6,pZ,{ mode:=3 },p6,pZ]],il:=[(0,(p8 false [2,1,2,4,107])),(2,(p8 false [2,1,2,5,106]))] }
def Ng:dx:={ two:=[(5,[0,1,2,3,4,5,6,7,8,9,10,11,12,13,14,15,16,18,17,19,20,21],17,18)],ops:=[[{ cC:=[true],mode:=1 }],[{},{ mode:=3 },pZ,pZ,{},pZ,pZ,{ cC:=[true,false,true] }],[{ mode:=3 },pZ],[{},pZ,pZ,{},pZ,p6,{},{ cC:=[false,true] }],[pZ,{ mode:=3 },pZ],[{},pZ,{},pZ,pZ,p6,pZ,{},{ cC:=[true],mode:=13 },{},pZ,{ cC:=[true],mode:=3 },p6,{ cC:=[true],mode:=3 },{},pZ,{ cC:=[true],mode:=13 },{},{},{ cC:=[false,true],mode:=13 },{ cC:=[false,true],mode:=13 },pZ],[{},{},p6,pZ,{},{},pZ,pZ,p6,pZ,{},pZ,pZ,pZ,{},p6,p6,{},pZ,pZ,pZ,pZ,p6,p6,p6,p6,{ cC:=[true,false,true] },pZ],[{},{},{ mode:=3 },pZ,{},pZ,pZ,pZ],[{},{ mode:=3 },pZ,{},pZ,pZ,pZ],[pZ,pZ,{ mode:=3 },pZ,{},pZ,pZ,pZ],[pZ,pZ,pZ,pZ,pZ,{},p6,p6,pZ,pZ,pZ,p6,pZ,pZ,{},{ mode:=3 },{ mode:=3 },p6,pZ,pZ,pZ,p6,pZ,{},pZ,p6,pZ,pZ,pZ,pZ,p6,p6,pZ,{ mode:=3 },p6,pZ]] }
def Zc:dx:={ ops:=[[],[{ mode:=3 },{ mode:=3 },{ mode:=3 },{},{},{},{ cC:=[false,true] },{ cC:=[false,true] },{ cC:=[false,true] }],[{},{},{ mode:=3 },{ mode:=3 },pZ,{},{},{},pZ,pZ,pZ],[{},{},{ mode:=3 },{ mode:=3 },pZ,{},{},{},pZ,pZ,pZ],[{},{},{ mode:=3 },{ mode:=3 },pZ,{},{},pZ,pZ],[{},{},{ mode:=3 },{ mode:=3 },pZ,{},{},pZ,pZ],[{},{ mode:=3 },pZ,{},pZ,pZ,pZ],[{},{ mode:=3 },pZ,{},pZ,pZ,pZ],[{},{ mode:=3 },pZ,{},pZ,pZ,pZ],[{},{ mode:=3 },pZ,{},pZ,pZ,pZ],[{},{},{ mode:=3 },{ mode:=3 },pZ,{ mode:=3 },{ mode:=3 },pZ,{},{},pZ,pZ],[{},{},{ mode:=3 },{ mode:=3 },pZ,{},{},pZ,pZ],[pZ,{},{ mode:=3 },{ mode:=3 },pZ,{},{},pZ,pZ],[pZ,{},{ mode:=3 },{ mode:=3 },pZ,{},{},pZ,pZ],[pZ,pZ,pZ,pZ,pZ,p6,pZ,pZ,pZ,p6,pZ,pZ,pZ,p6,pZ,pZ,pZ,p6,pZ,pZ,pZ,p6,pZ,pZ,pZ,p6,pZ,pZ,pZ,p6,pZ,pZ,pZ,p6,pZ,pZ,pZ,p6,pZ,pZ,pZ,p6,pZ,pZ,pZ,p6,pZ,pZ,pZ,p6,pZ,pZ,{},{ mode:=3 },{ mode:=3 },p6,pZ,pZ,pZ,p6,pZ,pZ,pZ,p6,pZ,pZ,pZ,p6,pZ,pZ,pZ,p6,pZ,pZ,pZ,p6,pZ,pZ,pZ,p6,pZ,pZ,pZ,p6,pZ,pZ,pZ,p6,pZ,pZ,pZ,p6,pZ,pZ,pZ,p6,pZ,pZ,pZ,p6,pZ,pZ,{ mode:=3 },pZ,p6,pZ,{ mode:=3 },p6,pZ]] }
def Sc:dx:={ ops:=[[pZ],(p4 [1,1,1,1,1])] }
def Sf:dx:={ ops:=[[],[{ mode:=3 },{ mode:=3 },{ mode:=3 },{},{},{},{ cC:=[false,true] },{ cC:=[false,true] },{ cC:=[false,true] }],[{},{},{ mode:=3 },{ mode:=3 },pZ,{},{},{},pZ,pZ,pZ],[{},{},{ mode:=3 },{ mode:=3 },pZ,{},{},{},pZ,pZ,pZ],[{},{},{ mode:=3 },{ mode:=3 },pZ,{},{},pZ,pZ],[pZ,{},{ mode:=3 },{ mode:=3 },pZ,{},{},pZ,pZ],[{},{ mode:=3 },pZ,{},pZ,pZ,pZ],[{},{ mode:=3 },pZ,{},pZ,pZ,pZ],[{},{ mode:=3 },pZ,{},pZ,pZ,pZ],[{},{},{ mode:=3 },{ mode:=3 },pZ,{ mode:=3 },{ mode:=3 },pZ,{},{},pZ,pZ],[{},{},{ mode:=3 },{ mode:=3 },pZ,{ mode:=3 },{ mode:=3 },pZ,{},{},pZ,pZ],[{},{},{ mode:=3 },{ mode:=3 },pZ,{ mode:=3 },{ mode:=3 },pZ,{},{},pZ,pZ],[pZ,{},{ mode:=3 },{ mode:=3 },pZ,{},{},pZ,pZ],[{},{},{ mode:=3 },{ mode:=3 },pZ,{},{},pZ,pZ],[{},{ mode:=3 },pZ,{},pZ,pZ,pZ],[pZ,pZ,pZ,pZ,pZ,{ cC:=[true,false,true] },pZ,pZ,pZ,{ cC:=[true,false,true] },pZ,pZ,pZ,{ cC:=[true,false,true] },pZ,pZ,pZ,{ cC:=[true,false,true] },pZ,pZ,pZ,{ cC:=[true,false,true] },pZ,pZ,pZ,{ cC:=[true,false,true] },pZ,pZ,pZ,{ cC:=[true,false,true] },pZ,pZ,pZ,{ cC:=[true,false,true] },pZ,pZ,pZ,{ cC:=[true,false,true] },pZ,pZ,pZ,{ cC:=[true,false,true] },pZ,pZ,pZ,{ cC:=[true,false,true] },pZ,pZ,pZ,{ cC:=[true,false,true] }],[],[pZ,{},{ mode:=3 },pZ,{ mode:=3 },pZ,{},{},pZ,pZ],[pZ,pZ,pZ,pZ,pZ,p6,pZ,pZ,pZ,p6,pZ,pZ,pZ,p6,pZ,pZ,{},{ mode:=3 },{ mode:=3 },p6,pZ,pZ,pZ,p6,pZ,pZ,pZ,p6,pZ,pZ,pZ,p6,pZ,pZ,pZ,p6,pZ,pZ,pZ,p6,pZ,pZ,{},{ mode:=3 },{ mode:=3 },p6,pZ]] }
def Sg:dx:={ ops:=[[pZ],[{},{},pZ,{ mode:=3 },pZ,{},pZ,pZ,pZ],(p4 [0,1,1]),(p4 [1,0,0,1]),[{},pZ,pZ,pZ,pZ,pZ,{},pZ,{ mode:=3 },pZ,pZ],[],[pZ,pZ,pZ,{ mode:=3 },{},{ cC:=[false,true] }],(p4 [0,1,0,1,1,1])] }
def YU:dx:={ ops:=[[pZ],[{},{},{ mode:=3 },pZ],[pZ,pZ,{ mode:=3 },{},{},pZ],[{},{},pZ,pZ,p6,pZ,{},{},pZ,pZ,p6,{ cC:=[true,false,true] }],[],[{},{},{},{ mode:=3 },{},{},{},{ mode:=3 },pZ,pZ]] }
def Sh:dx:={ ops:=[[pZ],[pZ,{},pZ,{ mode:=3 },pZ,{},pZ,pZ,pZ],[{},pZ],(p4 [1,0,1]),[pZ,pZ,{ mode:=3 },pZ]] }
def YV:dx:={ ops:=[[pZ],[{},{},{ mode:=3 },pZ],[pZ,pZ,{ mode:=3 },{},pZ],[pZ,pZ,{ mode:=3 },pZ]] }
def O7:dx:={ ops:=[[pZ],[{},pZ,pZ,pZ,{ mode:=3 },pZ,pZ,{},pZ,pZ,pZ,pZ,{ cC:=[true,false,true] },pZ],[],[{},pZ,{ mode:=3 },pZ,{},pZ,pZ,{},pZ,pZ,p6,{ mode:=3 },pZ,{ cC:=[true,false,true] },pZ,{},pZ,pZ,pZ,pZ,pZ,p6,{ cC:=[true,false,true] },pZ],[],[]] }
def Nd:dx:={ ops:=[[pZ],(p4 [0,1,1,1]),(p4 [0,1,1,0,1,2,1,0,1,2]),[],[],(p4 [0,0,2]),(p4 [1,1,1]),[{},pZ,{},p6,pZ,{ mode:=3 },pZ],[],[{},pZ,pZ,pZ,pZ,{},pZ,pZ,{},pZ,pZ,p6,{ cC:=[true,false,true] },pZ,pZ,pZ,pZ,pZ,{ cC:=[true,false,true] }],[],[]],il:=[(0,(p8 false [1,1,1,2,44]))] }
def Si:dx:={ ops:=[[pZ],[{},{ mode:=3 },pZ,pZ,pZ,{ mode:=3 },pZ,p6,pZ]] }
def Mh:dx:={ ops:=[[],[],[],(p4 [0,0,2]),(p4 [1,1,1]),(p4 [1,0,1,2,1]),[],(p4 [0,1,1]),(p4 [1,1,1]),[],(p4 [0,1,1]),(p4 [0,0,0,1,2,2,1,1,0,1,2,1]),(p4 [1,0,0,2,1,1,2,1]),(p4 [0,0,0,2,2,0,0,1,2,2,1]),[pZ,pZ]],il:=[(0,(p8 false [0,2,3,3,48])),(2,(p8 false [1,1,3,2,1,1,47]))] }
def Jr:dx:={ ops:=[[pZ],[pZ,{ mode:=3 },pZ,{},pZ,{},{ cC:=[false,true] },pZ],[{},pZ],(p4 [1,0,1]),[],[{},{ mode:=3 }],[pZ],[pZ,pZ,{ mode:=3 },pZ],(p4 [0,1,2]),[pZ,pZ]] }
def Sj:dx:={ ops:=[[pZ],[pZ,pZ,{ mode:=3 },pZ,{},pZ,pZ,pZ],(p4 [1,1,1,1,1])] }
def Nf:dx:={ ops:=[[{ cC:=[true],mode:=1 }],[pZ,{},pZ,{ cC:=[false,true,true],mode:=8 },pZ,{},pZ,pZ,pZ],[{},pZ],(p4 [1,0,1]),[{},{},{ cC:=[false,true,true],mode:=1 },pZ,pZ,{ cC:=[false,true,true],mode:=1 },p6,{ cC:=[false,true],mode:=1 },{ cC:=[true],mode:=1 }],[{},{ cC:=[false,true],mode:=1 }],[{},pZ,{ cC:=[false,true] },pZ],(p4 [0,1,2]),[pZ,pZ]] }
def Sk:dx:={ ops:=[[{ cC:=[true],mode:=1 }],[{},{},pZ,{ mode:=2 },pZ,{},pZ,pZ,pZ],[{},pZ],(p4 [1,0,1]),[],[{},{},pZ,pZ,pZ,pZ,{ mode:=2 },pZ,pZ,pZ,p6],[],[],[{},pZ,{},{ cC:=[false,true] }],[pZ,{},pZ,pZ,pZ,{},pZ,pZ,{ mode:=3 },pZ,pZ,{},pZ,{ mode:=3 },{ cC:=[true,false,true] }],[],[{},pZ,pZ,pZ,pZ,{},pZ,{},pZ,{},{ cC:=[true],mode:=13 },pZ,p6,{ cC:=[true,true],mode:=13 },pZ],[pZ,pZ],[pZ,pZ,{ mode:=6 },pZ],[],(p4 [1,1,1])],il:=[(0,(p8 false [1,3,4,1,1,1,22,3,38]))] }
def O8:dx:={ ops:=[[pZ],[{},{},{ mode:=3 },pZ],[pZ,pZ,{ mode:=3 },{},pZ],[],(p4 [0,0,1,2]),(p4 [1,1,1]),[{},{},p6,pZ,{},{ cC:=[false,true] }],[{},pZ,pZ,pZ,{},pZ,{},pZ,pZ,p6,{ cC:=[false,false,true] },pZ,{},pZ,pZ,{},pZ,{},{},pZ,p6,pZ,pZ,p6,{ cC:=[false,true] },{ cC:=[false,false,true] },pZ,{},pZ,{ mode:=3 },pZ,{ cC:=[false,false,true] }],[],[pZ,{},{ mode:=3 },pZ,{ mode:=3 },pZ],[],(p4 [1,1,1])],il:=[(0,(p8 false [1,3,4,1,58]))] }
def Js:dx:={ ops:=[[{ cC:=[true],mode:=1 }],[pZ,{ cC:=[false,true],mode:=8 },pZ,{},pZ,{},{ cC:=[false,true] },pZ],[{},pZ],(p4 [1,0,1]),[],[{},{ cC:=[false,true],mode:=9 }],[pZ],[],[],(p4 [0,0,1,1,1]),[{},{ cC:=[false,true] },pZ,pZ],[{},{},{},pZ,{ cC:=[false,true] },{ cC:=[false,true,true,true],mode:=1 },pZ,{},pZ,pZ,pZ],[{},{},{},pZ,pZ,pZ,{ cC:=[false,true,true,true,true],mode:=1 },pZ,{},pZ,pZ,pZ],(p4 [1,1,1,2]),[pZ,{ cC:=[false,true] },pZ],[pZ,pZ],(p4 [0,0,2]),[],[],[pZ],[],(p4 [0,0,1,1]),[pZ,pZ],[{},{},pZ,pZ,pZ,{ cC:=[true,true,true] },pZ,pZ,p6,pZ],[pZ,pZ],[pZ,pZ]],il:=[(2,(p8 false [4,1,1,2,20,3,55])),(4,(p8 false [14,1,53,2,16]))] }
def O9:dx:={ ops:=[[],[],(p4 [0,0,1,2]),(p4 [1,1,1]),(p4 [0,0,2,1,0,2]),[],[]],il:=[(0,(p8 false [0,2,3,1,12]))] }
def O_:dx:={ ops:=[[],(p4 [0,1,0,1,2]),[],[],(p4 [0,0,1,2]),(p4 [1,1,1]),(p4 [0,0,2,1,0,0,2,1,2]),[],[]],il:=[(0,(p8 false [0,2,3,1,20]))] }
def Sl:dx:={ ops:=[[],[pZ,pZ]] }
def Sm:dx:={ ops:=[[],[{},{ mode:=3 },{ cC:=[false,true] }]] }
def Sn:dx:={ ops:=[[],[{},{ mode:=3 },{ cC:=[false,true] }]] }
def So:dx:={ ops:=[[],[{},{ mode:=3 },{ cC:=[false,true] }]] }
def Sp:dx:={ ops:=[[pZ],[{},{ mode:=3 },pZ,{},pZ,pZ,pZ],[{},pZ],(p4 [1,0,1]),[pZ,pZ,{ mode:=3 },{},pZ,pZ,pZ]] }
def Sq:dx:={ ops:=[[pZ],[pZ,{ mode:=3 },pZ,{},pZ,pZ,pZ],[{},pZ],(p4 [1,0,1]),[{},pZ,{},{ cC:=[false,true] }],[pZ,{ mode:=3 },{ mode:=3 },pZ],(p4 [1,1,0,1])] }
def Sr:dx:={ ops:=[[],[pZ,pZ]] }
def Ss:dx:={ ops:=[[],[pZ,pZ,pZ,p6,p6,{ cC:=[false,true] }]] }
def J1:dx:={ ops:=[[pZ],[{},{ mode:=3 },pZ],[{},pZ],(p4 [1,0,1]),[pZ],[],(p4 [0,1,1]),[{},{ mode:=3 },{ mode:=3 },pZ],[pZ],[],(p4 [0,0,1,1,1]),(p4 [1,1,2]),[],[pZ,pZ],(p4 [1,1,0,1,1,2]),[],[pZ,pZ],(p4 [1,0,2,1,1])],il:=[(0,(p8 false [2,1,14,3,28])),(2,(p8 false [2,1,5,1,8,3,6,3,19]))] }
def St:dx:={ ops:=[[pZ,pZ],[pZ,p6,{ mode:=6 },pZ,pZ]] }
def Su:dx:={ ops:=[[],[],[{},pZ],[],[],[{},pZ],[{},{},{},{ mode:=3 },{},{ cC:=[false,true] }],[pZ,{},pZ,pZ,pZ,{},p6,p6,{ cC:=[false,true] },p6],[pZ,pZ],[pZ,{ cC:=[false,true] }]],il:=[(0,(p8 false [0,3,3,2,3,1,17]))] }
def O':dx:={ ops:=[[pZ],[{},{ mode:=3 },pZ],[pZ,{ mode:=3 },pZ],(p4 [0,1,0,1,1,2]),[],[],(p4 [0,0,1,2]),(p4 [1,1,1]),[{},{},p6,pZ,pZ,pZ,{},{},p6,pZ,{},pZ,pZ,p6,{ cC:=[false,false,true] },pZ,{},{},p6,{},{},p6,pZ,{ mode:=3 },{ cC:=[false,false,true] }],[],[]],il:=[(0,(p8 false [1,2,2,1,42]))] }
def Pa:dx:={ ops:=[[pZ],[],[],(p4 [0,0,1,2]),(p4 [1,1,1]),(p4 [0,1,0,2]),[{},pZ,{},{},p6,pZ,p6,pZ,{},{ cC:=[false,true] }],[pZ,{},{},pZ,{ mode:=3 },{},pZ,{},pZ,{},p6,p6,p6,p6,pZ],[pZ,pZ]],il:=[(0,(p8 false [1,4,4,2,34]))] }
def Sv:dx:={ ops:=[[],[],(p4 [0,1,1,1,1,1,0,1,1,1,1,1,2]),[],(p4 [0,1,1]),[{},{},pZ,{ mode:=3 }],[],[{},pZ],[pZ,{},pZ,pZ,{ cC:=[true,true,true] },pZ],[pZ,pZ],[pZ,pZ],[pZ,pZ]],il:=[(0,(p8 false [0,2,3,1,16,3,18])),(2,(p8 false [0,2,3,1,16,3,6,2,10]))] }
def Pb:dx:={ ops:=[[pZ],[],(p4 [0,1,1,1]),(p4 [0,0,1,1,2]),(p4 [1,1,1]),[{},{},{},{ mode:=3 },{},{},{},{ mode:=3 },pZ,pZ],[pZ,{},pZ,pZ,{},pZ,pZ,{ cC:=[true,true,true,true,true] },pZ],[pZ,pZ]],il:=[(0,(p8 false [1,2,2,2,29]))] }
def Sw:dx:={ ops:=[[],[pZ,pZ,{ mode:=6 },pZ,pZ]] }
def Sx:dx:={ ops:=[[pZ],[{},pZ,pZ,{ mode:=3 },pZ,pZ,pZ,pZ,pZ,{ mode:=3 },pZ,{ cC:=[true,false,true] },pZ]] }
def Sy:dx:={ ops:=[[pZ],(p4 [0,1,1,1,0,1,1,2,1,0,1,1,2,1,1,1,1,2,1])] }
def Sz:dx:={ ops:=[[pZ],[pZ,pZ]] }
def SA:dx:={ ops:=[[],[],[],[],(p4 [0,1,1]),(p4 [1,1,1,2,1]),[{},pZ],[{},pZ],[pZ,pZ],(p4 [1,0,1]),[pZ],[],(p4 [0,1,1]),(p4 [1,1,2,1]),[pZ,pZ],[pZ,pZ]],il:=[(0,(p8 false [0,1,2,1,5,3,24])),(2,(p8 false [6,1,18,3,8]))] }
def Kt:dx:={ ops:=[[],[{},{},{},{ cC:=[false,true,true,true],mode:=1 },pZ,{},pZ,pZ,pZ],[pZ],[],[],[{},pZ],[],[{},pZ],(p4 [0,1,0,2]),[{},{},{},{},pZ,{ cC:=[false,true,true,true,true],mode:=1 },pZ,{},pZ,pZ,pZ],[pZ],[pZ,pZ],[{},{},{ cC:=[false,true,true],mode:=9 },pZ],(p4 [1,1,1,2,1]),[pZ,pZ],[],[pZ],[],(p4 [0,1,1]),(p4 [1,0,0,2,1,0,1,1,1,1,0,0,1,1,0,2,2,1,2,1,2,1,2,1]),[pZ,pZ],[pZ,pZ]],il:=[(0,(p8 false [0,3,6,1,15,2,57])),(2,(p8 false [0,2,11,1,39,3,28]))] }
def SB:dx:={ ops:=[(p4 [0,1,1]),[pZ,{},pZ,pZ,{ mode:=3 },pZ,{ cC:=[false,true,false,true,true,true],mode:=1 }]] }
def SC:dx:={ ops:=[[pZ,pZ],(p4 [1,1,1,1,2,1])] }
def SD:dx:={ ops:=[[],[{},pZ],[],[{},pZ,p6,{ cC:=[true],mode:=1 }]] }
def Pc:dx:={ two:=[(1,[0,1,2,7,3,4,5,6,8],3,7)],ops:=[[{ cC:=[true],mode:=1 }],[{},{},{ cC:=[true],mode:=3 },{ cC:=[true,true],mode:=2 },{},{ cC:=[true],mode:=3 },p6,{},{ cC:=[false,true] }],[],(p4 [0,0,1,2]),(p4 [1,1,1]),(p4 [0,1,0,0,2,1,1,0,0,2,1,1,2,2]),[pZ,{ cC:=[false,true] }]],il:=[(0,(p8 false [1,1,2,3,27]))] }
def Le:dx:={ ops:=[[],[{},{},pZ,{},{ cC:=[false,true,true,true,true],mode:=9 },{},{ cC:=[false,true] }],(p4 [0,1,1,1,1,1,0,1,1,1,1,1,2,1]),(p4 [0,1,1]),[{},{},p6,pZ,pZ,pZ,{},pZ,{},pZ,pZ,pZ,pZ,pZ,pZ,pZ,p6,p6,pZ,{ cC:=[false,true] },{ cC:=[false,false,true] },{},pZ],[{},pZ,pZ,pZ,{},{},pZ,pZ,{ cC:=[false,true,true],mode:=9 },p6,pZ,{},{},pZ,pZ],[pZ,pZ],[{},{},{},pZ,pZ,{ cC:=[false,true,true],mode:=9 },{ mode:=2 },pZ],[{},pZ,pZ,pZ,{},{},pZ,pZ,{ cC:=[false,true,true],mode:=9 },{},{ cC:=[true,true,true] }],[{},pZ,pZ,{},pZ,pZ,p6,{},{ cC:=[false,true] }],[pZ],[{},pZ,pZ,{},pZ,pZ,pZ,pZ,pZ,pZ,pZ,p6,p6,pZ,{ cC:=[false,true] }],[pZ,pZ,p6,pZ,{},pZ,{},{ cC:=[false,true] },pZ],[pZ,pZ],[],(p4 [1,1,1,1,2,1,1,2,1,1])] }
def Pd:dx:={ ops:=[[],[pZ,pZ,p6,pZ,{},{ cC:=[false,true] }],[],(p4 [0,1,0,1,2]),(p4 [1,1,1]),[{},{ cC:=[true],mode:=1 },{},{},p6,pZ,{},{},pZ,p6,pZ,p6,pZ,p6,{},p6],[pZ,{ cC:=[false,true] }]],il:=[(0,(p8 false [2,1,3,3,27]))] }
def SE:dx:={ ops:=[[],(p4 [1,0,1])] }
def Pe:dx:={ ops:=[[],(p4 [0,1,1,1]),[pZ,pZ],[],(p4 [0,1,1]),[{},{},{},{ mode:=6 }],[pZ,pZ],[pZ,pZ],[pZ,pZ]],il:=[(0,(p8 false [1,1,3,1,6,3,10]))] }
def SF:dx:={ ops:=[[],[{},pZ,{ mode:=3 },{},pZ,{ mode:=3 },p6,pZ]] }
def SG:dx:={ ops:=[[],(p4 [1,0,1]),[{ cC:=[true],mode:=1 },{ cC:=[false,true],mode:=1 }],[{ cC:=[true],mode:=2 },pZ]] }
def SH:dx:={ ops:=[[pZ],[pZ,pZ]] }
def SI:dx:={ ops:=[[],[pZ,pZ,{ mode:=6 },pZ,pZ]] }
def SJ:dx:={ ops:=[[],[{},pZ,p6,pZ,pZ,pZ,p6,{ cC:=[true,false,true] },pZ]] }
def Pf:dx:={ ops:=[[],[],[pZ],[],(p4 [0,0,1,1,1]),[{},pZ,{},p6,pZ,{},{},{ mode:=3 },{ cC:=[true,false,true] }],[{},pZ,pZ,pZ,pZ,pZ,p6,pZ,{},{ cC:=[false,true] }],[{},pZ,{},{},{ mode:=3 },{},pZ,p6,p6,{},p6],[{},pZ,{},pZ,{ mode:=3 },pZ,pZ,p6,p6,{},p6],[pZ,pZ],[pZ,{ cC:=[false,true] }]],il:=[(0,(p8 false [0,1,1,2,4,2,3,3,43]))] }
def SK:dx:={ ops:=[[],(p4 [1,1,1,2,1])] }
def Pg:dx:={ ops:=[[],[{},pZ],[],[{},pZ],[{},{},{},p6,pZ,{ mode:=6 }],[pZ,pZ],[pZ,pZ],[]],il:=[(0,(p8 false [0,2,5,2,10]))] }
def SL:dx:={ ops:=[[pZ],[],[],[{ cC:=[true,true,true] },{ cC:=[false,true] }],[pZ,{ cC:=[true],mode:=1 }]] }
def J2:dx:={ ops:=[[],(p4 [0,1,0,1,1,1,1,1,2]),[pZ,pZ,{ cC:=[true,true],mode:=1 },pZ],(p4 [1,1,1,1,1,1]),[],[{},pZ],[{},{ cC:=[false,true] },pZ,pZ],[{},{ cC:=[false,true] },pZ],[{},{},{},pZ,{},pZ,{ cC:=[true,true,true] },{},pZ,p6,{ cC:=[true,true],mode:=1 },pZ],[pZ,{ cC:=[false,true] },pZ],[pZ,pZ],[],[pZ,pZ],[]],il:=[(0,(p8 false [0,1,2,2,21,2,24]))] }
def Y2:dx:={ ops:=[[],[{},pZ],[{},pZ],(p4 [1,0,1,0,1,2,2,1]),[{},pZ],(p4 [0,0,1,2,1,2,1,1,2,1]),[pZ,pZ]] }
def SM:dx:={ ops:=[[],(p4 [1,1,1,1,1,1,1,1,2,1])] }
def SN:dx:={ ops:=[[],[],(p4 [0,0,2,1]),[{},pZ],[pZ,pZ,pZ,pZ,{ cC:=[false,true,true,true,true],mode:=1 }],[{},pZ],[pZ,pZ,pZ,pZ,{ cC:=[false,true,true,true,true],mode:=1 }],[{},pZ],[{},{},{},{},{ cC:=[false,true,true,true,true],mode:=1 }],(p4 [1,1,1]),[{},{},{},{},{ cC:=[false,true,true,true,true],mode:=1 },pZ,{},pZ,pZ,pZ],[{},pZ],[{},{},{},{},{ cC:=[false,true,true,true,true],mode:=1 }],(p4 [0,1,1,0,2,2,1]),[],(p4 [0,1,0,2,1,1,1,2]),[{},{},{},{},{ cC:=[false,true,true,true,true],mode:=1 }],[{},pZ,pZ,{},{},{},pZ,p6,pZ,{},{},p6,pZ,{ mode:=6 },pZ,pZ,{ cC:=[false,true] }],[{},pZ,{},pZ,{},{ cC:=[false,true,true,true,true,true],mode:=1 },pZ],[pZ,pZ],[{},{},{},pZ,{},{ cC:=[false,true,true,true,true,true],mode:=1 },pZ,{},pZ,pZ,pZ],[pZ,pZ],(p4 [0,0,2,0,0,2,1,1]),(p4 [1,1,1]),(p4 [0,0,2]),(p4 [1,1,2,1]),[{},pZ,{},{},{},{ cC:=[false,true,true,true,true,true],mode:=1 }],(p4 [1,1,1]),(p4 [1,1,2,1]),[{},{},pZ,pZ,{},{},{ cC:=[false,true,true,true,true,true],mode:=1 }],[pZ,pZ]],il:=[(0,(p8 false [0,5,5,2,136]))] }
def Y4:dx:={ ops:=[[],[pZ,pZ,{ mode:=3 },pZ],[pZ,{ mode:=3 },pZ]] }
def Ku:dx:={ ops:=[[],[{},pZ],[],[{},pZ],(p4 [1,1,1]),[],[{},pZ],(p4 [1,1,1]),[{},{},p6,{},{},p6,p6,{},{ cC:=[false,true] }],(p4 [0,1,1,1,1,1,0,1,1,1,1,1,2]),[{},{},{},{},pZ,pZ,pZ,pZ,pZ,p6,p6,p6,pZ,{ cC:=[false,true] }],[{},pZ,{},{},p6,{ cC:=[true,true,true] }],[{},pZ],[{},{},pZ,pZ,pZ,pZ,pZ,pZ,{ mode:=3 },pZ],[],(p4 [0,1,1,1,1]),[],[{},pZ,{},{ cC:=[false,true] }],(p4 [0,1,0,1,0,1,1,1,1,1,2,2,1]),[pZ,{},pZ,pZ,{},pZ,pZ,{ cC:=[true,true,true] },p6,p6,pZ],[pZ,pZ],[{},pZ],[{},pZ],[{},pZ,{},{ cC:=[false,true] }],[{},pZ,{},{},pZ,pZ,{ mode:=3 },pZ],(p4 [0,1,2]),[pZ,pZ]],il:=[(0,(p8 false [0,2,3,2,116])),(2,(p8 false [0,2,3,3,115])),(4,(p8 false [0,1,4,1,3,2,66,3,43])),(6,(p8 false [5,1,4,1,96,1,15]))] }
def Jt:dx:={ ops:=[[pZ],[pZ],[pZ],[{ mode:=1 },pZ,pZ,p6,p6],[{ cC:=[true],mode:=1 },pZ]] }
def SP:dx:={ ops:=[[],(p4 [1,0,1])] }
def SQ:dx:={ ops:=[(p4 [0,1,1]),[pZ,{},pZ,pZ,{ mode:=3 },{ cC:=[false,true,false,true,true],mode:=1 }]] }
def SR:dx:={ ops:=[[pZ],[],(p4 [0,1,1]),[{},pZ,{ cC:=[true,true],mode:=1 },pZ],[pZ,pZ]],il:=[(0,(p8 false [0,1,4,3,8]))] }
def Ph:dx:={ ops:=[[],[{},pZ],[],[{},pZ],[{},{},{},p6,pZ,{ mode:=6 }],[pZ,pZ],[pZ,pZ],[]],il:=[(0,(p8 false [0,2,5,2,10]))] }
def SS:dx:={ ops:=[[],[pZ,pZ,{ mode:=3 },pZ,pZ]] }
def SU:dx:={ ops:=[(p4 [0,1,1]),(p4 [0,0,2]),(p4 [1,1,1]),[{},pZ],[{},{},p6,pZ,{},{},{},p6,pZ,{},{},pZ,p6,pZ,{ mode:=6 },pZ,{ cC:=[false,true] }],(p4 [1,1,1]),(p4 [0,0,0,0,1,0,0,1,2,1,0,0,2,1,2,2,2,2])],il:=[(0,(p8 false [0,4,4,1,44])),(2,(p8 false [0,4,4,2,43]))] }
def Y5:dx:={ ops:=[[{},pZ],[],(p4 [1,1,2,1]),(p4 [0,1,1,1]),[{},pZ],(p4 [1,1,1]),[{},{},{},{},{},{ cC:=[false,true,true,true,true,true],mode:=1 }],(p4 [1,1,1]),[{},pZ],(p4 [1,1,1]),(p4 [0,0,0,0,0,2,0,0,0,2,2,1,0,0,2,1,2,2,2,2]),[{},{},{},{},{},{ cC:=[false,true,true,true,true,true],mode:=1 }]],il:=[(0,(p8 false [0,1,2,1,4,4,48])),(2,(p8 false [0,1,2,1,4,2,2,1,47]))] }
def Y6:dx:={ ops:=[(p4 [1,0,2,1]),[{},pZ],[{},pZ,{},{ cC:=[false,true] }],[{},{ mode:=3 },pZ],(p4 [0,0,1,1,2,1,1]),(p4 [0,0,0,1,1,2,1,2]),(p4 [1,1,1]),[{ mode:=1 },{},pZ,p6,pZ,pZ],(p4 [0,0,2]),(p4 [1,0,2,1]),(p4 [0,0,0,0,0,2,0,0,0,2,2,1,0,0,2,1,2,2,2,2])],il:=[(0,(p8 false [0,2,6,4,55]))] }
def Y7:dx:={ ops:=[[],(p4 [1,0,2,1]),[],(p4 [0,0,1,1,2,1]),(p4 [0,0,1,1,2,1]),(p4 [1,0,1,1,2,1]),[{},pZ],[pZ,pZ],[{},pZ,{},{ cC:=[false,true,true,false,true],mode:=1 },pZ],[{},pZ,{},{ cC:=[false,true,true,false,true],mode:=1 },pZ],[{},pZ,{},{ cC:=[false,true,true,false,true],mode:=1 },pZ],[pZ,pZ,pZ,pZ,pZ,{ cC:=[false,true,true,true,true,false,true],mode:=1 },pZ],[pZ],[pZ,pZ],[{},pZ],[pZ,pZ],[pZ,pZ],[pZ,pZ]] }
def Y8:dx:={ ops:=[[pZ,pZ],(p4 [1,1,1]),(p4 [0,0,2]),(p4 [0,0,0,0,0,0,2,1,0,0,2,1,2,2,2,2]),(p4 [1,1,1]),(p4 [1,1,1])],il:=[(0,(p8 false [0,1,7,2,24]))] }
def Y9:dx:={ ops:=[[],(p4 [0,1,1]),[],[{},pZ],(p4 [1,1,1]),[{},{},p6,pZ,{},{},{},p6,pZ,{},{},pZ,p6,pZ,{ mode:=6 },pZ,pZ,{ cC:=[false,true] }],(p4 [1,1,1]),(p4 [0,0,2]),[],(p4 [0,0,2,1]),[],(p4 [0,0,0,0,1,0,0,1,2,1,0,0,2,1,2,2,2,2]),(p4 [0,0,2,1]),(p4 [0,1,1]),[{},pZ],(p4 [1,1,1]),[{},{},{},p6,pZ,{},{},pZ,p6,pZ,{ mode:=6 },pZ,pZ],(p4 [0,0,0,0,1,0,0,1,2,1,0,0,2,1,2,2,2,2]),(p4 [0,0,2,1]),(p4 [0,1,1]),(p4 [0,0,2]),(p4 [1,1,1]),[{},{},{},p6,pZ,{},{},pZ,p6,pZ,{ mode:=6 },pZ,pZ],(p4 [0,0,0,0,1,0,0,1,2,1,0,0,2,1,2,2,2,2]),[]],il:=[(0,(p8 false [0,4,5,2,130])),(2,(p8 false [0,4,5,2,130])),(4,(p8 false [0,4,5,3,129])),(6,(p8 false [0,4,5,2,1,1,128]))] }
def Y_:dx:={ ops:=[[],(p4 [0,0,0,0,0,0,2,1,0,0,2,1,2,2,2,2]),(p4 [0,1,1,1,1,1]),[{},{},p6,pZ,{},{},{},p6,pZ,{},{},p6,pZ,{ mode:=6 },pZ,pZ,{ cC:=[false,true] }],(p4 [1,1,1]),[{},{},p6,pZ,{},{},{},p6,pZ,{},{},p6,pZ,{ mode:=6 },pZ,{ cC:=[false,true] }],(p4 [1,1,1]),(p4 [0,0,2]),(p4 [0,0,0,0,0,0,2,1,0,0,2,1,2,2,2,2]),(p4 [1,1,1]),(p4 [1,1,1]),[pZ,pZ]],il:=[(0,(p8 false [0,2,2,1,6,2,77])),(2,(p8 false [0,2,2,1,6,2,77])),(4,(p8 false [0,2,2,1,6,2,77]))] }
def Y':dx:={ ops:=[[],(p4 [0,0,0,0,0,0,2,1,0,0,2,1,2,2,2,2]),(p4 [0,1,1,1,1,1]),[{},{},p6,pZ,{},{},{},p6,pZ,{},{},p6,pZ,{ mode:=6 },pZ,{ cC:=[false,true] }],(p4 [1,1,1]),[{},{},p6,pZ,{},{},{},p6,pZ,{},{},p6,pZ,{ mode:=6 },pZ,pZ,{ cC:=[false,true] }],(p4 [1,1,1]),(p4 [0,0,2]),(p4 [0,0,0,0,0,0,2,1,0,0,2,1,2,2,2,2]),[pZ,pZ],(p4 [0,0,0,0,0,0,2,1,0,0,2,1,2,2,2,2]),(p4 [1,1,1]),(p4 [1,1,1]),[{},{},p6,pZ,{},{},{},p6,pZ,{},{},p6,pZ,{ mode:=6 },pZ,{ cC:=[false,true] }],(p4 [1,1,1]),[{},{},p6,pZ,{},{},{},p6,pZ,{},{},p6,pZ,{ mode:=6 },pZ,pZ,{ cC:=[false,true] }],(p4 [1,1,1]),(p4 [0,0,2]),(p4 [0,0,0,0,0,0,2,1,0,0,2,1,2,2,2,2]),(p4 [1,1,1]),(p4 [1,1,1]),(p4 [0,0,0,0,0,0,2,1,0,0,2,1,2,2,2,2]),[pZ,pZ]],il:=[(0,(p8 false [0,2,2,1,7,2,164])),(2,(p8 false [0,2,2,1,7,2,164])),(4,(p8 false [0,2,2,1,7,2,164])),(6,(p8 false [0,2,2,1,7,2,164])),(8,(p8 false [0,2,2,1,7,2,164]))] }
def Za:dx:={ ops:=[[],[{},pZ],(p4 [1,1,1]),[],[{},pZ],(p4 [1,1,1]),(p4 [1,1,1]),[pZ,pZ,pZ,{ cC:=[false,true] },pZ,p6,pZ]] }
def Zb:dx:={ ops:=[[],[{},pZ],(p4 [1,1,1]),[],[{},pZ],(p4 [1,1,1]),(p4 [1,1,1]),[{},pZ],(p4 [1,1,1]),(p4 [1,1,1]),[pZ,pZ,pZ,{ cC:=[false,true] },pZ,p6,pZ]] }
def Ju:dx:={ ops:=[[pZ],[pZ],[pZ],[{ mode:=1 },pZ,pZ,p6,{ cC:=[true,true],mode:=1 }],[{ cC:=[true],mode:=1 },pZ]] }
def SV:dx:={ ops:=[[],[],(p4 [0,0,2,1]),[{},pZ],[pZ,pZ,pZ,{ cC:=[false,true,true,true],mode:=1 }],[{},pZ],[pZ,pZ,pZ,{ cC:=[false,true,true,true],mode:=1 }],[{},pZ],[{},{},{},{ cC:=[false,true,true,true],mode:=1 }],(p4 [1,1,1]),[{},{},{},{ cC:=[false,true,true,true],mode:=1 },pZ,{},pZ,pZ,pZ],[{},pZ],[{},{},{},{ cC:=[false,true,true,true],mode:=1 }],(p4 [0,1,1,0,2,2,1]),[],(p4 [0,1,0,2,1,1,1,2]),[{},{},{},{ cC:=[false,true,true,true],mode:=1 }],[{},pZ,pZ,{},{},pZ,p6,pZ,{},{},p6,pZ,{ mode:=3 },pZ,{ cC:=[false,true] }],[{},pZ,{},pZ,{ cC:=[false,true,true,true,true],mode:=1 },pZ],[pZ,pZ],[{},{},{},pZ,{ cC:=[false,true,true,true,true],mode:=1 },pZ,{},pZ,pZ,pZ],[pZ,pZ],(p4 [0,0,2,0,0,2,1,1]),(p4 [1,1,1]),(p4 [0,0,2]),(p4 [1,1,2,1]),[{},pZ,{},{},{ cC:=[false,true,true,true,true],mode:=1 }],(p4 [1,1,1]),(p4 [1,1,2,1]),[{},{},pZ,pZ,{},{ cC:=[false,true,true,true,true],mode:=1 }],[pZ,pZ]],il:=[(0,(p8 false [0,4,4,2,124]))] }
def Pj:dx:={ ops:=[[],[{},pZ],[],[{},pZ],(p4 [0,0,0,2,1,2]),[pZ,pZ],[pZ,pZ],[]],il:=[(0,(p8 false [0,2,5,2,10]))] }
def Zd:dx:={ ops:=[[pZ,pZ],[{},{ cC:=[false,true] },pZ,pZ],(p4 [0,0,2]),[{},pZ,{},p6,pZ,{},{},{},{},p6,p6,pZ,{},{},{},p6,pZ,p6,pZ,{ mode:=6 },pZ,{ cC:=[false,true] }],(p4 [1,1,1]),[{},{},{},{},p6,p6,pZ,{},{},{},p6,p6,pZ,{ mode:=6 },pZ,pZ],(p4 [0,0,0,2,0,0,0,2,0,0,0,2,2,1,0,0,0,2,2,1,2,2,2,2]),[pZ,pZ]],il:=[(0,(p8 false [0,1,1,3,5,1,71]))] }
def Ze:dx:={ ops:=[[],[pZ,pZ,{ mode:=3 },{ cC:=[false,true] },pZ]] }
def Zf:dx:={ ops:=[[],(p4 [0,0,1,0,1,1,1,2,0,2]),(p4 [0,0,1,0,1,1,1,2,0,2]),(p4 [0,0,1,0,1,1,1,2,0,2]),(p4 [1,1,1,1])] }
def Zg:dx:={ ops:=[[],[pZ,{},pZ,{},pZ,pZ,pZ,pZ,{ cC:=[false,true,true,true,true,true,true],mode:=1 },pZ]] }
def Zh:dx:={ ops:=[[],[{},pZ,pZ,{},{},{ cC:=[false,true,true,true,true,true],mode:=1 },pZ,{},pZ,pZ,pZ],[{},pZ,pZ,{},{},{ cC:=[false,true,true,true,true,true],mode:=1 },pZ,{},pZ,pZ,pZ],[pZ,pZ,pZ,pZ,pZ,{ cC:=[false,true,true,true,true,true],mode:=1 },pZ,{},pZ,pZ,pZ],[pZ,pZ]] }
def SW:dx:={ ops:=[(p4 [0,1,1]),(p4 [0,0,2]),(p4 [1,1,1]),[{},pZ],[{},{},p6,pZ,{},{},p6,pZ,{},{},pZ,p6,pZ,{ mode:=3 },{ cC:=[false,true] }],(p4 [1,1,1]),(p4 [0,0,0,0,1,0,0,1,2,1,0,0,2,1,2,2,2,2])],il:=[(0,(p8 false [0,3,3,1,42])),(2,(p8 false [0,3,3,2,41]))] }
def Zi:dx:={ ops:=[[{},pZ],[],(p4 [1,1,2,1]),(p4 [0,1,1,1]),[{},pZ],(p4 [1,1,1]),[{},{},{},{},{ cC:=[false,true,true,true,true],mode:=1 }],(p4 [1,1,1]),[{},pZ],(p4 [1,1,1]),(p4 [0,0,0,0,0,2,0,0,0,2,2,1,0,0,2,1,2,2,2,2]),[{},{},{},{},{ cC:=[false,true,true,true,true],mode:=1 }]],il:=[(0,(p8 false [0,1,5,4,46])),(2,(p8 false [0,1,5,2,2,1,45]))] }
def Zj:dx:={ ops:=[(p4 [1,0,2,1]),[{},pZ],[{},pZ,{},{ cC:=[false,true] }],[{},{ mode:=3 },pZ],(p4 [0,0,1,1,2,1,1]),(p4 [0,0,0,1,1,2,1,2]),(p4 [1,1,1]),[{ mode:=1 },{},pZ,p6,pZ,pZ],(p4 [0,0,2]),(p4 [1,0,2,1]),(p4 [0,0,0,0,0,2,0,0,0,2,2,1,0,0,2,1,2,2,2,2])],il:=[(0,(p8 false [0,2,4,4,55]))] }
def Zk:dx:={ ops:=[[],(p4 [1,0,2,1]),[],(p4 [0,0,1,1,2,1]),(p4 [0,0,1,1,2,1]),(p4 [1,0,1,1,2,1]),[{},pZ],[pZ,pZ],[{},pZ,{ cC:=[false,true,true],mode:=1 },pZ],[{},pZ,{ cC:=[false,true,true],mode:=1 },pZ],[{},pZ,{ cC:=[false,true,true],mode:=1 },pZ],[pZ,pZ,pZ,pZ,{ cC:=[false,true,true,true,true],mode:=1 },pZ],[pZ],[pZ,pZ],[{},pZ],[pZ,pZ],[pZ,pZ],[pZ,pZ]] }
def YL:dx:={ ops:=[[pZ,pZ],(p4 [1,1,1]),(p4 [0,0,2]),(p4 [0,0,0,0,0,0,2,1,0,0,2,1,2,2,2,2]),(p4 [1,1,1]),(p4 [1,1,1])],il:=[(0,(p8 false [0,1,5,2,24]))] }
def YM:dx:={ ops:=[[],(p4 [0,1,1]),[],[{},pZ],(p4 [1,1,1]),[{},{},p6,pZ,{},{},p6,pZ,{},{},pZ,p6,pZ,{ mode:=3 },pZ,{ cC:=[false,true] }],(p4 [1,1,1]),(p4 [0,0,2]),[],(p4 [0,0,2,1]),[],(p4 [0,0,0,0,1,0,0,1,2,1,0,0,2,1,2,2,2,2]),(p4 [0,0,2,1]),(p4 [0,1,1]),[{},pZ],(p4 [1,1,1]),[{},{},p6,pZ,{},{},pZ,p6,pZ,{ mode:=3 },pZ],(p4 [0,0,0,0,1,0,0,1,2,1,0,0,2,1,2,2,2,2]),(p4 [0,0,2,1]),(p4 [0,1,1]),(p4 [0,0,2]),(p4 [1,1,1]),[{},{},p6,pZ,{},{},pZ,p6,pZ,{ mode:=3 },pZ],(p4 [0,0,0,0,1,0,0,1,2,1,0,0,2,1,2,2,2,2]),[]],il:=[(0,(p8 false [0,3,4,2,124])),(2,(p8 false [0,3,4,2,124])),(4,(p8 false [0,3,4,3,123])),(6,(p8 false [0,3,4,2,1,1,122]))] }
def Sd:dx:={ ops:=[[],[{},{ mode:=3 },pZ,{},{ mode:=3 },pZ,p6,pZ,pZ,pZ,p6,{ cC:=[true,false,true] },pZ]] }
def YN:dx:={ ops:=[[],(p4 [0,0,0,0,0,0,2,1,0,0,2,1,2,2,2,2]),(p4 [0,1,1,1,1,1]),[{},{},p6,pZ,{},{},p6,pZ,{},{},p6,pZ,{ mode:=3 },pZ,{ cC:=[false,true] }],(p4 [1,1,1]),[{},{},p6,pZ,{},{},p6,pZ,{},{},p6,pZ,{ mode:=3 },{ cC:=[false,true] }],(p4 [1,1,1]),(p4 [0,0,2]),(p4 [0,0,0,0,0,0,2,1,0,0,2,1,2,2,2,2]),(p4 [1,1,1]),(p4 [1,1,1]),[pZ,pZ]],il:=[(0,(p8 false [0,2,7,2,73])),(2,(p8 false [0,2,7,2,73])),(4,(p8 false [0,2,7,2,73]))] }
def YO:dx:={ ops:=[[],(p4 [0,0,0,0,0,0,2,1,0,0,2,1,2,2,2,2]),(p4 [0,1,1,1,1,1]),[{},{},p6,pZ,{},{},p6,pZ,{},{},p6,pZ,{ mode:=3 },{ cC:=[false,true] }],(p4 [1,1,1]),[{},{},p6,pZ,{},{},p6,pZ,{},{},p6,pZ,{ mode:=3 },pZ,{ cC:=[false,true] }],(p4 [1,1,1]),(p4 [0,0,2]),(p4 [0,0,0,0,0,0,2,1,0,0,2,1,2,2,2,2]),[pZ,pZ],(p4 [0,0,0,0,0,0,2,1,0,0,2,1,2,2,2,2]),(p4 [1,1,1]),(p4 [1,1,1]),[{},{},p6,pZ,{},{},p6,pZ,{},{},p6,pZ,{ mode:=3 },{ cC:=[false,true] }],(p4 [1,1,1]),[{},{},p6,pZ,{},{},p6,pZ,{},{},p6,pZ,{ mode:=3 },pZ,{ cC:=[false,true] }],(p4 [1,1,1]),(p4 [0,0,2]),(p4 [0,0,0,0,0,0,2,1,0,0,2,1,2,2,2,2]),(p4 [1,1,1]),(p4 [1,1,1]),(p4 [0,0,0,0,0,0,2,1,0,0,2,1,2,2,2,2]),[pZ,pZ]],il:=[(0,(p8 false [0,2,8,2,156])),(2,(p8 false [0,2,8,2,156])),(4,(p8 false [0,2,8,2,156])),(6,(p8 false [0,2,8,2,156])),(8,(p8 false [0,2,8,2,156]))] }
def YP:dx:={ ops:=[[],[pZ,{},{},p6,pZ,{},{},p6,pZ,{ mode:=6 },pZ],(p4 [1,0,1,1,1,2]),(p4 [1,1,1,1]),(p4 [1,1,1,1])] }
def YQ:dx:={ ops:=[[pZ,pZ],[{},{ cC:=[false,true] },pZ,pZ],(p4 [0,0,2]),[{},pZ,{},p6,pZ,{},{},{},p6,p6,pZ,{},{},{},p6,pZ,p6,pZ,{ mode:=3 },{ cC:=[false,true] }],(p4 [1,1,1]),[{},{},{},p6,p6,pZ,{},{},{},p6,p6,pZ,{ mode:=3 },pZ],(p4 [0,0,0,2,0,0,0,2,0,0,0,2,2,1,0,0,0,2,2,1,2,2,2,2]),[pZ,pZ]],il:=[(0,(p8 false [0,1,1,2,4,1,67]))] }
def YR:dx:={ ops:=[[],[pZ,{},pZ,{},pZ,pZ,pZ,{ cC:=[false,true,true,true,true,true],mode:=1 },pZ]] }
def YS:dx:={ ops:=[[],[{},pZ,pZ,{},{ cC:=[false,true,true,true,true],mode:=1 },pZ,{},pZ,pZ,pZ],[{},pZ,pZ,{},{ cC:=[false,true,true,true,true],mode:=1 },pZ,{},pZ,pZ,pZ],[pZ,pZ,pZ,pZ,{ cC:=[false,true,true,true,true],mode:=1 },pZ,{},pZ,pZ,pZ],[pZ,pZ]] }
def Se:dx:={ ops:=[[],(p4 [0,1,2,1])] }
def YT:dx:={ ops:=[[],[{},{},p6,pZ,{},{},p6,pZ,{ mode:=3 }],(p4 [1,0,1,1,1,2]),(p4 [1,1,1,1]),(p4 [1,1,1,1])] }
def Zl:List dx:=[{},{},YW,YX,YY,YZ,Y1,Y3,Ng,Zc,Sc,Sf,Sg,YU,Sh,YV,O7,Nd,Si,Mh,Jr,Sj,Nf,Sk,O8,Js,O9,O_,Sl,Sm,Sn,So,Sp,Sq,Sr,Ss,J1,St,Su,O',Pa,Sv,Pb,Sw,Sx,Sy,Sz,SA,Kt,SB,SC,SD,Pc,Le,Pd,SE,Pe,SF,SG,SH,SI,SJ,Pf,SK,Pg,SL,J2,Y2,SM,SN,Y4,Ku,Jt,SP,SQ,SR,Ph,SS,SU,Y5,Y6,Y7,Y8,Y9,Y_,Y',Za,Zb,Ju,SV,Pj,Zd,Ze,Zf,Zg,Zh,SW,Zi,Zj,Zk,YL,YM,Sd,YN,YO,YP,YQ,YR,YS,Se,YT,{},{},{},{},{},{},{},{},{},{},{},{},{},{},{},{}]
def jD (k:FuncId):dx:=Zl.getD k {}
end Go.Proofs.Ytkoioidpbbbaiaa.Ab


namespace Go.Proofs.Ytkoioidpbbbaiaa.Ab
open Go
end Go.Proofs.Ytkoioidpbbbaiaa.Ab


namespace Go.Proofs.Ytkoioidpbbbaiaa.Ab
open Go
end Go.Proofs.Ytkoioidpbbbaiaa.Ab


namespace Go.Proofs.Ytkoioidpbbbaiaa.Ab
open Go
theorem eG:Go.Proofs.Try.prog.follows .mixedOrders=true:=by kernel_rfl
abbrev qu (k:FuncId) (args:List I) (v:I):Prop:=np Go.Proofs.Try.prog k args v
abbrev h0 (n:Int):I:=.int .i64 n
abbrev Hg:I:=.a0
abbrev B (b:Bool):I:=.bool b
def oY (l:List Int):I:=.av (l.map h0) l.length .shared
def jx (l:List (List Int)):I:=.av (l.map oY) l.length .shared
theorem Vd (d:Nat) (l:List Int):(l.map h0).all (cr (d+1))=true:=by
 rw [sq];intro u hu;obtain ⟨x,_,rfl⟩:=sC.1 hu;rfl
theorem Vc (d:Nat) (l:List Int):cr (d+2) (oY l)=true:=Vd d l
theorem Qt (d:Nat) (l:List (List Int)):(l.map oY).all (cr (d+2))=true:=by
 rw [sq];intro u hu;obtain ⟨x,_,rfl⟩:=sC.1 hu;exact Vc d x
theorem adM (d:Nat) (l:List (List Int)):cr (d+3) (jx l)=true:=Qt d l
theorem LA (k:IntKind) (n:Int):cr 8 (.int k n)=true:=rfl
theorem LJ (b:Bool):cr 8 (.bool b)=true:=rfl
theorem LB (l:List Int) (n:Nat) (c:hE):cr 8 (.av (l.map h0) n c)=true:=Vd 6 l
theorem LD (l:List (List Int)) (n:Nat) (c:hE):cr 8 (.av (l.map oY) n c)=true:=Qt 5 l
theorem LC (l:List Int):cr 8 (oY l)=true:=Vc 6 l
theorem LF (l:List (List Int)):cr 8 (jx l)=true:=adM 5 l
theorem LK (k:FuncId):cr 8 (.func k [] [])=true:=rfl
theorem LL (n:Nat) (c:hE):cr 8 (.av [] n c)=true:=rfl
theorem JO (l:List (List Int)) (n:Nat) (c:hE):cr 8 (.agg [.av (l.map oY) n c])=true:=by
 show [I.av (l.map oY) n c].all (cr 7)=true;rw [tA,t_,tu];exact Qt 4 l
theorem LG (l:List (List Int)):cr 8 (.agg [jx l])=true:=JO l _ _
theorem LH (l:List (List Int)):cr 8 (.bS [jx l])=true:=JO l _ _
theorem LI (l:List (List Int)) (n:Nat) (c:hE):cr 8 (.bS [.av (l.map oY) n c])=true:=JO l _ _
theorem Ol (i:Nat) (h:i≤9223372036854775806):IntKind.i64.wrap ((i:Int)+1)=((i+1:Nat):Int):=by rw [IntKind.wrap_i64];omega
theorem Hj (n:Int) (ab:-9223372036854775808≤n) (ae:n≤9223372036854775807):IntKind.i64.wrap n=n:=by rw [IntKind.wrap_i64];omega
theorem Vb:∀ {d:Nat} {v:I},cr d v=true→cr (d+1) v=true
 | 0,v,h=>by simp [cr] at h
 | d+1,v,h=>by
   have key:∀ {l:List I},l.all (cr d)=true→l.all (cr (d+1))=true:=fun h=>by
    rw [sq] at h ⊢;exact fun u hu=>Vb (h u hu)
   cases v <;> simp only [cr,sn,tR] at h ⊢ <;> first | trivial | exact key h | exact ⟨key h.1,key h.2⟩
theorem Hm {p:Prop} [Decidable p] {A C:Prop} (ab:p→A) (ae:¬ p→C):(match decide p with | true=>A | false=>C):=by
 by_cases h:p
 ·simp only [h,decide_true];exact ab h
 ·simp only [h,decide_false];exact ae h
theorem Hi {k:FuncId} {xs:List I} {v:I}:∀ p∈([]:c7),p.1=k→p.2.1=xs→p.2.2=v:=fun _ h=>by simp at h
theorem BT {k k':FuncId} {xs ys:List I} {v bo:I} (h:k'=k→ys=xs→bo=v):∀ p∈([(k',ys,bo)]:c7),p.1=k→p.2.1=xs→p.2.2=v:=fun p aB=>by
 simp only [List.mem_singleton] at aB;subst aB;exact h
theorem H_ {k:FuncId} {xs:List I} {v:I} {acc:c7} (h:acc.all (fun p=>p.1 != k)=true):∀ p∈acc,p.1=k→p.2.1=xs→p.2.2=v:=fun p aB e=>by
 have:=sq.1 h p aB;simp [e] at this
def Hx (cap:List I):Prop:=cap.all (cr 7)=true∧∀ u∈cap,∃ cs,u=.bS cs
theorem Hx.R' {cap:List I} (h:Hx cap):cap.all (cr 8)=true:=by
 have ab:=h.1;rw [sq] at ab ⊢;exact fun u hu=>Vb (ab u hu)
theorem Hx.iD {cap:List I} (h:Hx cap) (H:List ar):cap.map (iD H)=cap:=by
 conv=>rhs;rw [←uV cap]
 apply tJ;intro u hu;obtain ⟨cs,rfl⟩:=h.2 u hu;rfl
theorem Hx.hW {cap:List I} (h:Hx cap) (H:List ar):cap.map (hW H)=cap:=by
 conv=>rhs;rw [←uV cap]
 apply tJ;intro u hu;obtain ⟨cs,rfl⟩:=h.2 u hu;rfl
theorem Hx.cc {cap:List I} (h:Hx cap):cap.map I.cc=cap:=by
 conv=>rhs;rw [←uV cap]
 apply tJ;intro u hu;obtain ⟨cs,rfl⟩:=h.2 u hu;rfl
theorem Hx.fn {cap:List I} (h:Hx cap) (H:List ar) (k:FuncId):Ab.iD H (.func k [] cap)=.func k [] cap:=by
 simp only [Ab.iD,h.hW,uB]
theorem Hx.U8 {cap:List I} (h:Hx cap) (k:FuncId):cr 8 (.func k [] cap)=true:=by
 show (([]:List I).all (cr 7) && cap.all (cr 7))=true;rw [h.1];rfl
theorem Hx.nil:Hx []:=⟨rfl,by simp⟩
section
variable {P:Program}
theorem call6 {k:FuncId} {xs bs:List I} {H:List ar} {lo:Nat} {v:I} (af:(xs.map (iD H)).map I.cc=bs) (aB:(xs.map (iD H)).all (cr 8)=true) (h:np P k bs v) (ah:fz v=true):oW P 6 lo (.fn k) xs H v.cc H:=by
 subst af;refine ⟨k_ (.fn k) ((xs.map (iD H)).map I.cc) [] 0 v [],EC h.1,?_⟩;simp only [eQ,aB,EB,sb,yY h.2,ah]
end
theorem Tv {H:List ar} {id d:Nat} {l:List I} (h:H[id]?=some (.cells l)) (aB:(l.map I.view).all (cr d)=true):bM H 0 H.length 0 (d+1) (.ptr id 0)=some (.bS (l.map I.view)):=by
 have ab:=(sa.1 h).1;have ae:ea (bM H 0 H.length 0 d) (l.map I.view)=some (l.map I.view):=zW fun u hu=>yY (by rw [sq] at aB;exact aB u hu);simp only [bM,Nat.not_lt_zero,if_false,h,tq,ae,se];rw [if_neg (by omega)]
end Go.Proofs.Ytkoioidpbbbaiaa.Ab


namespace Go.Proofs.Ytkoioidpbbbaiaa.Ab
open Go
section
variable {P:Program}
theorem Tn (eG:P.follows .mixedOrders=true) {k:Nat} {A:dx} {rc:gE} {n:Nat} {ts:List H9} (ao:ql P A k=some (rc,n,ts)) {lo:Nat} {args T:List I} {H H':List ar} (b0:args++List.replicate (n-args.length) .a0=T) {v:I} (JK:ba lo H H')
  (h:dQ P A k lo none rc T H fun e g6 H1=>(e=.normal∨e=.ret)∧lJ H1 H'∧(rF H1 g6 ts).map jg=some v):Sem P (.fn k) args H lo v H':=by
 unfold ql at ao;split at ao
 ·rename_i f aP;split at ao
  ·rename_i c af;split at ao
   ·rename_i VA Of ab ae aF a_;simp only [Option.some.injEq,Prod.mk.injEq] at ao;obtain ⟨rfl,rfl,rfl⟩:=ao;subst b0;refine Hc eG aP af (by simpa using ae) ab JK (oS (fun e s a'=>?_) (G7 aF h));obtain ⟨cf,ca,eS⟩:=a';simp only [Option.map_eq_some_iff] at eS;obtain ⟨vs,eS,iP⟩:=eS;exact ⟨cf,ca,vs,by rw [MO _ _ a_,eS],iP⟩
   ·cases ao
  ·cases ao
 ·cases ao
end
theorem ri {P:Program} (eG:P.follows .mixedOrders=true) {k:Nat} {A:dx} {rc:gE} {n:Nat} {ts:List H9} (ao:ql P A k=some (rc,n,ts)) {lo:Nat} {args T:List I} {H H':List ar} (b0:args++List.replicate (n-args.length) .a0=T) {v:I} (JK:ba lo H H')
  (h:∀ Q:cQ→List I→List ar→Prop,(∀ e g6 H1,(e=.normal∨e=.ret)∧lJ H1 H'∧(rF H1 g6 ts).map jg=some v→Q e g6 H1)→dQ P A k lo none rc T H Q):Sem P (.fn k) args H lo v H' :=
 Tn eG ao b0 JK (h _ fun _ _ _ h=>h)
theorem Nr {P:Program} (eG:P.follows .mixedOrders=true) {k:Nat} {A:dx} {rc:gE} {n:Nat} {ts:List H9} (ao:ql P A k=some (rc,n,ts)) {args T:List I} (b0:args++List.replicate (n-args.length) .a0=T) {v:I} (aB:cr 8 v=true)
  (h:∀ Q:cQ→List I→List ar→Prop,(∀ e g6 H1,Me ts v e g6 H1→Q e g6 H1)→dQ P A k 0 none rc T [] Q):np P k args v :=
 Pz eG ao b0 aB (h _ fun _ _ _ h=>h)
theorem re {P:Program} {lo:Nat} {bY:fc} {xs:List I} {H H':List ar} {v:I} (h:Sem P bY xs H lo v H'):oW P 1 lo bY xs H v H' :=
 ⟨k_ bY xs H lo v H',EC h,by simp only [eQ,EB]⟩
theorem WE {P:Program} {k:FuncId} {args:List I} {v:I} (cu:args.all (cr 8)=true) (h:np P k args v) (H:List ar):Sem P (.fn k) args H H.length v H:=by
 obtain ⟨⟨_,ab,ae⟩,aB⟩:=h
 exact ⟨ba.refl _ _,ab,fun B aa J S w vs ag aI ad=>CallsIn.mono (ae B _ [] S w vs (w7 ag) (fun b i h=>by obtain ⟨_,_,h⟩:=ku h;cases h) (ad.pure cu)) fun e w' he=>by
  cases e with
  | returned v=>exact xI ag (yY (n:=0) aB) he
  | panicked c=>exact he.elim
  | outgrown=>exact he.elim⟩
theorem Mj {P:Program} {k:FuncId} {args:List I} {v:I} (cu:args.all (cr 8)=true) (h:np P k args v) (H:List ar) (lo:Nat):oW P 0 lo (.fn k) args H v H :=
 ⟨_,EC (WE cu h H),by simp only [eQ,EB,sb,yY h.2,se]⟩
theorem TI {X Z:List ar} {j:Nat} {o:ar} (h:X[j]?=some o):(X++Z)[j]?=some o:=by
 rw [sg (sa.1 h).1];exact h
theorem HQ (X:List ar) (c dU:ar):(X++[c]).set X.length dU=X++[dU]:=by simp
theorem IJ (X:List ar) (c:ar):(X++[c])[X.length]?=some c:=by simp
end Go.Proofs.Ytkoioidpbbbaiaa.Ab


namespace Go.Proofs.Ytkoioidpbbbaiaa.Ab
open Go
def qk:Nat:=18446744073709551616
def qy (p:Prop) [Decidable p] {aV:Type} (k:Option aV):Option aV:=if p then k else none
theorem rL {p:Prop} [Decidable p] {aV:Type} {k:Option aV} {v:aV} (h:qy p k=some v):p∧k=some v:=by
 unfold qy at h;split at h
 ·exact ⟨by assumption,h⟩
 ·cases h
theorem qE {p:Prop} [Decidable p] {aV:Type} {k:Option aV} (h:p):qy p k=k:=if_pos h
theorem p9 {α aV:Type} {x:Option α} {f:α→Option aV} {v:aV} (h:x.bind f=some v):∃ a,x=some a∧f a=some v:=by
 cases x with
 | none=>cases h
 | some a=>exact ⟨a,rfl,h⟩
theorem HD {b:Bool} {aV:Type} {x y:Option aV} {v:aV} (af:b=true) (h:(if b=true then x else y)=some v):x=some v:=by
 rw [if_pos af] at h;exact h
theorem HC {b:Bool} {aV:Type} {x y:Option aV} {v:aV} (af:b=false) (h:(if b=true then x else y)=some v):y=some v:=by
 rw [if_neg (by rw [af];decide)] at h;exact h
def ix {α:Type} [Inhabited α] (l:List α) (i:Int):α:=l.getD i.toNat default
theorem rI {α:Type} [Inhabited α] {l:List α} {k:Nat} (h:k<l.length):ix l (k:Int)=l[k]:=by
 simp [ix,h]
theorem NA {α:Type} [Inhabited α] {l:List α} {i:Int} (h:0≤i∧i<(l.length:Int)):ix l i=l[i.toNat]'(by omega):=by
 have:i.toNat<l.length:=by omega
 simp [ix,this]
theorem Jb {α:Type} [Inhabited α] {l:List α} {i:Int} (h:0≤i∧i<(l.length:Int)):ix l i∈l:=by
 rw [NA h];exact List.getElem_mem _
abbrev w (n:Int):Int:=IntKind.i64.wrap n
theorem afK {n:Int} (ab:-9223372036854775808≤n) (ae:n≤9223372036854775807):w n=n:=Hj n ab ae
theorem rT {aV:Type} {v:aV} {G:Prop} (h:(none:Option aV)=some v):G:=by cases h
def YC {α:Type} (f:α→I) (l:List α):I:=.av (l.map f) l.length .shared
def YD {α:Type} (f:α→List I) (l:List α):I:=.av (l.flatMap f) l.length .shared
theorem rb {α:Type} [Inhabited α] (f:α→I) (l:List α) (n:Int) (h:0≤n∧n<(l.length:Int)):(l.map f).drop (n.toNat*1)=f (ix l n)::(l.drop (n.toNat+1)).map f:=by
 have aX:n.toNat<l.length:=by omega
 rw [tp,←tH,s7 aX,sE,NA h]
theorem Ib {α:Type} [Inhabited α] (f:α→List I) (s:Nat) (ah:∀ x,(f x).length=s):∀ (l:List α) (n:Int),0≤n∧n<(l.length:Int)→(l.flatMap f).drop (n.toNat*s)=f (ix l n)++(l.drop (n.toNat+1)).flatMap f:=by
 have key:∀ (l:List α) (k:Nat) (h:k<l.length),(l.flatMap f).drop (k*s)=f l[k]++(l.drop (k+1)).flatMap f:=by
  intro l
  induction l with
  | nil=>intro k h;simp at h
  | cons x l a8 =>
    intro k h;cases k with
    | zero=>simp
    | succ k =>
      (have al:k<l.length:=by simpa using h);(have e:(k+1)*s=(f x).length+k*s:=by rw [ah,ta,vw,te]);rw [ua,e,List.drop_length_add_append,a8 k al];rfl
 intro l n h;rw [key l n.toNat (by omega),NA h]
theorem Ii {α:Type} (f:α→List I) (s:Nat) (ah:∀ x,(f x).length=s) (l:List α):(l.flatMap f).length=l.length*s:=by
 induction l with
 | nil=>simp
 | cons x l a8=>rw [ua,sy,a8,ah,sK,ta,vw,te]
theorem SY {α:Type} (f:α→I) (l m:List α) (c:hE):I.av (l.map f++m.map f) (l.length+m.length) c=.av ((l++m).map f) (l++m).length c:=by
 rw [sP,sy]
theorem SZ {α:Type} (f:α→I) (l:List α) (x:α) (c:hE):I.av (l.map f++[f x]) (l.length+1) c=.av ((l++[x]).map f) (l++[x]).length c:=by
 rw [sP,sy];rfl
theorem S1 {α:Type} (f:α→List I) (l:List α) (x:α) (c:hE):I.av (l.flatMap f++f x) (l.length+1) c=.av ((l++[x]).flatMap f) (l++[x]).length c:=by
 simp [List.flatMap_append]
theorem WO {α:Type} (f:α→I) (l:List α) (n:Int) (h:0≤n∧n≤(l.length:Int)) (c:hE):I.av (((l.map f).drop (n.toNat*1)).take ((l.length-n.toNat)*1)) (l.length-n.toNat) c=.av ((l.drop n.toNat).map f) (l.drop n.toNat).length c:=by
 rw [tp,tp,List.length_drop,←tH,tg (by simp)]
theorem WN {α:Type} (f:α→I) (l:List α) (n:Int) (h:0≤n∧n≤(l.length:Int)) (c:hE):I.av ((l.map f).take (n.toNat*1)) n.toNat c=.av ((l.take n.toNat).map f) (l.take n.toNat).length c:=by
 rw [tp,sZ,←List.map_take,tO (by omega)]
theorem Sb {a b:Bool} (h:a=true) (k:b=true):(a && b)=true:=by rw [h,k];rfl
theorem p5 {α:Type} {f:α→Bool} {x:α} {l:List α} (h:f x=true) (k:l.all f=true):(x::l).all f=true:=Sb h k
theorem HU {cs:List I} {d:Nat} (h:cs.all (cr d)=true):cr (d+1) (.agg cs)=true:=h
theorem Ic {cs:List I} {d:Nat} (h:cs.all (cr d)=true):cr (d+1) (.bS cs)=true:=h
theorem Jf {cs:List I} {d:Nat} (h:cs.all (cr d)=true):cr (d+1) (.tuple cs)=true:=h
theorem IM {k:FuncId} {a b:List I} {d:Nat} (ab:a.all (cr d)=true) (ae:b.all (cr d)=true):cr (d+1) (.func k a b)=true:=Sb ab ae
theorem rA {α:Type} {f:α→I} {d:Nat} (h:∀ x,cr d (f x)=true) (l:List α) (n:Nat) (c:hE):cr (d+1) (.av (l.map f) n c)=true:=by
 show (l.map f).all (cr d)=true;rw [sq];intro u hu;obtain ⟨x,_,rfl⟩:=sC.1 hu;exact h x
theorem Hv {α:Type} {f:α→List I} {d:Nat} (h:∀ x,(f x).all (cr d)=true) (l:List α) (n:Nat) (c:hE):cr (d+1) (.av (l.flatMap f) n c)=true:=by
 show (l.flatMap f).all (cr d)=true;rw [sq];intro u hu;obtain ⟨x,_,aj⟩:=tL.1 hu;exact sq.1 (h x) u aj
theorem Va {α:Type} {f:α→I} {d:Nat} (h:∀ x,cr d (f x)=true) (l:List α):(l.map f).all (cr d)=true:=by
 rw [sq];intro u hu;obtain ⟨x,_,rfl⟩:=sC.1 hu;exact h x
theorem np.cc {P:Program} {k:FuncId} {args:List I} {v:I} (h:np P k args v) (aB:cr 8 v.cc=true):np P k args v.cc :=
 ⟨⟨h.1.1,h.1.2.1,fun B aa J S w vs ag aI ad=>CallsIn.mono (h.1.2.2 B aa J S w vs ag aI ad) fun e w' he=>by
   cases e with
   | returned x=>exact aZ.cc he
   | panicked c=>exact he.elim
   | outgrown=>exact he.elim⟩,aB⟩
section
variable {P:Program} {B:Nat} {J:List Nat} {w:World} {aa:Nat→Option aH} {S:Nat→Nat→Prop}
theorem aZ.afL {H':List ar} {r:I} {v:Value} {w':World} (h:aZ B aa J S w H' r v w'):aZ B aa J S w H' r.settle.view.cc v w':=by
 have ab:aZ B aa J S w H' r.settle v w':=by
  cases r with
  | av c n k=>cases k with
    | uniq z=>exact h.settle
    | _=>exact h
  | _=>exact h
 have ae:r.settle.cW=true:=by
  cases r with
  | av c n k=>cases k <;> rfl
  | _=>rfl
 obtain ⟨bu,ck,bL,a,b,c,d,e⟩:=ab;exact aZ.cc ⟨bu,ck,bL,a,b,c,d.view ae,aU.b4 (I.dm _)⟩
theorem adN (eG : P.follows .mixedOrders = true) {k : Nat} {f : Func} {c : Code} (aP : P.funcs[k]? = some f) (af : f.body = some c) (aI : f.name ≠ "runtime.NumGoroutine") {A : dx} (bT : codeOk A c = true)
  {args:List I} {v:I} (aB:cr 8 v=true)
  (h:dc P A k 0 none c 0 ⟨args++List.replicate (f.ntmps-args.length) .a0,[]⟩ fun e s=>(e=.normal∨e=.ret)∧∃ vs r,gX P s.H s.T f.results.toList=some vs∧bM s.H 0 s.H.length 0 8 (jg vs)=some r∧r.settle.view.cc=v):np P k args v:=by
 refine ⟨⟨ba.refl _ _,⟨f,aP,by simp [af],aI⟩,fun B aa J S w xs ag _ ad=>?_⟩,aB⟩;refine callsIn_of_wp_marks aP af trivial ?_;have aL:=ye ag ad f.ntmps;have dC:=(oQ ag).1;refine Bz eG c 0 _ _ h bT Fence.wide _ B w.heap.size J w (hY aa) S _ (.inl ⟨rfl,rfl⟩) (fun l a w aO=>aO.elim) aL fun e s al aM w' ah=>?_;obtain ⟨he,vs,r,ai,C1,eH⟩:=al;obtain ⟨b5,cZ,a4,aJ,aN,cg⟩:=ah;have iV:LeavesInM Fence.wide 0 P f aM.tmps (fZ B aa J S w [] v) aM.defers .returning w':=by
  refine n6 (aa:=b5) (S:=a4) (J:=cZ) (B:=B) (H:=s.H) (lI:=aa) (S0:=S) (w0:=w) aM.defers w' cg.M.2.1 cg.M.2.2 (dC.trans aN) cg.H fun bX dE dt mK mL=>?_
  have b0:a5 .slot b5 cZ a4 bX s.T aM.tmps.toList:=⟨cg.T.len,fun i u v hu ad=>(cg.T.rel i u v hu ad).mono (Ext.refl _) (fun b o h=>⟨h,dt b o h⟩),fun i u v hu ad =>
   (cg.T.own i u v hu ad).mono (Ext.refl _) (fun b o h=>⟨h,dt b o h⟩) fun b af=>⟨af,dE b _ af,fun _ h=>h⟩⟩
  obtain ⟨x,q1,aW⟩:=xT mL b0 ai;have kR:=xH ag (fun id aE=>by simp at aE) C1 (aZ.after aJ mK aW);refine ⟨x,q1,?_⟩;rw [←eH];exact kR.afL
 rcases he with rfl | rfl
 ·exact iV
 ·exact iV
end
inductive Hl (rs:List H9) (v:I) (e:cQ) (T:List I) (H:List ar):Prop where
 | mk (he:e=.normal∨e=.ret) (vs:List I) (ai:rF H T rs=some vs) (r:I) (aP:bM H 0 H.length 0 8 (jg vs)=some r) (ad:r.settle.view.cc=v)
theorem qH {P:Program} (eG:P.follows .mixedOrders=true) {k:Nat} {A:dx} {rc:gE} {n:Nat} {ts:List H9} (ao:ql P A k=some (rc,n,ts)) {args T:List I} (b0:args++List.replicate (n-args.length) .a0=T) {v:I} (aB:cr 8 v=true)
  (h:∀ Q:cQ→List I→List ar→Prop,(∀ e T H,Hl ts v e T H→Q e T H)→dQ P A k 0 none rc T [] Q):np P k args v:=by
 have h:=h _ fun _ _ _ h=>h;unfold ql at ao;split at ao
 ·rename_i f aP;split at ao
  ·rename_i c af;split at ao
   ·rename_i VA Of ab ae aF a_;simp only [Option.some.injEq,Prod.mk.injEq] at ao;obtain ⟨rfl,rfl,rfl⟩:=ao;subst b0;have a':∀ e s,Hl Of v e (a6.T s) (a6.H s)→(e=.normal∨e=.ret)∧∃ vs r,gX P s.H s.T f.results.toList=some vs∧bM s.H 0 s.H.length 0 8 (jg vs)=some r∧r.settle.view.cc=v:=fun e s ⟨cf,vs,PC,r,ca,eS⟩=>by
     exact ⟨cf,vs,r,by rw [MO _ _ a_,PC],ca,eS⟩
    exact adN eG aP af (by simpa using ae) ab aB (oS a' (G7 aF h))
   ·cases ao
  ·cases ao
 ·cases ao
theorem wp_loop {P:Program} {A:dx} {fn:FuncId} {lo:Nat} {rl:Option Nat} {cE:List Bool} {c:gE} {T R4:List I} {H:List ar} {Q:cQ→List I→List ar→Prop} (b0:eZ cE T=R4)
  (h:BJ (fun T H Q=>oc T fun T=>dQ P A fn lo rl c T H fun e bf H'=>match e with
   | .normal=>xp (some cE) bf fun bf=>Q .normal bf H'
   | e=>Q e bf H') R4 H Q):dQ P A fn lo rl (.loop (some cE) c) T H Q:=by
 show xp (some cE) T _;rw [DT];subst b0;exact h
def Lx {α:Type} (f:α→List I):Option α→I
 | none=>.eI
 | some x=>.bS (f x)
theorem U' {α:Type} {f:α→List I} {d:Nat} (h:∀ x,(f x).all (cr d)=true) (x:Option α):cr (d+1) (Lx f x)=true:=by
 cases x with
 | none=>rfl
 | some x=>exact h x
abbrev Jq (n:Int):I:=.int .u8 n
theorem Iy {f:I→Option I}:ea f []=some []:=rfl
theorem rk {f:I→Option I} {x y:I} {l r:List I} (h:f x=some y) (k:ea f l=some r):ea f (x::l)=some (y::r):=by simp only [ea,h,k,se]
theorem Mk {H:List ar} {lo i n d:Nat} {vs rs:List I} (h:ea (bM H lo i n d) vs=some rs):bM H lo i n (d+1) (.tuple vs)=some (.tuple rs):=by simp only [bM,h,se]
theorem ae3 {α:Type} {f:α→I} {H:List ar} {id n:Nat} {l:List α} {cap:Option Nat} (ag:H[id]?=some (.cells (l.map f))) (aI:n=l.length) (ad:∀ x,(f x).view=f x):rowOf H (.ref id 0 n cap 1)=some (l.map f):=by
 subst aI;simp only [rowOf,ag,sB,tp,sX,sc,if_true,tq];rw [tg (by simp),vu];congr 1;exact tJ fun x _=>ad x
theorem Po {P:Program} {k:FuncId} {xs cs bs:List I} {H:List ar} {lo:Nat} {v:I} (ah:xs.map (iD H)=cs) (af:cs.map I.cc=bs) (aB:cs.all (cr 8)=true) (h:np P k bs v) (ad:fz v=true):oW P 6 lo (.fn k) xs H v.cc H :=
 call6 (by rw [ah,af]) (by rw [ah];exact aB) h ad
theorem J' {f:I→I} {x y:I} {l r:List I} (h:f x=y) (k:l.map f=r):(x::l).map f=y::r:=by rw [sE,h,k]
theorem Mx {f:I→I}:([]:List I).map f=[]:=rfl
theorem afc {H:List ar} {k:FuncId} {a b aM au:List I} (ab:a.map (hW H)=aM) (ae:b.map (hW H)=au):iD H (.func k a b)=.func k aM au:=by simp only [iD,ab,ae]
theorem WM {H:List ar} {id off:Nat} {cs fG:List I} (ag:H[id]?=some (.cells cs)) (he:((cs.drop off).map I.view).map (ki H)=fG):hW H (.ptr id off)=.bS fG:=by simp only [hW,ag,he]
theorem U3 {P:Program} {C:b8} {lo mode:Nat} {o:Oper} {xs:Array Operand} {ts:Array TypeId} {vs:List I} {H:List ar} (aq:o.op=.call { callee:=.builtin .copy,args:=xs,argTypes:=ts }):a3 P C lo o mode vs H=j' P lo ts H vs:=by
 unfold a3;rw [aq];rfl
def Ij {α JY:Type} (g:JY→α→Option JY):List α→JY→Option JY
 | [],s=>some s
 | x::l,s=>(g s x).bind fun t=>Ij g l t
theorem Ns {α JY:Type} {g:JY→α→Option JY}:∀ {l:List α} {s t:JY},Ij g l s=some t→∃ F:Nat→JY,F 0=s∧F l.length=t∧∀ (i:Nat) (h:i<l.length),g (F i) l[i]=some (F (i+1))
 | [],s,t,h=>⟨fun _=>s,rfl,Option.some.inj h,fun i hi=>absurd hi (by simp)⟩
 | x::l,s,t,h=>by
   obtain ⟨u,ab,ae⟩:=p9 h;obtain ⟨F,f1,f2,f3⟩:=Ns ae;refine ⟨fun i=>match i with | 0=>s | i+1=>F i,rfl,f2,fun i hi=>?_⟩;cases i with
   | zero=>show g s x=some (F 0);rw [f1,ab]
   | succ i=>exact f3 i (by simpa using hi)
def Seq (P:Program) (k:FuncId) (cap:List I) (E:List I):Prop :=
 ∀ (l N:Nat) (qI:Nat→List ar),(∀ i,(qI i).length=N)→l<N →
   (∀ (i:Nat) (h:i<E.length) (Y:List ar),∃ qz,Sem P (.yield l) [E[i]] (qI i++Y) 0 (.bool true) (qI (i+1)++qz)) →
   ∀ Y,∃ qz,Sem P (.fn k) (.yield l::cap) (qI 0++Y) 0 (.tuple []) (qI E.length++qz)
theorem ae_ {P:Program} {l:Nat} {qI:Nat→List ar} {E:List I} (ai:∀ (i:Nat) (h:i<E.length) (Y:List ar),∃ qz,Sem P (.yield l) [E[i]] (qI i++Y) 0 (.bool true) (qI (i+1)++qz)) (Y:List ar) :
  ∃ Z:Nat→List ar,Z 0=Y∧∀ (i:Nat) (h:i<E.length),Sem P (.yield l) [E[i]] (qI i++Z i) 0 (.bool true) (qI (i+1)++Z (i+1)):=by
 classical
 have nT:∀ (i:Nat) (Y:List ar),∃ qz,∀ h:i<E.length,Sem P (.yield l) [E[i]] (qI i++Y) 0 (.bool true) (qI (i+1)++qz):=fun i Y=>by
  by_cases h:i<E.length
  ·obtain ⟨qz,aX⟩:=ai i h Y;exact ⟨qz,fun _=>aX⟩
  ·exact ⟨[],fun aX=>absurd aX h⟩
 exact ⟨fun n=>Nat.rec Y (fun i Z=>Classical.choose (nT i Z)) n,rfl,fun i h=>uA (nT i _) h⟩
theorem Ix {H X:List ar} (h:H.length≤X.length):ba 0 H X:=⟨h,fun _ h _=>absurd h (by omega)⟩
theorem Jj (X Y:List ar) (c d:ar):((X++[c])++Y).set X.length d=(X++[d])++Y:=by
 rw [sx,List.set_append_right _ _ (sc _)];simp
theorem Iu (X Y:List ar) (c:ar):((X++[c])++Y)[X.length]?=some c:=by
 rw [sx,ss (sc _)];simp
theorem ae0 {α:Type} {P:Program} {A:dx} {fn:FuncId} {rl:Option Nat} {k:FuncId} {cap:List I} {bq:List Nat} {gH ct:Code} {T:List I} {H Hn:List ar} {Q:cQ→List I→List ar→Prop} {f:α→I} {L:List α} (Il:Seq P k cap (L.map f))
  (Obj:Nat→List ar) (aQ:Obj 0=H) (hlen:∀ i,(Obj i).length=H.length)
  (KG:∀ (i:Nat) (h:i<L.length) (Y:List ar),∃ qz,Sem P (.yield H.length) [f L[i]] ((Obj i++[.loop .ready none fn (T.map I.view) bq gH ct A])++Y) 0 (.bool true) ((Obj (i+1)++[.loop .ready none fn (T.map I.view) bq gH ct A])++qz))
  (hg:inLoop H rl=true) (aI:Obj L.length=Hn) (bp:∀ qz,Q .normal (T.map I.settle) ((Hn++[.dead])++qz)):oF P A fn 0 rl (.func k [] cap) bq gH ct T H Q:=by
 obtain ⟨qz,cp⟩:=Il H.length (H.length+1) (fun i=>Obj i++[.loop .ready none fn (T.map I.view) bq gH ct A]) (fun i=>by simp [hlen]) (by omega) (fun i h Y=>by
  have aX:i<L.length:=by simpa using h
  obtain ⟨qz,ai⟩:=KG i aX Y
  exact ⟨qz,by rw [List.getElem_map];exact ai⟩) []
 subst aI;simp only [sM,sX,aQ] at cp;have ao:(Obj L.length).length=H.length:=hlen _;refine ⟨hg,.tuple [],_,.ready,none,fn,T.map I.view,bq,gH,ct,A,cp,by rw [←ao];exact Iu _ _ _,by decide,?_⟩;show Q .normal (T.map I.settle) (((Obj L.length++[ar.loop .ready none fn (T.map I.view) bq gH ct A])++qz).set H.length .dead);rw [←ao,Jj];exact bp qz
end Go.Proofs.Ytkoioidpbbbaiaa.Ab


namespace Go.Proofs.Ytkoioidpbbbaiaa.Ab
open Go
theorem Tt {H:List ar} {lo i n d:Nat} {k:FuncId} {a b aM au:List I} (ab:ea (bM H lo i n d) a=some aM) (ae:ea (bM H lo i n d) b=some au):bM H lo i n (d+1) (.func k a b)=some (.func k aM au):=by simp only [bM,ab,ae]
theorem ae1 {α:Type} {P:Program} {A:dx} {fn:FuncId} {rl:Option Nat} {k:FuncId} {cap:List I} {t:Nat} {bq:List Nat} {gH ct:Code} {T:List I} {H Hn:List ar} {Q:cQ→List I→List ar→Prop} {f:α→I} {L:List α} (Il:Seq P k cap (L.map f))
  (Obj:Nat→List ar) (ax:df T t=.func k [] cap) (aQ:Obj 0=H) (hlen:∀ i,(Obj i).length=H.length)
  (KG:∀ (i:Nat) (h:i<L.length) (Y:List ar),∃ qz,Sem P (.yield H.length) [f L[i]] ((Obj i++[.loop .ready none fn (T.map I.view) bq gH ct A])++Y) 0 (.bool true) ((Obj (i+1)++[.loop .ready none fn (T.map I.view) bq gH ct A])++qz))
  (hg:inLoop H rl=true) (aI:Obj L.length=Hn) (bp:∀ qz,Q .normal (T.map I.settle) ((Hn++[.dead])++qz)):dQ P A fn 0 rl (.AO (.nd t) bq gH ct) T H Q:=by
 show hI T t _;rw [iQ,ax];exact ae0 Il Obj aQ hlen KG hg aI bp
end Go.Proofs.Ytkoioidpbbbaiaa.Ab


namespace Go.Proofs.Ytkoioidpbbbaiaa.Ab
open Go
theorem aam {α:Type} [Inhabited α] (f:α→List I) (s:Nat) (ah:∀ x,(f x).length=s) (l:List α) (n:Int) (h:0≤n∧n<(l.length:Int)) (j:Nat) (aw:j<s):(l.flatMap f)[n.toNat*s+j]?=(f (ix l n))[j]?:=by
 have e:=Ib f s ah l n h
 have:(l.flatMap f)[n.toNat*s+j]?=((l.flatMap f).drop (n.toNat*s))[j]?:=by rw [sQ]
 rw [this,e,sg (by rw [ah];exact aw)]
theorem JQ {α:Type} [Inhabited α] (f:α→List I) (s:Nat) (ah:∀ x,(f x).length=s) (l:List α) (n:Int) (h:0≤n∧n<(l.length:Int)) (j:Nat) {v:I} (aw:(f (ix l n))[j]?=some v) {K:I→Prop} (k:K v):eJ (l.flatMap f) (0+n.toNat*s+j) K:=by
 refine Ex (x:=v) ?_ k;rw [sB,aam f s ah l n h j (by have:=(sa.1 aw).1;rw [ah] at this;exact this),aw]
theorem N7 {α:Type} [Inhabited α] (f:α→List I) (s:Nat) (ah:∀ x,(f x).length=s) (l:List α) (n:Int) (h:0≤n∧n<(l.length:Int)) {v:I} (aw:(f (ix l n))[0]?=some v) {K:I→Prop} (k:K v):eJ (l.flatMap f) (0+n.toNat*s) K :=
 JQ f s ah l n h 0 aw k
theorem Xn {α:Type} {f:α→List I} (h:∀ x,∀ u∈f x,u.view=u) (l:List α):∀ u∈l.flatMap f,u.view=u:=fun u hu=>by
 obtain ⟨x,_,aj⟩:=tL.1 hu;exact h x u aj
theorem Xo:∀ u∈([]:List I),u.view=u:=fun u h=>absurd h (by simp)
theorem MV {v:I} {l:List I} (h:v.view=v) (k:∀ u∈l,u.view=u):∀ u∈v::l,u.view=u:=fun u hu=>by
 rcases List.mem_cons.1 hu with rfl | hu
 ·exact h
 ·exact k u hu
end Go.Proofs.Ytkoioidpbbbaiaa.Ab


namespace Go.Proofs.Ytkoioidpbbbaiaa.Ab
open Go
theorem qO {n:Int} (h:-9223372036854775808≤n∧n≤9223372036854775807):w n=n:=afK h.1 h.2
theorem Iz (i:Nat) (h:i≤9223372036854775806):w ((i:Int)+1)=((i+1:Nat):Int):=Ol i h
end Go.Proofs.Ytkoioidpbbbaiaa.Ab


namespace Go.Proofs.Ytkoioidpbbbaiaa.Ab
open Go
def p7 (p:Int×Int):List I:=[h0 p.1,h0 p.2]
theorem Je (p:Int×Int):(p7 p).length=2:=rfl
theorem Tl {α:Type} (f:α→List I) (s:Nat) (ah:∀ x,(f x).length=s):∀ (l:List α) (k:Nat),k≤l.length→(l.flatMap f).take (k*s)=(l.take k).flatMap f
 | l,0,_=>by rw [Nat.zero_mul,ur,ur];rfl
 | [],k+1,h=>absurd h (by simp)
 | x::l,k+1,h=>by
   (have e:(k+1)*s=(f x).length+k*s:=by rw [ah,ta,vw,te]);rw [ua,e,List.take_length_add_append,Tl f s ah l k (by simpa using h),List.take_succ_cons,ua]
theorem afd {α:Type} (f:α→List I) (s:Nat) (ah:∀ x,(f x).length=s) (l:List α) (n:Int) (h:0≤n∧n≤(l.length:Int)) (c:hE):I.av ((l.flatMap f).take (n.toNat*s)) n.toNat c=.av ((l.take n.toNat).flatMap f) (l.take n.toNat).length c:=by
 rw [Tl f s ah l _ (by omega),sZ,tO (by omega)]
theorem Ps (k:IntKind):∀ (xs ys:List Int),xs.length=ys.length→dL (xs.map (.int k)) (ys.map (.int k))=some (decide (xs=ys))
 | [],[],_=>rfl
 | x::xs,y::ys,h=>by
   simp only [sE,dL,if_true,Ps k xs ys (by simpa using h),se];congr 1;by_cases aj:x=y <;> by_cases ao:xs=ys <;> simp [aj,ao]
 | [],y::ys,h=>by cases h
 | x::xs,[],h=>by cases h
theorem R8 {P:Program} {t:TypeId} {fs:Array Field} {op:BinOp} (ab:P.underlying t=some (.struct fs)) (ae:gS P fs.toList 0=true) (aF:P.stoodInHeld t=false) (a_:fs.size=2) (bP:P.eqGuardType P.depth t=false) (a b c d:Int) (aC:op=.eql∨op=.neq) :
  fo P op t (.agg [h0 a,h0 b]) (.agg [h0 c,h0 d])=some (.bool (match op with | .eql=>decide ((a,b)=(c,d)) | _=>!decide ((a,b)=(c,d)))):=by
 unfold fo;simp only [ab];rw [if_pos ⟨ae,aF,by simp [a_],by simp [a_],bP⟩];have e:=Ps .i64 [a,b] [c,d] rfl;simp only [sE,uB] at e;have b':decide ([a,b]=[c,d])=decide ((a,b)=(c,d)):=by simp
 rcases aC with rfl | rfl <;> simp only <;> rw [show [h0 a,h0 b]=[I.int .i64 a,I.int .i64 b] from rfl,show [h0 c,h0 d]=[I.int .i64 c,I.int .i64 d] from rfl,e,se,b']
theorem YI {P:Program} {t e:TypeId} {len:Nat} {kd:IntKind} (k:IntKind) (ab:P.underlying t=some (.array len e)) (ae:P.underlying e=some (.int kd)) (aF:bF P e=some 1) (a_:P.eqGuardType P.depth t=false) {xs ys:List Int} (aj:xs.length=len) (aY:ys.length=len) :
  fo P .eql t (.agg (xs.map (.int k))) (.agg (ys.map (.int k)))=some (.bool (decide (xs=ys))):=by
 unfold fo;simp only [ab,ae,aF];rw [if_pos ⟨by simp [aj],by simp [aY],a_⟩,Ps k xs ys (by rw [aj,aY]),se]
theorem Qr {P:Program} {C:b8} {lo:Nat} {o:Oper} {op:BinOp} {t u:TypeId} {a b:Operand} {x y v:I} {H:List ar} (aq:o.op=.binOp op t a b u) (aI:iZ b=false) (h:fo P op t x y=some v):a3 P C lo o 0 [x,y] H=some (v,H):=by
 unfold a3;rw [aq];show (cB P o [x,y]).map _=_;unfold cB;rw [aq];simp only [aI];show (fo P op t x y).map _=_;rw [h];rfl
end Go.Proofs.Ytkoioidpbbbaiaa.Ab


namespace Go.Proofs.Ytkoioidpbbbaiaa.Ab
open Go
section
variable {P:Program} {B N:Nat} {J:List Nat} {w:World} {H:List ar} {aa:Nat→Option aH} {S:Nat→Nat→Prop}
end
end Go.Proofs.Ytkoioidpbbbaiaa.Ab


namespace Go.Proofs.Ytkoioidpbbbaiaa.Ab
open Go
theorem afF {α:Type} {f:α→I} (h:∀ x,(f x).view=f x) (l:List α):(l.map f).map I.view=l.map f:=by rw [vu];exact tJ fun x _=>h x
theorem Up {α:Type} (f:α→I) (l:List α) {n:Nat} (aP:∀ x,(f x).view=f x) (h:l.length=n):(((l.map f).drop 0).take n).map I.view=l.map f:=by
 rw [tq,tg (by simp [h]),afF aP]
def Tx (P:Program) (t:TypeId):Array Field:=match P.underlying t with
 | some (.struct fs)=>fs
 | _=>#[]
theorem YJ {P:Program} {t e:TypeId} {len:Nat} {kd k:IntKind} {xs:List Int} {n:Int} (ab:P.underlying t=some (.array len e)) (ae:P.underlying e=some (.int kd)) (aF:bF P e=some 1) (a_:dK P e=false) (ao:xs.length=len) (aI:0≤n∧n<(len:Int)) :
  o1 P t (.agg (xs.map h0)) (.int k n)=some (h0 (ix xs n)):=by
 unfold o1;have bP:g_ n len=some n.toNat:=by unfold g_;rw [if_pos aI]
 simp only [ab,aF,bP,sb,tp];unfold iK;simp only [ae,a_];have aR:n.toNat<xs.length:=by omega
 rw [sm,si aR,se,NA (by omega)]
theorem adv {P:Program} {C:b8} {lo:Nat} {o:Oper} {t:TypeId} {a b:Operand} {x y v:I} {H:List ar} (aq:o.op=.index t a b) (h:o1 P t x y=some v) (ad:v.view=v:=by rfl):a3 P C lo o 0 [x,y] H=some (v,H):=by
 unfold a3;rw [aq];show (cB P o [x,y]).map _=_;unfold cB;rw [aq];show ((o1 P t x y).map I.view).map _=_;rw [h,se,se,ad]
end Go.Proofs.Ytkoioidpbbbaiaa.Ab


namespace Go.Proofs.Ytkoioidpbbbaiaa.Ab
open Go
def Kc:List I→Nat→List (Nat×I)→List I
 | [],_,_=>[]
 | x::T,_,[]=>x::T
 | x::T,i,(j,v)::r=>match Nat.beq i j with
   | true=>v::Kc T (i+1) r
   | false=>x::Kc T (i+1) ((j,v)::r)
def Ig (u:Nat→I):Nat→Nat→List (Nat×I)→List I
 | 0,_,_=>[]
 | n+1,i,[]=>u i::Ig u n (i+1) []
 | n+1,i,(j,v)::r=>match Nat.beq i j with
   | true=>v::Ig u n (i+1) r
   | false=>u i::Ig u n (i+1) ((j,v)::r)
def rm (n:Nat) (bq:List (Nat×I)) (T:List I):Prop:=T.length=n∧T=Kc T 0 bq
theorem Oa {u bH:Nat→I}:∀ (n i:Nat) (bq:List (Nat×I)),(∀ k,i≤k→u k=bH k)→Ig u n i bq=Ig bH n i bq
 | 0,_,_,_=>rfl
 | n+1,i,[],h=>by
   rw [Ig,Ig,h i (sc _),Oa n (i+1) [] fun k al=>h k (by omega)]
 | n+1,i,(j,v)::r,h=>by
   rw [Ig,Ig];cases Nat.beq i j with
   | true=>exact congrArg _ (Oa n (i+1) r fun k al=>h k (by omega))
   | false=>show u i::_=bH i::_;rw [h i (sc _),Oa n (i+1) _ fun k al=>h k (by omega)]
theorem WQ:∀ (T:List I) (i:Nat) (bq:List (Nat×I)),Kc T i bq=Ig (fun k=>df T (k-i)) T.length i bq
 | [],_,_=>rfl
 | x::T,i,bq=>by
   have e:∀ bq,Ig (fun k=>df (x::T) (k-i)) T.length (i+1) bq=Kc T (i+1) bq:=fun bq=>by
    rw [WQ T (i+1) bq];refine Oa _ _ _ fun k al=>?_;show df (x::T) (k-i)=df T (k-(i+1));rw [show k-i=(k-(i+1))+1 by omega];rfl
   (have gb:df (x::T) (i-i)=x:=by rw [Nat.sub_self];rfl);(have aah:∀ (T:List I) i,Kc T i []=T:=fun T i=>by cases T <;> rfl);cases bq with
   | nil =>
     show x::T=Ig _ (T.length+1) i [];rw [Ig,gb,e,aah]
   | cons p r =>
     obtain ⟨j,v⟩:=p;show Kc (x::T) i ((j,v)::r)=Ig _ (T.length+1) i ((j,v)::r);rw [Kc,Ig];cases Nat.beq i j with
     | true=>exact congrArg _ (e r).symm
     | false=>show x::_=_::_;rw [gb,e]
theorem rm.ex {n:Nat} {bq:List (Nat×I)} {T:List I} (h:rm n bq T):∃ u,T=Ig u n 0 bq:=by
 obtain ⟨ab,ae⟩:=h;subst ab;exact ⟨_,ae.trans (WQ T 0 bq)⟩
class Hy (d:Nat) (v:I):Prop where NH:cr d v=true
class qi (d:Nat) (l:List I):Prop where pl:l.all (cr d)=true
instance {d:Nat}:qi d []:=⟨rfl⟩
instance {d:Nat} {v:I} {l:List I} [a:Hy d v] [b:qi d l]:qi d (v::l):=⟨p5 a.NH b.pl⟩
instance {d:Nat} {a b:List I} [x:qi d a] [y:qi d b]:qi d (a++b):=⟨by rw [List.all_append,x.pl,y.pl];rfl⟩
instance {d:Nat} {α:Type} {f:α→I} {l:List α} [h:∀ x,Hy d (f x)]:qi d (l.map f):=⟨Va (fun x=>(h x).NH) l⟩
instance {d:Nat} {α:Type} {f:α→List I} {l:List α} [h:∀ x,qi d (f x)]:qi d (l.flatMap f):=⟨by
 rw [sq];intro u hu;obtain ⟨x,_,aj⟩:=tL.1 hu
 exact sq.1 (h x).pl u aj⟩
instance {d:Nat} {k:IntKind} {n:Int}:Hy (d+1) (.int k n):=⟨rfl⟩
instance {d:Nat} {b:Bool}:Hy (d+1) (.bool b):=⟨rfl⟩
instance {d:Nat} {b:ByteArray}:Hy (d+1) (.str b):=⟨rfl⟩
instance {d:Nat}:Hy (d+1) .eI:=⟨rfl⟩
instance {d:Nat}:Hy (d+1) .a0:=⟨rfl⟩
instance {d n:Nat} {c:hE} {l:List I} [h:qi d l]:Hy (d+1) (.av l n c):=⟨h.pl⟩
instance {d:Nat} {l:List I} [h:qi d l]:Hy (d+1) (.agg l):=⟨h.pl⟩
instance {d:Nat} {l:List I} [h:qi d l]:Hy (d+1) (.tuple l):=⟨h.pl⟩
instance {d:Nat} {l:List I} [h:qi d l]:Hy (d+1) (.bS l):=⟨h.pl⟩
instance {d:Nat} {α:Type} {f:α→I} {l:List α} [h:∀ x,Hy d (f x)]:Hy (d+1) (YC f l):=⟨Va (fun x=>(h x).NH) l⟩
instance {d:Nat} {α:Type} {f:α→List I} {l:List α} [h:∀ x,qi d (f x)]:Hy (d+1) (YD f l):=⟨(inferInstance:qi d (l.flatMap f)).pl⟩
instance {d:Nat} {l:List Int}:Hy (d+2) (oY l):=⟨(inferInstance:qi (d+1) (l.map h0)).pl⟩
instance {d:Nat} {l:List (List Int)}:Hy (d+3) (jx l):=⟨(inferInstance:qi (d+2) (l.map oY)).pl⟩
instance {d:Nat} {α:Type} {f:α→List I} {x:Option α} [h:∀ x,qi d (f x)]:Hy (d+1) (Lx f x):=⟨U' (fun x=>(h x).pl) x⟩
theorem qV {p U6:Prop} [Decidable p] {aV:Type} {k:Option aV} {v:aV} {K:Prop} (h:qy p k=some v) (f:p→U6) (g:p→k=some v→K):U6∧K :=
 ⟨f (rL h).1,g (rL h).1 (rL h).2⟩
theorem bs {b:Bool} {aV:Type} {x y:Option aV} {v:aV} {K:Prop} (h:(if b=true then x else y)=some v) (f:b=true→x=some v→K) (g:b=false→y=some v→K):K :=
 match b,h,f,g with
 | true,h,f,_=>f rfl (HD rfl h)
 | false,h,_,g=>g rfl (HC rfl h)
theorem adK {d:Nat} {u:I} (h:cr d u.ha=true):cr d u=true:=by
 cases d with
 | zero=>simp [cr] at h
 | succ d=>cases u with
   | av cs n c=>cases c <;> exact h
   | _=>exact h
theorem U_ {d:Nat} {l:List I} (h:(l.map I.ha).all (cr d)=true):l.all (cr d)=true:=by
 rw [sq] at h ⊢;exact fun u hu=>adK (h _ (List.mem_map_of_mem hu))
theorem adJ {d:Nat} {r:I} (h:cr d r.settle.view.cc=true) (aw:r.settle.view.cc.G5=false):cr d r=true:=by
 cases d with
 | zero=>simp [cr] at h
 | succ d=>cases r with
   | av cs n c=>cases c <;> exact h
   | agg cs=>exact U_ (l:=cs) h
   | tuple cs=>exact U_ (l:=cs) h
   | raw=>exact absurd aw (by simp [I.settle,I.view,I.cc,I.G5])
   | c3=>exact absurd aw (by simp [I.settle,I.view,I.cc,I.G5])
   | cm=>exact absurd h (by simp [I.settle,I.view,I.cc,cr])
   | _=>exact h
theorem Ie {rs:List H9} {v:I} {T:List I} {H:List ar} {vs:List I} [h:Hy 8 v] (ab:rF H T rs=some vs) (ae:(jg vs).settle.view.cc=v) (aw:v.G5=false:=by first | rfl | (simp [I.G5];done) | (cases ‹Option _› <;> rfl)):Hl rs v .ret T H :=
 ⟨.inr rfl,vs,ab,_,yY (adJ (ae ▸ h.NH) (ae ▸ aw)),ae⟩
end Go.Proofs.Ytkoioidpbbbaiaa.Ab


namespace Go.Proofs.Ytkoioidpbbbaiaa.Ab
open Go
section
variable {P:Program} {A:dx} {fn:FuncId} {lo:Nat} {rl:Option Nat}
inductive ag7 (P:Program) (A:dx) (fn:FuncId) (lo:Nat) (rl:Option Nat) (rc:gE) (T:List I) (H:List ar) (Q:cQ→List I→List ar→Prop):Prop where
 | mk (cE:List Bool) (c:gE) (he:rc=.loop (some cE) c) (h0:Nat→List I→List ar→Prop) (m:Nat) (hm:m≤qk) (aQ:h0 m T H)
   (step:∀ (Hg:List I→List ar→Prop) m T H,h0 m T H→(∀ hr bf H',hr<m→h0 hr bf H'→Hg bf H')→oc T fun T=>dQ P A fn lo rl c T H fun e bf H'=>match e with
    | .normal=>xp (some cE) bf fun bf=>Hg bf H'
    | e=>Q e bf H')
end
theorem NK {cs:List I} {n d:Nat} {c:hE} (h:cs.all (cr d)=true):cr (d+1) (.av cs n c)=true:=h
def ae2 (l:List Int):I:=.av (l.map h0) l.length (if l.length=1 then .full else .shared)
end Go.Proofs.Ytkoioidpbbbaiaa.Ab


namespace Go.Proofs.Ytkoioidpbbbaiaa.Ab
open Go
instance {d:Nat} {p:Int×Int}:qi (d+1) (p7 p):=⟨(inferInstance:qi (d+1) [h0 p.1,h0 p.2]).pl⟩
instance {d:Nat} {l:List Int}:Hy (d+2) (ae2 l):=⟨(inferInstance:qi (d+1) (l.map h0)).pl⟩
end Go.Proofs.Ytkoioidpbbbaiaa.Ab


namespace Go.Proofs.Ytkoioidpbbbaiaa.Ab
open Go
abbrev qb:=List Int
abbrev qj:=List (Int×Int)
abbrev Kr:=List (List Int)
abbrev ag6:=List (List (Int×Int))
abbrev ag3:=Int×List (Int×Int)
abbrev HL:=cQ→List I→List ar→Prop
abbrev qM (l:List Int) (c:hE):I:=.av (l.map h0) l.length c
abbrev q' (l:List (Int×Int)) (c:hE):I:=.av (l.flatMap p7) l.length c
abbrev aha (b:Int×List (Int×Int)):I:=.agg [h0 b.1,.av (b.2.flatMap p7) b.2.length .shared]
abbrev ahb (b:Int×List (Int×Int)):ar:=ar.cells [h0 b.1,.av (b.2.flatMap p7) b.2.length .shared]
def qJ {aV:Type} (rs:List H9) (Q:cQ→List I→List ar→Prop) (e:aV→I) (v:aV):Prop:=∀ T H,Hl rs (e v) .ret T H→Q .ret T H
theorem qg {aV:Type} {x v:aV} {e:aV→I} {rs:List H9} {Q:cQ→List I→List ar→Prop} {T:List I} {H:List ar} {vs:List I} (h:some x=some v) (jK:qJ rs Q e v) [k:Hy 8 (e x)] (ab:rF H T rs=some vs) (ae:(jg vs).settle.view.cc=e x) (aw:(e x).G5=false:=by first | rfl | (simp [I.G5];done) | (cases ‹Option _› <;> rfl)):Q .ret T H:=by
 obtain rfl:=Option.some.inj h;exact jK _ _ (Ie ab ae aw)
class qC (H:List ar) (i:Nat) (o:outParam ar):Prop where h:H[i]?=some o
instance {H:List ar} {o:ar}:qC (H++[o]) H.length o:=⟨IJ _ _⟩
instance {H:List ar} {i:Nat} {o p:ar} [k:qC H i o]:qC (H++[p]) i o:=⟨TI k.h⟩
end Go.Proofs.Ytkoioidpbbbaiaa.Ab


namespace Go.Proofs.Ytkoioidpbbbaiaa.Ab
open Go Go.ChangeShapes Go.WideShapes Go.ChangeAt Go.RowKit
def S0 (w:World):Nat→Nat→Prop:=fun b o=>∃ v,w.cell? ⟨b,o,none⟩=some v
theorem mz (w:World):aK w.heap.size (fun _=>none) [] (S0 w) w [] :=
 ⟨rfl,fun _ _ h=>by simp at h,fun _ _ h=>h,fun _ _ h=>by simp at h,sc _⟩
theorem afy {P:Program} {k:FuncId} {args:List I} {vs:List Value} {W:World} {b:Bool} (h:np P k args (.bool b)) (ad:a5 (fun i=>.arg i) (fun _=>none) [] (S0 W) W args vs) :
  Calls P k vs.toArray W fun e IC=>e=.returned (.bool b)∧Below W.heap.size W IC:=by
 have ab:=h.1.2.2 W.heap.size (fun _=>none) [] (S0 W) W vs (mz W) (fun _ _ h=>by simp at h) ad;refine (callsIn_wide.1 ab).mono fun e IC he=>?_;cases e with
 | returned v =>
   obtain ⟨ay,bV,S',_,az,_,ai,_⟩:=he;cases ai;exact ⟨rfl,az.os,az.tape,az.output,az.size,fun b af=>az.cE b af rfl⟩
 | panicked c=>exact he.elim
 | outgrown=>exact he.elim
section
variable {H:Type} {enc:TypeId×Value→H} {P:Program} {w:World}
theorem R_ {W IC:World} (K:Kids P (·<P.types.size)) (bR:∀ t e,t<P.types.size→P.underlying t=some (.slice e)→0<P.cellsOf e) (H0:Below W.heap.size W IC) {sp:Nat→Bool} :
  ∀ {ts:List TypeId} {vs:List Value} {fG:List (DataW H)} {p:List MemPlace},(∀ t∈ts,t<P.types.size)→DataW.TrodAll enc P W 0 (fun _=>true) true ts vs fG p→(∀ x∈p,sp x.block=true)→(∀ x∈p,x.block<W.heap.size)→DataW.TrodAll enc P IC 0 sp true ts vs fG p
 | [],_,_,_,_,aL,_,_=>by obtain ⟨rfl,rfl,rfl⟩:=trodAll_nil aL;exact trodAll_mk0
 | t::ts,_,_,_,b0,aL,Lq,aR=>by
   obtain ⟨v,vs,d,fG,a,b,rfl,rfl,rfl,⟨n,aI⟩,ae⟩:=trodAll_cons aL;refine ⟨a,b,⟨n,?_⟩,R_ K bR H0 (fun t ax=>b0 t (tU _ ax)) ae (fun x aj=>Lq x (vz _ aj)) (fun x aj=>aR x (vz _ aj)),rfl⟩;exact DataW.trod_stays K (fun {t e} ax he=>bR t e ax he) (fun h=>by cases h) (b0 t tZ) aI (fun x aj=>H0.same (aR x (vA _ aj))) fun x aj=>Lq x (vA _ aj)
theorem adI {f:Func} {s:ChangeSpec} {again:Bool} {W IC:World} {args:Array Value} {t:TypeId} {fG gs:List (DataW H)} {before:List MemPlace}
  (ao:laidOutB P=true) (hm:mapsRowed P=true) (bk:((List.range P.types.size).all fun t=>match P.underlying t with | some (.slice e)=>decide (0<P.cellsOf e) | _=>true)=true)
  (ax:f.resultTypes=#[t]) (TQ:P.underlying t=some .bool) (kS:f.params.toList.all (fun t=>decide (t<P.types.size))=true) (Qd:s.vars=[])
  (mc:DataW.Whole enc P f.params.toList s.vars false W args.toList fG gs before) (H0:Below W.heap.size W IC)
  (ah:s.fn H (fG++gs)={ results:=[.lit (.bool true)],args:=fG }):s.post enc P f false true false again W args (.bool true) IC:=by
 have aR:=mc.lt;have aaK:=mc;obtain ⟨p,q,aL,jL,rfl,C1,jW⟩:=aaK;rw [Qd] at jL;obtain ⟨rfl,rfl⟩:=trodVars_none jL;rw [sM] at *;have K:Kids P (·<P.types.size):=kids_rows ao hm;have bR:=slices_full_of P bk;have b0:∀ t∈f.params.toList,t<P.types.size:=fun t h=>by
  have:=sq.1 kS t h;simpa using this
 have again:∀ sp:Nat→Bool,(∀ x∈p,sp x.block=true)→DataW.TrodAll enc P IC 0 sp true f.params.toList args.toList fG p:=fun sp Lq =>
  R_ K bR H0 b0 aL Lq aR
 have kU:∀ (b:Nat) (sp:Nat→Bool) (a1:Bool),DataW.TrodAll enc P IC b sp a1 f.resultTypes.toList ((Value.bool true).resultList f.resultTypes.size) (s.fn H fG).results []:=fun b sp a1=>by
  rw [ah,ax];exact trodAll_mk1 (shut_bool TQ true)
 have CI:∀ sp:Nat→Bool,(∀ x∈p,sp x.block=true)→DataW.TrodAll enc P IC 0 sp true f.params.toList args.toList (s.fn H fG).args p:=fun sp Lq=>by
  rw [ah];exact again sp Lq
 have ad:∀ sp:Nat→Bool,DataW.TrodVars enc P IC sp s.vars (s.fn H fG).vars []:=fun sp=>by
  rw [ah,Qd];rfl
 have hold:∀ x∈p,(fun b=>decide (b<W.heap.size)) x.block=true:=fun x aj=>by simpa using aR x aj
 refine ⟨fG,[],p,[],p,[],mc,by rw [sM];exact kU _ _ _,by rw [sM];exact CI _ hold,by rw [sM];exact ad _,H0.frame _,fun _=>?_⟩;refine ⟨fun j u r hu ai=>?_,(s.fn H fG).results++(s.fn H fG).args,[],p,⟨p,[],?_,?_,by simp,?_,fun h=>by cases h⟩,fun x aj _=>aj⟩
 ·rw [ax] at hu ai;cases j with
  | zero=>simp [Value.resultList] at hu ai;subst hu;subst ai;exact okWide_bool_mk TQ true
  | succ j=>simp at hu
 ·have:=trodAll_append (CI (fun _=>true) fun _ _=>rfl) (kU 0 (fun _=>true) true);simpa using this
 ·rw [Qd];rfl
 ·intro b o af;have:=aR _ af;rw [H0.frozen (p:=⟨b,o,none⟩) this];exact C1 b o af
theorem UI {α:Type} {f:α→I} {R:α→Prop}:∀ {l:List I},(∀ u∈l,∃ x,u=f x∧R x)→∃ gx:List α,l=gx.map f∧∀ x∈gx,R x
 | [],_=>⟨[],rfl,by simp⟩
 | u::l,h=>by
   obtain ⟨x,rfl,aj⟩:=h u (by simp);obtain ⟨gx,rfl,bk⟩:=UI (l:=l) fun y aY=>h y (by simp [aY]);exact ⟨x::gx,rfl,by simpa using ⟨aj,bk⟩⟩
abbrev Jo (enc:TypeId×Value→H) (P:Program) (w:World) (e:TypeId) (Q:I→Prop):Prop :=
 ∀ n v y,DataW.trod enc P w 0 (fun _=>true) true n e [v]=some y→∃ u,u.plain=true∧v.oneCell'=true∧Rel [] (S0 w) w u v∧Q u
theorem S5 {e:TypeId} {k:IntKind} (ax:P.underlying e=some (.int k)):Jo enc P w e fun u=>∃ x,u=.int k x∧(Lit.int k x).wf=true:=by
 intro n v y h;obtain ⟨x,aj,_,hw⟩:=DataW.trod_int ax h;injection aj with aj _;subst aj;exact ⟨.int k x,rfl,rfl,.int k x,x,rfl,hw⟩
instance:Inhabited I:=⟨.a0⟩
theorem ZR {t e:TypeId} (ax:P.underlying t=some (.slice e)) (ce:P.cellsOf e=1) {Q:I→Prop} (he:Jo enc P w e Q) :
  Jo enc P w t fun u=>∃ l:List I,u=.av l l.length .shared∧l.length≤maxLen∧∀ u∈l,Q u:=by
 intro fuel v x h;rcases Deep.open_slice1 ax ce h with ⟨ad,_⟩ | ⟨a,len,cap,m,n,V,D,O4,ad,_,ao,hm,pR,_,aj⟩
 ·injection ad with ad _;subst ad;exact ⟨_,rfl,rfl,.b3 _ _,[],rfl,sD _,by simp⟩
 ·injection ad with ad _;subst ad;have pR:m=cap:=pR;have aj:∀ i,i<cap→w.cell? (a.add i)=some (V i)∧DataW.trod enc P w 0 (fun _=>true) true n e [V i]=some (D i,O4 i):=fun i hi=>aj i (by omega);by_cases ak:cap=0
  ·(subst ak;obtain rfl:len=0:=by omega);exact ⟨_,rfl,rfl,.b3 _ _,[],rfl,sD _,by simp⟩
  ·obtain ⟨b,o,sp⟩:=a;have aQ:=(aj 0 (by omega)).1;(have ah:sp=none:=by simpa [Addr.add] using World.cell?_spot aQ);subst ah;obtain ⟨U,Hp⟩:=Deep.choose_lt (α:=I) (n:=len) (p:=fun i u=>u.plain=true∧(V i).oneCell'=true∧Rel [] (S0 w) w u (V i)∧Q u) fun i hi=>he n (V i) _ (aj i (by omega)).2;refine ⟨.av ((List.range len).map U) len .shared,rfl,rfl,.av _ _ _ b o cap V (by simp) ao (by simp) (fun j u aw=>?_) (fun j u aw=>?_),(List.range len).map U,by simp,by simp;omega,fun u hu=>?_⟩
   ·(have mq:j<len:=by have:=(sa.1 aw).1;simpa using this);simp [mq] at aw;subst aw;(have bz:w.cell? ⟨b,o+j,none⟩=some (V j):=by have:=(aj j (by omega)).1;rwa [add_lit] at this);exact ⟨⟨_,bz⟩,bz,(Hp j mq).1,(Hp j mq).2.1⟩
   ·(have mq:j<len:=by have:=(sa.1 aw).1;simpa using this);simp [mq] at aw;subst aw;exact (Hp j mq).2.2.1
   ·obtain ⟨j,aw,rfl⟩:=sC.1 hu;exact (Hp j (sH.1 aw)).2.2.2
def IB (x:Int):Prop := -9223372036854775808≤x∧x≤9223372036854775807
theorem wf_i64 {x:Int} (h:(Lit.int .i64 x).wf=true):IB x:=by
 have ab:IntKind.i64.min=-9223372036854775808:=rfl;have ae:IntKind.i64.max=9223372036854775807:=rfl;simp only [Lit.wf,sn,decide_eq_true_eq] at h;exact ⟨by omega,by omega⟩
theorem wf_u8 {x:Int} (h:(Lit.int .u8 x).wf=true):0≤x∧x≤255:=by
 have ab:IntKind.u8.min=0:=rfl;have ae:IntKind.u8.max=255:=rfl;simp only [Lit.wf,sn,decide_eq_true_eq] at h;exact ⟨by omega,by omega⟩
structure Yz (l:List Int):Prop where
 n:l.length≤9223372036854775807
 v:∀ x∈l,IB x
structure ag5 (l:List (List Int)):Prop where
 n:l.length≤9223372036854775807
 v:∀ r∈l,Yz r
theorem UK {n:Nat} (h:n≤maxLen):n≤9223372036854775807:=by unfold maxLen at h;omega
def Mg (l:List Int):I:=.av (l.map (.int .u8)) l.length .shared
structure R0 (l:List Int):Prop where
 n:l.length≤9223372036854775807
 v:∀ x∈l,0≤x∧x≤255
theorem ZQ {t e:TypeId} (ax:P.underlying t=some (.slice e)) (ce:P.cellsOf e=1) (he:P.underlying e=some (.int .u8)):Jo enc P w t fun u=>∃ l,u=Mg l∧R0 l:=by
 intro n v y h;obtain ⟨u,aA,aG,aT,l,rfl,br,bg⟩:=ZR ax ce (S5 he) n v y h;obtain ⟨gx,rfl,bd⟩:=UI bg;exact ⟨_,aA,aG,aT,gx,by simp [Mg],by simpa using UK br,fun x aj=>wf_u8 (bd x aj)⟩
abbrev Arg (enc:TypeId×Value→H) (P:Program) (w:World) (base:Nat) (t:TypeId) (Q:I→Prop):Prop :=
 ∀ v d p,Value.okWide P w .any base t v→DataW.Trod enc P w 0 (fun _=>true) true t v d p→∃ u,u.plain=true∧Rel [] (S0 w) w u v∧Q u
theorem Zr {base:Nat} {t e:TypeId} (ax:P.underlying t=some (.slice e)) {Q:I→Prop} (ak:Jo enc P w t Q):Arg enc P w base t Q:=by
 intro v d p ad ⟨n,a1⟩;obtain ⟨a,len,cap,rfl⟩:=okWide_slice ax ad;obtain ⟨u,aA,_,aT,br⟩:=ak n _ _ a1;exact ⟨u,aA,aT,br⟩
theorem afG {us:List I} {vs:List Value} (h:us.length=vs.length) (ai:∀ (i:Nat) (u:I) (v:Value),us[i]?=some u→vs[i]?=some v→u.plain=true∧Rel [] (S0 w) w u v):a5 (fun i=>.arg i) (fun _=>none) [] (S0 w) w us vs :=
 ⟨h,fun i u v hu ad=>(ai i u v hu ad).2,fun i u v hu ad=>aU.b4 (ai i u v hu ad).1⟩
theorem afI {yi fA:I} {v0 v1:Value} (Qs:yi.plain=true) (hT:Rel [] (S0 w) w yi v0) (bU:fA.plain=true) (aS:Rel [] (S0 w) w fA v1):a5 (fun i=>.arg i) (fun _=>none) [] (S0 w) w [yi,fA] [v0,v1] :=
 afG rfl fun i u v hu ad=>by
  match i with
  | 0=>simp at hu ad;subst hu;subst ad;exact ⟨Qs,hT⟩
  | 1=>simp at hu ad;subst hu;subst ad;exact ⟨bU,aS⟩
  | i+2=>simp at hu
end
end Go.Proofs.Ytkoioidpbbbaiaa.Ab


namespace Go.Proofs.Ytkoioidpbbbaiaa.Ab
open Go Go.ChangeShapes Go.WideShapes Go.ChangeAt Go.RowKit
section
variable {H:Type} {enc:TypeId×Value→H} {P:Program} {w:World}
theorem UJ {α β:Type} {f:α→β} {R:α→Prop}:∀ {l:List β},(∀ u∈l,∃ x,u=f x∧R x)→∃ gx:List α,l=gx.map f∧∀ x∈gx,R x
 | [],_=>⟨[],rfl,by simp⟩
 | u::l,h=>by
   obtain ⟨x,rfl,aj⟩:=h u (by simp);obtain ⟨gx,rfl,bk⟩:=UJ (l:=l) fun y aY=>h y (by simp [aY]);exact ⟨x::gx,rfl,by simpa using ⟨aj,bk⟩⟩
def Nb (enc:TypeId×Value→H) (P:Program) (w:World) (fs:Array Field) (H8:List (I→Prop)):Prop :=
 H8.length=fs.size∧∀ (i:Nat) (f:Field) (q:I→Prop),fs[i]?=some f→H8[i]?=some q→f.offset=i∧P.cellsOf f.type=1∧Jo enc P w f.type q
def O1 (H8:List (I→Prop)) (us:List I):Prop:=us.length=H8.length∧∀ (i:Nat) (u:I) (q:I→Prop),us[i]?=some u→H8[i]?=some q→q u
theorem afn {t:TypeId} {fs:Array Field} {H8:List (I→Prop)} (ax:P.underlying t=some (.struct fs)) (ak:P.cellsOf t=fs.size) (aP:Nb enc P w fs H8) {n:Nat} {cs:List Value} {y:DataW H×List MemPlace}
  (h:DataW.trod enc P w 0 (fun _=>true) true n t cs=some y):∃ us:List I,O1 H8 us∧cs.length=us.length∧∀ (j:Nat) (u:I) (v:Value),us[j]?=some u→cs[j]?=some v→u.plain=true∧v.oneCell'=true∧Rel [] (S0 w) w u v:=by
 obtain ⟨xs,m,_,_,ao,Qe,aj⟩:=DataW.trod_struct ax h;rw [ak] at ao;have each:∀ i,i<fs.size→∃ u:I,(∀ v,cs[i]?=some v→u.plain=true∧v.oneCell'=true∧Rel [] (S0 w) w u v)∧∀ q,H8[i]?=some q→q u:=fun i hi=>by
  have ab:fs[i]?=some fs[i]:=Array.getElem?_eq_getElem hi;have a':i<H8.length:=by rw [aP.1];exact hi
  have ae:H8[i]?=some H8[i]:=si a';obtain ⟨e1,b',dB⟩:=aP.2 i _ _ ab ae;have aF:=aj i _ ab;rw [e1,b'] at aF;have TU:i<cs.length:=by omega
  rw [s7 TU,si (by omega)] at aF;simp only [List.take_succ_cons,ur] at aF;obtain ⟨u,aA,aG,aT,br⟩:=dB _ _ _ aF;refine ⟨u,fun v ad=>?_,fun q Ds=>?_⟩
  ·rw [si TU] at ad;cases ad;exact ⟨aA,aG,aT⟩
  ·rw [ae] at Ds;cases Ds;exact br
 obtain ⟨U,Hp⟩:=Deep.choose_lt (α:=I) (n:=fs.size) (p:=fun i u=>(∀ v,cs[i]?=some v→u.plain=true∧v.oneCell'=true∧Rel [] (S0 w) w u v)∧∀ q,H8[i]?=some q→q u) each;have get:∀ (i:Nat) (u:I),((List.range fs.size).map U)[i]?=some u→i<fs.size∧u=U i:=fun i u hu=>by
  have hi:i<fs.size:=by have:=(sa.1 hu).1;simpa using this
  simp [hi] at hu;exact ⟨hi,hu.symm⟩
 refine ⟨(List.range fs.size).map U,⟨by simp [aP.1],fun i u q hu a'=>?_⟩,by simp [ao],fun j u v hu ad=>?_⟩
 ·obtain ⟨hi,rfl⟩:=get i u hu;exact (Hp i hi).2 q a'
 ·obtain ⟨hi,rfl⟩:=get j u hu;exact (Hp j hi).1 v ad
theorem Tm {s:Nat}:∀ {L:List (List I)} {j:Nat} {u:I},(∀ l∈L,l.length=s)→0<s→L.flatten[j]?=some u→∃ l,L[j / s]?=some l∧l[j % s]?=some u
 | [],j,u,_,_,h=>by simp at h
 | l::L,j,u,ao,ah,h=>by
   have aQ:l.length=s:=ao l (by simp);rw [List.flatten_cons] at h;by_cases aw:j<s
   ·rw [sg (by omega)] at h;exact ⟨l,by rw [Nat.div_eq_of_lt aw];rfl,by rw [Nat.mod_eq_of_lt aw];exact h⟩
   ·rw [ss (by omega),aQ] at h;obtain ⟨k,a,b⟩:=Tm (s:=s) (fun x aj=>ao x (by simp [aj])) ah h;(have e1:j / s=(j-s) / s+1:=by rw [Nat.div_eq_sub_div ah (by omega)]);(have b':j % s=(j-s) % s:=by rw [Nat.mod_eq_sub_mod (by omega)]);exact ⟨k,by rw [e1];simpa using a,by rw [b'];exact b⟩
end
end Go.Proofs.Ytkoioidpbbbaiaa.Ab


namespace Go.Proofs.Ytkoioidpbbbaiaa.Ab
open Go
instance {d:Nat} {l:List I} [h:qi d l]:qi d (l.map I.ha):=⟨by
 have h:=h.pl;rw [sq] at h ⊢;intro u hu;obtain ⟨v,ad,rfl⟩:=sC.1 hu;have:=h v ad;cases d with
 | zero=>simp [cr] at this
 | succ d=>cases v with
   | av cs n c=>cases c <;> exact this
   | _=>exact this⟩
end Go.Proofs.Ytkoioidpbbbaiaa.Ab


namespace Go.Proofs.Ytkoioidpbbbaiaa.Ab
open Go
def qm (x:(Int×(Int×Int))):List I:=[(h0 x.1),(h0 x.2.1),(h0 x.2.2)]
theorem HV (x:(Int×(Int×Int))):(qm x).length=3:=rfl
instance {d:Nat} {x:(Int×(Int×Int))}:qi (d+1) (qm x):=⟨(inferInstance:qi (d+1) [(h0 x.1),(h0 x.2.1),(h0 x.2.2)]).pl⟩
end Go.Proofs.Ytkoioidpbbbaiaa.Ab


namespace Go.Proofs.Ytkoioidpbbbaiaa.Ab
open Go Go.ChangeShapes Go.WideShapes Go.ChangeAt Go.RowKit
set_option maxRecDepth 100000
section
variable {H:Type} {enc:TypeId×Value→H} {P:Program} {w:World}
def IW (enc:TypeId×Value→H) (P:Program) (w:World) (t:TypeId) (bb:Nat) (Q:List I→Prop):Prop :=
 ∀ (fuel:Nat) (cs:List Value) (y:DataW H×List MemPlace),DataW.trod enc P w 0 (fun _=>true) true fuel t cs=some y →
   ∃ us:List I,Q us∧us.length=bb∧cs.length=bb∧∀ (j:Nat) (u:I) (v:Value),us[j]?=some u→cs[j]?=some v→u.plain=true∧v.oneCell'=true∧Rel [] (S0 w) w u v
theorem ZY {t:TypeId} {f1 f2:Field} {b7 cj:Nat} {oZ lK:List I→Prop} (ax:P.underlying t=some (.struct #[f1,f2])) (ak:P.cellsOf t=b7+cj) (bx:f1.offset=0) (bK:f2.offset=b7) (a7:P.cellsOf f1.type=b7) (a9:P.cellsOf f2.type=cj) (ab:IW enc P w f1.type b7 oZ) (ae:IW enc P w f2.type cj lK) :
  IW enc P w t (b7+cj) fun us=>∃ a b,us=a++b∧oZ a∧lK b:=by
 intro fuel cs y h;obtain ⟨xs,m,_,_,ao,Qe,aj⟩:=DataW.trod_struct ax h;rw [ak] at ao;have Qe:xs.length=2:=Qe;have e1:=aj 0 f1 rfl;have b':=aj 1 f2 rfl;rw [bx,a7,tq,si (by omega)] at e1;rw [bK,a9,si (by omega)] at b';obtain ⟨a,aA,aG,aT,br⟩:=ab _ _ _ e1;obtain ⟨b,bm,cw,e2,lR⟩:=ae _ _ _ b';refine ⟨a++b,⟨a,b,rfl,aA,bm⟩,by rw [sy];omega,ao,fun j u v hu ad=>?_⟩;by_cases aw:j<b7
 ·rw [sg (by omega)] at hu;exact br j u v hu (by rw [sI,if_pos aw];exact ad)
 ·rw [ss (by omega)] at hu;have ahw:j-a.length<b.length:=(sa.1 hu).1;refine lR (j-a.length) u v hu ?_;rw [sI,if_pos (by omega),sQ,show b7+(j-a.length)=j by omega];exact ad
theorem ZW {t:TypeId} {Q:I→Prop} (h:Jo enc P w t Q) (ah:∀ (fuel:Nat) (cs:List Value) (y:DataW H×List MemPlace),DataW.trod enc P w 0 (fun _=>true) true fuel t cs=some y→cs.length=1):IW enc P w t 1 fun us=>∃ u,us=[u]∧Q u:=by
 intro fuel cs y aY;have ao:=ah _ _ _ aY
 match cs,ao with
 | [c],_ =>
   obtain ⟨u,aA,aG,aT,br⟩:=h _ _ _ aY;refine ⟨[u],⟨u,rfl,br⟩,rfl,rfl,fun j bH v hu ad=>?_⟩
   match j with
   | 0=>simp at hu ad;subst hu;subst ad;exact ⟨aA,aG,aT⟩
   | j+1=>simp at hu
theorem S6 {t:TypeId} {fs:Array Field} {H8:List (I→Prop)} (ax:P.underlying t=some (.struct fs)) (ak:P.cellsOf t=fs.size) (aP:Nb enc P w fs H8):IW enc P w t fs.size (O1 H8):=fun fuel cs y h=>by
 obtain ⟨us,ab,ae,aF⟩:=afn ax ak aP h;have:=ab.1;have:=aP.1;exact ⟨us,ab,by omega,by omega,aF⟩
theorem Zp {base:Nat} {t:TypeId} {fs:Array Field} {bb:Nat} {Q:List I→Prop} (ax:P.underlying t=some (.struct fs)) (aP:IW enc P w t bb Q):Arg enc P w base t fun u=>∃ us,u=.agg us∧Q us:=by
 intro v d p ad ⟨n,a1⟩;unfold Value.okWide at ad;rw [ax] at ad;obtain ⟨cs,rfl,bR,_⟩:=ad;obtain ⟨us,ab,ae,GM,aF⟩:=aP _ _ _ a1;have ae:cs.toList.length=us.length:=by rw [ae];exact GM
 refine ⟨.agg us,rfl,.agg us cs (by simpa using ae) (fun u hu=>?_) (fun v ad=>?_) fun j u v hu ad=>?_,us,rfl,ab⟩
 ·obtain ⟨j,aw⟩:=sW.1 hu;have aR:j<cs.toList.length:=by rw [ae];exact (sa.1 aw).1
  exact (aF j u _ aw (si aR)).1
 ·obtain ⟨j,aw⟩:=sW.1 ad;have aR:j<us.length:=by rw [←ae];exact (sa.1 aw).1
  exact (aF j _ v (si aR) aw).2.1
 ·exact (aF j u v hu (by show cs.toList[j]?=some v;simpa using ad)).2.2
theorem ZS {t e:TypeId} {bb:Nat} {Q:List I→Prop} (ax:P.underlying t=some (.slice e)) (ak:P.cellsOf e=bb) (aQ:0<bb) (aP:IW enc P w e bb Q) :
  Jo enc P w t fun u=>∃ L:List (List I),u=.av L.flatten L.length .shared∧L.length≤maxLen∧∀ us∈L,Q us:=by
 intro fuel v x h;rcases Deep.open_slice ax h with ⟨ad,_⟩ | ⟨a,len,cap,m,n,D,O4,ad,_,ao,hm,pR,_,aj⟩
 ·injection ad with ad _;subst ad;exact ⟨_,rfl,rfl,.b3 _ _,[],rfl,sD _,by simp⟩
 ·injection ad with ad _;subst ad;have pR:m=cap:=pR;by_cases CM:cap=0
  ·(subst CM;obtain rfl:len=0:=by omega);exact ⟨_,rfl,rfl,.b3 _ _,[],rfl,sD _,by simp⟩
  ·have each:∀ i,i<len→∃ q:List I×List Value,Q q.1∧q.1.length=bb∧q.2.length=bb∧w.cells? 0 (a.add (i*bb)) bb=some q.2∧∀ (j:Nat) (u:I) (v:Value),q.1[j]?=some u→q.2[j]?=some v→u.plain=true∧v.oneCell'=true∧Rel [] (S0 w) w u v:=fun i hi=>by
    obtain ⟨c_,ab,ae⟩:=aj i (by omega);rw [ak] at ab;obtain ⟨us,bm,cw,e2,lR⟩:=aP _ _ _ ae;exact ⟨(us,c_),bm,cw,e2,ab,lR⟩
   obtain ⟨q0,_,_,Ny,_⟩:∃ q:List Value,True∧True∧w.cells? 0 (a.add (0*bb)) bb=some q∧True:=by
    obtain ⟨c_,ab,_⟩:=aj 0 (by omega);rw [ak] at ab;exact ⟨c_,trivial,trivial,ab,trivial⟩
   obtain ⟨b,o,sp⟩:=a;have ah:sp=none:=by
    obtain ⟨_,hlen,bz⟩:=World.cells?_some Ny;have:=bz 0 aQ;rw [si (by omega)] at this;simpa [Addr.add] using World.cell?_spot this
   subst ah;obtain ⟨U,Hp⟩:=Deep.choose_lt (α:=List I×List Value) (n:=len) (p:=fun i q=>Q q.1∧q.1.length=bb∧q.2.length=bb∧w.cells? 0 (Addr.add ⟨b,o,none⟩ (i*bb)) bb=some q.2∧∀ (j:Nat) (u:I) (v:Value),q.1[j]?=some u→q.2[j]?=some v→u.plain=true∧v.oneCell'=true∧Rel [] (S0 w) w u v) each;have aaI:∀ i,i<len→(U i).1.length=bb:=fun i hi=>(Hp i hi).2.1;have c1:∀ l∈((List.range len).map fun i=>(U i).1),l.length=bb:=fun l c'=>by
    obtain ⟨i,hi,rfl⟩:=sC.1 c';exact aaI i (sH.1 hi)
   let V:Nat→Value:=fun j=>((U (j / bb)).2)[j % bb]!
   have key:∀ (j:Nat) (u:I),(((List.range len).map fun i=>(U i).1).flatten)[j]?=some u→w.cell? ⟨b,o+j,none⟩=some (V j)∧u.plain=true∧(V j).oneCell'=true∧Rel [] (S0 w) w u (V j):=fun j u aw=>by
    obtain ⟨l,cf,ca⟩:=Tm c1 aQ aw;(have hi:j / bb<len:=by have:=(sa.1 cf).1;simpa using this);simp [hi] at cf;subst cf;obtain ⟨a7,B9,a9,bt,b6⟩:=Hp _ hi;have J9:j % bb<bb:=Nat.mod_lt _ aQ;have ad:(U (j / bb)).2[j % bb]?=some (V j):=by
     show _=some ((U (j / bb)).2[j % bb]!);rw [si (by omega),getElem!_pos _ _ (by omega)]
    obtain ⟨_,_,bz⟩:=World.cells?_some bt;have JH:=bz (j % bb) J9;rw [ad] at JH;have e:(Addr.add (Addr.add ⟨b,o,none⟩ (j / bb*bb)) (j % bb))=⟨b,o+j,none⟩:=by
     simp only [add_lit];congr 1;have:=Nat.div_add_mod' j bb;omega
    rw [e] at JH;exact ⟨JH,b6 _ _ _ ca ad⟩
   refine ⟨.av ((List.range len).map fun i=>(U i).1).flatten len .shared,rfl,rfl,.av _ _ _ b o cap V (by simp) ao (by simp) (fun j u aw=>?_) (fun j u aw=>?_),(List.range len).map fun i=>(U i).1,by simp,by simp;omega,fun us hu=>?_⟩
   ·obtain ⟨aJ,aN,cb,_⟩:=key j u aw;exact ⟨⟨_,aJ⟩,aJ,aN,cb⟩
   ·exact (key j u aw).2.2.2
   ·obtain ⟨j,aw,rfl⟩:=sC.1 hu;exact (Hp j (sH.1 aw)).1
end
section
variable {H:Type} {enc:TypeId×Value→H} {w:World} {base:Nat}
def Ks:I→Prop:=fun u=>∃ x,u=h0 x∧IB x
theorem Nk:Jo enc Try.prog w 2 Ks:=fun n v y h=>by
 obtain ⟨u,a,b,c,x,rfl,d⟩:=S5 (P:=Try.prog) Try.underlying2 n v y h;exact ⟨_,a,b,c,x,rfl,wf_i64 d⟩
theorem U7 {us:List I} (h:O1 [Ks,Ks] us):∃ p:Int×Int,us=p7 p∧IB p.1∧IB p.2:=by
 obtain ⟨ao,h⟩:=h
 match us,ao with
 | [a,b],_ =>
   obtain ⟨x,rfl,aj⟩:=h 0 _ _ rfl rfl;obtain ⟨y,rfl,aY⟩:=h 1 _ _ rfl rfl;exact ⟨(x,y),rfl,aj,aY⟩
def R2 (us:List I):Prop:=∃ p:Int×Int,us=p7 p∧IB p.1∧IB p.2
theorem IW.mono {P:Program} {t:TypeId} {n:Nat} {Q R:List I→Prop} (h:IW enc P w t n Q) (k:∀ us,Q us→R us):IW enc P w t n R:=fun fuel cs y aY=>by
 obtain ⟨us,ab,ae⟩:=h fuel cs y aY;exact ⟨us,k us ab,ae⟩
theorem aao : Nb enc Try.prog w #[{ name := "Pull", type := 2, offset := 0, embedded := false, tag := "", pkgPath := "", byteOffset := 0 }, { name := "More", type := 2, offset := 1, embedded := false, tag := "", pkgPath := "", byteOffset := 8 }] [Ks, Ks] := ⟨rfl, fun i f q aP a' => by
 match i with
 | 0=>simp at aP a';subst aP;subst a';exact ⟨rfl,by kernel_rfl,Nk⟩
 | 1=>simp at aP a';subst aP;subst a';exact ⟨rfl,by kernel_rfl,Nk⟩
 | i+2=>simp at a'⟩
theorem aan : Nb enc Try.prog w #[{ name := "Lo", type := 2, offset := 0, embedded := false, tag := "", pkgPath := "", byteOffset := 0 }, { name := "Hi", type := 2, offset := 1, embedded := false, tag := "", pkgPath := "", byteOffset := 8 }] [Ks, Ks] := ⟨rfl, fun i f q aP a' => by
 match i with
 | 0=>simp at aP a';subst aP;subst a';exact ⟨rfl,by kernel_rfl,Nk⟩
 | 1=>simp at aP a';subst aP;subst a';exact ⟨rfl,by kernel_rfl,Nk⟩
 | i+2=>simp at a'⟩
theorem ZX:IW enc Try.prog w 52 2 R2:=(S6 Try.underlying52 (by kernel_rfl) aao).mono fun _ h=>U7 h
theorem ZV:IW enc Try.prog w 24 2 R2:=(S6 Try.underlying24 (by kernel_rfl) aan).mono fun _ h=>U7 h
def RZ (bq:List (Int×Int)):Prop:=bq.length≤9223372036854775807∧∀ p∈bq,IB p.1∧IB p.2
abbrev R1 (bq:List (Int×Int)):I:=.av (bq.flatMap p7) bq.length .shared
theorem ZT:Jo enc Try.prog w 22 fun u=>∃ bq,u=R1 bq∧RZ bq:=fun n v y h=>by
 obtain ⟨u,a,b,c,L,rfl,ao,fq⟩:=ZS Try.underlying22 (by kernel_rfl) (by decide) ZX n v y h;obtain ⟨bq,rfl,aB⟩:=UJ (f:=p7) (R:=fun p:Int×Int=>IB p.1∧IB p.2) fun us hu=>by
  obtain ⟨p,e,ab,ae⟩:=fq us hu;exact ⟨p,e,ab,ae⟩
 refine ⟨_,a,b,c,bq,?_,by have:=UK ao;simpa using this,aB⟩;simp [R1,List.flatMap_def]
structure YA (p:(List (Int×Int))×(Int×Int)):Prop where
 s:RZ p.1
 lo:IB p.2.1
 hi:IB p.2.2
theorem adu (fuel:Nat) (cs:List Value) (y:DataW H×List MemPlace) (h:DataW.trod enc Try.prog w 0 (fun _=>true) true fuel 22 cs=some y):cs.length=1:=by
 rcases Deep.open_slice Try.underlying22 h with ⟨ad,_⟩ | ⟨a,len,cap,m,n,D,O4,ad,_⟩
 ·rw [ad];rfl
 ·rw [ad];rfl
theorem Zq:Arg enc Try.prog w base 26 fun u=>∃ p:(List (Int×Int))×(Int×Int),u=.agg [.av (p.1.flatMap p7) p.1.length .shared,h0 p.2.1,h0 p.2.2]∧YA p:=by
 intro v d p ad a1;obtain ⟨u,a,b,us,rfl,x,y,rfl,⟨fA,rfl,bq,rfl,kS⟩,⟨aac,rfl,ab,ae⟩⟩:=Zp (P:=Try.prog) (enc:=enc) (w:=w) (base:=base) Try.underlying26 (ZY Try.underlying26 (by kernel_rfl) rfl rfl (by kernel_rfl) (by kernel_rfl) (ZW ZT adu) ZV) v d p ad a1;exact ⟨_,a,b,(bq,aac),rfl,kS,ab,ae⟩
theorem Zs:Arg enc Try.prog w base 37 fun u=>∃ l,u=Mg l∧R0 l:=Zr Try.underlying37 (ZQ Try.underlying37 (by kernel_rfl) Try.underlying5)
end
end Go.Proofs.Ytkoioidpbbbaiaa.Ab


namespace Go.Proofs.Ytkoioidpbbbaiaa.Ab
open Go
set_option maxRecDepth 20000
set_option maxHeartbeats 4000000
noncomputable def Yu:gE :=
 p2 [qc 4 0] (p2 [p1 5 1,p1 6 0,p0 7 [.Bu 6] .z6,qx 8 7 0,qx 9 8 0,qf 10 9,qU 11 10,qw 12 11 2 .quo,qo 13 5 12 .sub,p1 4 13] .ret)
theorem ac9:ql Try.prog SM 68=some (Yu,14,[.tmp 4]):=by kernel_rfl
def JV (b:((qj×(Int×Int))×Unit)) (JM:Int):Option Int :=
 qy ((2:Int)≠0) <|
 some (w (JM-(w ((b.1.1.length:Int).tdiv (2:Int)))))
theorem Kp {b:((qj×(Int×Int))×Unit)} {JM:Int} {v:Int} (h:JV b JM=some v):qu 68 [(.bS [(.av (b.1.1.flatMap p7) b.1.1.length .shared),(h0 b.1.2.1),(h0 b.1.2.2),Hg]),(h0 JM)] (h0 v):=by
 refine qH eG ac9 rfl rfl fun Q bp=>?_;have jK:qJ [.tmp 4] Q (fun v=>(h0 v)) v:=fun T H bE=>bp _ T H bE;unfold JV at h;unfold Yu;conv=>whnf
 refine qV h id fun gM h=>?_;conv=>whnf
 exact qg h jK rfl rfl

noncomputable def OI:gE :=
 .loop (some (p8 false [0,2,5,2,10])) (p2 [p0 9 [.nd 8,.nd 7] (.bin .lss)] (.seq (.cond (.nd 9) .skip (.exit 0)) (.seq (.block 1 (p2 [p3 10 8,p1 5 10] (p2 [p3 11 1,p3 12 0,p3 13 5,q5 14 12 13 1,qf 15 14,qo 16 11 15 .eql] (.cond (.nd 16) (p2 [p1 17 5,p1 4 17] .ret) .skip)))) (qG [qT 18 8 1,p1 8 18]))))
noncomputable def X0:gE :=
 p2 [qc 4 0] (.seq (p2 [p3 6 0,qU 7 6,qc 8 0] (.block 0 OI)) (p2 [qc 4 (-1)] .ret))
theorem acD:ql Try.prog Pj 90=some (X0,19,[.tmp 4]):=by kernel_rfl
def Kg (s:qb) (H5:Int) (qd:Unit→Option Int):Nat→Int→Option Int
 | 0,_=>none
 | m+1,s1 =>
   if (decide (s1<(s.length:Int)))=true then
    qy (0≤s1∧s1<(s.length:Int)) <|
    if (decide (H5=(ix s s1)))=true then
     some s1
    else
     Kg s H5 qd m (w (s1+(1:Int)))
   else
    qd ()
def Oo (s:qb) (H5:Int):Option Int :=
 Kg s H5 (fun _ =>
   some (-1:Int)) qk (0:Int)
theorem af5 {s:qb} {H5:Int} {qd:Unit→Option Int} {s1:Int} {v:Int} {Q:HL}   (jK:qJ [.tmp 4] Q (fun v=>(h0 v)) v) (rn:∀ (qe:List I),qd ()=some v→rm 19 [] qe→Q (.exit 0) qe []) {T:List I} (b0:eZ (p8 false [0,2,5,2,10]) T=qa 19 [(0,(qM s .shared)),(1,(h0 H5)),(7,(h0 (s.length:Int))),(8,(h0 s1))]) (h:Kg s H5 qd qk s1=some v) :
  dQ Try.prog Pj 90 0 none OI T [] Q:=by
 unfold OI;refine wp_loop b0 ?_;refine .intro (fun m T H=>∃ (s1:Int),T=qa 19 [(0,(qM s .shared)),(1,(h0 H5)),(7,(h0 (s.length:Int))),(8,(h0 s1))]∧H=[]∧Kg s H5 qd m s1=some v) qk ⟨s1,rfl,rfl,h⟩ ?_;clear h b0;rintro m T H ⟨s1,rfl,rfl,h⟩;cases m
 ·exact rT h
 rename_i m;rw [Kg.eq_2] at h;conv=>whnf
 refine bs h (fun gM h=>?_) fun gM h=>?_
 ·rw [gM];conv=>whnf
  refine qV h id fun gN h=>?_;rw [rb h0 s s1 gN];conv=>whnf
  refine bs h (fun qs h=>?_) fun qs h=>?_
  ·rw [qs];(conv=>whnf);exact qg h jK rfl rfl
  ·rw [qs];(conv=>whnf);exact ⟨m,sG m,(w (s1+(1:Int))),rfl,rfl,h⟩
 ·rw [gM];conv=>whnf
  exact rn  _ h ⟨rfl,rfl⟩
theorem af6 {s:qb} {H5:Int} {v:Int} (h:Oo s H5=some v):qu 90 [(.av (s.map h0) s.length .shared),(h0 H5)] (h0 v):=by
 refine qH eG acD rfl rfl fun Q bp=>?_;have jK:qJ [.tmp 4] Q (fun v=>(h0 v)) v:=fun T H bE=>bp _ T H bE;unfold Oo at h;unfold X0;obtain ⟨HY,qF⟩:∃ c,OI=c:=⟨_,rfl⟩;rw [qF];conv=>whnf
 subst qF;refine af5 ?_ ?_ (by exact rfl) h
 ·exact fun T H bE=>jK T H bE
 ·intro  qe h qA;obtain ⟨rG,rfl⟩:=qA.ex;conv=>whnf
  exact qg h jK rfl rfl

noncomputable def XY:gE :=
 p2 [p0 4 [.cv (.bool false)] .mV] (p2 [p1 5 0,p1 6 1,p0 7 [.cv (.func 90 [] []),.nd 5,.nd 6] (.call 3),qw 8 7 0 .geq,p1 4 8] .ret)
theorem acB:ql Try.prog SS 77=some (XY,9,[.tmp 4]):=by kernel_rfl
def MW (s:qb) (H5:Int):Option Bool :=
 (Oo s H5).bind fun aS =>
 some (decide ((0:Int)≤aS))
theorem af2 {s:qb} {H5:Int} {v:Bool} (h:MW s H5=some v):qu 77 [(.av (s.map h0) s.length .shared),(h0 H5)] (B v):=by
 refine qH eG acB rfl rfl fun Q bp=>?_;have jK:qJ [.tmp 4] Q (fun v=>(B v)) v:=fun T H bE=>bp _ T H bE;unfold MW at h;unfold XY;conv=>whnf
 obtain ⟨aS,gM,h⟩:=p9 h;refine ⟨qi.pl,_,af6 gM,?_⟩;conv=>whnf
 exact qg h jK rfl rfl

noncomputable def RQ:gE :=
 .ow true [p0 47 [.nd 9] (.yO 1),qf 48 47,p3 49 0,p1 50 10,p0 51 [.cv (.func 68 [] []),.nd 49,.nd 50] (.call 3),qx 52 12 1,qf 53 52,qo 54 51 53 .mul,qo 55 48 54 .add,p0 56 [.nd 9] (.yO 1),⟨none,[.jq 56,.jq 55],none,none,.st 1⟩]
noncomputable def RX:gE :=
 .seq (q_ [p0 37 [.nd 9] (.yO 0),qf 38 37,p3 39 0,p3 40 10,p0 41 [.cv (.func 68 [] []),.nd 39,.nd 40] (.call 3),p0 42 [.nd 12] (.yO 0),qf 43 42,qo 44 41 43 .mul,qo 45 38 44 .add,p0 46 [.nd 9] (.yO 0),⟨none,[.jq 46,.jq 45],none,none,.st 1⟩]) RQ
noncomputable def RW:gE :=
 .seq (p2 [p3 20 10,qw 21 20 2 .rem,p3 22 2,qo 23 21 22 .neq,p1 24 23,cl 25 [.nd 3] 24 false .mV,cl 26 [.nd 10] 24 false .mV,⟨some 27,[.cv (.func 77 [] []),.nd 25,.nd 26],some (24,false),none,.call 3⟩,p0 28 [.Bu 24,.cv (.bool true),.Bu 27] .pick] (.cond (.nd 28) (.exit 1) .skip)) (p2 [p3 29 0,p0 30 [.Bu 29] .z6,qx 31 30 0,qx 32 31 0,qf 33 32,p1 34 11,q5 35 33 34 2,p0 36 [.Bu 35] (.zG (.str 2)),p0 12 [] (.alloc [.int .i64 0,.int .i64 0]),⟨none,[.nd 12,.jq 36],none,none,.st 2⟩] RX)
noncomputable def Na:gE :=
 .ow false [qT 57 15 1,p1 15 57]
noncomputable def RV:gE :=
 .seq (.block 1 (p2 [p3 17 15,p0 18 [.nd 13,.nd 15] (.kZ 1),qf 19 18,p1 10 17,p1 11 19] RW)) Na
noncomputable def RU:gE :=
 .seq (.cond (.nd 16) .skip (.exit 0)) RV
noncomputable def OZ:gE :=
 .loop (some (p8 false [0,1,1,2,4,2,3,3,43])) (p2 [p0 16 [.nd 15,.nd 14] (.bin .lss)] RU)
noncomputable def RT:gE :=
 .block 0 OZ
noncomputable def RS:gE :=
 p2 [p0 58 [.Bu 9] (.zG (.str 2)),⟨none,[.nd 8,.jq 58],none,none,.st 2⟩] .ret
noncomputable def RR:gE :=
 .seq (p2 [p1 13 1,p0 14 [.nd 13] .zL,qc 15 0] RT) RS
noncomputable def RP:gE :=
 p2 [p0 9 [] (.alloc [.int .i64 0,.int .i64 0])] RR
noncomputable def Yv:gE :=
 p2 [p0 8 [] (.alloc [.int .i64 0,.int .i64 0])] RP
theorem ac_:ql Try.prog Pf 62=some (Yv,59,[.cell 8 (.str 2)]):=by kernel_rfl
def JW (b:((qj×(Int×Int))×Unit)) (order:qb) (qp:Int) (without:qb) (qd:Int→Int→Option (Int×Int)):Nat→Int→Int→Int→Option (Int×Int)
 | 0,_,_,_=>none
 | m+1,s1,s2,dk =>
   if (decide (s1<(order.length:Int)))=true then
    qy (0≤s1∧s1<(order.length:Int)) <|
    qy ((2:Int)≠0) <|
    if (decide ((s1.tmod (2:Int))≠qp))=true then
     JW b order qp without qd m (w (s1+(1:Int))) s2 dk
    else
     (MW without s1).bind fun aS =>
     if aS=true then
      JW b order qp without qd m (w (s1+(1:Int))) s2 dk
     else
      qy (0≤(ix order s1)∧(ix order s1)<(b.1.1.length:Int)) <|
      (JV (b.1,()) s1).bind fun bj =>
      (JV (b.1,()) s1).bind fun eK =>
      JW b order qp without qd m (w (s1+(1:Int))) (w (s2+(w (bj*(ix b.1.1 (ix order s1)).1)))) (w (dk+(w (eK*(ix b.1.1 (ix order s1)).2))))
   else
    qd s2 dk
def K_ (b:((qj×(Int×Int))×Unit)) (order:qb) (qp:Int) (without:qb):Option (Int×Int) :=
 JW b order qp without (fun yo oU =>
   some (yo,oU)) qk (0:Int) (0:Int) (0:Int)
theorem agV {b:((qj×(Int×Int))×Unit)} {order:qb} {qp:Int} {without:qb} {qd:Int→Int→Option (Int×Int)} {s1:Int} {s2:Int} {dk:Int} {v:(Int×Int)} {Q:HL}   (rn:∀ (yo oU:Int) (J0:List ar) (qe:List I),qd yo oU=some v→rm 59 [(8,(.ptr 0 0)),(9,(.ptr 1 0))] qe→Q (.exit 0) qe (ar.cells [(h0 (0:Int)),(h0 (0:Int))]::ar.cells [(h0 yo),(h0 oU)]::J0)) {T:List I} (b0:eZ (p8 false [0,1,1,2,4,2,3,3,43]) T=qa 59 [(0,(.bS [(q' b.1.1 .shared),(h0 b.1.2.1),(h0 b.1.2.2),Hg])),(2,(h0 qp)),(3,(qM without .shared)),(8,(.ptr 0 0)),(9,(.ptr 1 0)),(13,(qM order .shared)),(14,(h0 (order.length:Int))),(15,(h0 s1))]) (h:JW b order qp without qd qk s1 s2 dk=some v) :
  dQ Try.prog Pf 62 0 none OZ T [ar.cells [(h0 (0:Int)),(h0 (0:Int))],ar.cells [(h0 s2),(h0 dk)]] Q:=by
 unfold OZ;obtain ⟨ahi,TE⟩:∃ c,RU=c:=⟨_,rfl⟩;rw [TE];refine wp_loop b0 ?_;refine .intro (fun m T H=>∃ (s1 s2 dk:Int) (R7:List ar),T=qa 59 [(0,(.bS [(q' b.1.1 .shared),(h0 b.1.2.1),(h0 b.1.2.2),Hg])),(2,(h0 qp)),(3,(qM without .shared)),(8,(.ptr 0 0)),(9,(.ptr 1 0)),(13,(qM order .shared)),(14,(h0 (order.length:Int))),(15,(h0 s1))]∧H=(ar.cells [(h0 (0:Int)),(h0 (0:Int))]::ar.cells [(h0 s2),(h0 dk)]::R7)∧JW b order qp without qd m s1 s2 dk=some v) qk ⟨s1,s2,dk,[],rfl,rfl,h⟩ ?_;clear h b0;rintro m T H ⟨s1,s2,dk,R7,rfl,rfl,h⟩;cases m
 ·exact rT h
 rename_i m;rw [JW.eq_2] at h;conv=>whnf
 subst TE;unfold RU;obtain ⟨ahj,TF⟩:∃ c,RV=c:=⟨_,rfl⟩;rw [TF];conv=>whnf
 refine bs h (fun gM h=>?_) fun gM h=>?_
 ·rw [gM];conv=>whnf
  subst TF;unfold RV;obtain ⟨ahk,Nu⟩:∃ c,Na=c:=⟨_,rfl⟩;rw [Nu];obtain ⟨ahl,TG⟩:∃ c,RW=c:=⟨_,rfl⟩;rw [TG];conv=>whnf
  refine qV h id fun gN h=>?_;rw [rb h0 order s1 gN];conv=>whnf
  subst TG;unfold RW;obtain ⟨ahm,TH⟩:∃ c,RX=c:=⟨_,rfl⟩;rw [TH];conv=>whnf
  refine qV h id fun qs h=>?_;conv=>whnf
  refine bs h (fun qP h=>?_) fun qP h=>?_
  ·rw [qP];(conv=>whnf);subst Nu;unfold Na;(conv=>whnf);exact ⟨m,sG m,(w (s1+(1:Int))),s2,dk,_,rfl,rfl,h⟩
  ·rw [qP];(conv=>whnf);obtain ⟨aS,rj,h⟩:=p9 h;refine ⟨qi.pl,_,af2 rj,?_⟩;(conv=>whnf);cases aS
   ·(conv=>whnf);replace h:=HC rfl h;refine qV h id fun rU h=>?_;rw [Ib p7 2 Je b.1.1 (ix order s1) rU];(conv=>whnf);refine Ex (x:=ar.cells [(h0 (0:Int)),(h0 (0:Int))]) (by first | exact qC.h | rfl | (simp [sj,I.settle];done)) ?_
    (conv=>whnf);rw [HQ];subst TH;unfold RX;obtain ⟨ahf,TB⟩:∃ c,RQ=c:=⟨_,rfl⟩;rw [TB];(conv=>whnf);obtain ⟨bj,qX,h⟩:=p9 h;refine ⟨qi.pl,_,Kp qX,Hi,?_⟩;(conv=>whnf);refine Ex (x:=ar.cells [(h0 (ix b.1.1 (ix order s1)).1),(h0 (ix b.1.1 (ix order s1)).2)]) (by first | exact qC.h | rfl | (simp [sj,I.settle];done)) ?_
    (conv=>whnf);subst TB;unfold RQ;(conv=>whnf);obtain ⟨eK,Hr,h⟩:=p9 h;refine ⟨qi.pl,_,Kp Hr,Hi,?_⟩;(conv=>whnf);refine Ex (x:=ar.cells [(h0 (ix b.1.1 (ix order s1)).1),(h0 (ix b.1.1 (ix order s1)).2)]) (by first | exact qC.h | rfl | (simp [sj,I.settle];done)) ?_
    (conv=>whnf);subst Nu;unfold Na;(conv=>whnf);exact ⟨m,sG m,(w (s1+(1:Int))),(w (s2+(w (bj*(ix b.1.1 (ix order s1)).1)))),(w (dk+(w (eK*(ix b.1.1 (ix order s1)).2)))),_,rfl,rfl,h⟩
   ·(conv=>whnf);replace h:=HD rfl h;subst Nu;unfold Na;(conv=>whnf);exact ⟨m,sG m,(w (s1+(1:Int))),s2,dk,_,rfl,rfl,h⟩
 ·rw [gM];conv=>whnf
  exact rn _ _ _ _ h ⟨rfl,rfl⟩
theorem OG {b:((qj×(Int×Int))×Unit)} {order:qb} {qp:Int} {without:qb} {v:(Int×Int)} (h:K_ b order qp without=some v):qu 62 [(.bS [(.av (b.1.1.flatMap p7) b.1.1.length .shared),(h0 b.1.2.1),(h0 b.1.2.2),Hg]),(.av (order.map h0) order.length .shared),(h0 qp),(.av (without.map h0) without.length .shared)] (.agg [(h0 v.1),(h0 v.2)]):=by
 refine qH eG ac_ rfl (HU (p5 rfl (p5 rfl rfl))) fun Q bp=>?_;have jK:qJ [.cell 8 (.str 2)] Q (fun v=>(.agg [(h0 v.1),(h0 v.2)])) v:=fun T H bE=>bp _ T H bE;unfold K_ at h;unfold Yv;obtain ⟨HY,qF⟩:∃ c,RP=c:=⟨_,rfl⟩;rw [qF];conv=>whnf
 subst qF;unfold RP;obtain ⟨Kx,rM⟩:∃ c,RR=c:=⟨_,rfl⟩;rw [rM];conv=>whnf
 subst rM;unfold RR;obtain ⟨ZE,Mp⟩:∃ c,RS=c:=⟨_,rfl⟩;rw [Mp];obtain ⟨ahh,TD⟩:∃ c,RT=c:=⟨_,rfl⟩;rw [TD];conv=>whnf
 subst TD;unfold RT;obtain ⟨ahg,TC⟩:∃ c,OZ=c:=⟨_,rfl⟩;rw [TC];conv=>whnf
 subst TC;refine agV ?_ (by exact rfl) h;intro yo oU J0 qe h qA;obtain ⟨rG,rfl⟩:=qA.ex;conv=>whnf
 subst Mp;unfold RS;conv=>whnf
 exact qg h jK rfl rfl
end Go.Proofs.Ytkoioidpbbbaiaa.Ab


namespace Go.Proofs.Ytkoioidpbbbaiaa.Ab
open Go
noncomputable def aeq:gE :=
 .ow false [p1 18 8,p0 19 [.nd 9] (.yO 0),qf 20 19,qx 21 9 1,qf 22 21,p3 23 2,qo 24 22 23 .mul,qo 25 20 24 .add,p0 26 [.nd 7,.Bu 18] (.zw 2 1),⟨none,[.jq 26,.jq 25],none,none,.st 1⟩]
noncomputable def aer:gE :=
 p2 [p3 14 0,p3 15 1,p3 16 8,p0 17 [.cv (.func 62 [] []),.nd 14,.nd 15,.nd 16,.cv (.av [] 0 .full)] (.call 3),p0 9 [] (.alloc [.int .i64 0,.int .i64 0]),⟨none,[.nd 9,.jq 17],none,none,.st 2⟩] aeq
noncomputable def aes:gE :=
 .block 1 (p2 [p3 13 11,p1 8 13] aer)
noncomputable def aet:gE :=
 .seq (p2 [qc 11 0] (.block 0 (.loop (some (p8 false [0,3,3,2,3,1,17])) (p2 [p0 12 [.nd 11,.cv (.int .i64 2)] (.bin .lss)] (.seq (.cond (.nd 12) .skip (.exit 0)) (.seq aes (qG [qT 27 11 1,p1 11 27]))))))) (p2 [p0 28 [.Bu 7] (.zG (.arr 2)),⟨none,[.nd 6,.jq 28],none,none,.st 2⟩] .ret)
noncomputable def V':gE :=
 p2 [p0 6 [] (.alloc [.int .i64 0, .int .i64 0])] (p2 [p0 7 [] (.alloc [.int .i64 0, .int .i64 0])] (p2 [p0 10 [.nd 7] (.other (Oper.mk (some 10) (Op.slice 66 (Operand.tmp 7) none none none) 98 "press.go:44" (Array.mk []) none) 0), ⟨none, [.jq 10], none, none, .other (Oper.mk none (Op.call (Call.mk (Callee.builtin Builtin.clear) (Array.mk [Operand.tmp 10]) (Array.mk [98]))) 0 "press.go:44" (Array.mk [Edge.mk 0 Ground.data]) none) 0⟩] aet))
theorem acg:ql Go.Proofs.Try.prog Su 38=some (V',29,[.cell 6 (.arr 2)]):=by kernel_rfl
noncomputable def aeb:gE :=
 .ow false [p1 35 5,p3 36 9,p1 37 9,p0 38 [.Bu 37] (.un .neg),p0 39 [.jq 35,.jq 36,.jq 38] .max,p1 5 39]
noncomputable def aec:gE :=
 .block 3 (p2 [p0 34 [.nd 31, .nd 32] (.other (Oper.mk (some 34) (Op.index 66 (Operand.tmp 31) (Operand.tmp 32)) 2 "press.go:56" (Array.mk []) none) 0), p1 9 34] aeb)
noncomputable def aed:gE :=
 p2 [p3 28 0,p3 29 1,p1 30 7,p0 31 [.cv (.func 38 [] []),.nd 28,.nd 29,.nd 30] (.call 3),qc 32 0] (.block 2 (.loop (some (p8 false [0,2,3,1,16,3,6,2,10])) (p2 [p0 33 [.nd 32,.cv (.int .i64 2)] (.bin .lss)] (.seq (.cond (.nd 33) .skip (.exit 2)) (.seq aec (qG [qT 40 32 1,p1 32 40]))))))
noncomputable def aee:gE :=
 .block 1 (p2 [p0 26 [.nd 22,.nd 24] (.kZ 1),qf 27 26,p1 7 27] aed)
noncomputable def aef:gE :=
 .seq (.seq (q_ [p3 10 0,p0 11 [.Bu 10] .z6,qx 12 11 0,qx 13 12 1,qx 14 13 0,qf 15 14,p3 16 0,p0 17 [.Bu 16] .z6,qx 18 17 0,qx 19 18 1,qx 20 19 1,qf 21 20,p0 22 [.Bu 15,.Bu 21] (.yD 2 1 [.int .i64 0] [0,1]),p0 23 [.nd 22] .zL,qc 24 0]) (.block 0 (.loop (some (p8 false [0,2,3,1,16,3,18])) (p2 [p0 25 [.nd 24,.nd 23] (.bin .lss)] (.seq (.cond (.nd 25) .skip (.exit 0)) (.seq aee (qG [qT 41 24 1,p1 24 41]))))))) (p2 [p1 42 5,p1 4 42] .ret)
noncomputable def VX:gE :=
 p2 [qc 4 0] (p2 [qc 5 0] aef)
theorem ab_:ql Go.Proofs.Try.prog Sv 41=some (VX,43,[.tmp 4]):=by kernel_rfl
end Go.Proofs.Ytkoioidpbbbaiaa.Ab


namespace Go.Proofs.Ytkoioidpbbbaiaa.Ab
open Go
theorem aaq {H:List ar} {id d:Nat} {l r:List I} (h:H[id]?=some (.cells l)) (hm:ea (bM H 0 H.length 0 d) (l.map I.view)=some r):bM H 0 H.length 0 (d+1) (.ptr id 0)=some (.bS r):=by
 have ab:=(sa.1 h).1;simp only [bM,Nat.not_lt_zero,if_false,h,tq,hm,se];rw [if_neg (by omega)]
theorem Tu {H:List ar} {lo id0 n d id:Nat} (h:¬ id<lo) (aX:id≠id0):bM H lo id0 n (d+1) (.map id)=some .a0:=by
 simp only [bM,if_neg h,if_neg aX]
end Go.Proofs.Ytkoioidpbbbaiaa.Ab


namespace Go.Proofs.Ytkoioidpbbbaiaa.Ab
open Go
set_option maxRecDepth 20000
set_option maxHeartbeats 4000000
def K6 (b:((List (Int×Int))×(Int×Int))×Unit) (order:List Int) (ra:Int):Option (Int×Int) :=
 (K_ b order 0 []).bind fun s=>(K_ b order 1 []).bind fun t=>some (w (s.1+w (s.2*ra)),w (t.1+w (t.2*ra)))
abbrev lq (b:((List (Int×Int))×(Int×Int))×Unit):I:=.bS [.av (b.1.1.flatMap p7) b.1.1.length .shared,h0 b.1.2.1,h0 b.1.2.2,Hg]
theorem RL {b:((List (Int×Int))×(Int×Int))×Unit} {order:List Int} {ra:Int} {v:Int×Int} (h:K6 b order ra=some v):qu 38 [lq b,.av (order.map h0) order.length .shared,h0 ra] (.agg [h0 v.1,h0 v.2]):=by
 unfold K6 at h;obtain ⟨s,ah,h⟩:=p9 h;obtain ⟨t,ax,h⟩:=p9 h;obtain rfl:=Option.some.inj h;refine qH eG acg rfl (HU (p5 rfl (p5 rfl rfl))) fun Q bp=>?_;unfold V';conv=>whnf
 refine ⟨_,_,fun C=>rfl,?_⟩;conv=>whnf
 refine ⟨_,_,fun C=>rfl,?_⟩;conv=>whnf
 refine .intro (fun m T H=>(m=2∧T=qa 29 [(0,lq b),(1,.av (order.map h0) order.length .shared),(2,h0 ra),(6,.ptr 0 0),(7,.ptr 1 0),(11,h0 0)]∧H=[.cells [h0 0,h0 0],.cells [h0 0,h0 0]]) ∨
  (m=1∧T=qa 29 [(0,lq b),(1,.av (order.map h0) order.length .shared),(2,h0 ra),(6,.ptr 0 0),(7,.ptr 1 0),(11,h0 1)]∧H=[.cells [h0 0,h0 0],.cells [h0 (w (s.1+w (s.2*ra))),h0 0],.cells [h0 s.1,h0 s.2]]) ∨
  (m=0∧T=qa 29 [(0,lq b),(1,.av (order.map h0) order.length .shared),(2,h0 ra),(6,.ptr 0 0),(7,.ptr 1 0),(11,h0 2)]∧H=[.cells [h0 0,h0 0],.cells [h0 (w (s.1+w (s.2*ra))),h0 (w (t.1+w (t.2*ra)))],.cells [h0 s.1,h0 s.2],.cells [h0 t.1,h0 t.2]])) 2 (.inl ⟨rfl,rfl,rfl⟩) ?_
 rintro m T H (⟨rfl,rfl,rfl⟩ | ⟨rfl,rfl,rfl⟩ | ⟨rfl,rfl,rfl⟩)
 ·conv=>whnf
  refine ⟨qi.pl,_,OG ah,?_⟩;conv=>whnf
  refine ⟨by decide,?_⟩;conv=>whnf
  exact ⟨1,by decide,.inr (.inl ⟨rfl,rfl,rfl⟩)⟩
 ·conv=>whnf
  refine ⟨qi.pl,_,OG ax,?_⟩;conv=>whnf
  refine ⟨by decide,?_⟩;conv=>whnf
  exact ⟨0,by decide,.inr (.inr ⟨rfl,rfl,rfl⟩)⟩
 ·conv=>whnf
  refine ⟨sc 2,?_⟩;conv=>whnf
  refine bp _ _ _ ?_;exact ⟨.inr rfl,[.agg [h0 (w (s.1+w (s.2*ra))),h0 (w (t.1+w (t.2*ra)))]],rfl,_,yY (HU (p5 rfl (p5 rfl rfl))),rfl⟩
def JU (b:((List (Int×Int))×(Int×Int))×Unit) (order:List Int):Option Int :=
 (K6 b order b.1.2.1).bind fun s=>(K6 b order b.1.2.2).bind fun t =>
  some (max (max (max (max (max (max (max (max 0 s.1) (w (-s.1))) s.2) (w (-s.2))) t.1) (w (-t.1))) t.2) (w (-t.2)))
theorem M0 {b:((List (Int×Int))×(Int×Int))×Unit} {order:List Int} {v:Int} (h:JU b order=some v):qu 41 [lq b,.av (order.map h0) order.length .shared] (h0 v):=by
 unfold JU at h;obtain ⟨s,ah,h⟩:=p9 h;obtain ⟨t,ax,h⟩:=p9 h;obtain rfl:=Option.some.inj h;refine qH eG ab_ rfl rfl fun Q bp=>?_;unfold VX;conv=>whnf
 refine .intro (fun m T H=>(m=2∧T=qa 43 [(0,lq b),(1,.av (order.map h0) order.length .shared),(5,h0 0),(22,.av [h0 b.1.2.1,h0 b.1.2.2] 2 (.own 1)),(23,h0 2),(24,h0 0)]∧H=[])∨(m=1∧T=qa 43 [(0,lq b),(1,.av (order.map h0) order.length .shared),(5,h0 (max (max (max (max 0 s.1) (w (-s.1))) s.2) (w (-s.2)))),(22,.av [h0 b.1.2.1,h0 b.1.2.2] 2 (.own 1)),(23,h0 2),(24,h0 1)]∧H=[])∨(m=0∧T=qa 43 [(0,lq b),(1,.av (order.map h0) order.length .shared),(5,h0 (max (max (max (max (max (max (max (max 0 s.1) (w (-s.1))) s.2) (w (-s.2))) t.1) (w (-t.1))) t.2) (w (-t.2)))),(22,.av [h0 b.1.2.1,h0 b.1.2.2] 2 (.own 1)),(23,h0 2),(24,h0 2)]∧H=[])) 2 (.inl ⟨rfl,rfl,rfl⟩) ?_;rintro m T H (⟨rfl,rfl,rfl⟩ | ⟨rfl,rfl,rfl⟩ | ⟨rfl,rfl,rfl⟩)
 ·conv=>whnf
  refine ⟨by decide,?_⟩;conv=>whnf
  refine ⟨qi.pl,_,RL ah,?_⟩;conv=>whnf
  refine .intro (fun m T H=>(m=2∧T=qa 43 [(0,lq b),(1,.av (order.map h0) order.length .shared),(5,h0 0),(22,.av [h0 b.1.2.1,h0 b.1.2.2] 2 (.own 1)),(23,h0 2),(24,h0 0),(31,.agg [h0 s.1,h0 s.2]),(32,h0 0)]∧H=[])∨(m=1∧T=qa 43 [(0,lq b),(1,.av (order.map h0) order.length .shared),(5,h0 (max (max 0 s.1) (w (-s.1)))),(22,.av [h0 b.1.2.1,h0 b.1.2.2] 2 (.own 1)),(23,h0 2),(24,h0 0),(31,.agg [h0 s.1,h0 s.2]),(32,h0 1)]∧H=[])∨(m=0∧T=qa 43 [(0,lq b),(1,.av (order.map h0) order.length .shared),(5,h0 (max (max (max (max 0 s.1) (w (-s.1))) s.2) (w (-s.2)))),(22,.av [h0 b.1.2.1,h0 b.1.2.2] 2 (.own 1)),(23,h0 2),(24,h0 0),(31,.agg [h0 s.1,h0 s.2]),(32,h0 2)]∧H=[])) 2 (.inl ⟨rfl,rfl,rfl⟩) ?_;rintro m T H (⟨rfl,rfl,rfl⟩ | ⟨rfl,rfl,rfl⟩ | ⟨rfl,rfl,rfl⟩)
  ·(conv=>whnf);refine ⟨_,_,fun C=>rfl,?_⟩;(conv=>whnf);exact ⟨1,by decide,.inr (.inl ⟨rfl,rfl,rfl⟩)⟩
  ·(conv=>whnf);refine ⟨_,_,fun C=>rfl,?_⟩;(conv=>whnf);exact ⟨0,by decide,.inr (.inr ⟨rfl,rfl,rfl⟩)⟩
  ·(conv=>whnf);exact ⟨1,by decide,.inr (.inl ⟨rfl,rfl,rfl⟩)⟩
 ·conv=>whnf
  refine ⟨by decide,?_⟩;conv=>whnf
  refine ⟨qi.pl,_,RL ax,?_⟩;conv=>whnf
  refine .intro (fun m T H=>(m=2∧T=qa 43 [(0,lq b),(1,.av (order.map h0) order.length .shared),(5,h0 (max (max (max (max 0 s.1) (w (-s.1))) s.2) (w (-s.2)))),(22,.av [h0 b.1.2.1,h0 b.1.2.2] 2 (.own 1)),(23,h0 2),(24,h0 1),(31,.agg [h0 t.1,h0 t.2]),(32,h0 0)]∧H=[])∨(m=1∧T=qa 43 [(0,lq b),(1,.av (order.map h0) order.length .shared),(5,h0 (max (max (max (max (max (max 0 s.1) (w (-s.1))) s.2) (w (-s.2))) t.1) (w (-t.1)))),(22,.av [h0 b.1.2.1,h0 b.1.2.2] 2 (.own 1)),(23,h0 2),(24,h0 1),(31,.agg [h0 t.1,h0 t.2]),(32,h0 1)]∧H=[])∨(m=0∧T=qa 43 [(0,lq b),(1,.av (order.map h0) order.length .shared),(5,h0 (max (max (max (max (max (max (max (max 0 s.1) (w (-s.1))) s.2) (w (-s.2))) t.1) (w (-t.1))) t.2) (w (-t.2)))),(22,.av [h0 b.1.2.1,h0 b.1.2.2] 2 (.own 1)),(23,h0 2),(24,h0 1),(31,.agg [h0 t.1,h0 t.2]),(32,h0 2)]∧H=[])) 2 (.inl ⟨rfl,rfl,rfl⟩) ?_;rintro m T H (⟨rfl,rfl,rfl⟩ | ⟨rfl,rfl,rfl⟩ | ⟨rfl,rfl,rfl⟩)
  ·(conv=>whnf);refine ⟨_,_,fun C=>rfl,?_⟩;(conv=>whnf);exact ⟨1,by decide,.inr (.inl ⟨rfl,rfl,rfl⟩)⟩
  ·(conv=>whnf);refine ⟨_,_,fun C=>rfl,?_⟩;(conv=>whnf);exact ⟨0,by decide,.inr (.inr ⟨rfl,rfl,rfl⟩)⟩
  ·(conv=>whnf);exact ⟨0,by decide,.inr (.inr ⟨rfl,rfl,rfl⟩)⟩
 ·conv=>whnf
  exact bp _ _ _ ⟨.inr rfl,_,rfl,_,yY rfl,rfl⟩

noncomputable def Yw:gE :=
 p2 [qc 4 0] (p2 [p1 5 0,p1 6 1,qw 7 6 2 .quo,qo 8 5 7 .sub,p1 4 8] .ret)
theorem ada:ql Try.prog SK 63=some (Yw,9,[.tmp 4]):=by kernel_rfl
def Ma (JM KH:Int):Option Int :=
 qy ((2:Int)≠0) <|
 some (w (JM-(w (KH.tdiv (2:Int)))))
theorem agY {JM:Int} {KH:Int} {v:Int} (h:Ma JM KH=some v):qu 63 [(h0 JM),(h0 KH)] (h0 v):=by
 refine qH eG ada rfl rfl fun Q bp=>?_;have jK:qJ [.tmp 4] Q (fun v=>(h0 v)) v:=fun T H bE=>bp _ T H bE;unfold Ma at h;unfold Yw;conv=>whnf
 refine qV h id fun gM h=>?_;conv=>whnf
 exact qg h jK rfl rfl

noncomputable def OW:gE :=
 .loop (some (p8 false [1,4,4,2,34])) (.seq (p2 [p3 12 10,p3 13 1,qU 14 13,qo 15 12 14 .lss] (.cond (.nd 15) .skip (.exit 0))) (.seq (.block 1 (p2 [p3 18 10,qw 19 18 2 .rem,p3 20 3,qo 21 19 20 .eql] (.cond (.nd 21) (.seq (q_ [p0 22 [.nd 4] (.yO 0),qf 23 22,p3 24 1,p3 25 10,q5 26 24 25 1,qf 27 26,q5 28 23 27 2,p0 29 [.Bu 28] (.zG (.str 2)),p0 11 [] (.alloc [.int .i64 0,.int .i64 0]),⟨none,[.nd 11,.jq 29],none,none,.st 2⟩]) (q_ [p1 30 9,p3 31 10,p3 32 1,qU 33 32,p0 34 [.cv (.func 63 [] []),.nd 31,.nd 33] (.call 3),p0 35 [.nd 11] (.yO 0),qf 36 35,p0 37 [.nd 11] (.yO 1),qf 38 37,p3 39 2,qo 40 38 39 .mul,qo 41 36 40 .add,qo 42 34 41 .mul,qo 43 30 42 .add,p1 9 43])) .skip))) (qG [p1 16 10,qT 17 16 1,p1 10 17])))
noncomputable def Yo:gE :=
 p2 [p0 4 [.jq 0] .box,qc 8 0] (p2 [qc 9 0] (.seq (p2 [qc 10 0] (.block 0 OW)) (p2 [p1 44 9,p1 8 44] .ret)))
theorem ac3:ql Try.prog Pa 40=some (Yo,45,[.tmp 8]):=by kernel_rfl
def Ko (p:(qj×(Int×Int))) (order:qb) (ra qp:Int) (qd:Int→Option Int):Nat→Int→Int→Option Int
 | 0,_,_=>none
 | m+1,s1,s2 =>
   if (decide (s2<(order.length:Int)))=true then
    qy ((2:Int)≠0) <|
    if (decide ((s2.tmod (2:Int))=qp))=true then
     qy (0≤s2∧s2<(order.length:Int)) <|
     qy (0≤(ix order s2)∧(ix order s2)<(p.1.length:Int)) <|
     (Ma s2 (order.length:Int)).bind fun aS =>
     Ko p order ra qp qd m (w (s1+(w (aS*(w ((ix p.1 (ix order s2)).1+(w ((ix p.1 (ix order s2)).2*ra)))))))) (w (s2+(1:Int)))
    else
     Ko p order ra qp qd m s1 (w (s2+(1:Int)))
   else
    qd s1
def K7 (p:(qj×(Int×Int))) (order:qb) (ra qp:Int):Option Int :=
 Ko p order ra qp (fun yo =>
   some yo) qk (0:Int) (0:Int)
theorem agP {p:(qj×(Int×Int))} {order:qb} {ra:Int} {qp:Int} {qd:Int→Option Int} {s1:Int} {s2:Int} {v:Int} {Q:HL}   (rn:∀ (yo:Int) (bx:ar) (J0:List ar) (qe:List I),qd yo=some v→rm 45 [(9,(h0 yo))] qe→Q (.exit 0) qe (bx::J0)) {T:List I} (b0:eZ (p8 false [1,4,4,2,34]) T=qa 45 [(1,(qM order .shared)),(2,(h0 ra)),(3,(h0 qp)),(4,(.ptr 0 0)),(9,(h0 s1)),(10,(h0 s2))]) (h:Ko p order ra qp qd qk s1 s2=some v) :
  dQ Try.prog Pa 40 0 none OW T [ar.cells [(q' p.1 .shared),(h0 p.2.1),(h0 p.2.2)]] Q:=by
 unfold OW;refine wp_loop b0 ?_;refine .intro (fun m T H=>∃ (s1 s2:Int) (R6:List ar),T=qa 45 [(1,(qM order .shared)),(2,(h0 ra)),(3,(h0 qp)),(4,(.ptr 0 0)),(9,(h0 s1)),(10,(h0 s2))]∧H=(ar.cells [(q' p.1 .shared),(h0 p.2.1),(h0 p.2.2)]::R6)∧Ko p order ra qp qd m s1 s2=some v) qk ⟨s1,s2,[],rfl,rfl,h⟩ ?_;clear h b0;rintro m T H ⟨s1,s2,R6,rfl,rfl,h⟩;cases m
 ·exact rT h
 rename_i m;rw [Ko.eq_2] at h;conv=>whnf
 refine bs h (fun gM h=>?_) fun gM h=>?_
 ·rw [gM];conv=>whnf
  refine qV h id fun gN h=>?_;conv=>whnf
  refine bs h (fun qs h=>?_) fun qs h=>?_
  ·rw [qs];(conv=>whnf);refine qV h id fun qP h=>?_;rw [rb h0 order s2 qP];(conv=>whnf);refine qV h id fun rj h=>?_;rw [Ib p7 2 Je p.1 (ix order s2) rj];(conv=>whnf);refine Ex (x:=ar.cells [(h0 (0:Int)),(h0 (0:Int))]) (by first | exact qC.h | rfl | (simp [sj,I.settle];done)) ?_
   (conv=>whnf);rw [HQ];obtain ⟨aS,rU,h⟩:=p9 h;refine ⟨(p5 rfl (p5 rfl rfl)),_,agY rU,Hi,?_⟩;(conv=>whnf);refine Ex (x:=ar.cells [(h0 (ix p.1 (ix order s2)).1),(h0 (ix p.1 (ix order s2)).2)]) (by first | exact qC.h | rfl | (simp [sj,I.settle];done)) ?_
   (conv=>whnf);refine Ex (x:=ar.cells [(h0 (ix p.1 (ix order s2)).1),(h0 (ix p.1 (ix order s2)).2)]) (by first | exact qC.h | rfl | (simp [sj,I.settle];done)) ?_
   (conv=>whnf);exact ⟨m,sG m,(w (s1+(w (aS*(w ((ix p.1 (ix order s2)).1+(w ((ix p.1 (ix order s2)).2*ra)))))))),(w (s2+(1:Int))),_,rfl,rfl,h⟩
  ·rw [qs];(conv=>whnf);exact ⟨m,sG m,s1,(w (s2+(1:Int))),_,rfl,rfl,h⟩
 ·rw [gM];conv=>whnf
  exact rn _ _ _ _ h ⟨rfl,rfl⟩
theorem XR {p:(qj×(Int×Int))} {order:qb} {ra:Int} {qp:Int} {v:Int} (h:K7 p order ra qp=some v):qu 40 [(.agg [(.av (p.1.flatMap p7) p.1.length .shared),(h0 p.2.1),(h0 p.2.2)]),(.av (order.map h0) order.length .shared),(h0 ra),(h0 qp)] (h0 v):=by
 refine qH eG ac3 rfl rfl fun Q bp=>?_;have jK:qJ [.tmp 8] Q (fun v=>(h0 v)) v:=fun T H bE=>bp _ T H bE;unfold K7 at h;unfold Yo;obtain ⟨HY,qF⟩:∃ c,OW=c:=⟨_,rfl⟩;rw [qF];conv=>whnf
 subst qF;refine agP ?_ (by exact rfl) h;intro yo bx J0 qe h qA;obtain ⟨rG,rfl⟩:=qA.ex;conv=>whnf
 exact qg h jK rfl rfl
end Go.Proofs.Ytkoioidpbbbaiaa.Ab


namespace Go.Proofs.Ytkoioidpbbbaiaa.Ab
open Go
set_option maxRecDepth 20000
set_option maxHeartbeats 1000000
abbrev qv:=Int×Int
def qQ:Nat→(Nat→Int)→Int
 | 0,_=>0
 | n+1,g=>qQ n g+g n
theorem MS {n:Nat} {g h:Nat→Int} (e:∀ i,i<n→g i=h i):qQ n g=qQ n h:=by
 induction n with
 | zero=>rfl
 | succ n a8=>simp only [qQ];rw [a8 fun i hi=>e i (by omega),e n (by omega)]
theorem MR {n:Nat} {g:Nat→Int} {B:Int} (e:∀ i,i<n → -B≤g i∧g i≤B):-(n*B)≤qQ n g∧qQ n g≤n*B:=by
 induction n with
 | zero=>simp [qQ]
 | succ n a8 =>
   obtain ⟨ab,ae⟩:=a8 fun i hi=>e i (by omega);obtain ⟨aF,a_⟩:=e n (by omega);simp only [qQ]
   have:((n+1:Nat):Int)*B=n*B+B:=by rw [Int.natCast_add,Int.add_mul];simp
   omega
theorem afo (n:Nat) (g h:Nat→Int):qQ n (fun i=>g i+h i)=qQ n g+qQ n h:=by
 induction n with
 | zero=>rfl
 | succ n a8=>simp only [qQ,a8];omega
theorem WX (n:Nat) (g:Nat→Int) (c:Int):qQ n (fun i=>c*g i)=c*qQ n g:=by
 induction n with
 | zero=>simp [qQ]
 | succ n a8=>simp only [qQ,a8,Int.mul_add]
theorem HT {a b A B:Int} (h:-A≤a∧a≤A) (k:-B≤b∧b≤B):-(A*B)≤a*b∧a*b≤A*B:=by
 have ab:a.natAbs*b.natAbs≤A.natAbs*B.natAbs:=Nat.mul_le_mul (by omega) (by omega);have ae:(a*b).natAbs≤A.natAbs*B.natAbs:=by rw [Int.natAbs_mul];exact ab
 have aF:((A.natAbs*B.natAbs:Nat):Int)=A*B:=by
  rw [Int.natCast_mul,Int.natAbs_of_nonneg (by omega),Int.natAbs_of_nonneg (by omega)]
 omega
def qt (S:List qv) (o:List Int) (i:Nat):qv:=ix S (ix o (i:Int))
def qB (n i:Nat):Int:=(i:Int)-((n / 2:Nat):Int)
def qD (S:List qv) (o:List Int) (a:Nat) (W:List Int) (f:qv→Int):Int:=qQ o.length fun i=>if i % 2=a∧(i:Int) ∉ W then qB o.length i*f (qt S o i) else 0
def rB (S:List qv) (o:List Int) (a:Nat) (f:qv→Int):Int:=qQ o.length fun i=>if i % 2=a then qB o.length i*f (qt S o i) else 0
theorem Mz (S:List qv) (o:List Int) (a:Nat) (f:qv→Int):qD S o a [] f=rB S o a f:=MS fun i _=>by simp
def JC (S:List qv) (o:List Int):Prop:=∀ i:Nat,i<o.length→0≤ix o (i:Int)∧ix o (i:Int)<(S.length:Int)
def qK (s:qv):Prop:=0≤s.1∧s.1≤100∧-10≤s.2∧s.2≤10
instance (s:qv):Decidable (qK s):=by unfold qK;exact inferInstance
theorem Io {S:List qv} {o:List Int} (cp:∀ s∈S,qK s) (jK:JC S o) {i:Nat} (hi:i<o.length):qK (qt S o i):=cp _ (Jb (jK i hi))
def qR (d:Int) (s:qv):Int:=s.1+s.2*d
theorem Kw {d:Int} {s:qv} (ah:qK s) (a1:0≤d∧d≤50):-600≤qR d s∧qR d s≤600:=by
 have:=HT (a:=s.2) (b:=d) (A:=10) (B:=50) ⟨ah.2.2.1,ah.2.2.2⟩ ⟨by omega,a1.2⟩;have ab:=ah.1;have ae:=ah.2.1;unfold qR;omega
theorem Ly {n i:Nat} (hi:i<n) (aI:n≤10):-10≤qB n i∧qB n i≤10:=by unfold qB;omega
theorem Oe {n i:Nat} {v B:Int} {q:Prop} [Decidable q] (hi:i<n) (aI:n≤10) (H0:0≤B) (h:-B≤v∧v≤B):-(10*B)≤(if q then qB n i*v else 0)∧(if q then qB n i*v else 0)≤10*B:=by
 by_cases ab:q
 ·rw [if_pos ab];exact HT (Ly hi aI) h
 ·rw [if_neg ab];omega
theorem Qp {S:List qv} {o:List Int} {a:Nat} {W:List Int} {f:qv→Int} {B:Int} (aq:o.length≤10) (H0:0≤B) (h:∀ i,i<o.length → -B≤f (qt S o i)∧f (qt S o i)≤B):-(100*B)≤qD S o a W f∧qD S o a W f≤100*B:=by
 have:=MR (n:=o.length) (g:=fun i=>if i % 2=a∧(i:Int) ∉ W then qB o.length i*f (qt S o i) else 0) (B:=10*B) fun i hi=>Oe hi aq H0 (h i hi);have ae:=Int.mul_le_mul_of_nonneg_right (show (o.length:Int)≤10 by omega) (show 0≤10*B by omega);unfold qD;omega
theorem adk {S:List qv} {o:List Int} {a:Nat} {f:qv→Int} {B:Int} (aq:o.length≤10) (H0:0≤B) (h:∀ i,i<o.length → -B≤f (qt S o i)∧f (qt S o i)≤B):-(100*B)≤rB S o a f∧rB S o a f≤100*B:=by
 rw [←Mz];exact Qp aq H0 h
theorem XW {n i:Nat} (hi:i<n) (aI:n≤10):Ma (i:Int) (n:Int)=some (qB n i):=by
 unfold Ma;rw [qE (by decide)];have e:(n:Int).tdiv 2=((n / 2:Nat):Int):=by rw [Int.tdiv_eq_ediv_of_nonneg (by omega)];omega
 rw [e,qO (n:=((n / 2:Nat):Int)) (by omega),qO (by omega)];rfl
theorem MT (i:Nat):(i:Int).tmod 2=((i % 2:Nat):Int):=by rw [Int.tmod_eq_emod_of_nonneg (by omega)];omega
theorem Ul {p:(List qv)×(Int×Int)} {o:List Int} {d:Int} {a:Nat} {kl:Int→Option Int} (cp:∀ s∈p.1,qK s) (jK:JC p.1 o) (aq:o.length≤10) (a1:0≤d∧d≤50) :
  ∀ (m i:Nat),i≤o.length→o.length-i<m→Ko p o d (a:Int) kl m (qQ i fun i=>if i % 2=a then qB o.length i*qR d (qt p.1 o i) else 0) (i:Int)=kl (rB p.1 o a (qR d))
 | 0,_,_,h=>absurd h (by omega)
 | m+1,i,hi,hm=>by
   rw [Ko];by_cases aR:i<o.length
   ·rw [if_pos (decide_eq_true (by omega)),qE (by decide),MT,Iz i (by omega)];have a8:=Ul (kl:=kl) (a:=a) cp jK aq a1 m (i+1) (by omega) (by omega);by_cases a':i % 2=a
    ·rw [if_pos (decide_eq_true (by omega)),qE (by omega),qE (jK i aR),XW aR aq,sb];have al:=Io cp jK aR;have bm:=HT (a:=(qt p.1 o i).2) (b:=d) (A:=10) (B:=50) ⟨al.2.2.1,al.2.2.2⟩ ⟨by omega,a1.2⟩;have cw:=Kw al a1;have e2:=HT (Ly aR aq) cw;have lR:=MR (n:=i) (g:=fun i=>if i % 2=a then qB o.length i*qR d (qt p.1 o i) else 0) (B:=6000) fun j aw=>Oe (B:=600) (by omega) aq (by omega) (Kw (Io cp jK (by omega)) a1);have e1:ix p.1 (ix o (i:Int))=qt p.1 o i:=rfl;rw [e1,qO (n:=(qt p.1 o i).2*d) (by omega)];rw [show (qt p.1 o i).1+(qt p.1 o i).2*d=qR d (qt p.1 o i) from rfl,qO (n:=qR d (qt p.1 o i)) (by omega),qO (n:=qB o.length i*qR d (qt p.1 o i)) (by omega),qO (by omega)];simp only [qQ,if_pos a'] at a8;exact a8
    ·rw [if_neg (by simpa using by omega)];simp only [qQ,if_neg a',uX] at a8;exact a8
   ·(obtain rfl:i=o.length:=by omega);rw [if_neg (by simp)];rfl
theorem IH {n:Nat} (h:n≤1000000):n<qk:=by unfold qk;omega
theorem agO {p:(List qv)×(Int×Int)} {o:List Int} {d:Int} {a:Nat} (cp:∀ s∈p.1,qK s) (jK:JC p.1 o) (aq:o.length≤10) (a1:0≤d∧d≤50):K7 p o d (a:Int)=some (rB p.1 o a (qR d)):=by
 unfold K7;exact Ul cp jK aq a1 qk 0 (by omega) (IH (by omega))
theorem OD {b:((List (Int×Int))×(Int×Int))×Unit} {n i:Nat} (aI:n≤10) (af:b.1.1.length=n) (hi:i<n):JV b (i:Int)=some (qB n i):=by
 have:=XW hi aI;unfold Ma at this;unfold JV;rw [af];exact this
theorem Ua {W:List Int} (mc:W.length≤1000) {v:Int}:∀ (m i:Nat),i≤W.length→W.length-i<m→(∀ j,j<i→ix W (j:Int)≠v)→∃ r,Kg W v (fun _=>some (-1:Int)) m (i:Int)=some r∧decide (0≤r)=decide (v∈W)
 | 0,_,_,h,_=>absurd h (by omega)
 | m+1,i,hi,hm,ad=>by
   rw [Kg];by_cases aR:i<W.length
   ·rw [if_pos (decide_eq_true (by omega)),qE (by omega)];by_cases he:v=ix W (i:Int)
    ·rw [if_pos (decide_eq_true he)];refine ⟨_,rfl,?_⟩;rw [decide_eq_true (by omega),decide_eq_true (by rw [he];exact Jb (by omega))]
    ·rw [if_neg (by simpa using he),Iz i (by omega)];refine Ua mc m (i+1) (by omega) (by omega) fun j aw=>?_;by_cases gi:j=i
     ·subst gi;exact fun e=>he e.symm
     ·exact ad j (by omega)
   ·rw [if_neg (by simpa using by omega)];refine ⟨-1,rfl,?_⟩;rw [decide_eq_false (by omega),decide_eq_false];intro nP;obtain ⟨j,aw,e⟩:=List.getElem_of_mem nP;refine ad j (by omega) ?_;rw [rI aw];exact e
theorem af1 (W:List Int) (mc:W.length≤1000) (v:Int):MW W v=some (decide (v∈W)):=by
 unfold MW Oo;obtain ⟨r,ab,ae⟩:=Ua (W:=W) mc (v:=v) qk 0 (by omega) (IH (by omega)) (fun j aw=>absurd aw (by omega));have iR:Kg W v (fun _=>some (-1:Int)) qk 0=some r:=ab;rw [iR,sb,ae]
theorem Un {b:((List (Int×Int))×(Int×Int))×Unit} {o:List Int} {W:List Int} {a:Nat} {kl:Int→Int→Option (Int×Int)} (cp:∀ s∈b.1.1,qK s) (jK:JC b.1.1 o) (aq:o.length≤10) (aI:b.1.1.length=o.length) (mc:W.length≤1000) :
  ∀ (m i:Nat),i≤o.length→o.length-i<m →
    JW b o (a:Int) W kl m (i:Int) (qQ i fun i=>if i % 2=a∧(i:Int) ∉ W then qB o.length i*(qt b.1.1 o i).1 else 0) (qQ i fun i=>if i % 2=a∧(i:Int) ∉ W then qB o.length i*(qt b.1.1 o i).2 else 0)=kl (qD b.1.1 o a W Prod.fst) (qD b.1.1 o a W Prod.snd)
 | 0,_,_,h=>absurd h (by omega)
 | m+1,i,hi,hm=>by
   rw [JW];by_cases aR:i<o.length
   ·rw [if_pos (decide_eq_true (by omega)),qE (by omega),qE (by decide),MT,Iz i (by omega)];have a8:=Un (kl:=kl) (a:=a) (W:=W) cp jK aq aI mc m (i+1) (by omega) (by omega);by_cases a':i % 2=a
    ·rw [if_neg (by simpa using by omega),af1 W mc,sb];by_cases hw:(i:Int)∈W
     ·rw [if_pos (decide_eq_true hw)];simp only [qQ,hw,not_true_eq_false,and_false,if_false,uX] at a8;exact a8
     ·rw [if_neg (by simpa using hw),qE (jK i aR),OD aq aI aR,sb,sb];have al:=Io cp jK aR;have e2:=HT (Ly aR aq) (b:=(qt b.1.1 o i).1) (B:=100) ⟨by have:=al.1;omega,al.2.1⟩;have ag9:=HT (Ly aR aq) (b:=(qt b.1.1 o i).2) (B:=10) ⟨al.2.2.1,al.2.2.2⟩;have lR:=MR (n:=i) (g:=fun i=>if i % 2=a∧(i:Int) ∉ W then qB o.length i*(qt b.1.1 o i).1 else 0) (B:=1000) fun j aw=>Oe (B:=100) (by omega) aq (by omega) (by have:=Io cp jK (i:=j) (by omega);exact ⟨by have:=this.1;omega,this.2.1⟩);have ag_:=MR (n:=i) (g:=fun i=>if i % 2=a∧(i:Int) ∉ W then qB o.length i*(qt b.1.1 o i).2 else 0) (B:=100) fun j aw=>Oe (B:=10) (by omega) aq (by omega) (by have:=Io cp jK (i:=j) (by omega);exact ⟨this.2.2.1,this.2.2.2⟩);have e1:ix b.1.1 (ix o (i:Int))=qt b.1.1 o i:=rfl;rw [e1,qO (n:=qB o.length i*(qt b.1.1 o i).1) (by omega),qO (n:=qB o.length i*(qt b.1.1 o i).2) (by omega),qO (by omega),qO (by omega)];simp only [qQ,if_pos (show i % 2=a∧(i:Int) ∉ W from ⟨a',hw⟩)] at a8;exact a8
    ·rw [if_pos (by simpa using by omega)];simp only [qQ,a',false_and,if_false,uX] at a8;exact a8
   ·(obtain rfl:i=o.length:=by omega);rw [if_neg (by simp)];rfl
theorem OE {b:((List (Int×Int))×(Int×Int))×Unit} {o:List Int} {W:List Int} {a:Nat} (cp:∀ s∈b.1.1,qK s) (jK:JC b.1.1 o) (aq:o.length≤10) (aI:b.1.1.length=o.length) (mc:W.length≤1000) :
  K_ b o (a:Int) W=some (qD b.1.1 o a W Prod.fst,qD b.1.1 o a W Prod.snd):=by
 unfold K_;exact Un cp jK aq aI mc qk 0 (by omega) (IH (by omega))
theorem Lv (S:List qv) (o:List Int) (a:Nat) (W:List Int) (d:Int):qD S o a W (qR d)=qD S o a W Prod.fst+qD S o a W Prod.snd*d:=by
 unfold qD;rw [Int.mul_comm _ d,←WX,←afo];refine MS fun i _=>?_;by_cases h:i % 2=a∧(i:Int) ∉ W
 ·simp only [if_pos h,qR];grind
 ·simp only [if_neg h];omega
theorem adm (S:List qv) (o:List Int) (a:Nat) (d:Int):rB S o a (qR d)=rB S o a Prod.fst+rB S o a Prod.snd*d:=by
 simp only [←Mz];exact Lv S o a [] d
theorem PA {S:List qv} {o:List Int} {a:Nat} {W:List Int} (cp:∀ s∈S,qK s) (jK:JC S o) (aq:o.length≤10):-10000≤qD S o a W Prod.fst∧qD S o a W Prod.fst≤10000 :=
 Qp (B:=100) aq (by omega) fun i hi=>by have:=Io cp jK hi;exact ⟨by have:=this.1;omega,this.2.1⟩
theorem Rr {S:List qv} {o:List Int} {a:Nat} {W:List Int} (cp:∀ s∈S,qK s) (jK:JC S o) (aq:o.length≤10):-1000≤qD S o a W Prod.snd∧qD S o a W Prod.snd≤1000 :=
 Qp (B:=10) aq (by omega) fun i hi=>by have:=Io cp jK hi;exact ⟨this.2.2.1,this.2.2.2⟩
theorem RK {b:((List (Int×Int))×(Int×Int))×Unit} {o:List Int} {d:Int} (cp:∀ s∈b.1.1,qK s) (jK:JC b.1.1 o) (aq:o.length≤10) (aI:b.1.1.length=o.length) (a1:0≤d∧d≤50) :
  K6 b o d=some (rB b.1.1 o 0 (qR d),rB b.1.1 o 1 (qR d)):=by
 unfold K6;have aQ:=OE (W:=[]) (a:=0) cp jK aq aI (by simp);have ab:=OE (W:=[]) (a:=1) cp jK aq aI (by simp);rw [show ((0:Nat):Int)=0 from rfl] at aQ;rw [show ((1:Nat):Int)=1 from rfl] at ab;rw [aQ,ab,sb,sb];have one:∀ a,w (qD b.1.1 o a [] Prod.fst+w (qD b.1.1 o a [] Prod.snd*d))=rB b.1.1 o a (qR d):=fun a=>by
  have a7:=PA (a:=a) (W:=[]) cp jK aq;have a9:=Rr (a:=a) (W:=[]) cp jK aq;have bt:=HT (b:=d) (B:=50) a9 ⟨by omega,a1.2⟩;rw [qO (n:=qD b.1.1 o a [] Prod.snd*d) (by omega),qO (by omega),←Lv,Mz]
 simp only [one]
end Go.Proofs.Ytkoioidpbbbaiaa.Ab


namespace Go.Proofs.Ytkoioidpbbbaiaa.Ab
def qW:Nat→List Int→List (List Int)
 | 0,_=>[[]]
 | n+1,left=>left.flatMap fun x=>(qW n (left.erase x)).map (x::·)
theorem Pu {left:List Int} {x:Int} {n:Nat} (ao:left.length=n+1) (aj:x∈left):(left.erase x).length=n:=by
 rw [List.length_erase_of_mem aj,ao];rfl
theorem aeV {left:List Int} (h:left.Pairwise (·<·)):left.Nodup:=h.imp fun h e=>by omega
theorem Uw:∀ (n:Nat) (left:List Int),left.length=n→qW n left≠[]
 | 0,_,_=>by simp [qW]
 | n+1,[],h=>by simp at h
 | n+1,x::s,h=>by
   have:=Uw n ((x::s).erase x) (Pu h (by simp));simp only [qW,ua];intro e;exact this (by simpa using (List.append_eq_nil_iff.1 e).1)
theorem Uu:∀ (n:Nat) (left:List Int),left.length=n→(qW n left)[0]?=some left
 | 0,left,h=>by rw [sO.1 h];rfl
 | n+1,[],h=>by simp at h
 | n+1,x::s,h=>by
   (have e:(x::s).erase x=s:=by simp);have a8:=Uu n s (by simpa using h);simp only [qW,ua,e];have TZ:0<((qW n s).map (x::·)).length:=by
    rw [sX];exact List.length_pos_iff.2 (Uw n s (by simpa using h))
   rw [sg TZ,sm,a8];rfl
theorem NG:∀ (n:Nat) (left l:List Int),left.length=n→(l∈qW n left↔l.Perm left)
 | 0,left,l,h=>by
   rw [sO.1 h];simp [qW]
 | n+1,left,l,h=>by
   simp only [qW,tL,sC];constructor
   ·rintro ⟨x,aj,r,ai,rfl⟩;have:=(NG n (left.erase x) r (Pu h aj)).1 ai;exact (this.cons x).trans (vC aj).symm
   ·intro aB;cases l with
    | nil=>have:=aB.length_eq;simp at this;omega
    | cons x r =>
      have aj:x∈left:=aB.mem_iff.1 (by simp);refine ⟨x,aj,r,(NG n (left.erase x) r (Pu h aj)).2 ?_,rfl⟩;exact (List.perm_cons x).1 (aB.trans (vC aj))
theorem ab0 {n:Nat} {left l:List Int} (h:left.length=n) (ao:l∈qW n left):l.length=n:=by
 rw [((NG n left l h).1 ao).length_eq,h]
end Go.Proofs.Ytkoioidpbbbaiaa.Ab


namespace Go.Proofs.Ytkoioidpbbbaiaa.Ab
open Go
noncomputable def Wa:gE :=
 p2 [⟨some 6, [.jq 3], none, some 3, .Bs⟩, p0 7 [.cv (.func 74 [] []), .jq 6] (.call 1)] (p2 [⟨some 8, [.jq 3], none, some 3, .other (Oper.mk (some 8) (Op.move (Operand.tmp 3)) 27 "iter.go:69" (Array.mk []) none) 2⟩, p1 2 8] .ret)
noncomputable def Q2:gE :=
 p2 [p0 2 [.cv (.av [] 0 .full)] (.nil 1)] (p2 [p1 4 0,p0 5 [.cv (.func 73 [] []),.nd 4] (.call 0),p1 3 5] Wa)
theorem UA:ql Go.Proofs.Try.prog SG 58=some (Q2,9,[.tmp 2]):=by kernel_rfl
noncomputable def Wk:gE :=
 p2 [p0 2 [.cv (.av [] 0 .full)] (.nil 1)] (p2 [p1 3 0,p0 4 [.cv (.func 88 [] []),.cv (.av [] 0 .full),.nd 3] (.call 0),p1 2 4] .ret)
theorem ack:ql Go.Proofs.Try.prog SP 73=some (Wk,5,[.tmp 2]):=by kernel_rfl
noncomputable def aeM:gE :=
 p2 [p3 11 0,p1 12 4,p0 13 [.jq 11,.jq 12] (.call 1),p0 14 [.Bu 13] (.un .not)] (.cond (.nd 14) .ret .skip)
noncomputable def aeN:gE :=
 .block 1 (p2 [p0 9 [.nd 5,.nd 7] (.kZ 1),qf 10 9,p1 4 10] aeM)
noncomputable def Wl:gE :=
 p2 [qf 5 1,p0 6 [.nd 5] .zL,qc 7 0] (.block 0 (.loop (some (p8 false [0,1,4,3,8])) (p2 [p0 8 [.nd 7,.nd 6] (.bin .lss)] (.seq (.cond (.nd 8) .skip (.exit 0)) (.seq aeN (qG [qT 15 7 1,p1 7 15]))))))
theorem acm:ql Go.Proofs.Try.prog SR 75=some (Wl,16,[]):=by kernel_rfl
noncomputable def VB:gE :=
 p2 [p0 2 [.jq 0] .box,p0 4 [.cv (.av [] 0 .full)] (.nil 1)] (.seq (p2 [p1 6 1] (.block 0 (.AO (.nd 6) [7] (q8 Go.Proofs.Try.prog 88 0) (q9 Go.Proofs.Try.prog 88 0)))) (p2 [p0 12 [.Bu 2] .take,p1 4 12] .ret))
theorem ab2:ql Go.Proofs.Try.prog Ju 88=some (VB,13,[.tmp 4]):=by kernel_rfl
end Go.Proofs.Ytkoioidpbbbaiaa.Ab


namespace Go.Proofs.Ytkoioidpbbbaiaa.Ab
open Go
set_option maxRecDepth 20000
set_option maxHeartbeats 4000000
noncomputable def Wm:gE :=
 .ow false [p0 5 [.jq 7] .mV]
theorem acn:ey Try.prog Ju (q8 Try.prog 88 0) 0=some Wm:=by kernel_rfl
noncomputable def Wq:gE :=
 .block 1 (.ow false [p0 8 [.nd 2] .take,p0 9 [.jq 5] .mV,p0 10 [.Bu 9] (.yD 1 1 [.int .i64 0] [0]),p0 11 [.jq 8,.jq 10] (.app 1 8),⟨none,[.jq 2,.jq 11],none,none,.Bm⟩])
theorem acr:ey Try.prog Ju (q9 Try.prog 88 0) 0=some Wq:=by kernel_rfl
def Jg (l:List Int):I:=match l with | []=>.av [] 0 .full | _=>.raw (l.map h0) l.length 1
def Nm (l:List Int):I:=match l with | []=>.av [] 0 .full | _=>.av (l.map h0) l.length (.uniq 1)
theorem Zn {l:List Int} {e:Int} {yi fA Gj Gk rJ IU HI u8 HJ HF HG HH:I} (ao:l.length≤1000) (Y:List ar) :
  ∃ qz,Sem Try.prog (.yield [ar.cells [Jg l]].length) [h0 e] (([ar.cells [Jg l]]++[ar.loop .ready none 88 [yi,fA,.ptr 0 0,Gj,Gk,rJ,IU,HI,u8,HJ,HF,HG,HH] [7] (q8 Try.prog 88 0) (q9 Try.prog 88 0) Ju])++Y) 0 (.bool true) (([ar.cells [Jg (l++[e])]]++[ar.loop .ready none 88 [yi,fA,.ptr 0 0,Gj,Gk,rJ,IU,HI,u8,HJ,HF,HG,HH] [7] (q8 Try.prog 88 0) (q9 Try.prog 88 0) Ju])++qz):=by
 refine ⟨Y,N9 eG acn acr (Iu _ _ _) rfl (Ix (by simp)) ?_⟩;unfold Wm;conv=>whnf
 refine ⟨rfl,Iu _ _ _,?_⟩;rw [Jj];unfold Wq;cases l with
 | nil =>
   (conv=>whnf);refine ⟨rfl,by omega,?_⟩;(conv=>whnf);refine ⟨by decide,by decide,rfl,?_⟩;(conv=>whnf);refine ⟨rfl,by decide,Gp (by decide) ?_⟩;(conv=>whnf);show _∧(([ar.cells [Jg ([]++[e])]]++[ar.loop .busy none 88 [yi,fA,.ptr 0 0,Gj,Gk,rJ,IU,HI,u8,HJ,HF,HG,HH] [7] (q8 Try.prog 88 0) (q9 Try.prog 88 0) Ju])++Y)[[ar.cells [Jg ([]++[e])]].length]?=_∧lJ ((([ar.cells [Jg ([]++[e])]]++[ar.loop .busy none 88 [yi,fA,.ptr 0 0,Gj,Gk,rJ,IU,HI,u8,HJ,HF,HG,HH] [7] (q8 Try.prog 88 0) (q9 Try.prog 88 0) Ju])++Y).set [ar.cells [Jg ([]++[e])]].length _) _;exact ⟨rfl,Iu _ _ _,by rw [Jj];exact lJ.refl _⟩
 | cons a l =>
   (conv=>whnf);refine ⟨rfl,by omega,?_⟩;(conv=>whnf);refine ⟨rfl,by simp only [sK] at ao ⊢;omega,?_⟩;(conv=>whnf);refine ⟨?_,Nat.succ_ne_zero _,Gp (by simp) ?_⟩
   ·show ((a::l).map h0++[h0 e]).all g1=true;rw [←List.map_singleton (f:=h0),←sP];exact sq.2 fun x aj=>by obtain ⟨y,_,rfl⟩:=sC.1 aj;rfl
   (conv=>whnf);have e1:I.raw ((a::l).map h0++[h0 e]) ((a::l).length+1) 1=Jg ((a::l)++[e]):=by
    show _=I.raw (((a::l)++[e]).map h0) ((a::l)++[e]).length 1;rw [sP,sy];rfl
   show _∧(([ar.cells [I.raw ((a::l).map h0++[h0 e]) ((a::l).length+1) 1]]++[ar.loop .busy none 88 [yi,fA,.ptr 0 0,Gj,Gk,rJ,IU,HI,u8,HJ,HF,HG,HH] [7] (q8 Try.prog 88 0) (q9 Try.prog 88 0) Ju])++Y)[[ar.cells [I.raw ((a::l).map h0++[h0 e]) ((a::l).length+1) 1]].length]?=_∧lJ ((([ar.cells [I.raw ((a::l).map h0++[h0 e]) ((a::l).length+1) 1]]++[ar.loop .busy none 88 [yi,fA,.ptr 0 0,Gj,Gk,rJ,IU,HI,u8,HJ,HF,HG,HH] [7] (q8 Try.prog 88 0) (q9 Try.prog 88 0) Ju])++Y).set [ar.cells [I.raw ((a::l).map h0++[h0 e]) ((a::l).length+1) 1]].length _) _;rw [e1];exact ⟨rfl,Iu _ _ _,by rw [Jj];exact lJ.refl _⟩
theorem Li (l:List Int):cr 8 (Nm l)=true:=by
 cases l with
 | nil=>rfl
 | cons a l=>exact rA (fun _=>rfl) _ _ _
theorem Z4 {k:FuncId} {cap:List I} {l:List Int} (Il:Seq Try.prog k cap (l.map h0)) (ao:l.length≤1000):qu 88 [.av [] 0 .full,.func k [] cap] (Nm l):=by
 refine Nr eG ab2 rfl (Li l) fun Q bp=>?_;unfold VB;obtain ⟨a7,cf⟩:∃ c,gE.AO (.nd 6) [7] (q8 Try.prog 88 0) (q9 Try.prog 88 0)=c:=⟨_,rfl⟩;rw [cf];conv=>whnf
 subst cf;refine ae1 (f:=h0) Il (fun i=>[ar.cells [Jg (l.take i)]]) (by exact rfl) (by exact rfl) (fun _=>rfl) ?_ (rl:=none) (by exact rfl) (Hn:=[ar.cells [Jg l]]) (by show [ar.cells [Jg (l.take l.length)]]=_;rw [List.take_length]) ?_
 ·intro i hi Y;rw [show l.take (i+1)=l.take i++[l[i]] by rw [List.take_add_one,si hi];rfl];exact Zn (l:=l.take i) (e:=l[i]) (by rw [sZ];omega) Y
 ·intro qz;cases l with
  | nil =>
    (conv=>whnf);exact bp _ _ _ (JR (.inr rfl) (Li _) rfl)
  | cons a l =>
    (conv=>whnf);exact bp _ _ _ (JR (.inr rfl) (Li _) rfl)
theorem S_ {k:FuncId} {cap:List I} {l:List Int} (px:cap.all (cr 7)=true) (Il:Seq Try.prog k cap (l.map h0)) (ao:l.length≤1000):qu 73 [.func k [] cap] (Nm l):=by
 refine Nr eG ack rfl (Li l) fun Q bp=>?_;unfold Wk;conv=>whnf
 refine ⟨_,_,Mj (p5 rfl (p5 (IM rfl px) rfl)) (Z4 Il ao) _ _,?_⟩;cases l with
 | nil =>
   (conv=>whnf);exact bp _ _ _ (JR (.inr rfl) (Li _) rfl)
 | cons a l =>
   (conv=>whnf);exact bp _ _ _ (JR (.inr rfl) (Li _) rfl)
end Go.Proofs.Ytkoioidpbbbaiaa.Ab


namespace Go.Proofs.Ytkoioidpbbbaiaa.Ab
open Go
def Pp:hE→hE→Bool
 | .shared,.shared=>true
 | .full,.full=>true
 | .own a,.own b=>Nat.beq a b
 | .uniq a,.uniq b=>Nat.beq a b
 | _,_=>false
theorem ZN:∀ {a b:hE},Pp a b=true→a=b:=by
 intro a b h;cases a <;> cases b <;> simp only [Pp,tR] at h <;> first | rfl | (rw [sN h])
def IL (f:I→I→Bool):List I→List I→Bool
 | [],[]=>true
 | a::l,b::r=>match f a b with
   | true=>IL f l r
   | false=>false
 | _,_=>false
theorem JL {f:I→I→Bool} (aP:∀ a b,f a b=true→a=b):∀ {a b:List I},IL f a b=true→a=b
 | [],[],_=>rfl
 | [],_::_,h=>by simp [IL] at h
 | _::_,[],h=>by simp [IL] at h
 | a::l,b::r,h=>by
   simp only [IL] at h;split at h
   ·rename_i jM;rw [aP a b jM,JL aP h]
   ·cases h
def IY:Nat→I→I→Bool
 | 0,_,_=>false
 | d+1,a,b=>match a,b with
   | .bool x,.bool y=>match x,y with | true,true=>true | false,false=>true | _,_=>false
   | .int k x,.int q y=>match decide (k=q),decide (x=y) with | true,true=>true | _,_=>false
   | .eI,.eI=>true
   | .bS x,.bS y=>IL (IY d) x y
   | .av x n c,.av y m e=>match IL (IY d) x y,Nat.beq n m,Pp c e with | true,true,true=>true | _,_,_=>false
   | .func f x y,.func g z w=>match Nat.beq f g,IL (IY d) x z,IL (IY d) y w with | true,true,true=>true | _,_,_=>false
   | .agg x,.agg y=>IL (IY d) x y
   | .tuple x,.tuple y=>IL (IY d) x y
   | _,_=>false
theorem Nh:∀ (d:Nat) (a b:I),IY d a b=true→a=b
 | 0,_,_,h=>by simp [IY] at h
 | d+1,a,b,h=>by
   have a8:=Nh d;unfold IY at h;split at h
   ·split at h <;> first | rfl | cases h
   ·rename_i k x q y;split at h
    ·rename_i ab ae;rw [of_decide_eq_true ab,of_decide_eq_true ae]
    ·cases h
   ·rfl
   ·rw [JL a8 h]
   ·split at h
    ·rename_i ab ae aF;rw [JL a8 ab,sN ae,ZN aF]
    ·cases h
   ·split at h
    ·rename_i ab ae aF;rw [sN ab,JL a8 ae,JL a8 aF]
    ·cases h
   ·rw [JL a8 h]
   ·rw [JL a8 h]
   ·cases h
inductive Kq where
 | pure (k:Nat) (args:List I) (v:I)
 | map (k:Nat) (args:List I) (es:List (Nat×I×I)) (clock:Nat)
def Pr (P:Program):Kq→Prop
 | .pure k args v=>np P k args v
 | .map k args es clock=>∀ H,Sem P (.fn k) args H H.length (.map H.length) (H++[.map es clock])
def look (k:Nat) (args:List I) (H:List ar) (lo:Nat):List Kq→Option (I×List ar)
 | []=>none
 | .pure q bs v::r=>match Nat.beq k q with
   | true=>match IL (IY 20) args bs with
     | true=>match H with
       | []=>some (v,[])
       | _=>look k args H lo r
     | false=>look k args H lo r
   | false=>look k args H lo r
 | .map q bs es clock::r=>match Nat.beq k q with
   | true=>match IL (IY 20) args bs with
     | true=>match Nat.beq lo H.length with
       | true=>some (.map H.length,H++[.map es clock])
       | false=>look k args H lo r
     | false=>look k args H lo r
   | false=>look k args H lo r
def Od (l:List Kq):b8:=fun bY args H lo=>match bY with
 | .fn k=>look k args H lo l
 | _=>none
theorem Sem.acw {P:Program} {bY:fc} {args:List I} {r:I} {H':List ar} (h:Sem P bY args [] 0 r H') (lo:Nat):Sem P bY args [] lo r H' :=
 ⟨⟨h.1.1,fun _ _ h=>by simp at h⟩,h.2⟩
theorem look_ok {P:Program} {k:Nat} {args:List I} {H:List ar} {lo:Nat} {r:I} {H':List ar}:∀ {l:List Kq},(∀ e∈l,Pr P e)→look k args H lo l=some (r,H')→Sem P (.fn k) args H lo r H'
 | [],_,h=>by simp [look] at h
 | .pure q bs v::l,ao,h=>by
   have KF:=look_ok (k:=k) (args:=args) (H:=H) (lo:=lo) (r:=r) (H':=H') fun e he=>ao e (tU _ he);unfold look at h;split at h
   ·rename_i ab;split at h
    ·rename_i ae;split at h
     ·cases h;have:=ao (.pure q bs r) tZ;rw [sN ab,JL (Nh 20) ae];exact this.1.acw lo
     ·exact KF h
    ·exact KF h
   ·exact KF h
 | .map q bs es clock::l,ao,h=>by
   have KF:=look_ok (k:=k) (args:=args) (H:=H) (lo:=lo) (r:=r) (H':=H') fun e he=>ao e (tU _ he);unfold look at h;split at h
   ·rename_i ab;split at h
    ·rename_i ae;split at h
     ·rename_i aF;cases h;have:=ao (.map q bs es clock) tZ;rw [sN ab,JL (Nh 20) ae,sN aF];exact this H
     ·exact KF h
    ·exact KF h
   ·exact KF h
theorem W2 {P:Program} {l:List Kq} (ao:∀ e∈l,Pr P e):c6 P (Od l):=o8 fun bY args H lo r H' h=>by
 cases bY with
 | fn k=>exact look_ok ao h
 | yield i=>simp [Od] at h
def Kb (A:FuncId→dx):Nat→List Func→Bool
 | _,[]=>true
 | k,f::r=>match (A k).bad with
   | true=>Kb A (k+1) r
   | false=>match f.body with
     | some c => match codeOk (A k) c, f.name == "runtime.NumGoroutine" with
       | true,false=>Kb A (k+1) r
       | _,_=>false
     | none=>Kb A (k+1) r
theorem U0 {A : FuncId → dx} : ∀ {l : List Func} {k : Nat}, Kb A k l = true → ∀ (i : Nat) (f : Func) (c : Code), (A (k + i)).bad = false → l[i]? = some f → f.body = some c → codeOk (A (k + i)) c = true ∧ f.name ≠ "runtime.NumGoroutine"
 | [],_,_,i,f,c,_,h,_=>by simp at h
 | g::r,k,h,i,f,c,nH,aP,ak=>by
   unfold Kb at h;cases i with
   | zero =>
     simp at aP;subst aP;rw [Nat.add_zero] at nH;rw [nH,ak] at h;simp only at h;split at h
     ·rename_i ab ae;exact ⟨ab,by simpa using ae⟩
     ·cases h
   | succ i =>
     have ai:Kb A (k+1) r=true:=by
      split at h
      ·exact h
      ·split at h
       ·split at h
        ·exact h
        ·cases h
       ·exact h
     have:=U0 ai i f c (by rw [show k+1+i=k+(i+1) by omega];exact nH) (by simpa using aP) ak;rw [show k+(i+1)=k+1+i by omega];exact this
theorem UZ {P : Program} {A : FuncId → dx} (h : Kb A 0 P.funcs.toList = true) (k : Nat) (f : Func) (c : Code) (af : (A k).bad = false) (aP : P.funcs[k]? = some f) (ak : f.body = some c) : codeOk (A k) c = true ∧ f.name ≠ "runtime.NumGoroutine" := by
 have:=U0 h k f c (by rw [sB];exact af) (by simpa using aP) ak
 rwa [sB] at this
theorem SX:Kb jD 0 Go.Proofs.Try.prog.funcs.toList=true:=by kernel_rfl
noncomputable def Rn (l:List Kq) (k:Nat) (args:List I):Option I:=match ga Go.Proofs.Try.prog jD (Od l) 300 (.fn k) args [] 0 with
 | some (r,H2)=>match bM H2 0 H2.length 0 8 r with
   | some v=>match cr 8 v.settle with
     | true=>some v.settle
     | false=>none
   | none=>none
 | none=>none
theorem ae5 {l:List Kq} (ao:∀ e∈l,Pr Go.Proofs.Try.prog e) {k:Nat} {args:List I} {v:I} (h:Rn l k args=some v):np Go.Proofs.Try.prog k args v:=by
 unfold Rn at h;split at h
 ·rename_i r H2 ak;split at h
  ·rename_i u aP;split at h
   ·rename_i aB;cases h;have ah:=(Cc eG jD (W2 ao) (UZ SX) 300).Hb ak;refine ⟨⟨ba.refl _ _,ah.2.1,fun B aa J S w xs ag aI ad=>CallsIn.mono (ah.2.2 B aa J S w xs ag aI ad) fun e w' he=>?_⟩,aB⟩;cases e with
    | returned x =>
      have kR:=xH ag (fun id aE=>by simp at aE) aP he;show aZ B aa J S w [] u.settle x w';cases u with
      | av cells len eo =>
        cases eo with
        | uniq z=>exact kR.settle
        | _=>exact kR
      | _=>exact kR
    | panicked c=>exact he.elim
    | outgrown=>exact he.elim
   ·cases h
  ·cases h
 ·cases h
end Go.Proofs.Ytkoioidpbbbaiaa.Ab


namespace Go.Proofs.Ytkoioidpbbbaiaa.Ab
open Go
noncomputable def aeL:gE :=
 .ow false [p1 5 0,p3 6 2,p1 7 2,p0 8 [.Bu 7] (.conv .u64),p0 9 [.cv (.func 70 [] []),.nd 8] (.call 3),p0 10 [.cv (.func 89 [] []),.jq 5,.cv (.int .i64 0),.jq 6,.jq 9] (.call 1)]
noncomputable def Re:gE :=
 p2 [p3 3 0,qU 4 3,p1 2 4] aeL
theorem UD:ql Go.Proofs.Try.prog SQ 74=some (Re,11,[]):=by kernel_rfl
noncomputable def MC:gE :=
 p2 [p1 24 0,p1 25 1,p1 26 2,p0 27 [.cv (.func 96 [] []),.jq 24,.jq 25,.jq 26] (.call 1)] .ret
noncomputable def adY:gE :=
 p2 [p1 30 0,p1 31 1,p1 32 2,p0 33 [.cv (.func 97 [] []),.jq 30,.jq 31,.jq 32] (.call 1)] .ret
noncomputable def adZ:gE :=
 p2 [p3 36 0,p3 37 1,p3 38 2,p0 39 [.cv (.func 98 [] []),.jq 36,.jq 37,.jq 38] (.call 1)] (qG [p1 40 3,qw 41 40 1 .sub,p1 3 41])
noncomputable def ad0:gE :=
 p2 [p3 55 2,qw 56 55 1 .sub,p1 57 11,p3 58 1,qo 59 57 58 .sub,qo 60 56 59 .sub,p1 11 60] (qG [qc 12 1])
noncomputable def ad1:gE :=
 p2 [p3 51 0,p3 52 1,p3 53 2,p0 54 [.cv (.func 100 [] []),.jq 51,.jq 52,.jq 53] (.call 1)] ad0
noncomputable def ad2:gE :=
 p2 [p3 69 0,p3 70 1,p3 71 2,p0 72 [.cv (.func 101 [] []),.jq 69,.jq 70,.jq 71] (.call 1)] (.cond (.nd 72) .ret .skip)
noncomputable def ad3:gE :=
 p2 [p3 88 0,p1 89 1,p3 90 2,p1 91 11,p0 92 [.cv (.func 103 [] []),.jq 88,.jq 89,.jq 90,.jq 91] (.call 1),p1 13 92] (p2 [p1 93 13,p1 1 93] (.exit 1))
noncomputable def ad4:gE :=
 p2 [p3 117 0,p1 118 1,p3 119 14,p3 120 3,p0 121 [.cv (.func 89 [] []),.jq 117,.jq 118,.jq 119,.jq 120] (.call 1)] (qG [p1 122 14,qT 123 122 1,p1 1 123])
noncomputable def ad5:gE :=
 p2 [p1 114 16,p1 115 18,qo 116 114 115 .geq,p1 8 116] ad4
noncomputable def adQ:gE :=
 p2 [p3 127 0,p3 128 14,qT 129 128 1,p1 130 2,p3 131 3,p0 132 [.cv (.func 89 [] []),.jq 127,.jq 129,.jq 130,.jq 131] (.call 1)] (qG [p1 133 14,p1 2 133])
noncomputable def adR:gE :=
 p2 [p1 124 17,p1 125 18,qo 126 124 125 .geq,p1 8 126] adQ
noncomputable def adS:gE :=
 p2 [p1 109 10,qw 110 109 8 .quo,p1 18 110] (p2 [p3 111 16,p3 112 17,qo 113 111 112 .lss] (.cond (.nd 113) ad5 adR))
noncomputable def adT:gE :=
 p2 [p3 103 14,p3 104 1,qo 105 103 104 .sub,p3 106 2,p3 107 14,qo 108 106 107 .sub,p1 16 105,p1 17 108] adS
noncomputable def adU:gE :=
 p2 [p3 95 0,p3 96 1,p3 97 2,p1 98 11,p0 99 [.cv (.func 104 [] []),.jq 95,.jq 96,.jq 97,.jq 98] (.call 1),p1 94 99,qL 100 94 0,p0 101 [.Bu 94] (.ext 1),p1 14 100,p1 15 101] (p2 [p1 102 15,p1 9 102] adT)
noncomputable def adV:gE :=
 .seq (.seq (q_ [p3 73 1,qw 74 73 0 .gtr,p1 75 74,cl 76 [.nd 0] 75 true .mV,cl 77 [.nd 1] 75 true .mV,cl 78 [.Bu 77,.cv (.int .i64 1)] 75 true (.bin .sub),cl 79 [.Bu 76,.Bu 78] 75 true (.kZ 1),cl 80 [.Bu 79] 75 true (.zG .one),cl 81 [.nd 0] 75 true .mV,cl 82 [.nd 11] 75 true .mV,cl 83 [.Bu 81,.Bu 82] 75 true (.kZ 1),cl 84 [.Bu 83] 75 true (.zG .one),⟨some 85,[.cv (.func 102 [] []),.nd 80,.nd 84],some (75,true),none,.call 3⟩,cl 86 [.Bu 85] 75 true (.un .not),p0 87 [.nd 75,.Bu 86,.cv (.bool false)] .pick]) (.cond (.nd 87) ad3 .skip)) adU
noncomputable def adW:gE :=
 .seq (p2 [p3 61 8,p1 62 61,cl 63 [.nd 9] 62 true .mV,p0 64 [.Bu 62,.Bu 63,.cv (.bool false)] .pick,p1 65 64,cl 66 [.jq 12] 65 true .mV,cl 67 [.Bu 66,.cv (.int .i64 1)] 65 true (.bin .eql),p0 68 [.Bu 65,.Bu 67,.cv (.bool false)] .pick] (.cond (.nd 68) ad2 .skip)) adV
noncomputable def adX:gE :=
 p2 [p3 43 0,p3 44 1,p3 45 2,p0 46 [.cv (.func 99 [] []),.jq 43,.jq 44,.jq 45] (.call 1),p1 42 46,qL 47 42 0,p0 48 [.Bu 42] (.ext 1),p1 11 47,p1 12 48] (.seq (p2 [p3 49 12,qw 50 49 2 .eql] (.cond (.nd 50) ad1 .skip)) adW)
noncomputable def QF:gE :=
 .seq (p2 [p3 28 3,qw 29 28 0 .eql] (.cond (.nd 29) adY .skip)) (.seq (p2 [p3 34 8,p0 35 [.Bu 34] (.un .not)] (.cond (.nd 35) adZ .skip)) adX)
noncomputable def MD:gE :=
 .block 1 (p2 [p3 19 2,p3 20 1,qo 21 19 20 .sub,p1 10 21] (.seq (p2 [p3 22 10,qw 23 22 12 .leq] (.cond (.nd 23) MC .skip)) QF))
noncomputable def QE:gE :=
 p2 [p0 8 [.cv (.bool true)] .mV] (p2 [p0 9 [.cv (.bool true)] .mV] (.block 0 (.loop (some (p8 false [0,4,4,2,124])) MD)))
theorem Ux:ql Go.Proofs.Try.prog SV 89=some (QE,134,[]):=by kernel_rfl
noncomputable def ad6:gE :=
 .block 3 (q_ [p3 33 0,p3 34 7,p3 35 0,p3 36 7,qw 37 36 1 .sub,p3 38 0,p3 39 7,qw 40 39 1 .sub,q5 41 38 40 1,qf 42 41,p3 43 0,p3 44 7,q5 45 43 44 1,qf 46 45,q5 47 33 34 1,⟨none,[.jq 47,.jq 42],none,none,.st 1⟩,q5 48 35 37 1,⟨none,[.jq 48,.jq 46],none,none,.st 1⟩])
noncomputable def ad7:gE :=
 .seq (.seq (q_ [p3 16 7,p3 17 1,qo 18 16 17 .gtr,p1 19 18,cl 20 [.nd 0] 19 true .mV,cl 21 [.nd 7] 19 true .mV,cl 22 [.Bu 20,.Bu 21] 19 true (.kZ 1),cl 23 [.Bu 22] 19 true (.zG .one),cl 24 [.nd 0] 19 true .mV,cl 25 [.nd 7] 19 true .mV,cl 26 [.Bu 25,.cv (.int .i64 1)] 19 true (.bin .sub),cl 27 [.Bu 24,.Bu 26] 19 true (.kZ 1),cl 28 [.Bu 27] 19 true (.zG .one),⟨some 29,[.cv (.func 102 [] []),.nd 23,.nd 28],some (19,true),none,.call 3⟩,p0 30 [.nd 19,.Bu 29,.cv (.bool false)] .pick]) (.cond (.nd 30) .skip (.exit 2))) (.seq ad6 (qG [p1 31 7,qw 32 31 1 .sub,p1 7 32]))
noncomputable def ad8:gE :=
 .block 1 (p2 [p3 15 6,p1 7 15] (.block 2 (.loop (some (p8 false [0,3,3,2,41])) ad7)))
noncomputable def ad9:gE :=
 .seq (p2 [p3 10 6,p3 11 2,qo 12 10 11 .lss] (.cond (.nd 12) .skip (.exit 0))) (.seq ad8 (qG [p1 13 6,qT 14 13 1,p1 6 14]))
noncomputable def QG:gE :=
 p2 [p3 8 1,qT 9 8 1,p1 6 9] (.block 0 (.loop (some (p8 false [0,3,3,1,42])) ad9))
theorem Uy:ql Go.Proofs.Try.prog SW 96=some (QG,49,[]):=by kernel_rfl
noncomputable def ad_:gE :=
 p2 [p3 5 0,p0 6 [.cv (.func 109 [] []),.nd 5] (.call 3),p1 7 6,cl 8 [.nd 1] 7 true .mV,⟨some 9,[.cv (.func 109 [] []),.nd 8],some (7,true),none,.call 3⟩,cl 10 [.Bu 9] 7 true (.un .not),p0 11 [.Bu 7,.Bu 10,.cv (.bool false)] .pick,p1 12 11,cl 13 [.jq 0] 12 false .mV,cl 14 [.jq 1] 12 false .mV,cl 15 [.Bu 13,.Bu 14] 12 false (.bin .lss),p0 16 [.Bu 12,.cv (.bool true),.Bu 15] .pick,p1 4 16] .ret
noncomputable def VC:gE :=
 p2 [p0 4 [.cv (.bool false)] .mV] ad_
theorem ab3:ql Go.Proofs.Try.prog Sd 102=some (VC,17,[.tmp 4]):=by kernel_rfl
noncomputable def aea:gE :=
 p2 [p3 3 0,p1 4 0,qo 5 3 4 .neq,p1 2 5] .ret
noncomputable def VD:gE :=
 p2 [p0 2 [.cv (.bool false)] .mV] aea
theorem ab4:ql Go.Proofs.Try.prog Se 109=some (VD,6,[.tmp 2]):=by kernel_rfl
end Go.Proofs.Ytkoioidpbbbaiaa.Ab


namespace Go.Proofs.Ytkoioidpbbbaiaa.Ab
open Go
set_option maxRecDepth 20000
set_option maxHeartbeats 4000000
theorem abM (x:Int):qu 109 [h0 x] (B false):=by
 refine Pz eG ab4 rfl rfl ?_;unfold VD;conv=>whnf
 exact JR (.inr rfl) rfl (by rw [decide_eq_false (show ¬ (x≠x) from fun h=>h rfl)];rfl)
theorem abZ (x y:Int):qu 102 [h0 x,h0 y] (B (decide (x<y))):=by
 refine Pz eG ab3 rfl rfl ?_;unfold VC;conv=>whnf
 refine ⟨by first | rfl | simp only [tA,t_,LA,LJ,LB,LD,LC,LF,LL,LK,JO,LG,LH,LI,tu,tX],_,abM x,?_⟩
 conv=>whnf
 exact JR (.inr rfl) rfl rfl
def Is (d:Array Int):ar:=.cells (d.toList.map h0)
def JZ (id n:Nat):I:=.ref id 0 n none 1
theorem ZO (d:Array Int) (x:Nat) (h:x<d.size):(d.toList.map h0)[x]?=some (h0 d[x]!):=by
 simp [h]
theorem ZP (d:Array Int) (x:Nat) (v:Int):(d.toList.map h0).set x (h0 v)=(d.setIfInBounds x v).toList.map h0:=by
 simp [List.map_set]
theorem swp_size (d:Array Int) (i j:Nat):(Sort.swp d i j).size=d.size:=by simp [Sort.swp]
theorem N6 {d:Array Int} {n:Nat} (x:Nat) (e:n=x) (h:x<d.size) {K:I→Prop} (k:K (h0 d[x]!)):eJ (d.toList.map h0) n K:=by
 subst e;exact Ex (ZO d n h) k
theorem Xq {d:Array Int} {n:Nat} {v:Int} (x:Nat) (e:n=x) (h:x<d.size) {K:List I→Prop} (k:K ((d.setIfInBounds x v).toList.map h0)):jt (d.toList.map h0) n (h0 v) K:=by
 subst e;refine Gp (by simpa using h) ?_;rw [ZP];exact k
section
variable {H:List ar} {id lo:Nat} (bD:lo≤id)
include bD
theorem abL (d:Array Int) (a b:Nat) (a1:d.size≤1000) (cu:a≤b) (af:b≤d.size) (ag:H[id]?=some (Is d)) :
  Sem Go.Proofs.Try.prog (.fn 96) [JZ id d.size,h0 a,h0 b] H lo (.tuple []) (H.set id (Is (Sort.insertionSort Sort.ltInt d a b))):=by
 have aE:=(sa.1 ag).1;refine Tn eG Uy rfl ⟨by simp,fun j ab ae=>by rw [sd (by omega)]⟩ ?_;unfold QG;conv=>whnf
 have CJ:Nat.ble lo id=true:=Nat.ble_eq_true_of_le bD;have gs:∀ c:ar,(H.set id c)[id]?=some c:=fun c=>by rw [List.getElem?_set_self aE]
 have JG:∀ c e:ar,((H.set id c).set id e)[id]?=some e:=fun c e=>by rw [sV,gs]
 rw [Ol a (by omega)];refine .intro (fun m T H'=>∃ i g',a+1≤i∧(i≤b∨i=a+1)∧m=b+1-i∧g'.size=d.size∧Sort.insOuter Sort.ltInt a b i g'=Sort.insertionSort Sort.ltInt d a b∧T=qa 49 [(0,JZ id d.size),(1,h0 a),(2,h0 b),(6,h0 i)]∧H'=H.set id (Is g')) (b-a) ⟨a+1,d,by omega,.inr rfl,by omega,rfl,rfl,rfl,?_⟩ ?_
 ·obtain ⟨ab,ae⟩:=sa.1 ag;rw [←ae,List.set_getElem_self]
 rintro m T H' ⟨i,g',abn,abo,rfl,CU,he,rfl,rfl⟩;conv=>whnf
 refine Hm (fun h=>?_) (fun h=>?_)
 ·conv=>whnf
  refine .intro (fun j T H'=>∃ IF:Array Int,j≤i∧IF.size=d.size∧Sort.insInner Sort.ltInt a j IF=Sort.insInner Sort.ltInt a i g'∧T=qa 49 [(0,JZ id d.size),(1,h0 a),(2,h0 b),(6,h0 i),(7,h0 j)]∧H'=H.set id (Is IF)) i ⟨g',sc _,CU,rfl,rfl,rfl⟩ ?_;rintro j T H' ⟨IF,aw,P7,KE,rfl,rfl⟩;conv=>whnf
  by_cases aF:(a:Int)<(j:Int)
  ·rw [decide_eq_true aF];obtain ⟨q,rfl⟩:∃ q,j=q+1:=⟨j-1,by omega⟩;(have hw:IntKind.i64.wrap (((q+1:Nat):Int)-1)=(q:Int):=by rw [Hj _ (by omega) (by omega)];omega);(conv=>whnf);refine ⟨by omega,?_⟩;(conv=>whnf);refine Ex (by first | exact gs _ | exact JG _ _ | assumption) ?_
   (conv=>whnf);refine N6 (q+1) (by omega) (by omega) ?_;(conv=>whnf);rw [hw];refine ⟨by omega,?_⟩;(conv=>whnf);refine Ex (by first | exact gs _ | exact JG _ _ | assumption) ?_
   (conv=>whnf);refine N6 (q) (by omega) (by omega) ?_;(conv=>whnf);refine ⟨by first | rfl | simp only [tA,t_,LA,LJ,LB,LD,LC,LF,LL,LK,JO,LG,LH,LI,tu,tX],_,abZ IF[q+1]! IF[q]!,Hi,?_⟩
   (conv=>whnf);by_cases a_:IF[q+1]!<IF[q]!
   ·rw [decide_eq_true a_];(conv=>whnf);rw [hw];refine ⟨by omega,?_⟩;(conv=>whnf);refine Ex (by first | exact gs _ | exact JG _ _ | assumption) ?_
    (conv=>whnf);refine N6 (q) (by omega) (by omega) ?_;(conv=>whnf);refine ⟨by omega,?_⟩;(conv=>whnf);refine Ex (by first | exact gs _ | exact JG _ _ | assumption) ?_
    (conv=>whnf);refine N6 (q+1) (by omega) (by omega) ?_;(conv=>whnf);refine ⟨by omega,?_⟩;(conv=>whnf);rw [CJ];(conv=>whnf);refine Ex (by first | exact gs _ | exact JG _ _ | assumption) ?_
    (conv=>whnf);refine Xq (q+1) (by omega) (by first | omega | (simp only [Array.size_setIfInBounds];omega)) ?_
    (conv=>whnf);refine ⟨by omega,?_⟩;(conv=>whnf);rw [CJ];(conv=>whnf);refine Ex (by first | exact gs _ | exact JG _ _ | assumption) ?_
    (conv=>whnf);refine Xq (q) (by omega) (by first | omega | (simp only [Array.size_setIfInBounds];omega)) ?_
    (conv=>whnf);refine ⟨q,by omega,Sort.swp IF (q+1) q,by omega,by rw [swp_size];exact P7,?_,?_,?_⟩
    ·rw [←KE,Sort.insInner,if_pos (by simp only [Sort.ltInt,sn,decide_eq_true_eq];exact ⟨by omega,a_⟩)]
    ·rw [hw];rfl
    ·simp only [sV];rfl
   ·rw [decide_eq_false a_];(conv=>whnf);have e:Sort.insInner Sort.ltInt a i g'=IF:=by
     rw [←KE,Sort.insInner,if_neg (by simp only [Sort.ltInt,sn,decide_eq_true_eq];exact fun bE=>a_ bE.2)]
    exact ⟨b+1-(i+1),by omega,i+1,IF,by omega,by omega,rfl,P7,by rw [←he,Sort.insOuter.eq_1 _ a b i,if_pos (by omega),e],by rw [←Ol i (by omega)];rfl,rfl⟩
  ·rw [decide_eq_false aF];(conv=>whnf);have e:Sort.insInner Sort.ltInt a i g'=IF:=by
    rw [←KE];cases j with
    | zero=>rfl
    | succ q=>rw [Sort.insInner,if_neg (by simp only [sn,decide_eq_true_eq];exact fun bE=>by omega)]
   exact ⟨b+1-(i+1),by omega,i+1,IF,by omega,by omega,rfl,P7,by rw [←he,Sort.insOuter.eq_1 _ a b i,if_pos (by omega),e],by rw [←Ol i (by omega)];rfl,rfl⟩
 ·conv=>whnf
  have e:Sort.insertionSort Sort.ltInt d a b=g':=by
   rw [←he];unfold Sort.insOuter;rw [if_neg (by omega)]
  rw [e];exact ⟨.inl rfl,⟨by simp,fun j o aw=>.inr aw⟩,rfl⟩
theorem adB (d:Array Int) (Jc:Int) (a1:d.size≤12) (ag:H[id]?=some (Is d)) :
  Sem Go.Proofs.Try.prog (.fn 89) [JZ id d.size,h0 0,h0 d.size,h0 Jc] H lo (.tuple []) (H.set id (Is (Sort.insertionSort Sort.ltInt d 0 d.size))):=by
 refine ri eG Ux rfl ⟨by simp,fun j ab ae=>by rw [sd (by omega)]⟩ fun Q bp=>?_;unfold QE;obtain ⟨Pn,I9⟩:∃ c,MD=c:=⟨_,rfl⟩;rw [I9];conv=>whnf
 refine .intro (fun m T H'=>T=qa 134 [(0,JZ id d.size),(1,h0 0),(2,h0 d.size),(3,h0 Jc),(8,B true),(9,B true)]∧H'=H) 0 ⟨rfl,rfl⟩ ?_;rintro m T H' ⟨rfl,rfl⟩;subst I9;unfold MD;obtain ⟨a7,cf⟩:∃ c,MC=c:=⟨_,rfl⟩;obtain ⟨Pm,Kz⟩:∃ c,QF=c:=⟨_,rfl⟩;rw [cf,Kz];conv=>whnf
 rw [show IntKind.i64.wrap ((d.size:Int)-0)=(d.size:Int) by rw [Hj _ (by omega) (by omega)];omega,decide_eq_true (show (d.size:Int)≤12 by omega)];conv=>whnf
 subst cf;unfold MC;conv=>whnf
 refine ⟨_,_,re (abL bD d 0 d.size (by omega) (sD _) (sc _) ag),?_⟩;conv=>whnf
 exact bp _ _ _ ⟨.inr rfl,⟨rfl,fun j o aw=>.inr aw⟩,rfl⟩
end
theorem Xr (n:Int):IntKind.u64.wrap n=n % 18446744073709551616:=by simp [IntKind.wrap,IntKind.bits,IntKind.signed]
theorem abY:((List.range 13).all fun n=>match Rn [] 70 [.int .u64 (n:Nat)] with | some v=>IY 3 v (h0 (Sort.bitsLen n)) | none=>false)=true:=by kernel_rfl
theorem Ni (n:Nat) (h:n≤12):qu 70 [.int .u64 n] (h0 (Sort.bitsLen n)):=by
 have:=sq.1 abY n (sH.2 (by omega));split at this
 ·rename_i v ad;rw [Nh _ _ _ this] at ad;exact ae5 (l:=[]) (by simp) ad
 ·cases this
theorem afe {H:List ar} {id lo:Nat} (bD:lo≤id) (d:Array Int) (a1:d.size≤12) (ag:H[id]?=some (Is d)) :
  Sem Go.Proofs.Try.prog (.fn 74) [JZ id d.size] H lo (.tuple []) (H.set id (Is (Sort.insertionSort Sort.ltInt d 0 d.size))):=by
 refine ri eG UD rfl ⟨by simp,fun j ab ae=>by rw [sd (by omega)]⟩ fun Q bp=>?_;unfold Re;conv=>whnf
 rw [show IntKind.u64.wrap (d.size:Int)=(d.size:Int) by rw [Xr];omega];refine ⟨by first | rfl | simp only [tA,t_,LA,LJ,LB,LD,LC,LF,LL,LK,JO,LG,LH,LI,tu,tX],_,Ni d.size a1,?_⟩
 conv=>whnf
 refine ⟨_,_,re (adB bD d (Sort.bitsLen d.size) a1 ag),?_⟩;conv=>whnf
 exact bp _ _ _ ⟨.inl rfl,⟨rfl,fun j o aw=>.inr aw⟩,rfl⟩
end Go.Proofs.Ytkoioidpbbbaiaa.Ab
