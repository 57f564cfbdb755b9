
import Derived.Test.YtkoioidpbbbaiaaGreatJe1
import Derived.Test.YtkoioidpbbbaiaaGreatJe4
import Derived.Test.YtkoioidpbbbaiaaGreatProg
import Derived.KernelRfl
import Derived.IntWalk
import Derived.ProofKit
import Derived.Deep.Slices
import Derived.ChangeStays
import Derived.Below
import Derived.WalkKit
import Derived.Sort.AssemblyPlain
set_option linter.unusedSimpArgs false
set_option linter.unusedVariables false
set_option linter.unusedSectionVars false

open Bool renaming and_eq_true→sn,and_self→tV,and_true→tt,false_eq_true→tO
open Classical renaming choose_spec→uy
open Int renaming add_zero→uU
open List renaming all_cons→tz,all_eq_true→sm,all_nil→tY,append_assoc→sx,append_nil→sM,drop_eq_getElem_cons→s0,drop_zero→tq,flatMap_cons→uA,getElem?_append→sq,getElem?_append_left→sg,getElem?_append_right→ss,getElem?_drop→sQ,getElem?_eq_getElem→si,getElem?_eq_some_iff→sa,getElem?_map→sk,getElem?_set_ne→sd,getElem?_take→sI,length_append→sA,length_cons→sK,length_eq_zero_iff→sO,length_map→sY,length_take→s9,map_append→sP,map_congr_left→tI,map_cons→sG,map_drop→tG,map_id→uS,map_map→vr,map_nil→uz,mem_append_left→vv,mem_append_right→vu,mem_cons_of_mem→tR,mem_cons_self→tX,mem_flatMap→tJ,mem_iff_getElem?→sX,mem_map→sD,mem_range→sH,perm_cons_erase→vz,set_set→sW,take_of_length_le→te
open Nat renaming add_comm→tg,add_mul→tb,eq_of_beq_eq_true→sN,le_refl→sc,lt_succ_self→sE,mul_one→tn,zero_add→sy,zero_le→sC
open Option renaming bind_some→sb,map_some→se
namespace Go.Proofs.YtkoioidpbbbaiaaGreat.Ab
open Go
abbrev pZ:bZ:={ cC:=[true] }
abbrev p5:bZ:={ cC:=[true,true] }
def p4 (l:List Nat):List bZ:=l.map fun n=>match n with
 | 0=>{}
 | 1=>pZ
 | _=>p5
def ZJ:dw:={ ops:=[[{ mode:=3 }]] }
def ZM:dw:={ ops:=[[pZ],[{},{ mode:=3 }],[{ mode:=3 },pZ],[{},{ mode:=3 },pZ,{},pZ,pZ,pZ],[{},{ mode:=3 },pZ,{},pZ,pZ,pZ],[{},{ mode:=3 },pZ,{},pZ,pZ,pZ],[{},{ mode:=3 },pZ,{},pZ,pZ,pZ],[{},{ mode:=3 },pZ,{},pZ,pZ,pZ],[pZ,{ mode:=3 },pZ,{},pZ,pZ,pZ],[pZ,pZ,p5,pZ,pZ,pZ,p5,p5,pZ,pZ,pZ,{ mode:=3 },p5,pZ,pZ,pZ,p5,p5,pZ,pZ,pZ,p5,p5,pZ,pZ,pZ,p5,p5,pZ,{ mode:=3 },p5,pZ]] }
def ZO:dw:={ ops:=[[pZ],[{},{ mode:=3 },pZ,{},pZ,pZ,{ cC:=[true,false,true] },pZ,{},pZ,pZ,{ cC:=[true,false,true] }],[{ mode:=3 },pZ],[{},{},{},{ mode:=3 },pZ,{},pZ,pZ,pZ],[{},{},pZ,{ mode:=3 },pZ,{},pZ,pZ,pZ],[{},{},{ mode:=3 },pZ,{},pZ,pZ,pZ],[{},{},{ mode:=3 },pZ,{},pZ,pZ,pZ],[{},{},{ mode:=3 },pZ,{},pZ,pZ,pZ],[pZ,pZ,p5,pZ,pZ,pZ,p5,{ cC:=[true,false,true] },pZ,pZ,{},p5,{ cC:=[true,false,true] },pZ,pZ,{},p5,{ cC:=[true,false,true] },pZ,pZ,{},p5,{ cC:=[true,false,true] },pZ,{},pZ,pZ,{ cC:=[true,false,true] }],[],[pZ,pZ],[pZ,pZ,pZ,pZ,{ mode:=3 },p5,pZ],[pZ,pZ,pZ,{ mode:=3 },pZ,{},pZ,pZ,pZ],[pZ,pZ,pZ,pZ,pZ,p5,p5,pZ,{ mode:=3 },p5,pZ]] }
def ZR:dw:={ ops:=[[pZ],[{},{ mode:=3 }],[{ mode:=3 },pZ],[{},{ mode:=3 },pZ,{},pZ,pZ,pZ],[pZ,{ mode:=3 },pZ,{},pZ,pZ,pZ],[pZ,pZ,{ mode:=3 },pZ,pZ,pZ,p5,p5,pZ,{ mode:=3 },p5,pZ]] }
def ZT:dw:={ ops:=[[pZ],[{},{ mode:=3 },pZ,pZ,{},pZ,pZ,{ cC:=[true,false,true] }],[{ mode:=3 },pZ],[{},{ mode:=3 },pZ,{},pZ,pZ,pZ],[{},pZ,pZ,pZ,{ mode:=3 },pZ],(p4 [0,1,1,1,1,0,1,1,0,1,1,2,1,2,2,1]),[{},{},{ mode:=3 },pZ,{},pZ,pZ,pZ],[{},{},{},pZ,pZ,{ mode:=3 },pZ,{},{},pZ,pZ,pZ,pZ],[{},{},{},pZ,pZ,{ mode:=3 },pZ,{},{},pZ,pZ,pZ,pZ],[{},pZ,pZ,{ mode:=3 },pZ,{},{},pZ,pZ,pZ,pZ],[pZ,{ mode:=3 },pZ,{},pZ,pZ,pZ],[pZ,pZ,pZ,pZ,pZ,{ cC:=[true,false,true] },pZ,pZ,pZ,{ cC:=[true,false,true] },pZ,pZ,pZ,{ cC:=[true,false,true] },pZ,pZ,pZ,{ cC:=[true,false,true] },pZ,pZ,pZ,{ cC:=[true,false,true] },pZ,{},{},p5,{ cC:=[true,false,true] },pZ,{},pZ,pZ,pZ,p5,{ cC:=[true,false,true] },pZ,{},pZ,{ cC:=[true,false,true] },pZ,{},pZ,pZ,pZ,pZ,p5,{ cC:=[true,false,true] }],[],[{},pZ,{ mode:=3 },pZ,{ mode:=3 },pZ,{ mode:=3 },pZ,{ mode:=3 },{ cC:=[true,true,true,true] },p5,pZ,pZ,{ mode:=3 },{},p5,p5,pZ,pZ,{ mode:=3 },pZ,p5,p5,pZ,{ mode:=3 },p5,pZ]] }
def Py:dw:={ two:=[(5,[0,1,2,7,3,4,5,6,8],3,7)],ops:=[[{ cC:=[true],mode:=1 }],[{},{ mode:=3 },pZ,pZ,{},pZ,pZ,{ cC:=[true,false,true] }],[{ mode:=3 },pZ],(p4 [0,1,1,1]),[{},pZ,{ mode:=3 },pZ],[{},{},{ cC:=[true],mode:=3 },{ cC:=[true,true],mode:=2 },{},{ cC:=[true],mode:=3 },p5,{},{ cC:=[false,true] }],[],(p4 [0,0,1,2]),(p4 [1,1,1]),(p4 [0,1,0,0,1,0,2,2,1,0,1,0,0,2,1,2,1,2,2]),[{ mode:=6 },{},{ mode:=3 },pZ,{},pZ,pZ,pZ],[{},{ mode:=3 },pZ,{},pZ,pZ,pZ],[{},{ mode:=3 },pZ,{},pZ,pZ,pZ],[{},pZ,{ mode:=3 },pZ,{},pZ,pZ,pZ],[pZ,{ mode:=3 },pZ,{},pZ,pZ,pZ],[pZ,pZ,pZ,pZ,pZ,p5,pZ,pZ,p5,pZ,pZ,pZ,p5,pZ,pZ,pZ,p5,pZ,pZ,pZ,p5,pZ,pZ,pZ,p5,pZ,pZ,pZ,p5,pZ,pZ,pZ,p5,pZ,pZ,pZ,{ mode:=3 },{ mode:=3 },p5,pZ,{ mode:=3 },p5,pZ]],il:=[(0,(p8 false [5,4,125]))] }
def ZY:dw:={ two:=[(4,[0,1,2,3,4,5,7,6,8,9],6,7)],ops:=[[{ cC:=[true],mode:=1 }],[{},{ mode:=3 },pZ,pZ,{},pZ,pZ,{ cC:=[true,false,true] }],[{ mode:=3 },pZ],[pZ,pZ,pZ,{ cC:=[false,true] },pZ],[{},{ cC:=[true],mode:=3 },pZ,{},{ cC:=[true],mode:=3 },pZ,{},{},{ cC:=[false,true] },{ cC:=[false,true] }],[],(p4 [0,0,1,1,2]),(p4 [1,1,1]),[{},pZ,{},p5,pZ,{},{ cC:=[false,true] }],[{},{ cC:=[true],mode:=1 },{},pZ,{},pZ,p5,{},pZ,{},pZ,pZ,p5,p5,pZ,p5,{},p5],[{},{ cC:=[true],mode:=1 },{},{},pZ,p5,{},pZ,pZ,p5,p5,pZ,p5,{},p5],[{},pZ,pZ,pZ,{ mode:=3 },pZ],[{},{ mode:=3 },pZ,{},pZ,pZ,pZ],[{},{},{},pZ,pZ,{ mode:=3 },pZ,{},{},pZ,pZ,pZ,pZ],[pZ,pZ,pZ,pZ,pZ,{ cC:=[true,false,true] },pZ,{},{ mode:=3 },pZ,{ cC:=[true,false,true] },pZ,{},{ mode:=3 },pZ,{ cC:=[true,false,true] }],[],[{},{ mode:=3 }],[{},{ mode:=3 },pZ,{},pZ,pZ,pZ],[pZ,{},{},pZ,pZ,{ mode:=3 },pZ,{},{},pZ,pZ,pZ,pZ],[pZ,pZ,pZ,pZ,pZ,{ cC:=[true,false,true] },pZ,pZ,{},p5,{ cC:=[true,false,true] },pZ,pZ,{},p5,{ cC:=[true,false,true] },pZ,pZ,{},p5,{ cC:=[true,false,true] }],[],[{},{ mode:=3 },pZ],[{ mode:=3 },pZ],[{},{ mode:=3 },pZ,{},pZ,pZ,pZ],[pZ,pZ,pZ,pZ,pZ,{ mode:=3 },pZ,{},{},pZ,pZ,pZ,pZ],[pZ,pZ,pZ,pZ,p5,pZ,pZ,{},pZ,p5,p5,p5,pZ,pZ,{},pZ,p5,p5,p5,pZ,pZ,pZ,pZ,p5,p5,p5,pZ,{ mode:=3 },p5,pZ]],il:=[(0,(p8 false [1,3,1,1,5,4,199]))] }
def Z1:dw:={ ops:=[[{ cC:=[true],mode:=1 }],[{},{ mode:=3 },pZ,pZ,{},pZ,pZ,{ cC:=[true,false,true] }],[{ mode:=3 },pZ],(p4 [1,1,0,1,1,1,2,1]),[{},pZ,{},pZ,pZ,pZ,pZ,p5,{ cC:=[false,true] },{},pZ,pZ,pZ,pZ,p5,{ cC:=[false,true] },p5,p5,{},{ cC:=[false,true] }],[{},pZ,pZ,{},p5,{},pZ,pZ,{},p5,p5,pZ,{},{ cC:=[false,true] }],[],(p4 [0,0,1,1,2]),(p4 [1,1,1]),[{},{ cC:=[true],mode:=1 },{},{ cC:=[true],mode:=3 },{},p5,pZ,{ cC:=[true],mode:=3 },{},{},{ cC:=[true],mode:=3 },{},p5,pZ,{ cC:=[true],mode:=3 },p5,p5,{},{ cC:=[true],mode:=3 },{},p5,pZ,{ cC:=[true],mode:=3 },p5,pZ,p5,{},p5],[{},pZ,pZ,pZ,{ mode:=3 },pZ],[{},{ mode:=3 },pZ,{},pZ,pZ,pZ],[{},{ mode:=3 },pZ,{},pZ,pZ,pZ],[pZ,{},{ mode:=3 },pZ,{},pZ,pZ,pZ],[pZ,{},{ mode:=3 },pZ,{},pZ,pZ,pZ],[pZ,pZ,pZ,pZ,pZ,{ cC:=[true,false,true] },pZ,pZ,pZ,{ cC:=[true,false,true] },pZ,pZ,pZ,{ cC:=[true,false,true] },pZ,pZ,{},p5,{ cC:=[true,false,true] },pZ,pZ,{},p5,{ cC:=[true,false,true] }],[],[{},{ mode:=3 },pZ],[{ mode:=3 },pZ],[{},{ mode:=3 },pZ,{},pZ,pZ,pZ],[pZ,pZ,{ mode:=3 },pZ,{},pZ,pZ,pZ],[pZ,pZ,pZ,pZ,p5,p5,pZ,pZ,pZ,p5,pZ,pZ,pZ,p5,p5,pZ,{ mode:=3 },p5,pZ]],il:=[(0,(p8 false [1,1,3,1,5,4,177]))] }
def SL:dw:={ ops:=[[pZ],(p4 [1,1,1,1,1])] }
def SP:dw:={ ops:=[[],[{ mode:=3 },{ mode:=3 },{ mode:=3 },{},{},{},{ cC:=[false,true] },{ cC:=[false,true] },{ cC:=[false,true] }],[{},{},{ mode:=3 },{ mode:=3 },pZ,{},{},{},pZ,pZ,pZ],[{},{},{ mode:=3 },{ mode:=3 },pZ,{},{},{},pZ,pZ,pZ],[{},{},{ mode:=3 },{ mode:=3 },pZ,{},{},pZ,pZ],[pZ,{},{ mode:=3 },{ mode:=3 },pZ,{},{},pZ,pZ],[{},{ mode:=3 },pZ,{},pZ,pZ,pZ],[{},{ mode:=3 },pZ,{},pZ,pZ,pZ],[{},{ mode:=3 },pZ,{},pZ,pZ,pZ],[{},{},{ mode:=3 },{ mode:=3 },pZ,{ mode:=3 },{ mode:=3 },pZ,{},{},pZ,pZ],[{},{},{ mode:=3 },{ mode:=3 },pZ,{ mode:=3 },{ mode:=3 },pZ,{},{},pZ,pZ],[{},{},{ mode:=3 },{ mode:=3 },pZ,{ mode:=3 },{ mode:=3 },pZ,{},{},pZ,pZ],[pZ,{},{ mode:=3 },{ mode:=3 },pZ,{},{},pZ,pZ],[{},{},{ mode:=3 },{ mode:=3 },pZ,{},{},pZ,pZ],[{},{ mode:=3 },pZ,{},pZ,pZ,pZ],[pZ,pZ,pZ,pZ,pZ,{ cC:=[true,false,true] },pZ,pZ,pZ,{ cC:=[true,false,true] },pZ,pZ,pZ,{ cC:=[true,false,true] },pZ,pZ,pZ,{ cC:=[true,false,true] },pZ,pZ,pZ,{ cC:=[true,false,true] },pZ,pZ,pZ,{ cC:=[true,false,true] },pZ,pZ,pZ,{ cC:=[true,false,true] },pZ,pZ,pZ,{ cC:=[true,false,true] },pZ,pZ,pZ,{ cC:=[true,false,true] },pZ,pZ,pZ,{ cC:=[true,false,true] },pZ,pZ,pZ,{ cC:=[true,false,true] },pZ,pZ,pZ,{ cC:=[true,false,true] }],[],[pZ,{},{ mode:=3 },pZ,{ mode:=3 },pZ,{},{},pZ,pZ],[pZ,pZ,pZ,pZ,pZ,p5,pZ,pZ,pZ,p5,pZ,pZ,pZ,p5,pZ,pZ,{},{ mode:=3 },{ mode:=3 },p5,pZ,pZ,pZ,p5,pZ,pZ,pZ,p5,pZ,pZ,pZ,p5,pZ,pZ,pZ,p5,pZ,pZ,pZ,p5,pZ,pZ,{},{ mode:=3 },{ mode:=3 },p5,pZ]] }
def SS:dw:={ ops:=[[pZ],[{},{ mode:=3 },pZ,{},pZ,pZ,pZ],[{},pZ],(p4 [1,0,1]),[pZ,pZ,{ mode:=3 },{},pZ,pZ,pZ]] }
def ZG:dw:={ ops:=[[pZ],[{},{ mode:=3 },pZ,{},pZ,pZ,pZ],[{},pZ],(p4 [1,0,1]),[pZ,pZ,{ mode:=3 },pZ]] }
def SV:dw:={ ops:=[[pZ],[pZ,{ mode:=3 },pZ,{},pZ,pZ,pZ],[{},pZ],(p4 [1,0,1]),[{},pZ,{},{ cC:=[false,true] }],[pZ,{ mode:=3 },{ mode:=3 },pZ],(p4 [1,1,0,1])] }
def ZH:dw:={ ops:=[[pZ],[{},{ mode:=3 },pZ],[pZ,{ mode:=3 },{},pZ],[{},pZ,pZ,{ mode:=3 },pZ],[{},{},{ mode:=3 },pZ],[{},{ mode:=3 },pZ],(p4 [0,1,1]),[pZ,{ mode:=3 },pZ],[{},{},{ mode:=3 },pZ],(p4 [0,0,2]),(p4 [0,1,1,1]),[pZ,pZ]],il:=[(0,(p8 false [1,1,2,3,29]))] }
def Ju:dw:={ ops:=[[pZ],[pZ,{ mode:=3 },pZ,{},pZ,{},{ cC:=[false,true] },pZ],[{},pZ],(p4 [1,0,1]),[],[{},{ mode:=3 }],[pZ],[pZ,pZ,{ mode:=3 },pZ],(p4 [0,1,2]),[pZ,pZ]] }
def ZI:dw:={ ops:=[[pZ],[{},{ mode:=3 },pZ],[pZ,{ mode:=3 },{},pZ],[],[{},pZ,pZ,{ mode:=3 },pZ],(p4 [0,1,1]),[pZ,{ mode:=3 },pZ],[{},{},{ mode:=3 },pZ],(p4 [1,1,1]),[pZ,pZ]],il:=[(0,(p8 false [1,1,2,2,21]))] }
def Pn:dw:={ ops:=[[],(p4 [0,1,0,1,2]),[],[],(p4 [0,0,1,2]),(p4 [1,1,1]),(p4 [0,0,2,1,0,0,2,1,2]),[],[]],il:=[(0,(p8 false [0,2,3,1,20]))] }
def SW:dw:={ ops:=[[{ cC:=[true],mode:=1 }],[{},{},pZ,{ mode:=2 },pZ,{},pZ,pZ,pZ],[{},pZ],(p4 [1,0,1]),[],[{},{},pZ,pZ,pZ,pZ,{ mode:=2 },pZ,pZ,pZ,p5],[],[],[{},pZ,{},{ cC:=[false,true] }],[pZ,{},pZ,pZ,pZ,{},pZ,pZ,{ mode:=3 },pZ,pZ,{},pZ,{ mode:=3 },{ cC:=[true,false,true] }],[],[{},pZ,pZ,pZ,pZ,{},pZ,{},pZ,{},{ cC:=[true],mode:=13 },pZ,p5,{ cC:=[true,true],mode:=13 },pZ],[pZ,pZ],[pZ,pZ,{ mode:=6 },pZ],[],(p4 [1,1,1])],il:=[(0,(p8 false [1,3,4,1,1,1,22,3,38]))] }
def Po:dw:={ ops:=[[pZ],[{},{},{ mode:=3 },pZ],[pZ,pZ,{ mode:=3 },{},pZ],[],(p4 [0,0,1,2]),(p4 [1,1,1]),[{},{},p5,pZ,{},{ cC:=[false,true] }],[{},pZ,pZ,pZ,{},pZ,{},pZ,pZ,p5,{ cC:=[false,false,true] },pZ,{},pZ,pZ,{},pZ,{},{},pZ,p5,pZ,pZ,p5,{ cC:=[false,true] },{ cC:=[false,false,true] },pZ,{},pZ,{ mode:=3 },pZ,{ cC:=[false,false,true] }],[],[pZ,{},{ mode:=3 },pZ,{ mode:=3 },pZ],[],(p4 [1,1,1])],il:=[(0,(p8 false [1,3,4,1,58]))] }
def SX:dw:={ ops:=[[pZ],[pZ,pZ,{ mode:=3 },pZ,{},pZ,pZ,pZ],(p4 [1,1,1,1,1])] }
def ZK:dw:={ ops:=[[pZ],[{},{},{ mode:=3 },pZ],[pZ,pZ,{ mode:=3 },{},pZ],[pZ,pZ,{ mode:=3 },pZ]] }
def Nr:dw:={ ops:=[[{ cC:=[true],mode:=1 }],[pZ,{},pZ,{ cC:=[false,true,true],mode:=8 },pZ,{},pZ,pZ,pZ],[{},pZ],(p4 [1,0,1]),[{},{},{ cC:=[false,true,true],mode:=1 },pZ,pZ,{ cC:=[false,true,true],mode:=1 },p5,{ cC:=[false,true],mode:=1 },{ cC:=[true],mode:=1 }],[{},{ cC:=[false,true],mode:=1 }],[{},pZ,{ cC:=[false,true] },pZ],(p4 [0,1,2]),[pZ,pZ]] }
def Jv:dw:={ ops:=[[{ cC:=[true],mode:=1 }],[pZ,{ cC:=[false,true],mode:=8 },pZ,{},pZ,{},{ cC:=[false,true] },pZ],[{},pZ],(p4 [1,0,1]),[],[{},{ cC:=[false,true],mode:=9 }],[pZ],[],[],(p4 [0,0,1,1,1]),[{},{ cC:=[false,true] },pZ,pZ],[{},{},{},pZ,{ cC:=[false,true] },{ cC:=[false,true,true,true],mode:=1 },pZ,{},pZ,pZ,pZ],[{},{},{},pZ,pZ,pZ,{ cC:=[false,true,true,true,true],mode:=1 },pZ,{},pZ,pZ,pZ],(p4 [1,1,1,2]),[pZ,{ cC:=[false,true] },pZ],[pZ,pZ],(p4 [0,0,2]),[],[],[pZ],[],(p4 [0,0,1,1]),[pZ,pZ],[{},{},pZ,pZ,pZ,{ cC:=[true,true,true] },pZ,pZ,p5,pZ],[pZ,pZ],[pZ,pZ]],il:=[(2,(p8 false [4,1,1,2,20,3,55])),(4,(p8 false [14,1,53,2,16]))] }
def ZL:dw:={ ops:=[[pZ],[{},{ mode:=3 },pZ],[pZ,{ mode:=3 },{},pZ],(p4 [0,1,1,1]),[],[{},{ mode:=3 },pZ],(p4 [0,1,1]),[pZ,{ mode:=3 },pZ],[{},{},{ mode:=3 },{},{},{ mode:=3 },pZ,pZ],[],(p4 [0,0,2]),(p4 [1,1,1]),[{},{},{},p5,pZ,p5,pZ,pZ,pZ,{},pZ,pZ,pZ,{},{ cC:=[false,true] },pZ,{},{},{},{ cC:=[false,true] },{ mode:=3 },{ cC:=[false,true] },pZ,{},pZ,pZ,pZ,{},{ cC:=[false,true] },pZ,{},{},{},{ cC:=[false,true] },{ mode:=3 },{ cC:=[false,true] },{ cC:=[false,false,true] },{ cC:=[false,true] }],[pZ,{},{},p5,pZ,{ cC:=[false,true] },p5,pZ],[],[],(p4 [0,0,2]),(p4 [1,1,1]),(p4 [0,0,2,1,1]),(p4 [1,0,1,2,1]),[pZ,pZ]],il:=[(0,(p8 false [1,1,2,3,91])),(2,(p8 false [1,1,2,6,88])),(4,(p8 false [4,2,4,2,86]))] }
def SY:dw:={ ops:=[[pZ],[{},{ mode:=3 },pZ,pZ,pZ,{ mode:=3 },pZ,p5,pZ]] }
def SZ:dw:={ ops:=[[pZ],[{},{ mode:=3 },pZ,{},pZ,pZ,pZ],[{},{ mode:=3 },pZ,{},pZ,pZ,pZ],[pZ,pZ,pZ,pZ,pZ,{ cC:=[true,false,true] },pZ,{},{},pZ,pZ,{ mode:=3 },pZ,{ cC:=[true,false,true] }],[pZ,pZ],[{},{},{ mode:=3 },pZ,{},pZ,pZ,pZ],[{},pZ,pZ,pZ,pZ,{},p5,p5,pZ,pZ,pZ,{ mode:=3 },pZ,p5,p5,pZ,pZ]] }
def Mn:dw:={ ops:=[[],[],[],(p4 [0,0,2]),(p4 [1,1,1]),(p4 [1,0,1,2,1]),[],(p4 [0,1,1]),(p4 [1,1,1]),[],(p4 [0,1,1]),(p4 [0,0,0,1,2,2,1,1,0,1,2,1]),(p4 [1,0,0,2,1,1,2,1]),(p4 [0,0,0,2,2,0,0,1,2,2,1]),[pZ,pZ]],il:=[(0,(p8 false [0,2,3,3,48])),(2,(p8 false [1,1,3,2,1,1,47]))] }
def S1:dw:={ ops:=[[pZ],[pZ,{},pZ,{ mode:=3 },pZ,{},pZ,pZ,pZ],[{},pZ],(p4 [1,0,1]),[pZ,pZ,{ mode:=3 },pZ]] }
def S2:dw:={ ops:=[[pZ],[{},{},pZ,{ mode:=3 },pZ,{},pZ,pZ,pZ],(p4 [0,1,1]),(p4 [1,0,0,1]),[{},pZ,pZ,pZ,pZ,pZ,{},pZ,{ mode:=3 },pZ,pZ],[],[pZ,pZ,pZ,{ mode:=3 },{},{ cC:=[false,true] }],(p4 [0,1,0,1,1,1])] }
def ZN:dw:={ ops:=[[],(p4 [0,1,1,2,1])] }
def Pp:dw:={ ops:=[[],[],[],(p4 [0,0,2]),(p4 [1,1,1]),(p4 [1,0,1,2,1]),[pZ,pZ]],il:=[(0,(p8 false [0,1,2,2,10]))] }
def S3:dw:={ ops:=[[],[{},{ mode:=3 },{ cC:=[false,true] }]] }
def S4:dw:={ ops:=[[],[{},{ mode:=3 },{ cC:=[false,true] }]] }
def S5:dw:={ ops:=[[],[{},{ mode:=3 },{ cC:=[false,true] }]] }
def S6:dw:={ ops:=[[],[pZ,pZ]] }
def S7:dw:={ ops:=[[],[pZ,pZ]] }
def S8:dw:={ ops:=[[],[pZ,pZ,pZ,p5,p5,{ cC:=[false,true] }]] }
def Pq:dw:={ ops:=[[pZ],[],(p4 [0,1,1,1]),(p4 [0,0,1,1,2]),(p4 [1,1,1]),[{},{},{},{ mode:=3 },{},{},{},{ mode:=3 },pZ,pZ],[pZ,{},pZ,pZ,{},pZ,pZ,{ cC:=[true,true,true,true,true] },pZ],[pZ,pZ]],il:=[(0,(p8 false [1,2,2,2,29]))] }
def J9:dw:={ ops:=[[pZ],[{},{ mode:=3 },pZ],[{},pZ],(p4 [1,0,1]),[pZ],[],(p4 [0,1,1]),[{},{ mode:=3 },{ mode:=3 },pZ],[pZ],[],(p4 [0,0,1,1,1]),(p4 [1,1,2]),[],[pZ,pZ],(p4 [1,1,0,1,1,2]),[],[pZ,pZ],(p4 [1,0,2,1,1])],il:=[(0,(p8 false [2,1,14,3,28])),(2,(p8 false [2,1,5,1,8,3,6,3,19]))] }
def S9:dw:={ ops:=[[],[],(p4 [0,1,1,1,1,1,0,1,1,1,1,1,2]),[],(p4 [0,1,1]),[{},{},pZ,{ mode:=3 }],[],[{},pZ],[pZ,{},pZ,pZ,{ cC:=[true,true,true] },pZ],[pZ,pZ],[pZ,pZ],[pZ,pZ]],il:=[(0,(p8 false [0,2,3,1,16,3,18])),(2,(p8 false [0,2,3,1,16,3,6,2,10]))] }
def S_:dw:={ ops:=[[],(p4 [1,0,1])] }
def Ta:dw:={ ops:=[[pZ],[pZ,pZ]] }
def Pr:dw:={ ops:=[[],(p4 [0,1,1,1]),[pZ,pZ],[],(p4 [0,1,1]),[{},{},{},{ mode:=6 }],[pZ,pZ],[pZ,pZ],[pZ,pZ]],il:=[(0,(p8 false [1,1,3,1,6,3,10]))] }
def Tb:dw:={ ops:=[[],[{},pZ,{ mode:=3 },{},pZ,{ mode:=3 },p5,pZ]] }
def Ns:dw:={ ops:=[[pZ],(p4 [0,1,1,1]),(p4 [0,1,1,0,1,2,1,0,1,2]),[],[],(p4 [0,0,2]),(p4 [1,1,1]),[{},pZ,{},p5,pZ,{ mode:=3 },pZ],[],[{},pZ,pZ,pZ,pZ,{},pZ,pZ,{},pZ,pZ,p5,{ cC:=[true,false,true] },pZ,pZ,pZ,pZ,pZ,{ cC:=[true,false,true] }],[],[]],il:=[(0,(p8 false [1,1,1,2,44]))] }
def ZP:dw:={ ops:=[[pZ],[{},{},{},pZ,pZ,{ mode:=3 },{},{},{},pZ,pZ,{ mode:=3 },pZ,pZ],[{},{},{},pZ,pZ,{ mode:=3 },{},{},{},pZ,pZ,{ mode:=3 },pZ,pZ],[{},pZ,pZ,{},pZ,pZ,{},pZ,pZ,{},pZ,pZ,{ cC:=(p8 false [0,8]) },pZ]] }
def ZQ:dw:={ ops:=[[],(p4 [0,1,1]),(p4 [0,1,1]),[{},pZ],(p4 [1,1,1]),(p4 [0,0,2,1,0,0,1,2,1,2]),[],(p4 [0,1,1]),(p4 [0,0,2]),(p4 [1,1,1]),[{},{},p5,pZ,{},{},p5,pZ,p5,pZ,{},pZ,pZ,{},{},p5,pZ,{},p5,{ cC:=[false,false,true] },{ cC:=[false,true] }],(p4 [0,0,2,1,1]),(p4 [0,1,1,2,2,1,1,2,1]),[],(p4 [0,0,2]),(p4 [1,1,1]),[{},{},{ mode:=3 },pZ],(p4 [1,0,1,2,1]),[pZ,pZ],[]],il:=[(0,(p8 false [0,1,2,2,76])),(2,(p8 false [0,1,2,4,74])),(4,(p8 false [3,1,3,2,72]))] }
def Tc:dw:={ ops:=[[],[{},pZ],[],[{},pZ,p5,{ cC:=[true],mode:=1 }]] }
def Td:dw:={ ops:=[[pZ,pZ],[pZ,p5,{ mode:=6 },pZ,pZ]] }
def Te:dw:={ ops:=[[pZ],[{},pZ,pZ,{ mode:=3 },pZ,pZ,pZ,pZ,pZ,{ mode:=3 },pZ,{ cC:=[true,false,true] },pZ]] }
def Ps:dw:={ ops:=[[pZ],[{},{ mode:=3 },pZ],[pZ,{ mode:=3 },pZ],(p4 [0,1,0,1,1,2]),[],[],(p4 [0,0,1,2]),(p4 [1,1,1]),[{},{},p5,pZ,pZ,pZ,{},{},p5,pZ,{},pZ,pZ,p5,{ cC:=[false,false,true] },pZ,{},{},p5,{},{},p5,pZ,{ mode:=3 },{ cC:=[false,false,true] }],[],[]],il:=[(0,(p8 false [1,2,2,1,42]))] }
def Tf:dw:={ ops:=[[pZ],(p4 [0,1,1,1,0,1,1,2,1,0,1,1,2,1,1,1,1,2,1])] }
def Pt:dw:={ two:=[(1,[0,1,2,7,3,4,5,6,8],3,7)],ops:=[[{ cC:=[true],mode:=1 }],[{},{},{ cC:=[true],mode:=3 },{ cC:=[true,true],mode:=2 },{},{ cC:=[true],mode:=3 },p5,{},{ cC:=[false,true] }],[],(p4 [0,0,1,2]),(p4 [1,1,1]),(p4 [0,1,0,0,2,1,1,0,0,2,1,1,2,2]),[pZ,{ cC:=[false,true] }]],il:=[(0,(p8 false [1,1,2,3,27]))] }
def ZS:dw:={ ops:=[[pZ],[{},{},{ mode:=3 },{},{},{ mode:=3 },p5,pZ]] }
def Tg:dw:={ ops:=[[],[],[],[],(p4 [0,1,1]),(p4 [1,1,1,2,1]),[{},pZ],[{},pZ],[pZ,pZ],(p4 [1,0,1]),[pZ],[],(p4 [0,1,1]),(p4 [1,1,2,1]),[pZ,pZ],[pZ,pZ]],il:=[(0,(p8 false [0,1,2,1,5,3,24])),(2,(p8 false [6,1,18,3,8]))] }
def KD:dw:={ ops:=[[],[{},{},{},{ cC:=[false,true,true,true],mode:=1 },pZ,{},pZ,pZ,pZ],[pZ],[],[],[{},pZ],[],[{},pZ],(p4 [0,1,0,2]),[{},{},{},{},pZ,{ cC:=[false,true,true,true,true],mode:=1 },pZ,{},pZ,pZ,pZ],[pZ],[pZ,pZ],[{},{},{ cC:=[false,true,true],mode:=9 },pZ],(p4 [1,1,1,2,1]),[pZ,pZ],[],[pZ],[],(p4 [0,1,1]),(p4 [1,0,0,2,1,0,1,1,1,1,0,0,1,1,0,2,2,1,2,1,2,1,2,1]),[pZ,pZ],[pZ,pZ]],il:=[(0,(p8 false [0,3,6,1,15,2,57])),(2,(p8 false [0,2,11,1,39,3,28]))] }
def Th:dw:={ ops:=[(p4 [0,1,1]),[pZ,{},pZ,pZ,{ mode:=3 },pZ,{ cC:=[false,true,false,true,true,true],mode:=1 }]] }
def Ti:dw:={ ops:=[[pZ,pZ],(p4 [1,1,1,1,2,1])] }
def Lq:dw:={ ops:=[[],[{},{},pZ,{},{ cC:=[false,true,true,true,true],mode:=9 },{},{ cC:=[false,true] }],(p4 [0,1,1,1,1,1,0,1,1,1,1,1,2,1]),(p4 [0,1,1]),[{},{},p5,pZ,pZ,pZ,{},pZ,{},pZ,pZ,pZ,pZ,pZ,pZ,pZ,p5,p5,pZ,{ cC:=[false,true] },{ cC:=[false,false,true] },{},pZ],[{},pZ,pZ,pZ,{},{},pZ,pZ,{ cC:=[false,true,true],mode:=9 },p5,pZ,{},{},pZ,pZ],[pZ,pZ],[{},{},{},pZ,pZ,{ cC:=[false,true,true],mode:=9 },{ mode:=2 },pZ],[{},pZ,pZ,pZ,{},{},pZ,pZ,{ cC:=[false,true,true],mode:=9 },{},{ cC:=[true,true,true] }],[{},pZ,pZ,{},pZ,pZ,p5,{},{ cC:=[false,true] }],[pZ],[{},pZ,pZ,{},pZ,pZ,pZ,pZ,pZ,pZ,pZ,p5,p5,pZ,{ cC:=[false,true] }],[pZ,pZ,p5,pZ,{},pZ,{},{ cC:=[false,true] },pZ],[pZ,pZ],[],(p4 [1,1,1,1,2,1,1,2,1,1])] }
def ZU:dw:={ ops:=[[pZ],[],[],[pZ,pZ],(p4 [0,0,1,2]),(p4 [1,1,1]),[{},pZ,{},{},p5,pZ,p5,pZ,{},{},pZ,{ mode:=3 },{},{ cC:=[false,true] },pZ],(p4 [0,0,2,1,1]),(p4 [1,1,1,2,1]),(p4 [1,0,0,1,2,2,1,0,0,1,2,2,1,1]),(p4 [0,1,1,1]),(p4 [0,1,1,1,2]),[pZ,{},{ cC:=[false,true] },{},{ cC:=[false,true] },{ cC:=[false,true] },pZ,pZ,pZ,pZ,p5,p5,{ mode:=3 },pZ],[{},pZ,pZ,{ mode:=3 },pZ,pZ,pZ,pZ,{ mode:=3 },p5,pZ]],il:=[(0,(p8 false [1,1,1,2,4,4,74]))] }
def Pu:dw:={ ops:=[[],(p4 [0,1,0,2]),[],[],(p4 [0,0,2]),(p4 [1,1,1]),[{},{},p5,pZ,pZ,pZ,{},{},p5,pZ,{},p5,{ cC:=[false,false,true] },pZ,{},{},p5,{},{},p5,pZ,{ mode:=3 },{ cC:=[false,false,true] }],[],[]],il:=[(0,(p8 false [0,2,3,1,32]))] }
def Tj:dw:={ ops:=[[],[],[{},pZ],[],[],[{},pZ],[{},{},{},{ mode:=3 },{},{ cC:=[false,true] }],[pZ,{},pZ,pZ,pZ,{},p5,p5,{ cC:=[false,true] },p5],[pZ,pZ],[pZ,{ cC:=[false,true] }]],il:=[(0,(p8 false [0,3,3,2,3,1,17]))] }
def Pv:dw:={ ops:=[[],[pZ,pZ,p5,pZ,{},{ cC:=[false,true] }],[],(p4 [0,1,0,1,2]),(p4 [1,1,1]),[{},{ cC:=[true],mode:=1 },{},{},p5,pZ,{},{},pZ,p5,pZ,p5,pZ,p5,{},p5],[pZ,{ cC:=[false,true] }]],il:=[(0,(p8 false [2,1,3,3,27]))] }
def Pw:dw:={ ops:=[[pZ],[],[],(p4 [0,0,1,2]),(p4 [1,1,1]),(p4 [0,1,0,2]),[{},pZ,{},{},p5,pZ,p5,pZ,{},{ cC:=[false,true] }],[pZ,{},{},pZ,{ mode:=3 },{},pZ,{},pZ,{},p5,p5,p5,p5,pZ],[pZ,pZ]],il:=[(0,(p8 false [1,4,4,2,34]))] }
def Px:dw:={ ops:=[[pZ],[{},pZ,pZ,pZ,{ mode:=3 },pZ,pZ,{},pZ,pZ,pZ,pZ,{ cC:=[true,false,true] },pZ],[],[{},pZ,{ mode:=3 },pZ,{},pZ,pZ,{},pZ,pZ,p5,{ mode:=3 },pZ,{ cC:=[true,false,true] },pZ,{},pZ,pZ,pZ,pZ,pZ,p5,{ cC:=[true,false,true] },pZ],[],[]] }
def Tk:dw:={ ops:=[[],(p4 [1,0,1]),[{ cC:=[true],mode:=1 },{ cC:=[false,true],mode:=1 }],[{ cC:=[true],mode:=2 },pZ]] }
def Tl:dw:={ ops:=[[pZ],[pZ,pZ]] }
def Jw:dw:={ ops:=[[pZ],[pZ],[pZ],[{ mode:=1 },pZ,pZ,p5,p5],[{ cC:=[true],mode:=1 },pZ]] }
def Tm:dw:={ ops:=[[pZ],[],[],[{ cC:=[true,true,true] },{ cC:=[false,true] }],[pZ,{ cC:=[true],mode:=1 }]] }
def J_:dw:={ ops:=[[],(p4 [0,1,0,1,1,1,1,1,2]),[pZ,pZ,{ cC:=[true,true],mode:=1 },pZ],(p4 [1,1,1,1,1,1]),[],[{},pZ],[{},{ cC:=[false,true] },pZ,pZ],[{},{ cC:=[false,true] },pZ],[{},{},{},pZ,{},pZ,{ cC:=[true,true,true] },{},pZ,p5,{ cC:=[true,true],mode:=1 },pZ],[pZ,{ cC:=[false,true] },pZ],[pZ,pZ],[],[pZ,pZ],[]],il:=[(0,(p8 false [0,1,2,2,21,2,24]))] }
def Pz:dw:={ ops:=[[],[],(p4 [0,0,1,2]),(p4 [1,1,1]),(p4 [0,0,2,1,0,2]),[],[]],il:=[(0,(p8 false [0,2,3,1,12]))] }
def Tn:dw:={ ops:=[[],[pZ,pZ,{ mode:=6 },pZ,pZ]] }
def Tp:dw:={ ops:=[[],[{},pZ,p5,pZ,pZ,pZ,p5,{ cC:=[true,false,true] },pZ]] }
def ZV:dw:={ ops:=[[pZ],[],[{},pZ],(p4 [1,1,1]),[],[{},{},pZ,{ cC:=[false,true] },p5],(p4 [1,1,1]),[],[],(p4 [0,0,1,2]),(p4 [1,1,1]),[pZ,pZ,{},{},p5,pZ,pZ,pZ,{},pZ,{},p5,{ cC:=[true,false,true] },p5,pZ],[pZ,pZ,{},{ mode:=3 },{},p5,p5,pZ,{},{},{},{},{ mode:=3 },p5],[pZ,pZ],[]],il:=[(0,(p8 false [1,3,3,1,49])),(2,(p8 false [1,3,3,2,48])),(4,(p8 false [1,3,3,4,46]))] }
def ZW:dw:={ ops:=[[],[{},pZ],[{},pZ],(p4 [1,0,1,0,1,2,2,1]),[{},pZ],(p4 [0,0,1,2,1,2,1,1,2,1]),[pZ,pZ]] }
def Tq:dw:={ ops:=[[],(p4 [1,1,1,1,1,1,1,1,2,1])] }
def Tr:dw:={ ops:=[[],[],(p4 [0,0,2,1]),[{},pZ],[pZ,pZ,pZ,pZ,{ cC:=[false,true,true,true,true],mode:=1 }],[{},pZ],[pZ,pZ,pZ,pZ,{ cC:=[false,true,true,true,true],mode:=1 }],[{},pZ],[{},{},{},{},{ cC:=[false,true,true,true,true],mode:=1 }],(p4 [1,1,1]),[{},{},{},{},{ cC:=[false,true,true,true,true],mode:=1 },pZ,{},pZ,pZ,pZ],[{},pZ],[{},{},{},{},{ cC:=[false,true,true,true,true],mode:=1 }],(p4 [0,1,1,0,2,2,1]),[],(p4 [0,1,0,2,1,1,1,2]),[{},{},{},{},{ cC:=[false,true,true,true,true],mode:=1 }],[{},pZ,pZ,{},{},{},pZ,p5,pZ,{},{},p5,pZ,{ mode:=6 },pZ,pZ,{ cC:=[false,true] }],[{},pZ,{},pZ,{},{ cC:=[false,true,true,true,true,true],mode:=1 },pZ],[pZ,pZ],[{},{},{},pZ,{},{ cC:=[false,true,true,true,true,true],mode:=1 },pZ,{},pZ,pZ,pZ],[pZ,pZ],(p4 [0,0,2,0,0,2,1,1]),(p4 [1,1,1]),(p4 [0,0,2]),(p4 [1,1,2,1]),[{},pZ,{},{},{},{ cC:=[false,true,true,true,true,true],mode:=1 }],(p4 [1,1,1]),(p4 [1,1,2,1]),[{},{},pZ,pZ,{},{},{ cC:=[false,true,true,true,true,true],mode:=1 }],[pZ,pZ]],il:=[(0,(p8 false [0,5,5,2,136]))] }
def ZX:dw:={ ops:=[[],[pZ,pZ,{ mode:=3 },pZ],[pZ,{ mode:=3 },pZ]] }
def PA:dw:={ ops:=[[],[],[pZ],[],(p4 [0,0,1,1,1]),[{},pZ,{},p5,pZ,{},{},{ mode:=3 },{ cC:=[true,false,true] }],[{},pZ,pZ,pZ,pZ,pZ,p5,pZ,{},{ cC:=[false,true] }],[{},pZ,{},{},{ mode:=3 },{},pZ,p5,p5,{},p5],[{},pZ,{},pZ,{ mode:=3 },pZ,pZ,p5,p5,{},p5],[pZ,pZ],[pZ,{ cC:=[false,true] }]],il:=[(0,(p8 false [0,1,1,2,4,2,3,3,43]))] }
def KE:dw:={ ops:=[[],[{},pZ],[],[{},pZ],(p4 [1,1,1]),[],[{},pZ],(p4 [1,1,1]),[{},{},p5,{},{},p5,p5,{},{ cC:=[false,true] }],(p4 [0,1,1,1,1,1,0,1,1,1,1,1,2]),[{},{},{},{},pZ,pZ,pZ,pZ,pZ,p5,p5,p5,pZ,{ cC:=[false,true] }],[{},pZ,{},{},p5,{ cC:=[true,true,true] }],[{},pZ],[{},{},pZ,pZ,pZ,pZ,pZ,pZ,{ mode:=3 },pZ],[],(p4 [0,1,1,1,1]),[],[{},pZ,{},{ cC:=[false,true] }],(p4 [0,1,0,1,0,1,1,1,1,1,2,2,1]),[pZ,{},pZ,pZ,{},pZ,pZ,{ cC:=[true,true,true] },p5,p5,pZ],[pZ,pZ],[{},pZ],[{},pZ],[{},pZ,{},{ cC:=[false,true] }],[{},pZ,{},{},pZ,pZ,{ mode:=3 },pZ],(p4 [0,1,2]),[pZ,pZ]],il:=[(0,(p8 false [0,2,3,2,116])),(2,(p8 false [0,2,3,3,115])),(4,(p8 false [0,1,4,1,3,2,66,3,43])),(6,(p8 false [5,1,4,1,96,1,15]))] }
def Ts:dw:={ ops:=[[],(p4 [1,1,1,2,1])] }
def ZZ:dw:={ ops:=[[],(p4 [0,1,1]),(p4 [1,1,1]),(p4 [0,1,1]),(p4 [1,1,1,1]),[{},pZ,pZ,{},{},p5,pZ,p5,pZ,{},{},p5,pZ,p5,p5,pZ,{},{},p5,pZ,p5,p5,pZ,pZ,pZ,pZ,pZ,pZ,p5,{ cC:=[true,false,true] },pZ],[{},pZ],(p4 [0,0,2]),(p4 [1,1,1]),[{},pZ,{},{},{},{},pZ,pZ,{},p5,p5,{ mode:=3 }],[],[]],il:=[(0,(p8 false [0,4,6,1,59]))] }
def Tt:dw:={ ops:=[[],[pZ,pZ,{ mode:=6 },pZ,pZ]] }
def Tu:dw:={ ops:=[[],(p4 [1,0,1])] }
def Tv:dw:={ ops:=[(p4 [0,1,1]),[pZ,{},pZ,pZ,{ mode:=3 },{ cC:=[false,true,false,true,true],mode:=1 }]] }
def Tw:dw:={ ops:=[[pZ],[],(p4 [0,1,1]),[{},pZ,{ cC:=[true,true],mode:=1 },pZ],[pZ,pZ]],il:=[(0,(p8 false [0,1,4,3,8]))] }
def PB:dw:={ ops:=[[],[{},pZ],[],[{},pZ],[{},{},{},p5,pZ,{ mode:=6 }],[pZ,pZ],[pZ,pZ],[]],il:=[(0,(p8 false [0,2,5,2,10]))] }
def Z0:dw:={ ops:=[[],[],[],[{},pZ],(p4 [1,1,1]),(p4 [1,0,0,2,1,2,1]),[pZ,pZ]],il:=[(0,(p8 false [0,1,2,2,11]))] }
def Tx:dw:={ ops:=[(p4 [0,1,1]),(p4 [0,0,2]),(p4 [1,1,1]),[{},pZ],[{},{},p5,pZ,{},{},{},p5,pZ,{},{},pZ,p5,pZ,{ mode:=6 },pZ,{ cC:=[false,true] }],(p4 [1,1,1]),(p4 [0,0,0,0,1,0,0,1,2,1,0,0,2,1,2,2,2,2])],il:=[(0,(p8 false [0,4,4,1,44])),(2,(p8 false [0,4,4,2,43]))] }
def Z2:dw:={ ops:=[[{},pZ],[],(p4 [1,1,2,1]),(p4 [0,1,1,1]),[{},pZ],(p4 [1,1,1]),[{},{},{},{},{},{ cC:=[false,true,true,true,true,true],mode:=1 }],(p4 [1,1,1]),[{},pZ],(p4 [1,1,1]),(p4 [0,0,0,0,0,2,0,0,0,2,2,1,0,0,2,1,2,2,2,2]),[{},{},{},{},{},{ cC:=[false,true,true,true,true,true],mode:=1 }]],il:=[(0,(p8 false [0,1,2,1,4,4,48])),(2,(p8 false [0,1,2,1,4,2,2,1,47]))] }
def Z3:dw:={ ops:=[(p4 [1,0,2,1]),[{},pZ],[{},pZ,{},{ cC:=[false,true] }],[{},{ mode:=3 },pZ],(p4 [0,0,1,1,2,1,1]),(p4 [0,0,0,1,1,2,1,2]),(p4 [1,1,1]),[{ mode:=1 },{},pZ,p5,pZ,pZ],(p4 [0,0,2]),(p4 [1,0,2,1]),(p4 [0,0,0,0,0,2,0,0,0,2,2,1,0,0,2,1,2,2,2,2])],il:=[(0,(p8 false [0,2,6,4,55]))] }
def Z4:dw:={ ops:=[[],(p4 [1,0,2,1]),[],(p4 [0,0,1,1,2,1]),(p4 [0,0,1,1,2,1]),(p4 [1,0,1,1,2,1]),[{},pZ],[pZ,pZ],[{},pZ,{},{ cC:=[false,true,true,false,true],mode:=1 },pZ],[{},pZ,{},{ cC:=[false,true,true,false,true],mode:=1 },pZ],[{},pZ,{},{ cC:=[false,true,true,false,true],mode:=1 },pZ],[pZ,pZ,pZ,pZ,pZ,{ cC:=[false,true,true,true,true,false,true],mode:=1 },pZ],[pZ],[pZ,pZ],[{},pZ],[pZ,pZ],[pZ,pZ],[pZ,pZ]] }
def Z5:dw:={ ops:=[[pZ,pZ],(p4 [1,1,1]),(p4 [0,0,2]),(p4 [0,0,0,0,0,0,2,1,0,0,2,1,2,2,2,2]),(p4 [1,1,1]),(p4 [1,1,1])],il:=[(0,(p8 false [0,1,7,2,24]))] }
def Z6:dw:={ ops:=[[],(p4 [0,1,1]),[],[{},pZ],(p4 [1,1,1]),[{},{},p5,pZ,{},{},{},p5,pZ,{},{},pZ,p5,pZ,{ mode:=6 },pZ,pZ,{ cC:=[false,true] }],(p4 [1,1,1]),(p4 [0,0,2]),[],(p4 [0,0,2,1]),[],(p4 [0,0,0,0,1,0,0,1,2,1,0,0,2,1,2,2,2,2]),(p4 [0,0,2,1]),(p4 [0,1,1]),[{},pZ],(p4 [1,1,1]),[{},{},{},p5,pZ,{},{},pZ,p5,pZ,{ mode:=6 },pZ,pZ],(p4 [0,0,0,0,1,0,0,1,2,1,0,0,2,1,2,2,2,2]),(p4 [0,0,2,1]),(p4 [0,1,1]),(p4 [0,0,2]),(p4 [1,1,1]),[{},{},{},p5,pZ,{},{},pZ,p5,pZ,{ mode:=6 },pZ,pZ],(p4 [0,0,0,0,1,0,0,1,2,1,0,0,2,1,2,2,2,2]),[]],il:=[(0,(p8 false [0,4,5,2,130])),(2,(p8 false [0,4,5,2,130])),(4,(p8 false [0,4,5,3,129])),(6,(p8 false [0,4,5,2,1,1,128]))] }
def Z7:dw:={ ops:=[[],(p4 [0,0,0,0,0,0,2,1,0,0,2,1,2,2,2,2]),(p4 [0,1,1,1,1,1]),[{},{},p5,pZ,{},{},{},p5,pZ,{},{},p5,pZ,{ mode:=6 },pZ,pZ,{ cC:=[false,true] }],(p4 [1,1,1]),[{},{},p5,pZ,{},{},{},p5,pZ,{},{},p5,pZ,{ mode:=6 },pZ,{ cC:=[false,true] }],(p4 [1,1,1]),(p4 [0,0,2]),(p4 [0,0,0,0,0,0,2,1,0,0,2,1,2,2,2,2]),(p4 [1,1,1]),(p4 [1,1,1]),[pZ,pZ]],il:=[(0,(p8 false [0,2,2,1,6,2,77])),(2,(p8 false [0,2,2,1,6,2,77])),(4,(p8 false [0,2,2,1,6,2,77]))] }
def Z8:dw:={ ops:=[[],(p4 [0,0,0,0,0,0,2,1,0,0,2,1,2,2,2,2]),(p4 [0,1,1,1,1,1]),[{},{},p5,pZ,{},{},{},p5,pZ,{},{},p5,pZ,{ mode:=6 },pZ,{ cC:=[false,true] }],(p4 [1,1,1]),[{},{},p5,pZ,{},{},{},p5,pZ,{},{},p5,pZ,{ mode:=6 },pZ,pZ,{ cC:=[false,true] }],(p4 [1,1,1]),(p4 [0,0,2]),(p4 [0,0,0,0,0,0,2,1,0,0,2,1,2,2,2,2]),[pZ,pZ],(p4 [0,0,0,0,0,0,2,1,0,0,2,1,2,2,2,2]),(p4 [1,1,1]),(p4 [1,1,1]),[{},{},p5,pZ,{},{},{},p5,pZ,{},{},p5,pZ,{ mode:=6 },pZ,{ cC:=[false,true] }],(p4 [1,1,1]),[{},{},p5,pZ,{},{},{},p5,pZ,{},{},p5,pZ,{ mode:=6 },pZ,pZ,{ cC:=[false,true] }],(p4 [1,1,1]),(p4 [0,0,2]),(p4 [0,0,0,0,0,0,2,1,0,0,2,1,2,2,2,2]),(p4 [1,1,1]),(p4 [1,1,1]),(p4 [0,0,0,0,0,0,2,1,0,0,2,1,2,2,2,2]),[pZ,pZ]],il:=[(0,(p8 false [0,2,2,1,7,2,164])),(2,(p8 false [0,2,2,1,7,2,164])),(4,(p8 false [0,2,2,1,7,2,164])),(6,(p8 false [0,2,2,1,7,2,164])),(8,(p8 false [0,2,2,1,7,2,164]))] }
def Z9:dw:={ ops:=[[],[{},pZ],(p4 [1,1,1]),[],[{},pZ],(p4 [1,1,1]),(p4 [1,1,1]),[pZ,pZ,pZ,{ cC:=[false,true] },pZ,p5,pZ]] }
def Z_:dw:={ ops:=[[],[{},pZ],(p4 [1,1,1]),[],[{},pZ],(p4 [1,1,1]),(p4 [1,1,1]),[{},pZ],(p4 [1,1,1]),(p4 [1,1,1]),[pZ,pZ,pZ,{ cC:=[false,true] },pZ,p5,pZ]] }
def SM:dw:={ ops:=[[],[pZ,pZ,{ mode:=3 },pZ,pZ]] }
def Pl:dw:={ ops:=[[],[{},pZ],[],[{},pZ],[{},{},{},p5,pZ,{ mode:=6 }],[pZ,pZ],[pZ,pZ],[]],il:=[(0,(p8 false [0,2,5,2,10]))] }
def Jt:dw:={ ops:=[[pZ],[pZ],[pZ],[{ mode:=1 },pZ,pZ,p5,{ cC:=[true,true],mode:=1 }],[{ cC:=[true],mode:=1 },pZ]] }
def SN:dw:={ ops:=[[],[],(p4 [0,0,2,1]),[{},pZ],[pZ,pZ,pZ,{ cC:=[false,true,true,true],mode:=1 }],[{},pZ],[pZ,pZ,pZ,{ cC:=[false,true,true,true],mode:=1 }],[{},pZ],[{},{},{},{ cC:=[false,true,true,true],mode:=1 }],(p4 [1,1,1]),[{},{},{},{ cC:=[false,true,true,true],mode:=1 },pZ,{},pZ,pZ,pZ],[{},pZ],[{},{},{},{ cC:=[false,true,true,true],mode:=1 }],(p4 [0,1,1,0,2,2,1]),[],(p4 [0,1,0,2,1,1,1,2]),[{},{},{},{ cC:=[false,true,true,true],mode:=1 }],[{},pZ,pZ,{},{},pZ,p5,pZ,{},{},p5,pZ,{ mode:=3 },pZ,{ cC:=[false,true] }],[{},pZ,{},pZ,{ cC:=[false,true,true,true,true],mode:=1 },pZ],[pZ,pZ],[{},{},{},pZ,{ cC:=[false,true,true,true,true],mode:=1 },pZ,{},pZ,pZ,pZ],[pZ,pZ],(p4 [0,0,2,0,0,2,1,1]),(p4 [1,1,1]),(p4 [0,0,2]),(p4 [1,1,2,1]),[{},pZ,{},{},{ cC:=[false,true,true,true,true],mode:=1 }],(p4 [1,1,1]),(p4 [1,1,2,1]),[{},{},pZ,pZ,{},{ cC:=[false,true,true,true,true],mode:=1 }],[pZ,pZ]],il:=[(0,(p8 false [0,4,4,2,124]))] }
def Zp:dw:={ ops:=[[pZ,pZ],[{},{ cC:=[false,true] },pZ,pZ],(p4 [0,0,2]),[{},pZ,{},p5,pZ,{},{},{},{},p5,p5,pZ,{},{},{},p5,pZ,p5,pZ,{ mode:=6 },pZ,{ cC:=[false,true] }],(p4 [1,1,1]),[{},{},{},{},p5,p5,pZ,{},{},{},p5,p5,pZ,{ mode:=6 },pZ,pZ],(p4 [0,0,0,2,0,0,0,2,0,0,0,2,2,1,0,0,0,2,2,1,2,2,2,2]),[pZ,pZ]],il:=[(0,(p8 false [0,1,1,3,5,1,71]))] }
def Zq:dw:={ ops:=[[],[pZ,pZ,{ mode:=3 },{ cC:=[false,true] },pZ]] }
def Zr:dw:={ ops:=[[],(p4 [0,0,1,0,1,1,1,2,0,2]),(p4 [0,0,1,0,1,1,1,2,0,2]),(p4 [0,0,1,0,1,1,1,2,0,2]),(p4 [1,1,1,1])] }
def Zs:dw:={ ops:=[[],[pZ,{},pZ,{},pZ,pZ,pZ,pZ,{ cC:=[false,true,true,true,true,true,true],mode:=1 },pZ]] }
def Zt:dw:={ ops:=[[],[{},pZ,pZ,{},{},{ cC:=[false,true,true,true,true,true],mode:=1 },pZ,{},pZ,pZ,pZ],[{},pZ,pZ,{},{},{ cC:=[false,true,true,true,true,true],mode:=1 },pZ,{},pZ,pZ,pZ],[pZ,pZ,pZ,pZ,pZ,{ cC:=[false,true,true,true,true,true],mode:=1 },pZ,{},pZ,pZ,pZ],[pZ,pZ]] }
def Pm:dw:={ ops:=[[],[{},pZ],[],[{},pZ],(p4 [0,0,0,2,1,2]),[pZ,pZ],[pZ,pZ],[]],il:=[(0,(p8 false [0,2,5,2,10]))] }
def SQ:dw:={ ops:=[(p4 [0,1,1]),(p4 [0,0,2]),(p4 [1,1,1]),[{},pZ],[{},{},p5,pZ,{},{},p5,pZ,{},{},pZ,p5,pZ,{ mode:=3 },{ cC:=[false,true] }],(p4 [1,1,1]),(p4 [0,0,0,0,1,0,0,1,2,1,0,0,2,1,2,2,2,2])],il:=[(0,(p8 false [0,3,3,1,42])),(2,(p8 false [0,3,3,2,41]))] }
def Zu:dw:={ ops:=[[{},pZ],[],(p4 [1,1,2,1]),(p4 [0,1,1,1]),[{},pZ],(p4 [1,1,1]),[{},{},{},{},{ cC:=[false,true,true,true,true],mode:=1 }],(p4 [1,1,1]),[{},pZ],(p4 [1,1,1]),(p4 [0,0,0,0,0,2,0,0,0,2,2,1,0,0,2,1,2,2,2,2]),[{},{},{},{},{ cC:=[false,true,true,true,true],mode:=1 }]],il:=[(0,(p8 false [0,1,5,4,46])),(2,(p8 false [0,1,5,2,2,1,45]))] }
def Zv:dw:={ ops:=[(p4 [1,0,2,1]),[{},pZ],[{},pZ,{},{ cC:=[false,true] }],[{},{ mode:=3 },pZ],(p4 [0,0,1,1,2,1,1]),(p4 [0,0,0,1,1,2,1,2]),(p4 [1,1,1]),[{ mode:=1 },{},pZ,p5,pZ,pZ],(p4 [0,0,2]),(p4 [1,0,2,1]),(p4 [0,0,0,0,0,2,0,0,0,2,2,1,0,0,2,1,2,2,2,2])],il:=[(0,(p8 false [0,2,4,4,55]))] }
def Zw:dw:={ ops:=[[],(p4 [1,0,2,1]),[],(p4 [0,0,1,1,2,1]),(p4 [0,0,1,1,2,1]),(p4 [1,0,1,1,2,1]),[{},pZ],[pZ,pZ],[{},pZ,{ cC:=[false,true,true],mode:=1 },pZ],[{},pZ,{ cC:=[false,true,true],mode:=1 },pZ],[{},pZ,{ cC:=[false,true,true],mode:=1 },pZ],[pZ,pZ,pZ,pZ,{ cC:=[false,true,true,true,true],mode:=1 },pZ],[pZ],[pZ,pZ],[{},pZ],[pZ,pZ],[pZ,pZ],[pZ,pZ]] }
def Zx:dw:={ ops:=[[pZ,pZ],(p4 [1,1,1]),(p4 [0,0,2]),(p4 [0,0,0,0,0,0,2,1,0,0,2,1,2,2,2,2]),(p4 [1,1,1]),(p4 [1,1,1])],il:=[(0,(p8 false [0,1,5,2,24]))] }
def Zy:dw:={ ops:=[[],(p4 [0,1,1]),[],[{},pZ],(p4 [1,1,1]),[{},{},p5,pZ,{},{},p5,pZ,{},{},pZ,p5,pZ,{ mode:=3 },pZ,{ cC:=[false,true] }],(p4 [1,1,1]),(p4 [0,0,2]),[],(p4 [0,0,2,1]),[],(p4 [0,0,0,0,1,0,0,1,2,1,0,0,2,1,2,2,2,2]),(p4 [0,0,2,1]),(p4 [0,1,1]),[{},pZ],(p4 [1,1,1]),[{},{},p5,pZ,{},{},pZ,p5,pZ,{ mode:=3 },pZ],(p4 [0,0,0,0,1,0,0,1,2,1,0,0,2,1,2,2,2,2]),(p4 [0,0,2,1]),(p4 [0,1,1]),(p4 [0,0,2]),(p4 [1,1,1]),[{},{},p5,pZ,{},{},pZ,p5,pZ,{ mode:=3 },pZ],(p4 [0,0,0,0,1,0,0,1,2,1,0,0,2,1,2,2,2,2]),[]],il:=[(0,(p8 false [0,3,4,2,124])),(2,(p8 false [0,3,4,2,124])),(4,(p8 false [0,3,4,3,123])),(6,(p8 false [0,3,4,2,1,1,122]))] }
def SR:dw:={ ops:=[[],[{},{ mode:=3 },pZ,{},{ mode:=3 },pZ,p5,pZ,pZ,pZ,p5,{ cC:=[true,false,true] },pZ]] }
def Zz:dw:={ ops:=[[],(p4 [0,0,0,0,0,0,2,1,0,0,2,1,2,2,2,2]),(p4 [0,1,1,1,1,1]),[{},{},p5,pZ,{},{},p5,pZ,{},{},p5,pZ,{ mode:=3 },pZ,{ cC:=[false,true] }],(p4 [1,1,1]),[{},{},p5,pZ,{},{},p5,pZ,{},{},p5,pZ,{ mode:=3 },{ cC:=[false,true] }],(p4 [1,1,1]),(p4 [0,0,2]),(p4 [0,0,0,0,0,0,2,1,0,0,2,1,2,2,2,2]),(p4 [1,1,1]),(p4 [1,1,1]),[pZ,pZ]],il:=[(0,(p8 false [0,2,7,2,73])),(2,(p8 false [0,2,7,2,73])),(4,(p8 false [0,2,7,2,73]))] }
def ZA:dw:={ ops:=[[],(p4 [0,0,0,0,0,0,2,1,0,0,2,1,2,2,2,2]),(p4 [0,1,1,1,1,1]),[{},{},p5,pZ,{},{},p5,pZ,{},{},p5,pZ,{ mode:=3 },{ cC:=[false,true] }],(p4 [1,1,1]),[{},{},p5,pZ,{},{},p5,pZ,{},{},p5,pZ,{ mode:=3 },pZ,{ cC:=[false,true] }],(p4 [1,1,1]),(p4 [0,0,2]),(p4 [0,0,0,0,0,0,2,1,0,0,2,1,2,2,2,2]),[pZ,pZ],(p4 [0,0,0,0,0,0,2,1,0,0,2,1,2,2,2,2]),(p4 [1,1,1]),(p4 [1,1,1]),[{},{},p5,pZ,{},{},p5,pZ,{},{},p5,pZ,{ mode:=3 },{ cC:=[false,true] }],(p4 [1,1,1]),[{},{},p5,pZ,{},{},p5,pZ,{},{},p5,pZ,{ mode:=3 },pZ,{ cC:=[false,true] }],(p4 [1,1,1]),(p4 [0,0,2]),(p4 [0,0,0,0,0,0,2,1,0,0,2,1,2,2,2,2]),(p4 [1,1,1]),(p4 [1,1,1]),(p4 [0,0,0,0,0,0,2,1,0,0,2,1,2,2,2,2]),[pZ,pZ]],il:=[(0,(p8 false [0,2,8,2,156])),(2,(p8 false [0,2,8,2,156])),(4,(p8 false [0,2,8,2,156])),(6,(p8 false [0,2,8,2,156])),(8,(p8 false [0,2,8,2,156]))] }
def ZB:dw:={ ops:=[[],[pZ,{},{},p5,pZ,{},{},p5,pZ,{ mode:=6 },pZ],(p4 [1,0,1,1,1,2]),(p4 [1,1,1,1]),(p4 [1,1,1,1])] }
def ZC:dw:={ ops:=[[pZ,pZ],[{},{ cC:=[false,true] },pZ,pZ],(p4 [0,0,2]),[{},pZ,{},p5,pZ,{},{},{},p5,p5,pZ,{},{},{},p5,pZ,p5,pZ,{ mode:=3 },{ cC:=[false,true] }],(p4 [1,1,1]),[{},{},{},p5,p5,pZ,{},{},{},p5,p5,pZ,{ mode:=3 },pZ],(p4 [0,0,0,2,0,0,0,2,0,0,0,2,2,1,0,0,0,2,2,1,2,2,2,2]),[pZ,pZ]],il:=[(0,(p8 false [0,1,1,2,4,1,67]))] }
def ZD:dw:={ ops:=[[],[pZ,{},pZ,{},pZ,pZ,pZ,{ cC:=[false,true,true,true,true,true],mode:=1 },pZ]] }
def ZE:dw:={ ops:=[[],[{},pZ,pZ,{},{ cC:=[false,true,true,true,true],mode:=1 },pZ,{},pZ,pZ,pZ],[{},pZ,pZ,{},{ cC:=[false,true,true,true,true],mode:=1 },pZ,{},pZ,pZ,pZ],[pZ,pZ,pZ,pZ,{ cC:=[false,true,true,true,true],mode:=1 },pZ,{},pZ,pZ,pZ],[pZ,pZ]] }
def SU:dw:={ ops:=[[],(p4 [0,1,2,1])] }
def ZF:dw:={ ops:=[[],[{},{},p5,pZ,{},{},p5,pZ,{ mode:=3 }],(p4 [1,0,1,1,1,2]),(p4 [1,1,1,1]),(p4 [1,1,1,1])] }
def Z':List dw:=[{},{},ZJ,ZM,ZO,ZR,ZT,Py,ZY,Z1,SL,SP,SS,ZG,SV,ZH,Ju,ZI,Pn,SW,Po,SX,ZK,Nr,Jv,ZL,SY,SZ,Mn,S1,S2,ZN,Pp,S3,S4,S5,S6,S7,S8,Pq,J9,S9,S_,Ta,Pr,Tb,Ns,ZP,ZQ,Tc,Td,Te,Ps,Tf,Pt,ZS,Tg,KD,Th,Ti,Lq,ZU,Pu,Tj,Pv,Pw,Px,Tk,Tl,Jw,Tm,J_,Pz,Tn,Tp,ZV,ZW,Tq,Tr,ZX,PA,KE,Ts,ZZ,Tt,Tu,Tv,Tw,PB,Z0,Tx,Z2,Z3,Z4,Z5,Z6,Z7,Z8,Z9,Z_,SM,Pl,Jt,SN,Zp,Zq,Zr,Zs,Zt,Pm,SQ,Zu,Zv,Zw,Zx,Zy,SR,Zz,ZA,ZB,ZC,ZD,ZE,SU,ZF,{},{},{},{},{},{},{},{},{},{},{},{},{},{},{},{}]
def jD (k:FuncId):dw:=Z'.getD k {}
end Go.Proofs.YtkoioidpbbbaiaaGreat.Ab


namespace Go.Proofs.YtkoioidpbbbaiaaGreat.Ab
open Go
end Go.Proofs.YtkoioidpbbbaiaaGreat.Ab


namespace Go.Proofs.YtkoioidpbbbaiaaGreat.Ab
open Go
end Go.Proofs.YtkoioidpbbbaiaaGreat.Ab


namespace Go.Proofs.YtkoioidpbbbaiaaGreat.Ab
open Go
theorem eG:Go.Proofs.Tryz.prog.follows .mixedOrders=true:=by kernel_rfl
abbrev qx (k:FuncId) (args:List I) (v:I):Prop:=nn Go.Proofs.Tryz.prog k args v
abbrev h0 (n:Int):I:=.int .i64 n
abbrev Hk:I:=.a0
abbrev B (b:Bool):I:=.bool b
def oX (l:List Int):I:=.av (l.map h0) l.length .shared
def jx (l:List (List Int)):I:=.av (l.map oX) l.length .shared
theorem VP (d:Nat) (l:List Int):(l.map h0).all (cr (d+1))=true:=by
 rw [sm];intro u hu;obtain ⟨x,_,rfl⟩:=sD.1 hu;rfl
theorem VO (d:Nat) (l:List Int):cr (d+2) (oX l)=true:=VP d l
theorem QQ (d:Nat) (l:List (List Int)):(l.map oX).all (cr (d+2))=true:=by
 rw [sm];intro u hu;obtain ⟨x,_,rfl⟩:=sD.1 hu;exact VO d x
theorem aeL (d:Nat) (l:List (List Int)):cr (d+3) (jx l)=true:=QQ d l
theorem LK (k:IntKind) (n:Int):cr 8 (.int k n)=true:=rfl
theorem LS (b:Bool):cr 8 (.bool b)=true:=rfl
theorem LL (l:List Int) (n:Nat) (c:hE):cr 8 (.av (l.map h0) n c)=true:=VP 6 l
theorem LN (l:List (List Int)) (n:Nat) (c:hE):cr 8 (.av (l.map oX) n c)=true:=QQ 5 l
theorem LM (l:List Int):cr 8 (oX l)=true:=VO 6 l
theorem LO (l:List (List Int)):cr 8 (jx l)=true:=aeL 5 l
theorem LU (k:FuncId):cr 8 (.func k [] [])=true:=rfl
theorem LV (n:Nat) (c:hE):cr 8 (.av [] n c)=true:=rfl
theorem JW (l:List (List Int)) (n:Nat) (c:hE):cr 8 (.agg [.av (l.map oX) n c])=true:=by
 show [I.av (l.map oX) n c].all (cr 7)=true;rw [tz,tY,tt];exact QQ 4 l
theorem LP (l:List (List Int)):cr 8 (.agg [jx l])=true:=JW l _ _
theorem LQ (l:List (List Int)):cr 8 (.bS [jx l])=true:=JW l _ _
theorem LR (l:List (List Int)) (n:Nat) (c:hE):cr 8 (.bS [.av (l.map oX) n c])=true:=JW l _ _
theorem OE (i:Nat) (h:i≤9223372036854775806):IntKind.i64.wrap ((i:Int)+1)=((i+1:Nat):Int):=by rw [IntKind.wrap_i64];omega
theorem rY (n:Int) (ab:-9223372036854775808≤n) (ae:n≤9223372036854775807):IntKind.i64.wrap n=n:=by rw [IntKind.wrap_i64];omega
theorem VN:∀ {d:Nat} {v:I},cr d v=true→cr (d+1) v=true
 | 0,v,h=>by simp [cr] at h
 | d+1,v,h=>by
   have key:∀ {l:List I},l.all (cr d)=true→l.all (cr (d+1))=true:=fun h=>by
    rw [sm] at h ⊢;exact fun u hu=>VN (h u hu)
   cases v <;> simp only [cr,sn,tO] at h ⊢ <;> first | trivial | exact key h | exact ⟨key h.1,key h.2⟩
theorem Hm {p:Prop} [Decidable p] {A C:Prop} (ab:p→A) (ae:¬ p→C):(match decide p with | true=>A | false=>C):=by
 by_cases h:p
 ·simp only [h,decide_true];exact ab h
 ·simp only [h,decide_false];exact ae h
theorem Hf {k:FuncId} {xs:List I} {v:I}:∀ p∈([]:c7),p.1=k→p.2.1=xs→p.2.2=v:=fun _ h=>by simp at h
theorem BS {k k':FuncId} {xs ys:List I} {v bo:I} (h:k'=k→ys=xs→bo=v):∀ p∈([(k',ys,bo)]:c7),p.1=k→p.2.1=xs→p.2.2=v:=fun p aB=>by
 simp only [List.mem_singleton] at aB;subst aB;exact h
theorem Ib {k:FuncId} {xs:List I} {v:I} {acc:c7} (h:acc.all (fun p=>p.1 != k)=true):∀ p∈acc,p.1=k→p.2.1=xs→p.2.2=v:=fun p aB e=>by
 have:=sm.1 h p aB;simp [e] at this
def HA (cap:List I):Prop:=cap.all (cr 7)=true∧∀ u∈cap,∃ cs,u=.bS cs
theorem HA.SI {cap:List I} (h:HA cap):cap.all (cr 8)=true:=by
 have ab:=h.1;rw [sm] at ab ⊢;exact fun u hu=>VN (ab u hu)
theorem HA.iD {cap:List I} (h:HA cap) (H:List ar):cap.map (iD H)=cap:=by
 conv=>rhs;rw [←uS cap]
 apply tI;intro u hu;obtain ⟨cs,rfl⟩:=h.2 u hu;rfl
theorem HA.hW {cap:List I} (h:HA cap) (H:List ar):cap.map (hW H)=cap:=by
 conv=>rhs;rw [←uS cap]
 apply tI;intro u hu;obtain ⟨cs,rfl⟩:=h.2 u hu;rfl
theorem HA.cc {cap:List I} (h:HA cap):cap.map I.cc=cap:=by
 conv=>rhs;rw [←uS cap]
 apply tI;intro u hu;obtain ⟨cs,rfl⟩:=h.2 u hu;rfl
theorem HA.fn {cap:List I} (h:HA cap) (H:List ar) (k:FuncId):Ab.iD H (.func k [] cap)=.func k [] cap:=by
 simp only [Ab.iD,h.hW,uz]
theorem HA.VI {cap:List I} (h:HA cap) (k:FuncId):cr 8 (.func k [] cap)=true:=by
 show (([]:List I).all (cr 7) && cap.all (cr 7))=true;rw [h.1];rfl
theorem HA.nil:HA []:=⟨rfl,by simp⟩
section
variable {P:Program}
theorem call6 {k:FuncId} {xs bs:List I} {H:List ar} {lo:Nat} {v:I} (af:(xs.map (iD H)).map I.cc=bs) (aB:(xs.map (iD H)).all (cr 8)=true) (h:nn P k bs v) (ah:fz v=true):oV P 6 lo (.fn k) xs H v.cc H:=by
 subst af;refine ⟨k9 (.fn k) ((xs.map (iD H)).map I.cc) [] 0 v [],EB h.1,?_⟩;simp only [eQ,aB,EA,sb,yW h.2,ah]
end
theorem T6 {H:List ar} {id d:Nat} {l:List I} (h:H[id]?=some (.cells l)) (aB:(l.map I.view).all (cr d)=true):bM H 0 H.length 0 (d+1) (.ptr id 0)=some (.bS (l.map I.view)):=by
 have ab:=(sa.1 h).1;have ae:ea (bM H 0 H.length 0 d) (l.map I.view)=some (l.map I.view):=zU fun u hu=>yW (by rw [sm] at aB;exact aB u hu);simp only [bM,Nat.not_lt_zero,if_false,h,tq,ae,se];rw [if_neg (by omega)]
end Go.Proofs.YtkoioidpbbbaiaaGreat.Ab


namespace Go.Proofs.YtkoioidpbbbaiaaGreat.Ab
open Go
section
variable {P:Program}
theorem TZ (eG:P.follows .mixedOrders=true) {k:Nat} {A:dw} {rc:gE} {n:Nat} {ts:List Ia} (ao:ql P A k=some (rc,n,ts)) {lo:Nat} {args T:List I} {H H':List ar} (b0:args++List.replicate (n-args.length) .a0=T) {v:I} (JQ:a' lo H H')
  (h:dQ P A k lo none rc T H fun e g6 H1=>(e=.normal∨e=.ret)∧lI H1 H'∧(rK H1 g6 ts).map jg=some v):Sem P (.fn k) args H lo v H':=by
 unfold ql at ao;split at ao
 ·rename_i f aP;split at ao
  ·rename_i c af;split at ao
   ·rename_i V9 Oy ab ae aF ba;simp only [Option.some.injEq,Prod.mk.injEq] at ao;obtain ⟨rfl,rfl,rfl⟩:=ao;subst b0;refine Hb eG aP af (by simpa using ae) ab JQ (oR (fun e s a_=>?_) (G6 aF h));obtain ⟨cf,ca,eS⟩:=a_;simp only [Option.map_eq_some_iff] at eS;obtain ⟨vs,eS,iP⟩:=eS;exact ⟨cf,ca,vs,by rw [MW _ _ ba,eS],iP⟩
   ·cases ao
  ·cases ao
 ·cases ao
end
theorem rn {P:Program} (eG:P.follows .mixedOrders=true) {k:Nat} {A:dw} {rc:gE} {n:Nat} {ts:List Ia} (ao:ql P A k=some (rc,n,ts)) {lo:Nat} {args T:List I} {H H':List ar} (b0:args++List.replicate (n-args.length) .a0=T) {v:I} (JQ:a' lo H H')
  (h:∀ Q:cQ→List I→List ar→Prop,(∀ e g6 H1,(e=.normal∨e=.ret)∧lI H1 H'∧(rK H1 g6 ts).map jg=some v→Q e g6 H1)→dQ P A k lo none rc T H Q):Sem P (.fn k) args H lo v H' :=
 TZ eG ao b0 JQ (h _ fun _ _ _ h=>h)
theorem NC {P:Program} (eG:P.follows .mixedOrders=true) {k:Nat} {A:dw} {rc:gE} {n:Nat} {ts:List Ia} (ao:ql P A k=some (rc,n,ts)) {args T:List I} (b0:args++List.replicate (n-args.length) .a0=T) {v:I} (aB:cr 8 v=true)
  (h:∀ Q:cQ→List I→List ar→Prop,(∀ e g6 H1,Mk ts v e g6 H1→Q e g6 H1)→dQ P A k 0 none rc T [] Q):nn P k args v :=
 PY eG ao b0 aB (h _ fun _ _ _ h=>h)
theorem rj {P:Program} {lo:Nat} {bY:fc} {xs:List I} {H H':List ar} {v:I} (h:Sem P bY xs H lo v H'):oV P 1 lo bY xs H v H' :=
 ⟨k9 bY xs H lo v H',EB h,by simp only [eQ,EA]⟩
theorem Xb {P:Program} {k:FuncId} {args:List I} {v:I} (cu:args.all (cr 8)=true) (h:nn P k args v) (H:List ar):Sem P (.fn k) args H H.length v H:=by
 obtain ⟨⟨_,ab,ae⟩,aB⟩:=h
 exact ⟨a'.refl _ _,ab,fun B aa J S w vs ag aI ad=>CallsIn.mono (ae B _ [] S w vs (w6 ag) (fun b i h=>by obtain ⟨_,_,h⟩:=kt h;cases h) (ad.pure cu)) fun e w' he=>by
  cases e with
  | returned v=>exact xH ag (yW (n:=0) aB) he
  | panicked c=>exact he.elim
  | outgrown=>exact he.elim⟩
theorem Mo {P:Program} {k:FuncId} {args:List I} {v:I} (cu:args.all (cr 8)=true) (h:nn P k args v) (H:List ar) (lo:Nat):oV P 0 lo (.fn k) args H v H :=
 ⟨_,EB (Xb cu h H),by simp only [eQ,EA,sb,yW h.2,se]⟩
theorem Ug {X Z:List ar} {j:Nat} {o:ar} (h:X[j]?=some o):(X++Z)[j]?=some o:=by
 rw [sg (sa.1 h).1];exact h
theorem HR (X:List ar) (c dU:ar):(X++[c]).set X.length dU=X++[dU]:=by simp
theorem IK (X:List ar) (c:ar):(X++[c])[X.length]?=some c:=by simp
end Go.Proofs.YtkoioidpbbbaiaaGreat.Ab


namespace Go.Proofs.YtkoioidpbbbaiaaGreat.Ab
open Go
def qi:Nat:=18446744073709551616
def qs (p:Prop) [Decidable p] {aV:Type} (k:Option aV):Option aV:=if p then k else none
theorem rM {p:Prop} [Decidable p] {aV:Type} {k:Option aV} {v:aV} (h:qs p k=some v):p∧k=some v:=by
 unfold qs at h;split at h
 ·exact ⟨by assumption,h⟩
 ·cases h
theorem qB {p:Prop} [Decidable p] {aV:Type} {k:Option aV} (h:p):qs p k=k:=if_pos h
theorem p' {α aV:Type} {x:Option α} {f:α→Option aV} {v:aV} (h:x.bind f=some v):∃ a,x=some a∧f a=some v:=by
 cases x with
 | none=>cases h
 | some a=>exact ⟨a,rfl,h⟩
theorem Hp {b:Bool} {aV:Type} {x y:Option aV} {v:aV} (af:b=true) (h:(if b=true then x else y)=some v):x=some v:=by
 rw [if_pos af] at h;exact h
theorem Ho {b:Bool} {aV:Type} {x y:Option aV} {v:aV} (af:b=false) (h:(if b=true then x else y)=some v):y=some v:=by
 rw [if_neg (by rw [af];decide)] at h;exact h
def ix {α:Type} [Inhabited α] (l:List α) (i:Int):α:=l.getD i.toNat default
theorem ru {α:Type} [Inhabited α] {l:List α} {k:Nat} (h:k<l.length):ix l (k:Int)=l[k]:=by
 simp [ix,h]
theorem NQ {α:Type} [Inhabited α] {l:List α} {i:Int} (h:0≤i∧i<(l.length:Int)):ix l i=l[i.toNat]'(by omega):=by
 have:i.toNat<l.length:=by omega
 simp [ix,this]
theorem Je {α:Type} [Inhabited α] {l:List α} {i:Int} (h:0≤i∧i<(l.length:Int)):ix l i∈l:=by
 rw [NQ h];exact List.getElem_mem _
abbrev w (n:Int):Int:=IntKind.i64.wrap n
theorem agU {n:Int} (ab:-9223372036854775808≤n) (ae:n≤9223372036854775807):w n=n:=rY n ab ae
theorem rT {aV:Type} {v:aV} {G:Prop} (h:(none:Option aV)=some v):G:=by cases h
def Zg {α:Type} (f:α→I) (l:List α):I:=.av (l.map f) l.length .shared
def Zh {α:Type} (f:α→List I) (l:List α):I:=.av (l.flatMap f) l.length .shared
theorem rb {α:Type} [Inhabited α] (f:α→I) (l:List α) (n:Int) (h:0≤n∧n<(l.length:Int)):(l.map f).drop (n.toNat*1)=f (ix l n)::(l.drop (n.toNat+1)).map f:=by
 have aX:n.toNat<l.length:=by omega
 rw [tn,←tG,s0 aX,sG,NQ h]
theorem IZ {α:Type} [Inhabited α] (f:α→List I) (s:Nat) (ah:∀ x,(f x).length=s):∀ (l:List α) (n:Int),0≤n∧n<(l.length:Int)→(l.flatMap f).drop (n.toNat*s)=f (ix l n)++(l.drop (n.toNat+1)).flatMap f:=by
 have key:∀ (l:List α) (k:Nat) (h:k<l.length),(l.flatMap f).drop (k*s)=f l[k]++(l.drop (k+1)).flatMap f:=by
  intro l
  induction l with
  | nil=>intro k h;simp at h
  | cons x l a8 =>
    intro k h;cases k with
    | zero=>simp
    | succ k =>
      (have al:k<l.length:=by simpa using h);(have e:(k+1)*s=(f x).length+k*s:=by rw [ah,tb,Nat.one_mul,tg]);rw [uA,e,List.drop_length_add_append,a8 k al];rfl
 intro l n h;rw [key l n.toNat (by omega),NQ h]
theorem HZ {α:Type} (f:α→List I) (s:Nat) (ah:∀ x,(f x).length=s) (l:List α):(l.flatMap f).length=l.length*s:=by
 induction l with
 | nil=>simp
 | cons x l a8=>rw [uA,sA,a8,ah,sK,tb,Nat.one_mul,tg]
theorem Tz {α:Type} (f:α→I) (l m:List α) (c:hE):I.av (l.map f++m.map f) (l.length+m.length) c=.av ((l++m).map f) (l++m).length c:=by
 rw [sP,sA]
theorem PC {α:Type} (f:α→I) (l:List α) (x:α) (c:hE):I.av (l.map f++[f x]) (l.length+1) c=.av ((l++[x]).map f) (l++[x]).length c:=by
 rw [sP,sA];rfl
theorem TA {α:Type} (f:α→List I) (l:List α) (x:α) (c:hE):I.av (l.flatMap f++f x) (l.length+1) c=.av ((l++[x]).flatMap f) (l++[x]).length c:=by
 simp [List.flatMap_append]
theorem Xj {α:Type} (f:α→I) (l:List α) (n:Int) (h:0≤n∧n≤(l.length:Int)) (c:hE):I.av (((l.map f).drop (n.toNat*1)).take ((l.length-n.toNat)*1)) (l.length-n.toNat) c=.av ((l.drop n.toNat).map f) (l.drop n.toNat).length c:=by
 rw [tn,tn,List.length_drop,←tG,te (by simp)]
theorem RT {α:Type} (f:α→I) (l:List α) (n:Int) (h:0≤n∧n≤(l.length:Int)) (c:hE):I.av ((l.map f).take (n.toNat*1)) n.toNat c=.av ((l.take n.toNat).map f) (l.take n.toNat).length c:=by
 rw [tn,s9,←List.map_take,Nat.min_eq_left (by omega)]
theorem SK {a b:Bool} (h:a=true) (k:b=true):(a && b)=true:=by rw [h,k];rfl
theorem p6 {α:Type} {f:α→Bool} {x:α} {l:List α} (h:f x=true) (k:l.all f=true):(x::l).all f=true:=SK h k
theorem HU {cs:List I} {d:Nat} (h:cs.all (cr d)=true):cr (d+1) (.agg cs)=true:=h
theorem Ig {cs:List I} {d:Nat} (h:cs.all (cr d)=true):cr (d+1) (.bS cs)=true:=h
theorem I4 {cs:List I} {d:Nat} (h:cs.all (cr d)=true):cr (d+1) (.tuple cs)=true:=h
theorem IP {k:FuncId} {a b:List I} {d:Nat} (ab:a.all (cr d)=true) (ae:b.all (cr d)=true):cr (d+1) (.func k a b)=true:=SK ab ae
theorem rC {α:Type} {f:α→I} {d:Nat} (h:∀ x,cr d (f x)=true) (l:List α) (n:Nat) (c:hE):cr (d+1) (.av (l.map f) n c)=true:=by
 show (l.map f).all (cr d)=true;rw [sm];intro u hu;obtain ⟨x,_,rfl⟩:=sD.1 hu;exact h x
theorem Hy {α:Type} {f:α→List I} {d:Nat} (h:∀ x,(f x).all (cr d)=true) (l:List α) (n:Nat) (c:hE):cr (d+1) (.av (l.flatMap f) n c)=true:=by
 show (l.flatMap f).all (cr d)=true;rw [sm];intro u hu;obtain ⟨x,_,aj⟩:=tJ.1 hu;exact sm.1 (h x) u aj
theorem VM {α:Type} {f:α→I} {d:Nat} (h:∀ x,cr d (f x)=true) (l:List α):(l.map f).all (cr d)=true:=by
 rw [sm];intro u hu;obtain ⟨x,_,rfl⟩:=sD.1 hu;exact h x
theorem nn.cc {P:Program} {k:FuncId} {args:List I} {v:I} (h:nn P k args v) (aB:cr 8 v.cc=true):nn P k args v.cc :=
 ⟨⟨h.1.1,h.1.2.1,fun B aa J S w vs ag aI ad=>CallsIn.mono (h.1.2.2 B aa J S w vs ag aI ad) fun e w' he=>by
   cases e with
   | returned x=>exact aZ.cc he
   | panicked c=>exact he.elim
   | outgrown=>exact he.elim⟩,aB⟩
section
variable {P:Program} {B:Nat} {J:List Nat} {w:World} {aa:Nat→Option aH} {S:Nat→Nat→Prop}
theorem aZ.agV {H':List ar} {r:I} {v:Value} {w':World} (h:aZ B aa J S w H' r v w'):aZ B aa J S w H' r.settle.view.cc v w':=by
 have ab:aZ B aa J S w H' r.settle v w':=by
  cases r with
  | av c n k=>cases k with
    | uniq z=>exact h.settle
    | _=>exact h
  | _=>exact h
 have ae:r.settle.cW=true:=by
  cases r with
  | av c n k=>cases k <;> rfl
  | _=>rfl
 obtain ⟨bu,ck,bL,a,b,c,d,e⟩:=ab;exact aZ.cc ⟨bu,ck,bL,a,b,c,d.view ae,aU.b4 (I.dm _)⟩
theorem aeM (eG : P.follows .mixedOrders = true) {k : Nat} {f : Func} {c : Code} (aP : P.funcs[k]? = some f) (af : f.body = some c) (aI : f.name ≠ "runtime.NumGoroutine") {A : dw} (bT : codeOk A c = true)
  {args:List I} {v:I} (aB:cr 8 v=true)
  (h:dc P A k 0 none c 0 ⟨args++List.replicate (f.ntmps-args.length) .a0,[]⟩ fun e s=>(e=.normal∨e=.ret)∧∃ vs r,gX P s.H s.T f.results.toList=some vs∧bM s.H 0 s.H.length 0 8 (jg vs)=some r∧r.settle.view.cc=v):nn P k args v:=by
 refine ⟨⟨a'.refl _ _,⟨f,aP,by simp [af],aI⟩,fun B aa J S w xs ag _ ad=>?_⟩,aB⟩;refine callsIn_of_wp_marks aP af trivial ?_;have aL:=yd ag ad f.ntmps;have dB:=(oP ag).1;refine Bx eG c 0 _ _ h bT Fence.wide _ B w.heap.size J w (hY aa) S _ (.inl ⟨rfl,rfl⟩) (fun l a w aO=>aO.elim) aL fun e s al aM w' ah=>?_;obtain ⟨he,vs,r,ai,C0,eH⟩:=al;obtain ⟨b5,cZ,a4,aJ,aN,cg⟩:=ah;have iV:LeavesInM Fence.wide 0 P f aM.tmps (fZ B aa J S w [] v) aM.defers .returning w':=by
  refine n5 (aa:=b5) (S:=a4) (J:=cZ) (B:=B) (H:=s.H) (lH:=aa) (S0:=S) (w0:=w) aM.defers w' cg.M.2.1 cg.M.2.2 (dB.trans aN) cg.H fun bX dD dt mJ mK=>?_
  have b0:a5 .slot b5 cZ a4 bX s.T aM.tmps.toList:=⟨cg.T.len,fun i u v hu ad=>(cg.T.rel i u v hu ad).mono (Ext.refl _) (fun b o h=>⟨h,dt b o h⟩),fun i u v hu ad =>
   (cg.T.own i u v hu ad).mono (Ext.refl _) (fun b o h=>⟨h,dt b o h⟩) fun b af=>⟨af,dD b _ af,fun _ h=>h⟩⟩
  obtain ⟨x,q1,aW⟩:=xS mK b0 ai;have kQ:=xG ag (fun id aE=>by simp at aE) C0 (aZ.after aJ mJ aW);refine ⟨x,q1,?_⟩;rw [←eH];exact kQ.agV
 rcases he with rfl | rfl
 ·exact iV
 ·exact iV
end
inductive HC (rs:List Ia) (v:I) (e:cQ) (T:List I) (H:List ar):Prop where
 | mk (he:e=.normal∨e=.ret) (vs:List I) (ai:rK H T rs=some vs) (r:I) (aP:bM H 0 H.length 0 8 (jg vs)=some r) (ad:r.settle.view.cc=v)
theorem qK {P:Program} (eG:P.follows .mixedOrders=true) {k:Nat} {A:dw} {rc:gE} {n:Nat} {ts:List Ia} (ao:ql P A k=some (rc,n,ts)) {args T:List I} (b0:args++List.replicate (n-args.length) .a0=T) {v:I} (aB:cr 8 v=true)
  (h:∀ Q:cQ→List I→List ar→Prop,(∀ e T H,HC ts v e T H→Q e T H)→dQ P A k 0 none rc T [] Q):nn P k args v:=by
 have h:=h _ fun _ _ _ h=>h;unfold ql at ao;split at ao
 ·rename_i f aP;split at ao
  ·rename_i c af;split at ao
   ·rename_i V9 Oy ab ae aF ba;simp only [Option.some.injEq,Prod.mk.injEq] at ao;obtain ⟨rfl,rfl,rfl⟩:=ao;subst b0;have a_:∀ e s,HC Oy v e (a6.T s) (a6.H s)→(e=.normal∨e=.ret)∧∃ vs r,gX P s.H s.T f.results.toList=some vs∧bM s.H 0 s.H.length 0 8 (jg vs)=some r∧r.settle.view.cc=v:=fun e s ⟨cf,vs,P1,r,ca,eS⟩=>by
     exact ⟨cf,vs,r,by rw [MW _ _ ba,P1],ca,eS⟩
    exact aeM eG aP af (by simpa using ae) ab aB (oR a_ (G6 aF h))
   ·cases ao
  ·cases ao
 ·cases ao
theorem wp_loop {P:Program} {A:dw} {fn:FuncId} {lo:Nat} {rl:Option Nat} {cE:List Bool} {c:gE} {T SC:List I} {H:List ar} {Q:cQ→List I→List ar→Prop} (b0:eZ cE T=SC)
  (h:BH (fun T H Q=>ob T fun T=>dQ P A fn lo rl c T H fun e bf H'=>match e with
   | .normal=>xo (some cE) bf fun bf=>Q .normal bf H'
   | e=>Q e bf H') SC H Q):dQ P A fn lo rl (.loop (some cE) c) T H Q:=by
 show xo (some cE) T _;rw [DS];subst b0;exact h
def LH {α:Type} (f:α→List I):Option α→I
 | none=>.eI
 | some x=>.bS (f x)
theorem VL {α:Type} {f:α→List I} {d:Nat} (h:∀ x,(f x).all (cr d)=true) (x:Option α):cr (d+1) (LH f x)=true:=by
 cases x with
 | none=>rfl
 | some x=>exact h x
abbrev Js (n:Int):I:=.int .u8 n
theorem IB {f:I→Option I}:ea f []=some []:=rfl
theorem rv {f:I→Option I} {x y:I} {l r:List I} (h:f x=some y) (k:ea f l=some r):ea f (x::l)=some (y::r):=by simp only [ea,h,k,se]
theorem Mq {H:List ar} {lo i n d:Nat} {vs rs:List I} (h:ea (bM H lo i n d) vs=some rs):bM H lo i n (d+1) (.tuple vs)=some (.tuple rs):=by simp only [bM,h,se]
theorem af3 {α:Type} {f:α→I} {H:List ar} {id n:Nat} {l:List α} {cap:Option Nat} (ag:H[id]?=some (.cells (l.map f))) (aI:n=l.length) (ad:∀ x,(f x).view=f x):rowOf H (.ref id 0 n cap 1)=some (l.map f):=by
 subst aI;simp only [rowOf,ag,sy,tn,sY,sc,if_true,tq];rw [te (by simp),vr];congr 1;exact tI fun x _=>ad x
theorem PG {P:Program} {k:FuncId} {xs cs bs:List I} {H:List ar} {lo:Nat} {v:I} (ah:xs.map (iD H)=cs) (af:cs.map I.cc=bs) (aB:cs.all (cr 8)=true) (h:nn P k bs v) (ad:fz v=true):oV P 6 lo (.fn k) xs H v.cc H :=
 call6 (by rw [ah,af]) (by rw [ah];exact aB) h ad
theorem Kf {f:I→I} {x y:I} {l r:List I} (h:f x=y) (k:l.map f=r):(x::l).map f=y::r:=by rw [sG,h,k]
theorem MD {f:I→I}:([]:List I).map f=[]:=rfl
theorem agc {H:List ar} {k:FuncId} {a b aM au:List I} (ab:a.map (hW H)=aM) (ae:b.map (hW H)=au):iD H (.func k a b)=.func k aM au:=by simp only [iD,ab,ae]
theorem Xi {H:List ar} {id off:Nat} {cs fG:List I} (ag:H[id]?=some (.cells cs)) (he:((cs.drop off).map I.view).map (kh H)=fG):hW H (.ptr id off)=.bS fG:=by simp only [hW,ag,he]
theorem VD {P:Program} {C:b8} {lo mode:Nat} {o:Oper} {xs:Array Operand} {ts:Array TypeId} {vs:List I} {H:List ar} (aq:o.op=.call { callee:=.builtin .copy,args:=xs,argTypes:=ts }):a3 P C lo o mode vs H=j_ P lo ts H vs:=by
 unfold a3;rw [aq];rfl
def Ik {α J6:Type} (g:J6→α→Option J6):List α→J6→Option J6
 | [],s=>some s
 | x::l,s=>(g s x).bind fun t=>Ik g l t
theorem ND {α J6:Type} {g:J6→α→Option J6}:∀ {l:List α} {s t:J6},Ik g l s=some t→∃ F:Nat→J6,F 0=s∧F l.length=t∧∀ (i:Nat) (h:i<l.length),g (F i) l[i]=some (F (i+1))
 | [],s,t,h=>⟨fun _=>s,rfl,Option.some.inj h,fun i hi=>absurd hi (by simp)⟩
 | x::l,s,t,h=>by
   obtain ⟨u,ab,ae⟩:=p' h;obtain ⟨F,f1,f2,f3⟩:=ND ae;refine ⟨fun i=>match i with | 0=>s | i+1=>F i,rfl,f2,fun i hi=>?_⟩;cases i with
   | zero=>show g s x=some (F 0);rw [f1,ab]
   | succ i=>exact f3 i (by simpa using hi)
def Seq (P:Program) (k:FuncId) (cap:List I) (E:List I):Prop :=
 ∀ (l N:Nat) (qN:Nat→List ar),(∀ i,(qN i).length=N)→l<N →
   (∀ (i:Nat) (h:i<E.length) (Y:List ar),∃ qC,Sem P (.yield l) [E[i]] (qN i++Y) 0 (.bool true) (qN (i+1)++qC)) →
   ∀ Y,∃ qC,Sem P (.fn k) (.yield l::cap) (qN 0++Y) 0 (.tuple []) (qN E.length++qC)
theorem af_ {P:Program} {l:Nat} {qN:Nat→List ar} {E:List I} (ai:∀ (i:Nat) (h:i<E.length) (Y:List ar),∃ qC,Sem P (.yield l) [E[i]] (qN i++Y) 0 (.bool true) (qN (i+1)++qC)) (Y:List ar) :
  ∃ Z:Nat→List ar,Z 0=Y∧∀ (i:Nat) (h:i<E.length),Sem P (.yield l) [E[i]] (qN i++Z i) 0 (.bool true) (qN (i+1)++Z (i+1)):=by
 classical
 have nS:∀ (i:Nat) (Y:List ar),∃ qC,∀ h:i<E.length,Sem P (.yield l) [E[i]] (qN i++Y) 0 (.bool true) (qN (i+1)++qC):=fun i Y=>by
  by_cases h:i<E.length
  ·obtain ⟨qC,aX⟩:=ai i h Y;exact ⟨qC,fun _=>aX⟩
  ·exact ⟨[],fun aX=>absurd aX h⟩
 exact ⟨fun n=>Nat.rec Y (fun i Z=>Classical.choose (nS i Z)) n,rfl,fun i h=>uy (nS i _) h⟩
theorem IA {H X:List ar} (h:H.length≤X.length):a' 0 H X:=⟨h,fun _ h _=>absurd h (by omega)⟩
theorem Jk (X Y:List ar) (c d:ar):((X++[c])++Y).set X.length d=(X++[d])++Y:=by
 rw [sx,List.set_append_right _ _ (sc _)];simp
theorem Iw (X Y:List ar) (c:ar):((X++[c])++Y)[X.length]?=some c:=by
 rw [sx,ss (sc _)];simp
theorem af0 {α:Type} {P:Program} {A:dw} {fn:FuncId} {rl:Option Nat} {k:FuncId} {cap:List I} {bq:List Nat} {gH ct:Code} {T:List I} {H Hn:List ar} {Q:cQ→List I→List ar→Prop} {f:α→I} {L:List α} (Im:Seq P k cap (L.map f))
  (Obj:Nat→List ar) (aQ:Obj 0=H) (hlen:∀ i,(Obj i).length=H.length)
  (KP:∀ (i:Nat) (h:i<L.length) (Y:List ar),∃ qC,Sem P (.yield H.length) [f L[i]] ((Obj i++[.loop .ready none fn (T.map I.view) bq gH ct A])++Y) 0 (.bool true) ((Obj (i+1)++[.loop .ready none fn (T.map I.view) bq gH ct A])++qC))
  (hg:inLoop H rl=true) (aI:Obj L.length=Hn) (bp:∀ qC,Q .normal (T.map I.settle) ((Hn++[.dead])++qC)):oE P A fn 0 rl (.func k [] cap) bq gH ct T H Q:=by
 obtain ⟨qC,cp⟩:=Im H.length (H.length+1) (fun i=>Obj i++[.loop .ready none fn (T.map I.view) bq gH ct A]) (fun i=>by simp [hlen]) (by omega) (fun i h Y=>by
  have aX:i<L.length:=by simpa using h
  obtain ⟨qC,ai⟩:=KP i aX Y
  exact ⟨qC,by rw [List.getElem_map];exact ai⟩) []
 subst aI;simp only [sM,sY,aQ] at cp;have ao:(Obj L.length).length=H.length:=hlen _;refine ⟨hg,.tuple [],_,.ready,none,fn,T.map I.view,bq,gH,ct,A,cp,by rw [←ao];exact Iw _ _ _,by decide,?_⟩;show Q .normal (T.map I.settle) (((Obj L.length++[ar.loop .ready none fn (T.map I.view) bq gH ct A])++qC).set H.length .dead);rw [←ao,Jk];exact bp qC
end Go.Proofs.YtkoioidpbbbaiaaGreat.Ab


namespace Go.Proofs.YtkoioidpbbbaiaaGreat.Ab
open Go
theorem T4 {H:List ar} {lo i n d:Nat} {k:FuncId} {a b aM au:List I} (ab:ea (bM H lo i n d) a=some aM) (ae:ea (bM H lo i n d) b=some au):bM H lo i n (d+1) (.func k a b)=some (.func k aM au):=by simp only [bM,ab,ae]
theorem af1 {α:Type} {P:Program} {A:dw} {fn:FuncId} {rl:Option Nat} {k:FuncId} {cap:List I} {t:Nat} {bq:List Nat} {gH ct:Code} {T:List I} {H Hn:List ar} {Q:cQ→List I→List ar→Prop} {f:α→I} {L:List α} (Im:Seq P k cap (L.map f))
  (Obj:Nat→List ar) (ax:df T t=.func k [] cap) (aQ:Obj 0=H) (hlen:∀ i,(Obj i).length=H.length)
  (KP:∀ (i:Nat) (h:i<L.length) (Y:List ar),∃ qC,Sem P (.yield H.length) [f L[i]] ((Obj i++[.loop .ready none fn (T.map I.view) bq gH ct A])++Y) 0 (.bool true) ((Obj (i+1)++[.loop .ready none fn (T.map I.view) bq gH ct A])++qC))
  (hg:inLoop H rl=true) (aI:Obj L.length=Hn) (bp:∀ qC,Q .normal (T.map I.settle) ((Hn++[.dead])++qC)):dQ P A fn 0 rl (.AM (.nc t) bq gH ct) T H Q:=by
 show hI T t _;rw [iQ,ax];exact af0 Im Obj aQ hlen KP hg aI bp
end Go.Proofs.YtkoioidpbbbaiaaGreat.Ab


namespace Go.Proofs.YtkoioidpbbbaiaaGreat.Ab
open Go
theorem abb {α:Type} [Inhabited α] (f:α→List I) (s:Nat) (ah:∀ x,(f x).length=s) (l:List α) (n:Int) (h:0≤n∧n<(l.length:Int)) (j:Nat) (aw:j<s):(l.flatMap f)[n.toNat*s+j]?=(f (ix l n))[j]?:=by
 have e:=IZ f s ah l n h
 have:(l.flatMap f)[n.toNat*s+j]?=((l.flatMap f).drop (n.toNat*s))[j]?:=by rw [sQ]
 rw [this,e,sg (by rw [ah];exact aw)]
theorem JC {α:Type} [Inhabited α] (f:α→List I) (s:Nat) (ah:∀ x,(f x).length=s) (l:List α) (n:Int) (h:0≤n∧n<(l.length:Int)) (j:Nat) {v:I} (aw:(f (ix l n))[j]?=some v) {K:I→Prop} (k:K v):eJ (l.flatMap f) (0+n.toNat*s+j) K:=by
 refine Ew (x:=v) ?_ k;rw [sy,abb f s ah l n h j (by have:=(sa.1 aw).1;rw [ah] at this;exact this),aw]
theorem MV {α:Type} [Inhabited α] (f:α→List I) (s:Nat) (ah:∀ x,(f x).length=s) (l:List α) (n:Int) (h:0≤n∧n<(l.length:Int)) {v:I} (aw:(f (ix l n))[0]?=some v) {K:I→Prop} (k:K v):eJ (l.flatMap f) (0+n.toNat*s) K :=
 JC f s ah l n h 0 aw k
theorem XQ {α:Type} {f:α→List I} (h:∀ x,∀ u∈f x,u.view=u) (l:List α):∀ u∈l.flatMap f,u.view=u:=fun u hu=>by
 obtain ⟨x,_,aj⟩:=tJ.1 hu;exact h x u aj
theorem XR:∀ u∈([]:List I),u.view=u:=fun u h=>absurd h (by simp)
theorem M3 {v:I} {l:List I} (h:v.view=v) (k:∀ u∈l,u.view=u):∀ u∈v::l,u.view=u:=fun u hu=>by
 rcases List.mem_cons.1 hu with rfl | hu
 ·exact h
 ·exact k u hu
end Go.Proofs.YtkoioidpbbbaiaaGreat.Ab


namespace Go.Proofs.YtkoioidpbbbaiaaGreat.Ab
open Go
theorem qR {n:Int} (h:-9223372036854775808≤n∧n≤9223372036854775807):w n=n:=agU h.1 h.2
theorem H7 (i:Nat) (h:i≤9223372036854775806):w ((i:Int)+1)=((i+1:Nat):Int):=OE i h
end Go.Proofs.YtkoioidpbbbaiaaGreat.Ab


namespace Go.Proofs.YtkoioidpbbbaiaaGreat.Ab
open Go
def p7 (p:Int×Int):List I:=[h0 p.1,h0 p.2]
theorem Kj (p:Int×Int):(p7 p).length=2:=rfl
theorem PQ (k:IntKind):∀ (xs ys:List Int),xs.length=ys.length→dL (xs.map (.int k)) (ys.map (.int k))=some (decide (xs=ys))
 | [],[],_=>rfl
 | x::xs,y::ys,h=>by
   simp only [sG,dL,if_true,PQ k xs ys (by simpa using h),se];congr 1;by_cases aj:x=y <;> by_cases ao:xs=ys <;> simp [aj,ao]
 | [],y::ys,h=>by cases h
 | x::xs,[],h=>by cases h
theorem Zm {P:Program} {t:TypeId} {fs:Array Field} {op:BinOp} (ab:P.underlying t=some (.struct fs)) (ae:gS P fs.toList 0=true) (aF:P.stoodInHeld t=false) (ba:fs.size=2) (bP:P.eqGuardType P.depth t=false) (a b c d:Int) (aC:op=.eql∨op=.neq) :
  fo P op t (.agg [h0 a,h0 b]) (.agg [h0 c,h0 d])=some (.bool (match op with | .eql=>decide ((a,b)=(c,d)) | _=>!decide ((a,b)=(c,d)))):=by
 unfold fo;simp only [ab];rw [if_pos ⟨ae,aF,by simp [ba],by simp [ba],bP⟩];have e:=PQ .i64 [a,b] [c,d] rfl;simp only [sG,uz] at e;have b':decide ([a,b]=[c,d])=decide ((a,b)=(c,d)):=by simp
 rcases aC with rfl | rfl <;> simp only <;> rw [show [h0 a,h0 b]=[I.int .i64 a,I.int .i64 b] from rfl,show [h0 c,h0 d]=[I.int .i64 c,I.int .i64 d] from rfl,e,se,b']
theorem Zl {P:Program} {t e:TypeId} {len:Nat} {kd:IntKind} (k:IntKind) (ab:P.underlying t=some (.array len e)) (ae:P.underlying e=some (.int kd)) (aF:bF P e=some 1) (ba:P.eqGuardType P.depth t=false) {xs ys:List Int} (aj:xs.length=len) (aY:ys.length=len) :
  fo P .eql t (.agg (xs.map (.int k))) (.agg (ys.map (.int k)))=some (.bool (decide (xs=ys))):=by
 unfold fo;simp only [ab,ae,aF];rw [if_pos ⟨by simp [aj],by simp [aY],ba⟩,PQ k xs ys (by rw [aj,aY]),se]
theorem VC {P:Program} {C:b8} {lo:Nat} {o:Oper} {op:BinOp} {t u:TypeId} {a b:Operand} {x y v:I} {H:List ar} (aq:o.op=.binOp op t a b u) (aI:iZ b=false) (h:fo P op t x y=some v):a3 P C lo o 0 [x,y] H=some (v,H):=by
 unfold a3;rw [aq];show (cB P o [x,y]).map _=_;unfold cB;rw [aq];simp only [aI];show (fo P op t x y).map _=_;rw [h];rfl
end Go.Proofs.YtkoioidpbbbaiaaGreat.Ab


namespace Go.Proofs.YtkoioidpbbbaiaaGreat.Ab
open Go
section
variable {P:Program} {B N:Nat} {J:List Nat} {w:World} {H:List ar} {aa:Nat→Option aH} {S:Nat→Nat→Prop}
end
end Go.Proofs.YtkoioidpbbbaiaaGreat.Ab


namespace Go.Proofs.YtkoioidpbbbaiaaGreat.Ab
open Go
theorem agP {α:Type} {f:α→I} (h:∀ x,(f x).view=f x) (l:List α):(l.map f).map I.view=l.map f:=by rw [vr];exact tI fun x _=>h x
theorem U2 {α:Type} (f:α→I) (l:List α) {n:Nat} (aP:∀ x,(f x).view=f x) (h:l.length=n):(((l.map f).drop 0).take n).map I.view=l.map f:=by
 rw [tq,te (by simp [h]),agP aP]
def abg (P:Program) (t:TypeId):Array Field:=match P.underlying t with
 | some (.struct fs)=>fs
 | _=>#[]
theorem Zn {P:Program} {t e:TypeId} {len:Nat} {kd k:IntKind} {xs:List Int} {n:Int} (ab:P.underlying t=some (.array len e)) (ae:P.underlying e=some (.int kd)) (aF:bF P e=some 1) (ba:dK P e=false) (ao:xs.length=len) (aI:0≤n∧n<(len:Int)) :
  o0 P t (.agg (xs.map h0)) (.int k n)=some (h0 (ix xs n)):=by
 unfold o0;have bP:g_ n len=some n.toNat:=by unfold g_;rw [if_pos aI]
 simp only [ab,aF,bP,sb,tn];unfold iK;simp only [ae,ba];have aR:n.toNat<xs.length:=by omega
 rw [sk,si aR,se,NQ (by omega)]
theorem aeu {P:Program} {C:b8} {lo:Nat} {o:Oper} {t:TypeId} {a b:Operand} {x y v:I} {H:List ar} (aq:o.op=.index t a b) (h:o0 P t x y=some v) (ad:v.view=v:=by rfl):a3 P C lo o 0 [x,y] H=some (v,H):=by
 unfold a3;rw [aq];show (cB P o [x,y]).map _=_;unfold cB;rw [aq];show ((o0 P t x y).map I.view).map _=_;rw [h,se,se,ad]
end Go.Proofs.YtkoioidpbbbaiaaGreat.Ab


namespace Go.Proofs.YtkoioidpbbbaiaaGreat.Ab
open Go
def Kk:List I→Nat→List (Nat×I)→List I
 | [],_,_=>[]
 | x::T,_,[]=>x::T
 | x::T,i,(j,v)::r=>match Nat.beq i j with
   | true=>v::Kk T (i+1) r
   | false=>x::Kk T (i+1) ((j,v)::r)
def Ii (u:Nat→I):Nat→Nat→List (Nat×I)→List I
 | 0,_,_=>[]
 | n+1,i,[]=>u i::Ii u n (i+1) []
 | n+1,i,(j,v)::r=>match Nat.beq i j with
   | true=>v::Ii u n (i+1) r
   | false=>u i::Ii u n (i+1) ((j,v)::r)
def ry (n:Nat) (bq:List (Nat×I)) (T:List I):Prop:=T.length=n∧T=Kk T 0 bq
theorem Ot {u bH:Nat→I}:∀ (n i:Nat) (bq:List (Nat×I)),(∀ k,i≤k→u k=bH k)→Ii u n i bq=Ii bH n i bq
 | 0,_,_,_=>rfl
 | n+1,i,[],h=>by
   rw [Ii,Ii,h i (sc _),Ot n (i+1) [] fun k al=>h k (by omega)]
 | n+1,i,(j,v)::r,h=>by
   rw [Ii,Ii];cases Nat.beq i j with
   | true=>exact congrArg _ (Ot n (i+1) r fun k al=>h k (by omega))
   | false=>show u i::_=bH i::_;rw [h i (sc _),Ot n (i+1) _ fun k al=>h k (by omega)]
theorem Xk:∀ (T:List I) (i:Nat) (bq:List (Nat×I)),Kk T i bq=Ii (fun k=>df T (k-i)) T.length i bq
 | [],_,_=>rfl
 | x::T,i,bq=>by
   have e:∀ bq,Ii (fun k=>df (x::T) (k-i)) T.length (i+1) bq=Kk T (i+1) bq:=fun bq=>by
    rw [Xk T (i+1) bq];refine Ot _ _ _ fun k al=>?_;show df (x::T) (k-i)=df T (k-(i+1));rw [show k-i=(k-(i+1))+1 by omega];rfl
   (have gb:df (x::T) (i-i)=x:=by rw [Nat.sub_self];rfl);(have aa7:∀ (T:List I) i,Kk T i []=T:=fun T i=>by cases T <;> rfl);cases bq with
   | nil =>
     show x::T=Ii _ (T.length+1) i [];rw [Ii,gb,e,aa7]
   | cons p r =>
     obtain ⟨j,v⟩:=p;show Kk (x::T) i ((j,v)::r)=Ii _ (T.length+1) i ((j,v)::r);rw [Kk,Ii];cases Nat.beq i j with
     | true=>exact congrArg _ (e r).symm
     | false=>show x::_=_::_;rw [gb,e]
theorem ry.ex {n:Nat} {bq:List (Nat×I)} {T:List I} (h:ry n bq T):∃ u,T=Ii u n 0 bq:=by
 obtain ⟨ab,ae⟩:=h;subst ab;exact ⟨_,ae.trans (Xk T 0 bq)⟩
class HB (d:Nat) (v:I):Prop where NY:cr d v=true
class qj (d:Nat) (l:List I):Prop where pl:l.all (cr d)=true
instance {d:Nat}:qj d []:=⟨rfl⟩
instance {d:Nat} {v:I} {l:List I} [a:HB d v] [b:qj d l]:qj d (v::l):=⟨p6 a.NY b.pl⟩
instance {d:Nat} {a b:List I} [x:qj d a] [y:qj d b]:qj d (a++b):=⟨by rw [List.all_append,x.pl,y.pl];rfl⟩
instance {d:Nat} {α:Type} {f:α→I} {l:List α} [h:∀ x,HB d (f x)]:qj d (l.map f):=⟨VM (fun x=>(h x).NY) l⟩
instance {d:Nat} {α:Type} {f:α→List I} {l:List α} [h:∀ x,qj d (f x)]:qj d (l.flatMap f):=⟨by
 rw [sm];intro u hu;obtain ⟨x,_,aj⟩:=tJ.1 hu
 exact sm.1 (h x).pl u aj⟩
instance {d:Nat} {k:IntKind} {n:Int}:HB (d+1) (.int k n):=⟨rfl⟩
instance {d:Nat} {b:Bool}:HB (d+1) (.bool b):=⟨rfl⟩
instance {d:Nat} {b:ByteArray}:HB (d+1) (.str b):=⟨rfl⟩
instance {d:Nat}:HB (d+1) .eI:=⟨rfl⟩
instance {d:Nat}:HB (d+1) .a0:=⟨rfl⟩
instance {d n:Nat} {c:hE} {l:List I} [h:qj d l]:HB (d+1) (.av l n c):=⟨h.pl⟩
instance {d:Nat} {l:List I} [h:qj d l]:HB (d+1) (.agg l):=⟨h.pl⟩
instance {d:Nat} {l:List I} [h:qj d l]:HB (d+1) (.tuple l):=⟨h.pl⟩
instance {d:Nat} {l:List I} [h:qj d l]:HB (d+1) (.bS l):=⟨h.pl⟩
instance {d:Nat} {α:Type} {f:α→I} {l:List α} [h:∀ x,HB d (f x)]:HB (d+1) (Zg f l):=⟨VM (fun x=>(h x).NY) l⟩
instance {d:Nat} {α:Type} {f:α→List I} {l:List α} [h:∀ x,qj d (f x)]:HB (d+1) (Zh f l):=⟨(inferInstance:qj d (l.flatMap f)).pl⟩
instance {d:Nat} {l:List Int}:HB (d+2) (oX l):=⟨(inferInstance:qj (d+1) (l.map h0)).pl⟩
instance {d:Nat} {l:List (List Int)}:HB (d+3) (jx l):=⟨(inferInstance:qj (d+2) (l.map oX)).pl⟩
instance {d:Nat} {α:Type} {f:α→List I} {x:Option α} [h:∀ x,qj d (f x)]:HB (d+1) (LH f x):=⟨VL (fun x=>(h x).pl) x⟩
theorem qW {p VG:Prop} [Decidable p] {aV:Type} {k:Option aV} {v:aV} {K:Prop} (h:qs p k=some v) (f:p→VG) (g:p→k=some v→K):VG∧K :=
 ⟨f (rM h).1,g (rM h).1 (rM h).2⟩
theorem bs {b:Bool} {aV:Type} {x y:Option aV} {v:aV} {K:Prop} (h:(if b=true then x else y)=some v) (f:b=true→x=some v→K) (g:b=false→y=some v→K):K :=
 match b,h,f,g with
 | true,h,f,_=>f rfl (Hp rfl h)
 | false,h,_,g=>g rfl (Ho rfl h)
theorem aeJ {d:Nat} {u:I} (h:cr d u.ha=true):cr d u=true:=by
 cases d with
 | zero=>simp [cr] at h
 | succ d=>cases u with
   | av cs n c=>cases c <;> exact h
   | _=>exact h
theorem VK {d:Nat} {l:List I} (h:(l.map I.ha).all (cr d)=true):l.all (cr d)=true:=by
 rw [sm] at h ⊢;exact fun u hu=>aeJ (h _ (List.mem_map_of_mem hu))
theorem aeI {d:Nat} {r:I} (h:cr d r.settle.view.cc=true) (aw:r.settle.view.cc.G4=false):cr d r=true:=by
 cases d with
 | zero=>simp [cr] at h
 | succ d=>cases r with
   | av cs n c=>cases c <;> exact h
   | agg cs=>exact VK (l:=cs) h
   | tuple cs=>exact VK (l:=cs) h
   | raw=>exact absurd aw (by simp [I.settle,I.view,I.cc,I.G4])
   | c3=>exact absurd aw (by simp [I.settle,I.view,I.cc,I.G4])
   | cm=>exact absurd h (by simp [I.settle,I.view,I.cc,cr])
   | _=>exact h
theorem Ih {rs:List Ia} {v:I} {T:List I} {H:List ar} {vs:List I} [h:HB 8 v] (ab:rK H T rs=some vs) (ae:(jg vs).settle.view.cc=v) (aw:v.G4=false:=by first | rfl | (simp [I.G4];done) | (cases ‹Option _› <;> rfl)):HC rs v .ret T H :=
 ⟨.inr rfl,vs,ab,_,yW (aeI (ae ▸ h.NY) (ae ▸ aw)),ae⟩
end Go.Proofs.YtkoioidpbbbaiaaGreat.Ab


namespace Go.Proofs.YtkoioidpbbbaiaaGreat.Ab
open Go
section
variable {P:Program} {A:dw} {fn:FuncId} {lo:Nat} {rl:Option Nat}
inductive aii (P:Program) (A:dw) (fn:FuncId) (lo:Nat) (rl:Option Nat) (rc:gE) (T:List I) (H:List ar) (Q:cQ→List I→List ar→Prop):Prop where
 | mk (cE:List Bool) (c:gE) (he:rc=.loop (some cE) c) (h0:Nat→List I→List ar→Prop) (m:Nat) (hm:m≤qi) (aQ:h0 m T H)
   (step:∀ (Hk:List I→List ar→Prop) m T H,h0 m T H→(∀ hr bf H',hr<m→h0 hr bf H'→Hk bf H')→ob T fun T=>dQ P A fn lo rl c T H fun e bf H'=>match e with
    | .normal=>xo (some cE) bf fun bf=>Hk bf H'
    | e=>Q e bf H')
end
theorem N1 {cs:List I} {n d:Nat} {c:hE} (h:cs.all (cr d)=true):cr (d+1) (.av cs n c)=true:=h
def af2 (l:List Int):I:=.av (l.map h0) l.length (if l.length=1 then .full else .shared)
end Go.Proofs.YtkoioidpbbbaiaaGreat.Ab


namespace Go.Proofs.YtkoioidpbbbaiaaGreat.Ab
open Go
instance {d:Nat} {p:Int×Int}:qj (d+1) (p7 p):=⟨(inferInstance:qj (d+1) [h0 p.1,h0 p.2]).pl⟩
instance {d:Nat} {l:List Int}:HB (d+2) (af2 l):=⟨(inferInstance:qj (d+1) (l.map h0)).pl⟩
end Go.Proofs.YtkoioidpbbbaiaaGreat.Ab


namespace Go.Proofs.YtkoioidpbbbaiaaGreat.Ab
open Go
abbrev p9:=List Int
abbrev qk:=List (Int×Int)
abbrev KB:=List (List Int)
abbrev aih:=List (List (Int×Int))
abbrev aid:=Int×List (Int×Int)
abbrev Hr:=cQ→List I→List ar→Prop
abbrev qG (l:List Int) (c:hE):I:=.av (l.map h0) l.length c
abbrev re (l:List (Int×Int)) (c:hE):I:=.av (l.flatMap p7) l.length c
abbrev aim (b:Int×List (Int×Int)):I:=.agg [h0 b.1,.av (b.2.flatMap p7) b.2.length .shared]
abbrev ain (b:Int×List (Int×Int)):ar:=ar.cells [h0 b.1,.av (b.2.flatMap p7) b.2.length .shared]
def qH {aV:Type} (rs:List Ia) (Q:cQ→List I→List ar→Prop) (e:aV→I) (v:aV):Prop:=∀ T H,HC rs (e v) .ret T H→Q .ret T H
theorem qe {aV:Type} {x v:aV} {e:aV→I} {rs:List Ia} {Q:cQ→List I→List ar→Prop} {T:List I} {H:List ar} {vs:List I} (h:some x=some v) (jJ:qH rs Q e v) [k:HB 8 (e x)] (ab:rK H T rs=some vs) (ae:(jg vs).settle.view.cc=e x) (aw:(e x).G4=false:=by first | rfl | (simp [I.G4];done) | (cases ‹Option _› <;> rfl)):Q .ret T H:=by
 obtain rfl:=Option.some.inj h;exact jJ _ _ (Ih ab ae aw)
class qQ (H:List ar) (i:Nat) (o:outParam ar):Prop where h:H[i]?=some o
instance {H:List ar} {o:ar}:qQ (H++[o]) H.length o:=⟨IK _ _⟩
instance {H:List ar} {i:Nat} {o p:ar} [k:qQ H i o]:qQ (H++[p]) i o:=⟨Ug k.h⟩
end Go.Proofs.YtkoioidpbbbaiaaGreat.Ab


namespace Go.Proofs.YtkoioidpbbbaiaaGreat.Ab
open Go Go.ChangeShapes Go.WideShapes Go.ChangeAt Go.RowKit
def S0 (w:World):Nat→Nat→Prop:=fun b o=>∃ v,w.cell? ⟨b,o,none⟩=some v
theorem my (w:World):aK w.heap.size (fun _=>none) [] (S0 w) w [] :=
 ⟨rfl,fun _ _ h=>by simp at h,fun _ _ h=>h,fun _ _ h=>by simp at h,sc _⟩
theorem agy {P:Program} {k:FuncId} {args:List I} {vs:List Value} {W:World} {b:Bool} (h:nn P k args (.bool b)) (ad:a5 (fun i=>.arg i) (fun _=>none) [] (S0 W) W args vs) :
  Calls P k vs.toArray W fun e IF=>e=.returned (.bool b)∧Below W.heap.size W IF:=by
 have ab:=h.1.2.2 W.heap.size (fun _=>none) [] (S0 W) W vs (my W) (fun _ _ h=>by simp at h) ad;refine (callsIn_wide.1 ab).mono fun e IF he=>?_;cases e with
 | returned v =>
   obtain ⟨ay,bV,S',_,az,_,ai,_⟩:=he;cases ai;exact ⟨rfl,az.os,az.tape,az.output,az.size,fun b af=>az.cE b af rfl⟩
 | panicked c=>exact he.elim
 | outgrown=>exact he.elim
section
variable {H:Type} {enc:TypeId×Value→H} {P:Program} {w:World}
theorem SH {W IF:World} (K:Kids P (·<P.types.size)) (bR:∀ t e,t<P.types.size→P.underlying t=some (.slice e)→0<P.cellsOf e) (Ix:Below W.heap.size W IF) {sp:Nat→Bool} :
  ∀ {ts:List TypeId} {vs:List Value} {fG:List (DataW H)} {p:List MemPlace},(∀ t∈ts,t<P.types.size)→DataW.TrodAll enc P W 0 (fun _=>true) true ts vs fG p→(∀ x∈p,sp x.block=true)→(∀ x∈p,x.block<W.heap.size)→DataW.TrodAll enc P IF 0 sp true ts vs fG p
 | [],_,_,_,_,aL,_,_=>by obtain ⟨rfl,rfl,rfl⟩:=trodAll_nil aL;exact trodAll_mk0
 | t::ts,_,_,_,b0,aL,LC,aR=>by
   obtain ⟨v,vs,d,fG,a,b,rfl,rfl,rfl,⟨n,aI⟩,ae⟩:=trodAll_cons aL;refine ⟨a,b,⟨n,?_⟩,SH K bR Ix (fun t ax=>b0 t (tR _ ax)) ae (fun x aj=>LC x (vu _ aj)) (fun x aj=>aR x (vu _ aj)),rfl⟩;exact DataW.trod_stays K (fun {t e} ax he=>bR t e ax he) (fun h=>by cases h) (b0 t tX) aI (fun x aj=>Ix.same (aR x (vv _ aj))) fun x aj=>LC x (vv _ aj)
theorem aeH {f:Func} {s:ChangeSpec} {again:Bool} {W IF:World} {args:Array Value} {t:TypeId} {fG gs:List (DataW H)} {before:List MemPlace}
  (ao:laidOutB P=true) (hm:mapsRowed P=true) (bk:((List.range P.types.size).all fun t=>match P.underlying t with | some (.slice e)=>decide (0<P.cellsOf e) | _=>true)=true)
  (ax:f.resultTypes=#[t]) (Un:P.underlying t=some .bool) (kR:f.params.toList.all (fun t=>decide (t<P.types.size))=true) (QB:s.vars=[])
  (mb:DataW.Whole enc P f.params.toList s.vars false W args.toList fG gs before) (Ix:Below W.heap.size W IF)
  (ah:s.fn H (fG++gs)={ results:=[.lit (.bool true)],args:=fG }):s.post enc P f false true false again W args (.bool true) IF:=by
 have aR:=mb.lt;have abB:=mb;obtain ⟨p,q,aL,jK,rfl,C0,jV⟩:=abB;rw [QB] at jK;obtain ⟨rfl,rfl⟩:=trodVars_none jK;rw [sM] at *;have K:Kids P (·<P.types.size):=kids_rows ao hm;have bR:=slices_full_of P bk;have b0:∀ t∈f.params.toList,t<P.types.size:=fun t h=>by
  have:=sm.1 kR t h;simpa using this
 have again:∀ sp:Nat→Bool,(∀ x∈p,sp x.block=true)→DataW.TrodAll enc P IF 0 sp true f.params.toList args.toList fG p:=fun sp LC =>
  SH K bR Ix b0 aL LC aR
 have kT:∀ (b:Nat) (sp:Nat→Bool) (a1:Bool),DataW.TrodAll enc P IF b sp a1 f.resultTypes.toList ((Value.bool true).resultList f.resultTypes.size) (s.fn H fG).results []:=fun b sp a1=>by
  rw [ah,ax];exact trodAll_mk1 (shut_bool Un true)
 have CH:∀ sp:Nat→Bool,(∀ x∈p,sp x.block=true)→DataW.TrodAll enc P IF 0 sp true f.params.toList args.toList (s.fn H fG).args p:=fun sp LC=>by
  rw [ah];exact again sp LC
 have ad:∀ sp:Nat→Bool,DataW.TrodVars enc P IF sp s.vars (s.fn H fG).vars []:=fun sp=>by
  rw [ah,QB];rfl
 have hold:∀ x∈p,(fun b=>decide (b<W.heap.size)) x.block=true:=fun x aj=>by simpa using aR x aj
 refine ⟨fG,[],p,[],p,[],mb,by rw [sM];exact kT _ _ _,by rw [sM];exact CH _ hold,by rw [sM];exact ad _,Ix.frame _,fun _=>?_⟩;refine ⟨fun j u r hu ai=>?_,(s.fn H fG).results++(s.fn H fG).args,[],p,⟨p,[],?_,?_,by simp,?_,fun h=>by cases h⟩,fun x aj _=>aj⟩
 ·rw [ax] at hu ai;cases j with
  | zero=>simp [Value.resultList] at hu ai;subst hu;subst ai;exact okWide_bool_mk Un true
  | succ j=>simp at hu
 ·have:=trodAll_append (CH (fun _=>true) fun _ _=>rfl) (kT 0 (fun _=>true) true);simpa using this
 ·rw [QB];rfl
 ·intro b o af;have:=aR _ af;rw [Ix.frozen (p:=⟨b,o,none⟩) this];exact C0 b o af
theorem Vk {α:Type} {f:α→I} {R:α→Prop}:∀ {l:List I},(∀ u∈l,∃ x,u=f x∧R x)→∃ gx:List α,l=gx.map f∧∀ x∈gx,R x
 | [],_=>⟨[],rfl,by simp⟩
 | u::l,h=>by
   obtain ⟨x,rfl,aj⟩:=h u (by simp);obtain ⟨gx,rfl,bk⟩:=Vk (l:=l) fun y aY=>h y (by simp [aY]);exact ⟨x::gx,rfl,by simpa using ⟨aj,bk⟩⟩
abbrev Jq (enc:TypeId×Value→H) (P:Program) (w:World) (e:TypeId) (Q:I→Prop):Prop :=
 ∀ n v y,DataW.trod enc P w 0 (fun _=>true) true n e [v]=some y→∃ u,u.plain=true∧v.oneCell'=true∧Rel [] (S0 w) w u v∧Q u
theorem TI {e:TypeId} {k:IntKind} (ax:P.underlying e=some (.int k)):Jq enc P w e fun u=>∃ x,u=.int k x∧(Lit.int k x).wf=true:=by
 intro n v y h;obtain ⟨x,aj,_,hw⟩:=DataW.trod_int ax h;injection aj with aj _;subst aj;exact ⟨.int k x,rfl,rfl,.int k x,x,rfl,hw⟩
instance:Inhabited I:=⟨.a0⟩
theorem aaE {t e:TypeId} (ax:P.underlying t=some (.slice e)) (ce:P.cellsOf e=1) {Q:I→Prop} (he:Jq enc P w e Q) :
  Jq enc P w t fun u=>∃ l:List I,u=.av l l.length .shared∧l.length≤maxLen∧∀ u∈l,Q u:=by
 intro fuel v x h;rcases Deep.open_slice1 ax ce h with ⟨ad,_⟩ | ⟨a,len,cap,m,n,V,D,Ph,ad,_,ao,hm,pQ,_,aj⟩
 ·injection ad with ad _;subst ad;exact ⟨_,rfl,rfl,.b3 _ _,[],rfl,sC _,by simp⟩
 ·injection ad with ad _;subst ad;have pQ:m=cap:=pQ;have aj:∀ i,i<cap→w.cell? (a.add i)=some (V i)∧DataW.trod enc P w 0 (fun _=>true) true n e [V i]=some (D i,Ph i):=fun i hi=>aj i (by omega);by_cases ak:cap=0
  ·(subst ak;obtain rfl:len=0:=by omega);exact ⟨_,rfl,rfl,.b3 _ _,[],rfl,sC _,by simp⟩
  ·obtain ⟨b,o,sp⟩:=a;have aQ:=(aj 0 (by omega)).1;(have ah:sp=none:=by simpa [Addr.add] using World.cell?_spot aQ);subst ah;obtain ⟨U,Hu⟩:=Deep.choose_lt (α:=I) (n:=len) (p:=fun i u=>u.plain=true∧(V i).oneCell'=true∧Rel [] (S0 w) w u (V i)∧Q u) fun i hi=>he n (V i) _ (aj i (by omega)).2;refine ⟨.av ((List.range len).map U) len .shared,rfl,rfl,.av _ _ _ b o cap V (by simp) ao (by simp) (fun j u aw=>?_) (fun j u aw=>?_),(List.range len).map U,by simp,by simp;omega,fun u hu=>?_⟩
   ·(have mo:j<len:=by have:=(sa.1 aw).1;simpa using this);simp [mo] at aw;subst aw;(have bz:w.cell? ⟨b,o+j,none⟩=some (V j):=by have:=(aj j (by omega)).1;rwa [add_lit] at this);exact ⟨⟨_,bz⟩,bz,(Hu j mo).1,(Hu j mo).2.1⟩
   ·(have mo:j<len:=by have:=(sa.1 aw).1;simpa using this);simp [mo] at aw;subst aw;exact (Hu j mo).2.2.1
   ·obtain ⟨j,aw,rfl⟩:=sD.1 hu;exact (Hu j (sH.1 aw)).2.2.2
def IE (x:Int):Prop := -9223372036854775808≤x∧x≤9223372036854775807
theorem wf_i64 {x:Int} (h:(Lit.int .i64 x).wf=true):IE x:=by
 have ab:IntKind.i64.min=-9223372036854775808:=rfl;have ae:IntKind.i64.max=9223372036854775807:=rfl;simp only [Lit.wf,sn,decide_eq_true_eq] at h;exact ⟨by omega,by omega⟩
theorem wf_u8 {x:Int} (h:(Lit.int .u8 x).wf=true):0≤x∧x≤255:=by
 have ab:IntKind.u8.min=0:=rfl;have ae:IntKind.u8.max=255:=rfl;simp only [Lit.wf,sn,decide_eq_true_eq] at h;exact ⟨by omega,by omega⟩
structure Zd (l:List Int):Prop where
 n:l.length≤9223372036854775807
 v:∀ x∈l,IE x
structure aif (l:List (List Int)):Prop where
 n:l.length≤9223372036854775807
 v:∀ r∈l,Zd r
theorem Vm {n:Nat} (h:n≤maxLen):n≤9223372036854775807:=by unfold maxLen at h;omega
def Mm (l:List Int):I:=.av (l.map (.int .u8)) l.length .shared
structure Sy (l:List Int):Prop where
 n:l.length≤9223372036854775807
 v:∀ x∈l,0≤x∧x≤255
theorem aaD {t e:TypeId} (ax:P.underlying t=some (.slice e)) (ce:P.cellsOf e=1) (he:P.underlying e=some (.int .u8)):Jq enc P w t fun u=>∃ l,u=Mm l∧Sy l:=by
 intro n v y h;obtain ⟨u,aA,aG,aT,l,rfl,br,bg⟩:=aaE ax ce (TI he) n v y h;obtain ⟨gx,rfl,bd⟩:=Vk bg;exact ⟨_,aA,aG,aT,gx,by simp [Mm],by simpa using Vm br,fun x aj=>wf_u8 (bd x aj)⟩
abbrev Arg (enc:TypeId×Value→H) (P:Program) (w:World) (base:Nat) (t:TypeId) (Q:I→Prop):Prop :=
 ∀ v d p,Value.okWide P w .any base t v→DataW.Trod enc P w 0 (fun _=>true) true t v d p→∃ u,u.plain=true∧Rel [] (S0 w) w u v∧Q u
theorem aaf {base:Nat} {t e:TypeId} (ax:P.underlying t=some (.slice e)) {Q:I→Prop} (ak:Jq enc P w t Q):Arg enc P w base t Q:=by
 intro v d p ad ⟨n,a1⟩;obtain ⟨a,len,cap,rfl⟩:=okWide_slice ax ad;obtain ⟨u,aA,_,aT,br⟩:=ak n _ _ a1;exact ⟨u,aA,aT,br⟩
theorem agQ {us:List I} {vs:List Value} (h:us.length=vs.length) (ai:∀ (i:Nat) (u:I) (v:Value),us[i]?=some u→vs[i]?=some v→u.plain=true∧Rel [] (S0 w) w u v):a5 (fun i=>.arg i) (fun _=>none) [] (S0 w) w us vs :=
 ⟨h,fun i u v hu ad=>(ai i u v hu ad).2,fun i u v hu ad=>aU.b4 (ai i u v hu ad).1⟩
theorem agS {yh fA:I} {v0 v1:Value} (QP:yh.plain=true) (hT:Rel [] (S0 w) w yh v0) (bU:fA.plain=true) (aS:Rel [] (S0 w) w fA v1):a5 (fun i=>.arg i) (fun _=>none) [] (S0 w) w [yh,fA] [v0,v1] :=
 agQ rfl fun i u v hu ad=>by
  match i with
  | 0=>simp at hu ad;subst hu;subst ad;exact ⟨QP,hT⟩
  | 1=>simp at hu ad;subst hu;subst ad;exact ⟨bU,aS⟩
  | i+2=>simp at hu
end
end Go.Proofs.YtkoioidpbbbaiaaGreat.Ab


namespace Go.Proofs.YtkoioidpbbbaiaaGreat.Ab
open Go Go.ChangeShapes Go.WideShapes Go.ChangeAt Go.RowKit
section
variable {H:Type} {enc:TypeId×Value→H} {P:Program} {w:World}
theorem Vl {α β:Type} {f:α→β} {R:α→Prop}:∀ {l:List β},(∀ u∈l,∃ x,u=f x∧R x)→∃ gx:List α,l=gx.map f∧∀ x∈gx,R x
 | [],_=>⟨[],rfl,by simp⟩
 | u::l,h=>by
   obtain ⟨x,rfl,aj⟩:=h u (by simp);obtain ⟨gx,rfl,bk⟩:=Vl (l:=l) fun y aY=>h y (by simp [aY]);exact ⟨x::gx,rfl,by simpa using ⟨aj,bk⟩⟩
def Np (enc:TypeId×Value→H) (P:Program) (w:World) (fs:Array Field) (H_:List (I→Prop)):Prop :=
 H_.length=fs.size∧∀ (i:Nat) (f:Field) (q:I→Prop),fs[i]?=some f→H_[i]?=some q→f.offset=i∧P.cellsOf f.type=1∧Jq enc P w f.type q
def Pe (H_:List (I→Prop)) (us:List I):Prop:=us.length=H_.length∧∀ (i:Nat) (u:I) (q:I→Prop),us[i]?=some u→H_[i]?=some q→q u
theorem agn {t:TypeId} {fs:Array Field} {H_:List (I→Prop)} (ax:P.underlying t=some (.struct fs)) (ak:P.cellsOf t=fs.size) (aP:Np enc P w fs H_) {n:Nat} {cs:List Value} {y:DataW H×List MemPlace}
  (h:DataW.trod enc P w 0 (fun _=>true) true n t cs=some y):∃ us:List I,Pe H_ us∧cs.length=us.length∧∀ (j:Nat) (u:I) (v:Value),us[j]?=some u→cs[j]?=some v→u.plain=true∧v.oneCell'=true∧Rel [] (S0 w) w u v:=by
 obtain ⟨xs,m,_,_,ao,QC,aj⟩:=DataW.trod_struct ax h;rw [ak] at ao;have each:∀ i,i<fs.size→∃ u:I,(∀ v,cs[i]?=some v→u.plain=true∧v.oneCell'=true∧Rel [] (S0 w) w u v)∧∀ q,H_[i]?=some q→q u:=fun i hi=>by
  have ab:fs[i]?=some fs[i]:=Array.getElem?_eq_getElem hi;have a_:i<H_.length:=by rw [aP.1];exact hi
  have ae:H_[i]?=some H_[i]:=si a_;obtain ⟨e1,b',dA⟩:=aP.2 i _ _ ab ae;have aF:=aj i _ ab;rw [e1,b'] at aF;have Us:i<cs.length:=by omega
  rw [s0 Us,si (by omega)] at aF;simp only [List.take_succ_cons,List.take_zero] at aF;obtain ⟨u,aA,aG,aT,br⟩:=dA _ _ _ aF;refine ⟨u,fun v ad=>?_,fun q Dr=>?_⟩
  ·rw [si Us] at ad;cases ad;exact ⟨aA,aG,aT⟩
  ·rw [ae] at Dr;cases Dr;exact br
 obtain ⟨U,Hu⟩:=Deep.choose_lt (α:=I) (n:=fs.size) (p:=fun i u=>(∀ v,cs[i]?=some v→u.plain=true∧v.oneCell'=true∧Rel [] (S0 w) w u v)∧∀ q,H_[i]?=some q→q u) each;have get:∀ (i:Nat) (u:I),((List.range fs.size).map U)[i]?=some u→i<fs.size∧u=U i:=fun i u hu=>by
  have hi:i<fs.size:=by have:=(sa.1 hu).1;simpa using this
  simp [hi] at hu;exact ⟨hi,hu.symm⟩
 refine ⟨(List.range fs.size).map U,⟨by simp [aP.1],fun i u q hu a_=>?_⟩,by simp [ao],fun j u v hu ad=>?_⟩
 ·obtain ⟨hi,rfl⟩:=get i u hu;exact (Hu i hi).2 q a_
 ·obtain ⟨hi,rfl⟩:=get j u hu;exact (Hu j hi).1 v ad
theorem TY {s:Nat}:∀ {L:List (List I)} {j:Nat} {u:I},(∀ l∈L,l.length=s)→0<s→L.flatten[j]?=some u→∃ l,L[j / s]?=some l∧l[j % s]?=some u
 | [],j,u,_,_,h=>by simp at h
 | l::L,j,u,ao,ah,h=>by
   have aQ:l.length=s:=ao l (by simp);rw [List.flatten_cons] at h;by_cases aw:j<s
   ·rw [sg (by omega)] at h;exact ⟨l,by rw [Nat.div_eq_of_lt aw];rfl,by rw [Nat.mod_eq_of_lt aw];exact h⟩
   ·rw [ss (by omega),aQ] at h;obtain ⟨k,a,b⟩:=TY (s:=s) (fun x aj=>ao x (by simp [aj])) ah h;(have e1:j / s=(j-s) / s+1:=by rw [Nat.div_eq_sub_div ah (by omega)]);(have b':j % s=(j-s) % s:=by rw [Nat.mod_eq_sub_mod (by omega)]);exact ⟨k,by rw [e1];simpa using a,by rw [b'];exact b⟩
end
end Go.Proofs.YtkoioidpbbbaiaaGreat.Ab


namespace Go.Proofs.YtkoioidpbbbaiaaGreat.Ab
open Go
instance {d:Nat} {l:List I} [h:qj d l]:qj d (l.map I.ha):=⟨by
 have h:=h.pl;rw [sm] at h ⊢;intro u hu;obtain ⟨v,ad,rfl⟩:=sD.1 hu;have:=h v ad;cases d with
 | zero=>simp [cr] at this
 | succ d=>cases v with
   | av cs n c=>cases c <;> exact this
   | _=>exact this⟩
end Go.Proofs.YtkoioidpbbbaiaaGreat.Ab


namespace Go.Proofs.YtkoioidpbbbaiaaGreat.Ab
open Go
def qn (x:(Int×(Int×Int))):List I:=[(h0 x.1),(h0 x.2.1),(h0 x.2.2)]
theorem HV (x:(Int×(Int×Int))):(qn x).length=3:=rfl
instance {d:Nat} {x:(Int×(Int×Int))}:qj (d+1) (qn x):=⟨(inferInstance:qj (d+1) [(h0 x.1),(h0 x.2.1),(h0 x.2.2)]).pl⟩
end Go.Proofs.YtkoioidpbbbaiaaGreat.Ab


namespace Go.Proofs.YtkoioidpbbbaiaaGreat.Ab
open Go Go.ChangeShapes Go.WideShapes Go.ChangeAt Go.RowKit
set_option maxRecDepth 100000
section
variable {H:Type} {enc:TypeId×Value→H} {P:Program} {w:World}
def IW (enc:TypeId×Value→H) (P:Program) (w:World) (t:TypeId) (bb:Nat) (Q:List I→Prop):Prop :=
 ∀ (fuel:Nat) (cs:List Value) (y:DataW H×List MemPlace),DataW.trod enc P w 0 (fun _=>true) true fuel t cs=some y →
   ∃ us:List I,Q us∧us.length=bb∧cs.length=bb∧∀ (j:Nat) (u:I) (v:Value),us[j]?=some u→cs[j]?=some v→u.plain=true∧v.oneCell'=true∧Rel [] (S0 w) w u v
theorem aaL {t:TypeId} {f1 f2:Field} {b7 cj:Nat} {oY lJ:List I→Prop} (ax:P.underlying t=some (.struct #[f1,f2])) (ak:P.cellsOf t=b7+cj) (bx:f1.offset=0) (bK:f2.offset=b7) (a7:P.cellsOf f1.type=b7) (a9:P.cellsOf f2.type=cj) (ab:IW enc P w f1.type b7 oY) (ae:IW enc P w f2.type cj lJ) :
  IW enc P w t (b7+cj) fun us=>∃ a b,us=a++b∧oY a∧lJ b:=by
 intro fuel cs y h;obtain ⟨xs,m,_,_,ao,QC,aj⟩:=DataW.trod_struct ax h;rw [ak] at ao;have QC:xs.length=2:=QC;have e1:=aj 0 f1 rfl;have b':=aj 1 f2 rfl;rw [bx,a7,tq,si (by omega)] at e1;rw [bK,a9,si (by omega)] at b';obtain ⟨a,aA,aG,aT,br⟩:=ab _ _ _ e1;obtain ⟨b,bm,cw,e2,lQ⟩:=ae _ _ _ b';refine ⟨a++b,⟨a,b,rfl,aA,bm⟩,by rw [sA];omega,ao,fun j u v hu ad=>?_⟩;by_cases aw:j<b7
 ·rw [sg (by omega)] at hu;exact br j u v hu (by rw [sI,if_pos aw];exact ad)
 ·rw [ss (by omega)] at hu;have aiH:j-a.length<b.length:=(sa.1 hu).1;refine lQ (j-a.length) u v hu ?_;rw [sI,if_pos (by omega),sQ,show b7+(j-a.length)=j by omega];exact ad
theorem aaJ {t:TypeId} {Q:I→Prop} (h:Jq enc P w t Q) (ah:∀ (fuel:Nat) (cs:List Value) (y:DataW H×List MemPlace),DataW.trod enc P w 0 (fun _=>true) true fuel t cs=some y→cs.length=1):IW enc P w t 1 fun us=>∃ u,us=[u]∧Q u:=by
 intro fuel cs y aY;have ao:=ah _ _ _ aY
 match cs,ao with
 | [c],_ =>
   obtain ⟨u,aA,aG,aT,br⟩:=h _ _ _ aY;refine ⟨[u],⟨u,rfl,br⟩,rfl,rfl,fun j bH v hu ad=>?_⟩
   match j with
   | 0=>simp at hu ad;subst hu;subst ad;exact ⟨aA,aG,aT⟩
   | j+1=>simp at hu
theorem TJ {t:TypeId} {fs:Array Field} {H_:List (I→Prop)} (ax:P.underlying t=some (.struct fs)) (ak:P.cellsOf t=fs.size) (aP:Np enc P w fs H_):IW enc P w t fs.size (Pe H_):=fun fuel cs y h=>by
 obtain ⟨us,ab,ae,aF⟩:=agn ax ak aP h;have:=ab.1;have:=aP.1;exact ⟨us,ab,by omega,by omega,aF⟩
theorem aad {base:Nat} {t:TypeId} {fs:Array Field} {bb:Nat} {Q:List I→Prop} (ax:P.underlying t=some (.struct fs)) (aP:IW enc P w t bb Q):Arg enc P w base t fun u=>∃ us,u=.agg us∧Q us:=by
 intro v d p ad ⟨n,a1⟩;unfold Value.okWide at ad;rw [ax] at ad;obtain ⟨cs,rfl,bR,_⟩:=ad;obtain ⟨us,ab,ae,GL,aF⟩:=aP _ _ _ a1;have ae:cs.toList.length=us.length:=by rw [ae];exact GL
 refine ⟨.agg us,rfl,.agg us cs (by simpa using ae) (fun u hu=>?_) (fun v ad=>?_) fun j u v hu ad=>?_,us,rfl,ab⟩
 ·obtain ⟨j,aw⟩:=sX.1 hu;have aR:j<cs.toList.length:=by rw [ae];exact (sa.1 aw).1
  exact (aF j u _ aw (si aR)).1
 ·obtain ⟨j,aw⟩:=sX.1 ad;have aR:j<us.length:=by rw [←ae];exact (sa.1 aw).1
  exact (aF j _ v (si aR) aw).2.1
 ·exact (aF j u v hu (by show cs.toList[j]?=some v;simpa using ad)).2.2
theorem aaF {t e:TypeId} {bb:Nat} {Q:List I→Prop} (ax:P.underlying t=some (.slice e)) (ak:P.cellsOf e=bb) (aQ:0<bb) (aP:IW enc P w e bb Q) :
  Jq enc P w t fun u=>∃ L:List (List I),u=.av L.flatten L.length .shared∧L.length≤maxLen∧∀ us∈L,Q us:=by
 intro fuel v x h;rcases Deep.open_slice ax h with ⟨ad,_⟩ | ⟨a,len,cap,m,n,D,Ph,ad,_,ao,hm,pQ,_,aj⟩
 ·injection ad with ad _;subst ad;exact ⟨_,rfl,rfl,.b3 _ _,[],rfl,sC _,by simp⟩
 ·injection ad with ad _;subst ad;have pQ:m=cap:=pQ;by_cases CL:cap=0
  ·(subst CL;obtain rfl:len=0:=by omega);exact ⟨_,rfl,rfl,.b3 _ _,[],rfl,sC _,by simp⟩
  ·have each:∀ i,i<len→∃ q:List I×List Value,Q q.1∧q.1.length=bb∧q.2.length=bb∧w.cells? 0 (a.add (i*bb)) bb=some q.2∧∀ (j:Nat) (u:I) (v:Value),q.1[j]?=some u→q.2[j]?=some v→u.plain=true∧v.oneCell'=true∧Rel [] (S0 w) w u v:=fun i hi=>by
    obtain ⟨c_,ab,ae⟩:=aj i (by omega);rw [ak] at ab;obtain ⟨us,bm,cw,e2,lQ⟩:=aP _ _ _ ae;exact ⟨(us,c_),bm,cw,e2,ab,lQ⟩
   obtain ⟨q0,_,_,NM,_⟩:∃ q:List Value,True∧True∧w.cells? 0 (a.add (0*bb)) bb=some q∧True:=by
    obtain ⟨c_,ab,_⟩:=aj 0 (by omega);rw [ak] at ab;exact ⟨c_,trivial,trivial,ab,trivial⟩
   obtain ⟨b,o,sp⟩:=a;have ah:sp=none:=by
    obtain ⟨_,hlen,bz⟩:=World.cells?_some NM;have:=bz 0 aQ;rw [si (by omega)] at this;simpa [Addr.add] using World.cell?_spot this
   subst ah;obtain ⟨U,Hu⟩:=Deep.choose_lt (α:=List I×List Value) (n:=len) (p:=fun i q=>Q q.1∧q.1.length=bb∧q.2.length=bb∧w.cells? 0 (Addr.add ⟨b,o,none⟩ (i*bb)) bb=some q.2∧∀ (j:Nat) (u:I) (v:Value),q.1[j]?=some u→q.2[j]?=some v→u.plain=true∧v.oneCell'=true∧Rel [] (S0 w) w u v) each;have abz:∀ i,i<len→(U i).1.length=bb:=fun i hi=>(Hu i hi).2.1;have c1:∀ l∈((List.range len).map fun i=>(U i).1),l.length=bb:=fun l c'=>by
    obtain ⟨i,hi,rfl⟩:=sD.1 c';exact abz i (sH.1 hi)
   let V:Nat→Value:=fun j=>((U (j / bb)).2)[j % bb]!
   have key:∀ (j:Nat) (u:I),(((List.range len).map fun i=>(U i).1).flatten)[j]?=some u→w.cell? ⟨b,o+j,none⟩=some (V j)∧u.plain=true∧(V j).oneCell'=true∧Rel [] (S0 w) w u (V j):=fun j u aw=>by
    obtain ⟨l,cf,ca⟩:=TY c1 aQ aw;(have hi:j / bb<len:=by have:=(sa.1 cf).1;simpa using this);simp [hi] at cf;subst cf;obtain ⟨a7,B8,a9,bt,b6⟩:=Hu _ hi;have Ke:j % bb<bb:=Nat.mod_lt _ aQ;have ad:(U (j / bb)).2[j % bb]?=some (V j):=by
     show _=some ((U (j / bb)).2[j % bb]!);rw [si (by omega),getElem!_pos _ _ (by omega)]
    obtain ⟨_,_,bz⟩:=World.cells?_some bt;have JN:=bz (j % bb) Ke;rw [ad] at JN;have e:(Addr.add (Addr.add ⟨b,o,none⟩ (j / bb*bb)) (j % bb))=⟨b,o+j,none⟩:=by
     simp only [add_lit];congr 1;have:=Nat.div_add_mod' j bb;omega
    rw [e] at JN;exact ⟨JN,b6 _ _ _ ca ad⟩
   refine ⟨.av ((List.range len).map fun i=>(U i).1).flatten len .shared,rfl,rfl,.av _ _ _ b o cap V (by simp) ao (by simp) (fun j u aw=>?_) (fun j u aw=>?_),(List.range len).map fun i=>(U i).1,by simp,by simp;omega,fun us hu=>?_⟩
   ·obtain ⟨aJ,aN,cb,_⟩:=key j u aw;exact ⟨⟨_,aJ⟩,aJ,aN,cb⟩
   ·exact (key j u aw).2.2.2
   ·obtain ⟨j,aw,rfl⟩:=sD.1 hu;exact (Hu j (sH.1 aw)).1
end
section
variable {H:Type} {enc:TypeId×Value→H} {w:World} {base:Nat}
def KC:I→Prop:=fun u=>∃ x,u=h0 x∧IE x
theorem Nw:Jq enc Tryz.prog w 2 KC:=fun n v y h=>by
 obtain ⟨u,a,b,c,x,rfl,d⟩:=TI (P:=Tryz.prog) Tryz.underlying2 n v y h;exact ⟨_,a,b,c,x,rfl,wf_i64 d⟩
theorem VH {us:List I} (h:Pe [KC,KC] us):∃ p:Int×Int,us=p7 p∧IE p.1∧IE p.2:=by
 obtain ⟨ao,h⟩:=h
 match us,ao with
 | [a,b],_ =>
   obtain ⟨x,rfl,aj⟩:=h 0 _ _ rfl rfl;obtain ⟨y,rfl,aY⟩:=h 1 _ _ rfl rfl;exact ⟨(x,y),rfl,aj,aY⟩
def SA (us:List I):Prop:=∃ p:Int×Int,us=p7 p∧IE p.1∧IE p.2
theorem IW.mono {P:Program} {t:TypeId} {n:Nat} {Q R:List I→Prop} (h:IW enc P w t n Q) (k:∀ us,Q us→R us):IW enc P w t n R:=fun fuel cs y aY=>by
 obtain ⟨us,ab,ae⟩:=h fuel cs y aY;exact ⟨us,k us ab,ae⟩
theorem abd : Np enc Tryz.prog w #[{ name := "Pull", type := 2, offset := 0, embedded := false, tag := "", pkgPath := "", byteOffset := 0 }, { name := "More", type := 2, offset := 1, embedded := false, tag := "", pkgPath := "", byteOffset := 8 }] [KC, KC] := ⟨rfl, fun i f q aP a_ => by
 match i with
 | 0=>simp at aP a_;subst aP;subst a_;exact ⟨rfl,by kernel_rfl,Nw⟩
 | 1=>simp at aP a_;subst aP;subst a_;exact ⟨rfl,by kernel_rfl,Nw⟩
 | i+2=>simp at a_⟩
theorem abc : Np enc Tryz.prog w #[{ name := "Lo", type := 2, offset := 0, embedded := false, tag := "", pkgPath := "", byteOffset := 0 }, { name := "Hi", type := 2, offset := 1, embedded := false, tag := "", pkgPath := "", byteOffset := 8 }] [KC, KC] := ⟨rfl, fun i f q aP a_ => by
 match i with
 | 0=>simp at aP a_;subst aP;subst a_;exact ⟨rfl,by kernel_rfl,Nw⟩
 | 1=>simp at aP a_;subst aP;subst a_;exact ⟨rfl,by kernel_rfl,Nw⟩
 | i+2=>simp at a_⟩
theorem aaK:IW enc Tryz.prog w 54 2 SA:=(TJ Tryz.underlying54 (by kernel_rfl) abd).mono fun _ h=>VH h
theorem aaI:IW enc Tryz.prog w 24 2 SA:=(TJ Tryz.underlying24 (by kernel_rfl) abc).mono fun _ h=>VH h
def Sx (bq:List (Int×Int)):Prop:=bq.length≤9223372036854775807∧∀ p∈bq,IE p.1∧IE p.2
abbrev Sz (bq:List (Int×Int)):I:=.av (bq.flatMap p7) bq.length .shared
theorem aaG:Jq enc Tryz.prog w 22 fun u=>∃ bq,u=Sz bq∧Sx bq:=fun n v y h=>by
 obtain ⟨u,a,b,c,L,rfl,ao,fq⟩:=aaF Tryz.underlying22 (by kernel_rfl) (by decide) aaK n v y h;obtain ⟨bq,rfl,aB⟩:=Vl (f:=p7) (R:=fun p:Int×Int=>IE p.1∧IE p.2) fun us hu=>by
  obtain ⟨p,e,ab,ae⟩:=fq us hu;exact ⟨p,e,ab,ae⟩
 refine ⟨_,a,b,c,bq,?_,by have:=Vm ao;simpa using this,aB⟩;simp [Sz,List.flatMap_def]
structure Ze (p:(List (Int×Int))×(Int×Int)):Prop where
 s:Sx p.1
 lo:IE p.2.1
 hi:IE p.2.2
theorem aet (fuel:Nat) (cs:List Value) (y:DataW H×List MemPlace) (h:DataW.trod enc Tryz.prog w 0 (fun _=>true) true fuel 22 cs=some y):cs.length=1:=by
 rcases Deep.open_slice Tryz.underlying22 h with ⟨ad,_⟩ | ⟨a,len,cap,m,n,D,Ph,ad,_⟩
 ·rw [ad];rfl
 ·rw [ad];rfl
theorem aae:Arg enc Tryz.prog w base 26 fun u=>∃ p:(List (Int×Int))×(Int×Int),u=.agg [.av (p.1.flatMap p7) p.1.length .shared,h0 p.2.1,h0 p.2.2]∧Ze p:=by
 intro v d p ad a1;obtain ⟨u,a,b,us,rfl,x,y,rfl,⟨fA,rfl,bq,rfl,kR⟩,⟨aa1,rfl,ab,ae⟩⟩:=aad (P:=Tryz.prog) (enc:=enc) (w:=w) (base:=base) Tryz.underlying26 (aaL Tryz.underlying26 (by kernel_rfl) rfl rfl (by kernel_rfl) (by kernel_rfl) (aaJ aaG aet) aaI) v d p ad a1;exact ⟨_,a,b,(bq,aa1),rfl,kR,ab,ae⟩
theorem aag:Arg enc Tryz.prog w base 44 fun u=>∃ l,u=Mm l∧Sy l:=aaf Tryz.underlying44 (aaD Tryz.underlying44 (by kernel_rfl) Tryz.underlying5)
end
end Go.Proofs.YtkoioidpbbbaiaaGreat.Ab


namespace Go.Proofs.YtkoioidpbbbaiaaGreat.Ab
open Go
set_option maxRecDepth 20000
set_option maxHeartbeats 4000000
noncomputable def Y9:gE :=
 p2 [qd 4 0] (p2 [p1 5 1,p1 6 0,p0 7 [.Bs 6] .z4,qz 8 7 0,qz 9 8 0,qg 10 9,qT 11 10,qw 12 11 2 .quo,qm 13 5 12 .sub,p1 4 13] .ret)
theorem ad8:ql Tryz.prog Tq 77=some (Y9,14,[.tmp 4]):=by kernel_rfl
def J3 (b:((qk×(Int×Int))×Unit)) (JS:Int):Option Int :=
 qs ((2:Int)≠0) <|
 some (w (JS-(w ((b.1.1.length:Int).tdiv (2:Int)))))
theorem Kz {b:((qk×(Int×Int))×Unit)} {JS:Int} {v:Int} (h:J3 b JS=some v):qx 77 [(.bS [(.av (b.1.1.flatMap p7) b.1.1.length .shared),(h0 b.1.2.1),(h0 b.1.2.2),Hk]),(h0 JS)] (h0 v):=by
 refine qK eG ad8 rfl rfl fun Q bp=>?_;have jJ:qH [.tmp 4] Q (fun v=>(h0 v)) v:=fun T H bE=>bp _ T H bE;unfold J3 at h;unfold Y9;conv=>whnf
 refine qW h id fun gM h=>?_;conv=>whnf
 exact qe h jJ rfl rfl

noncomputable def OX:gE :=
 .loop (some (p8 false [0,2,5,2,10])) (p2 [p0 9 [.nc 8,.nc 7] (.bin .lss)] (.seq (.cond (.nc 9) .skip (.exit 0)) (.seq (.block 1 (p2 [p3 10 8,p1 5 10] (p2 [p3 11 1,p3 12 0,p3 13 5,q5 14 12 13 1,qg 15 14,qm 16 11 15 .eql] (.cond (.nc 16) (p2 [p1 17 5,p1 4 17] .ret) .skip)))) (qF [qP 18 8 1,p1 8 18]))))
noncomputable def Yz:gE :=
 p2 [qd 4 0] (.seq (p2 [p3 6 0,qT 7 6,qd 8 0] (.block 0 OX)) (p2 [qd 4 (-1)] .ret))
theorem adz:ql Tryz.prog Pm 109=some (Yz,19,[.tmp 4]):=by kernel_rfl
def Ko (s:p9) (H6:Int) (p_:Unit→Option Int):Nat→Int→Option Int
 | 0,_=>none
 | m+1,s1 =>
   if (decide (s1<(s.length:Int)))=true then
    qs (0≤s1∧s1<(s.length:Int)) <|
    if (decide (H6=(ix s s1)))=true then
     some s1
    else
     Ko s H6 p_ m (w (s1+(1:Int)))
   else
    p_ ()
def OH (s:p9) (H6:Int):Option Int :=
 Ko s H6 (fun _ =>
   some (-1:Int)) qi (0:Int)
theorem ahf {s:p9} {H6:Int} {p_:Unit→Option Int} {s1:Int} {v:Int} {Q:Hr}   (jJ:qH [.tmp 4] Q (fun v=>(h0 v)) v) (rf:∀ (qf:List I),p_ ()=some v→ry 19 [] qf→Q (.exit 0) qf []) {T:List I} (b0:eZ (p8 false [0,2,5,2,10]) T=qa 19 [(0,(qG s .shared)),(1,(h0 H6)),(7,(h0 (s.length:Int))),(8,(h0 s1))]) (h:Ko s H6 p_ qi s1=some v) :
  dQ Tryz.prog Pm 109 0 none OX T [] Q:=by
 unfold OX;refine wp_loop b0 ?_;refine .intro (fun m T H=>∃ (s1:Int),T=qa 19 [(0,(qG s .shared)),(1,(h0 H6)),(7,(h0 (s.length:Int))),(8,(h0 s1))]∧H=[]∧Ko s H6 p_ m s1=some v) qi ⟨s1,rfl,rfl,h⟩ ?_;clear h b0;rintro m T H ⟨s1,rfl,rfl,h⟩;cases m
 ·exact rT h
 rename_i m;rw [Ko.eq_2] at h;conv=>whnf
 refine bs h (fun gM h=>?_) fun gM h=>?_
 ·rw [gM];conv=>whnf
  refine qW h id fun gN h=>?_;rw [rb h0 s s1 gN];conv=>whnf
  refine bs h (fun qp h=>?_) fun qp h=>?_
  ·rw [qp];(conv=>whnf);exact qe h jJ rfl rfl
  ·rw [qp];(conv=>whnf);exact ⟨m,sE m,(w (s1+(1:Int))),rfl,rfl,h⟩
 ·rw [gM];conv=>whnf
  exact rf  _ h ⟨rfl,rfl⟩
theorem ahg {s:p9} {H6:Int} {v:Int} (h:OH s H6=some v):qx 109 [(.av (s.map h0) s.length .shared),(h0 H6)] (h0 v):=by
 refine qK eG adz rfl rfl fun Q bp=>?_;have jJ:qH [.tmp 4] Q (fun v=>(h0 v)) v:=fun T H bE=>bp _ T H bE;unfold OH at h;unfold Yz;obtain ⟨HN,qD⟩:∃ c,OX=c:=⟨_,rfl⟩;rw [qD];conv=>whnf
 subst qD;refine ahf ?_ ?_ (by exact rfl) h
 ·exact fun T H bE=>jJ T H bE
 ·intro  qf h qA;obtain ⟨rD,rfl⟩:=qA.ex;conv=>whnf
  exact qe h jJ rfl rfl

noncomputable def Yx:gE :=
 p2 [p0 4 [.cv (.bool false)] .mU] (p2 [p1 5 0,p1 6 1,p0 7 [.cv (.func 109 [] []),.nc 5,.nc 6] (.call 3),qw 8 7 0 .geq,p1 4 8] .ret)
theorem adx:ql Tryz.prog SM 100=some (Yx,9,[.tmp 4]):=by kernel_rfl
def M5 (s:p9) (H6:Int):Option Bool :=
 (OH s H6).bind fun aS =>
 some (decide ((0:Int)≤aS))
theorem ahc {s:p9} {H6:Int} {v:Bool} (h:M5 s H6=some v):qx 100 [(.av (s.map h0) s.length .shared),(h0 H6)] (B v):=by
 refine qK eG adx rfl rfl fun Q bp=>?_;have jJ:qH [.tmp 4] Q (fun v=>(B v)) v:=fun T H bE=>bp _ T H bE;unfold M5 at h;unfold Yx;conv=>whnf
 obtain ⟨aS,gM,h⟩:=p' h;refine ⟨qj.pl,_,ahg gM,?_⟩;conv=>whnf
 exact qe h jJ rfl rfl

noncomputable def So:gE :=
 .ov true [p0 47 [.nc 9] (.yM 1),qg 48 47,p3 49 0,p1 50 10,p0 51 [.cv (.func 77 [] []),.nc 49,.nc 50] (.call 3),qz 52 12 1,qg 53 52,qm 54 51 53 .mul,qm 55 48 54 .add,p0 56 [.nc 9] (.yM 1),⟨none,[.jq 56,.jq 55],none,none,.st 1⟩]
noncomputable def Sv:gE :=
 .seq (q8 [p0 37 [.nc 9] (.yM 0),qg 38 37,p3 39 0,p3 40 10,p0 41 [.cv (.func 77 [] []),.nc 39,.nc 40] (.call 3),p0 42 [.nc 12] (.yM 0),qg 43 42,qm 44 41 43 .mul,qm 45 38 44 .add,p0 46 [.nc 9] (.yM 0),⟨none,[.jq 46,.jq 45],none,none,.st 1⟩]) So
noncomputable def Su:gE :=
 .seq (p2 [p3 20 10,qw 21 20 2 .rem,p3 22 2,qm 23 21 22 .neq,p1 24 23,cl 25 [.nc 3] 24 false .mU,cl 26 [.nc 10] 24 false .mU,⟨some 27,[.cv (.func 100 [] []),.nc 25,.nc 26],some (24,false),none,.call 3⟩,p0 28 [.Bs 24,.cv (.bool true),.Bs 27] .pick] (.cond (.nc 28) (.exit 1) .skip)) (p2 [p3 29 0,p0 30 [.Bs 29] .z4,qz 31 30 0,qz 32 31 0,qg 33 32,p1 34 11,q5 35 33 34 2,p0 36 [.Bs 35] (.zE (.str 2)),p0 12 [] (.alloc [.int .i64 0,.int .i64 0]),⟨none,[.nc 12,.jq 36],none,none,.st 2⟩] Sv)
noncomputable def Nn:gE :=
 .ov false [qP 57 15 1,p1 15 57]
noncomputable def St:gE :=
 .seq (.block 1 (p2 [p3 17 15,p0 18 [.nc 13,.nc 15] (.kY 1),qg 19 18,p1 10 17,p1 11 19] Su)) Nn
noncomputable def Ss:gE :=
 .seq (.cond (.nc 16) .skip (.exit 0)) St
noncomputable def Pc:gE :=
 .loop (some (p8 false [0,1,1,2,4,2,3,3,43])) (p2 [p0 16 [.nc 15,.nc 14] (.bin .lss)] Ss)
noncomputable def Sr:gE :=
 .block 0 Pc
noncomputable def Sq:gE :=
 p2 [p0 58 [.Bs 9] (.zE (.str 2)),⟨none,[.nc 8,.jq 58],none,none,.st 2⟩] .ret
noncomputable def Sp:gE :=
 .seq (p2 [p1 13 1,p0 14 [.nc 13] .zJ,qd 15 0] Sr) Sq
noncomputable def Sn:gE :=
 p2 [p0 9 [] (.alloc [.int .i64 0,.int .i64 0])] Sp
noncomputable def Y_:gE :=
 p2 [p0 8 [] (.alloc [.int .i64 0,.int .i64 0])] Sn
theorem ad9:ql Tryz.prog PA 80=some (Y_,59,[.cell 8 (.str 2)]):=by kernel_rfl
def J4 (b:((qk×(Int×Int))×Unit)) (order:p9) (qu:Int) (without:p9) (p_:Int→Int→Option (Int×Int)):Nat→Int→Int→Int→Option (Int×Int)
 | 0,_,_,_=>none
 | m+1,s1,s2,dk =>
   if (decide (s1<(order.length:Int)))=true then
    qs (0≤s1∧s1<(order.length:Int)) <|
    qs ((2:Int)≠0) <|
    if (decide ((s1.tmod (2:Int))≠qu))=true then
     J4 b order qu without p_ m (w (s1+(1:Int))) s2 dk
    else
     (M5 without s1).bind fun aS =>
     if aS=true then
      J4 b order qu without p_ m (w (s1+(1:Int))) s2 dk
     else
      qs (0≤(ix order s1)∧(ix order s1)<(b.1.1.length:Int)) <|
      (J3 (b.1,()) s1).bind fun bj =>
      (J3 (b.1,()) s1).bind fun eK =>
      J4 b order qu without p_ m (w (s1+(1:Int))) (w (s2+(w (bj*(ix b.1.1 (ix order s1)).1)))) (w (dk+(w (eK*(ix b.1.1 (ix order s1)).2))))
   else
    p_ s2 dk
def Ll (b:((qk×(Int×Int))×Unit)) (order:p9) (qu:Int) (without:p9):Option (Int×Int) :=
 J4 b order qu without (fun yn oT =>
   some (yn,oT)) qi (0:Int) (0:Int) (0:Int)
theorem ah6 {b:((qk×(Int×Int))×Unit)} {order:p9} {qu:Int} {without:p9} {p_:Int→Int→Option (Int×Int)} {s1:Int} {s2:Int} {dk:Int} {v:(Int×Int)} {Q:Hr}   (rf:∀ (yn oT:Int) (J8:List ar) (qf:List I),p_ yn oT=some v→ry 59 [(8,(.ptr 0 0)),(9,(.ptr 1 0))] qf→Q (.exit 0) qf (ar.cells [(h0 (0:Int)),(h0 (0:Int))]::ar.cells [(h0 yn),(h0 oT)]::J8)) {T:List I} (b0:eZ (p8 false [0,1,1,2,4,2,3,3,43]) T=qa 59 [(0,(.bS [(re b.1.1 .shared),(h0 b.1.2.1),(h0 b.1.2.2),Hk])),(2,(h0 qu)),(3,(qG without .shared)),(8,(.ptr 0 0)),(9,(.ptr 1 0)),(13,(qG order .shared)),(14,(h0 (order.length:Int))),(15,(h0 s1))]) (h:J4 b order qu without p_ qi s1 s2 dk=some v) :
  dQ Tryz.prog PA 80 0 none Pc T [ar.cells [(h0 (0:Int)),(h0 (0:Int))],ar.cells [(h0 s2),(h0 dk)]] Q:=by
 unfold Pc;obtain ⟨ait,Uc⟩:∃ c,Ss=c:=⟨_,rfl⟩;rw [Uc];refine wp_loop b0 ?_;refine .intro (fun m T H=>∃ (s1 s2 dk:Int) (SF:List ar),T=qa 59 [(0,(.bS [(re b.1.1 .shared),(h0 b.1.2.1),(h0 b.1.2.2),Hk])),(2,(h0 qu)),(3,(qG without .shared)),(8,(.ptr 0 0)),(9,(.ptr 1 0)),(13,(qG order .shared)),(14,(h0 (order.length:Int))),(15,(h0 s1))]∧H=(ar.cells [(h0 (0:Int)),(h0 (0:Int))]::ar.cells [(h0 s2),(h0 dk)]::SF)∧J4 b order qu without p_ m s1 s2 dk=some v) qi ⟨s1,s2,dk,[],rfl,rfl,h⟩ ?_;clear h b0;rintro m T H ⟨s1,s2,dk,SF,rfl,rfl,h⟩;cases m
 ·exact rT h
 rename_i m;rw [J4.eq_2] at h;conv=>whnf
 subst Uc;unfold Ss;obtain ⟨aiu,Ud⟩:∃ c,St=c:=⟨_,rfl⟩;rw [Ud];conv=>whnf
 refine bs h (fun gM h=>?_) fun gM h=>?_
 ·rw [gM];conv=>whnf
  subst Ud;unfold St;obtain ⟨aiv,NG⟩:∃ c,Nn=c:=⟨_,rfl⟩;rw [NG];obtain ⟨aiw,Ue⟩:∃ c,Su=c:=⟨_,rfl⟩;rw [Ue];conv=>whnf
  refine qW h id fun gN h=>?_;rw [rb h0 order s1 gN];conv=>whnf
  subst Ue;unfold Su;obtain ⟨aix,Uf⟩:∃ c,Sv=c:=⟨_,rfl⟩;rw [Uf];conv=>whnf
  refine qW h id fun qp h=>?_;conv=>whnf
  refine bs h (fun qI h=>?_) fun qI h=>?_
  ·rw [qI];(conv=>whnf);subst NG;unfold Nn;(conv=>whnf);exact ⟨m,sE m,(w (s1+(1:Int))),s2,dk,_,rfl,rfl,h⟩
  ·rw [qI];(conv=>whnf);obtain ⟨aS,q9,h⟩:=p' h;refine ⟨qj.pl,_,ahc q9,?_⟩;(conv=>whnf);cases aS
   ·(conv=>whnf);replace h:=Ho rfl h;refine qW h id fun rH h=>?_;rw [IZ p7 2 Kj b.1.1 (ix order s1) rH];(conv=>whnf);refine Ew (x:=ar.cells [(h0 (0:Int)),(h0 (0:Int))]) (by first | exact qQ.h | rfl | (simp [sq,I.settle];done)) ?_
    (conv=>whnf);rw [HR];subst Uf;unfold Sv;obtain ⟨aiq,T'⟩:∃ c,So=c:=⟨_,rfl⟩;rw [T'];(conv=>whnf);obtain ⟨bj,qU,h⟩:=p' h;refine ⟨qj.pl,_,Kz qU,Hf,?_⟩;(conv=>whnf);refine Ew (x:=ar.cells [(h0 (ix b.1.1 (ix order s1)).1),(h0 (ix b.1.1 (ix order s1)).2)]) (by first | exact qQ.h | rfl | (simp [sq,I.settle];done)) ?_
    (conv=>whnf);subst T';unfold So;(conv=>whnf);obtain ⟨eK,rN,h⟩:=p' h;refine ⟨qj.pl,_,Kz rN,Hf,?_⟩;(conv=>whnf);refine Ew (x:=ar.cells [(h0 (ix b.1.1 (ix order s1)).1),(h0 (ix b.1.1 (ix order s1)).2)]) (by first | exact qQ.h | rfl | (simp [sq,I.settle];done)) ?_
    (conv=>whnf);subst NG;unfold Nn;(conv=>whnf);exact ⟨m,sE m,(w (s1+(1:Int))),(w (s2+(w (bj*(ix b.1.1 (ix order s1)).1)))),(w (dk+(w (eK*(ix b.1.1 (ix order s1)).2)))),_,rfl,rfl,h⟩
   ·(conv=>whnf);replace h:=Hp rfl h;subst NG;unfold Nn;(conv=>whnf);exact ⟨m,sE m,(w (s1+(1:Int))),s2,dk,_,rfl,rfl,h⟩
 ·rw [gM];conv=>whnf
  exact rf _ _ _ _ h ⟨rfl,rfl⟩
theorem OV {b:((qk×(Int×Int))×Unit)} {order:p9} {qu:Int} {without:p9} {v:(Int×Int)} (h:Ll b order qu without=some v):qx 80 [(.bS [(.av (b.1.1.flatMap p7) b.1.1.length .shared),(h0 b.1.2.1),(h0 b.1.2.2),Hk]),(.av (order.map h0) order.length .shared),(h0 qu),(.av (without.map h0) without.length .shared)] (.agg [(h0 v.1),(h0 v.2)]):=by
 refine qK eG ad9 rfl (HU (p6 rfl (p6 rfl rfl))) fun Q bp=>?_;have jJ:qH [.cell 8 (.str 2)] Q (fun v=>(.agg [(h0 v.1),(h0 v.2)])) v:=fun T H bE=>bp _ T H bE;unfold Ll at h;unfold Y_;obtain ⟨HN,qD⟩:∃ c,Sn=c:=⟨_,rfl⟩;rw [qD];conv=>whnf
 subst qD;unfold Sn;obtain ⟨KG,rQ⟩:∃ c,Sp=c:=⟨_,rfl⟩;rw [rQ];conv=>whnf
 subst rQ;unfold Sp;obtain ⟨aar,Mv⟩:∃ c,Sq=c:=⟨_,rfl⟩;rw [Mv];obtain ⟨ais,Ub⟩:∃ c,Sr=c:=⟨_,rfl⟩;rw [Ub];conv=>whnf
 subst Ub;unfold Sr;obtain ⟨air,Ua⟩:∃ c,Pc=c:=⟨_,rfl⟩;rw [Ua];conv=>whnf
 subst Ua;refine ah6 ?_ (by exact rfl) h;intro yn oT J8 qf h qA;obtain ⟨rD,rfl⟩:=qA.ex;conv=>whnf
 subst Mv;unfold Sq;conv=>whnf
 exact qe h jJ rfl rfl
end Go.Proofs.YtkoioidpbbbaiaaGreat.Ab


namespace Go.Proofs.YtkoioidpbbbaiaaGreat.Ab
open Go
noncomputable def afp:gE :=
 .ov false [p1 18 8,p0 19 [.nc 9] (.yM 0),qg 20 19,qz 21 9 1,qg 22 21,p3 23 2,qm 24 22 23 .mul,qm 25 20 24 .add,p0 26 [.nc 7,.Bs 18] (.zu 2 1),⟨none,[.jq 26,.jq 25],none,none,.st 1⟩]
noncomputable def afq:gE :=
 p2 [p3 14 0,p3 15 1,p3 16 8,p0 17 [.cv (.func 80 [] []),.nc 14,.nc 15,.nc 16,.cv (.av [] 0 .full)] (.call 3),p0 9 [] (.alloc [.int .i64 0,.int .i64 0]),⟨none,[.nc 9,.jq 17],none,none,.st 2⟩] afp
noncomputable def afr:gE :=
 .block 1 (p2 [p3 13 11,p1 8 13] afq)
noncomputable def afs:gE :=
 .seq (p2 [qd 11 0] (.block 0 (.loop (some (p8 false [0,3,3,2,3,1,17])) (p2 [p0 12 [.nc 11,.cv (.int .i64 2)] (.bin .lss)] (.seq (.cond (.nc 12) .skip (.exit 0)) (.seq afr (qF [qP 27 11 1,p1 11 27]))))))) (p2 [p0 28 [.Bs 7] (.zE (.arr 2)),⟨none,[.nc 6,.jq 28],none,none,.st 2⟩] .ret)
noncomputable def WJ:gE :=
 p2 [p0 6 [] (.alloc [.int .i64 0, .int .i64 0])] (p2 [p0 7 [] (.alloc [.int .i64 0, .int .i64 0])] (p2 [p0 10 [.nc 7] (.other (Oper.mk (some 10) (Op.slice 96 (Operand.tmp 7) none none none) 104 "press.go:44" (Array.mk []) none) 0), ⟨none, [.jq 10], none, none, .other (Oper.mk none (Op.call (Call.mk (Callee.builtin Builtin.clear) (Array.mk [Operand.tmp 10]) (Array.mk [104]))) 0 "press.go:44" (Array.mk [Edge.mk 0 Ground.data]) none) 0⟩] afs))
theorem ade:ql Go.Proofs.Tryz.prog Tj 63=some (WJ,29,[.cell 6 (.arr 2)]):=by kernel_rfl
noncomputable def afa:gE :=
 .ov false [p1 35 5,p3 36 9,p1 37 9,p0 38 [.Bs 37] (.un .neg),p0 39 [.jq 35,.jq 36,.jq 38] .max,p1 5 39]
noncomputable def afb:gE :=
 .block 3 (p2 [p0 34 [.nc 31, .nc 32] (.other (Oper.mk (some 34) (Op.index 96 (Operand.tmp 31) (Operand.tmp 32)) 2 "press.go:56" (Array.mk []) none) 0), p1 9 34] afa)
noncomputable def afc:gE :=
 p2 [p3 28 0,p3 29 1,p1 30 7,p0 31 [.cv (.func 63 [] []),.nc 28,.nc 29,.nc 30] (.call 3),qd 32 0] (.block 2 (.loop (some (p8 false [0,2,3,1,16,3,6,2,10])) (p2 [p0 33 [.nc 32,.cv (.int .i64 2)] (.bin .lss)] (.seq (.cond (.nc 33) .skip (.exit 2)) (.seq afb (qF [qP 40 32 1,p1 32 40]))))))
noncomputable def afd:gE :=
 .block 1 (p2 [p0 26 [.nc 22,.nc 24] (.kY 1),qg 27 26,p1 7 27] afc)
noncomputable def afe:gE :=
 .seq (.seq (q8 [p3 10 0,p0 11 [.Bs 10] .z4,qz 12 11 0,qz 13 12 1,qz 14 13 0,qg 15 14,p3 16 0,p0 17 [.Bs 16] .z4,qz 18 17 0,qz 19 18 1,qz 20 19 1,qg 21 20,p0 22 [.Bs 15,.Bs 21] (.yB 2 1 [.int .i64 0] [0,1]),p0 23 [.nc 22] .zJ,qd 24 0]) (.block 0 (.loop (some (p8 false [0,2,3,1,16,3,18])) (p2 [p0 25 [.nc 24,.nc 23] (.bin .lss)] (.seq (.cond (.nc 25) .skip (.exit 0)) (.seq afd (qF [qP 41 24 1,p1 24 41]))))))) (p2 [p1 42 5,p1 4 42] .ret)
noncomputable def Wu:gE :=
 p2 [qd 4 0] (p2 [qd 5 0] afe)
theorem ac7:ql Go.Proofs.Tryz.prog S9 41=some (Wu,43,[.tmp 4]):=by kernel_rfl
end Go.Proofs.YtkoioidpbbbaiaaGreat.Ab


namespace Go.Proofs.YtkoioidpbbbaiaaGreat.Ab
open Go
theorem abf {H:List ar} {id d:Nat} {l r:List I} (h:H[id]?=some (.cells l)) (hm:ea (bM H 0 H.length 0 d) (l.map I.view)=some r):bM H 0 H.length 0 (d+1) (.ptr id 0)=some (.bS r):=by
 have ab:=(sa.1 h).1;simp only [bM,Nat.not_lt_zero,if_false,h,tq,hm,se];rw [if_neg (by omega)]
theorem T5 {H:List ar} {lo id0 n d id:Nat} (h:¬ id<lo) (aX:id≠id0):bM H lo id0 n (d+1) (.map id)=some .a0:=by
 simp only [bM,if_neg h,if_neg aX]
end Go.Proofs.YtkoioidpbbbaiaaGreat.Ab


namespace Go.Proofs.YtkoioidpbbbaiaaGreat.Ab
open Go
set_option maxRecDepth 20000
set_option maxHeartbeats 4000000
def Lh (b:((List (Int×Int))×(Int×Int))×Unit) (order:List Int) (rh:Int):Option (Int×Int) :=
 (Ll b order 0 []).bind fun s=>(Ll b order 1 []).bind fun t=>some (w (s.1+w (s.2*rh)),w (t.1+w (t.2*rh)))
abbrev lp (b:((List (Int×Int))×(Int×Int))×Unit):I:=.bS [.av (b.1.1.flatMap p7) b.1.1.length .shared,h0 b.1.2.1,h0 b.1.2.2,Hk]
theorem Sj {b:((List (Int×Int))×(Int×Int))×Unit} {order:List Int} {rh:Int} {v:Int×Int} (h:Lh b order rh=some v):qx 63 [lp b,.av (order.map h0) order.length .shared,h0 rh] (.agg [h0 v.1,h0 v.2]):=by
 unfold Lh at h;obtain ⟨s,ah,h⟩:=p' h;obtain ⟨t,ax,h⟩:=p' h;obtain rfl:=Option.some.inj h;refine qK eG ade rfl (HU (p6 rfl (p6 rfl rfl))) fun Q bp=>?_;unfold WJ;conv=>whnf
 refine ⟨_,_,fun C=>rfl,?_⟩;conv=>whnf
 refine ⟨_,_,fun C=>rfl,?_⟩;conv=>whnf
 refine .intro (fun m T H=>(m=2∧T=qa 29 [(0,lp b),(1,.av (order.map h0) order.length .shared),(2,h0 rh),(6,.ptr 0 0),(7,.ptr 1 0),(11,h0 0)]∧H=[.cells [h0 0,h0 0],.cells [h0 0,h0 0]]) ∨
  (m=1∧T=qa 29 [(0,lp b),(1,.av (order.map h0) order.length .shared),(2,h0 rh),(6,.ptr 0 0),(7,.ptr 1 0),(11,h0 1)]∧H=[.cells [h0 0,h0 0],.cells [h0 (w (s.1+w (s.2*rh))),h0 0],.cells [h0 s.1,h0 s.2]]) ∨
  (m=0∧T=qa 29 [(0,lp b),(1,.av (order.map h0) order.length .shared),(2,h0 rh),(6,.ptr 0 0),(7,.ptr 1 0),(11,h0 2)]∧H=[.cells [h0 0,h0 0],.cells [h0 (w (s.1+w (s.2*rh))),h0 (w (t.1+w (t.2*rh)))],.cells [h0 s.1,h0 s.2],.cells [h0 t.1,h0 t.2]])) 2 (.inl ⟨rfl,rfl,rfl⟩) ?_
 rintro m T H (⟨rfl,rfl,rfl⟩ | ⟨rfl,rfl,rfl⟩ | ⟨rfl,rfl,rfl⟩)
 ·conv=>whnf
  refine ⟨qj.pl,_,OV ah,?_⟩;conv=>whnf
  refine ⟨by decide,?_⟩;conv=>whnf
  exact ⟨1,by decide,.inr (.inl ⟨rfl,rfl,rfl⟩)⟩
 ·conv=>whnf
  refine ⟨qj.pl,_,OV ax,?_⟩;conv=>whnf
  refine ⟨by decide,?_⟩;conv=>whnf
  exact ⟨0,by decide,.inr (.inr ⟨rfl,rfl,rfl⟩)⟩
 ·conv=>whnf
  refine ⟨sc 2,?_⟩;conv=>whnf
  refine bp _ _ _ ?_;exact ⟨.inr rfl,[.agg [h0 (w (s.1+w (s.2*rh))),h0 (w (t.1+w (t.2*rh)))]],rfl,_,yW (HU (p6 rfl (p6 rfl rfl))),rfl⟩
def J2 (b:((List (Int×Int))×(Int×Int))×Unit) (order:List Int):Option Int :=
 (Lh b order b.1.2.1).bind fun s=>(Lh b order b.1.2.2).bind fun t =>
  some (max (max (max (max (max (max (max (max 0 s.1) (w (-s.1))) s.2) (w (-s.2))) t.1) (w (-t.1))) t.2) (w (-t.2)))
theorem M' {b:((List (Int×Int))×(Int×Int))×Unit} {order:List Int} {v:Int} (h:J2 b order=some v):qx 41 [lp b,.av (order.map h0) order.length .shared] (h0 v):=by
 unfold J2 at h;obtain ⟨s,ah,h⟩:=p' h;obtain ⟨t,ax,h⟩:=p' h;obtain rfl:=Option.some.inj h;refine qK eG ac7 rfl rfl fun Q bp=>?_;unfold Wu;conv=>whnf
 refine .intro (fun m T H=>(m=2∧T=qa 43 [(0,lp b),(1,.av (order.map h0) order.length .shared),(5,h0 0),(22,.av [h0 b.1.2.1,h0 b.1.2.2] 2 (.own 1)),(23,h0 2),(24,h0 0)]∧H=[])∨(m=1∧T=qa 43 [(0,lp b),(1,.av (order.map h0) order.length .shared),(5,h0 (max (max (max (max 0 s.1) (w (-s.1))) s.2) (w (-s.2)))),(22,.av [h0 b.1.2.1,h0 b.1.2.2] 2 (.own 1)),(23,h0 2),(24,h0 1)]∧H=[])∨(m=0∧T=qa 43 [(0,lp b),(1,.av (order.map h0) order.length .shared),(5,h0 (max (max (max (max (max (max (max (max 0 s.1) (w (-s.1))) s.2) (w (-s.2))) t.1) (w (-t.1))) t.2) (w (-t.2)))),(22,.av [h0 b.1.2.1,h0 b.1.2.2] 2 (.own 1)),(23,h0 2),(24,h0 2)]∧H=[])) 2 (.inl ⟨rfl,rfl,rfl⟩) ?_;rintro m T H (⟨rfl,rfl,rfl⟩ | ⟨rfl,rfl,rfl⟩ | ⟨rfl,rfl,rfl⟩)
 ·conv=>whnf
  refine ⟨by decide,?_⟩;conv=>whnf
  refine ⟨qj.pl,_,Sj ah,?_⟩;conv=>whnf
  refine .intro (fun m T H=>(m=2∧T=qa 43 [(0,lp b),(1,.av (order.map h0) order.length .shared),(5,h0 0),(22,.av [h0 b.1.2.1,h0 b.1.2.2] 2 (.own 1)),(23,h0 2),(24,h0 0),(31,.agg [h0 s.1,h0 s.2]),(32,h0 0)]∧H=[])∨(m=1∧T=qa 43 [(0,lp b),(1,.av (order.map h0) order.length .shared),(5,h0 (max (max 0 s.1) (w (-s.1)))),(22,.av [h0 b.1.2.1,h0 b.1.2.2] 2 (.own 1)),(23,h0 2),(24,h0 0),(31,.agg [h0 s.1,h0 s.2]),(32,h0 1)]∧H=[])∨(m=0∧T=qa 43 [(0,lp b),(1,.av (order.map h0) order.length .shared),(5,h0 (max (max (max (max 0 s.1) (w (-s.1))) s.2) (w (-s.2)))),(22,.av [h0 b.1.2.1,h0 b.1.2.2] 2 (.own 1)),(23,h0 2),(24,h0 0),(31,.agg [h0 s.1,h0 s.2]),(32,h0 2)]∧H=[])) 2 (.inl ⟨rfl,rfl,rfl⟩) ?_;rintro m T H (⟨rfl,rfl,rfl⟩ | ⟨rfl,rfl,rfl⟩ | ⟨rfl,rfl,rfl⟩)
  ·(conv=>whnf);refine ⟨_,_,fun C=>rfl,?_⟩;(conv=>whnf);exact ⟨1,by decide,.inr (.inl ⟨rfl,rfl,rfl⟩)⟩
  ·(conv=>whnf);refine ⟨_,_,fun C=>rfl,?_⟩;(conv=>whnf);exact ⟨0,by decide,.inr (.inr ⟨rfl,rfl,rfl⟩)⟩
  ·(conv=>whnf);exact ⟨1,by decide,.inr (.inl ⟨rfl,rfl,rfl⟩)⟩
 ·conv=>whnf
  refine ⟨by decide,?_⟩;conv=>whnf
  refine ⟨qj.pl,_,Sj ax,?_⟩;conv=>whnf
  refine .intro (fun m T H=>(m=2∧T=qa 43 [(0,lp b),(1,.av (order.map h0) order.length .shared),(5,h0 (max (max (max (max 0 s.1) (w (-s.1))) s.2) (w (-s.2)))),(22,.av [h0 b.1.2.1,h0 b.1.2.2] 2 (.own 1)),(23,h0 2),(24,h0 1),(31,.agg [h0 t.1,h0 t.2]),(32,h0 0)]∧H=[])∨(m=1∧T=qa 43 [(0,lp b),(1,.av (order.map h0) order.length .shared),(5,h0 (max (max (max (max (max (max 0 s.1) (w (-s.1))) s.2) (w (-s.2))) t.1) (w (-t.1)))),(22,.av [h0 b.1.2.1,h0 b.1.2.2] 2 (.own 1)),(23,h0 2),(24,h0 1),(31,.agg [h0 t.1,h0 t.2]),(32,h0 1)]∧H=[])∨(m=0∧T=qa 43 [(0,lp b),(1,.av (order.map h0) order.length .shared),(5,h0 (max (max (max (max (max (max (max (max 0 s.1) (w (-s.1))) s.2) (w (-s.2))) t.1) (w (-t.1))) t.2) (w (-t.2)))),(22,.av [h0 b.1.2.1,h0 b.1.2.2] 2 (.own 1)),(23,h0 2),(24,h0 1),(31,.agg [h0 t.1,h0 t.2]),(32,h0 2)]∧H=[])) 2 (.inl ⟨rfl,rfl,rfl⟩) ?_;rintro m T H (⟨rfl,rfl,rfl⟩ | ⟨rfl,rfl,rfl⟩ | ⟨rfl,rfl,rfl⟩)
  ·(conv=>whnf);refine ⟨_,_,fun C=>rfl,?_⟩;(conv=>whnf);exact ⟨1,by decide,.inr (.inl ⟨rfl,rfl,rfl⟩)⟩
  ·(conv=>whnf);refine ⟨_,_,fun C=>rfl,?_⟩;(conv=>whnf);exact ⟨0,by decide,.inr (.inr ⟨rfl,rfl,rfl⟩)⟩
  ·(conv=>whnf);exact ⟨0,by decide,.inr (.inr ⟨rfl,rfl,rfl⟩)⟩
 ·conv=>whnf
  exact bp _ _ _ ⟨.inr rfl,_,rfl,_,yW rfl,rfl⟩

noncomputable def Y':gE :=
 p2 [qd 4 0] (p2 [p1 5 0,p1 6 1,qw 7 6 2 .quo,qm 8 5 7 .sub,p1 4 8] .ret)
theorem ad_:ql Tryz.prog Ts 82=some (Y',9,[.tmp 4]):=by kernel_rfl
def Mg (JS KQ:Int):Option Int :=
 qs ((2:Int)≠0) <|
 some (w (JS-(w (KQ.tdiv (2:Int)))))
theorem ah9 {JS:Int} {KQ:Int} {v:Int} (h:Mg JS KQ=some v):qx 82 [(h0 JS),(h0 KQ)] (h0 v):=by
 refine qK eG ad_ rfl rfl fun Q bp=>?_;have jJ:qH [.tmp 4] Q (fun v=>(h0 v)) v:=fun T H bE=>bp _ T H bE;unfold Mg at h;unfold Y';conv=>whnf
 refine qW h id fun gM h=>?_;conv=>whnf
 exact qe h jJ rfl rfl

noncomputable def O':gE :=
 .loop (some (p8 false [1,4,4,2,34])) (.seq (p2 [p3 12 10,p3 13 1,qT 14 13,qm 15 12 14 .lss] (.cond (.nc 15) .skip (.exit 0))) (.seq (.block 1 (p2 [p3 18 10,qw 19 18 2 .rem,p3 20 3,qm 21 19 20 .eql] (.cond (.nc 21) (.seq (q8 [p0 22 [.nc 4] (.yM 0),qg 23 22,p3 24 1,p3 25 10,q5 26 24 25 1,qg 27 26,q5 28 23 27 2,p0 29 [.Bs 28] (.zE (.str 2)),p0 11 [] (.alloc [.int .i64 0,.int .i64 0]),⟨none,[.nc 11,.jq 29],none,none,.st 2⟩]) (q8 [p1 30 9,p3 31 10,p3 32 1,qT 33 32,p0 34 [.cv (.func 82 [] []),.nc 31,.nc 33] (.call 3),p0 35 [.nc 11] (.yM 0),qg 36 35,p0 37 [.nc 11] (.yM 1),qg 38 37,p3 39 2,qm 40 38 39 .mul,qm 41 36 40 .add,qm 42 34 41 .mul,qm 43 30 42 .add,p1 9 43])) .skip))) (qF [p1 16 10,qP 17 16 1,p1 10 17])))
noncomputable def Y3:gE :=
 p2 [p0 4 [.jq 0] .box,qd 8 0] (p2 [qd 9 0] (.seq (p2 [qd 10 0] (.block 0 O')) (p2 [p1 44 9,p1 8 44] .ret)))
theorem ad2:ql Tryz.prog Pw 65=some (Y3,45,[.tmp 8]):=by kernel_rfl
def Ky (p:(qk×(Int×Int))) (order:p9) (rh qu:Int) (p_:Int→Option Int):Nat→Int→Int→Option Int
 | 0,_,_=>none
 | m+1,s1,s2 =>
   if (decide (s2<(order.length:Int)))=true then
    qs ((2:Int)≠0) <|
    if (decide ((s2.tmod (2:Int))=qu))=true then
     qs (0≤s2∧s2<(order.length:Int)) <|
     qs (0≤(ix order s2)∧(ix order s2)<(p.1.length:Int)) <|
     (Mg s2 (order.length:Int)).bind fun aS =>
     Ky p order rh qu p_ m (w (s1+(w (aS*(w ((ix p.1 (ix order s2)).1+(w ((ix p.1 (ix order s2)).2*rh)))))))) (w (s2+(1:Int)))
    else
     Ky p order rh qu p_ m s1 (w (s2+(1:Int)))
   else
    p_ s1
def Jp (p:(qk×(Int×Int))) (order:p9) (rh qu:Int):Option Int :=
 Ky p order rh qu (fun yn =>
   some yn) qi (0:Int) (0:Int)
theorem ah2 {p:(qk×(Int×Int))} {order:p9} {rh:Int} {qu:Int} {p_:Int→Option Int} {s1:Int} {s2:Int} {v:Int} {Q:Hr}   (rf:∀ (yn:Int) (bx:ar) (J8:List ar) (qf:List I),p_ yn=some v→ry 45 [(9,(h0 yn))] qf→Q (.exit 0) qf (bx::J8)) {T:List I} (b0:eZ (p8 false [1,4,4,2,34]) T=qa 45 [(1,(qG order .shared)),(2,(h0 rh)),(3,(h0 qu)),(4,(.ptr 0 0)),(9,(h0 s1)),(10,(h0 s2))]) (h:Ky p order rh qu p_ qi s1 s2=some v) :
  dQ Tryz.prog Pw 65 0 none O' T [ar.cells [(re p.1 .shared),(h0 p.2.1),(h0 p.2.2)]] Q:=by
 unfold O';refine wp_loop b0 ?_;refine .intro (fun m T H=>∃ (s1 s2:Int) (SE:List ar),T=qa 45 [(1,(qG order .shared)),(2,(h0 rh)),(3,(h0 qu)),(4,(.ptr 0 0)),(9,(h0 s1)),(10,(h0 s2))]∧H=(ar.cells [(re p.1 .shared),(h0 p.2.1),(h0 p.2.2)]::SE)∧Ky p order rh qu p_ m s1 s2=some v) qi ⟨s1,s2,[],rfl,rfl,h⟩ ?_;clear h b0;rintro m T H ⟨s1,s2,SE,rfl,rfl,h⟩;cases m
 ·exact rT h
 rename_i m;rw [Ky.eq_2] at h;conv=>whnf
 refine bs h (fun gM h=>?_) fun gM h=>?_
 ·rw [gM];conv=>whnf
  refine qW h id fun gN h=>?_;conv=>whnf
  refine bs h (fun qp h=>?_) fun qp h=>?_
  ·rw [qp];(conv=>whnf);refine qW h id fun qI h=>?_;rw [rb h0 order s2 qI];(conv=>whnf);refine qW h id fun q9 h=>?_;rw [IZ p7 2 Kj p.1 (ix order s2) q9];(conv=>whnf);refine Ew (x:=ar.cells [(h0 (0:Int)),(h0 (0:Int))]) (by first | exact qQ.h | rfl | (simp [sq,I.settle];done)) ?_
   (conv=>whnf);rw [HR];obtain ⟨aS,rH,h⟩:=p' h;refine ⟨(p6 rfl (p6 rfl rfl)),_,ah9 rH,Hf,?_⟩;(conv=>whnf);refine Ew (x:=ar.cells [(h0 (ix p.1 (ix order s2)).1),(h0 (ix p.1 (ix order s2)).2)]) (by first | exact qQ.h | rfl | (simp [sq,I.settle];done)) ?_
   (conv=>whnf);refine Ew (x:=ar.cells [(h0 (ix p.1 (ix order s2)).1),(h0 (ix p.1 (ix order s2)).2)]) (by first | exact qQ.h | rfl | (simp [sq,I.settle];done)) ?_
   (conv=>whnf);exact ⟨m,sE m,(w (s1+(w (aS*(w ((ix p.1 (ix order s2)).1+(w ((ix p.1 (ix order s2)).2*rh)))))))),(w (s2+(1:Int))),_,rfl,rfl,h⟩
  ·rw [qp];(conv=>whnf);exact ⟨m,sE m,s1,(w (s2+(1:Int))),_,rfl,rfl,h⟩
 ·rw [gM];conv=>whnf
  exact rf _ _ _ _ h ⟨rfl,rfl⟩
theorem Yo {p:(qk×(Int×Int))} {order:p9} {rh:Int} {qu:Int} {v:Int} (h:Jp p order rh qu=some v):qx 65 [(.agg [(.av (p.1.flatMap p7) p.1.length .shared),(h0 p.2.1),(h0 p.2.2)]),(.av (order.map h0) order.length .shared),(h0 rh),(h0 qu)] (h0 v):=by
 refine qK eG ad2 rfl rfl fun Q bp=>?_;have jJ:qH [.tmp 8] Q (fun v=>(h0 v)) v:=fun T H bE=>bp _ T H bE;unfold Jp at h;unfold Y3;obtain ⟨HN,qD⟩:∃ c,O'=c:=⟨_,rfl⟩;rw [qD];conv=>whnf
 subst qD;refine ah2 ?_ (by exact rfl) h;intro yn bx J8 qf h qA;obtain ⟨rD,rfl⟩:=qA.ex;conv=>whnf
 exact qe h jJ rfl rfl
end Go.Proofs.YtkoioidpbbbaiaaGreat.Ab


namespace Go.Proofs.YtkoioidpbbbaiaaGreat.Ab
open Go
set_option maxRecDepth 20000
set_option maxHeartbeats 1000000
abbrev qv:=Int×Int
def qE:Nat→(Nat→Int)→Int
 | 0,_=>0
 | n+1,g=>qE n g+g n
theorem Kl {n:Nat} {g h:Nat→Int} (e:∀ i,i<n→g i=h i):qE n g=qE n h:=by
 induction n with
 | zero=>rfl
 | succ n a8=>simp only [qE];rw [a8 fun i hi=>e i (by omega),e n (by omega)]
theorem MZ {n:Nat} {g:Nat→Int} {B:Int} (e:∀ i,i<n → -B≤g i∧g i≤B):-(n*B)≤qE n g∧qE n g≤n*B:=by
 induction n with
 | zero=>simp [qE]
 | succ n a8 =>
   obtain ⟨ab,ae⟩:=a8 fun i hi=>e i (by omega);obtain ⟨aF,ba⟩:=e n (by omega);simp only [qE]
   have:((n+1:Nat):Int)*B=n*B+B:=by rw [Int.natCast_add,Int.add_mul];simp
   omega
theorem ago (n:Nat) (g h:Nat→Int):qE n (fun i=>g i+h i)=qE n g+qE n h:=by
 induction n with
 | zero=>rfl
 | succ n a8=>simp only [qE,a8];omega
theorem Ov (n:Nat) (g:Nat→Int) (c:Int):qE n (fun i=>c*g i)=c*qE n g:=by
 induction n with
 | zero=>simp [qE]
 | succ n a8=>simp only [qE,a8,Int.mul_add]
theorem H4 {a b A B:Int} (h:-A≤a∧a≤A) (k:-B≤b∧b≤B):-(A*B)≤a*b∧a*b≤A*B:=by
 have ab:a.natAbs*b.natAbs≤A.natAbs*B.natAbs:=Nat.mul_le_mul (by omega) (by omega);have ae:(a*b).natAbs≤A.natAbs*B.natAbs:=by rw [Int.natAbs_mul];exact ab
 have aF:((A.natAbs*B.natAbs:Nat):Int)=A*B:=by
  rw [Int.natCast_mul,Int.natAbs_of_nonneg (by omega),Int.natAbs_of_nonneg (by omega)]
 omega
def qt (S:List qv) (o:List Int) (i:Nat):qv:=ix S (ix o (i:Int))
def qy (n i:Nat):Int:=(i:Int)-((n / 2:Nat):Int)
def qL (S:List qv) (o:List Int) (a:Nat) (W:List Int) (f:qv→Int):Int:=qE o.length fun i=>if i % 2=a∧(i:Int) ∉ W then qy o.length i*f (qt S o i) else 0
def rp (S:List qv) (o:List Int) (a:Nat) (f:qv→Int):Int:=qE o.length fun i=>if i % 2=a then qy o.length i*f (qt S o i) else 0
theorem MF (S:List qv) (o:List Int) (a:Nat) (f:qv→Int):qL S o a [] f=rp S o a f:=Kl fun i _=>by simp
def JI (S:List qv) (o:List Int):Prop:=∀ i:Nat,i<o.length→0≤ix o (i:Int)∧ix o (i:Int)<(S.length:Int)
def qM (s:qv):Prop:=0≤s.1∧s.1≤100∧-10≤s.2∧s.2≤10
instance (s:qv):Decidable (qM s):=by unfold qM;exact inferInstance
theorem IC {S:List qv} {o:List Int} (cp:∀ s∈S,qM s) (jJ:JI S o) {i:Nat} (hi:i<o.length):qM (qt S o i):=cp _ (Je (jJ i hi))
def q3 (d:Int) (s:qv):Int:=s.1+s.2*d
theorem Lr {d:Int} {s:qv} (ah:qM s) (a1:0≤d∧d≤50):-600≤q3 d s∧q3 d s≤600:=by
 have:=H4 (a:=s.2) (b:=d) (A:=10) (B:=50) ⟨ah.2.2.1,ah.2.2.2⟩ ⟨by omega,a1.2⟩;have ab:=ah.1;have ae:=ah.2.1;unfold q3;omega
theorem LI {n i:Nat} (hi:i<n) (aI:n≤10):-10≤qy n i∧qy n i≤10:=by unfold qy;omega
theorem Ox {n i:Nat} {v B:Int} {q:Prop} [Decidable q] (hi:i<n) (aI:n≤10) (Ix:0≤B) (h:-B≤v∧v≤B):-(10*B)≤(if q then qy n i*v else 0)∧(if q then qy n i*v else 0)≤10*B:=by
 by_cases ab:q
 ·rw [if_pos ab];exact H4 (LI hi aI) h
 ·rw [if_neg ab];omega
theorem QM {S:List qv} {o:List Int} {a:Nat} {W:List Int} {f:qv→Int} {B:Int} (aq:o.length≤10) (Ix:0≤B) (h:∀ i,i<o.length → -B≤f (qt S o i)∧f (qt S o i)≤B):-(100*B)≤qL S o a W f∧qL S o a W f≤100*B:=by
 have:=MZ (n:=o.length) (g:=fun i=>if i % 2=a∧(i:Int) ∉ W then qy o.length i*f (qt S o i) else 0) (B:=10*B) fun i hi=>Ox hi aq Ix (h i hi);have ae:=Int.mul_le_mul_of_nonneg_right (show (o.length:Int)≤10 by omega) (show 0≤10*B by omega);unfold qL;omega
theorem aei {S:List qv} {o:List Int} {a:Nat} {f:qv→Int} {B:Int} (aq:o.length≤10) (Ix:0≤B) (h:∀ i,i<o.length → -B≤f (qt S o i)∧f (qt S o i)≤B):-(100*B)≤rp S o a f∧rp S o a f≤100*B:=by
 rw [←MF];exact QM aq Ix h
theorem Yv {n i:Nat} (hi:i<n) (aI:n≤10):Mg (i:Int) (n:Int)=some (qy n i):=by
 unfold Mg;rw [qB (by decide)];have e:(n:Int).tdiv 2=((n / 2:Nat):Int):=by rw [Int.tdiv_eq_ediv_of_nonneg (by omega)];omega
 rw [e,qR (n:=((n / 2:Nat):Int)) (by omega),qR (by omega)];rfl
theorem M0 (i:Nat):(i:Int).tmod 2=((i % 2:Nat):Int):=by rw [Int.tmod_eq_emod_of_nonneg (by omega)];omega
theorem UZ {p:(List qv)×(Int×Int)} {o:List Int} {d:Int} {a:Nat} {kl:Int→Option Int} (cp:∀ s∈p.1,qM s) (jJ:JI p.1 o) (aq:o.length≤10) (a1:0≤d∧d≤50) :
  ∀ (m i:Nat),i≤o.length→o.length-i<m→Ky p o d (a:Int) kl m (qE i fun i=>if i % 2=a then qy o.length i*q3 d (qt p.1 o i) else 0) (i:Int)=kl (rp p.1 o a (q3 d))
 | 0,_,_,h=>absurd h (by omega)
 | m+1,i,hi,hm=>by
   rw [Ky];by_cases aR:i<o.length
   ·rw [if_pos (decide_eq_true (by omega)),qB (by decide),M0,H7 i (by omega)];have a8:=UZ (kl:=kl) (a:=a) cp jJ aq a1 m (i+1) (by omega) (by omega);by_cases a_:i % 2=a
    ·rw [if_pos (decide_eq_true (by omega)),qB (by omega),qB (jJ i aR),Yv aR aq,sb];have al:=IC cp jJ aR;have bm:=H4 (a:=(qt p.1 o i).2) (b:=d) (A:=10) (B:=50) ⟨al.2.2.1,al.2.2.2⟩ ⟨by omega,a1.2⟩;have cw:=Lr al a1;have e2:=H4 (LI aR aq) cw;have lQ:=MZ (n:=i) (g:=fun i=>if i % 2=a then qy o.length i*q3 d (qt p.1 o i) else 0) (B:=6000) fun j aw=>Ox (B:=600) (by omega) aq (by omega) (Lr (IC cp jJ (by omega)) a1);have e1:ix p.1 (ix o (i:Int))=qt p.1 o i:=rfl;rw [e1,qR (n:=(qt p.1 o i).2*d) (by omega)];rw [show (qt p.1 o i).1+(qt p.1 o i).2*d=q3 d (qt p.1 o i) from rfl,qR (n:=q3 d (qt p.1 o i)) (by omega),qR (n:=qy o.length i*q3 d (qt p.1 o i)) (by omega),qR (by omega)];simp only [qE,if_pos a_] at a8;exact a8
    ·rw [if_neg (by simpa using by omega)];simp only [qE,if_neg a_,uU] at a8;exact a8
   ·(obtain rfl:i=o.length:=by omega);rw [if_neg (by simp)];rfl
theorem Ie {n:Nat} (h:n≤1000000):n<qi:=by unfold qi;omega
theorem ah1 {p:(List qv)×(Int×Int)} {o:List Int} {d:Int} {a:Nat} (cp:∀ s∈p.1,qM s) (jJ:JI p.1 o) (aq:o.length≤10) (a1:0≤d∧d≤50):Jp p o d (a:Int)=some (rp p.1 o a (q3 d)):=by
 unfold Jp;exact UZ cp jJ aq a1 qi 0 (by omega) (Ie (by omega))
theorem OT {b:((List (Int×Int))×(Int×Int))×Unit} {n i:Nat} (aI:n≤10) (af:b.1.1.length=n) (hi:i<n):J3 b (i:Int)=some (qy n i):=by
 have:=Yv hi aI;unfold Mg at this;unfold J3;rw [af];exact this
theorem UJ {W:List Int} (mb:W.length≤1000) {v:Int}:∀ (m i:Nat),i≤W.length→W.length-i<m→(∀ j,j<i→ix W (j:Int)≠v)→∃ r,Ko W v (fun _=>some (-1:Int)) m (i:Int)=some r∧decide (0≤r)=decide (v∈W)
 | 0,_,_,h,_=>absurd h (by omega)
 | m+1,i,hi,hm,ad=>by
   rw [Ko];by_cases aR:i<W.length
   ·rw [if_pos (decide_eq_true (by omega)),qB (by omega)];by_cases he:v=ix W (i:Int)
    ·rw [if_pos (decide_eq_true he)];refine ⟨_,rfl,?_⟩;rw [decide_eq_true (by omega),decide_eq_true (by rw [he];exact Je (by omega))]
    ·rw [if_neg (by simpa using he),H7 i (by omega)];refine UJ mb m (i+1) (by omega) (by omega) fun j aw=>?_;by_cases gi:j=i
     ·subst gi;exact fun e=>he e.symm
     ·exact ad j (by omega)
   ·rw [if_neg (by simpa using by omega)];refine ⟨-1,rfl,?_⟩;rw [decide_eq_false (by omega),decide_eq_false];intro nO;obtain ⟨j,aw,e⟩:=List.getElem_of_mem nO;refine ad j (by omega) ?_;rw [ru aw];exact e
theorem ahb (W:List Int) (mb:W.length≤1000) (v:Int):M5 W v=some (decide (v∈W)):=by
 unfold M5 OH;obtain ⟨r,ab,ae⟩:=UJ (W:=W) mb (v:=v) qi 0 (by omega) (Ie (by omega)) (fun j aw=>absurd aw (by omega));have iR:Ko W v (fun _=>some (-1:Int)) qi 0=some r:=ab;rw [iR,sb,ae]
theorem U1 {b:((List (Int×Int))×(Int×Int))×Unit} {o:List Int} {W:List Int} {a:Nat} {kl:Int→Int→Option (Int×Int)} (cp:∀ s∈b.1.1,qM s) (jJ:JI b.1.1 o) (aq:o.length≤10) (aI:b.1.1.length=o.length) (mb:W.length≤1000) :
  ∀ (m i:Nat),i≤o.length→o.length-i<m →
    J4 b o (a:Int) W kl m (i:Int) (qE i fun i=>if i % 2=a∧(i:Int) ∉ W then qy o.length i*(qt b.1.1 o i).1 else 0) (qE i fun i=>if i % 2=a∧(i:Int) ∉ W then qy o.length i*(qt b.1.1 o i).2 else 0)=kl (qL b.1.1 o a W Prod.fst) (qL b.1.1 o a W Prod.snd)
 | 0,_,_,h=>absurd h (by omega)
 | m+1,i,hi,hm=>by
   rw [J4];by_cases aR:i<o.length
   ·rw [if_pos (decide_eq_true (by omega)),qB (by omega),qB (by decide),M0,H7 i (by omega)];have a8:=U1 (kl:=kl) (a:=a) (W:=W) cp jJ aq aI mb m (i+1) (by omega) (by omega);by_cases a_:i % 2=a
    ·rw [if_neg (by simpa using by omega),ahb W mb,sb];by_cases hw:(i:Int)∈W
     ·rw [if_pos (decide_eq_true hw)];simp only [qE,hw,not_true_eq_false,and_false,if_false,uU] at a8;exact a8
     ·rw [if_neg (by simpa using hw),qB (jJ i aR),OT aq aI aR,sb,sb];have al:=IC cp jJ aR;have e2:=H4 (LI aR aq) (b:=(qt b.1.1 o i).1) (B:=100) ⟨by have:=al.1;omega,al.2.1⟩;have aik:=H4 (LI aR aq) (b:=(qt b.1.1 o i).2) (B:=10) ⟨al.2.2.1,al.2.2.2⟩;have lQ:=MZ (n:=i) (g:=fun i=>if i % 2=a∧(i:Int) ∉ W then qy o.length i*(qt b.1.1 o i).1 else 0) (B:=1000) fun j aw=>Ox (B:=100) (by omega) aq (by omega) (by have:=IC cp jJ (i:=j) (by omega);exact ⟨by have:=this.1;omega,this.2.1⟩);have ail:=MZ (n:=i) (g:=fun i=>if i % 2=a∧(i:Int) ∉ W then qy o.length i*(qt b.1.1 o i).2 else 0) (B:=100) fun j aw=>Ox (B:=10) (by omega) aq (by omega) (by have:=IC cp jJ (i:=j) (by omega);exact ⟨this.2.2.1,this.2.2.2⟩);have e1:ix b.1.1 (ix o (i:Int))=qt b.1.1 o i:=rfl;rw [e1,qR (n:=qy o.length i*(qt b.1.1 o i).1) (by omega),qR (n:=qy o.length i*(qt b.1.1 o i).2) (by omega),qR (by omega),qR (by omega)];simp only [qE,if_pos (show i % 2=a∧(i:Int) ∉ W from ⟨a_,hw⟩)] at a8;exact a8
    ·rw [if_pos (by simpa using by omega)];simp only [qE,a_,false_and,if_false,uU] at a8;exact a8
   ·(obtain rfl:i=o.length:=by omega);rw [if_neg (by simp)];rfl
theorem OU {b:((List (Int×Int))×(Int×Int))×Unit} {o:List Int} {W:List Int} {a:Nat} (cp:∀ s∈b.1.1,qM s) (jJ:JI b.1.1 o) (aq:o.length≤10) (aI:b.1.1.length=o.length) (mb:W.length≤1000) :
  Ll b o (a:Int) W=some (qL b.1.1 o a W Prod.fst,qL b.1.1 o a W Prod.snd):=by
 unfold Ll;exact U1 cp jJ aq aI mb qi 0 (by omega) (Ie (by omega))
theorem LG (S:List qv) (o:List Int) (a:Nat) (W:List Int) (d:Int):qL S o a W (q3 d)=qL S o a W Prod.fst+qL S o a W Prod.snd*d:=by
 unfold qL;rw [Int.mul_comm _ d,←Ov,←ago];refine Kl fun i _=>?_;by_cases h:i % 2=a∧(i:Int) ∉ W
 ·simp only [if_pos h,q3];grind
 ·simp only [if_neg h];omega
theorem aek (S:List qv) (o:List Int) (a:Nat) (d:Int):rp S o a (q3 d)=rp S o a Prod.fst+rp S o a Prod.snd*d:=by
 simp only [←MF];exact LG S o a [] d
theorem PZ {S:List qv} {o:List Int} {a:Nat} {W:List Int} (cp:∀ s∈S,qM s) (jJ:JI S o) (aq:o.length≤10):-10000≤qL S o a W Prod.fst∧qL S o a W Prod.fst≤10000 :=
 QM (B:=100) aq (by omega) fun i hi=>by have:=IC cp jJ hi;exact ⟨by have:=this.1;omega,this.2.1⟩
theorem RU {S:List qv} {o:List Int} {a:Nat} {W:List Int} (cp:∀ s∈S,qM s) (jJ:JI S o) (aq:o.length≤10):-1000≤qL S o a W Prod.snd∧qL S o a W Prod.snd≤1000 :=
 QM (B:=10) aq (by omega) fun i hi=>by have:=IC cp jJ hi;exact ⟨this.2.2.1,this.2.2.2⟩
theorem Si {b:((List (Int×Int))×(Int×Int))×Unit} {o:List Int} {d:Int} (cp:∀ s∈b.1.1,qM s) (jJ:JI b.1.1 o) (aq:o.length≤10) (aI:b.1.1.length=o.length) (a1:0≤d∧d≤50) :
  Lh b o d=some (rp b.1.1 o 0 (q3 d),rp b.1.1 o 1 (q3 d)):=by
 unfold Lh;have aQ:=OU (W:=[]) (a:=0) cp jJ aq aI (by simp);have ab:=OU (W:=[]) (a:=1) cp jJ aq aI (by simp);rw [show ((0:Nat):Int)=0 from rfl] at aQ;rw [show ((1:Nat):Int)=1 from rfl] at ab;rw [aQ,ab,sb,sb];have one:∀ a,w (qL b.1.1 o a [] Prod.fst+w (qL b.1.1 o a [] Prod.snd*d))=rp b.1.1 o a (q3 d):=fun a=>by
  have a7:=PZ (a:=a) (W:=[]) cp jJ aq;have a9:=RU (a:=a) (W:=[]) cp jJ aq;have bt:=H4 (b:=d) (B:=50) a9 ⟨by omega,a1.2⟩;rw [qR (n:=qL b.1.1 o a [] Prod.snd*d) (by omega),qR (by omega),←LG,MF]
 simp only [one]
end Go.Proofs.YtkoioidpbbbaiaaGreat.Ab


namespace Go.Proofs.YtkoioidpbbbaiaaGreat.Ab
def qX:Nat→List Int→List (List Int)
 | 0,_=>[[]]
 | n+1,left=>left.flatMap fun x=>(qX n (left.erase x)).map (x::·)
theorem PS {left:List Int} {x:Int} {n:Nat} (ao:left.length=n+1) (aj:x∈left):(left.erase x).length=n:=by
 rw [List.length_erase_of_mem aj,ao];rfl
theorem afV {left:List Int} (h:left.Pairwise (·<·)):left.Nodup:=h.imp fun h e=>by omega
theorem U9:∀ (n:Nat) (left:List Int),left.length=n→qX n left≠[]
 | 0,_,_=>by simp [qX]
 | n+1,[],h=>by simp at h
 | n+1,x::s,h=>by
   have:=U9 n ((x::s).erase x) (PS h (by simp));simp only [qX,uA];intro e;exact this (by simpa using (List.append_eq_nil_iff.1 e).1)
theorem U7:∀ (n:Nat) (left:List Int),left.length=n→(qX n left)[0]?=some left
 | 0,left,h=>by rw [sO.1 h];rfl
 | n+1,[],h=>by simp at h
 | n+1,x::s,h=>by
   (have e:(x::s).erase x=s:=by simp);have a8:=U7 n s (by simpa using h);simp only [qX,uA,e];have Ux:0<((qX n s).map (x::·)).length:=by
    rw [sY];exact List.length_pos_iff.2 (U9 n s (by simpa using h))
   rw [sg Ux,sk,a8];rfl
theorem NV:∀ (n:Nat) (left l:List Int),left.length=n→(l∈qX n left↔l.Perm left)
 | 0,left,l,h=>by
   rw [sO.1 h];simp [qX]
 | n+1,left,l,h=>by
   simp only [qX,tJ,sD];constructor
   ·rintro ⟨x,aj,r,ai,rfl⟩;have:=(NV n (left.erase x) r (PS h aj)).1 ai;exact (this.cons x).trans (vz aj).symm
   ·intro aB;cases l with
    | nil=>have:=aB.length_eq;simp at this;omega
    | cons x r =>
      have aj:x∈left:=aB.mem_iff.1 (by simp);refine ⟨x,aj,r,(NV n (left.erase x) r (PS h aj)).2 ?_,rfl⟩;exact (List.perm_cons x).1 (aB.trans (vz aj))
theorem acX {n:Nat} {left l:List Int} (h:left.length=n) (ao:l∈qX n left):l.length=n:=by
 rw [((NV n left l h).1 ao).length_eq,h]
end Go.Proofs.YtkoioidpbbbaiaaGreat.Ab


namespace Go.Proofs.YtkoioidpbbbaiaaGreat.Ab
open Go
noncomputable def WK:gE :=
 p2 [⟨some 6, [.jq 3], none, some 3, .Bq⟩, p0 7 [.cv (.func 86 [] []), .jq 6] (.call 1)] (p2 [⟨some 8, [.jq 3], none, some 3, .other (Oper.mk (some 8) (Op.move (Operand.tmp 3)) 32 "iter.go:69" (Array.mk []) none) 2⟩, p1 2 8] .ret)
noncomputable def Rm:gE :=
 p2 [p0 2 [.cv (.av [] 0 .full)] (.nil 1)] (p2 [p1 4 0,p0 5 [.cv (.func 85 [] []),.nc 4] (.call 0),p1 3 5] WK)
theorem Vb:ql Go.Proofs.Tryz.prog Tk 67=some (Rm,9,[.tmp 2]):=by kernel_rfl
noncomputable def WV:gE :=
 p2 [p0 2 [.cv (.av [] 0 .full)] (.nil 1)] (p2 [p1 3 0,p0 4 [.cv (.func 102 [] []),.cv (.av [] 0 .full),.nc 3] (.call 0),p1 2 4] .ret)
theorem adi:ql Go.Proofs.Tryz.prog Tu 85=some (WV,5,[.tmp 2]):=by kernel_rfl
noncomputable def afL:gE :=
 p2 [p3 11 0,p1 12 4,p0 13 [.jq 11,.jq 12] (.call 1),p0 14 [.Bs 13] (.un .not)] (.cond (.nc 14) .ret .skip)
noncomputable def afM:gE :=
 .block 1 (p2 [p0 9 [.nc 5,.nc 7] (.kY 1),qg 10 9,p1 4 10] afL)
noncomputable def WW:gE :=
 p2 [qg 5 1,p0 6 [.nc 5] .zJ,qd 7 0] (.block 0 (.loop (some (p8 false [0,1,4,3,8])) (p2 [p0 8 [.nc 7,.nc 6] (.bin .lss)] (.seq (.cond (.nc 8) .skip (.exit 0)) (.seq afM (qF [qP 15 7 1,p1 7 15]))))))
theorem adj:ql Go.Proofs.Tryz.prog Tw 87=some (WW,16,[]):=by kernel_rfl
noncomputable def V_:gE :=
 p2 [p0 2 [.jq 0] .box,p0 4 [.cv (.av [] 0 .full)] (.nil 1)] (.seq (p2 [p1 6 1] (.block 0 (.AM (.nc 6) [7] (q' Go.Proofs.Tryz.prog 102 0) (ra Go.Proofs.Tryz.prog 102 0)))) (p2 [p0 12 [.Bs 2] .take,p1 4 12] .ret))
theorem acZ:ql Go.Proofs.Tryz.prog Jt 102=some (V_,13,[.tmp 4]):=by kernel_rfl
end Go.Proofs.YtkoioidpbbbaiaaGreat.Ab


namespace Go.Proofs.YtkoioidpbbbaiaaGreat.Ab
open Go
set_option maxRecDepth 20000
set_option maxHeartbeats 4000000
noncomputable def WX:gE :=
 .ov false [p0 5 [.jq 7] .mU]
theorem adk:ey Tryz.prog Jt (q' Tryz.prog 102 0) 0=some WX:=by kernel_rfl
noncomputable def W1:gE :=
 .block 1 (.ov false [p0 8 [.nc 2] .take,p0 9 [.jq 5] .mU,p0 10 [.Bs 9] (.yB 1 1 [.int .i64 0] [0]),p0 11 [.jq 8,.jq 10] (.app 1 8),⟨none,[.jq 2,.jq 11],none,none,.Bk⟩])
theorem ado:ey Tryz.prog Jt (ra Tryz.prog 102 0) 0=some W1:=by kernel_rfl
def Jh (l:List Int):I:=match l with | []=>.av [] 0 .full | _=>.raw (l.map h0) l.length 1
def Ny (l:List Int):I:=match l with | []=>.av [] 0 .full | _=>.av (l.map h0) l.length (.uniq 1)
theorem aab {l:List Int} {e:Int} {yh fA Gi Gj rO IV HK u8 HL HH HI HJ:I} (ao:l.length≤1000) (Y:List ar) :
  ∃ qC,Sem Tryz.prog (.yield [ar.cells [Jh l]].length) [h0 e] (([ar.cells [Jh l]]++[ar.loop .ready none 102 [yh,fA,.ptr 0 0,Gi,Gj,rO,IV,HK,u8,HL,HH,HI,HJ] [7] (q' Tryz.prog 102 0) (ra Tryz.prog 102 0) Jt])++Y) 0 (.bool true) (([ar.cells [Jh (l++[e])]]++[ar.loop .ready none 102 [yh,fA,.ptr 0 0,Gi,Gj,rO,IV,HK,u8,HL,HH,HI,HJ] [7] (q' Tryz.prog 102 0) (ra Tryz.prog 102 0) Jt])++qC):=by
 refine ⟨Y,On eG adk ado (Iw _ _ _) rfl (IA (by simp)) ?_⟩;unfold WX;conv=>whnf
 refine ⟨rfl,Iw _ _ _,?_⟩;rw [Jk];unfold W1;cases l with
 | nil =>
   (conv=>whnf);refine ⟨rfl,by omega,?_⟩;(conv=>whnf);refine ⟨by decide,by decide,rfl,?_⟩;(conv=>whnf);refine ⟨rfl,by decide,Gn (by decide) ?_⟩;(conv=>whnf);show _∧(([ar.cells [Jh ([]++[e])]]++[ar.loop .busy none 102 [yh,fA,.ptr 0 0,Gi,Gj,rO,IV,HK,u8,HL,HH,HI,HJ] [7] (q' Tryz.prog 102 0) (ra Tryz.prog 102 0) Jt])++Y)[[ar.cells [Jh ([]++[e])]].length]?=_∧lI ((([ar.cells [Jh ([]++[e])]]++[ar.loop .busy none 102 [yh,fA,.ptr 0 0,Gi,Gj,rO,IV,HK,u8,HL,HH,HI,HJ] [7] (q' Tryz.prog 102 0) (ra Tryz.prog 102 0) Jt])++Y).set [ar.cells [Jh ([]++[e])]].length _) _;exact ⟨rfl,Iw _ _ _,by rw [Jk];exact lI.refl _⟩
 | cons a l =>
   (conv=>whnf);refine ⟨rfl,by omega,?_⟩;(conv=>whnf);refine ⟨rfl,by simp only [sK] at ao ⊢;omega,?_⟩;(conv=>whnf);refine ⟨?_,Nat.succ_ne_zero _,Gn (by simp) ?_⟩
   ·show ((a::l).map h0++[h0 e]).all g1=true;rw [←List.map_singleton (f:=h0),←sP];exact sm.2 fun x aj=>by obtain ⟨y,_,rfl⟩:=sD.1 aj;rfl
   (conv=>whnf);have e1:I.raw ((a::l).map h0++[h0 e]) ((a::l).length+1) 1=Jh ((a::l)++[e]):=by
    show _=I.raw (((a::l)++[e]).map h0) ((a::l)++[e]).length 1;rw [sP,sA];rfl
   show _∧(([ar.cells [I.raw ((a::l).map h0++[h0 e]) ((a::l).length+1) 1]]++[ar.loop .busy none 102 [yh,fA,.ptr 0 0,Gi,Gj,rO,IV,HK,u8,HL,HH,HI,HJ] [7] (q' Tryz.prog 102 0) (ra Tryz.prog 102 0) Jt])++Y)[[ar.cells [I.raw ((a::l).map h0++[h0 e]) ((a::l).length+1) 1]].length]?=_∧lI ((([ar.cells [I.raw ((a::l).map h0++[h0 e]) ((a::l).length+1) 1]]++[ar.loop .busy none 102 [yh,fA,.ptr 0 0,Gi,Gj,rO,IV,HK,u8,HL,HH,HI,HJ] [7] (q' Tryz.prog 102 0) (ra Tryz.prog 102 0) Jt])++Y).set [ar.cells [I.raw ((a::l).map h0++[h0 e]) ((a::l).length+1) 1]].length _) _;rw [e1];exact ⟨rfl,Iw _ _ _,by rw [Jk];exact lI.refl _⟩
theorem Lu (l:List Int):cr 8 (Ny l)=true:=by
 cases l with
 | nil=>rfl
 | cons a l=>exact rC (fun _=>rfl) _ _ _
theorem aaR {k:FuncId} {cap:List I} {l:List Int} (Im:Seq Tryz.prog k cap (l.map h0)) (ao:l.length≤1000):qx 102 [.av [] 0 .full,.func k [] cap] (Ny l):=by
 refine NC eG acZ rfl (Lu l) fun Q bp=>?_;unfold V_;obtain ⟨a7,cf⟩:∃ c,gE.AM (.nc 6) [7] (q' Tryz.prog 102 0) (ra Tryz.prog 102 0)=c:=⟨_,rfl⟩;rw [cf];conv=>whnf
 subst cf;refine af1 (f:=h0) Im (fun i=>[ar.cells [Jh (l.take i)]]) (by exact rfl) (by exact rfl) (fun _=>rfl) ?_ (rl:=none) (by exact rfl) (Hn:=[ar.cells [Jh l]]) (by show [ar.cells [Jh (l.take l.length)]]=_;rw [List.take_length]) ?_
 ·intro i hi Y;rw [show l.take (i+1)=l.take i++[l[i]] by rw [List.take_add_one,si hi];rfl];exact aab (l:=l.take i) (e:=l[i]) (by rw [s9];omega) Y
 ·intro qC;cases l with
  | nil =>
    (conv=>whnf);exact bp _ _ _ (JX (.inr rfl) (Lu _) rfl)
  | cons a l =>
    (conv=>whnf);exact bp _ _ _ (JX (.inr rfl) (Lu _) rfl)
theorem TN {k:FuncId} {cap:List I} {l:List Int} (pw:cap.all (cr 7)=true) (Im:Seq Tryz.prog k cap (l.map h0)) (ao:l.length≤1000):qx 85 [.func k [] cap] (Ny l):=by
 refine NC eG adi rfl (Lu l) fun Q bp=>?_;unfold WV;conv=>whnf
 refine ⟨_,_,Mo (p6 rfl (p6 (IP rfl pw) rfl)) (aaR Im ao) _ _,?_⟩;cases l with
 | nil =>
   (conv=>whnf);exact bp _ _ _ (JX (.inr rfl) (Lu _) rfl)
 | cons a l =>
   (conv=>whnf);exact bp _ _ _ (JX (.inr rfl) (Lu _) rfl)
end Go.Proofs.YtkoioidpbbbaiaaGreat.Ab


namespace Go.Proofs.YtkoioidpbbbaiaaGreat.Ab
open Go
def PH:hE→hE→Bool
 | .shared,.shared=>true
 | .full,.full=>true
 | .own a,.own b=>Nat.beq a b
 | .uniq a,.uniq b=>Nat.beq a b
 | _,_=>false
theorem aaA:∀ {a b:hE},PH a b=true→a=b:=by
 intro a b h;cases a <;> cases b <;> simp only [PH,tO] at h <;> first | rfl | (rw [sN h])
def IM (f:I→I→Bool):List I→List I→Bool
 | [],[]=>true
 | a::l,b::r=>match f a b with
   | true=>IM f l r
   | false=>false
 | _,_=>false
theorem JR {f:I→I→Bool} (aP:∀ a b,f a b=true→a=b):∀ {a b:List I},IM f a b=true→a=b
 | [],[],_=>rfl
 | [],_::_,h=>by simp [IM] at h
 | _::_,[],h=>by simp [IM] at h
 | a::l,b::r,h=>by
   simp only [IM] at h;split at h
   ·rename_i jL;rw [aP a b jL,JR aP h]
   ·cases h
def IY:Nat→I→I→Bool
 | 0,_,_=>false
 | d+1,a,b=>match a,b with
   | .bool x,.bool y=>match x,y with | true,true=>true | false,false=>true | _,_=>false
   | .int k x,.int q y=>match decide (k=q),decide (x=y) with | true,true=>true | _,_=>false
   | .eI,.eI=>true
   | .bS x,.bS y=>IM (IY d) x y
   | .av x n c,.av y m e=>match IM (IY d) x y,Nat.beq n m,PH c e with | true,true,true=>true | _,_,_=>false
   | .func f x y,.func g z w=>match Nat.beq f g,IM (IY d) x z,IM (IY d) y w with | true,true,true=>true | _,_,_=>false
   | .agg x,.agg y=>IM (IY d) x y
   | .tuple x,.tuple y=>IM (IY d) x y
   | _,_=>false
theorem Nu:∀ (d:Nat) (a b:I),IY d a b=true→a=b
 | 0,_,_,h=>by simp [IY] at h
 | d+1,a,b,h=>by
   have a8:=Nu d;unfold IY at h;split at h
   ·split at h <;> first | rfl | cases h
   ·rename_i k x q y;split at h
    ·rename_i ab ae;rw [of_decide_eq_true ab,of_decide_eq_true ae]
    ·cases h
   ·rfl
   ·rw [JR a8 h]
   ·split at h
    ·rename_i ab ae aF;rw [JR a8 ab,sN ae,aaA aF]
    ·cases h
   ·split at h
    ·rename_i ab ae aF;rw [sN ab,JR a8 ae,JR a8 aF]
    ·cases h
   ·rw [JR a8 h]
   ·rw [JR a8 h]
   ·cases h
inductive KA where
 | pure (k:Nat) (args:List I) (v:I)
 | map (k:Nat) (args:List I) (es:List (Nat×I×I)) (clock:Nat)
def PO (P:Program):KA→Prop
 | .pure k args v=>nn P k args v
 | .map k args es clock=>∀ H,Sem P (.fn k) args H H.length (.map H.length) (H++[.map es clock])
def look (k:Nat) (args:List I) (H:List ar) (lo:Nat):List KA→Option (I×List ar)
 | []=>none
 | .pure q bs v::r=>match Nat.beq k q with
   | true=>match IM (IY 20) args bs with
     | true=>match H with
       | []=>some (v,[])
       | _=>look k args H lo r
     | false=>look k args H lo r
   | false=>look k args H lo r
 | .map q bs es clock::r=>match Nat.beq k q with
   | true=>match IM (IY 20) args bs with
     | true=>match Nat.beq lo H.length with
       | true=>some (.map H.length,H++[.map es clock])
       | false=>look k args H lo r
     | false=>look k args H lo r
   | false=>look k args H lo r
def Ow (l:List KA):b8:=fun bY args H lo=>match bY with
 | .fn k=>look k args H lo l
 | _=>none
theorem Sem.ads {P:Program} {bY:fc} {args:List I} {r:I} {H':List ar} (h:Sem P bY args [] 0 r H') (lo:Nat):Sem P bY args [] lo r H' :=
 ⟨⟨h.1.1,fun _ _ h=>by simp at h⟩,h.2⟩
theorem look_ok {P:Program} {k:Nat} {args:List I} {H:List ar} {lo:Nat} {r:I} {H':List ar}:∀ {l:List KA},(∀ e∈l,PO P e)→look k args H lo l=some (r,H')→Sem P (.fn k) args H lo r H'
 | [],_,h=>by simp [look] at h
 | .pure q bs v::l,ao,h=>by
   have KO:=look_ok (k:=k) (args:=args) (H:=H) (lo:=lo) (r:=r) (H':=H') fun e he=>ao e (tR _ he);unfold look at h;split at h
   ·rename_i ab;split at h
    ·rename_i ae;split at h
     ·cases h;have:=ao (.pure q bs r) tX;rw [sN ab,JR (Nu 20) ae];exact this.1.ads lo
     ·exact KO h
    ·exact KO h
   ·exact KO h
 | .map q bs es clock::l,ao,h=>by
   have KO:=look_ok (k:=k) (args:=args) (H:=H) (lo:=lo) (r:=r) (H':=H') fun e he=>ao e (tR _ he);unfold look at h;split at h
   ·rename_i ab;split at h
    ·rename_i ae;split at h
     ·rename_i aF;cases h;have:=ao (.map q bs es clock) tX;rw [sN ab,JR (Nu 20) ae,sN aF];exact this H
     ·exact KO h
    ·exact KO h
   ·exact KO h
theorem Xv {P:Program} {l:List KA} (ao:∀ e∈l,PO P e):c6 P (Ow l):=o7 fun bY args H lo r H' h=>by
 cases bY with
 | fn k=>exact look_ok ao h
 | yield i=>simp [Ow] at h
def Ki (A:FuncId→dw):Nat→List Func→Bool
 | _,[]=>true
 | k,f::r=>match (A k).bad with
   | true=>Ki A (k+1) r
   | false=>match f.body with
     | some c => match codeOk (A k) c, f.name == "runtime.NumGoroutine" with
       | true,false=>Ki A (k+1) r
       | _,_=>false
     | none=>Ki A (k+1) r
theorem Vz {A : FuncId → dw} : ∀ {l : List Func} {k : Nat}, Ki A k l = true → ∀ (i : Nat) (f : Func) (c : Code), (A (k + i)).bad = false → l[i]? = some f → f.body = some c → codeOk (A (k + i)) c = true ∧ f.name ≠ "runtime.NumGoroutine"
 | [],_,_,i,f,c,_,h,_=>by simp at h
 | g::r,k,h,i,f,c,nG,aP,ak=>by
   unfold Ki at h;cases i with
   | zero =>
     simp at aP;subst aP;rw [Nat.add_zero] at nG;rw [nG,ak] at h;simp only at h;split at h
     ·rename_i ab ae;exact ⟨ab,by simpa using ae⟩
     ·cases h
   | succ i =>
     have ai:Ki A (k+1) r=true:=by
      split at h
      ·exact h
      ·split at h
       ·split at h
        ·exact h
        ·cases h
       ·exact h
     have:=Vz ai i f c (by rw [show k+1+i=k+(i+1) by omega];exact nG) (by simpa using aP) ak;rw [show k+(i+1)=k+1+i by omega];exact this
theorem Vy {P : Program} {A : FuncId → dw} (h : Ki A 0 P.funcs.toList = true) (k : Nat) (f : Func) (c : Code) (af : (A k).bad = false) (aP : P.funcs[k]? = some f) (ak : f.body = some c) : codeOk (A k) c = true ∧ f.name ≠ "runtime.NumGoroutine" := by
 have:=Vz h k f c (by rw [sy];exact af) (by simpa using aP) ak
 rwa [sy] at this
theorem Ty:Ki jD 0 Go.Proofs.Tryz.prog.funcs.toList=true:=by kernel_rfl
noncomputable def RQ (l:List KA) (k:Nat) (args:List I):Option I:=match ga Go.Proofs.Tryz.prog jD (Ow l) 300 (.fn k) args [] 0 with
 | some (r,H2)=>match bM H2 0 H2.length 0 8 r with
   | some v=>match cr 8 v.settle with
     | true=>some v.settle
     | false=>none
   | none=>none
 | none=>none
theorem af5 {l:List KA} (ao:∀ e∈l,PO Go.Proofs.Tryz.prog e) {k:Nat} {args:List I} {v:I} (h:RQ l k args=some v):nn Go.Proofs.Tryz.prog k args v:=by
 unfold RQ at h;split at h
 ·rename_i r H2 ak;split at h
  ·rename_i u aP;split at h
   ·rename_i aB;cases h;have ah:=(Cb eG jD (Xv ao) (Vy Ty) 300).Ha ak;refine ⟨⟨a'.refl _ _,ah.2.1,fun B aa J S w xs ag aI ad=>CallsIn.mono (ah.2.2 B aa J S w xs ag aI ad) fun e w' he=>?_⟩,aB⟩;cases e with
    | returned x =>
      have kQ:=xG ag (fun id aE=>by simp at aE) aP he;show aZ B aa J S w [] u.settle x w';cases u with
      | av cells len eo =>
        cases eo with
        | uniq z=>exact kQ.settle
        | _=>exact kQ
      | _=>exact kQ
    | panicked c=>exact he.elim
    | outgrown=>exact he.elim
   ·cases h
  ·cases h
 ·cases h
end Go.Proofs.YtkoioidpbbbaiaaGreat.Ab


namespace Go.Proofs.YtkoioidpbbbaiaaGreat.Ab
open Go
noncomputable def afK:gE :=
 .ov false [p1 5 0,p3 6 2,p1 7 2,p0 8 [.Bs 7] (.conv .u64),p0 9 [.cv (.func 79 [] []),.nc 8] (.call 3),p0 10 [.cv (.func 103 [] []),.jq 5,.cv (.int .i64 0),.jq 6,.jq 9] (.call 1)]
noncomputable def RM:gE :=
 p2 [p3 3 0,qT 4 3,p1 2 4] afK
theorem Ve:ql Go.Proofs.Tryz.prog Tv 86=some (RM,11,[]):=by kernel_rfl
noncomputable def MJ:gE :=
 p2 [p1 24 0,p1 25 1,p1 26 2,p0 27 [.cv (.func 110 [] []),.jq 24,.jq 25,.jq 26] (.call 1)] .ret
noncomputable def aeX:gE :=
 p2 [p1 30 0,p1 31 1,p1 32 2,p0 33 [.cv (.func 111 [] []),.jq 30,.jq 31,.jq 32] (.call 1)] .ret
noncomputable def aeY:gE :=
 p2 [p3 36 0,p3 37 1,p3 38 2,p0 39 [.cv (.func 112 [] []),.jq 36,.jq 37,.jq 38] (.call 1)] (qF [p1 40 3,qw 41 40 1 .sub,p1 3 41])
noncomputable def aeZ:gE :=
 p2 [p3 55 2,qw 56 55 1 .sub,p1 57 11,p3 58 1,qm 59 57 58 .sub,qm 60 56 59 .sub,p1 11 60] (qF [qd 12 1])
noncomputable def ae0:gE :=
 p2 [p3 51 0,p3 52 1,p3 53 2,p0 54 [.cv (.func 114 [] []),.jq 51,.jq 52,.jq 53] (.call 1)] aeZ
noncomputable def ae1:gE :=
 p2 [p3 69 0,p3 70 1,p3 71 2,p0 72 [.cv (.func 115 [] []),.jq 69,.jq 70,.jq 71] (.call 1)] (.cond (.nc 72) .ret .skip)
noncomputable def ae2:gE :=
 p2 [p3 88 0,p1 89 1,p3 90 2,p1 91 11,p0 92 [.cv (.func 117 [] []),.jq 88,.jq 89,.jq 90,.jq 91] (.call 1),p1 13 92] (p2 [p1 93 13,p1 1 93] (.exit 1))
noncomputable def ae3:gE :=
 p2 [p3 117 0,p1 118 1,p3 119 14,p3 120 3,p0 121 [.cv (.func 103 [] []),.jq 117,.jq 118,.jq 119,.jq 120] (.call 1)] (qF [p1 122 14,qP 123 122 1,p1 1 123])
noncomputable def ae4:gE :=
 p2 [p1 114 16,p1 115 18,qm 116 114 115 .geq,p1 8 116] ae3
noncomputable def aeP:gE :=
 p2 [p3 127 0,p3 128 14,qP 129 128 1,p1 130 2,p3 131 3,p0 132 [.cv (.func 103 [] []),.jq 127,.jq 129,.jq 130,.jq 131] (.call 1)] (qF [p1 133 14,p1 2 133])
noncomputable def aeQ:gE :=
 p2 [p1 124 17,p1 125 18,qm 126 124 125 .geq,p1 8 126] aeP
noncomputable def aeR:gE :=
 p2 [p1 109 10,qw 110 109 8 .quo,p1 18 110] (p2 [p3 111 16,p3 112 17,qm 113 111 112 .lss] (.cond (.nc 113) ae4 aeQ))
noncomputable def aeS:gE :=
 p2 [p3 103 14,p3 104 1,qm 105 103 104 .sub,p3 106 2,p3 107 14,qm 108 106 107 .sub,p1 16 105,p1 17 108] aeR
noncomputable def aeT:gE :=
 p2 [p3 95 0,p3 96 1,p3 97 2,p1 98 11,p0 99 [.cv (.func 118 [] []),.jq 95,.jq 96,.jq 97,.jq 98] (.call 1),p1 94 99,qJ 100 94 0,p0 101 [.Bs 94] (.ext 1),p1 14 100,p1 15 101] (p2 [p1 102 15,p1 9 102] aeS)
noncomputable def aeU:gE :=
 .seq (.seq (q8 [p3 73 1,qw 74 73 0 .gtr,p1 75 74,cl 76 [.nc 0] 75 true .mU,cl 77 [.nc 1] 75 true .mU,cl 78 [.Bs 77,.cv (.int .i64 1)] 75 true (.bin .sub),cl 79 [.Bs 76,.Bs 78] 75 true (.kY 1),cl 80 [.Bs 79] 75 true (.zE .one),cl 81 [.nc 0] 75 true .mU,cl 82 [.nc 11] 75 true .mU,cl 83 [.Bs 81,.Bs 82] 75 true (.kY 1),cl 84 [.Bs 83] 75 true (.zE .one),⟨some 85,[.cv (.func 116 [] []),.nc 80,.nc 84],some (75,true),none,.call 3⟩,cl 86 [.Bs 85] 75 true (.un .not),p0 87 [.nc 75,.Bs 86,.cv (.bool false)] .pick]) (.cond (.nc 87) ae2 .skip)) aeT
noncomputable def aeV:gE :=
 .seq (p2 [p3 61 8,p1 62 61,cl 63 [.nc 9] 62 true .mU,p0 64 [.Bs 62,.Bs 63,.cv (.bool false)] .pick,p1 65 64,cl 66 [.jq 12] 65 true .mU,cl 67 [.Bs 66,.cv (.int .i64 1)] 65 true (.bin .eql),p0 68 [.Bs 65,.Bs 67,.cv (.bool false)] .pick] (.cond (.nc 68) ae1 .skip)) aeU
noncomputable def aeW:gE :=
 p2 [p3 43 0,p3 44 1,p3 45 2,p0 46 [.cv (.func 113 [] []),.jq 43,.jq 44,.jq 45] (.call 1),p1 42 46,qJ 47 42 0,p0 48 [.Bs 42] (.ext 1),p1 11 47,p1 12 48] (.seq (p2 [p3 49 12,qw 50 49 2 .eql] (.cond (.nc 50) ae0 .skip)) aeV)
noncomputable def Q1:gE :=
 .seq (p2 [p3 28 3,qw 29 28 0 .eql] (.cond (.nc 29) aeX .skip)) (.seq (p2 [p3 34 8,p0 35 [.Bs 34] (.un .not)] (.cond (.nc 35) aeY .skip)) aeW)
noncomputable def MK:gE :=
 .block 1 (p2 [p3 19 2,p3 20 1,qm 21 19 20 .sub,p1 10 21] (.seq (p2 [p3 22 10,qw 23 22 12 .leq] (.cond (.nc 23) MJ .skip)) Q1))
noncomputable def Q0:gE :=
 p2 [p0 8 [.cv (.bool true)] .mU] (p2 [p0 9 [.cv (.bool true)] .mU] (.block 0 (.loop (some (p8 false [0,4,4,2,124])) MK)))
theorem U_:ql Go.Proofs.Tryz.prog SN 103=some (Q0,134,[]):=by kernel_rfl
noncomputable def ae5:gE :=
 .block 3 (q8 [p3 33 0,p3 34 7,p3 35 0,p3 36 7,qw 37 36 1 .sub,p3 38 0,p3 39 7,qw 40 39 1 .sub,q5 41 38 40 1,qg 42 41,p3 43 0,p3 44 7,q5 45 43 44 1,qg 46 45,q5 47 33 34 1,⟨none,[.jq 47,.jq 42],none,none,.st 1⟩,q5 48 35 37 1,⟨none,[.jq 48,.jq 46],none,none,.st 1⟩])
noncomputable def ae6:gE :=
 .seq (.seq (q8 [p3 16 7,p3 17 1,qm 18 16 17 .gtr,p1 19 18,cl 20 [.nc 0] 19 true .mU,cl 21 [.nc 7] 19 true .mU,cl 22 [.Bs 20,.Bs 21] 19 true (.kY 1),cl 23 [.Bs 22] 19 true (.zE .one),cl 24 [.nc 0] 19 true .mU,cl 25 [.nc 7] 19 true .mU,cl 26 [.Bs 25,.cv (.int .i64 1)] 19 true (.bin .sub),cl 27 [.Bs 24,.Bs 26] 19 true (.kY 1),cl 28 [.Bs 27] 19 true (.zE .one),⟨some 29,[.cv (.func 116 [] []),.nc 23,.nc 28],some (19,true),none,.call 3⟩,p0 30 [.nc 19,.Bs 29,.cv (.bool false)] .pick]) (.cond (.nc 30) .skip (.exit 2))) (.seq ae5 (qF [p1 31 7,qw 32 31 1 .sub,p1 7 32]))
noncomputable def ae7:gE :=
 .block 1 (p2 [p3 15 6,p1 7 15] (.block 2 (.loop (some (p8 false [0,3,3,2,41])) ae6)))
noncomputable def ae8:gE :=
 .seq (p2 [p3 10 6,p3 11 2,qm 12 10 11 .lss] (.cond (.nc 12) .skip (.exit 0))) (.seq ae7 (qF [p1 13 6,qP 14 13 1,p1 6 14]))
noncomputable def Q2:gE :=
 p2 [p3 8 1,qP 9 8 1,p1 6 9] (.block 0 (.loop (some (p8 false [0,3,3,1,42])) ae8))
theorem U':ql Go.Proofs.Tryz.prog SQ 110=some (Q2,49,[]):=by kernel_rfl
noncomputable def ae9:gE :=
 p2 [p3 5 0,p0 6 [.cv (.func 123 [] []),.nc 5] (.call 3),p1 7 6,cl 8 [.nc 1] 7 true .mU,⟨some 9,[.cv (.func 123 [] []),.nc 8],some (7,true),none,.call 3⟩,cl 10 [.Bs 9] 7 true (.un .not),p0 11 [.Bs 7,.Bs 10,.cv (.bool false)] .pick,p1 12 11,cl 13 [.jq 0] 12 false .mU,cl 14 [.jq 1] 12 false .mU,cl 15 [.Bs 13,.Bs 14] 12 false (.bin .lss),p0 16 [.Bs 12,.cv (.bool true),.Bs 15] .pick,p1 4 16] .ret
noncomputable def V':gE :=
 p2 [p0 4 [.cv (.bool false)] .mU] ae9
theorem ac0:ql Go.Proofs.Tryz.prog SR 116=some (V',17,[.tmp 4]):=by kernel_rfl
noncomputable def ae_:gE :=
 p2 [p3 3 0,p1 4 0,qm 5 3 4 .neq,p1 2 5] .ret
noncomputable def Wa:gE :=
 p2 [p0 2 [.cv (.bool false)] .mU] ae_
theorem ac1:ql Go.Proofs.Tryz.prog SU 123=some (Wa,6,[.tmp 2]):=by kernel_rfl
end Go.Proofs.YtkoioidpbbbaiaaGreat.Ab


namespace Go.Proofs.YtkoioidpbbbaiaaGreat.Ab
open Go
set_option maxRecDepth 20000
set_option maxHeartbeats 4000000
theorem acH (x:Int):qx 123 [h0 x] (B false):=by
 refine PY eG ac1 rfl rfl ?_;unfold Wa;conv=>whnf
 exact JX (.inr rfl) rfl (by rw [decide_eq_false (show ¬ (x≠x) from fun h=>h rfl)];rfl)
theorem acW (x y:Int):qx 116 [h0 x,h0 y] (B (decide (x<y))):=by
 refine PY eG ac0 rfl rfl ?_;unfold V';conv=>whnf
 refine ⟨by first | rfl | simp only [tz,tY,LK,LS,LL,LN,LM,LO,LV,LU,JW,LP,LQ,LR,tt,tV],_,acH x,?_⟩
 conv=>whnf
 exact JX (.inr rfl) rfl rfl
def It (d:Array Int):ar:=.cells (d.toList.map h0)
def J7 (id n:Nat):I:=.ref id 0 n none 1
theorem aaB (d:Array Int) (x:Nat) (h:x<d.size):(d.toList.map h0)[x]?=some (h0 d[x]!):=by
 simp [h]
theorem aaC (d:Array Int) (x:Nat) (v:Int):(d.toList.map h0).set x (h0 v)=(d.setIfInBounds x v).toList.map h0:=by
 simp [List.map_set]
theorem swp_size (d:Array Int) (i j:Nat):(Sort.swp d i j).size=d.size:=by simp [Sort.swp]
theorem Ol {d:Array Int} {n:Nat} (x:Nat) (e:n=x) (h:x<d.size) {K:I→Prop} (k:K (h0 d[x]!)):eJ (d.toList.map h0) n K:=by
 subst e;exact Ew (aaB d n h) k
theorem XS {d:Array Int} {n:Nat} {v:Int} (x:Nat) (e:n=x) (h:x<d.size) {K:List I→Prop} (k:K ((d.setIfInBounds x v).toList.map h0)):jt (d.toList.map h0) n (h0 v) K:=by
 subst e;refine Gn (by simpa using h) ?_;rw [aaC];exact k
section
variable {H:List ar} {id lo:Nat} (bD:lo≤id)
include bD
theorem acG (d:Array Int) (a b:Nat) (a1:d.size≤1000) (cu:a≤b) (af:b≤d.size) (ag:H[id]?=some (It d)) :
  Sem Go.Proofs.Tryz.prog (.fn 110) [J7 id d.size,h0 a,h0 b] H lo (.tuple []) (H.set id (It (Sort.insertionSort Sort.ltInt d a b))):=by
 have aE:=(sa.1 ag).1;refine TZ eG U' rfl ⟨by simp,fun j ab ae=>by rw [sd (by omega)]⟩ ?_;unfold Q2;conv=>whnf
 have CI:Nat.ble lo id=true:=Nat.ble_eq_true_of_le bD;have gs:∀ c:ar,(H.set id c)[id]?=some c:=fun c=>by rw [List.getElem?_set_self aE]
 have JM:∀ c e:ar,((H.set id c).set id e)[id]?=some e:=fun c e=>by rw [sW,gs]
 rw [OE a (by omega)];refine .intro (fun m T H'=>∃ i g',a+1≤i∧(i≤b∨i=a+1)∧m=b+1-i∧g'.size=d.size∧Sort.insOuter Sort.ltInt a b i g'=Sort.insertionSort Sort.ltInt d a b∧T=qa 49 [(0,J7 id d.size),(1,h0 a),(2,h0 b),(6,h0 i)]∧H'=H.set id (It g')) (b-a) ⟨a+1,d,by omega,.inr rfl,by omega,rfl,rfl,rfl,?_⟩ ?_
 ·obtain ⟨ab,ae⟩:=sa.1 ag;rw [←ae,List.set_getElem_self]
 rintro m T H' ⟨i,g',acg,ach,rfl,CT,he,rfl,rfl⟩;conv=>whnf
 refine Hm (fun h=>?_) (fun h=>?_)
 ·conv=>whnf
  refine .intro (fun j T H'=>∃ II:Array Int,j≤i∧II.size=d.size∧Sort.insInner Sort.ltInt a j II=Sort.insInner Sort.ltInt a i g'∧T=qa 49 [(0,J7 id d.size),(1,h0 a),(2,h0 b),(6,h0 i),(7,h0 j)]∧H'=H.set id (It II)) i ⟨g',sc _,CT,rfl,rfl,rfl⟩ ?_;rintro j T H' ⟨II,aw,Qt,KN,rfl,rfl⟩;conv=>whnf
  by_cases aF:(a:Int)<(j:Int)
  ·rw [decide_eq_true aF];obtain ⟨q,rfl⟩:∃ q,j=q+1:=⟨j-1,by omega⟩;(have hw:IntKind.i64.wrap (((q+1:Nat):Int)-1)=(q:Int):=by rw [rY _ (by omega) (by omega)];omega);(conv=>whnf);refine ⟨by omega,?_⟩;(conv=>whnf);refine Ew (by first | exact gs _ | exact JM _ _ | assumption) ?_
   (conv=>whnf);refine Ol (q+1) (by omega) (by omega) ?_;(conv=>whnf);rw [hw];refine ⟨by omega,?_⟩;(conv=>whnf);refine Ew (by first | exact gs _ | exact JM _ _ | assumption) ?_
   (conv=>whnf);refine Ol (q) (by omega) (by omega) ?_;(conv=>whnf);refine ⟨by first | rfl | simp only [tz,tY,LK,LS,LL,LN,LM,LO,LV,LU,JW,LP,LQ,LR,tt,tV],_,acW II[q+1]! II[q]!,Hf,?_⟩
   (conv=>whnf);by_cases ba:II[q+1]!<II[q]!
   ·rw [decide_eq_true ba];(conv=>whnf);rw [hw];refine ⟨by omega,?_⟩;(conv=>whnf);refine Ew (by first | exact gs _ | exact JM _ _ | assumption) ?_
    (conv=>whnf);refine Ol (q) (by omega) (by omega) ?_;(conv=>whnf);refine ⟨by omega,?_⟩;(conv=>whnf);refine Ew (by first | exact gs _ | exact JM _ _ | assumption) ?_
    (conv=>whnf);refine Ol (q+1) (by omega) (by omega) ?_;(conv=>whnf);refine ⟨by omega,?_⟩;(conv=>whnf);rw [CI];(conv=>whnf);refine Ew (by first | exact gs _ | exact JM _ _ | assumption) ?_
    (conv=>whnf);refine XS (q+1) (by omega) (by first | omega | (simp only [Array.size_setIfInBounds];omega)) ?_
    (conv=>whnf);refine ⟨by omega,?_⟩;(conv=>whnf);rw [CI];(conv=>whnf);refine Ew (by first | exact gs _ | exact JM _ _ | assumption) ?_
    (conv=>whnf);refine XS (q) (by omega) (by first | omega | (simp only [Array.size_setIfInBounds];omega)) ?_
    (conv=>whnf);refine ⟨q,by omega,Sort.swp II (q+1) q,by omega,by rw [swp_size];exact Qt,?_,?_,?_⟩
    ·rw [←KN,Sort.insInner,if_pos (by simp only [Sort.ltInt,sn,decide_eq_true_eq];exact ⟨by omega,ba⟩)]
    ·rw [hw];rfl
    ·simp only [sW];rfl
   ·rw [decide_eq_false ba];(conv=>whnf);have e:Sort.insInner Sort.ltInt a i g'=II:=by
     rw [←KN,Sort.insInner,if_neg (by simp only [Sort.ltInt,sn,decide_eq_true_eq];exact fun bE=>ba bE.2)]
    exact ⟨b+1-(i+1),by omega,i+1,II,by omega,by omega,rfl,Qt,by rw [←he,Sort.insOuter.eq_1 _ a b i,if_pos (by omega),e],by rw [←OE i (by omega)];rfl,rfl⟩
  ·rw [decide_eq_false aF];(conv=>whnf);have e:Sort.insInner Sort.ltInt a i g'=II:=by
    rw [←KN];cases j with
    | zero=>rfl
    | succ q=>rw [Sort.insInner,if_neg (by simp only [sn,decide_eq_true_eq];exact fun bE=>by omega)]
   exact ⟨b+1-(i+1),by omega,i+1,II,by omega,by omega,rfl,Qt,by rw [←he,Sort.insOuter.eq_1 _ a b i,if_pos (by omega),e],by rw [←OE i (by omega)];rfl,rfl⟩
 ·conv=>whnf
  have e:Sort.insertionSort Sort.ltInt d a b=g':=by
   rw [←he];unfold Sort.insOuter;rw [if_neg (by omega)]
  rw [e];exact ⟨.inl rfl,⟨by simp,fun j o aw=>.inr aw⟩,rfl⟩
theorem aeA (d:Array Int) (Jf:Int) (a1:d.size≤12) (ag:H[id]?=some (It d)) :
  Sem Go.Proofs.Tryz.prog (.fn 103) [J7 id d.size,h0 0,h0 d.size,h0 Jf] H lo (.tuple []) (H.set id (It (Sort.insertionSort Sort.ltInt d 0 d.size))):=by
 refine rn eG U_ rfl ⟨by simp,fun j ab ae=>by rw [sd (by omega)]⟩ fun Q bp=>?_;unfold Q0;obtain ⟨PF,Jb⟩:∃ c,MK=c:=⟨_,rfl⟩;rw [Jb];conv=>whnf
 refine .intro (fun m T H'=>T=qa 134 [(0,J7 id d.size),(1,h0 0),(2,h0 d.size),(3,h0 Jf),(8,B true),(9,B true)]∧H'=H) 0 ⟨rfl,rfl⟩ ?_;rintro m T H' ⟨rfl,rfl⟩;subst Jb;unfold MK;obtain ⟨a7,cf⟩:∃ c,MJ=c:=⟨_,rfl⟩;obtain ⟨PE,KI⟩:∃ c,Q1=c:=⟨_,rfl⟩;rw [cf,KI];conv=>whnf
 rw [show IntKind.i64.wrap ((d.size:Int)-0)=(d.size:Int) by rw [rY _ (by omega) (by omega)];omega,decide_eq_true (show (d.size:Int)≤12 by omega)];conv=>whnf
 subst cf;unfold MJ;conv=>whnf
 refine ⟨_,_,rj (acG bD d 0 d.size (by omega) (sC _) (sc _) ag),?_⟩;conv=>whnf
 exact bp _ _ _ ⟨.inr rfl,⟨rfl,fun j o aw=>.inr aw⟩,rfl⟩
end
theorem XT (n:Int):IntKind.u64.wrap n=n % 18446744073709551616:=by simp [IntKind.wrap,IntKind.bits,IntKind.signed]
theorem acV:((List.range 13).all fun n=>match RQ [] 79 [.int .u64 (n:Nat)] with | some v=>IY 3 v (h0 (Sort.bitsLen n)) | none=>false)=true:=by kernel_rfl
theorem Nv (n:Nat) (h:n≤12):qx 79 [.int .u64 n] (h0 (Sort.bitsLen n)):=by
 have:=sm.1 acV n (sH.2 (by omega));split at this
 ·rename_i v ad;rw [Nu _ _ _ this] at ad;exact af5 (l:=[]) (by simp) ad
 ·cases this
theorem agd {H:List ar} {id lo:Nat} (bD:lo≤id) (d:Array Int) (a1:d.size≤12) (ag:H[id]?=some (It d)) :
  Sem Go.Proofs.Tryz.prog (.fn 86) [J7 id d.size] H lo (.tuple []) (H.set id (It (Sort.insertionSort Sort.ltInt d 0 d.size))):=by
 refine rn eG Ve rfl ⟨by simp,fun j ab ae=>by rw [sd (by omega)]⟩ fun Q bp=>?_;unfold RM;conv=>whnf
 rw [show IntKind.u64.wrap (d.size:Int)=(d.size:Int) by rw [XT];omega];refine ⟨by first | rfl | simp only [tz,tY,LK,LS,LL,LN,LM,LO,LV,LU,JW,LP,LQ,LR,tt,tV],_,Nv d.size a1,?_⟩
 conv=>whnf
 refine ⟨_,_,rj (aeA bD d (Sort.bitsLen d.size) a1 ag),?_⟩;conv=>whnf
 exact bp _ _ _ ⟨.inl rfl,⟨rfl,fun j o aw=>.inr aw⟩,rfl⟩
end Go.Proofs.YtkoioidpbbbaiaaGreat.Ab
