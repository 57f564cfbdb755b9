
import Derived.Test.YtkoioidpbbbaiaaGreatJb1
import Derived.Test.YtkoioidpbbbaiaaGreatJb4
import Derived.Test.YtkoioidpbbbaiaaGreatProg
import Derived.KernelRfl
import Derived.IntWalk
import Derived.ProofKit
import Derived.Deep.Slices
import Derived.ChangeStays
import Derived.Below
import Derived.WalkKit
import Derived.Sort.AssemblyPlain
set_option linter.unusedSimpArgs false
set_option linter.unusedVariables false
set_option linter.unusedSectionVars false

open Bool renaming and_eq_true→sn,and_self→tW,and_true→tt,false_eq_true→tP
open Classical renaming choose_spec→ux
open Int renaming add_zero→uW
open List renaming all_cons→tx,all_eq_true→sm,all_nil→tZ,append_assoc→sx,append_nil→sM,drop_eq_getElem_cons→s6,drop_zero→tq,flatMap_cons→uz,getElem?_append→sq,getElem?_append_left→sg,getElem?_append_right→ss,getElem?_drop→sQ,getElem?_eq_getElem→si,getElem?_eq_some_iff→sa,getElem?_map→sk,getElem?_set_ne→sd,getElem?_take→sI,length_append→sy,length_cons→sK,length_eq_zero_iff→sP,length_map→sY,length_take→s_,map_append→sO,map_congr_left→tI,map_cons→sG,map_drop→tF,map_id→uU,map_map→vr,map_nil→uy,mem_append_left→vv,mem_append_right→vu,mem_cons_of_mem→tS,mem_cons_self→tY,mem_flatMap→tJ,mem_iff_getElem?→sW,mem_map→sC,mem_range→sH,perm_cons_erase→vz,set_set→sV,take_of_length_le→te
open Nat renaming add_comm→tg,add_mul→tb,eq_of_beq_eq_true→sN,le_refl→sc,lt_succ_self→sD,mul_one→tn,zero_add→sB,zero_le→sE
open Option renaming bind_some→sb,map_some→se
namespace Go.Proofs.YtkoioidpbbbaiaaGreat.Ab
open Go
abbrev pZ:bZ:={ cC:=[true] }
abbrev p5:bZ:={ cC:=[true,true] }
def p4 (l:List Nat):List bZ:=l.map fun n=>match n with
 | 0=>{}
 | 1=>pZ
 | _=>p5
def Z5:dw:={ ops:=[[{ mode:=3 }]] }
def Z8:dw:={ ops:=[[pZ],[{},{ mode:=3 }],[{ mode:=3 },pZ],[{},{ mode:=3 },pZ,{},pZ,pZ,pZ],[{},{ mode:=3 },pZ,{},pZ,pZ,pZ],[{},{ mode:=3 },pZ,{},pZ,pZ,pZ],[{},{ mode:=3 },pZ,{},pZ,pZ,pZ],[{},{ mode:=3 },pZ,{},pZ,pZ,pZ],[pZ,{ mode:=3 },pZ,{},pZ,pZ,pZ],[pZ,pZ,p5,pZ,pZ,pZ,p5,p5,pZ,pZ,pZ,{ mode:=3 },p5,pZ,pZ,pZ,p5,p5,pZ,pZ,pZ,p5,p5,pZ,pZ,pZ,p5,p5,pZ,{ mode:=3 },p5,pZ]] }
def Z_:dw:={ ops:=[[pZ],[{},{ mode:=3 },pZ,{},pZ,pZ,{ cC:=[true,false,true] },pZ,{},pZ,pZ,{ cC:=[true,false,true] }],[{ mode:=3 },pZ],[{},{},{},{ mode:=3 },pZ,{},pZ,pZ,pZ],[{},{},pZ,{ mode:=3 },pZ,{},pZ,pZ,pZ],[{},{},{ mode:=3 },pZ,{},pZ,pZ,pZ],[{},{},{ mode:=3 },pZ,{},pZ,pZ,pZ],[{},{},{ mode:=3 },pZ,{},pZ,pZ,pZ],[pZ,pZ,p5,pZ,pZ,pZ,p5,{ cC:=[true,false,true] },pZ,pZ,{},p5,{ cC:=[true,false,true] },pZ,pZ,{},p5,{ cC:=[true,false,true] },pZ,pZ,{},p5,{ cC:=[true,false,true] },pZ,{},pZ,pZ,{ cC:=[true,false,true] }],[],[pZ,pZ],[pZ,pZ,pZ,pZ,{ mode:=3 },p5,pZ],[pZ,pZ,pZ,{ mode:=3 },pZ,{},pZ,pZ,pZ],[pZ,pZ,pZ,pZ,pZ,p5,p5,pZ,{ mode:=3 },p5,pZ]] }
def aab:dw:={ ops:=[[pZ],[{},{ mode:=3 }],[{ mode:=3 },pZ],[{},{ mode:=3 },pZ,{},pZ,pZ,pZ],[pZ,{ mode:=3 },pZ,{},pZ,pZ,pZ],[pZ,pZ,{ mode:=3 },pZ,pZ,pZ,p5,p5,pZ,{ mode:=3 },p5,pZ]] }
def Qj:dw:={ ops:=[[pZ],[{},{ mode:=3 },pZ,pZ,{},pZ,pZ,{ cC:=[true,false,true] }],[{ mode:=3 },pZ],[{},{ mode:=3 },pZ,{},pZ,pZ,pZ],[{},pZ,pZ,pZ,{ mode:=3 },pZ],(p4 [0,1,1,1,1,0,1,1,0,1,1,2,1,2,2,1]),[{},{},{ mode:=3 },pZ,{},pZ,pZ,pZ],[{},{},{},pZ,pZ,{ mode:=3 },pZ,{},{},pZ,pZ,pZ,pZ],[{},{},{},pZ,pZ,{ mode:=3 },pZ,{},{},pZ,pZ,pZ,pZ],[{},pZ,pZ,{ mode:=3 },pZ,{},{},pZ,pZ,pZ,pZ],[pZ,{ mode:=3 },pZ,{},pZ,pZ,pZ],[pZ,pZ,pZ,pZ,pZ,{ cC:=[true,false,true] },pZ,pZ,pZ,{ cC:=[true,false,true] },pZ,pZ,pZ,{ cC:=[true,false,true] },pZ,pZ,pZ,{ cC:=[true,false,true] },pZ,pZ,pZ,{ cC:=[true,false,true] },pZ,{},{},p5,{ cC:=[true,false,true] },pZ,{},pZ,pZ,pZ,p5,{ cC:=[true,false,true] },pZ,{},pZ,{ cC:=[true,false,true] },pZ,{},pZ,pZ,pZ,pZ,p5,{ cC:=[true,false,true] }],[],[{},pZ,{ mode:=3 },pZ,{ mode:=3 },pZ,{ mode:=3 },pZ,{ mode:=3 },{ cC:=[true,true,true,true] },p5,pZ,pZ,{ mode:=3 },{},p5,p5,pZ,pZ,{ mode:=3 },pZ,p5,p5,pZ,{ mode:=3 },p5,pZ]] }
def aae:dw:={ two:=[(5,[0,1,2,7,3,4,5,6,8],3,7)],ops:=[[{ cC:=[true],mode:=1 }],[{},{ mode:=3 },pZ,pZ,{},pZ,pZ,{ cC:=[true,false,true] }],[{ mode:=3 },pZ],(p4 [0,1,1,1]),[{},pZ,{ mode:=3 },pZ],[{},{},{ cC:=[true],mode:=3 },{ cC:=[true,true],mode:=2 },{},{ cC:=[true],mode:=3 },p5,{},{ cC:=[false,true] }],[],(p4 [0,0,1,2]),(p4 [1,1,1]),(p4 [0,1,0,0,1,0,2,2,1,0,1,0,0,2,1,2,1,2,2]),[{ mode:=6 },{},{ mode:=3 },pZ,{},pZ,pZ,pZ],[{},{ mode:=3 },pZ,{},pZ,pZ,pZ],[{},{ mode:=3 },pZ,{},pZ,pZ,pZ],[{},pZ,{ mode:=3 },pZ,{},pZ,pZ,pZ],[pZ,{ mode:=3 },pZ,{},pZ,pZ,pZ],[pZ,pZ,pZ,pZ,pZ,p5,pZ,pZ,p5,pZ,pZ,pZ,p5,pZ,pZ,pZ,p5,pZ,pZ,pZ,p5,pZ,pZ,pZ,p5,pZ,pZ,pZ,p5,pZ,pZ,pZ,p5,pZ,pZ,pZ,{ mode:=3 },{ mode:=3 },p5,pZ,{ mode:=3 },p5,pZ]],il:=[(0,(p' false [5,4,125]))] }
def aai:dw:={ two:=[(4,[0,1,2,3,4,5,7,6,8,9],6,7)],ops:=[[{ cC:=[true],mode:=1 }],[{},{ mode:=3 },pZ,pZ,{},pZ,pZ,{ cC:=[true,false,true] }],[{ mode:=3 },pZ],[pZ,pZ,pZ,{ cC:=[false,true] },pZ],[{},{ cC:=[true],mode:=3 },pZ,{},{ cC:=[true],mode:=3 },pZ,{},{},{ cC:=[false,true] },{ cC:=[false,true] }],[],(p4 [0,0,1,1,2]),(p4 [1,1,1]),[{},pZ,{},p5,pZ,{},{ cC:=[false,true] }],[{},{ cC:=[true],mode:=1 },{},pZ,{},pZ,p5,{},pZ,{},pZ,pZ,p5,p5,pZ,p5,{},p5],[{},{ cC:=[true],mode:=1 },{},{},pZ,p5,{},pZ,pZ,p5,p5,pZ,p5,{},p5],[{},pZ,pZ,pZ,{ mode:=3 },pZ],[{},{ mode:=3 },pZ,{},pZ,pZ,pZ],[{},{},{},pZ,pZ,{ mode:=3 },pZ,{},{},pZ,pZ,pZ,pZ],[pZ,pZ,pZ,pZ,pZ,{ cC:=[true,false,true] },pZ,{},{ mode:=3 },pZ,{ cC:=[true,false,true] },pZ,{},{ mode:=3 },pZ,{ cC:=[true,false,true] }],[],[{},{ mode:=3 }],[{},{ mode:=3 },pZ,{},pZ,pZ,pZ],[pZ,{},{},pZ,pZ,{ mode:=3 },pZ,{},{},pZ,pZ,pZ,pZ],[pZ,pZ,pZ,pZ,pZ,{ cC:=[true,false,true] },pZ,pZ,{},p5,{ cC:=[true,false,true] },pZ,pZ,{},p5,{ cC:=[true,false,true] },pZ,pZ,{},p5,{ cC:=[true,false,true] }],[],[{},{ mode:=3 },pZ],[{ mode:=3 },pZ],[{},{ mode:=3 },pZ,{},pZ,pZ,pZ],[pZ,pZ,pZ,pZ,pZ,{ mode:=3 },pZ,{},{},pZ,pZ,pZ,pZ],[pZ,pZ,pZ,pZ,p5,pZ,pZ,{},pZ,p5,p5,p5,pZ,pZ,{},pZ,p5,p5,p5,pZ,pZ,pZ,pZ,p5,p5,p5,pZ,{ mode:=3 },p5,pZ]],il:=[(0,(p' false [1,3,1,1,5,4,199]))] }
def Qr:dw:={ ops:=[[{ cC:=[true],mode:=1 }],[{},{ mode:=3 },pZ,pZ,{},pZ,pZ,{ cC:=[true,false,true] }],[{ mode:=3 },pZ],(p4 [1,1,0,1,1,1,2,1]),[{},pZ,{},pZ,pZ,pZ,pZ,p5,{ cC:=[false,true] },{},pZ,pZ,pZ,pZ,p5,{ cC:=[false,true] },p5,p5,{},{ cC:=[false,true] }],[{},pZ,pZ,{},p5,{},pZ,pZ,{},p5,p5,pZ,{},{ cC:=[false,true] }],[],(p4 [0,0,1,1,2]),(p4 [1,1,1]),[{},{ cC:=[true],mode:=1 },{},{ cC:=[true],mode:=3 },{},p5,pZ,{ cC:=[true],mode:=3 },{},{},{ cC:=[true],mode:=3 },{},p5,pZ,{ cC:=[true],mode:=3 },p5,p5,{},{ cC:=[true],mode:=3 },{},p5,pZ,{ cC:=[true],mode:=3 },p5,pZ,p5,{},p5],[{},pZ,pZ,pZ,{ mode:=3 },pZ],[{},{ mode:=3 },pZ,{},pZ,pZ,pZ],[{},{ mode:=3 },pZ,{},pZ,pZ,pZ],[pZ,{},{ mode:=3 },pZ,{},pZ,pZ,pZ],[pZ,{},{ mode:=3 },pZ,{},pZ,pZ,pZ],[pZ,pZ,pZ,pZ,pZ,{ cC:=[true,false,true] },pZ,pZ,pZ,{ cC:=[true,false,true] },pZ,pZ,pZ,{ cC:=[true,false,true] },pZ,pZ,{},p5,{ cC:=[true,false,true] },pZ,pZ,{},p5,{ cC:=[true,false,true] }],[],[{},{ mode:=3 },pZ],[{ mode:=3 },pZ],[{},{ mode:=3 },pZ,{},pZ,pZ,pZ],[pZ,pZ,{ mode:=3 },pZ,{},pZ,pZ,pZ],[pZ,pZ,pZ,pZ,p5,p5,pZ,pZ,pZ,p5,pZ,pZ,pZ,p5,p5,pZ,{ mode:=3 },p5,pZ]],il:=[(0,(p' false [1,1,3,1,5,4,177]))] }
def S9:dw:={ ops:=[[pZ],(p4 [1,1,1,1,1])] }
def Tb:dw:={ ops:=[[],[{ mode:=3 },{ mode:=3 },{ mode:=3 },{},{},{},{ cC:=[false,true] },{ cC:=[false,true] },{ cC:=[false,true] }],[{},{},{ mode:=3 },{ mode:=3 },pZ,{},{},{},pZ,pZ,pZ],[{},{},{ mode:=3 },{ mode:=3 },pZ,{},{},{},pZ,pZ,pZ],[{},{},{ mode:=3 },{ mode:=3 },pZ,{},{},pZ,pZ],[pZ,{},{ mode:=3 },{ mode:=3 },pZ,{},{},pZ,pZ],[{},{ mode:=3 },pZ,{},pZ,pZ,pZ],[{},{ mode:=3 },pZ,{},pZ,pZ,pZ],[{},{ mode:=3 },pZ,{},pZ,pZ,pZ],[{},{},{ mode:=3 },{ mode:=3 },pZ,{ mode:=3 },{ mode:=3 },pZ,{},{},pZ,pZ],[{},{},{ mode:=3 },{ mode:=3 },pZ,{ mode:=3 },{ mode:=3 },pZ,{},{},pZ,pZ],[{},{},{ mode:=3 },{ mode:=3 },pZ,{ mode:=3 },{ mode:=3 },pZ,{},{},pZ,pZ],[pZ,{},{ mode:=3 },{ mode:=3 },pZ,{},{},pZ,pZ],[{},{},{ mode:=3 },{ mode:=3 },pZ,{},{},pZ,pZ],[{},{ mode:=3 },pZ,{},pZ,pZ,pZ],[pZ,pZ,pZ,pZ,pZ,{ cC:=[true,false,true] },pZ,pZ,pZ,{ cC:=[true,false,true] },pZ,pZ,pZ,{ cC:=[true,false,true] },pZ,pZ,pZ,{ cC:=[true,false,true] },pZ,pZ,pZ,{ cC:=[true,false,true] },pZ,pZ,pZ,{ cC:=[true,false,true] },pZ,pZ,pZ,{ cC:=[true,false,true] },pZ,pZ,pZ,{ cC:=[true,false,true] },pZ,pZ,pZ,{ cC:=[true,false,true] },pZ,pZ,pZ,{ cC:=[true,false,true] },pZ,pZ,pZ,{ cC:=[true,false,true] },pZ,pZ,pZ,{ cC:=[true,false,true] }],[],[pZ,{},{ mode:=3 },pZ,{ mode:=3 },pZ,{},{},pZ,pZ],[pZ,pZ,pZ,pZ,pZ,p5,pZ,pZ,pZ,p5,pZ,pZ,pZ,p5,pZ,pZ,{},{ mode:=3 },{ mode:=3 },p5,pZ,pZ,pZ,p5,pZ,pZ,pZ,p5,pZ,pZ,pZ,p5,pZ,pZ,pZ,p5,pZ,pZ,pZ,p5,pZ,pZ,{},{ mode:=3 },{ mode:=3 },p5,pZ]] }
def Te:dw:={ ops:=[[pZ],[{},{ mode:=3 },pZ,{},pZ,pZ,pZ],[{},pZ],(p4 [1,0,1]),[pZ,pZ,{ mode:=3 },{},pZ,pZ,pZ]] }
def Z2:dw:={ ops:=[[pZ],[{},{ mode:=3 },pZ,{},pZ,pZ,pZ],[{},pZ],(p4 [1,0,1]),[pZ,pZ,{ mode:=3 },pZ]] }
def Tg:dw:={ ops:=[[pZ],[pZ,{ mode:=3 },pZ,{},pZ,pZ,pZ],[{},pZ],(p4 [1,0,1]),[{},pZ,{},{ cC:=[false,true] }],[pZ,{ mode:=3 },{ mode:=3 },pZ],(p4 [1,1,0,1])] }
def Z3:dw:={ ops:=[[pZ],[{},{ mode:=3 },pZ],[pZ,{ mode:=3 },{},pZ],[{},pZ,pZ,{ mode:=3 },pZ],[{},{},{ mode:=3 },pZ],[{},{ mode:=3 },pZ],(p4 [0,1,1]),[pZ,{ mode:=3 },pZ],[{},{},{ mode:=3 },pZ],(p4 [0,0,2]),(p4 [0,1,1,1]),[pZ,pZ]],il:=[(0,(p' false [1,1,2,3,29]))] }
def JL:dw:={ ops:=[[pZ],[pZ,{ mode:=3 },pZ,{},pZ,{},{ cC:=[false,true] },pZ],[{},pZ],(p4 [1,0,1]),[],[{},{ mode:=3 }],[pZ],[pZ,pZ,{ mode:=3 },pZ],(p4 [0,1,2]),[pZ,pZ]] }
def Z4:dw:={ ops:=[[pZ],[{},{ mode:=3 },pZ],[pZ,{ mode:=3 },{},pZ],[],[{},pZ,pZ,{ mode:=3 },pZ],(p4 [0,1,1]),[pZ,{ mode:=3 },pZ],[{},{},{ mode:=3 },pZ],(p4 [1,1,1]),[pZ,pZ]],il:=[(0,(p' false [1,1,2,2,21]))] }
def Qd:dw:={ ops:=[[],(p4 [0,1,0,1,2]),[],[],(p4 [0,0,1,2]),(p4 [1,1,1]),(p4 [0,0,2,1,0,0,2,1,2]),[],[]],il:=[(0,(p' false [0,2,3,1,20]))] }
def Th:dw:={ ops:=[[{ cC:=[true],mode:=1 }],[{},{},pZ,{ mode:=2 },pZ,{},pZ,pZ,pZ],[{},pZ],(p4 [1,0,1]),[],[{},{},pZ,pZ,pZ,pZ,{ mode:=2 },pZ,pZ,pZ,p5],[],[],[{},pZ,{},{ cC:=[false,true] }],[pZ,{},pZ,pZ,pZ,{},pZ,pZ,{ mode:=3 },pZ,pZ,{},pZ,{ mode:=3 },{ cC:=[true,false,true] }],[],[{},pZ,pZ,pZ,pZ,{},pZ,{},pZ,{},{ cC:=[true],mode:=13 },pZ,p5,{ cC:=[true,true],mode:=13 },pZ],[pZ,pZ],[pZ,pZ,{ mode:=6 },pZ],[],(p4 [1,1,1])],il:=[(0,(p' false [1,3,4,1,1,1,22,3,38]))] }
def Qe:dw:={ ops:=[[pZ],[{},{},{ mode:=3 },pZ],[pZ,pZ,{ mode:=3 },{},pZ],[],(p4 [0,0,1,2]),(p4 [1,1,1]),[{},{},p5,pZ,{},{ cC:=[false,true] }],[{},pZ,pZ,pZ,{},pZ,{},pZ,pZ,p5,{ cC:=[false,false,true] },pZ,{},pZ,pZ,{},pZ,{},{},pZ,p5,pZ,pZ,p5,{ cC:=[false,true] },{ cC:=[false,false,true] },pZ,{},pZ,{ mode:=3 },pZ,{ cC:=[false,false,true] }],[],[pZ,{},{ mode:=3 },pZ,{ mode:=3 },pZ],[],(p4 [1,1,1])],il:=[(0,(p' false [1,3,4,1,58]))] }
def Ti:dw:={ ops:=[[pZ],[pZ,pZ,{ mode:=3 },pZ,{},pZ,pZ,pZ],(p4 [1,1,1,1,1])] }
def Z6:dw:={ ops:=[[pZ],[{},{},{ mode:=3 },pZ],[pZ,pZ,{ mode:=3 },{},pZ],[pZ,pZ,{ mode:=3 },pZ]] }
def Ol:dw:={ ops:=[[{ cC:=[true],mode:=1 }],[pZ,{},pZ,{ cC:=[false,true,true],mode:=8 },pZ,{},pZ,pZ,pZ],[{},pZ],(p4 [1,0,1]),[{},{},{ cC:=[false,true,true],mode:=1 },pZ,pZ,{ cC:=[false,true,true],mode:=1 },p5,{ cC:=[false,true],mode:=1 },{ cC:=[true],mode:=1 }],[{},{ cC:=[false,true],mode:=1 }],[{},pZ,{ cC:=[false,true] },pZ],(p4 [0,1,2]),[pZ,pZ]] }
def JM:dw:={ ops:=[[{ cC:=[true],mode:=1 }],[pZ,{ cC:=[false,true],mode:=8 },pZ,{},pZ,{},{ cC:=[false,true] },pZ],[{},pZ],(p4 [1,0,1]),[],[{},{ cC:=[false,true],mode:=9 }],[pZ],[],[],(p4 [0,0,1,1,1]),[{},{ cC:=[false,true] },pZ,pZ],[{},{},{},pZ,{ cC:=[false,true] },{ cC:=[false,true,true,true],mode:=1 },pZ,{},pZ,pZ,pZ],[{},{},{},pZ,pZ,pZ,{ cC:=[false,true,true,true,true],mode:=1 },pZ,{},pZ,pZ,pZ],(p4 [1,1,1,2]),[pZ,{ cC:=[false,true] },pZ],[pZ,pZ],(p4 [0,0,2]),[],[],[pZ],[],(p4 [0,0,1,1]),[pZ,pZ],[{},{},pZ,pZ,pZ,{ cC:=[true,true,true] },pZ,pZ,p5,pZ],[pZ,pZ],[pZ,pZ]],il:=[(2,(p' false [4,1,1,2,20,3,55])),(4,(p' false [14,1,53,2,16]))] }
def Z7:dw:={ ops:=[[pZ],[{},{ mode:=3 },pZ],[pZ,{ mode:=3 },{},pZ],(p4 [0,1,1,1]),[],[{},{ mode:=3 },pZ],(p4 [0,1,1]),[pZ,{ mode:=3 },pZ],[{},{},{ mode:=3 },{},{},{ mode:=3 },pZ,pZ],[],(p4 [0,0,2]),(p4 [1,1,1]),[{},{},{},p5,pZ,p5,pZ,pZ,pZ,{},pZ,pZ,pZ,{},{ cC:=[false,true] },pZ,{},{},{},{ cC:=[false,true] },{ mode:=3 },{ cC:=[false,true] },pZ,{},pZ,pZ,pZ,{},{ cC:=[false,true] },pZ,{},{},{},{ cC:=[false,true] },{ mode:=3 },{ cC:=[false,true] },{ cC:=[false,false,true] },{ cC:=[false,true] }],[pZ,{},{},p5,pZ,{ cC:=[false,true] },p5,pZ],[],[],(p4 [0,0,2]),(p4 [1,1,1]),(p4 [0,0,2,1,1]),(p4 [1,0,1,2,1]),[pZ,pZ]],il:=[(0,(p' false [1,1,2,3,91])),(2,(p' false [1,1,2,6,88])),(4,(p' false [4,2,4,2,86]))] }
def Tj:dw:={ ops:=[[pZ],[{},{ mode:=3 },pZ,pZ,pZ,{ mode:=3 },pZ,p5,pZ]] }
def Tk:dw:={ ops:=[[pZ],[{},{ mode:=3 },pZ,{},pZ,pZ,pZ],[{},{ mode:=3 },pZ,{},pZ,pZ,pZ],[pZ,pZ,pZ,pZ,pZ,{ cC:=[true,false,true] },pZ,{},{},pZ,pZ,{ mode:=3 },pZ,{ cC:=[true,false,true] }],[pZ,pZ],[{},{},{ mode:=3 },pZ,{},pZ,pZ,pZ],[{},pZ,pZ,pZ,pZ,{},p5,p5,pZ,pZ,pZ,{ mode:=3 },pZ,p5,p5,pZ,pZ]] }
def M8:dw:={ ops:=[[],[],[],(p4 [0,0,2]),(p4 [1,1,1]),(p4 [1,0,1,2,1]),[],(p4 [0,1,1]),(p4 [1,1,1]),[],(p4 [0,1,1]),(p4 [0,0,0,1,2,2,1,1,0,1,2,1]),(p4 [1,0,0,2,1,1,2,1]),(p4 [0,0,0,2,2,0,0,1,2,2,1]),[pZ,pZ]],il:=[(0,(p' false [0,2,3,3,48])),(2,(p' false [1,1,3,2,1,1,47]))] }
def Tl:dw:={ ops:=[[pZ],[pZ,{},pZ,{ mode:=3 },pZ,{},pZ,pZ,pZ],[{},pZ],(p4 [1,0,1]),[pZ,pZ,{ mode:=3 },pZ]] }
def Tm:dw:={ ops:=[[pZ],[{},{},pZ,{ mode:=3 },pZ,{},pZ,pZ,pZ],(p4 [0,1,1]),(p4 [1,0,0,1]),[{},pZ,pZ,pZ,pZ,pZ,{},pZ,{ mode:=3 },pZ,pZ],[],[pZ,pZ,pZ,{ mode:=3 },{},{ cC:=[false,true] }],(p4 [0,1,0,1,1,1])] }
def Tn:dw:={ ops:=[[],(p4 [0,1,1,2,1])] }
def Z9:dw:={ ops:=[[],[],[],(p4 [0,0,2]),(p4 [1,1,1]),(p4 [1,0,1,2,1]),[pZ,pZ]],il:=[(0,(p' false [0,1,2,2,10]))] }
def Tp:dw:={ ops:=[[],[{},{ mode:=3 },{ cC:=[false,true] }]] }
def Tq:dw:={ ops:=[[],[{},{ mode:=3 },{ cC:=[false,true] }]] }
def Tr:dw:={ ops:=[[],[{},{ mode:=3 },{ cC:=[false,true] }]] }
def Ts:dw:={ ops:=[[],[pZ,pZ]] }
def Tt:dw:={ ops:=[[],[pZ,pZ]] }
def Tu:dw:={ ops:=[[],[pZ,pZ,pZ,p5,p5,{ cC:=[false,true] }]] }
def Qf:dw:={ ops:=[[pZ],[],(p4 [0,1,1,1]),(p4 [0,0,1,1,2]),(p4 [1,1,1]),[{},{},{},{ mode:=3 },{},{},{},{ mode:=3 },pZ,pZ],[pZ,{},pZ,pZ,{},pZ,pZ,{ cC:=[true,true,true,true,true] },pZ],[pZ,pZ]],il:=[(0,(p' false [1,2,2,2,29]))] }
def Kq:dw:={ ops:=[[pZ],[{},{ mode:=3 },pZ],[{},pZ],(p4 [1,0,1]),[pZ],[],(p4 [0,1,1]),[{},{ mode:=3 },{ mode:=3 },pZ],[pZ],[],(p4 [0,0,1,1,1]),(p4 [1,1,2]),[],[pZ,pZ],(p4 [1,1,0,1,1,2]),[],[pZ,pZ],(p4 [1,0,2,1,1])],il:=[(0,(p' false [2,1,14,3,28])),(2,(p' false [2,1,5,1,8,3,6,3,19]))] }
def Tv:dw:={ ops:=[[],[],(p4 [0,1,1,1,1,1,0,1,1,1,1,1,2]),[],(p4 [0,1,1]),[{},{},pZ,{ mode:=3 }],[],[{},pZ],[pZ,{},pZ,pZ,{ cC:=[true,true,true] },pZ],[pZ,pZ],[pZ,pZ],[pZ,pZ]],il:=[(0,(p' false [0,2,3,1,16,3,18])),(2,(p' false [0,2,3,1,16,3,6,2,10]))] }
def Tw:dw:={ ops:=[[],(p4 [1,0,1])] }
def Tx:dw:={ ops:=[[pZ],[pZ,pZ]] }
def Qg:dw:={ ops:=[[],(p4 [0,1,1,1]),[pZ,pZ],[],(p4 [0,1,1]),[{},{},{},{ mode:=6 }],[pZ,pZ],[pZ,pZ],[pZ,pZ]],il:=[(0,(p' false [1,1,3,1,6,3,10]))] }
def Ty:dw:={ ops:=[[],[{},pZ,{ mode:=3 },{},pZ,{ mode:=3 },p5,pZ]] }
def Om:dw:={ ops:=[[pZ],(p4 [0,1,1,1]),(p4 [0,1,1,0,1,2,1,0,1,2]),[],[],(p4 [0,0,2]),(p4 [1,1,1]),[{},pZ,{},p5,pZ,{ mode:=3 },pZ],[],[{},pZ,pZ,pZ,pZ,{},pZ,pZ,{},pZ,pZ,p5,{ cC:=[true,false,true] },pZ,pZ,pZ,pZ,pZ,{ cC:=[true,false,true] }],[],[]],il:=[(0,(p' false [1,1,1,2,44]))] }
def Z':dw:={ ops:=[[pZ],[{},{},{},pZ,pZ,{ mode:=3 },{},{},{},pZ,pZ,{ mode:=3 },pZ,pZ],[{},{},{},pZ,pZ,{ mode:=3 },{},{},{},pZ,pZ,{ mode:=3 },pZ,pZ],[{},pZ,pZ,{},pZ,pZ,{},pZ,pZ,{},pZ,pZ,{ cC:=(p' false [0,8]) },pZ]] }
def aaa:dw:={ ops:=[[],(p4 [0,1,1]),(p4 [0,1,1]),[{},pZ],(p4 [1,1,1]),(p4 [0,0,2,1,0,0,1,2,1,2]),[],(p4 [0,1,1]),(p4 [0,0,2]),(p4 [1,1,1]),[{},{},p5,pZ,{},{},p5,pZ,p5,pZ,{},pZ,pZ,{},{},p5,pZ,{},p5,{ cC:=[false,false,true] },{ cC:=[false,true] }],(p4 [0,0,2,1,1]),(p4 [0,1,1,2,2,1,1,2,1]),[],(p4 [0,0,2]),(p4 [1,1,1]),[{},{},{ mode:=3 },pZ],(p4 [1,0,1,2,1]),[pZ,pZ],[]],il:=[(0,(p' false [0,1,2,2,76])),(2,(p' false [0,1,2,4,74])),(4,(p' false [3,1,3,2,72]))] }
def Tz:dw:={ ops:=[[],[{},pZ],[],[{},pZ,p5,{ cC:=[true],mode:=1 }]] }
def TA:dw:={ ops:=[[pZ,pZ],[pZ,p5,{ mode:=6 },pZ,pZ]] }
def TB:dw:={ ops:=[[pZ],[{},pZ,pZ,{ mode:=3 },pZ,pZ,pZ,pZ,pZ,{ mode:=3 },pZ,{ cC:=[true,false,true] },pZ]] }
def Qh:dw:={ ops:=[[pZ],[{},{ mode:=3 },pZ],[pZ,{ mode:=3 },pZ],(p4 [0,1,0,1,1,2]),[],[],(p4 [0,0,1,2]),(p4 [1,1,1]),[{},{},p5,pZ,pZ,pZ,{},{},p5,pZ,{},pZ,pZ,p5,{ cC:=[false,false,true] },pZ,{},{},p5,{},{},p5,pZ,{ mode:=3 },{ cC:=[false,false,true] }],[],[]],il:=[(0,(p' false [1,2,2,1,42]))] }
def TC:dw:={ ops:=[[pZ],(p4 [0,1,1,1,0,1,1,2,1,0,1,1,2,1,1,1,1,2,1])] }
def Qi:dw:={ two:=[(1,[0,1,2,7,3,4,5,6,8],3,7)],ops:=[[{ cC:=[true],mode:=1 }],[{},{},{ cC:=[true],mode:=3 },{ cC:=[true,true],mode:=2 },{},{ cC:=[true],mode:=3 },p5,{},{ cC:=[false,true] }],[],(p4 [0,0,1,2]),(p4 [1,1,1]),(p4 [0,1,0,0,2,1,1,0,0,2,1,1,2,2]),[pZ,{ cC:=[false,true] }]],il:=[(0,(p' false [1,1,2,3,27]))] }
def aac:dw:={ ops:=[[pZ],[{},{},{ mode:=3 },{},{},{ mode:=3 },p5,pZ]] }
def TD:dw:={ ops:=[[],[],[],[],(p4 [0,1,1]),(p4 [1,1,1,2,1]),[{},pZ],[{},pZ],[pZ,pZ],(p4 [1,0,1]),[pZ],[],(p4 [0,1,1]),(p4 [1,1,2,1]),[pZ,pZ],[pZ,pZ]],il:=[(0,(p' false [0,1,2,1,5,3,24])),(2,(p' false [6,1,18,3,8]))] }
def KY:dw:={ ops:=[[],[{},{},{},{ cC:=[false,true,true,true],mode:=1 },pZ,{},pZ,pZ,pZ],[pZ],[],[],[{},pZ],[],[{},pZ],(p4 [0,1,0,2]),[{},{},{},{},pZ,{ cC:=[false,true,true,true,true],mode:=1 },pZ,{},pZ,pZ,pZ],[pZ],[pZ,pZ],[{},{},{ cC:=[false,true,true],mode:=9 },pZ],(p4 [1,1,1,2,1]),[pZ,pZ],[],[pZ],[],(p4 [0,1,1]),(p4 [1,0,0,2,1,0,1,1,1,1,0,0,1,1,0,2,2,1,2,1,2,1,2,1]),[pZ,pZ],[pZ,pZ]],il:=[(0,(p' false [0,3,6,1,15,2,57])),(2,(p' false [0,2,11,1,39,3,28]))] }
def TE:dw:={ ops:=[(p4 [0,1,1]),[pZ,{},pZ,pZ,{ mode:=3 },pZ,{ cC:=[false,true,false,true,true,true],mode:=1 }]] }
def TF:dw:={ ops:=[[pZ,pZ],(p4 [1,1,1,1,2,1])] }
def L7:dw:={ ops:=[[],[{},{},pZ,{},{ cC:=[false,true,true,true,true],mode:=9 },{},{ cC:=[false,true] }],(p4 [0,1,1,1,1,1,0,1,1,1,1,1,2,1]),(p4 [0,1,1]),[{},{},p5,pZ,pZ,pZ,{},pZ,{},pZ,pZ,pZ,pZ,pZ,pZ,pZ,p5,p5,pZ,{ cC:=[false,true] },{ cC:=[false,false,true] },{},pZ],[{},pZ,pZ,pZ,{},{},pZ,pZ,{ cC:=[false,true,true],mode:=9 },p5,pZ,{},{},pZ,pZ],[pZ,pZ],[{},{},{},pZ,pZ,{ cC:=[false,true,true],mode:=9 },{ mode:=2 },pZ],[{},pZ,pZ,pZ,{},{},pZ,pZ,{ cC:=[false,true,true],mode:=9 },{},{ cC:=[true,true,true] }],[{},pZ,pZ,{},pZ,pZ,p5,{},{ cC:=[false,true] }],[pZ],[{},pZ,pZ,{},pZ,pZ,pZ,pZ,pZ,pZ,pZ,p5,p5,pZ,{ cC:=[false,true] }],[pZ,pZ,p5,pZ,{},pZ,{},{ cC:=[false,true] },pZ],[pZ,pZ],[],(p4 [1,1,1,1,2,1,1,2,1,1])] }
def aad:dw:={ ops:=[[pZ],[],[],[pZ,pZ],(p4 [0,0,1,2]),(p4 [1,1,1]),[{},pZ,{},{},p5,pZ,p5,pZ,{},{},pZ,{ mode:=3 },{},{ cC:=[false,true] },pZ],(p4 [0,0,2,1,1]),(p4 [1,1,1,2,1]),(p4 [1,0,0,1,2,2,1,0,0,1,2,2,1,1]),(p4 [0,1,1,1]),(p4 [0,1,1,1,2]),[pZ,{},{ cC:=[false,true] },{},{ cC:=[false,true] },{ cC:=[false,true] },pZ,pZ,pZ,pZ,p5,p5,{ mode:=3 },pZ],[{},pZ,pZ,{ mode:=3 },pZ,pZ,pZ,pZ,{ mode:=3 },p5,pZ]],il:=[(0,(p' false [1,1,1,2,4,4,74]))] }
def Qk:dw:={ ops:=[[],(p4 [0,1,0,2]),[],[],(p4 [0,0,2]),(p4 [1,1,1]),[{},{},p5,pZ,pZ,pZ,{},{},p5,pZ,{},p5,{ cC:=[false,false,true] },pZ,{},{},p5,{},{},p5,pZ,{ mode:=3 },{ cC:=[false,false,true] }],[],[]],il:=[(0,(p' false [0,2,3,1,32]))] }
def TG:dw:={ ops:=[[],[],[{},pZ],[],[],[{},pZ],[{},{},{},{ mode:=3 },{},{ cC:=[false,true] }],[pZ,{},pZ,pZ,pZ,{},p5,p5,{ cC:=[false,true] },p5],[pZ,pZ],[pZ,{ cC:=[false,true] }]],il:=[(0,(p' false [0,3,3,2,3,1,17]))] }
def Ql:dw:={ ops:=[[],[pZ,pZ,p5,pZ,{},{ cC:=[false,true] }],[],(p4 [0,1,0,1,2]),(p4 [1,1,1]),[{},{ cC:=[true],mode:=1 },{},{},p5,pZ,{},{},pZ,p5,pZ,p5,pZ,p5,{},p5],[pZ,{ cC:=[false,true] }]],il:=[(0,(p' false [2,1,3,3,27]))] }
def Qm:dw:={ ops:=[[pZ],[],[],(p4 [0,0,1,2]),(p4 [1,1,1]),(p4 [0,1,0,2]),[{},pZ,{},{},p5,pZ,p5,pZ,{},{ cC:=[false,true] }],[pZ,{},{},pZ,{ mode:=3 },{},pZ,{},pZ,{},p5,p5,p5,p5,pZ],[pZ,pZ]],il:=[(0,(p' false [1,4,4,2,34]))] }
def Qn:dw:={ ops:=[[pZ],[{},pZ,pZ,pZ,{ mode:=3 },pZ,pZ,{},pZ,pZ,pZ,pZ,{ cC:=[true,false,true] },pZ],[],[{},pZ,{ mode:=3 },pZ,{},pZ,pZ,{},pZ,pZ,p5,{ mode:=3 },pZ,{ cC:=[true,false,true] },pZ,{},pZ,pZ,pZ,pZ,pZ,p5,{ cC:=[true,false,true] },pZ],[],[]] }
def TH:dw:={ ops:=[[],(p4 [1,0,1]),[{ cC:=[true],mode:=1 },{ cC:=[false,true],mode:=1 }],[{ cC:=[true],mode:=2 },pZ]] }
def TI:dw:={ ops:=[[pZ],[pZ,pZ]] }
def JN:dw:={ ops:=[[pZ],[pZ],[pZ],[{ mode:=1 },pZ,pZ,p5,p5],[{ cC:=[true],mode:=1 },pZ]] }
def TJ:dw:={ ops:=[[pZ],[],[],[{ cC:=[true,true,true] },{ cC:=[false,true] }],[pZ,{ cC:=[true],mode:=1 }]] }
def Kr:dw:={ ops:=[[],(p4 [0,1,0,1,1,1,1,1,2]),[pZ,pZ,{ cC:=[true,true],mode:=1 },pZ],(p4 [1,1,1,1,1,1]),[],[{},pZ],[{},{ cC:=[false,true] },pZ,pZ],[{},{ cC:=[false,true] },pZ],[{},{},{},pZ,{},pZ,{ cC:=[true,true,true] },{},pZ,p5,{ cC:=[true,true],mode:=1 },pZ],[pZ,{ cC:=[false,true] },pZ],[pZ,pZ],[],[pZ,pZ],[]],il:=[(0,(p' false [0,1,2,2,21,2,24]))] }
def Qo:dw:={ ops:=[[],[],(p4 [0,0,1,2]),(p4 [1,1,1]),(p4 [0,0,2,1,0,2]),[],[]],il:=[(0,(p' false [0,2,3,1,12]))] }
def TK:dw:={ ops:=[[],[pZ,pZ,{ mode:=6 },pZ,pZ]] }
def TL:dw:={ ops:=[[],[{},pZ,p5,pZ,pZ,pZ,p5,{ cC:=[true,false,true] },pZ]] }
def aaf:dw:={ ops:=[[pZ],[],[{},pZ],(p4 [1,1,1]),[],[{},{},pZ,{ cC:=[false,true] },p5],(p4 [1,1,1]),[],[],(p4 [0,0,1,2]),(p4 [1,1,1]),[pZ,pZ,{},{},p5,pZ,pZ,pZ,{},pZ,{},p5,{ cC:=[true,false,true] },p5,pZ],[pZ,pZ,{},{ mode:=3 },{},p5,p5,pZ,{},{},{},{},{ mode:=3 },p5],[pZ,pZ],[]],il:=[(0,(p' false [1,3,3,1,49])),(2,(p' false [1,3,3,2,48])),(4,(p' false [1,3,3,4,46]))] }
def aag:dw:={ ops:=[[],[{},pZ],[{},pZ],(p4 [1,0,1,0,1,2,2,1]),[{},pZ],(p4 [0,0,1,2,1,2,1,1,2,1]),[pZ,pZ]] }
def TM:dw:={ ops:=[[],(p4 [1,1,1,1,1,1,1,1,2,1])] }
def TN:dw:={ ops:=[[],[],(p4 [0,0,2,1]),[{},pZ],[pZ,pZ,pZ,pZ,{ cC:=[false,true,true,true,true],mode:=1 }],[{},pZ],[pZ,pZ,pZ,pZ,{ cC:=[false,true,true,true,true],mode:=1 }],[{},pZ],[{},{},{},{},{ cC:=[false,true,true,true,true],mode:=1 }],(p4 [1,1,1]),[{},{},{},{},{ cC:=[false,true,true,true,true],mode:=1 },pZ,{},pZ,pZ,pZ],[{},pZ],[{},{},{},{},{ cC:=[false,true,true,true,true],mode:=1 }],(p4 [0,1,1,0,2,2,1]),[],(p4 [0,1,0,2,1,1,1,2]),[{},{},{},{},{ cC:=[false,true,true,true,true],mode:=1 }],[{},pZ,pZ,{},{},{},pZ,p5,pZ,{},{},p5,pZ,{ mode:=6 },pZ,pZ,{ cC:=[false,true] }],[{},pZ,{},pZ,{},{ cC:=[false,true,true,true,true,true],mode:=1 },pZ],[pZ,pZ],[{},{},{},pZ,{},{ cC:=[false,true,true,true,true,true],mode:=1 },pZ,{},pZ,pZ,pZ],[pZ,pZ],(p4 [0,0,2,0,0,2,1,1]),(p4 [1,1,1]),(p4 [0,0,2]),(p4 [1,1,2,1]),[{},pZ,{},{},{},{ cC:=[false,true,true,true,true,true],mode:=1 }],(p4 [1,1,1]),(p4 [1,1,2,1]),[{},{},pZ,pZ,{},{},{ cC:=[false,true,true,true,true,true],mode:=1 }],[pZ,pZ]],il:=[(0,(p' false [0,5,5,2,136]))] }
def aah:dw:={ ops:=[[],[pZ,pZ,{ mode:=3 },pZ],[pZ,{ mode:=3 },pZ]] }
def Qp:dw:={ ops:=[[],[],[pZ],[],(p4 [0,0,1,1,1]),[{},pZ,{},p5,pZ,{},{},{ mode:=3 },{ cC:=[true,false,true] }],[{},pZ,pZ,pZ,pZ,pZ,p5,pZ,{},{ cC:=[false,true] }],[{},pZ,{},{},{ mode:=3 },{},pZ,p5,p5,{},p5],[{},pZ,{},pZ,{ mode:=3 },pZ,pZ,p5,p5,{},p5],[pZ,pZ],[pZ,{ cC:=[false,true] }]],il:=[(0,(p' false [0,1,1,2,4,2,3,3,43]))] }
def KZ:dw:={ ops:=[[],[{},pZ],[],[{},pZ],(p4 [1,1,1]),[],[{},pZ],(p4 [1,1,1]),[{},{},p5,{},{},p5,p5,{},{ cC:=[false,true] }],(p4 [0,1,1,1,1,1,0,1,1,1,1,1,2]),[{},{},{},{},pZ,pZ,pZ,pZ,pZ,p5,p5,p5,pZ,{ cC:=[false,true] }],[{},pZ,{},{},p5,{ cC:=[true,true,true] }],[{},pZ],[{},{},pZ,pZ,pZ,pZ,pZ,pZ,{ mode:=3 },pZ],[],(p4 [0,1,1,1,1]),[],[{},pZ,{},{ cC:=[false,true] }],(p4 [0,1,0,1,0,1,1,1,1,1,2,2,1]),[pZ,{},pZ,pZ,{},pZ,pZ,{ cC:=[true,true,true] },p5,p5,pZ],[pZ,pZ],[{},pZ],[{},pZ],[{},pZ,{},{ cC:=[false,true] }],[{},pZ,{},{},pZ,pZ,{ mode:=3 },pZ],(p4 [0,1,2]),[pZ,pZ]],il:=[(0,(p' false [0,2,3,2,116])),(2,(p' false [0,2,3,3,115])),(4,(p' false [0,1,4,1,3,2,66,3,43])),(6,(p' false [5,1,4,1,96,1,15]))] }
def TP:dw:={ ops:=[[],(p4 [1,1,1,2,1])] }
def aaj:dw:={ ops:=[[],(p4 [0,1,1]),(p4 [1,1,1]),(p4 [0,1,1]),(p4 [1,1,1,1]),[{},pZ,pZ,{},{},p5,pZ,p5,pZ,{},{},p5,pZ,p5,p5,pZ,{},{},p5,pZ,p5,p5,pZ,pZ,pZ,pZ,pZ,pZ,p5,{ cC:=[true,false,true] },pZ],[{},pZ],(p4 [0,0,2]),(p4 [1,1,1]),[{},pZ,{},{},{},{},pZ,pZ,{},p5,p5,{ mode:=3 }],[],[]],il:=[(0,(p' false [0,4,6,1,59]))] }
def TQ:dw:={ ops:=[[],[pZ,pZ,{ mode:=6 },pZ,pZ]] }
def TR:dw:={ ops:=[[],(p4 [1,0,1])] }
def TS:dw:={ ops:=[(p4 [0,1,1]),[pZ,{},pZ,pZ,{ mode:=3 },{ cC:=[false,true,false,true,true],mode:=1 }]] }
def TT:dw:={ ops:=[[pZ],[],(p4 [0,1,1]),[{},pZ,{ cC:=[true,true],mode:=1 },pZ],[pZ,pZ]],il:=[(0,(p' false [0,1,4,3,8]))] }
def Qq:dw:={ ops:=[[],[{},pZ],[],[{},pZ],[{},{},{},p5,pZ,{ mode:=6 }],[pZ,pZ],[pZ,pZ],[]],il:=[(0,(p' false [0,2,5,2,10]))] }
def aak:dw:={ ops:=[[],[],[],[{},pZ],(p4 [1,1,1]),(p4 [1,0,0,2,1,2,1]),[pZ,pZ]],il:=[(0,(p' false [0,1,2,2,11]))] }
def TU:dw:={ ops:=[(p4 [0,1,1]),(p4 [0,0,2]),(p4 [1,1,1]),[{},pZ],[{},{},p5,pZ,{},{},{},p5,pZ,{},{},pZ,p5,pZ,{ mode:=6 },pZ,{ cC:=[false,true] }],(p4 [1,1,1]),(p4 [0,0,0,0,1,0,0,1,2,1,0,0,2,1,2,2,2,2])],il:=[(0,(p' false [0,4,4,1,44])),(2,(p' false [0,4,4,2,43]))] }
def aal:dw:={ ops:=[[{},pZ],[],(p4 [1,1,2,1]),(p4 [0,1,1,1]),[{},pZ],(p4 [1,1,1]),[{},{},{},{},{},{ cC:=[false,true,true,true,true,true],mode:=1 }],(p4 [1,1,1]),[{},pZ],(p4 [1,1,1]),(p4 [0,0,0,0,0,2,0,0,0,2,2,1,0,0,2,1,2,2,2,2]),[{},{},{},{},{},{ cC:=[false,true,true,true,true,true],mode:=1 }]],il:=[(0,(p' false [0,1,2,1,4,4,48])),(2,(p' false [0,1,2,1,4,2,2,1,47]))] }
def aam:dw:={ ops:=[(p4 [1,0,2,1]),[{},pZ],[{},pZ,{},{ cC:=[false,true] }],[{},{ mode:=3 },pZ],(p4 [0,0,1,1,2,1,1]),(p4 [0,0,0,1,1,2,1,2]),(p4 [1,1,1]),[{ mode:=1 },{},pZ,p5,pZ,pZ],(p4 [0,0,2]),(p4 [1,0,2,1]),(p4 [0,0,0,0,0,2,0,0,0,2,2,1,0,0,2,1,2,2,2,2])],il:=[(0,(p' false [0,2,6,4,55]))] }
def aan:dw:={ ops:=[[],(p4 [1,0,2,1]),[],(p4 [0,0,1,1,2,1]),(p4 [0,0,1,1,2,1]),(p4 [1,0,1,1,2,1]),[{},pZ],[pZ,pZ],[{},pZ,{},{ cC:=[false,true,true,false,true],mode:=1 },pZ],[{},pZ,{},{ cC:=[false,true,true,false,true],mode:=1 },pZ],[{},pZ,{},{ cC:=[false,true,true,false,true],mode:=1 },pZ],[pZ,pZ,pZ,pZ,pZ,{ cC:=[false,true,true,true,true,false,true],mode:=1 },pZ],[pZ],[pZ,pZ],[{},pZ],[pZ,pZ],[pZ,pZ],[pZ,pZ]] }
def aao:dw:={ ops:=[[pZ,pZ],(p4 [1,1,1]),(p4 [0,0,2]),(p4 [0,0,0,0,0,0,2,1,0,0,2,1,2,2,2,2]),(p4 [1,1,1]),(p4 [1,1,1])],il:=[(0,(p' false [0,1,7,2,24]))] }
def aap:dw:={ ops:=[[],(p4 [0,1,1]),[],[{},pZ],(p4 [1,1,1]),[{},{},p5,pZ,{},{},{},p5,pZ,{},{},pZ,p5,pZ,{ mode:=6 },pZ,pZ,{ cC:=[false,true] }],(p4 [1,1,1]),(p4 [0,0,2]),[],(p4 [0,0,2,1]),[],(p4 [0,0,0,0,1,0,0,1,2,1,0,0,2,1,2,2,2,2]),(p4 [0,0,2,1]),(p4 [0,1,1]),[{},pZ],(p4 [1,1,1]),[{},{},{},p5,pZ,{},{},pZ,p5,pZ,{ mode:=6 },pZ,pZ],(p4 [0,0,0,0,1,0,0,1,2,1,0,0,2,1,2,2,2,2]),(p4 [0,0,2,1]),(p4 [0,1,1]),(p4 [0,0,2]),(p4 [1,1,1]),[{},{},{},p5,pZ,{},{},pZ,p5,pZ,{ mode:=6 },pZ,pZ],(p4 [0,0,0,0,1,0,0,1,2,1,0,0,2,1,2,2,2,2]),[]],il:=[(0,(p' false [0,4,5,2,130])),(2,(p' false [0,4,5,2,130])),(4,(p' false [0,4,5,3,129])),(6,(p' false [0,4,5,2,1,1,128]))] }
def aaq:dw:={ ops:=[[],(p4 [0,0,0,0,0,0,2,1,0,0,2,1,2,2,2,2]),(p4 [0,1,1,1,1,1]),[{},{},p5,pZ,{},{},{},p5,pZ,{},{},p5,pZ,{ mode:=6 },pZ,pZ,{ cC:=[false,true] }],(p4 [1,1,1]),[{},{},p5,pZ,{},{},{},p5,pZ,{},{},p5,pZ,{ mode:=6 },pZ,{ cC:=[false,true] }],(p4 [1,1,1]),(p4 [0,0,2]),(p4 [0,0,0,0,0,0,2,1,0,0,2,1,2,2,2,2]),(p4 [1,1,1]),(p4 [1,1,1]),[pZ,pZ]],il:=[(0,(p' false [0,2,2,1,6,2,77])),(2,(p' false [0,2,2,1,6,2,77])),(4,(p' false [0,2,2,1,6,2,77]))] }
def aar:dw:={ ops:=[[],(p4 [0,0,0,0,0,0,2,1,0,0,2,1,2,2,2,2]),(p4 [0,1,1,1,1,1]),[{},{},p5,pZ,{},{},{},p5,pZ,{},{},p5,pZ,{ mode:=6 },pZ,{ cC:=[false,true] }],(p4 [1,1,1]),[{},{},p5,pZ,{},{},{},p5,pZ,{},{},p5,pZ,{ mode:=6 },pZ,pZ,{ cC:=[false,true] }],(p4 [1,1,1]),(p4 [0,0,2]),(p4 [0,0,0,0,0,0,2,1,0,0,2,1,2,2,2,2]),[pZ,pZ],(p4 [0,0,0,0,0,0,2,1,0,0,2,1,2,2,2,2]),(p4 [1,1,1]),(p4 [1,1,1]),[{},{},p5,pZ,{},{},{},p5,pZ,{},{},p5,pZ,{ mode:=6 },pZ,{ cC:=[false,true] }],(p4 [1,1,1]),[{},{},p5,pZ,{},{},{},p5,pZ,{},{},p5,pZ,{ mode:=6 },pZ,pZ,{ cC:=[false,true] }],(p4 [1,1,1]),(p4 [0,0,2]),(p4 [0,0,0,0,0,0,2,1,0,0,2,1,2,2,2,2]),(p4 [1,1,1]),(p4 [1,1,1]),(p4 [0,0,0,0,0,0,2,1,0,0,2,1,2,2,2,2]),[pZ,pZ]],il:=[(0,(p' false [0,2,2,1,7,2,164])),(2,(p' false [0,2,2,1,7,2,164])),(4,(p' false [0,2,2,1,7,2,164])),(6,(p' false [0,2,2,1,7,2,164])),(8,(p' false [0,2,2,1,7,2,164]))] }
def aas:dw:={ ops:=[[],[{},pZ],(p4 [1,1,1]),[],[{},pZ],(p4 [1,1,1]),(p4 [1,1,1]),[pZ,pZ,pZ,{ cC:=[false,true] },pZ,p5,pZ]] }
def aat:dw:={ ops:=[[],[{},pZ],(p4 [1,1,1]),[],[{},pZ],(p4 [1,1,1]),(p4 [1,1,1]),[{},pZ],(p4 [1,1,1]),(p4 [1,1,1]),[pZ,pZ,pZ,{ cC:=[false,true] },pZ,p5,pZ]] }
def S_:dw:={ ops:=[[],[pZ,pZ,{ mode:=3 },pZ,pZ]] }
def Qb:dw:={ ops:=[[],[{},pZ],[],[{},pZ],[{},{},{},p5,pZ,{ mode:=6 }],[pZ,pZ],[pZ,pZ],[]],il:=[(0,(p' false [0,2,5,2,10]))] }
def JK:dw:={ ops:=[[pZ],[pZ],[pZ],[{ mode:=1 },pZ,pZ,p5,{ cC:=[true,true],mode:=1 }],[{ cC:=[true],mode:=1 },pZ]] }
def Ta:dw:={ ops:=[[],[],(p4 [0,0,2,1]),[{},pZ],[pZ,pZ,pZ,{ cC:=[false,true,true,true],mode:=1 }],[{},pZ],[pZ,pZ,pZ,{ cC:=[false,true,true,true],mode:=1 }],[{},pZ],[{},{},{},{ cC:=[false,true,true,true],mode:=1 }],(p4 [1,1,1]),[{},{},{},{ cC:=[false,true,true,true],mode:=1 },pZ,{},pZ,pZ,pZ],[{},pZ],[{},{},{},{ cC:=[false,true,true,true],mode:=1 }],(p4 [0,1,1,0,2,2,1]),[],(p4 [0,1,0,2,1,1,1,2]),[{},{},{},{ cC:=[false,true,true,true],mode:=1 }],[{},pZ,pZ,{},{},pZ,p5,pZ,{},{},p5,pZ,{ mode:=3 },pZ,{ cC:=[false,true] }],[{},pZ,{},pZ,{ cC:=[false,true,true,true,true],mode:=1 },pZ],[pZ,pZ],[{},{},{},pZ,{ cC:=[false,true,true,true,true],mode:=1 },pZ,{},pZ,pZ,pZ],[pZ,pZ],(p4 [0,0,2,0,0,2,1,1]),(p4 [1,1,1]),(p4 [0,0,2]),(p4 [1,1,2,1]),[{},pZ,{},{},{ cC:=[false,true,true,true,true],mode:=1 }],(p4 [1,1,1]),(p4 [1,1,2,1]),[{},{},pZ,pZ,{},{ cC:=[false,true,true,true,true],mode:=1 }],[pZ,pZ]],il:=[(0,(p' false [0,4,4,2,124]))] }
def ZL:dw:={ ops:=[[pZ,pZ],[{},{ cC:=[false,true] },pZ,pZ],(p4 [0,0,2]),[{},pZ,{},p5,pZ,{},{},{},{},p5,p5,pZ,{},{},{},p5,pZ,p5,pZ,{ mode:=6 },pZ,{ cC:=[false,true] }],(p4 [1,1,1]),[{},{},{},{},p5,p5,pZ,{},{},{},p5,p5,pZ,{ mode:=6 },pZ,pZ],(p4 [0,0,0,2,0,0,0,2,0,0,0,2,2,1,0,0,0,2,2,1,2,2,2,2]),[pZ,pZ]],il:=[(0,(p' false [0,1,1,3,5,1,71]))] }
def ZM:dw:={ ops:=[[],[pZ,pZ,{ mode:=3 },{ cC:=[false,true] },pZ]] }
def ZN:dw:={ ops:=[[],(p4 [0,0,1,0,1,1,1,2,0,2]),(p4 [0,0,1,0,1,1,1,2,0,2]),(p4 [0,0,1,0,1,1,1,2,0,2]),(p4 [1,1,1,1])] }
def ZO:dw:={ ops:=[[],[pZ,{},pZ,{},pZ,pZ,pZ,pZ,{ cC:=[false,true,true,true,true,true,true],mode:=1 },pZ]] }
def ZP:dw:={ ops:=[[],[{},pZ,pZ,{},{},{ cC:=[false,true,true,true,true,true],mode:=1 },pZ,{},pZ,pZ,pZ],[{},pZ,pZ,{},{},{ cC:=[false,true,true,true,true,true],mode:=1 },pZ,{},pZ,pZ,pZ],[pZ,pZ,pZ,pZ,pZ,{ cC:=[false,true,true,true,true,true],mode:=1 },pZ,{},pZ,pZ,pZ],[pZ,pZ]] }
def Qc:dw:={ ops:=[[],[{},pZ],[],[{},pZ],(p4 [0,0,0,2,1,2]),[pZ,pZ],[pZ,pZ],[]],il:=[(0,(p' false [0,2,5,2,10]))] }
def Tc:dw:={ ops:=[(p4 [0,1,1]),(p4 [0,0,2]),(p4 [1,1,1]),[{},pZ],[{},{},p5,pZ,{},{},p5,pZ,{},{},pZ,p5,pZ,{ mode:=3 },{ cC:=[false,true] }],(p4 [1,1,1]),(p4 [0,0,0,0,1,0,0,1,2,1,0,0,2,1,2,2,2,2])],il:=[(0,(p' false [0,3,3,1,42])),(2,(p' false [0,3,3,2,41]))] }
def ZQ:dw:={ ops:=[[{},pZ],[],(p4 [1,1,2,1]),(p4 [0,1,1,1]),[{},pZ],(p4 [1,1,1]),[{},{},{},{},{ cC:=[false,true,true,true,true],mode:=1 }],(p4 [1,1,1]),[{},pZ],(p4 [1,1,1]),(p4 [0,0,0,0,0,2,0,0,0,2,2,1,0,0,2,1,2,2,2,2]),[{},{},{},{},{ cC:=[false,true,true,true,true],mode:=1 }]],il:=[(0,(p' false [0,1,5,4,46])),(2,(p' false [0,1,5,2,2,1,45]))] }
def ZR:dw:={ ops:=[(p4 [1,0,2,1]),[{},pZ],[{},pZ,{},{ cC:=[false,true] }],[{},{ mode:=3 },pZ],(p4 [0,0,1,1,2,1,1]),(p4 [0,0,0,1,1,2,1,2]),(p4 [1,1,1]),[{ mode:=1 },{},pZ,p5,pZ,pZ],(p4 [0,0,2]),(p4 [1,0,2,1]),(p4 [0,0,0,0,0,2,0,0,0,2,2,1,0,0,2,1,2,2,2,2])],il:=[(0,(p' false [0,2,4,4,55]))] }
def ZS:dw:={ ops:=[[],(p4 [1,0,2,1]),[],(p4 [0,0,1,1,2,1]),(p4 [0,0,1,1,2,1]),(p4 [1,0,1,1,2,1]),[{},pZ],[pZ,pZ],[{},pZ,{ cC:=[false,true,true],mode:=1 },pZ],[{},pZ,{ cC:=[false,true,true],mode:=1 },pZ],[{},pZ,{ cC:=[false,true,true],mode:=1 },pZ],[pZ,pZ,pZ,pZ,{ cC:=[false,true,true,true,true],mode:=1 },pZ],[pZ],[pZ,pZ],[{},pZ],[pZ,pZ],[pZ,pZ],[pZ,pZ]] }
def ZT:dw:={ ops:=[[pZ,pZ],(p4 [1,1,1]),(p4 [0,0,2]),(p4 [0,0,0,0,0,0,2,1,0,0,2,1,2,2,2,2]),(p4 [1,1,1]),(p4 [1,1,1])],il:=[(0,(p' false [0,1,5,2,24]))] }
def ZU:dw:={ ops:=[[],(p4 [0,1,1]),[],[{},pZ],(p4 [1,1,1]),[{},{},p5,pZ,{},{},p5,pZ,{},{},pZ,p5,pZ,{ mode:=3 },pZ,{ cC:=[false,true] }],(p4 [1,1,1]),(p4 [0,0,2]),[],(p4 [0,0,2,1]),[],(p4 [0,0,0,0,1,0,0,1,2,1,0,0,2,1,2,2,2,2]),(p4 [0,0,2,1]),(p4 [0,1,1]),[{},pZ],(p4 [1,1,1]),[{},{},p5,pZ,{},{},pZ,p5,pZ,{ mode:=3 },pZ],(p4 [0,0,0,0,1,0,0,1,2,1,0,0,2,1,2,2,2,2]),(p4 [0,0,2,1]),(p4 [0,1,1]),(p4 [0,0,2]),(p4 [1,1,1]),[{},{},p5,pZ,{},{},pZ,p5,pZ,{ mode:=3 },pZ],(p4 [0,0,0,0,1,0,0,1,2,1,0,0,2,1,2,2,2,2]),[]],il:=[(0,(p' false [0,3,4,2,124])),(2,(p' false [0,3,4,2,124])),(4,(p' false [0,3,4,3,123])),(6,(p' false [0,3,4,2,1,1,122]))] }
def Td:dw:={ ops:=[[],[{},{ mode:=3 },pZ,{},{ mode:=3 },pZ,p5,pZ,pZ,pZ,p5,{ cC:=[true,false,true] },pZ]] }
def ZV:dw:={ ops:=[[],(p4 [0,0,0,0,0,0,2,1,0,0,2,1,2,2,2,2]),(p4 [0,1,1,1,1,1]),[{},{},p5,pZ,{},{},p5,pZ,{},{},p5,pZ,{ mode:=3 },pZ,{ cC:=[false,true] }],(p4 [1,1,1]),[{},{},p5,pZ,{},{},p5,pZ,{},{},p5,pZ,{ mode:=3 },{ cC:=[false,true] }],(p4 [1,1,1]),(p4 [0,0,2]),(p4 [0,0,0,0,0,0,2,1,0,0,2,1,2,2,2,2]),(p4 [1,1,1]),(p4 [1,1,1]),[pZ,pZ]],il:=[(0,(p' false [0,2,7,2,73])),(2,(p' false [0,2,7,2,73])),(4,(p' false [0,2,7,2,73]))] }
def ZW:dw:={ ops:=[[],(p4 [0,0,0,0,0,0,2,1,0,0,2,1,2,2,2,2]),(p4 [0,1,1,1,1,1]),[{},{},p5,pZ,{},{},p5,pZ,{},{},p5,pZ,{ mode:=3 },{ cC:=[false,true] }],(p4 [1,1,1]),[{},{},p5,pZ,{},{},p5,pZ,{},{},p5,pZ,{ mode:=3 },pZ,{ cC:=[false,true] }],(p4 [1,1,1]),(p4 [0,0,2]),(p4 [0,0,0,0,0,0,2,1,0,0,2,1,2,2,2,2]),[pZ,pZ],(p4 [0,0,0,0,0,0,2,1,0,0,2,1,2,2,2,2]),(p4 [1,1,1]),(p4 [1,1,1]),[{},{},p5,pZ,{},{},p5,pZ,{},{},p5,pZ,{ mode:=3 },{ cC:=[false,true] }],(p4 [1,1,1]),[{},{},p5,pZ,{},{},p5,pZ,{},{},p5,pZ,{ mode:=3 },pZ,{ cC:=[false,true] }],(p4 [1,1,1]),(p4 [0,0,2]),(p4 [0,0,0,0,0,0,2,1,0,0,2,1,2,2,2,2]),(p4 [1,1,1]),(p4 [1,1,1]),(p4 [0,0,0,0,0,0,2,1,0,0,2,1,2,2,2,2]),[pZ,pZ]],il:=[(0,(p' false [0,2,8,2,156])),(2,(p' false [0,2,8,2,156])),(4,(p' false [0,2,8,2,156])),(6,(p' false [0,2,8,2,156])),(8,(p' false [0,2,8,2,156]))] }
def ZX:dw:={ ops:=[[],[pZ,{},{},p5,pZ,{},{},p5,pZ,{ mode:=6 },pZ],(p4 [1,0,1,1,1,2]),(p4 [1,1,1,1]),(p4 [1,1,1,1])] }
def ZY:dw:={ ops:=[[pZ,pZ],[{},{ cC:=[false,true] },pZ,pZ],(p4 [0,0,2]),[{},pZ,{},p5,pZ,{},{},{},p5,p5,pZ,{},{},{},p5,pZ,p5,pZ,{ mode:=3 },{ cC:=[false,true] }],(p4 [1,1,1]),[{},{},{},p5,p5,pZ,{},{},{},p5,p5,pZ,{ mode:=3 },pZ],(p4 [0,0,0,2,0,0,0,2,0,0,0,2,2,1,0,0,0,2,2,1,2,2,2,2]),[pZ,pZ]],il:=[(0,(p' false [0,1,1,2,4,1,67]))] }
def ZZ:dw:={ ops:=[[],[pZ,{},pZ,{},pZ,pZ,pZ,{ cC:=[false,true,true,true,true,true],mode:=1 },pZ]] }
def Z0:dw:={ ops:=[[],[{},pZ,pZ,{},{ cC:=[false,true,true,true,true],mode:=1 },pZ,{},pZ,pZ,pZ],[{},pZ,pZ,{},{ cC:=[false,true,true,true,true],mode:=1 },pZ,{},pZ,pZ,pZ],[pZ,pZ,pZ,pZ,{ cC:=[false,true,true,true,true],mode:=1 },pZ,{},pZ,pZ,pZ],[pZ,pZ]] }
def Tf:dw:={ ops:=[[],(p4 [0,1,2,1])] }
def Z1:dw:={ ops:=[[],[{},{},p5,pZ,{},{},p5,pZ,{ mode:=3 }],(p4 [1,0,1,1,1,2]),(p4 [1,1,1,1]),(p4 [1,1,1,1])] }
def aau:List dw:=[{},{},Z5,Z8,Z_,aab,Qj,aae,aai,Qr,S9,Tb,Te,Z2,Tg,Z3,JL,Z4,Qd,Th,Qe,Ti,Z6,Ol,JM,Z7,Tj,Tk,M8,Tl,Tm,Tn,Z9,Tp,Tq,Tr,Ts,Tt,Tu,Qf,Kq,Tv,Tw,Tx,Qg,Ty,Om,Z',aaa,Tz,TA,TB,Qh,TC,Qi,aac,TD,KY,TE,TF,L7,aad,Qk,TG,Ql,Qm,Qn,TH,TI,JN,TJ,Kr,Qo,TK,TL,aaf,aag,TM,TN,aah,Qp,KZ,TP,aaj,TQ,TR,TS,TT,Qq,aak,TU,aal,aam,aan,aao,aap,aaq,aar,aas,aat,S_,Qb,JK,Ta,ZL,ZM,ZN,ZO,ZP,Qc,Tc,ZQ,ZR,ZS,ZT,ZU,Td,ZV,ZW,ZX,ZY,ZZ,Z0,Tf,Z1,{},{},{},{},{},{},{},{},{},{},{},{},{},{},{},{}]
def jD (k:FuncId):dw:=aau.getD k {}
end Go.Proofs.YtkoioidpbbbaiaaGreat.Ab


namespace Go.Proofs.YtkoioidpbbbaiaaGreat.Ab
open Go
end Go.Proofs.YtkoioidpbbbaiaaGreat.Ab


namespace Go.Proofs.YtkoioidpbbbaiaaGreat.Ab
open Go
end Go.Proofs.YtkoioidpbbbaiaaGreat.Ab


namespace Go.Proofs.YtkoioidpbbbaiaaGreat.Ab
open Go
theorem eG:Go.Proofs.Tryz.prog.follows .mixedOrders=true:=by kernel_rfl
abbrev qw (k:FuncId) (args:List I) (v:I):Prop:=nn Go.Proofs.Tryz.prog k args v
abbrev h0 (n:Int):I:=.int .i64 n
abbrev Hk:I:=.a0
abbrev B (b:Bool):I:=.bool b
def oX (l:List Int):I:=.av (l.map h0) l.length .shared
def jx (l:List (List Int)):I:=.av (l.map oX) l.length .shared
theorem Wa (d:Nat) (l:List Int):(l.map h0).all (cr (d+1))=true:=by
 rw [sm];intro u hu;obtain ⟨x,_,rfl⟩:=sC.1 hu;rfl
theorem V' (d:Nat) (l:List Int):cr (d+2) (oX l)=true:=Wa d l
theorem Rg (d:Nat) (l:List (List Int)):(l.map oX).all (cr (d+2))=true:=by
 rw [sm];intro u hu;obtain ⟨x,_,rfl⟩:=sC.1 hu;exact V' d x
theorem aeO (d:Nat) (l:List (List Int)):cr (d+3) (jx l)=true:=Rg d l
theorem Mm (k:IntKind) (n:Int):cr 8 (.int k n)=true:=rfl
theorem Mu (b:Bool):cr 8 (.bool b)=true:=rfl
theorem Mn (l:List Int) (n:Nat) (c:hE):cr 8 (.av (l.map h0) n c)=true:=Wa 6 l
theorem Mp (l:List (List Int)) (n:Nat) (c:hE):cr 8 (.av (l.map oX) n c)=true:=Rg 5 l
theorem Mo (l:List Int):cr 8 (oX l)=true:=V' 6 l
theorem Mq (l:List (List Int)):cr 8 (jx l)=true:=aeO 5 l
theorem Mv (k:FuncId):cr 8 (.func k [] [])=true:=rfl
theorem Mw (n:Nat) (c:hE):cr 8 (.av [] n c)=true:=rfl
theorem Kc (l:List (List Int)) (n:Nat) (c:hE):cr 8 (.agg [.av (l.map oX) n c])=true:=by
 show [I.av (l.map oX) n c].all (cr 7)=true;rw [tx,tZ,tt];exact Rg 4 l
theorem Mr (l:List (List Int)):cr 8 (.agg [jx l])=true:=Kc l _ _
theorem Ms (l:List (List Int)):cr 8 (.bS [jx l])=true:=Kc l _ _
theorem Mt (l:List (List Int)) (n:Nat) (c:hE):cr 8 (.bS [.av (l.map oX) n c])=true:=Kc l _ _
theorem Pt (i:Nat) (h:i≤9223372036854775806):IntKind.i64.wrap ((i:Int)+1)=((i+1:Nat):Int):=by rw [IntKind.wrap_i64];omega
theorem HO (n:Int) (ab:-9223372036854775808≤n) (ae:n≤9223372036854775807):IntKind.i64.wrap n=n:=by rw [IntKind.wrap_i64];omega
theorem V_:∀ {d:Nat} {v:I},cr d v=true→cr (d+1) v=true
 | 0,v,h=>by simp [cr] at h
 | d+1,v,h=>by
   have key:∀ {l:List I},l.all (cr d)=true→l.all (cr (d+1))=true:=fun h=>by
    rw [sm] at h ⊢;exact fun u hu=>V_ (h u hu)
   cases v <;> simp only [cr,sn,tP] at h ⊢ <;> first | trivial | exact key h | exact ⟨key h.1,key h.2⟩
theorem HE {p:Prop} [Decidable p] {A C:Prop} (ab:p→A) (ae:¬ p→C):(match decide p with | true=>A | false=>C):=by
 by_cases h:p
 ·simp only [h,decide_true];exact ab h
 ·simp only [h,decide_false];exact ae h
theorem Hg {k:FuncId} {xs:List I} {v:I}:∀ p∈([]:c7),p.1=k→p.2.1=xs→p.2.2=v:=fun _ h=>by simp at h
theorem BS {k k':FuncId} {xs ys:List I} {v bo:I} (h:k'=k→ys=xs→bo=v):∀ p∈([(k',ys,bo)]:c7),p.1=k→p.2.1=xs→p.2.2=v:=fun p aB=>by
 simp only [List.mem_singleton] at aB;subst aB;exact h
theorem Ii {k:FuncId} {xs:List I} {v:I} {acc:c7} (h:acc.all (fun p=>p.1 != k)=true):∀ p∈acc,p.1=k→p.2.1=xs→p.2.2=v:=fun p aB e=>by
 have:=sm.1 h p aB;simp [e] at this
def Hz (cap:List I):Prop:=cap.all (cr 7)=true∧∀ u∈cap,∃ cs,u=.bS cs
theorem Hz.S6 {cap:List I} (h:Hz cap):cap.all (cr 8)=true:=by
 have ab:=h.1;rw [sm] at ab ⊢;exact fun u hu=>V_ (ab u hu)
theorem Hz.iD {cap:List I} (h:Hz cap) (H:List ar):cap.map (iD H)=cap:=by
 conv=>rhs;rw [←uU cap]
 apply tI;intro u hu;obtain ⟨cs,rfl⟩:=h.2 u hu;rfl
theorem Hz.hW {cap:List I} (h:Hz cap) (H:List ar):cap.map (hW H)=cap:=by
 conv=>rhs;rw [←uU cap]
 apply tI;intro u hu;obtain ⟨cs,rfl⟩:=h.2 u hu;rfl
theorem Hz.cc {cap:List I} (h:Hz cap):cap.map I.cc=cap:=by
 conv=>rhs;rw [←uU cap]
 apply tI;intro u hu;obtain ⟨cs,rfl⟩:=h.2 u hu;rfl
theorem Hz.fn {cap:List I} (h:Hz cap) (H:List ar) (k:FuncId):Ab.iD H (.func k [] cap)=.func k [] cap:=by
 simp only [Ab.iD,h.hW,uy]
theorem Hz.V4 {cap:List I} (h:Hz cap) (k:FuncId):cr 8 (.func k [] cap)=true:=by
 show (([]:List I).all (cr 7) && cap.all (cr 7))=true;rw [h.1];rfl
theorem Hz.nil:Hz []:=⟨rfl,by simp⟩
section
variable {P:Program}
theorem call6 {k:FuncId} {xs bs:List I} {H:List ar} {lo:Nat} {v:I} (af:(xs.map (iD H)).map I.cc=bs) (aB:(xs.map (iD H)).all (cr 8)=true) (h:nn P k bs v) (ah:fz v=true):oV P 6 lo (.fn k) xs H v.cc H:=by
 subst af;refine ⟨k9 (.fn k) ((xs.map (iD H)).map I.cc) [] 0 v [],EB h.1,?_⟩;simp only [eQ,aB,EA,sb,yW h.2,ah]
end
theorem Up {H:List ar} {id d:Nat} {l:List I} (h:H[id]?=some (.cells l)) (aB:(l.map I.view).all (cr d)=true):bM H 0 H.length 0 (d+1) (.ptr id 0)=some (.bS (l.map I.view)):=by
 have ab:=(sa.1 h).1;have ae:ea (bM H 0 H.length 0 d) (l.map I.view)=some (l.map I.view):=zU fun u hu=>yW (by rw [sm] at aB;exact aB u hu);simp only [bM,Nat.not_lt_zero,if_false,h,tq,ae,se];rw [if_neg (by omega)]
end Go.Proofs.YtkoioidpbbbaiaaGreat.Ab


namespace Go.Proofs.YtkoioidpbbbaiaaGreat.Ab
open Go
section
variable {P:Program}
theorem Ui (eG:P.follows .mixedOrders=true) {k:Nat} {A:dw} {rc:gE} {n:Nat} {ts:List Ih} (ao:qo P A k=some (rc,n,ts)) {lo:Nat} {args T:List I} {H H':List ar} (b0:args++List.replicate (n-args.length) .a0=T) {v:I} (J_:a' lo H H')
  (h:dQ P A k lo none rc T H fun e g6 H1=>(e=.normal∨e=.ret)∧lI H1 H'∧(rQ H1 g6 ts).map jg=some v):Sem P (.fn k) args H lo v H':=by
 unfold qo at ao;split at ao
 ·rename_i f aP;split at ao
  ·rename_i c af;split at ao
   ·rename_i Wl Pp ab ae aF ba;simp only [Option.some.injEq,Prod.mk.injEq] at ao;obtain ⟨rfl,rfl,rfl⟩:=ao;subst b0;refine Hb eG aP af (by simpa using ae) ab J_ (oR (fun e s a_=>?_) (G6 aF h));obtain ⟨cf,ca,eS⟩:=a_;simp only [Option.map_eq_some_iff] at eS;obtain ⟨vs,eS,iP⟩:=eS;exact ⟨cf,ca,vs,by rw [NR _ _ ba,eS],iP⟩
   ·cases ao
  ·cases ao
 ·cases ao
end
theorem rA {P:Program} (eG:P.follows .mixedOrders=true) {k:Nat} {A:dw} {rc:gE} {n:Nat} {ts:List Ih} (ao:qo P A k=some (rc,n,ts)) {lo:Nat} {args T:List I} {H H':List ar} (b0:args++List.replicate (n-args.length) .a0=T) {v:I} (J_:a' lo H H')
  (h:∀ Q:cQ→List I→List ar→Prop,(∀ e g6 H1,(e=.normal∨e=.ret)∧lI H1 H'∧(rQ H1 g6 ts).map jg=some v→Q e g6 H1)→dQ P A k lo none rc T H Q):Sem P (.fn k) args H lo v H' :=
 Ui eG ao b0 J_ (h _ fun _ _ _ h=>h)
theorem OD {P:Program} (eG:P.follows .mixedOrders=true) {k:Nat} {A:dw} {rc:gE} {n:Nat} {ts:List Ih} (ao:qo P A k=some (rc,n,ts)) {args T:List I} (b0:args++List.replicate (n-args.length) .a0=T) {v:I} (aB:cr 8 v=true)
  (h:∀ Q:cQ→List I→List ar→Prop,(∀ e g6 H1,M5 ts v e g6 H1→Q e g6 H1)→dQ P A k 0 none rc T [] Q):nn P k args v :=
 QE eG ao b0 aB (h _ fun _ _ _ h=>h)
theorem rq {P:Program} {lo:Nat} {bY:fc} {xs:List I} {H H':List ar} {v:I} (h:Sem P bY xs H lo v H'):oV P 1 lo bY xs H v H' :=
 ⟨k9 bY xs H lo v H',EB h,by simp only [eQ,EA]⟩
theorem Xp {P:Program} {k:FuncId} {args:List I} {v:I} (cu:args.all (cr 8)=true) (h:nn P k args v) (H:List ar):Sem P (.fn k) args H H.length v H:=by
 obtain ⟨⟨_,ab,ae⟩,aB⟩:=h
 exact ⟨a'.refl _ _,ab,fun B aa J S w vs ag aI ad=>CallsIn.mono (ae B _ [] S w vs (w6 ag) (fun b i h=>by obtain ⟨_,_,h⟩:=kt h;cases h) (ad.pure cu)) fun e w' he=>by
  cases e with
  | returned v=>exact xH ag (yW (n:=0) aB) he
  | panicked c=>exact he.elim
  | outgrown=>exact he.elim⟩
theorem M_ {P:Program} {k:FuncId} {args:List I} {v:I} (cu:args.all (cr 8)=true) (h:nn P k args v) (H:List ar) (lo:Nat):oV P 0 lo (.fn k) args H v H :=
 ⟨_,EB (Xp cu h H),by simp only [eQ,EA,sb,yW h.2,se]⟩
theorem UD {X Z:List ar} {j:Nat} {o:ar} (h:X[j]?=some o):(X++Z)[j]?=some o:=by
 rw [sg (sa.1 h).1];exact h
theorem HT (X:List ar) (c dU:ar):(X++[c]).set X.length dU=X++[dU]:=by simp
theorem IP (X:List ar) (c:ar):(X++[c])[X.length]?=some c:=by simp
end Go.Proofs.YtkoioidpbbbaiaaGreat.Ab


namespace Go.Proofs.YtkoioidpbbbaiaaGreat.Ab
open Go
def qj:Nat:=18446744073709551616
def qk (p:Prop) [Decidable p] {aV:Type} (k:Option aV):Option aV:=if p then k else none
theorem rR {p:Prop} [Decidable p] {aV:Type} {k:Option aV} {v:aV} (h:qk p k=some v):p∧k=some v:=by
 unfold qk at h;split at h
 ·exact ⟨by assumption,h⟩
 ·cases h
theorem qC {p:Prop} [Decidable p] {aV:Type} {k:Option aV} (h:p):qk p k=k:=if_pos h
theorem p8 {α aV:Type} {x:Option α} {f:α→Option aV} {v:aV} (h:x.bind f=some v):∃ a,x=some a∧f a=some v:=by
 cases x with
 | none=>cases h
 | some a=>exact ⟨a,rfl,h⟩
theorem rV {b:Bool} {aV:Type} {x y:Option aV} {v:aV} (af:b=true) (h:(if b=true then x else y)=some v):x=some v:=by
 rw [if_pos af] at h;exact h
theorem rW {b:Bool} {aV:Type} {x y:Option aV} {v:aV} (af:b=false) (h:(if b=true then x else y)=some v):y=some v:=by
 rw [if_neg (by rw [af];decide)] at h;exact h
def ix {α:Type} [Inhabited α] (l:List α) (i:Int):α:=l.getD i.toNat default
theorem rr {α:Type} [Inhabited α] {l:List α} {k:Nat} (h:k<l.length):ix l (k:Int)=l[k]:=by
 simp [ix,h]
theorem OO {α:Type} [Inhabited α] {l:List α} {i:Int} (h:0≤i∧i<(l.length:Int)):ix l i=l[i.toNat]'(by omega):=by
 have:i.toNat<l.length:=by omega
 simp [ix,this]
theorem Jp {α:Type} [Inhabited α] {l:List α} {i:Int} (h:0≤i∧i<(l.length:Int)):ix l i∈l:=by
 rw [OO h];exact List.getElem_mem _
abbrev w (n:Int):Int:=IntKind.i64.wrap n
theorem agN {n:Int} (ab:-9223372036854775808≤n) (ae:n≤9223372036854775807):w n=n:=HO n ab ae
theorem r0 {aV:Type} {v:aV} {G:Prop} (h:(none:Option aV)=some v):G:=by cases h
def ZC {α:Type} (f:α→I) (l:List α):I:=.av (l.map f) l.length .shared
def ZD {α:Type} (f:α→List I) (l:List α):I:=.av (l.flatMap f) l.length .shared
theorem ru {α:Type} [Inhabited α] (f:α→I) (l:List α) (n:Int) (h:0≤n∧n<(l.length:Int)):(l.map f).drop (n.toNat*1)=f (ix l n)::(l.drop (n.toNat+1)).map f:=by
 have aX:n.toNat<l.length:=by omega
 rw [tn,←tF,s6 aX,sG,OO h]
theorem HW {α:Type} [Inhabited α] (f:α→List I) (s:Nat) (ah:∀ x,(f x).length=s):∀ (l:List α) (n:Int),0≤n∧n<(l.length:Int)→(l.flatMap f).drop (n.toNat*s)=f (ix l n)++(l.drop (n.toNat+1)).flatMap f:=by
 have key:∀ (l:List α) (k:Nat) (h:k<l.length),(l.flatMap f).drop (k*s)=f l[k]++(l.drop (k+1)).flatMap f:=by
  intro l
  induction l with
  | nil=>intro k h;simp at h
  | cons x l a8 =>
    intro k h;cases k with
    | zero=>simp
    | succ k =>
      (have al:k<l.length:=by simpa using h);(have e:(k+1)*s=(f x).length+k*s:=by rw [ah,tb,Nat.one_mul,tg]);rw [uz,e,List.drop_length_add_append,a8 k al];rfl
 intro l n h;rw [key l n.toNat (by omega),OO h]
theorem HX {α:Type} (f:α→List I) (s:Nat) (ah:∀ x,(f x).length=s) (l:List α):(l.flatMap f).length=l.length*s:=by
 induction l with
 | nil=>simp
 | cons x l a8=>rw [uz,sy,a8,ah,sK,tb,Nat.one_mul,tg]
theorem TW {α:Type} (f:α→I) (l m:List α) (c:hE):I.av (l.map f++m.map f) (l.length+m.length) c=.av ((l++m).map f) (l++m).length c:=by
 rw [sO,sy]
theorem TX {α:Type} (f:α→I) (l:List α) (x:α) (c:hE):I.av (l.map f++[f x]) (l.length+1) c=.av ((l++[x]).map f) (l++[x]).length c:=by
 rw [sO,sy];rfl
theorem On {α:Type} (f:α→List I) (l:List α) (x:α) (c:hE):I.av (l.flatMap f++f x) (l.length+1) c=.av ((l++[x]).flatMap f) (l++[x]).length c:=by
 simp [List.flatMap_append]
theorem Xx {α:Type} (f:α→I) (l:List α) (n:Int) (h:0≤n∧n≤(l.length:Int)) (c:hE):I.av (((l.map f).drop (n.toNat*1)).take ((l.length-n.toNat)*1)) (l.length-n.toNat) c=.av ((l.drop n.toNat).map f) (l.drop n.toNat).length c:=by
 rw [tn,tn,List.length_drop,←tF,te (by simp)]
theorem R_ {α:Type} (f:α→I) (l:List α) (n:Int) (h:0≤n∧n≤(l.length:Int)) (c:hE):I.av ((l.map f).take (n.toNat*1)) n.toNat c=.av ((l.take n.toNat).map f) (l.take n.toNat).length c:=by
 rw [tn,s_,←List.map_take,Nat.min_eq_left (by omega)]
theorem S8 {a b:Bool} (h:a=true) (k:b=true):(a && b)=true:=by rw [h,k];rfl
theorem p6 {α:Type} {f:α→Bool} {x:α} {l:List α} (h:f x=true) (k:l.all f=true):(x::l).all f=true:=S8 h k
theorem H0 {cs:List I} {d:Nat} (h:cs.all (cr d)=true):cr (d+1) (.agg cs)=true:=h
theorem Ik {cs:List I} {d:Nat} (h:cs.all (cr d)=true):cr (d+1) (.bS cs)=true:=h
theorem Je {cs:List I} {d:Nat} (h:cs.all (cr d)=true):cr (d+1) (.tuple cs)=true:=h
theorem IX {k:FuncId} {a b:List I} {d:Nat} (ab:a.all (cr d)=true) (ae:b.all (cr d)=true):cr (d+1) (.func k a b)=true:=S8 ab ae
theorem rM {α:Type} {f:α→I} {d:Nat} (h:∀ x,cr d (f x)=true) (l:List α) (n:Nat) (c:hE):cr (d+1) (.av (l.map f) n c)=true:=by
 show (l.map f).all (cr d)=true;rw [sm];intro u hu;obtain ⟨x,_,rfl⟩:=sC.1 hu;exact h x
theorem Hx {α:Type} {f:α→List I} {d:Nat} (h:∀ x,(f x).all (cr d)=true) (l:List α) (n:Nat) (c:hE):cr (d+1) (.av (l.flatMap f) n c)=true:=by
 show (l.flatMap f).all (cr d)=true;rw [sm];intro u hu;obtain ⟨x,_,aj⟩:=tJ.1 hu;exact sm.1 (h x) u aj
theorem V9 {α:Type} {f:α→I} {d:Nat} (h:∀ x,cr d (f x)=true) (l:List α):(l.map f).all (cr d)=true:=by
 rw [sm];intro u hu;obtain ⟨x,_,rfl⟩:=sC.1 hu;exact h x
theorem nn.cc {P:Program} {k:FuncId} {args:List I} {v:I} (h:nn P k args v) (aB:cr 8 v.cc=true):nn P k args v.cc :=
 ⟨⟨h.1.1,h.1.2.1,fun B aa J S w vs ag aI ad=>CallsIn.mono (h.1.2.2 B aa J S w vs ag aI ad) fun e w' he=>by
   cases e with
   | returned x=>exact aZ.cc he
   | panicked c=>exact he.elim
   | outgrown=>exact he.elim⟩,aB⟩
section
variable {P:Program} {B:Nat} {J:List Nat} {w:World} {aa:Nat→Option aH} {S:Nat→Nat→Prop}
theorem aZ.agO {H':List ar} {r:I} {v:Value} {w':World} (h:aZ B aa J S w H' r v w'):aZ B aa J S w H' r.settle.view.cc v w':=by
 have ab:aZ B aa J S w H' r.settle v w':=by
  cases r with
  | av c n k=>cases k with
    | uniq z=>exact h.settle
    | _=>exact h
  | _=>exact h
 have ae:r.settle.cW=true:=by
  cases r with
  | av c n k=>cases k <;> rfl
  | _=>rfl
 obtain ⟨bu,ck,bL,a,b,c,d,e⟩:=ab;exact aZ.cc ⟨bu,ck,bL,a,b,c,d.view ae,aU.b4 (I.dm _)⟩
theorem aeP (eG : P.follows .mixedOrders = true) {k : Nat} {f : Func} {c : Code} (aP : P.funcs[k]? = some f) (af : f.body = some c) (aI : f.name ≠ "runtime.NumGoroutine") {A : dw} (bT : codeOk A c = true)
  {args:List I} {v:I} (aB:cr 8 v=true)
  (h:dc P A k 0 none c 0 ⟨args++List.replicate (f.ntmps-args.length) .a0,[]⟩ fun e s=>(e=.normal∨e=.ret)∧∃ vs r,gX P s.H s.T f.results.toList=some vs∧bM s.H 0 s.H.length 0 8 (jg vs)=some r∧r.settle.view.cc=v):nn P k args v:=by
 refine ⟨⟨a'.refl _ _,⟨f,aP,by simp [af],aI⟩,fun B aa J S w xs ag _ ad=>?_⟩,aB⟩;refine callsIn_of_wp_marks aP af trivial ?_;have aL:=yd ag ad f.ntmps;have dB:=(oP ag).1;refine Bx eG c 0 _ _ h bT Fence.wide _ B w.heap.size J w (hY aa) S _ (.inl ⟨rfl,rfl⟩) (fun l a w aO=>aO.elim) aL fun e s al aM w' ah=>?_;obtain ⟨he,vs,r,ai,C0,eH⟩:=al;obtain ⟨b5,cZ,a4,aJ,aN,cg⟩:=ah;have iV:LeavesInM Fence.wide 0 P f aM.tmps (fZ B aa J S w [] v) aM.defers .returning w':=by
  refine n5 (aa:=b5) (S:=a4) (J:=cZ) (B:=B) (H:=s.H) (lH:=aa) (S0:=S) (w0:=w) aM.defers w' cg.M.2.1 cg.M.2.2 (dB.trans aN) cg.H fun bX dD dt mJ mK=>?_
  have b0:a5 .slot b5 cZ a4 bX s.T aM.tmps.toList:=⟨cg.T.len,fun i u v hu ad=>(cg.T.rel i u v hu ad).mono (Ext.refl _) (fun b o h=>⟨h,dt b o h⟩),fun i u v hu ad =>
   (cg.T.own i u v hu ad).mono (Ext.refl _) (fun b o h=>⟨h,dt b o h⟩) fun b af=>⟨af,dD b _ af,fun _ h=>h⟩⟩
  obtain ⟨x,q1,aW⟩:=xS mK b0 ai;have kQ:=xG ag (fun id aE=>by simp at aE) C0 (aZ.after aJ mJ aW);refine ⟨x,q1,?_⟩;rw [←eH];exact kQ.agO
 rcases he with rfl | rfl
 ·exact iV
 ·exact iV
end
inductive HV (rs:List Ih) (v:I) (e:cQ) (T:List I) (H:List ar):Prop where
 | mk (he:e=.normal∨e=.ret) (vs:List I) (ai:rQ H T rs=some vs) (r:I) (aP:bM H 0 H.length 0 8 (jg vs)=some r) (ad:r.settle.view.cc=v)
theorem qL {P:Program} (eG:P.follows .mixedOrders=true) {k:Nat} {A:dw} {rc:gE} {n:Nat} {ts:List Ih} (ao:qo P A k=some (rc,n,ts)) {args T:List I} (b0:args++List.replicate (n-args.length) .a0=T) {v:I} (aB:cr 8 v=true)
  (h:∀ Q:cQ→List I→List ar→Prop,(∀ e T H,HV ts v e T H→Q e T H)→dQ P A k 0 none rc T [] Q):nn P k args v:=by
 have h:=h _ fun _ _ _ h=>h;unfold qo at ao;split at ao
 ·rename_i f aP;split at ao
  ·rename_i c af;split at ao
   ·rename_i Wl Pp ab ae aF ba;simp only [Option.some.injEq,Prod.mk.injEq] at ao;obtain ⟨rfl,rfl,rfl⟩:=ao;subst b0;have a_:∀ e s,HV Pp v e (a6.T s) (a6.H s)→(e=.normal∨e=.ret)∧∃ vs r,gX P s.H s.T f.results.toList=some vs∧bM s.H 0 s.H.length 0 8 (jg vs)=some r∧r.settle.view.cc=v:=fun e s ⟨cf,vs,QI,r,ca,eS⟩=>by
     exact ⟨cf,vs,r,by rw [NR _ _ ba,QI],ca,eS⟩
    exact aeP eG aP af (by simpa using ae) ab aB (oR a_ (G6 aF h))
   ·cases ao
  ·cases ao
 ·cases ao
theorem wp_loop {P:Program} {A:dw} {fn:FuncId} {lo:Nat} {rl:Option Nat} {cE:List Bool} {c:gE} {T SZ:List I} {H:List ar} {Q:cQ→List I→List ar→Prop} (b0:eZ cE T=SZ)
  (h:BH (fun T H Q=>ob T fun T=>dQ P A fn lo rl c T H fun e bf H'=>match e with
   | .normal=>xo (some cE) bf fun bf=>Q .normal bf H'
   | e=>Q e bf H') SZ H Q):dQ P A fn lo rl (.loop (some cE) c) T H Q:=by
 show xo (some cE) T _;rw [DS];subst b0;exact h
def Mj {α:Type} (f:α→List I):Option α→I
 | none=>.eI
 | some x=>.bS (f x)
theorem V8 {α:Type} {f:α→List I} {d:Nat} (h:∀ x,(f x).all (cr d)=true) (x:Option α):cr (d+1) (Mj f x)=true:=by
 cases x with
 | none=>rfl
 | some x=>exact h x
abbrev r1 (n:Int):I:=.int .u8 n
theorem IG {f:I→Option I}:ea f []=some []:=rfl
theorem rF {f:I→Option I} {x y:I} {l r:List I} (h:f x=some y) (k:ea f l=some r):ea f (x::l)=some (y::r):=by simp only [ea,h,k,se]
theorem M' {H:List ar} {lo i n d:Nat} {vs rs:List I} (h:ea (bM H lo i n d) vs=some rs):bM H lo i n (d+1) (.tuple vs)=some (.tuple rs):=by simp only [bM,h,se]
theorem af6 {α:Type} {f:α→I} {H:List ar} {id n:Nat} {l:List α} {cap:Option Nat} (ag:H[id]?=some (.cells (l.map f))) (aI:n=l.length) (ad:∀ x,(f x).view=f x):rowOf H (.ref id 0 n cap 1)=some (l.map f):=by
 subst aI;simp only [rowOf,ag,sB,tn,sY,sc,if_true,tq];rw [te (by simp),vr];congr 1;exact tI fun x _=>ad x
theorem Qu {P:Program} {k:FuncId} {xs cs bs:List I} {H:List ar} {lo:Nat} {v:I} (ah:xs.map (iD H)=cs) (af:cs.map I.cc=bs) (aB:cs.all (cr 8)=true) (h:nn P k bs v) (ad:fz v=true):oV P 6 lo (.fn k) xs H v.cc H :=
 call6 (by rw [ah,af]) (by rw [ah];exact aB) h ad
theorem Kx {f:I→I} {x y:I} {l r:List I} (h:f x=y) (k:l.map f=r):(x::l).map f=y::r:=by rw [sG,h,k]
theorem Nx {f:I→I}:([]:List I).map f=[]:=rfl
theorem agf {H:List ar} {k:FuncId} {a b aM au:List I} (ab:a.map (hW H)=aM) (ae:b.map (hW H)=au):iD H (.func k a b)=.func k aM au:=by simp only [iD,ab,ae]
theorem Xw {H:List ar} {id off:Nat} {cs fG:List I} (ag:H[id]?=some (.cells cs)) (he:((cs.drop off).map I.view).map (kh H)=fG):hW H (.ptr id off)=.bS fG:=by simp only [hW,ag,he]
theorem VY {P:Program} {C:b8} {lo mode:Nat} {o:Oper} {xs:Array Operand} {ts:Array TypeId} {vs:List I} {H:List ar} (aq:o.op=.call { callee:=.builtin .copy,args:=xs,argTypes:=ts }):a3 P C lo o mode vs H=j_ P lo ts H vs:=by
 unfold a3;rw [aq];rfl
def Ir {α Kn:Type} (g:Kn→α→Option Kn):List α→Kn→Option Kn
 | [],s=>some s
 | x::l,s=>(g s x).bind fun t=>Ir g l t
theorem OE {α Kn:Type} {g:Kn→α→Option Kn}:∀ {l:List α} {s t:Kn},Ir g l s=some t→∃ F:Nat→Kn,F 0=s∧F l.length=t∧∀ (i:Nat) (h:i<l.length),g (F i) l[i]=some (F (i+1))
 | [],s,t,h=>⟨fun _=>s,rfl,Option.some.inj h,fun i hi=>absurd hi (by simp)⟩
 | x::l,s,t,h=>by
   obtain ⟨u,ab,ae⟩:=p8 h;obtain ⟨F,f1,f2,f3⟩:=OE ae;refine ⟨fun i=>match i with | 0=>s | i+1=>F i,rfl,f2,fun i hi=>?_⟩;cases i with
   | zero=>show g s x=some (F 0);rw [f1,ab]
   | succ i=>exact f3 i (by simpa using hi)
def Seq (P:Program) (k:FuncId) (cap:List I) (E:List I):Prop :=
 ∀ (l N:Nat) (qQ:Nat→List ar),(∀ i,(qQ i).length=N)→l<N →
   (∀ (i:Nat) (h:i<E.length) (Y:List ar),∃ qH,Sem P (.yield l) [E[i]] (qQ i++Y) 0 (.bool true) (qQ (i+1)++qH)) →
   ∀ Y,∃ qH,Sem P (.fn k) (.yield l::cap) (qQ 0++Y) 0 (.tuple []) (qQ E.length++qH)
theorem agb {P:Program} {l:Nat} {qQ:Nat→List ar} {E:List I} (ai:∀ (i:Nat) (h:i<E.length) (Y:List ar),∃ qH,Sem P (.yield l) [E[i]] (qQ i++Y) 0 (.bool true) (qQ (i+1)++qH)) (Y:List ar) :
  ∃ Z:Nat→List ar,Z 0=Y∧∀ (i:Nat) (h:i<E.length),Sem P (.yield l) [E[i]] (qQ i++Z i) 0 (.bool true) (qQ (i+1)++Z (i+1)):=by
 classical
 have nS:∀ (i:Nat) (Y:List ar),∃ qH,∀ h:i<E.length,Sem P (.yield l) [E[i]] (qQ i++Y) 0 (.bool true) (qQ (i+1)++qH):=fun i Y=>by
  by_cases h:i<E.length
  ·obtain ⟨qH,aX⟩:=ai i h Y;exact ⟨qH,fun _=>aX⟩
  ·exact ⟨[],fun aX=>absurd aX h⟩
 exact ⟨fun n=>Nat.rec Y (fun i Z=>Classical.choose (nS i Z)) n,rfl,fun i h=>ux (nS i _) h⟩
theorem IF {H X:List ar} (h:H.length≤X.length):a' 0 H X:=⟨h,fun _ h _=>absurd h (by omega)⟩
theorem JA (X Y:List ar) (c d:ar):((X++[c])++Y).set X.length d=(X++[d])++Y:=by
 rw [sx,List.set_append_right _ _ (sc _)];simp
theorem IC (X Y:List ar) (c:ar):((X++[c])++Y)[X.length]?=some c:=by
 rw [sx,ss (sc _)];simp
theorem af3 {α:Type} {P:Program} {A:dw} {fn:FuncId} {rl:Option Nat} {k:FuncId} {cap:List I} {bq:List Nat} {gH ct:Code} {T:List I} {H Hn:List ar} {Q:cQ→List I→List ar→Prop} {f:α→I} {L:List α} (Iu:Seq P k cap (L.map f))
  (Obj:Nat→List ar) (aQ:Obj 0=H) (hlen:∀ i,(Obj i).length=H.length)
  (Lr:∀ (i:Nat) (h:i<L.length) (Y:List ar),∃ qH,Sem P (.yield H.length) [f L[i]] ((Obj i++[.loop .ready none fn (T.map I.view) bq gH ct A])++Y) 0 (.bool true) ((Obj (i+1)++[.loop .ready none fn (T.map I.view) bq gH ct A])++qH))
  (hg:inLoop H rl=true) (aI:Obj L.length=Hn) (bp:∀ qH,Q .normal (T.map I.settle) ((Hn++[.dead])++qH)):oE P A fn 0 rl (.func k [] cap) bq gH ct T H Q:=by
 obtain ⟨qH,cp⟩:=Iu H.length (H.length+1) (fun i=>Obj i++[.loop .ready none fn (T.map I.view) bq gH ct A]) (fun i=>by simp [hlen]) (by omega) (fun i h Y=>by
  have aX:i<L.length:=by simpa using h
  obtain ⟨qH,ai⟩:=Lr i aX Y
  exact ⟨qH,by rw [List.getElem_map];exact ai⟩) []
 subst aI;simp only [sM,sY,aQ] at cp;have ao:(Obj L.length).length=H.length:=hlen _;refine ⟨hg,.tuple [],_,.ready,none,fn,T.map I.view,bq,gH,ct,A,cp,by rw [←ao];exact IC _ _ _,by decide,?_⟩;show Q .normal (T.map I.settle) (((Obj L.length++[ar.loop .ready none fn (T.map I.view) bq gH ct A])++qH).set H.length .dead);rw [←ao,JA];exact bp qH
end Go.Proofs.YtkoioidpbbbaiaaGreat.Ab


namespace Go.Proofs.YtkoioidpbbbaiaaGreat.Ab
open Go
theorem Un {H:List ar} {lo i n d:Nat} {k:FuncId} {a b aM au:List I} (ab:ea (bM H lo i n d) a=some aM) (ae:ea (bM H lo i n d) b=some au):bM H lo i n (d+1) (.func k a b)=some (.func k aM au):=by simp only [bM,ab,ae]
theorem af4 {α:Type} {P:Program} {A:dw} {fn:FuncId} {rl:Option Nat} {k:FuncId} {cap:List I} {t:Nat} {bq:List Nat} {gH ct:Code} {T:List I} {H Hn:List ar} {Q:cQ→List I→List ar→Prop} {f:α→I} {L:List α} (Iu:Seq P k cap (L.map f))
  (Obj:Nat→List ar) (ax:df T t=.func k [] cap) (aQ:Obj 0=H) (hlen:∀ i,(Obj i).length=H.length)
  (Lr:∀ (i:Nat) (h:i<L.length) (Y:List ar),∃ qH,Sem P (.yield H.length) [f L[i]] ((Obj i++[.loop .ready none fn (T.map I.view) bq gH ct A])++Y) 0 (.bool true) ((Obj (i+1)++[.loop .ready none fn (T.map I.view) bq gH ct A])++qH))
  (hg:inLoop H rl=true) (aI:Obj L.length=Hn) (bp:∀ qH,Q .normal (T.map I.settle) ((Hn++[.dead])++qH)):dQ P A fn 0 rl (.AM (.nc t) bq gH ct) T H Q:=by
 show hI T t _;rw [iQ,ax];exact af3 Iu Obj aQ hlen Lr hg aI bp
end Go.Proofs.YtkoioidpbbbaiaaGreat.Ab


namespace Go.Proofs.YtkoioidpbbbaiaaGreat.Ab
open Go
theorem abA {α:Type} [Inhabited α] (f:α→List I) (s:Nat) (ah:∀ x,(f x).length=s) (l:List α) (n:Int) (h:0≤n∧n<(l.length:Int)) (j:Nat) (aw:j<s):(l.flatMap f)[n.toNat*s+j]?=(f (ix l n))[j]?:=by
 have e:=HW f s ah l n h
 have:(l.flatMap f)[n.toNat*s+j]?=((l.flatMap f).drop (n.toNat*s))[j]?:=by rw [sQ]
 rw [this,e,sg (by rw [ah];exact aw)]
theorem Kd {α:Type} [Inhabited α] (f:α→List I) (s:Nat) (ah:∀ x,(f x).length=s) (l:List α) (n:Int) (h:0≤n∧n<(l.length:Int)) (j:Nat) {v:I} (aw:(f (ix l n))[j]?=some v) {K:I→Prop} (k:K v):eJ (l.flatMap f) (0+n.toNat*s+j) K:=by
 refine Ew (x:=v) ?_ k;rw [sB,abA f s ah l n h j (by have:=(sa.1 aw).1;rw [ah] at this;exact this),aw]
theorem Pg {α:Type} [Inhabited α] (f:α→List I) (s:Nat) (ah:∀ x,(f x).length=s) (l:List α) (n:Int) (h:0≤n∧n<(l.length:Int)) {v:I} (aw:(f (ix l n))[0]?=some v) {K:I→Prop} (k:K v):eJ (l.flatMap f) (0+n.toNat*s) K :=
 Kd f s ah l n h 0 aw k
theorem X6 {α:Type} {f:α→List I} (h:∀ x,∀ u∈f x,u.view=u) (l:List α):∀ u∈l.flatMap f,u.view=u:=fun u hu=>by
 obtain ⟨x,_,aj⟩:=tJ.1 hu;exact h x u aj
theorem X7:∀ u∈([]:List I),u.view=u:=fun u h=>absurd h (by simp)
theorem NY {v:I} {l:List I} (h:v.view=v) (k:∀ u∈l,u.view=u):∀ u∈v::l,u.view=u:=fun u hu=>by
 rcases List.mem_cons.1 hu with rfl | hu
 ·exact h
 ·exact k u hu
end Go.Proofs.YtkoioidpbbbaiaaGreat.Ab


namespace Go.Proofs.YtkoioidpbbbaiaaGreat.Ab
open Go
theorem qD {n:Int} (h:-9223372036854775808≤n∧n≤9223372036854775807):w n=n:=agN h.1 h.2
theorem Io (i:Nat) (h:i≤9223372036854775806):w ((i:Int)+1)=((i+1:Nat):Int):=Pt i h
end Go.Proofs.YtkoioidpbbbaiaaGreat.Ab


namespace Go.Proofs.YtkoioidpbbbaiaaGreat.Ab
open Go
def p7 (p:Int×Int):List I:=[h0 p.1,h0 p.2]
theorem Jd (p:Int×Int):(p7 p).length=2:=rfl
theorem Qz (k:IntKind):∀ (xs ys:List Int),xs.length=ys.length→dL (xs.map (.int k)) (ys.map (.int k))=some (decide (xs=ys))
 | [],[],_=>rfl
 | x::xs,y::ys,h=>by
   simp only [sG,dL,if_true,Qz k xs ys (by simpa using h),se];congr 1;by_cases aj:x=y <;> by_cases ao:xs=ys <;> simp [aj,ao]
 | [],y::ys,h=>by cases h
 | x::xs,[],h=>by cases h
theorem ZI {P:Program} {t:TypeId} {fs:Array Field} {op:BinOp} (ab:P.underlying t=some (.struct fs)) (ae:gS P fs.toList 0=true) (aF:P.stoodInHeld t=false) (ba:fs.size=2) (bP:P.eqGuardType P.depth t=false) (a b c d:Int) (aC:op=.eql∨op=.neq) :
  fo P op t (.agg [h0 a,h0 b]) (.agg [h0 c,h0 d])=some (.bool (match op with | .eql=>decide ((a,b)=(c,d)) | _=>!decide ((a,b)=(c,d)))):=by
 unfold fo;simp only [ab];rw [if_pos ⟨ae,aF,by simp [ba],by simp [ba],bP⟩];have e:=Qz .i64 [a,b] [c,d] rfl;simp only [sG,uy] at e;have b':decide ([a,b]=[c,d])=decide ((a,b)=(c,d)):=by simp
 rcases aC with rfl | rfl <;> simp only <;> rw [show [h0 a,h0 b]=[I.int .i64 a,I.int .i64 b] from rfl,show [h0 c,h0 d]=[I.int .i64 c,I.int .i64 d] from rfl,e,se,b']
theorem ZH {P:Program} {t e:TypeId} {len:Nat} {kd:IntKind} (k:IntKind) (ab:P.underlying t=some (.array len e)) (ae:P.underlying e=some (.int kd)) (aF:bF P e=some 1) (ba:P.eqGuardType P.depth t=false) {xs ys:List Int} (aj:xs.length=len) (aY:ys.length=len) :
  fo P .eql t (.agg (xs.map (.int k))) (.agg (ys.map (.int k)))=some (.bool (decide (xs=ys))):=by
 unfold fo;simp only [ab,ae,aF];rw [if_pos ⟨by simp [aj],by simp [aY],ba⟩,Qz k xs ys (by rw [aj,aY]),se]
theorem VX {P:Program} {C:b8} {lo:Nat} {o:Oper} {op:BinOp} {t u:TypeId} {a b:Operand} {x y v:I} {H:List ar} (aq:o.op=.binOp op t a b u) (aI:iZ b=false) (h:fo P op t x y=some v):a3 P C lo o 0 [x,y] H=some (v,H):=by
 unfold a3;rw [aq];show (cB P o [x,y]).map _=_;unfold cB;rw [aq];simp only [aI];show (fo P op t x y).map _=_;rw [h];rfl
end Go.Proofs.YtkoioidpbbbaiaaGreat.Ab


namespace Go.Proofs.YtkoioidpbbbaiaaGreat.Ab
open Go
section
variable {P:Program} {B N:Nat} {J:List Nat} {w:World} {H:List ar} {aa:Nat→Option aH} {S:Nat→Nat→Prop}
end
end Go.Proofs.YtkoioidpbbbaiaaGreat.Ab


namespace Go.Proofs.YtkoioidpbbbaiaaGreat.Ab
open Go
theorem agI {α:Type} {f:α→I} (h:∀ x,(f x).view=f x) (l:List α):(l.map f).map I.view=l.map f:=by rw [vr];exact tI fun x _=>h x
theorem Vm {α:Type} (f:α→I) (l:List α) {n:Nat} (aP:∀ x,(f x).view=f x) (h:l.length=n):(((l.map f).drop 0).take n).map I.view=l.map f:=by
 rw [tq,te (by simp [h]),agI aP]
def abF (P:Program) (t:TypeId):Array Field:=match P.underlying t with
 | some (.struct fs)=>fs
 | _=>#[]
theorem ZJ {P:Program} {t e:TypeId} {len:Nat} {kd k:IntKind} {xs:List Int} {n:Int} (ab:P.underlying t=some (.array len e)) (ae:P.underlying e=some (.int kd)) (aF:bF P e=some 1) (ba:dK P e=false) (ao:xs.length=len) (aI:0≤n∧n<(len:Int)) :
  o0 P t (.agg (xs.map h0)) (.int k n)=some (h0 (ix xs n)):=by
 unfold o0;have bP:g_ n len=some n.toNat:=by unfold g_;rw [if_pos aI]
 simp only [ab,aF,bP,sb,tn];unfold iK;simp only [ae,ba];have aR:n.toNat<xs.length:=by omega
 rw [sk,si aR,se,OO (by omega)]
theorem aeA {P:Program} {C:b8} {lo:Nat} {o:Oper} {t:TypeId} {a b:Operand} {x y v:I} {H:List ar} (aq:o.op=.index t a b) (h:o0 P t x y=some v) (ad:v.view=v:=by rfl):a3 P C lo o 0 [x,y] H=some (v,H):=by
 unfold a3;rw [aq];show (cB P o [x,y]).map _=_;unfold cB;rw [aq];show ((o0 P t x y).map I.view).map _=_;rw [h,se,se,ad]
end Go.Proofs.YtkoioidpbbbaiaaGreat.Ab


namespace Go.Proofs.YtkoioidpbbbaiaaGreat.Ab
open Go
def KB:List I→Nat→List (Nat×I)→List I
 | [],_,_=>[]
 | x::T,_,[]=>x::T
 | x::T,i,(j,v)::r=>match Nat.beq i j with
   | true=>v::KB T (i+1) r
   | false=>x::KB T (i+1) ((j,v)::r)
def Im (u:Nat→I):Nat→Nat→List (Nat×I)→List I
 | 0,_,_=>[]
 | n+1,i,[]=>u i::Im u n (i+1) []
 | n+1,i,(j,v)::r=>match Nat.beq i j with
   | true=>v::Im u n (i+1) r
   | false=>u i::Im u n (i+1) ((j,v)::r)
def rv (n:Nat) (bq:List (Nat×I)) (T:List I):Prop:=T.length=n∧T=KB T 0 bq
theorem Pl {u bH:Nat→I}:∀ (n i:Nat) (bq:List (Nat×I)),(∀ k,i≤k→u k=bH k)→Im u n i bq=Im bH n i bq
 | 0,_,_,_=>rfl
 | n+1,i,[],h=>by
   rw [Im,Im,h i (sc _),Pl n (i+1) [] fun k al=>h k (by omega)]
 | n+1,i,(j,v)::r,h=>by
   rw [Im,Im];cases Nat.beq i j with
   | true=>exact congrArg _ (Pl n (i+1) r fun k al=>h k (by omega))
   | false=>show u i::_=bH i::_;rw [h i (sc _),Pl n (i+1) _ fun k al=>h k (by omega)]
theorem Xy:∀ (T:List I) (i:Nat) (bq:List (Nat×I)),KB T i bq=Im (fun k=>df T (k-i)) T.length i bq
 | [],_,_=>rfl
 | x::T,i,bq=>by
   have e:∀ bq,Im (fun k=>df (x::T) (k-i)) T.length (i+1) bq=KB T (i+1) bq:=fun bq=>by
    rw [Xy T (i+1) bq];refine Pl _ _ _ fun k al=>?_;show df (x::T) (k-i)=df T (k-(i+1));rw [show k-i=(k-(i+1))+1 by omega];rfl
   (have gb:df (x::T) (i-i)=x:=by rw [Nat.sub_self];rfl);(have abv:∀ (T:List I) i,KB T i []=T:=fun T i=>by cases T <;> rfl);cases bq with
   | nil =>
     show x::T=Im _ (T.length+1) i [];rw [Im,gb,e,abv]
   | cons p r =>
     obtain ⟨j,v⟩:=p;show KB (x::T) i ((j,v)::r)=Im _ (T.length+1) i ((j,v)::r);rw [KB,Im];cases Nat.beq i j with
     | true=>exact congrArg _ (e r).symm
     | false=>show x::_=_::_;rw [gb,e]
theorem rv.ex {n:Nat} {bq:List (Nat×I)} {T:List I} (h:rv n bq T):∃ u,T=Im u n 0 bq:=by
 obtain ⟨ab,ae⟩:=h;subst ab;exact ⟨_,ae.trans (Xy T 0 bq)⟩
class HB (d:Nat) (v:I):Prop where OV:cr d v=true
class qi (d:Nat) (l:List I):Prop where pl:l.all (cr d)=true
instance {d:Nat}:qi d []:=⟨rfl⟩
instance {d:Nat} {v:I} {l:List I} [a:HB d v] [b:qi d l]:qi d (v::l):=⟨p6 a.OV b.pl⟩
instance {d:Nat} {a b:List I} [x:qi d a] [y:qi d b]:qi d (a++b):=⟨by rw [List.all_append,x.pl,y.pl];rfl⟩
instance {d:Nat} {α:Type} {f:α→I} {l:List α} [h:∀ x,HB d (f x)]:qi d (l.map f):=⟨V9 (fun x=>(h x).OV) l⟩
instance {d:Nat} {α:Type} {f:α→List I} {l:List α} [h:∀ x,qi d (f x)]:qi d (l.flatMap f):=⟨by
 rw [sm];intro u hu;obtain ⟨x,_,aj⟩:=tJ.1 hu
 exact sm.1 (h x).pl u aj⟩
instance {d:Nat} {k:IntKind} {n:Int}:HB (d+1) (.int k n):=⟨rfl⟩
instance {d:Nat} {b:Bool}:HB (d+1) (.bool b):=⟨rfl⟩
instance {d:Nat} {b:ByteArray}:HB (d+1) (.str b):=⟨rfl⟩
instance {d:Nat}:HB (d+1) .eI:=⟨rfl⟩
instance {d:Nat}:HB (d+1) .a0:=⟨rfl⟩
instance {d n:Nat} {c:hE} {l:List I} [h:qi d l]:HB (d+1) (.av l n c):=⟨h.pl⟩
instance {d:Nat} {l:List I} [h:qi d l]:HB (d+1) (.agg l):=⟨h.pl⟩
instance {d:Nat} {l:List I} [h:qi d l]:HB (d+1) (.tuple l):=⟨h.pl⟩
instance {d:Nat} {l:List I} [h:qi d l]:HB (d+1) (.bS l):=⟨h.pl⟩
instance {d:Nat} {α:Type} {f:α→I} {l:List α} [h:∀ x,HB d (f x)]:HB (d+1) (ZC f l):=⟨V9 (fun x=>(h x).OV) l⟩
instance {d:Nat} {α:Type} {f:α→List I} {l:List α} [h:∀ x,qi d (f x)]:HB (d+1) (ZD f l):=⟨(inferInstance:qi d (l.flatMap f)).pl⟩
instance {d:Nat} {l:List Int}:HB (d+2) (oX l):=⟨(inferInstance:qi (d+1) (l.map h0)).pl⟩
instance {d:Nat} {l:List (List Int)}:HB (d+3) (jx l):=⟨(inferInstance:qi (d+2) (l.map oX)).pl⟩
instance {d:Nat} {α:Type} {f:α→List I} {x:Option α} [h:∀ x,qi d (f x)]:HB (d+1) (Mj f x):=⟨V8 (fun x=>(h x).pl) x⟩
theorem qP {p V1:Prop} [Decidable p] {aV:Type} {k:Option aV} {v:aV} {K:Prop} (h:qk p k=some v) (f:p→V1) (g:p→k=some v→K):V1∧K :=
 ⟨f (rR h).1,g (rR h).1 (rR h).2⟩
theorem bs {b:Bool} {aV:Type} {x y:Option aV} {v:aV} {K:Prop} (h:(if b=true then x else y)=some v) (f:b=true→x=some v→K) (g:b=false→y=some v→K):K :=
 match b,h,f,g with
 | true,h,f,_=>f rfl (rV rfl h)
 | false,h,_,g=>g rfl (rW rfl h)
theorem aeM {d:Nat} {u:I} (h:cr d u.ha=true):cr d u=true:=by
 cases d with
 | zero=>simp [cr] at h
 | succ d=>cases u with
   | av cs n c=>cases c <;> exact h
   | _=>exact h
theorem V7 {d:Nat} {l:List I} (h:(l.map I.ha).all (cr d)=true):l.all (cr d)=true:=by
 rw [sm] at h ⊢;exact fun u hu=>aeM (h _ (List.mem_map_of_mem hu))
theorem aeL {d:Nat} {r:I} (h:cr d r.settle.view.cc=true) (aw:r.settle.view.cc.G4=false):cr d r=true:=by
 cases d with
 | zero=>simp [cr] at h
 | succ d=>cases r with
   | av cs n c=>cases c <;> exact h
   | agg cs=>exact V7 (l:=cs) h
   | tuple cs=>exact V7 (l:=cs) h
   | raw=>exact absurd aw (by simp [I.settle,I.view,I.cc,I.G4])
   | c3=>exact absurd aw (by simp [I.settle,I.view,I.cc,I.G4])
   | cm=>exact absurd h (by simp [I.settle,I.view,I.cc,cr])
   | _=>exact h
theorem Il {rs:List Ih} {v:I} {T:List I} {H:List ar} {vs:List I} [h:HB 8 v] (ab:rQ H T rs=some vs) (ae:(jg vs).settle.view.cc=v) (aw:v.G4=false:=by first | rfl | (simp [I.G4];done) | (cases ‹Option _› <;> rfl)):HV rs v .ret T H :=
 ⟨.inr rfl,vs,ab,_,yW (aeL (ae ▸ h.OV) (ae ▸ aw)),ae⟩
end Go.Proofs.YtkoioidpbbbaiaaGreat.Ab


namespace Go.Proofs.YtkoioidpbbbaiaaGreat.Ab
open Go
section
variable {P:Program} {A:dw} {fn:FuncId} {lo:Nat} {rl:Option Nat}
inductive aif (P:Program) (A:dw) (fn:FuncId) (lo:Nat) (rl:Option Nat) (rc:gE) (T:List I) (H:List ar) (Q:cQ→List I→List ar→Prop):Prop where
 | mk (cE:List Bool) (c:gE) (he:rc=.loop (some cE) c) (h0:Nat→List I→List ar→Prop) (m:Nat) (hm:m≤qj) (aQ:h0 m T H)
   (step:∀ (Hk:List I→List ar→Prop) m T H,h0 m T H→(∀ hr bf H',hr<m→h0 hr bf H'→Hk bf H')→ob T fun T=>dQ P A fn lo rl c T H fun e bf H'=>match e with
    | .normal=>xo (some cE) bf fun bf=>Hk bf H'
    | e=>Q e bf H')
end
theorem OY {cs:List I} {n d:Nat} {c:hE} (h:cs.all (cr d)=true):cr (d+1) (.av cs n c)=true:=h
def af5 (l:List Int):I:=.av (l.map h0) l.length (if l.length=1 then .full else .shared)
end Go.Proofs.YtkoioidpbbbaiaaGreat.Ab


namespace Go.Proofs.YtkoioidpbbbaiaaGreat.Ab
open Go
instance {d:Nat} {p:Int×Int}:qi (d+1) (p7 p):=⟨(inferInstance:qi (d+1) [h0 p.1,h0 p.2]).pl⟩
instance {d:Nat} {l:List Int}:HB (d+2) (af5 l):=⟨(inferInstance:qi (d+1) (l.map h0)).pl⟩
end Go.Proofs.YtkoioidpbbbaiaaGreat.Ab


namespace Go.Proofs.YtkoioidpbbbaiaaGreat.Ab
open Go
abbrev p9:=List Int
abbrev qg:=List (Int×Int)
abbrev KW:=List (List Int)
abbrev aie:=List (List (Int×Int))
abbrev aia:=Int×List (Int×Int)
abbrev Hm:=cQ→List I→List ar→Prop
abbrev qR (l:List Int) (c:hE):I:=.av (l.map h0) l.length c
abbrev q2 (l:List (Int×Int)) (c:hE):I:=.av (l.flatMap p7) l.length c
abbrev aii (b:Int×List (Int×Int)):I:=.agg [h0 b.1,.av (b.2.flatMap p7) b.2.length .shared]
abbrev aij (b:Int×List (Int×Int)):ar:=ar.cells [h0 b.1,.av (b.2.flatMap p7) b.2.length .shared]
def qI {aV:Type} (rs:List Ih) (Q:cQ→List I→List ar→Prop) (e:aV→I) (v:aV):Prop:=∀ T H,HV rs (e v) .ret T H→Q .ret T H
theorem p_ {aV:Type} {x v:aV} {e:aV→I} {rs:List Ih} {Q:cQ→List I→List ar→Prop} {T:List I} {H:List ar} {vs:List I} (h:some x=some v) (jJ:qI rs Q e v) [k:HB 8 (e x)] (ab:rQ H T rs=some vs) (ae:(jg vs).settle.view.cc=e x) (aw:(e x).G4=false:=by first | rfl | (simp [I.G4];done) | (cases ‹Option _› <;> rfl)):Q .ret T H:=by
 obtain rfl:=Option.some.inj h;exact jJ _ _ (Il ab ae aw)
class qX (H:List ar) (i:Nat) (o:outParam ar):Prop where h:H[i]?=some o
instance {H:List ar} {o:ar}:qX (H++[o]) H.length o:=⟨IP _ _⟩
instance {H:List ar} {i:Nat} {o p:ar} [k:qX H i o]:qX (H++[p]) i o:=⟨UD k.h⟩
end Go.Proofs.YtkoioidpbbbaiaaGreat.Ab


namespace Go.Proofs.YtkoioidpbbbaiaaGreat.Ab
open Go Go.ChangeShapes Go.WideShapes Go.ChangeAt Go.RowKit
def S0 (w:World):Nat→Nat→Prop:=fun b o=>∃ v,w.cell? ⟨b,o,none⟩=some v
theorem my (w:World):aK w.heap.size (fun _=>none) [] (S0 w) w [] :=
 ⟨rfl,fun _ _ h=>by simp at h,fun _ _ h=>h,fun _ _ h=>by simp at h,sc _⟩
theorem XM {P:Program} {k:FuncId} {args:List I} {vs:List Value} {W:World} {b:Bool} (h:nn P k args (.bool b)) (ad:a5 (fun i=>.arg i) (fun _=>none) [] (S0 W) W args vs) :
  Calls P k vs.toArray W fun e IB=>e=.returned (.bool b)∧Below W.heap.size W IB:=by
 have ab:=h.1.2.2 W.heap.size (fun _=>none) [] (S0 W) W vs (my W) (fun _ _ h=>by simp at h) ad;refine (callsIn_wide.1 ab).mono fun e IB he=>?_;cases e with
 | returned v =>
   obtain ⟨ay,bV,S',_,az,_,ai,_⟩:=he;cases ai;exact ⟨rfl,az.os,az.tape,az.output,az.size,fun b af=>az.cE b af rfl⟩
 | panicked c=>exact he.elim
 | outgrown=>exact he.elim
section
variable {H:Type} {enc:TypeId×Value→H} {P:Program} {w:World}
theorem S5 {W IB:World} (K:Kids P (·<P.types.size)) (bR:∀ t e,t<P.types.size→P.underlying t=some (.slice e)→0<P.cellsOf e) (I9:Below W.heap.size W IB) {sp:Nat→Bool} :
  ∀ {ts:List TypeId} {vs:List Value} {fG:List (DataW H)} {p:List MemPlace},(∀ t∈ts,t<P.types.size)→DataW.TrodAll enc P W 0 (fun _=>true) true ts vs fG p→(∀ x∈p,sp x.block=true)→(∀ x∈p,x.block<W.heap.size)→DataW.TrodAll enc P IB 0 sp true ts vs fG p
 | [],_,_,_,_,aL,_,_=>by obtain ⟨rfl,rfl,rfl⟩:=trodAll_nil aL;exact trodAll_mk0
 | t::ts,_,_,_,b0,aL,Mg,aR=>by
   obtain ⟨v,vs,d,fG,a,b,rfl,rfl,rfl,⟨n,aI⟩,ae⟩:=trodAll_cons aL;refine ⟨a,b,⟨n,?_⟩,S5 K bR I9 (fun t ax=>b0 t (tS _ ax)) ae (fun x aj=>Mg x (vu _ aj)) (fun x aj=>aR x (vu _ aj)),rfl⟩;exact DataW.trod_stays K (fun {t e} ax he=>bR t e ax he) (fun h=>by cases h) (b0 t tY) aI (fun x aj=>I9.same (aR x (vv _ aj))) fun x aj=>Mg x (vv _ aj)
theorem V5 {f:Func} {s:ChangeSpec} {again:Bool} {W IB:World} {args:Array Value} {t:TypeId} {fG gs:List (DataW H)} {before:List MemPlace}
  (ao:laidOutB P=true) (hm:mapsRowed P=true) (bk:((List.range P.types.size).all fun t=>match P.underlying t with | some (.slice e)=>decide (0<P.cellsOf e) | _=>true)=true)
  (ax:f.resultTypes=#[t]) (UK:P.underlying t=some .bool) (kR:f.params.toList.all (fun t=>decide (t<P.types.size))=true) (Q5:s.vars=[])
  (mb:DataW.Whole enc P f.params.toList s.vars false W args.toList fG gs before) (I9:Below W.heap.size W IB)
  (ah:s.fn H (fG++gs)={ results:=[.lit (.bool true)],args:=fG }):s.post enc P f false true false again W args (.bool true) IB:=by
 have aR:=mb.lt;have abW:=mb;obtain ⟨p,q,aL,jK,rfl,C0,jV⟩:=abW;rw [Q5] at jK;obtain ⟨rfl,rfl⟩:=trodVars_none jK;rw [sM] at *;have K:Kids P (·<P.types.size):=kids_rows ao hm;have bR:=slices_full_of P bk;have b0:∀ t∈f.params.toList,t<P.types.size:=fun t h=>by
  have:=sm.1 kR t h;simpa using this
 have again:∀ sp:Nat→Bool,(∀ x∈p,sp x.block=true)→DataW.TrodAll enc P IB 0 sp true f.params.toList args.toList fG p:=fun sp Mg =>
  S5 K bR I9 b0 aL Mg aR
 have kT:∀ (b:Nat) (sp:Nat→Bool) (a1:Bool),DataW.TrodAll enc P IB b sp a1 f.resultTypes.toList ((Value.bool true).resultList f.resultTypes.size) (s.fn H fG).results []:=fun b sp a1=>by
  rw [ah,ax];exact trodAll_mk1 (shut_bool UK true)
 have CH:∀ sp:Nat→Bool,(∀ x∈p,sp x.block=true)→DataW.TrodAll enc P IB 0 sp true f.params.toList args.toList (s.fn H fG).args p:=fun sp Mg=>by
  rw [ah];exact again sp Mg
 have ad:∀ sp:Nat→Bool,DataW.TrodVars enc P IB sp s.vars (s.fn H fG).vars []:=fun sp=>by
  rw [ah,Q5];rfl
 have hold:∀ x∈p,(fun b=>decide (b<W.heap.size)) x.block=true:=fun x aj=>by simpa using aR x aj
 refine ⟨fG,[],p,[],p,[],mb,by rw [sM];exact kT _ _ _,by rw [sM];exact CH _ hold,by rw [sM];exact ad _,I9.frame _,fun _=>?_⟩;refine ⟨fun j u r hu ai=>?_,(s.fn H fG).results++(s.fn H fG).args,[],p,⟨p,[],?_,?_,by simp,?_,fun h=>by cases h⟩,fun x aj _=>aj⟩
 ·rw [ax] at hu ai;cases j with
  | zero=>simp [Value.resultList] at hu ai;subst hu;subst ai;exact okWide_bool_mk UK true
  | succ j=>simp at hu
 ·have:=trodAll_append (CH (fun _=>true) fun _ _=>rfl) (kT 0 (fun _=>true) true);simpa using this
 ·rw [Q5];rfl
 ·intro b o af;have:=aR _ af;rw [I9.frozen (p:=⟨b,o,none⟩) this];exact C0 b o af
theorem VF {α:Type} {f:α→I} {R:α→Prop}:∀ {l:List I},(∀ u∈l,∃ x,u=f x∧R x)→∃ gx:List α,l=gx.map f∧∀ x∈gx,R x
 | [],_=>⟨[],rfl,by simp⟩
 | u::l,h=>by
   obtain ⟨x,rfl,aj⟩:=h u (by simp);obtain ⟨gx,rfl,bk⟩:=VF (l:=l) fun y aY=>h y (by simp [aY]);exact ⟨x::gx,rfl,by simpa using ⟨aj,bk⟩⟩
abbrev JI (enc:TypeId×Value→H) (P:Program) (w:World) (e:TypeId) (Q:I→Prop):Prop :=
 ∀ n v y,DataW.trod enc P w 0 (fun _=>true) true n e [v]=some y→∃ u,u.plain=true∧v.oneCell'=true∧Rel [] (S0 w) w u v∧Q u
theorem T6 {e:TypeId} {k:IntKind} (ax:P.underlying e=some (.int k)):JI enc P w e fun u=>∃ x,u=.int k x∧(Lit.int k x).wf=true:=by
 intro n v y h;obtain ⟨x,aj,_,hw⟩:=DataW.trod_int ax h;injection aj with aj _;subst aj;exact ⟨.int k x,rfl,rfl,.int k x,x,rfl,hw⟩
instance:Inhabited I:=⟨.a0⟩
theorem aaX {t e:TypeId} (ax:P.underlying t=some (.slice e)) (ce:P.cellsOf e=1) {Q:I→Prop} (he:JI enc P w e Q) :
  JI enc P w t fun u=>∃ l:List I,u=.av l l.length .shared∧l.length≤maxLen∧∀ u∈l,Q u:=by
 intro fuel v x h;rcases Deep.open_slice1 ax ce h with ⟨ad,_⟩ | ⟨a,len,cap,m,n,V,D,P_,ad,_,ao,hm,pQ,_,aj⟩
 ·injection ad with ad _;subst ad;exact ⟨_,rfl,rfl,.b3 _ _,[],rfl,sE _,by simp⟩
 ·injection ad with ad _;subst ad;have pQ:m=cap:=pQ;have aj:∀ i,i<cap→w.cell? (a.add i)=some (V i)∧DataW.trod enc P w 0 (fun _=>true) true n e [V i]=some (D i,P_ i):=fun i hi=>aj i (by omega);by_cases ak:cap=0
  ·(subst ak;obtain rfl:len=0:=by omega);exact ⟨_,rfl,rfl,.b3 _ _,[],rfl,sE _,by simp⟩
  ·obtain ⟨b,o,sp⟩:=a;have aQ:=(aj 0 (by omega)).1;(have ah:sp=none:=by simpa [Addr.add] using World.cell?_spot aQ);subst ah;obtain ⟨U,Ht⟩:=Deep.choose_lt (α:=I) (n:=len) (p:=fun i u=>u.plain=true∧(V i).oneCell'=true∧Rel [] (S0 w) w u (V i)∧Q u) fun i hi=>he n (V i) _ (aj i (by omega)).2;refine ⟨.av ((List.range len).map U) len .shared,rfl,rfl,.av _ _ _ b o cap V (by simp) ao (by simp) (fun j u aw=>?_) (fun j u aw=>?_),(List.range len).map U,by simp,by simp;omega,fun u hu=>?_⟩
   ·(have mo:j<len:=by have:=(sa.1 aw).1;simpa using this);simp [mo] at aw;subst aw;(have bz:w.cell? ⟨b,o+j,none⟩=some (V j):=by have:=(aj j (by omega)).1;rwa [add_lit] at this);exact ⟨⟨_,bz⟩,bz,(Ht j mo).1,(Ht j mo).2.1⟩
   ·(have mo:j<len:=by have:=(sa.1 aw).1;simpa using this);simp [mo] at aw;subst aw;exact (Ht j mo).2.2.1
   ·obtain ⟨j,aw,rfl⟩:=sC.1 hu;exact (Ht j (sH.1 aw)).2.2.2
def II (x:Int):Prop := -9223372036854775808≤x∧x≤9223372036854775807
theorem wf_i64 {x:Int} (h:(Lit.int .i64 x).wf=true):II x:=by
 have ab:IntKind.i64.min=-9223372036854775808:=rfl;have ae:IntKind.i64.max=9223372036854775807:=rfl;simp only [Lit.wf,sn,decide_eq_true_eq] at h;exact ⟨by omega,by omega⟩
theorem wf_u8 {x:Int} (h:(Lit.int .u8 x).wf=true):0≤x∧x≤255:=by
 have ab:IntKind.u8.min=0:=rfl;have ae:IntKind.u8.max=255:=rfl;simp only [Lit.wf,sn,decide_eq_true_eq] at h;exact ⟨by omega,by omega⟩
structure Zz (l:List Int):Prop where
 n:l.length≤9223372036854775807
 v:∀ x∈l,II x
structure aid (l:List (List Int)):Prop where
 n:l.length≤9223372036854775807
 v:∀ r∈l,Zz r
theorem VH {n:Nat} (h:n≤maxLen):n≤9223372036854775807:=by unfold maxLen at h;omega
def M7 (l:List Int):I:=.av (l.map (.int .u8)) l.length .shared
structure SV (l:List Int):Prop where
 n:l.length≤9223372036854775807
 v:∀ x∈l,0≤x∧x≤255
theorem aaW {t e:TypeId} (ax:P.underlying t=some (.slice e)) (ce:P.cellsOf e=1) (he:P.underlying e=some (.int .u8)):JI enc P w t fun u=>∃ l,u=M7 l∧SV l:=by
 intro n v y h;obtain ⟨u,aA,aG,aT,l,rfl,br,bg⟩:=aaX ax ce (T6 he) n v y h;obtain ⟨gx,rfl,bd⟩:=VF bg;exact ⟨_,aA,aG,aT,gx,by simp [M7],by simpa using VH br,fun x aj=>wf_u8 (bd x aj)⟩
abbrev Arg (enc:TypeId×Value→H) (P:Program) (w:World) (base:Nat) (t:TypeId) (Q:I→Prop):Prop :=
 ∀ v d p,Value.okWide P w .any base t v→DataW.Trod enc P w 0 (fun _=>true) true t v d p→∃ u,u.plain=true∧Rel [] (S0 w) w u v∧Q u
theorem aaz {base:Nat} {t:TypeId} {k:IntKind} (ax:P.underlying t=some (.int k)):Arg enc P w base t fun u=>∃ x,u=.int k x∧(Lit.int k x).wf=true:=by
 intro v d p ad a1;obtain ⟨x,rfl,_,_,hw⟩:=open_int ax ad a1;exact ⟨.int k x,rfl,.int k x,x,rfl,hw⟩
theorem aaA {base:Nat} {t e:TypeId} (ax:P.underlying t=some (.slice e)) {Q:I→Prop} (ak:JI enc P w t Q):Arg enc P w base t Q:=by
 intro v d p ad ⟨n,a1⟩;obtain ⟨a,len,cap,rfl⟩:=okWide_slice ax ad;obtain ⟨u,aA,_,aT,br⟩:=ak n _ _ a1;exact ⟨u,aA,aT,br⟩
theorem agJ {us:List I} {vs:List Value} (h:us.length=vs.length) (ai:∀ (i:Nat) (u:I) (v:Value),us[i]?=some u→vs[i]?=some v→u.plain=true∧Rel [] (S0 w) w u v):a5 (fun i=>.arg i) (fun _=>none) [] (S0 w) w us vs :=
 ⟨h,fun i u v hu ad=>(ai i u v hu ad).2,fun i u v hu ad=>aU.b4 (ai i u v hu ad).1⟩
theorem agL {yh fA gv:I} {v0 v1 v2:Value} (NA:yh.plain=true) (hT:Rel [] (S0 w) w yh v0) (bU:fA.plain=true) (aS:Rel [] (S0 w) w fA v1) (b1:gv.plain=true) (bj:Rel [] (S0 w) w gv v2) :
  a5 (fun i=>.arg i) (fun _=>none) [] (S0 w) w [yh,fA,gv] [v0,v1,v2] :=
 agJ rfl fun i u v hu ad=>by
  match i with
  | 0=>simp at hu ad;subst hu;subst ad;exact ⟨NA,hT⟩
  | 1=>simp at hu ad;subst hu;subst ad;exact ⟨bU,aS⟩
  | 2=>simp at hu ad;subst hu;subst ad;exact ⟨b1,bj⟩
  | i+3=>simp at hu
end
end Go.Proofs.YtkoioidpbbbaiaaGreat.Ab


namespace Go.Proofs.YtkoioidpbbbaiaaGreat.Ab
open Go Go.ChangeShapes Go.WideShapes Go.ChangeAt Go.RowKit
section
variable {H:Type} {enc:TypeId×Value→H} {P:Program} {w:World}
theorem VG {α β:Type} {f:α→β} {R:α→Prop}:∀ {l:List β},(∀ u∈l,∃ x,u=f x∧R x)→∃ gx:List α,l=gx.map f∧∀ x∈gx,R x
 | [],_=>⟨[],rfl,by simp⟩
 | u::l,h=>by
   obtain ⟨x,rfl,aj⟩:=h u (by simp);obtain ⟨gx,rfl,bk⟩:=VG (l:=l) fun y aY=>h y (by simp [aY]);exact ⟨x::gx,rfl,by simpa using ⟨aj,bk⟩⟩
def Oi (enc:TypeId×Value→H) (P:Program) (w:World) (fs:Array Field) (Ig:List (I→Prop)):Prop :=
 Ig.length=fs.size∧∀ (i:Nat) (f:Field) (q:I→Prop),fs[i]?=some f→Ig[i]?=some q→f.offset=i∧P.cellsOf f.type=1∧JI enc P w f.type q
def P8 (Ig:List (I→Prop)) (us:List I):Prop:=us.length=Ig.length∧∀ (i:Nat) (u:I) (q:I→Prop),us[i]?=some u→Ig[i]?=some q→q u
theorem agq {t:TypeId} {fs:Array Field} {Ig:List (I→Prop)} (ax:P.underlying t=some (.struct fs)) (ak:P.cellsOf t=fs.size) (aP:Oi enc P w fs Ig) {n:Nat} {cs:List Value} {y:DataW H×List MemPlace}
  (h:DataW.trod enc P w 0 (fun _=>true) true n t cs=some y):∃ us:List I,P8 Ig us∧cs.length=us.length∧∀ (j:Nat) (u:I) (v:Value),us[j]?=some u→cs[j]?=some v→u.plain=true∧v.oneCell'=true∧Rel [] (S0 w) w u v:=by
 obtain ⟨xs,m,_,_,ao,Q6,aj⟩:=DataW.trod_struct ax h;rw [ak] at ao;have each:∀ i,i<fs.size→∃ u:I,(∀ v,cs[i]?=some v→u.plain=true∧v.oneCell'=true∧Rel [] (S0 w) w u v)∧∀ q,Ig[i]?=some q→q u:=fun i hi=>by
  have ab:fs[i]?=some fs[i]:=Array.getElem?_eq_getElem hi;have a_:i<Ig.length:=by rw [aP.1];exact hi
  have ae:Ig[i]?=some Ig[i]:=si a_;obtain ⟨e1,b',dA⟩:=aP.2 i _ _ ab ae;have aF:=aj i _ ab;rw [e1,b'] at aF;have UO:i<cs.length:=by omega
  rw [s6 UO,si (by omega)] at aF;simp only [List.take_succ_cons,List.take_zero] at aF;obtain ⟨u,aA,aG,aT,br⟩:=dA _ _ _ aF;refine ⟨u,fun v ad=>?_,fun q Dr=>?_⟩
  ·rw [si UO] at ad;cases ad;exact ⟨aA,aG,aT⟩
  ·rw [ae] at Dr;cases Dr;exact br
 obtain ⟨U,Ht⟩:=Deep.choose_lt (α:=I) (n:=fs.size) (p:=fun i u=>(∀ v,cs[i]?=some v→u.plain=true∧v.oneCell'=true∧Rel [] (S0 w) w u v)∧∀ q,Ig[i]?=some q→q u) each;have get:∀ (i:Nat) (u:I),((List.range fs.size).map U)[i]?=some u→i<fs.size∧u=U i:=fun i u hu=>by
  have hi:i<fs.size:=by have:=(sa.1 hu).1;simpa using this
  simp [hi] at hu;exact ⟨hi,hu.symm⟩
 refine ⟨(List.range fs.size).map U,⟨by simp [aP.1],fun i u q hu a_=>?_⟩,by simp [ao],fun j u v hu ad=>?_⟩
 ·obtain ⟨hi,rfl⟩:=get i u hu;exact (Ht i hi).2 q a_
 ·obtain ⟨hi,rfl⟩:=get j u hu;exact (Ht j hi).1 v ad
theorem Uh {s:Nat}:∀ {L:List (List I)} {j:Nat} {u:I},(∀ l∈L,l.length=s)→0<s→L.flatten[j]?=some u→∃ l,L[j / s]?=some l∧l[j % s]?=some u
 | [],j,u,_,_,h=>by simp at h
 | l::L,j,u,ao,ah,h=>by
   have aQ:l.length=s:=ao l (by simp);rw [List.flatten_cons] at h;by_cases aw:j<s
   ·rw [sg (by omega)] at h;exact ⟨l,by rw [Nat.div_eq_of_lt aw];rfl,by rw [Nat.mod_eq_of_lt aw];exact h⟩
   ·rw [ss (by omega),aQ] at h;obtain ⟨k,a,b⟩:=Uh (s:=s) (fun x aj=>ao x (by simp [aj])) ah h;(have e1:j / s=(j-s) / s+1:=by rw [Nat.div_eq_sub_div ah (by omega)]);(have b':j % s=(j-s) % s:=by rw [Nat.mod_eq_sub_mod (by omega)]);exact ⟨k,by rw [e1];simpa using a,by rw [b'];exact b⟩
end
end Go.Proofs.YtkoioidpbbbaiaaGreat.Ab


namespace Go.Proofs.YtkoioidpbbbaiaaGreat.Ab
open Go
instance {d:Nat} {l:List I} [h:qi d l]:qi d (l.map I.ha):=⟨by
 have h:=h.pl;rw [sm] at h ⊢;intro u hu;obtain ⟨v,ad,rfl⟩:=sC.1 hu;have:=h v ad;cases d with
 | zero=>simp [cr] at this
 | succ d=>cases v with
   | av cs n c=>cases c <;> exact this
   | _=>exact this⟩
end Go.Proofs.YtkoioidpbbbaiaaGreat.Ab


namespace Go.Proofs.YtkoioidpbbbaiaaGreat.Ab
open Go
def qq (x:(Int×(Int×Int))):List I:=[(h0 x.1),(h0 x.2.1),(h0 x.2.2)]
theorem H4 (x:(Int×(Int×Int))):(qq x).length=3:=rfl
instance {d:Nat} {x:(Int×(Int×Int))}:qi (d+1) (qq x):=⟨(inferInstance:qi (d+1) [(h0 x.1),(h0 x.2.1),(h0 x.2.2)]).pl⟩
end Go.Proofs.YtkoioidpbbbaiaaGreat.Ab


namespace Go.Proofs.YtkoioidpbbbaiaaGreat.Ab
open Go Go.ChangeShapes Go.WideShapes Go.ChangeAt Go.RowKit
set_option maxRecDepth 100000
section
variable {H:Type} {enc:TypeId×Value→H} {P:Program} {w:World}
def I3 (enc:TypeId×Value→H) (P:Program) (w:World) (t:TypeId) (bb:Nat) (Q:List I→Prop):Prop :=
 ∀ (fuel:Nat) (cs:List Value) (y:DataW H×List MemPlace),DataW.trod enc P w 0 (fun _=>true) true fuel t cs=some y →
   ∃ us:List I,Q us∧us.length=bb∧cs.length=bb∧∀ (j:Nat) (u:I) (v:Value),us[j]?=some u→cs[j]?=some v→u.plain=true∧v.oneCell'=true∧Rel [] (S0 w) w u v
theorem aa4 {t:TypeId} {f1 f2:Field} {b7 cj:Nat} {oY lJ:List I→Prop} (ax:P.underlying t=some (.struct #[f1,f2])) (ak:P.cellsOf t=b7+cj) (bx:f1.offset=0) (bK:f2.offset=b7) (a7:P.cellsOf f1.type=b7) (a9:P.cellsOf f2.type=cj) (ab:I3 enc P w f1.type b7 oY) (ae:I3 enc P w f2.type cj lJ) :
  I3 enc P w t (b7+cj) fun us=>∃ a b,us=a++b∧oY a∧lJ b:=by
 intro fuel cs y h;obtain ⟨xs,m,_,_,ao,Q6,aj⟩:=DataW.trod_struct ax h;rw [ak] at ao;have Q6:xs.length=2:=Q6;have e1:=aj 0 f1 rfl;have b':=aj 1 f2 rfl;rw [bx,a7,tq,si (by omega)] at e1;rw [bK,a9,si (by omega)] at b';obtain ⟨a,aA,aG,aT,br⟩:=ab _ _ _ e1;obtain ⟨b,bm,cw,e2,lQ⟩:=ae _ _ _ b';refine ⟨a++b,⟨a,b,rfl,aA,bm⟩,by rw [sy];omega,ao,fun j u v hu ad=>?_⟩;by_cases aw:j<b7
 ·rw [sg (by omega)] at hu;exact br j u v hu (by rw [sI,if_pos aw];exact ad)
 ·rw [ss (by omega)] at hu;have aiE:j-a.length<b.length:=(sa.1 hu).1;refine lQ (j-a.length) u v hu ?_;rw [sI,if_pos (by omega),sQ,show b7+(j-a.length)=j by omega];exact ad
theorem aa2 {t:TypeId} {Q:I→Prop} (h:JI enc P w t Q) (ah:∀ (fuel:Nat) (cs:List Value) (y:DataW H×List MemPlace),DataW.trod enc P w 0 (fun _=>true) true fuel t cs=some y→cs.length=1):I3 enc P w t 1 fun us=>∃ u,us=[u]∧Q u:=by
 intro fuel cs y aY;have ao:=ah _ _ _ aY
 match cs,ao with
 | [c],_ =>
   obtain ⟨u,aA,aG,aT,br⟩:=h _ _ _ aY;refine ⟨[u],⟨u,rfl,br⟩,rfl,rfl,fun j bH v hu ad=>?_⟩
   match j with
   | 0=>simp at hu ad;subst hu;subst ad;exact ⟨aA,aG,aT⟩
   | j+1=>simp at hu
theorem T7 {t:TypeId} {fs:Array Field} {Ig:List (I→Prop)} (ax:P.underlying t=some (.struct fs)) (ak:P.cellsOf t=fs.size) (aP:Oi enc P w fs Ig):I3 enc P w t fs.size (P8 Ig):=fun fuel cs y h=>by
 obtain ⟨us,ab,ae,aF⟩:=agq ax ak aP h;have:=ab.1;have:=aP.1;exact ⟨us,ab,by omega,by omega,aF⟩
theorem aay {base:Nat} {t:TypeId} {fs:Array Field} {bb:Nat} {Q:List I→Prop} (ax:P.underlying t=some (.struct fs)) (aP:I3 enc P w t bb Q):Arg enc P w base t fun u=>∃ us,u=.agg us∧Q us:=by
 intro v d p ad ⟨n,a1⟩;unfold Value.okWide at ad;rw [ax] at ad;obtain ⟨cs,rfl,bR,_⟩:=ad;obtain ⟨us,ab,ae,GL,aF⟩:=aP _ _ _ a1;have ae:cs.toList.length=us.length:=by rw [ae];exact GL
 refine ⟨.agg us,rfl,.agg us cs (by simpa using ae) (fun u hu=>?_) (fun v ad=>?_) fun j u v hu ad=>?_,us,rfl,ab⟩
 ·obtain ⟨j,aw⟩:=sW.1 hu;have aR:j<cs.toList.length:=by rw [ae];exact (sa.1 aw).1
  exact (aF j u _ aw (si aR)).1
 ·obtain ⟨j,aw⟩:=sW.1 ad;have aR:j<us.length:=by rw [←ae];exact (sa.1 aw).1
  exact (aF j _ v (si aR) aw).2.1
 ·exact (aF j u v hu (by show cs.toList[j]?=some v;simpa using ad)).2.2
theorem aaY {t e:TypeId} {bb:Nat} {Q:List I→Prop} (ax:P.underlying t=some (.slice e)) (ak:P.cellsOf e=bb) (aQ:0<bb) (aP:I3 enc P w e bb Q) :
  JI enc P w t fun u=>∃ L:List (List I),u=.av L.flatten L.length .shared∧L.length≤maxLen∧∀ us∈L,Q us:=by
 intro fuel v x h;rcases Deep.open_slice ax h with ⟨ad,_⟩ | ⟨a,len,cap,m,n,D,P_,ad,_,ao,hm,pQ,_,aj⟩
 ·injection ad with ad _;subst ad;exact ⟨_,rfl,rfl,.b3 _ _,[],rfl,sE _,by simp⟩
 ·injection ad with ad _;subst ad;have pQ:m=cap:=pQ;by_cases CL:cap=0
  ·(subst CL;obtain rfl:len=0:=by omega);exact ⟨_,rfl,rfl,.b3 _ _,[],rfl,sE _,by simp⟩
  ·have each:∀ i,i<len→∃ q:List I×List Value,Q q.1∧q.1.length=bb∧q.2.length=bb∧w.cells? 0 (a.add (i*bb)) bb=some q.2∧∀ (j:Nat) (u:I) (v:Value),q.1[j]?=some u→q.2[j]?=some v→u.plain=true∧v.oneCell'=true∧Rel [] (S0 w) w u v:=fun i hi=>by
    obtain ⟨c_,ab,ae⟩:=aj i (by omega);rw [ak] at ab;obtain ⟨us,bm,cw,e2,lQ⟩:=aP _ _ _ ae;exact ⟨(us,c_),bm,cw,e2,ab,lQ⟩
   obtain ⟨q0,_,_,OL,_⟩:∃ q:List Value,True∧True∧w.cells? 0 (a.add (0*bb)) bb=some q∧True:=by
    obtain ⟨c_,ab,_⟩:=aj 0 (by omega);rw [ak] at ab;exact ⟨c_,trivial,trivial,ab,trivial⟩
   obtain ⟨b,o,sp⟩:=a;have ah:sp=none:=by
    obtain ⟨_,hlen,bz⟩:=World.cells?_some OL;have:=bz 0 aQ;rw [si (by omega)] at this;simpa [Addr.add] using World.cell?_spot this
   subst ah;obtain ⟨U,Ht⟩:=Deep.choose_lt (α:=List I×List Value) (n:=len) (p:=fun i q=>Q q.1∧q.1.length=bb∧q.2.length=bb∧w.cells? 0 (Addr.add ⟨b,o,none⟩ (i*bb)) bb=some q.2∧∀ (j:Nat) (u:I) (v:Value),q.1[j]?=some u→q.2[j]?=some v→u.plain=true∧v.oneCell'=true∧Rel [] (S0 w) w u v) each;have abV:∀ i,i<len→(U i).1.length=bb:=fun i hi=>(Ht i hi).2.1;have c1:∀ l∈((List.range len).map fun i=>(U i).1),l.length=bb:=fun l c'=>by
    obtain ⟨i,hi,rfl⟩:=sC.1 c';exact abV i (sH.1 hi)
   let V:Nat→Value:=fun j=>((U (j / bb)).2)[j % bb]!
   have key:∀ (j:Nat) (u:I),(((List.range len).map fun i=>(U i).1).flatten)[j]?=some u→w.cell? ⟨b,o+j,none⟩=some (V j)∧u.plain=true∧(V j).oneCell'=true∧Rel [] (S0 w) w u (V j):=fun j u aw=>by
    obtain ⟨l,cf,ca⟩:=Uh c1 aQ aw;(have hi:j / bb<len:=by have:=(sa.1 cf).1;simpa using this);simp [hi] at cf;subst cf;obtain ⟨a7,B8,a9,bt,b6⟩:=Ht _ hi;have Kv:j % bb<bb:=Nat.mod_lt _ aQ;have ad:(U (j / bb)).2[j % bb]?=some (V j):=by
     show _=some ((U (j / bb)).2[j % bb]!);rw [si (by omega),getElem!_pos _ _ (by omega)]
    obtain ⟨_,_,bz⟩:=World.cells?_some bt;have J7:=bz (j % bb) Kv;rw [ad] at J7;have e:(Addr.add (Addr.add ⟨b,o,none⟩ (j / bb*bb)) (j % bb))=⟨b,o+j,none⟩:=by
     simp only [add_lit];congr 1;have:=Nat.div_add_mod' j bb;omega
    rw [e] at J7;exact ⟨J7,b6 _ _ _ ca ad⟩
   refine ⟨.av ((List.range len).map fun i=>(U i).1).flatten len .shared,rfl,rfl,.av _ _ _ b o cap V (by simp) ao (by simp) (fun j u aw=>?_) (fun j u aw=>?_),(List.range len).map fun i=>(U i).1,by simp,by simp;omega,fun us hu=>?_⟩
   ·obtain ⟨aJ,aN,cb,_⟩:=key j u aw;exact ⟨⟨_,aJ⟩,aJ,aN,cb⟩
   ·exact (key j u aw).2.2.2
   ·obtain ⟨j,aw,rfl⟩:=sC.1 hu;exact (Ht j (sH.1 aw)).1
end
section
variable {H:Type} {enc:TypeId×Value→H} {w:World} {base:Nat}
def KX:I→Prop:=fun u=>∃ x,u=h0 x∧II x
theorem Ow:JI enc Tryz.prog w 2 KX:=fun n v y h=>by
 obtain ⟨u,a,b,c,x,rfl,d⟩:=T6 (P:=Tryz.prog) Tryz.underlying2 n v y h;exact ⟨_,a,b,c,x,rfl,wf_i64 d⟩
theorem V3 {us:List I} (h:P8 [KX,KX] us):∃ p:Int×Int,us=p7 p∧II p.1∧II p.2:=by
 obtain ⟨ao,h⟩:=h
 match us,ao with
 | [a,b],_ =>
   obtain ⟨x,rfl,aj⟩:=h 0 _ _ rfl rfl;obtain ⟨y,rfl,aY⟩:=h 1 _ _ rfl rfl;exact ⟨(x,y),rfl,aj,aY⟩
def SX (us:List I):Prop:=∃ p:Int×Int,us=p7 p∧II p.1∧II p.2
theorem I3.mono {P:Program} {t:TypeId} {n:Nat} {Q R:List I→Prop} (h:I3 enc P w t n Q) (k:∀ us,Q us→R us):I3 enc P w t n R:=fun fuel cs y aY=>by
 obtain ⟨us,ab,ae⟩:=h fuel cs y aY;exact ⟨us,k us ab,ae⟩
theorem abC : Oi enc Tryz.prog w #[{ name := "Pull", type := 2, offset := 0, embedded := false, tag := "", pkgPath := "", byteOffset := 0 }, { name := "More", type := 2, offset := 1, embedded := false, tag := "", pkgPath := "", byteOffset := 8 }] [KX, KX] := ⟨rfl, fun i f q aP a_ => by
 match i with
 | 0=>simp at aP a_;subst aP;subst a_;exact ⟨rfl,by kernel_rfl,Ow⟩
 | 1=>simp at aP a_;subst aP;subst a_;exact ⟨rfl,by kernel_rfl,Ow⟩
 | i+2=>simp at a_⟩
theorem abB : Oi enc Tryz.prog w #[{ name := "Lo", type := 2, offset := 0, embedded := false, tag := "", pkgPath := "", byteOffset := 0 }, { name := "Hi", type := 2, offset := 1, embedded := false, tag := "", pkgPath := "", byteOffset := 8 }] [KX, KX] := ⟨rfl, fun i f q aP a_ => by
 match i with
 | 0=>simp at aP a_;subst aP;subst a_;exact ⟨rfl,by kernel_rfl,Ow⟩
 | 1=>simp at aP a_;subst aP;subst a_;exact ⟨rfl,by kernel_rfl,Ow⟩
 | i+2=>simp at a_⟩
theorem aa3:I3 enc Tryz.prog w 54 2 SX:=(T7 Tryz.underlying54 (by kernel_rfl) abC).mono fun _ h=>V3 h
theorem aa1:I3 enc Tryz.prog w 24 2 SX:=(T7 Tryz.underlying24 (by kernel_rfl) abB).mono fun _ h=>V3 h
def SU (bq:List (Int×Int)):Prop:=bq.length≤9223372036854775807∧∀ p∈bq,II p.1∧II p.2
abbrev SW (bq:List (Int×Int)):I:=.av (bq.flatMap p7) bq.length .shared
theorem aaZ:JI enc Tryz.prog w 22 fun u=>∃ bq,u=SW bq∧SU bq:=fun n v y h=>by
 obtain ⟨u,a,b,c,L,rfl,ao,fq⟩:=aaY Tryz.underlying22 (by kernel_rfl) (by decide) aa3 n v y h;obtain ⟨bq,rfl,aB⟩:=VG (f:=p7) (R:=fun p:Int×Int=>II p.1∧II p.2) fun us hu=>by
  obtain ⟨p,e,ab,ae⟩:=fq us hu;exact ⟨p,e,ab,ae⟩
 refine ⟨_,a,b,c,bq,?_,by have:=VH ao;simpa using this,aB⟩;simp [SW,List.flatMap_def]
structure ZA (p:(List (Int×Int))×(Int×Int)):Prop where
 s:SU p.1
 lo:II p.2.1
 hi:II p.2.2
theorem aez (fuel:Nat) (cs:List Value) (y:DataW H×List MemPlace) (h:DataW.trod enc Tryz.prog w 0 (fun _=>true) true fuel 22 cs=some y):cs.length=1:=by
 rcases Deep.open_slice Tryz.underlying22 h with ⟨ad,_⟩ | ⟨a,len,cap,m,n,D,P_,ad,_⟩
 ·rw [ad];rfl
 ·rw [ad];rfl
theorem TY:Arg enc Tryz.prog w base 26 fun u=>∃ p:(List (Int×Int))×(Int×Int),u=.agg [.av (p.1.flatMap p7) p.1.length .shared,h0 p.2.1,h0 p.2.2]∧ZA p:=by
 intro v d p ad a1;obtain ⟨u,a,b,us,rfl,x,y,rfl,⟨fA,rfl,bq,rfl,kR⟩,⟨abq,rfl,ab,ae⟩⟩:=aay (P:=Tryz.prog) (enc:=enc) (w:=w) (base:=base) Tryz.underlying26 (aa4 Tryz.underlying26 (by kernel_rfl) rfl rfl (by kernel_rfl) (by kernel_rfl) (aa2 aaZ aez) aa1) v d p ad a1;exact ⟨_,a,b,(bq,abq),rfl,kR,ab,ae⟩
theorem TZ:Arg enc Tryz.prog w base 44 fun u=>∃ l,u=M7 l∧SV l:=aaA Tryz.underlying44 (aaW Tryz.underlying44 (by kernel_rfl) Tryz.underlying5)
theorem Oo:Arg enc Tryz.prog w base 5 fun u=>∃ x,u=.int .u8 x∧0≤x∧x≤255:=fun v d p ad a1=>by
 obtain ⟨u,a,b,x,rfl,h⟩:=aaz (P:=Tryz.prog) (enc:=enc) (w:=w) (base:=base) Tryz.underlying5 v d p ad a1;exact ⟨_,a,b,x,rfl,wf_u8 h⟩
end
end Go.Proofs.YtkoioidpbbbaiaaGreat.Ab


namespace Go.Proofs.YtkoioidpbbbaiaaGreat.Ab
open Go
set_option maxRecDepth 20000
set_option maxHeartbeats 4000000
noncomputable def Zt:gE :=
 p2 [qf 4 0] (p2 [p1 5 1,p1 6 0,p0 7 [.Bs 6] .z4,qv 8 7 0,qv 9 8 0,qh 10 9,qW 11 10,qy 12 11 2 .quo,qn 13 5 12 .sub,p1 4 13] .ret)
theorem aeb:qo Tryz.prog TM 77=some (Zt,14,[.tmp 4]):=by kernel_rfl
def Kk (b:((qg×(Int×Int))×Unit)) (Ka:Int):Option Int :=
 qk ((2:Int)≠0) <|
 some (w (Ka-(w ((b.1.1.length:Int).tdiv (2:Int)))))
theorem KU {b:((qg×(Int×Int))×Unit)} {Ka:Int} {v:Int} (h:Kk b Ka=some v):qw 77 [(.bS [(.av (b.1.1.flatMap p7) b.1.1.length .shared),(h0 b.1.2.1),(h0 b.1.2.2),Hk]),(h0 Ka)] (h0 v):=by
 refine qL eG aeb rfl rfl fun Q bp=>?_;have jJ:qI [.tmp 4] Q (fun v=>(h0 v)) v:=fun T H bE=>bp _ T H bE;unfold Kk at h;unfold Zt;conv=>whnf
 refine qP h id fun gM h=>?_;conv=>whnf
 exact p_ h jJ rfl rfl

noncomputable def PN:gE :=
 .loop (some (p' false [0,2,5,2,10])) (p2 [p0 9 [.nc 8,.nc 7] (.bin .lss)] (.seq (.cond (.nc 9) .skip (.exit 0)) (.seq (.block 1 (p2 [p3 10 8,p1 5 10] (p2 [p3 11 1,p3 12 0,p3 13 5,re 14 12 13 1,qh 15 14,qn 16 11 15 .eql] (.cond (.nc 16) (p2 [p1 17 5,p1 4 17] .ret) .skip)))) (qO [qV 18 8 1,p1 8 18]))))
noncomputable def YU:gE :=
 p2 [qf 4 0] (.seq (p2 [p3 6 0,qW 7 6,qf 8 0] (.block 0 PN)) (p2 [qf 4 (-1)] .ret))
theorem adC:qo Tryz.prog Qc 109=some (YU,19,[.tmp 4]):=by kernel_rfl
def KG (s:p9) (Ib:Int) (qa:Unit→Option Int):Nat→Int→Option Int
 | 0,_=>none
 | m+1,s1 =>
   if (decide (s1<(s.length:Int)))=true then
    qk (0≤s1∧s1<(s.length:Int)) <|
    if (decide (Ib=(ix s s1)))=true then
     some s1
    else
     KG s Ib qa m (w (s1+(1:Int)))
   else
    qa ()
def Pv (s:p9) (Ib:Int):Option Int :=
 KG s Ib (fun _ =>
   some (-1:Int)) qj (0:Int)
theorem ag9 {s:p9} {Ib:Int} {qa:Unit→Option Int} {s1:Int} {v:Int} {Q:Hm}   (jJ:qI [.tmp 4] Q (fun v=>(h0 v)) v) (ri:∀ (qd:List I),qa ()=some v→rv 19 [] qd→Q (.exit 0) qd []) {T:List I} (b0:eZ (p' false [0,2,5,2,10]) T=qc 19 [(0,(qR s .shared)),(1,(h0 Ib)),(7,(h0 (s.length:Int))),(8,(h0 s1))]) (h:KG s Ib qa qj s1=some v) :
  dQ Tryz.prog Qc 109 0 none PN T [] Q:=by
 unfold PN;refine wp_loop b0 ?_;refine .intro (fun m T H=>∃ (s1:Int),T=qc 19 [(0,(qR s .shared)),(1,(h0 Ib)),(7,(h0 (s.length:Int))),(8,(h0 s1))]∧H=[]∧KG s Ib qa m s1=some v) qj ⟨s1,rfl,rfl,h⟩ ?_;clear h b0;rintro m T H ⟨s1,rfl,rfl,h⟩;cases m
 ·exact r0 h
 rename_i m;rw [KG.eq_2] at h;conv=>whnf
 refine bs h (fun gM h=>?_) fun gM h=>?_
 ·rw [gM];conv=>whnf
  refine qP h id fun gN h=>?_;rw [ru h0 s s1 gN];conv=>whnf
  refine bs h (fun qs h=>?_) fun qs h=>?_
  ·rw [qs];(conv=>whnf);exact p_ h jJ rfl rfl
  ·rw [qs];(conv=>whnf);exact ⟨m,sD m,(w (s1+(1:Int))),rfl,rfl,h⟩
 ·rw [gM];conv=>whnf
  exact ri  _ h ⟨rfl,rfl⟩
theorem ag_ {s:p9} {Ib:Int} {v:Int} (h:Pv s Ib=some v):qw 109 [(.av (s.map h0) s.length .shared),(h0 Ib)] (h0 v):=by
 refine qL eG adC rfl rfl fun Q bp=>?_;have jJ:qI [.tmp 4] Q (fun v=>(h0 v)) v:=fun T H bE=>bp _ T H bE;unfold Pv at h;unfold YU;obtain ⟨HD,qE⟩:∃ c,PN=c:=⟨_,rfl⟩;rw [qE];conv=>whnf
 subst qE;refine ag9 ?_ ?_ (by exact rfl) h
 ·exact fun T H bE=>jJ T H bE
 ·intro  qd h qz;obtain ⟨rB,rfl⟩:=qz.ex;conv=>whnf
  exact p_ h jJ rfl rfl

noncomputable def YS:gE :=
 p2 [p0 4 [.cv (.bool false)] .mU] (p2 [p1 5 0,p1 6 1,p0 7 [.cv (.func 109 [] []),.nc 5,.nc 6] (.call 3),qy 8 7 0 .geq,p1 4 8] .ret)
theorem adA:qo Tryz.prog S_ 100=some (YS,9,[.tmp 4]):=by kernel_rfl
def NZ (s:p9) (Ib:Int):Option Bool :=
 (Pv s Ib).bind fun aS =>
 some (decide ((0:Int)≤aS))
theorem ag6 {s:p9} {Ib:Int} {v:Bool} (h:NZ s Ib=some v):qw 100 [(.av (s.map h0) s.length .shared),(h0 Ib)] (B v):=by
 refine qL eG adA rfl rfl fun Q bp=>?_;have jJ:qI [.tmp 4] Q (fun v=>(B v)) v:=fun T H bE=>bp _ T H bE;unfold NZ at h;unfold YS;conv=>whnf
 obtain ⟨aS,gM,h⟩:=p8 h;refine ⟨qi.pl,_,ag_ gM,?_⟩;conv=>whnf
 exact p_ h jJ rfl rfl

noncomputable def SJ:gE :=
 .ov true [p0 47 [.nc 9] (.yM 1),qh 48 47,p3 49 0,p1 50 10,p0 51 [.cv (.func 77 [] []),.nc 49,.nc 50] (.call 3),qv 52 12 1,qh 53 52,qn 54 51 53 .mul,qn 55 48 54 .add,p0 56 [.nc 9] (.yM 1),⟨none,[.jq 56,.jq 55],none,none,.st 1⟩]
noncomputable def SR:gE :=
 .seq (ra [p0 37 [.nc 9] (.yM 0),qh 38 37,p3 39 0,p3 40 10,p0 41 [.cv (.func 77 [] []),.nc 39,.nc 40] (.call 3),p0 42 [.nc 12] (.yM 0),qh 43 42,qn 44 41 43 .mul,qn 45 38 44 .add,p0 46 [.nc 9] (.yM 0),⟨none,[.jq 46,.jq 45],none,none,.st 1⟩]) SJ
noncomputable def SQ:gE :=
 .seq (p2 [p3 20 10,qy 21 20 2 .rem,p3 22 2,qn 23 21 22 .neq,p1 24 23,cl 25 [.nc 3] 24 false .mU,cl 26 [.nc 10] 24 false .mU,⟨some 27,[.cv (.func 100 [] []),.nc 25,.nc 26],some (24,false),none,.call 3⟩,p0 28 [.Bs 24,.cv (.bool true),.Bs 27] .pick] (.cond (.nc 28) (.exit 1) .skip)) (p2 [p3 29 0,p0 30 [.Bs 29] .z4,qv 31 30 0,qv 32 31 0,qh 33 32,p1 34 11,re 35 33 34 2,p0 36 [.Bs 35] (.zE (.str 2)),p0 12 [] (.alloc [.int .i64 0,.int .i64 0]),⟨none,[.nc 12,.jq 36],none,none,.st 2⟩] SR)
noncomputable def Oh:gE :=
 .ov false [qV 57 15 1,p1 15 57]
noncomputable def SP:gE :=
 .seq (.block 1 (p2 [p3 17 15,p0 18 [.nc 13,.nc 15] (.kY 1),qh 19 18,p1 10 17,p1 11 19] SQ)) Oh
noncomputable def SN:gE :=
 .seq (.cond (.nc 16) .skip (.exit 0)) SP
noncomputable def P5:gE :=
 .loop (some (p' false [0,1,1,2,4,2,3,3,43])) (p2 [p0 16 [.nc 15,.nc 14] (.bin .lss)] SN)
noncomputable def SM:gE :=
 .block 0 P5
noncomputable def SL:gE :=
 p2 [p0 58 [.Bs 9] (.zE (.str 2)),⟨none,[.nc 8,.jq 58],none,none,.st 2⟩] .ret
noncomputable def SK:gE :=
 .seq (p2 [p1 13 1,p0 14 [.nc 13] .zJ,qf 15 0] SM) SL
noncomputable def SI:gE :=
 p2 [p0 9 [] (.alloc [.int .i64 0,.int .i64 0])] SK
noncomputable def Zu:gE :=
 p2 [p0 8 [] (.alloc [.int .i64 0,.int .i64 0])] SI
theorem aec:qo Tryz.prog Qp 80=some (Zu,59,[.cell 8 (.str 2)]):=by kernel_rfl
def Kl (b:((qg×(Int×Int))×Unit)) (order:p9) (qm:Int) (without:p9) (qa:Int→Int→Option (Int×Int)):Nat→Int→Int→Int→Option (Int×Int)
 | 0,_,_,_=>none
 | m+1,s1,s2,dk =>
   if (decide (s1<(order.length:Int)))=true then
    qk (0≤s1∧s1<(order.length:Int)) <|
    qk ((2:Int)≠0) <|
    if (decide ((s1.tmod (2:Int))≠qm))=true then
     Kl b order qm without qa m (w (s1+(1:Int))) s2 dk
    else
     (NZ without s1).bind fun aS =>
     if aS=true then
      Kl b order qm without qa m (w (s1+(1:Int))) s2 dk
     else
      qk (0≤(ix order s1)∧(ix order s1)<(b.1.1.length:Int)) <|
      (Kk (b.1,()) s1).bind fun bj =>
      (Kk (b.1,()) s1).bind fun eK =>
      Kl b order qm without qa m (w (s1+(1:Int))) (w (s2+(w (bj*(ix b.1.1 (ix order s1)).1)))) (w (dk+(w (eK*(ix b.1.1 (ix order s1)).2))))
   else
    qa s2 dk
def LZ (b:((qg×(Int×Int))×Unit)) (order:p9) (qm:Int) (without:p9):Option (Int×Int) :=
 Kl b order qm without (fun yn oT =>
   some (yn,oT)) qj (0:Int) (0:Int) (0:Int)
theorem ahY {b:((qg×(Int×Int))×Unit)} {order:p9} {qm:Int} {without:p9} {qa:Int→Int→Option (Int×Int)} {s1:Int} {s2:Int} {dk:Int} {v:(Int×Int)} {Q:Hm}   (ri:∀ (yn oT:Int) (Kp:List ar) (qd:List I),qa yn oT=some v→rv 59 [(8,(.ptr 0 0)),(9,(.ptr 1 0))] qd→Q (.exit 0) qd (ar.cells [(h0 (0:Int)),(h0 (0:Int))]::ar.cells [(h0 yn),(h0 oT)]::Kp)) {T:List I} (b0:eZ (p' false [0,1,1,2,4,2,3,3,43]) T=qc 59 [(0,(.bS [(q2 b.1.1 .shared),(h0 b.1.2.1),(h0 b.1.2.2),Hk])),(2,(h0 qm)),(3,(qR without .shared)),(8,(.ptr 0 0)),(9,(.ptr 1 0)),(13,(qR order .shared)),(14,(h0 (order.length:Int))),(15,(h0 s1))]) (h:Kl b order qm without qa qj s1 s2 dk=some v) :
  dQ Tryz.prog Qp 80 0 none P5 T [ar.cells [(h0 (0:Int)),(h0 (0:Int))],ar.cells [(h0 s2),(h0 dk)]] Q:=by
 unfold P5;obtain ⟨ais,Uz⟩:∃ c,SN=c:=⟨_,rfl⟩;rw [Uz];refine wp_loop b0 ?_;refine .intro (fun m T H=>∃ (s1 s2 dk:Int) (S3:List ar),T=qc 59 [(0,(.bS [(q2 b.1.1 .shared),(h0 b.1.2.1),(h0 b.1.2.2),Hk])),(2,(h0 qm)),(3,(qR without .shared)),(8,(.ptr 0 0)),(9,(.ptr 1 0)),(13,(qR order .shared)),(14,(h0 (order.length:Int))),(15,(h0 s1))]∧H=(ar.cells [(h0 (0:Int)),(h0 (0:Int))]::ar.cells [(h0 s2),(h0 dk)]::S3)∧Kl b order qm without qa m s1 s2 dk=some v) qj ⟨s1,s2,dk,[],rfl,rfl,h⟩ ?_;clear h b0;rintro m T H ⟨s1,s2,dk,S3,rfl,rfl,h⟩;cases m
 ·exact r0 h
 rename_i m;rw [Kl.eq_2] at h;conv=>whnf
 subst Uz;unfold SN;obtain ⟨ait,UA⟩:∃ c,SP=c:=⟨_,rfl⟩;rw [UA];conv=>whnf
 refine bs h (fun gM h=>?_) fun gM h=>?_
 ·rw [gM];conv=>whnf
  subst UA;unfold SP;obtain ⟨aiu,OH⟩:∃ c,Oh=c:=⟨_,rfl⟩;rw [OH];obtain ⟨aiv,UB⟩:∃ c,SQ=c:=⟨_,rfl⟩;rw [UB];conv=>whnf
  refine qP h id fun gN h=>?_;rw [ru h0 order s1 gN];conv=>whnf
  subst UB;unfold SQ;obtain ⟨aiw,UC⟩:∃ c,SR=c:=⟨_,rfl⟩;rw [UC];conv=>whnf
  refine qP h id fun qs h=>?_;conv=>whnf
  refine bs h (fun qK h=>?_) fun qK h=>?_
  ·rw [qK];(conv=>whnf);subst OH;unfold Oh;(conv=>whnf);exact ⟨m,sD m,(w (s1+(1:Int))),s2,dk,_,rfl,rfl,h⟩
  ·rw [qK];(conv=>whnf);obtain ⟨aS,qY,h⟩:=p8 h;refine ⟨qi.pl,_,ag6 qY,?_⟩;(conv=>whnf);cases aS
   ·(conv=>whnf);replace h:=rW rfl h;refine qP h id fun rn h=>?_;rw [HW p7 2 Jd b.1.1 (ix order s1) rn];(conv=>whnf);refine Ew (x:=ar.cells [(h0 (0:Int)),(h0 (0:Int))]) (by first | exact qX.h | rfl | (simp [sq,I.settle];done)) ?_
    (conv=>whnf);rw [HT];subst UC;unfold SR;obtain ⟨aip,Uw⟩:∃ c,SJ=c:=⟨_,rfl⟩;rw [Uw];(conv=>whnf);obtain ⟨bj,qS,h⟩:=p8 h;refine ⟨qi.pl,_,KU qS,Hg,?_⟩;(conv=>whnf);refine Ew (x:=ar.cells [(h0 (ix b.1.1 (ix order s1)).1),(h0 (ix b.1.1 (ix order s1)).2)]) (by first | exact qX.h | rfl | (simp [sq,I.settle];done)) ?_
    (conv=>whnf);subst Uw;unfold SJ;(conv=>whnf);obtain ⟨eK,ry,h⟩:=p8 h;refine ⟨qi.pl,_,KU ry,Hg,?_⟩;(conv=>whnf);refine Ew (x:=ar.cells [(h0 (ix b.1.1 (ix order s1)).1),(h0 (ix b.1.1 (ix order s1)).2)]) (by first | exact qX.h | rfl | (simp [sq,I.settle];done)) ?_
    (conv=>whnf);subst OH;unfold Oh;(conv=>whnf);exact ⟨m,sD m,(w (s1+(1:Int))),(w (s2+(w (bj*(ix b.1.1 (ix order s1)).1)))),(w (dk+(w (eK*(ix b.1.1 (ix order s1)).2)))),_,rfl,rfl,h⟩
   ·(conv=>whnf);replace h:=rV rfl h;subst OH;unfold Oh;(conv=>whnf);exact ⟨m,sD m,(w (s1+(1:Int))),s2,dk,_,rfl,rfl,h⟩
 ·rw [gM];conv=>whnf
  exact ri _ _ _ _ h ⟨rfl,rfl⟩
theorem PK {b:((qg×(Int×Int))×Unit)} {order:p9} {qm:Int} {without:p9} {v:(Int×Int)} (h:LZ b order qm without=some v):qw 80 [(.bS [(.av (b.1.1.flatMap p7) b.1.1.length .shared),(h0 b.1.2.1),(h0 b.1.2.2),Hk]),(.av (order.map h0) order.length .shared),(h0 qm),(.av (without.map h0) without.length .shared)] (.agg [(h0 v.1),(h0 v.2)]):=by
 refine qL eG aec rfl (H0 (p6 rfl (p6 rfl rfl))) fun Q bp=>?_;have jJ:qI [.cell 8 (.str 2)] Q (fun v=>(.agg [(h0 v.1),(h0 v.2)])) v:=fun T H bE=>bp _ T H bE;unfold LZ at h;unfold Zu;obtain ⟨HD,qE⟩:∃ c,SI=c:=⟨_,rfl⟩;rw [qE];conv=>whnf
 subst qE;unfold SI;obtain ⟨K2,rX⟩:∃ c,SK=c:=⟨_,rfl⟩;rw [rX];conv=>whnf
 subst rX;unfold SK;obtain ⟨aaK,Nc⟩:∃ c,SL=c:=⟨_,rfl⟩;rw [Nc];obtain ⟨air,Uy⟩:∃ c,SM=c:=⟨_,rfl⟩;rw [Uy];conv=>whnf
 subst Uy;unfold SM;obtain ⟨aiq,Ux⟩:∃ c,P5=c:=⟨_,rfl⟩;rw [Ux];conv=>whnf
 subst Ux;refine ahY ?_ (by exact rfl) h;intro yn oT Kp qd h qz;obtain ⟨rB,rfl⟩:=qz.ex;conv=>whnf
 subst Nc;unfold SL;conv=>whnf
 exact p_ h jJ rfl rfl
end Go.Proofs.YtkoioidpbbbaiaaGreat.Ab


namespace Go.Proofs.YtkoioidpbbbaiaaGreat.Ab
open Go
noncomputable def afs:gE :=
 .ov false [p1 18 8,p0 19 [.nc 9] (.yM 0),qh 20 19,qv 21 9 1,qh 22 21,p3 23 2,qn 24 22 23 .mul,qn 25 20 24 .add,p0 26 [.nc 7,.Bs 18] (.zu 2 1),⟨none,[.jq 26,.jq 25],none,none,.st 1⟩]
noncomputable def aft:gE :=
 p2 [p3 14 0,p3 15 1,p3 16 8,p0 17 [.cv (.func 80 [] []),.nc 14,.nc 15,.nc 16,.cv (.av [] 0 .full)] (.call 3),p0 9 [] (.alloc [.int .i64 0,.int .i64 0]),⟨none,[.nc 9,.jq 17],none,none,.st 2⟩] afs
noncomputable def afu:gE :=
 .block 1 (p2 [p3 13 11,p1 8 13] aft)
noncomputable def afv:gE :=
 .seq (p2 [qf 11 0] (.block 0 (.loop (some (p' false [0,3,3,2,3,1,17])) (p2 [p0 12 [.nc 11,.cv (.int .i64 2)] (.bin .lss)] (.seq (.cond (.nc 12) .skip (.exit 0)) (.seq afu (qO [qV 27 11 1,p1 11 27]))))))) (p2 [p0 28 [.Bs 7] (.zE (.arr 2)),⟨none,[.nc 6,.jq 28],none,none,.st 2⟩] .ret)
noncomputable def WY:gE :=
 p2 [p0 6 [] (.alloc [.int .i64 0, .int .i64 0])] (p2 [p0 7 [] (.alloc [.int .i64 0, .int .i64 0])] (p2 [p0 10 [.nc 7] (.other (Oper.mk (some 10) (Op.slice 96 (Operand.tmp 7) none none none) 104 "press.go:44" (Array.mk []) none) 0), ⟨none, [.jq 10], none, none, .other (Oper.mk none (Op.call (Call.mk (Callee.builtin Builtin.clear) (Array.mk [Operand.tmp 10]) (Array.mk [104]))) 0 "press.go:44" (Array.mk [Edge.mk 0 Ground.data]) none) 0⟩] afv))
theorem adg:qo Go.Proofs.Tryz.prog TG 63=some (WY,29,[.cell 6 (.arr 2)]):=by kernel_rfl
noncomputable def afd:gE :=
 .ov false [p1 35 5,p3 36 9,p1 37 9,p0 38 [.Bs 37] (.un .neg),p0 39 [.jq 35,.jq 36,.jq 38] .max,p1 5 39]
noncomputable def afe:gE :=
 .block 3 (p2 [p0 34 [.nc 31, .nc 32] (.other (Oper.mk (some 34) (Op.index 96 (Operand.tmp 31) (Operand.tmp 32)) 2 "press.go:56" (Array.mk []) none) 0), p1 9 34] afd)
noncomputable def aff:gE :=
 p2 [p3 28 0,p3 29 1,p1 30 7,p0 31 [.cv (.func 63 [] []),.nc 28,.nc 29,.nc 30] (.call 3),qf 32 0] (.block 2 (.loop (some (p' false [0,2,3,1,16,3,6,2,10])) (p2 [p0 33 [.nc 32,.cv (.int .i64 2)] (.bin .lss)] (.seq (.cond (.nc 33) .skip (.exit 2)) (.seq afe (qO [qV 40 32 1,p1 32 40]))))))
noncomputable def afg:gE :=
 .block 1 (p2 [p0 26 [.nc 22,.nc 24] (.kY 1),qh 27 26,p1 7 27] aff)
noncomputable def afh:gE :=
 .seq (.seq (ra [p3 10 0,p0 11 [.Bs 10] .z4,qv 12 11 0,qv 13 12 1,qv 14 13 0,qh 15 14,p3 16 0,p0 17 [.Bs 16] .z4,qv 18 17 0,qv 19 18 1,qv 20 19 1,qh 21 20,p0 22 [.Bs 15,.Bs 21] (.yB 2 1 [.int .i64 0] [0,1]),p0 23 [.nc 22] .zJ,qf 24 0]) (.block 0 (.loop (some (p' false [0,2,3,1,16,3,18])) (p2 [p0 25 [.nc 24,.nc 23] (.bin .lss)] (.seq (.cond (.nc 25) .skip (.exit 0)) (.seq afg (qO [qV 41 24 1,p1 24 41]))))))) (p2 [p1 42 5,p1 4 42] .ret)
noncomputable def WJ:gE :=
 p2 [qf 4 0] (p2 [qf 5 0] afh)
theorem ac9:qo Go.Proofs.Tryz.prog Tv 41=some (WJ,43,[.tmp 4]):=by kernel_rfl
end Go.Proofs.YtkoioidpbbbaiaaGreat.Ab


namespace Go.Proofs.YtkoioidpbbbaiaaGreat.Ab
open Go
theorem abE {H:List ar} {id d:Nat} {l r:List I} (h:H[id]?=some (.cells l)) (hm:ea (bM H 0 H.length 0 d) (l.map I.view)=some r):bM H 0 H.length 0 (d+1) (.ptr id 0)=some (.bS r):=by
 have ab:=(sa.1 h).1;simp only [bM,Nat.not_lt_zero,if_false,h,tq,hm,se];rw [if_neg (by omega)]
theorem Uo {H:List ar} {lo id0 n d id:Nat} (h:¬ id<lo) (aX:id≠id0):bM H lo id0 n (d+1) (.map id)=some .a0:=by
 simp only [bM,if_neg h,if_neg aX]
end Go.Proofs.YtkoioidpbbbaiaaGreat.Ab


namespace Go.Proofs.YtkoioidpbbbaiaaGreat.Ab
open Go
set_option maxRecDepth 20000
set_option maxHeartbeats 4000000
def LV (b:((List (Int×Int))×(Int×Int))×Unit) (order:List Int) (rj:Int):Option (Int×Int) :=
 (LZ b order 0 []).bind fun s=>(LZ b order 1 []).bind fun t=>some (w (s.1+w (s.2*rj)),w (t.1+w (t.2*rj)))
abbrev lp (b:((List (Int×Int))×(Int×Int))×Unit):I:=.bS [.av (b.1.1.flatMap p7) b.1.1.length .shared,h0 b.1.2.1,h0 b.1.2.2,Hk]
theorem SD {b:((List (Int×Int))×(Int×Int))×Unit} {order:List Int} {rj:Int} {v:Int×Int} (h:LV b order rj=some v):qw 63 [lp b,.av (order.map h0) order.length .shared,h0 rj] (.agg [h0 v.1,h0 v.2]):=by
 unfold LV at h;obtain ⟨s,ah,h⟩:=p8 h;obtain ⟨t,ax,h⟩:=p8 h;obtain rfl:=Option.some.inj h;refine qL eG adg rfl (H0 (p6 rfl (p6 rfl rfl))) fun Q bp=>?_;unfold WY;conv=>whnf
 refine ⟨_,_,fun C=>rfl,?_⟩;conv=>whnf
 refine ⟨_,_,fun C=>rfl,?_⟩;conv=>whnf
 refine .intro (fun m T H=>(m=2∧T=qc 29 [(0,lp b),(1,.av (order.map h0) order.length .shared),(2,h0 rj),(6,.ptr 0 0),(7,.ptr 1 0),(11,h0 0)]∧H=[.cells [h0 0,h0 0],.cells [h0 0,h0 0]]) ∨
  (m=1∧T=qc 29 [(0,lp b),(1,.av (order.map h0) order.length .shared),(2,h0 rj),(6,.ptr 0 0),(7,.ptr 1 0),(11,h0 1)]∧H=[.cells [h0 0,h0 0],.cells [h0 (w (s.1+w (s.2*rj))),h0 0],.cells [h0 s.1,h0 s.2]]) ∨
  (m=0∧T=qc 29 [(0,lp b),(1,.av (order.map h0) order.length .shared),(2,h0 rj),(6,.ptr 0 0),(7,.ptr 1 0),(11,h0 2)]∧H=[.cells [h0 0,h0 0],.cells [h0 (w (s.1+w (s.2*rj))),h0 (w (t.1+w (t.2*rj)))],.cells [h0 s.1,h0 s.2],.cells [h0 t.1,h0 t.2]])) 2 (.inl ⟨rfl,rfl,rfl⟩) ?_
 rintro m T H (⟨rfl,rfl,rfl⟩ | ⟨rfl,rfl,rfl⟩ | ⟨rfl,rfl,rfl⟩)
 ·conv=>whnf
  refine ⟨qi.pl,_,PK ah,?_⟩;conv=>whnf
  refine ⟨by decide,?_⟩;conv=>whnf
  exact ⟨1,by decide,.inr (.inl ⟨rfl,rfl,rfl⟩)⟩
 ·conv=>whnf
  refine ⟨qi.pl,_,PK ax,?_⟩;conv=>whnf
  refine ⟨by decide,?_⟩;conv=>whnf
  exact ⟨0,by decide,.inr (.inr ⟨rfl,rfl,rfl⟩)⟩
 ·conv=>whnf
  refine ⟨sc 2,?_⟩;conv=>whnf
  refine bp _ _ _ ?_;exact ⟨.inr rfl,[.agg [h0 (w (s.1+w (s.2*rj))),h0 (w (t.1+w (t.2*rj)))]],rfl,_,yW (H0 (p6 rfl (p6 rfl rfl))),rfl⟩
def Kj (b:((List (Int×Int))×(Int×Int))×Unit) (order:List Int):Option Int :=
 (LV b order b.1.2.1).bind fun s=>(LV b order b.1.2.2).bind fun t =>
  some (max (max (max (max (max (max (max (max 0 s.1) (w (-s.1))) s.2) (w (-s.2))) t.1) (w (-t.1))) t.2) (w (-t.2)))
theorem N5 {b:((List (Int×Int))×(Int×Int))×Unit} {order:List Int} {v:Int} (h:Kj b order=some v):qw 41 [lp b,.av (order.map h0) order.length .shared] (h0 v):=by
 unfold Kj at h;obtain ⟨s,ah,h⟩:=p8 h;obtain ⟨t,ax,h⟩:=p8 h;obtain rfl:=Option.some.inj h;refine qL eG ac9 rfl rfl fun Q bp=>?_;unfold WJ;conv=>whnf
 refine .intro (fun m T H=>(m=2∧T=qc 43 [(0,lp b),(1,.av (order.map h0) order.length .shared),(5,h0 0),(22,.av [h0 b.1.2.1,h0 b.1.2.2] 2 (.own 1)),(23,h0 2),(24,h0 0)]∧H=[])∨(m=1∧T=qc 43 [(0,lp b),(1,.av (order.map h0) order.length .shared),(5,h0 (max (max (max (max 0 s.1) (w (-s.1))) s.2) (w (-s.2)))),(22,.av [h0 b.1.2.1,h0 b.1.2.2] 2 (.own 1)),(23,h0 2),(24,h0 1)]∧H=[])∨(m=0∧T=qc 43 [(0,lp b),(1,.av (order.map h0) order.length .shared),(5,h0 (max (max (max (max (max (max (max (max 0 s.1) (w (-s.1))) s.2) (w (-s.2))) t.1) (w (-t.1))) t.2) (w (-t.2)))),(22,.av [h0 b.1.2.1,h0 b.1.2.2] 2 (.own 1)),(23,h0 2),(24,h0 2)]∧H=[])) 2 (.inl ⟨rfl,rfl,rfl⟩) ?_;rintro m T H (⟨rfl,rfl,rfl⟩ | ⟨rfl,rfl,rfl⟩ | ⟨rfl,rfl,rfl⟩)
 ·conv=>whnf
  refine ⟨by decide,?_⟩;conv=>whnf
  refine ⟨qi.pl,_,SD ah,?_⟩;conv=>whnf
  refine .intro (fun m T H=>(m=2∧T=qc 43 [(0,lp b),(1,.av (order.map h0) order.length .shared),(5,h0 0),(22,.av [h0 b.1.2.1,h0 b.1.2.2] 2 (.own 1)),(23,h0 2),(24,h0 0),(31,.agg [h0 s.1,h0 s.2]),(32,h0 0)]∧H=[])∨(m=1∧T=qc 43 [(0,lp b),(1,.av (order.map h0) order.length .shared),(5,h0 (max (max 0 s.1) (w (-s.1)))),(22,.av [h0 b.1.2.1,h0 b.1.2.2] 2 (.own 1)),(23,h0 2),(24,h0 0),(31,.agg [h0 s.1,h0 s.2]),(32,h0 1)]∧H=[])∨(m=0∧T=qc 43 [(0,lp b),(1,.av (order.map h0) order.length .shared),(5,h0 (max (max (max (max 0 s.1) (w (-s.1))) s.2) (w (-s.2)))),(22,.av [h0 b.1.2.1,h0 b.1.2.2] 2 (.own 1)),(23,h0 2),(24,h0 0),(31,.agg [h0 s.1,h0 s.2]),(32,h0 2)]∧H=[])) 2 (.inl ⟨rfl,rfl,rfl⟩) ?_;rintro m T H (⟨rfl,rfl,rfl⟩ | ⟨rfl,rfl,rfl⟩ | ⟨rfl,rfl,rfl⟩)
  ·(conv=>whnf);refine ⟨_,_,fun C=>rfl,?_⟩;(conv=>whnf);exact ⟨1,by decide,.inr (.inl ⟨rfl,rfl,rfl⟩)⟩
  ·(conv=>whnf);refine ⟨_,_,fun C=>rfl,?_⟩;(conv=>whnf);exact ⟨0,by decide,.inr (.inr ⟨rfl,rfl,rfl⟩)⟩
  ·(conv=>whnf);exact ⟨1,by decide,.inr (.inl ⟨rfl,rfl,rfl⟩)⟩
 ·conv=>whnf
  refine ⟨by decide,?_⟩;conv=>whnf
  refine ⟨qi.pl,_,SD ax,?_⟩;conv=>whnf
  refine .intro (fun m T H=>(m=2∧T=qc 43 [(0,lp b),(1,.av (order.map h0) order.length .shared),(5,h0 (max (max (max (max 0 s.1) (w (-s.1))) s.2) (w (-s.2)))),(22,.av [h0 b.1.2.1,h0 b.1.2.2] 2 (.own 1)),(23,h0 2),(24,h0 1),(31,.agg [h0 t.1,h0 t.2]),(32,h0 0)]∧H=[])∨(m=1∧T=qc 43 [(0,lp b),(1,.av (order.map h0) order.length .shared),(5,h0 (max (max (max (max (max (max 0 s.1) (w (-s.1))) s.2) (w (-s.2))) t.1) (w (-t.1)))),(22,.av [h0 b.1.2.1,h0 b.1.2.2] 2 (.own 1)),(23,h0 2),(24,h0 1),(31,.agg [h0 t.1,h0 t.2]),(32,h0 1)]∧H=[])∨(m=0∧T=qc 43 [(0,lp b),(1,.av (order.map h0) order.length .shared),(5,h0 (max (max (max (max (max (max (max (max 0 s.1) (w (-s.1))) s.2) (w (-s.2))) t.1) (w (-t.1))) t.2) (w (-t.2)))),(22,.av [h0 b.1.2.1,h0 b.1.2.2] 2 (.own 1)),(23,h0 2),(24,h0 1),(31,.agg [h0 t.1,h0 t.2]),(32,h0 2)]∧H=[])) 2 (.inl ⟨rfl,rfl,rfl⟩) ?_;rintro m T H (⟨rfl,rfl,rfl⟩ | ⟨rfl,rfl,rfl⟩ | ⟨rfl,rfl,rfl⟩)
  ·(conv=>whnf);refine ⟨_,_,fun C=>rfl,?_⟩;(conv=>whnf);exact ⟨1,by decide,.inr (.inl ⟨rfl,rfl,rfl⟩)⟩
  ·(conv=>whnf);refine ⟨_,_,fun C=>rfl,?_⟩;(conv=>whnf);exact ⟨0,by decide,.inr (.inr ⟨rfl,rfl,rfl⟩)⟩
  ·(conv=>whnf);exact ⟨0,by decide,.inr (.inr ⟨rfl,rfl,rfl⟩)⟩
 ·conv=>whnf
  exact bp _ _ _ ⟨.inr rfl,_,rfl,_,yW rfl,rfl⟩

noncomputable def Zv:gE :=
 p2 [qf 4 0] (p2 [p1 5 0,p1 6 1,qy 7 6 2 .quo,qn 8 5 7 .sub,p1 4 8] .ret)
theorem aed:qo Tryz.prog TP 82=some (Zv,9,[.tmp 4]):=by kernel_rfl
def L0 (Ka Ls:Int):Option Int :=
 qk ((2:Int)≠0) <|
 some (w (Ka-(w (Ls.tdiv (2:Int)))))
theorem ah1 {Ka:Int} {Ls:Int} {v:Int} (h:L0 Ka Ls=some v):qw 82 [(h0 Ka),(h0 Ls)] (h0 v):=by
 refine qL eG aed rfl rfl fun Q bp=>?_;have jJ:qI [.tmp 4] Q (fun v=>(h0 v)) v:=fun T H bE=>bp _ T H bE;unfold L0 at h;unfold Zv;conv=>whnf
 refine qP h id fun gM h=>?_;conv=>whnf
 exact p_ h jJ rfl rfl

noncomputable def P1:gE :=
 .loop (some (p' false [1,4,4,2,34])) (.seq (p2 [p3 12 10,p3 13 1,qW 14 13,qn 15 12 14 .lss] (.cond (.nc 15) .skip (.exit 0))) (.seq (.block 1 (p2 [p3 18 10,qy 19 18 2 .rem,p3 20 3,qn 21 19 20 .eql] (.cond (.nc 21) (.seq (ra [p0 22 [.nc 4] (.yM 0),qh 23 22,p3 24 1,p3 25 10,re 26 24 25 1,qh 27 26,re 28 23 27 2,p0 29 [.Bs 28] (.zE (.str 2)),p0 11 [] (.alloc [.int .i64 0,.int .i64 0]),⟨none,[.nc 11,.jq 29],none,none,.st 2⟩]) (ra [p1 30 9,p3 31 10,p3 32 1,qW 33 32,p0 34 [.cv (.func 82 [] []),.nc 31,.nc 33] (.call 3),p0 35 [.nc 11] (.yM 0),qh 36 35,p0 37 [.nc 11] (.yM 1),qh 38 37,p3 39 2,qn 40 38 39 .mul,qn 41 36 40 .add,qn 42 34 41 .mul,qn 43 30 42 .add,p1 9 43])) .skip))) (qO [p1 16 10,qV 17 16 1,p1 10 17])))
noncomputable def Zn:gE :=
 p2 [p0 4 [.jq 0] .box,qf 8 0] (p2 [qf 9 0] (.seq (p2 [qf 10 0] (.block 0 P1)) (p2 [p1 44 9,p1 8 44] .ret)))
theorem ad6:qo Tryz.prog Qm 65=some (Zn,45,[.tmp 8]):=by kernel_rfl
def KT (p:(qg×(Int×Int))) (order:p9) (rj qm:Int) (qa:Int→Option Int):Nat→Int→Int→Option Int
 | 0,_,_=>none
 | m+1,s1,s2 =>
   if (decide (s2<(order.length:Int)))=true then
    qk ((2:Int)≠0) <|
    if (decide ((s2.tmod (2:Int))=qm))=true then
     qk (0≤s2∧s2<(order.length:Int)) <|
     qk (0≤(ix order s2)∧(ix order s2)<(p.1.length:Int)) <|
     (L0 s2 (order.length:Int)).bind fun aS =>
     KT p order rj qm qa m (w (s1+(w (aS*(w ((ix p.1 (ix order s2)).1+(w ((ix p.1 (ix order s2)).2*rj)))))))) (w (s2+(1:Int)))
    else
     KT p order rj qm qa m s1 (w (s2+(1:Int)))
   else
    qa s1
def JH (p:(qg×(Int×Int))) (order:p9) (rj qm:Int):Option Int :=
 KT p order rj qm (fun yn =>
   some yn) qj (0:Int) (0:Int)
theorem ahS {p:(qg×(Int×Int))} {order:p9} {rj:Int} {qm:Int} {qa:Int→Option Int} {s1:Int} {s2:Int} {v:Int} {Q:Hm}   (ri:∀ (yn:Int) (bx:ar) (Kp:List ar) (qd:List I),qa yn=some v→rv 45 [(9,(h0 yn))] qd→Q (.exit 0) qd (bx::Kp)) {T:List I} (b0:eZ (p' false [1,4,4,2,34]) T=qc 45 [(1,(qR order .shared)),(2,(h0 rj)),(3,(h0 qm)),(4,(.ptr 0 0)),(9,(h0 s1)),(10,(h0 s2))]) (h:KT p order rj qm qa qj s1 s2=some v) :
  dQ Tryz.prog Qm 65 0 none P1 T [ar.cells [(q2 p.1 .shared),(h0 p.2.1),(h0 p.2.2)]] Q:=by
 unfold P1;refine wp_loop b0 ?_;refine .intro (fun m T H=>∃ (s1 s2:Int) (S2:List ar),T=qc 45 [(1,(qR order .shared)),(2,(h0 rj)),(3,(h0 qm)),(4,(.ptr 0 0)),(9,(h0 s1)),(10,(h0 s2))]∧H=(ar.cells [(q2 p.1 .shared),(h0 p.2.1),(h0 p.2.2)]::S2)∧KT p order rj qm qa m s1 s2=some v) qj ⟨s1,s2,[],rfl,rfl,h⟩ ?_;clear h b0;rintro m T H ⟨s1,s2,S2,rfl,rfl,h⟩;cases m
 ·exact r0 h
 rename_i m;rw [KT.eq_2] at h;conv=>whnf
 refine bs h (fun gM h=>?_) fun gM h=>?_
 ·rw [gM];conv=>whnf
  refine qP h id fun gN h=>?_;conv=>whnf
  refine bs h (fun qs h=>?_) fun qs h=>?_
  ·rw [qs];(conv=>whnf);refine qP h id fun qK h=>?_;rw [ru h0 order s2 qK];(conv=>whnf);refine qP h id fun qY h=>?_;rw [HW p7 2 Jd p.1 (ix order s2) qY];(conv=>whnf);refine Ew (x:=ar.cells [(h0 (0:Int)),(h0 (0:Int))]) (by first | exact qX.h | rfl | (simp [sq,I.settle];done)) ?_
   (conv=>whnf);rw [HT];obtain ⟨aS,rn,h⟩:=p8 h;refine ⟨(p6 rfl (p6 rfl rfl)),_,ah1 rn,Hg,?_⟩;(conv=>whnf);refine Ew (x:=ar.cells [(h0 (ix p.1 (ix order s2)).1),(h0 (ix p.1 (ix order s2)).2)]) (by first | exact qX.h | rfl | (simp [sq,I.settle];done)) ?_
   (conv=>whnf);refine Ew (x:=ar.cells [(h0 (ix p.1 (ix order s2)).1),(h0 (ix p.1 (ix order s2)).2)]) (by first | exact qX.h | rfl | (simp [sq,I.settle];done)) ?_
   (conv=>whnf);exact ⟨m,sD m,(w (s1+(w (aS*(w ((ix p.1 (ix order s2)).1+(w ((ix p.1 (ix order s2)).2*rj)))))))),(w (s2+(1:Int))),_,rfl,rfl,h⟩
  ·rw [qs];(conv=>whnf);exact ⟨m,sD m,s1,(w (s2+(1:Int))),_,rfl,rfl,h⟩
 ·rw [gM];conv=>whnf
  exact ri _ _ _ _ h ⟨rfl,rfl⟩
theorem YD {p:(qg×(Int×Int))} {order:p9} {rj:Int} {qm:Int} {v:Int} (h:JH p order rj qm=some v):qw 65 [(.agg [(.av (p.1.flatMap p7) p.1.length .shared),(h0 p.2.1),(h0 p.2.2)]),(.av (order.map h0) order.length .shared),(h0 rj),(h0 qm)] (h0 v):=by
 refine qL eG ad6 rfl rfl fun Q bp=>?_;have jJ:qI [.tmp 8] Q (fun v=>(h0 v)) v:=fun T H bE=>bp _ T H bE;unfold JH at h;unfold Zn;obtain ⟨HD,qE⟩:∃ c,P1=c:=⟨_,rfl⟩;rw [qE];conv=>whnf
 subst qE;refine ahS ?_ (by exact rfl) h;intro yn bx Kp qd h qz;obtain ⟨rB,rfl⟩:=qz.ex;conv=>whnf
 exact p_ h jJ rfl rfl
end Go.Proofs.YtkoioidpbbbaiaaGreat.Ab


namespace Go.Proofs.YtkoioidpbbbaiaaGreat.Ab
open Go
set_option maxRecDepth 20000
set_option maxHeartbeats 1000000
abbrev qt:=Int×Int
def qM:Nat→(Nat→Int)→Int
 | 0,_=>0
 | n+1,g=>qM n g+g n
theorem KC {n:Nat} {g h:Nat→Int} (e:∀ i,i<n→g i=h i):qM n g=qM n h:=by
 induction n with
 | zero=>rfl
 | succ n a8=>simp only [qM];rw [a8 fun i hi=>e i (by omega),e n (by omega)]
theorem NU {n:Nat} {g:Nat→Int} {B:Int} (e:∀ i,i<n → -B≤g i∧g i≤B):-(n*B)≤qM n g∧qM n g≤n*B:=by
 induction n with
 | zero=>simp [qM]
 | succ n a8 =>
   obtain ⟨ab,ae⟩:=a8 fun i hi=>e i (by omega);obtain ⟨aF,ba⟩:=e n (by omega);simp only [qM]
   have:((n+1:Nat):Int)*B=n*B+B:=by rw [Int.natCast_add,Int.add_mul];simp
   omega
theorem agr (n:Nat) (g h:Nat→Int):qM n (fun i=>g i+h i)=qM n g+qM n h:=by
 induction n with
 | zero=>rfl
 | succ n a8=>simp only [qM,a8];omega
theorem Sd (n:Nat) (g:Nat→Int) (c:Int):qM n (fun i=>c*g i)=c*qM n g:=by
 induction n with
 | zero=>simp [qM]
 | succ n a8=>simp only [qM,a8,Int.mul_add]
theorem HZ {a b A B:Int} (h:-A≤a∧a≤A) (k:-B≤b∧b≤B):-(A*B)≤a*b∧a*b≤A*B:=by
 have ab:a.natAbs*b.natAbs≤A.natAbs*B.natAbs:=Nat.mul_le_mul (by omega) (by omega);have ae:(a*b).natAbs≤A.natAbs*B.natAbs:=by rw [Int.natAbs_mul];exact ab
 have aF:((A.natAbs*B.natAbs:Nat):Int)=A*B:=by
  rw [Int.natCast_mul,Int.natAbs_of_nonneg (by omega),Int.natAbs_of_nonneg (by omega)]
 omega
def qF (S:List qt) (o:List Int) (i:Nat):qt:=ix S (ix o (i:Int))
def qG (n i:Nat):Int:=(i:Int)-((n / 2:Nat):Int)
def qN (S:List qt) (o:List Int) (a:Nat) (W:List Int) (f:qt→Int):Int:=qM o.length fun i=>if i % 2=a∧(i:Int) ∉ W then qG o.length i*f (qF S o i) else 0
def rp (S:List qt) (o:List Int) (a:Nat) (f:qt→Int):Int:=qM o.length fun i=>if i % 2=a then qG o.length i*f (qF S o i) else 0
theorem Ny (S:List qt) (o:List Int) (a:Nat) (f:qt→Int):qN S o a [] f=rp S o a f:=KC fun i _=>by simp
def Jj (S:List qt) (o:List Int):Prop:=∀ i:Nat,i<o.length→0≤ix o (i:Int)∧ix o (i:Int)<(S.length:Int)
def qT (s:qt):Prop:=0≤s.1∧s.1≤100∧-10≤s.2∧s.2≤10
instance (s:qt):Decidable (qT s):=by unfold qT;exact inferInstance
theorem IZ {S:List qt} {o:List Int} (cp:∀ s∈S,qT s) (jJ:Jj S o) {i:Nat} (hi:i<o.length):qT (qF S o i):=cp _ (Jp (jJ i hi))
def q3 (d:Int) (s:qt):Int:=s.1+s.2*d
theorem L8 {d:Int} {s:qt} (ah:qT s) (a1:0≤d∧d≤50):-600≤q3 d s∧q3 d s≤600:=by
 have:=HZ (a:=s.2) (b:=d) (A:=10) (B:=50) ⟨ah.2.2.1,ah.2.2.2⟩ ⟨by omega,a1.2⟩;have ab:=ah.1;have ae:=ah.2.1;unfold q3;omega
theorem Mk {n i:Nat} (hi:i<n) (aI:n≤10):-10≤qG n i∧qG n i≤10:=by unfold qG;omega
theorem Po {n i:Nat} {v B:Int} {q:Prop} [Decidable q] (hi:i<n) (aI:n≤10) (I9:0≤B) (h:-B≤v∧v≤B):-(10*B)≤(if q then qG n i*v else 0)∧(if q then qG n i*v else 0)≤10*B:=by
 by_cases ab:q
 ·rw [if_pos ab];exact HZ (Mk hi aI) h
 ·rw [if_neg ab];omega
theorem Rd {S:List qt} {o:List Int} {a:Nat} {W:List Int} {f:qt→Int} {B:Int} (aq:o.length≤10) (I9:0≤B) (h:∀ i,i<o.length → -B≤f (qF S o i)∧f (qF S o i)≤B):-(100*B)≤qN S o a W f∧qN S o a W f≤100*B:=by
 have:=NU (n:=o.length) (g:=fun i=>if i % 2=a∧(i:Int) ∉ W then qG o.length i*f (qF S o i) else 0) (B:=10*B) fun i hi=>Po hi aq I9 (h i hi);have ae:=Int.mul_le_mul_of_nonneg_right (show (o.length:Int)≤10 by omega) (show 0≤10*B by omega);unfold qN;omega
theorem aen {S:List qt} {o:List Int} {a:Nat} {f:qt→Int} {B:Int} (aq:o.length≤10) (I9:0≤B) (h:∀ i,i<o.length → -B≤f (qF S o i)∧f (qF S o i)≤B):-(100*B)≤rp S o a f∧rp S o a f≤100*B:=by
 rw [←Ny];exact Rd aq I9 h
theorem YN {n i:Nat} (hi:i<n) (aI:n≤10):L0 (i:Int) (n:Int)=some (qG n i):=by
 unfold L0;rw [qC (by decide)];have e:(n:Int).tdiv 2=((n / 2:Nat):Int):=by rw [Int.tdiv_eq_ediv_of_nonneg (by omega)];omega
 rw [e,qD (n:=((n / 2:Nat):Int)) (by omega),qD (by omega)];rfl
theorem NV (i:Nat):(i:Int).tmod 2=((i % 2:Nat):Int):=by rw [Int.tmod_eq_emod_of_nonneg (by omega)];omega
theorem Vi {p:(List qt)×(Int×Int)} {o:List Int} {d:Int} {a:Nat} {kl:Int→Option Int} (cp:∀ s∈p.1,qT s) (jJ:Jj p.1 o) (aq:o.length≤10) (a1:0≤d∧d≤50) :
  ∀ (m i:Nat),i≤o.length→o.length-i<m→KT p o d (a:Int) kl m (qM i fun i=>if i % 2=a then qG o.length i*q3 d (qF p.1 o i) else 0) (i:Int)=kl (rp p.1 o a (q3 d))
 | 0,_,_,h=>absurd h (by omega)
 | m+1,i,hi,hm=>by
   rw [KT];by_cases aR:i<o.length
   ·rw [if_pos (decide_eq_true (by omega)),qC (by decide),NV,Io i (by omega)];have a8:=Vi (kl:=kl) (a:=a) cp jJ aq a1 m (i+1) (by omega) (by omega);by_cases a_:i % 2=a
    ·rw [if_pos (decide_eq_true (by omega)),qC (by omega),qC (jJ i aR),YN aR aq,sb];have al:=IZ cp jJ aR;have bm:=HZ (a:=(qF p.1 o i).2) (b:=d) (A:=10) (B:=50) ⟨al.2.2.1,al.2.2.2⟩ ⟨by omega,a1.2⟩;have cw:=L8 al a1;have e2:=HZ (Mk aR aq) cw;have lQ:=NU (n:=i) (g:=fun i=>if i % 2=a then qG o.length i*q3 d (qF p.1 o i) else 0) (B:=6000) fun j aw=>Po (B:=600) (by omega) aq (by omega) (L8 (IZ cp jJ (by omega)) a1);have e1:ix p.1 (ix o (i:Int))=qF p.1 o i:=rfl;rw [e1,qD (n:=(qF p.1 o i).2*d) (by omega)];rw [show (qF p.1 o i).1+(qF p.1 o i).2*d=q3 d (qF p.1 o i) from rfl,qD (n:=q3 d (qF p.1 o i)) (by omega),qD (n:=qG o.length i*q3 d (qF p.1 o i)) (by omega),qD (by omega)];simp only [qM,if_pos a_] at a8;exact a8
    ·rw [if_neg (by simpa using by omega)];simp only [qM,if_neg a_,uW] at a8;exact a8
   ·(obtain rfl:i=o.length:=by omega);rw [if_neg (by simp)];rfl
theorem Is {n:Nat} (h:n≤1000000):n<qj:=by unfold qj;omega
theorem ahR {p:(List qt)×(Int×Int)} {o:List Int} {d:Int} {a:Nat} (cp:∀ s∈p.1,qT s) (jJ:Jj p.1 o) (aq:o.length≤10) (a1:0≤d∧d≤50):JH p o d (a:Int)=some (rp p.1 o a (q3 d)):=by
 unfold JH;exact Vi cp jJ aq a1 qj 0 (by omega) (Is (by omega))
theorem PI {b:((List (Int×Int))×(Int×Int))×Unit} {n i:Nat} (aI:n≤10) (af:b.1.1.length=n) (hi:i<n):Kk b (i:Int)=some (qG n i):=by
 have:=YN hi aI;unfold L0 at this;unfold Kk;rw [af];exact this
theorem U8 {W:List Int} (mb:W.length≤1000) {v:Int}:∀ (m i:Nat),i≤W.length→W.length-i<m→(∀ j,j<i→ix W (j:Int)≠v)→∃ r,KG W v (fun _=>some (-1:Int)) m (i:Int)=some r∧decide (0≤r)=decide (v∈W)
 | 0,_,_,h,_=>absurd h (by omega)
 | m+1,i,hi,hm,ad=>by
   rw [KG];by_cases aR:i<W.length
   ·rw [if_pos (decide_eq_true (by omega)),qC (by omega)];by_cases he:v=ix W (i:Int)
    ·rw [if_pos (decide_eq_true he)];refine ⟨_,rfl,?_⟩;rw [decide_eq_true (by omega),decide_eq_true (by rw [he];exact Jp (by omega))]
    ·rw [if_neg (by simpa using he),Io i (by omega)];refine U8 mb m (i+1) (by omega) (by omega) fun j aw=>?_;by_cases gi:j=i
     ·subst gi;exact fun e=>he e.symm
     ·exact ad j (by omega)
   ·rw [if_neg (by simpa using by omega)];refine ⟨-1,rfl,?_⟩;rw [decide_eq_false (by omega),decide_eq_false];intro nO;obtain ⟨j,aw,e⟩:=List.getElem_of_mem nO;refine ad j (by omega) ?_;rw [rr aw];exact e
theorem ag5 (W:List Int) (mb:W.length≤1000) (v:Int):NZ W v=some (decide (v∈W)):=by
 unfold NZ Pv;obtain ⟨r,ab,ae⟩:=U8 (W:=W) mb (v:=v) qj 0 (by omega) (Is (by omega)) (fun j aw=>absurd aw (by omega));have iR:KG W v (fun _=>some (-1:Int)) qj 0=some r:=ab;rw [iR,sb,ae]
theorem Vk {b:((List (Int×Int))×(Int×Int))×Unit} {o:List Int} {W:List Int} {a:Nat} {kl:Int→Int→Option (Int×Int)} (cp:∀ s∈b.1.1,qT s) (jJ:Jj b.1.1 o) (aq:o.length≤10) (aI:b.1.1.length=o.length) (mb:W.length≤1000) :
  ∀ (m i:Nat),i≤o.length→o.length-i<m →
    Kl b o (a:Int) W kl m (i:Int) (qM i fun i=>if i % 2=a∧(i:Int) ∉ W then qG o.length i*(qF b.1.1 o i).1 else 0) (qM i fun i=>if i % 2=a∧(i:Int) ∉ W then qG o.length i*(qF b.1.1 o i).2 else 0)=kl (qN b.1.1 o a W Prod.fst) (qN b.1.1 o a W Prod.snd)
 | 0,_,_,h=>absurd h (by omega)
 | m+1,i,hi,hm=>by
   rw [Kl];by_cases aR:i<o.length
   ·rw [if_pos (decide_eq_true (by omega)),qC (by omega),qC (by decide),NV,Io i (by omega)];have a8:=Vk (kl:=kl) (a:=a) (W:=W) cp jJ aq aI mb m (i+1) (by omega) (by omega);by_cases a_:i % 2=a
    ·rw [if_neg (by simpa using by omega),ag5 W mb,sb];by_cases hw:(i:Int)∈W
     ·rw [if_pos (decide_eq_true hw)];simp only [qM,hw,not_true_eq_false,and_false,if_false,uW] at a8;exact a8
     ·rw [if_neg (by simpa using hw),qC (jJ i aR),PI aq aI aR,sb,sb];have al:=IZ cp jJ aR;have e2:=HZ (Mk aR aq) (b:=(qF b.1.1 o i).1) (B:=100) ⟨by have:=al.1;omega,al.2.1⟩;have aaC:=HZ (Mk aR aq) (b:=(qF b.1.1 o i).2) (B:=10) ⟨al.2.2.1,al.2.2.2⟩;have lQ:=NU (n:=i) (g:=fun i=>if i % 2=a∧(i:Int) ∉ W then qG o.length i*(qF b.1.1 o i).1 else 0) (B:=1000) fun j aw=>Po (B:=100) (by omega) aq (by omega) (by have:=IZ cp jJ (i:=j) (by omega);exact ⟨by have:=this.1;omega,this.2.1⟩);have aaD:=NU (n:=i) (g:=fun i=>if i % 2=a∧(i:Int) ∉ W then qG o.length i*(qF b.1.1 o i).2 else 0) (B:=100) fun j aw=>Po (B:=10) (by omega) aq (by omega) (by have:=IZ cp jJ (i:=j) (by omega);exact ⟨this.2.2.1,this.2.2.2⟩);have e1:ix b.1.1 (ix o (i:Int))=qF b.1.1 o i:=rfl;rw [e1,qD (n:=qG o.length i*(qF b.1.1 o i).1) (by omega),qD (n:=qG o.length i*(qF b.1.1 o i).2) (by omega),qD (by omega),qD (by omega)];simp only [qM,if_pos (show i % 2=a∧(i:Int) ∉ W from ⟨a_,hw⟩)] at a8;exact a8
    ·rw [if_pos (by simpa using by omega)];simp only [qM,a_,false_and,if_false,uW] at a8;exact a8
   ·(obtain rfl:i=o.length:=by omega);rw [if_neg (by simp)];rfl
theorem PJ {b:((List (Int×Int))×(Int×Int))×Unit} {o:List Int} {W:List Int} {a:Nat} (cp:∀ s∈b.1.1,qT s) (jJ:Jj b.1.1 o) (aq:o.length≤10) (aI:b.1.1.length=o.length) (mb:W.length≤1000) :
  LZ b o (a:Int) W=some (qN b.1.1 o a W Prod.fst,qN b.1.1 o a W Prod.snd):=by
 unfold LZ;exact Vk cp jJ aq aI mb qj 0 (by omega) (Is (by omega))
theorem Mi (S:List qt) (o:List Int) (a:Nat) (W:List Int) (d:Int):qN S o a W (q3 d)=qN S o a W Prod.fst+qN S o a W Prod.snd*d:=by
 unfold qN;rw [Int.mul_comm _ d,←Sd,←agr];refine KC fun i _=>?_;by_cases h:i % 2=a∧(i:Int) ∉ W
 ·simp only [if_pos h,q3];grind
 ·simp only [if_neg h];omega
theorem aep (S:List qt) (o:List Int) (a:Nat) (d:Int):rp S o a (q3 d)=rp S o a Prod.fst+rp S o a Prod.snd*d:=by
 simp only [←Ny];exact Mi S o a [] d
theorem QF {S:List qt} {o:List Int} {a:Nat} {W:List Int} (cp:∀ s∈S,qT s) (jJ:Jj S o) (aq:o.length≤10):-10000≤qN S o a W Prod.fst∧qN S o a W Prod.fst≤10000 :=
 Rd (B:=100) aq (by omega) fun i hi=>by have:=IZ cp jJ hi;exact ⟨by have:=this.1;omega,this.2.1⟩
theorem R' {S:List qt} {o:List Int} {a:Nat} {W:List Int} (cp:∀ s∈S,qT s) (jJ:Jj S o) (aq:o.length≤10):-1000≤qN S o a W Prod.snd∧qN S o a W Prod.snd≤1000 :=
 Rd (B:=10) aq (by omega) fun i hi=>by have:=IZ cp jJ hi;exact ⟨this.2.2.1,this.2.2.2⟩
theorem SC {b:((List (Int×Int))×(Int×Int))×Unit} {o:List Int} {d:Int} (cp:∀ s∈b.1.1,qT s) (jJ:Jj b.1.1 o) (aq:o.length≤10) (aI:b.1.1.length=o.length) (a1:0≤d∧d≤50) :
  LV b o d=some (rp b.1.1 o 0 (q3 d),rp b.1.1 o 1 (q3 d)):=by
 unfold LV;have aQ:=PJ (W:=[]) (a:=0) cp jJ aq aI (by simp);have ab:=PJ (W:=[]) (a:=1) cp jJ aq aI (by simp);rw [show ((0:Nat):Int)=0 from rfl] at aQ;rw [show ((1:Nat):Int)=1 from rfl] at ab;rw [aQ,ab,sb,sb];have one:∀ a,w (qN b.1.1 o a [] Prod.fst+w (qN b.1.1 o a [] Prod.snd*d))=rp b.1.1 o a (q3 d):=fun a=>by
  have a7:=QF (a:=a) (W:=[]) cp jJ aq;have a9:=R' (a:=a) (W:=[]) cp jJ aq;have bt:=HZ (b:=d) (B:=50) a9 ⟨by omega,a1.2⟩;rw [qD (n:=qN b.1.1 o a [] Prod.snd*d) (by omega),qD (by omega),←Mi,Ny]
 simp only [one]
end Go.Proofs.YtkoioidpbbbaiaaGreat.Ab


namespace Go.Proofs.YtkoioidpbbbaiaaGreat.Ab
def q4:Nat→List Int→List (List Int)
 | 0,_=>[[]]
 | n+1,left=>left.flatMap fun x=>(q4 n (left.erase x)).map (x::·)
theorem QB {left:List Int} {x:Int} {n:Nat} (ao:left.length=n+1) (aj:x∈left):(left.erase x).length=n:=by
 rw [List.length_erase_of_mem aj,ao];rfl
theorem afY {left:List Int} (h:left.Pairwise (·<·)):left.Nodup:=h.imp fun h e=>by omega
theorem Vt:∀ (n:Nat) (left:List Int),left.length=n→q4 n left≠[]
 | 0,_,_=>by simp [q4]
 | n+1,[],h=>by simp at h
 | n+1,x::s,h=>by
   have:=Vt n ((x::s).erase x) (QB h (by simp));simp only [q4,uz];intro e;exact this (by simpa using (List.append_eq_nil_iff.1 e).1)
theorem Vr:∀ (n:Nat) (left:List Int),left.length=n→(q4 n left)[0]?=some left
 | 0,left,h=>by rw [sP.1 h];rfl
 | n+1,[],h=>by simp at h
 | n+1,x::s,h=>by
   (have e:(x::s).erase x=s:=by simp);have a8:=Vr n s (by simpa using h);simp only [q4,uz,e];have UU:0<((q4 n s).map (x::·)).length:=by
    rw [sY];exact List.length_pos_iff.2 (Vt n s (by simpa using h))
   rw [sg UU,sk,a8];rfl
theorem OU:∀ (n:Nat) (left l:List Int),left.length=n→(l∈q4 n left↔l.Perm left)
 | 0,left,l,h=>by
   rw [sP.1 h];simp [q4]
 | n+1,left,l,h=>by
   simp only [q4,tJ,sC];constructor
   ·rintro ⟨x,aj,r,ai,rfl⟩;have:=(OU n (left.erase x) r (QB h aj)).1 ai;exact (this.cons x).trans (vz aj).symm
   ·intro aB;cases l with
    | nil=>have:=aB.length_eq;simp at this;omega
    | cons x r =>
      have aj:x∈left:=aB.mem_iff.1 (by simp);refine ⟨x,aj,r,(OU n (left.erase x) r (QB h aj)).2 ?_,rfl⟩;exact (List.perm_cons x).1 (aB.trans (vz aj))
theorem acZ {n:Nat} {left l:List Int} (h:left.length=n) (ao:l∈q4 n left):l.length=n:=by
 rw [((OU n left l h).1 ao).length_eq,h]
end Go.Proofs.YtkoioidpbbbaiaaGreat.Ab


namespace Go.Proofs.YtkoioidpbbbaiaaGreat.Ab
open Go
noncomputable def WZ:gE :=
 p2 [⟨some 6, [.jq 3], none, some 3, .Bq⟩, p0 7 [.cv (.func 86 [] []), .jq 6] (.call 1)] (p2 [⟨some 8, [.jq 3], none, some 3, .other (Oper.mk (some 8) (Op.move (Operand.tmp 3)) 32 "iter.go:69" (Array.mk []) none) 2⟩, p1 2 8] .ret)
noncomputable def RO:gE :=
 p2 [p0 2 [.cv (.av [] 0 .full)] (.nil 1)] (p2 [p1 4 0,p0 5 [.cv (.func 85 [] []),.nc 4] (.call 0),p1 3 5] WZ)
theorem Vx:qo Go.Proofs.Tryz.prog TH 67=some (RO,9,[.tmp 2]):=by kernel_rfl
noncomputable def W8:gE :=
 p2 [p0 2 [.cv (.av [] 0 .full)] (.nil 1)] (p2 [p1 3 0,p0 4 [.cv (.func 102 [] []),.cv (.av [] 0 .full),.nc 3] (.call 0),p1 2 4] .ret)
theorem adj:qo Go.Proofs.Tryz.prog TR 85=some (W8,5,[.tmp 2]):=by kernel_rfl
noncomputable def afO:gE :=
 p2 [p3 11 0,p1 12 4,p0 13 [.jq 11,.jq 12] (.call 1),p0 14 [.Bs 13] (.un .not)] (.cond (.nc 14) .ret .skip)
noncomputable def afP:gE :=
 .block 1 (p2 [p0 9 [.nc 5,.nc 7] (.kY 1),qh 10 9,p1 4 10] afO)
noncomputable def W9:gE :=
 p2 [qh 5 1,p0 6 [.nc 5] .zJ,qf 7 0] (.block 0 (.loop (some (p' false [0,1,4,3,8])) (p2 [p0 8 [.nc 7,.nc 6] (.bin .lss)] (.seq (.cond (.nc 8) .skip (.exit 0)) (.seq afP (qO [qV 15 7 1,p1 7 15]))))))
theorem adk:qo Go.Proofs.Tryz.prog TT 87=some (W9,16,[]):=by kernel_rfl
noncomputable def Wm:gE :=
 p2 [p0 2 [.jq 0] .box,p0 4 [.cv (.av [] 0 .full)] (.nil 1)] (.seq (p2 [p1 6 1] (.block 0 (.AM (.nc 6) [7] (rf Go.Proofs.Tryz.prog 102 0) (rh Go.Proofs.Tryz.prog 102 0)))) (p2 [p0 12 [.Bs 2] .take,p1 4 12] .ret))
theorem ac1:qo Go.Proofs.Tryz.prog JK 102=some (Wm,13,[.tmp 4]):=by kernel_rfl
end Go.Proofs.YtkoioidpbbbaiaaGreat.Ab


namespace Go.Proofs.YtkoioidpbbbaiaaGreat.Ab
open Go
set_option maxRecDepth 20000
set_option maxHeartbeats 4000000
noncomputable def W_:gE :=
 .ov false [p0 5 [.jq 7] .mU]
theorem adl:ey Tryz.prog JK (rf Tryz.prog 102 0) 0=some W_:=by kernel_rfl
noncomputable def Xc:gE :=
 .block 1 (.ov false [p0 8 [.nc 2] .take,p0 9 [.jq 5] .mU,p0 10 [.Bs 9] (.yB 1 1 [.int .i64 0] [0]),p0 11 [.jq 8,.jq 10] (.app 1 8),⟨none,[.jq 2,.jq 11],none,none,.Bk⟩])
theorem adp:ey Tryz.prog JK (rh Tryz.prog 102 0) 0=some Xc:=by kernel_rfl
def Jx (l:List Int):I:=match l with | []=>.av [] 0 .full | _=>.raw (l.map h0) l.length 1
def Oy (l:List Int):I:=match l with | []=>.av [] 0 .full | _=>.av (l.map h0) l.length (.uniq 1)
theorem aaw {l:List Int} {e:Int} {yh fA Gi Gj rT I2 HM u8 HN HJ HK HL:I} (ao:l.length≤1000) (Y:List ar) :
  ∃ qH,Sem Tryz.prog (.yield [ar.cells [Jx l]].length) [h0 e] (([ar.cells [Jx l]]++[ar.loop .ready none 102 [yh,fA,.ptr 0 0,Gi,Gj,rT,I2,HM,u8,HN,HJ,HK,HL] [7] (rf Tryz.prog 102 0) (rh Tryz.prog 102 0) JK])++Y) 0 (.bool true) (([ar.cells [Jx (l++[e])]]++[ar.loop .ready none 102 [yh,fA,.ptr 0 0,Gi,Gj,rT,I2,HM,u8,HN,HJ,HK,HL] [7] (rf Tryz.prog 102 0) (rh Tryz.prog 102 0) JK])++qH):=by
 refine ⟨Y,Pj eG adl adp (IC _ _ _) rfl (IF (by simp)) ?_⟩;unfold W_;conv=>whnf
 refine ⟨rfl,IC _ _ _,?_⟩;rw [JA];unfold Xc;cases l with
 | nil =>
   (conv=>whnf);refine ⟨rfl,by omega,?_⟩;(conv=>whnf);refine ⟨by decide,by decide,rfl,?_⟩;(conv=>whnf);refine ⟨rfl,by decide,Gn (by decide) ?_⟩;(conv=>whnf);show _∧(([ar.cells [Jx ([]++[e])]]++[ar.loop .busy none 102 [yh,fA,.ptr 0 0,Gi,Gj,rT,I2,HM,u8,HN,HJ,HK,HL] [7] (rf Tryz.prog 102 0) (rh Tryz.prog 102 0) JK])++Y)[[ar.cells [Jx ([]++[e])]].length]?=_∧lI ((([ar.cells [Jx ([]++[e])]]++[ar.loop .busy none 102 [yh,fA,.ptr 0 0,Gi,Gj,rT,I2,HM,u8,HN,HJ,HK,HL] [7] (rf Tryz.prog 102 0) (rh Tryz.prog 102 0) JK])++Y).set [ar.cells [Jx ([]++[e])]].length _) _;exact ⟨rfl,IC _ _ _,by rw [JA];exact lI.refl _⟩
 | cons a l =>
   (conv=>whnf);refine ⟨rfl,by omega,?_⟩;(conv=>whnf);refine ⟨rfl,by simp only [sK] at ao ⊢;omega,?_⟩;(conv=>whnf);refine ⟨?_,Nat.succ_ne_zero _,Gn (by simp) ?_⟩
   ·show ((a::l).map h0++[h0 e]).all g1=true;rw [←List.map_singleton (f:=h0),←sO];exact sm.2 fun x aj=>by obtain ⟨y,_,rfl⟩:=sC.1 aj;rfl
   (conv=>whnf);have e1:I.raw ((a::l).map h0++[h0 e]) ((a::l).length+1) 1=Jx ((a::l)++[e]):=by
    show _=I.raw (((a::l)++[e]).map h0) ((a::l)++[e]).length 1;rw [sO,sy];rfl
   show _∧(([ar.cells [I.raw ((a::l).map h0++[h0 e]) ((a::l).length+1) 1]]++[ar.loop .busy none 102 [yh,fA,.ptr 0 0,Gi,Gj,rT,I2,HM,u8,HN,HJ,HK,HL] [7] (rf Tryz.prog 102 0) (rh Tryz.prog 102 0) JK])++Y)[[ar.cells [I.raw ((a::l).map h0++[h0 e]) ((a::l).length+1) 1]].length]?=_∧lI ((([ar.cells [I.raw ((a::l).map h0++[h0 e]) ((a::l).length+1) 1]]++[ar.loop .busy none 102 [yh,fA,.ptr 0 0,Gi,Gj,rT,I2,HM,u8,HN,HJ,HK,HL] [7] (rf Tryz.prog 102 0) (rh Tryz.prog 102 0) JK])++Y).set [ar.cells [I.raw ((a::l).map h0++[h0 e]) ((a::l).length+1) 1]].length _) _;rw [e1];exact ⟨rfl,IC _ _ _,by rw [JA];exact lI.refl _⟩
theorem Ma (l:List Int):cr 8 (Oy l)=true:=by
 cases l with
 | nil=>rfl
 | cons a l=>exact rM (fun _=>rfl) _ _ _
theorem aa_ {k:FuncId} {cap:List I} {l:List Int} (Iu:Seq Tryz.prog k cap (l.map h0)) (ao:l.length≤1000):qw 102 [.av [] 0 .full,.func k [] cap] (Oy l):=by
 refine OD eG ac1 rfl (Ma l) fun Q bp=>?_;unfold Wm;obtain ⟨a7,cf⟩:∃ c,gE.AM (.nc 6) [7] (rf Tryz.prog 102 0) (rh Tryz.prog 102 0)=c:=⟨_,rfl⟩;rw [cf];conv=>whnf
 subst cf;refine af4 (f:=h0) Iu (fun i=>[ar.cells [Jx (l.take i)]]) (by exact rfl) (by exact rfl) (fun _=>rfl) ?_ (rl:=none) (by exact rfl) (Hn:=[ar.cells [Jx l]]) (by show [ar.cells [Jx (l.take l.length)]]=_;rw [List.take_length]) ?_
 ·intro i hi Y;rw [show l.take (i+1)=l.take i++[l[i]] by rw [List.take_add_one,si hi];rfl];exact aaw (l:=l.take i) (e:=l[i]) (by rw [s_];omega) Y
 ·intro qH;cases l with
  | nil =>
    (conv=>whnf);exact bp _ _ _ (Ke (.inr rfl) (Ma _) rfl)
  | cons a l =>
    (conv=>whnf);exact bp _ _ _ (Ke (.inr rfl) (Ma _) rfl)
theorem T' {k:FuncId} {cap:List I} {l:List Int} (pw:cap.all (cr 7)=true) (Iu:Seq Tryz.prog k cap (l.map h0)) (ao:l.length≤1000):qw 85 [.func k [] cap] (Oy l):=by
 refine OD eG adj rfl (Ma l) fun Q bp=>?_;unfold W8;conv=>whnf
 refine ⟨_,_,M_ (p6 rfl (p6 (IX rfl pw) rfl)) (aa_ Iu ao) _ _,?_⟩;cases l with
 | nil =>
   (conv=>whnf);exact bp _ _ _ (Ke (.inr rfl) (Ma _) rfl)
 | cons a l =>
   (conv=>whnf);exact bp _ _ _ (Ke (.inr rfl) (Ma _) rfl)
end Go.Proofs.YtkoioidpbbbaiaaGreat.Ab


namespace Go.Proofs.YtkoioidpbbbaiaaGreat.Ab
open Go
def Qv:hE→hE→Bool
 | .shared,.shared=>true
 | .full,.full=>true
 | .own a,.own b=>Nat.beq a b
 | .uniq a,.uniq b=>Nat.beq a b
 | _,_=>false
theorem aaT:∀ {a b:hE},Qv a b=true→a=b:=by
 intro a b h;cases a <;> cases b <;> simp only [Qv,tP] at h <;> first | rfl | (rw [sN h])
def IW (f:I→I→Bool):List I→List I→Bool
 | [],[]=>true
 | a::l,b::r=>match f a b with
   | true=>IW f l r
   | false=>false
 | _,_=>false
theorem J' {f:I→I→Bool} (aP:∀ a b,f a b=true→a=b):∀ {a b:List I},IW f a b=true→a=b
 | [],[],_=>rfl
 | [],_::_,h=>by simp [IW] at h
 | _::_,[],h=>by simp [IW] at h
 | a::l,b::r,h=>by
   simp only [IW] at h;split at h
   ·rename_i jL;rw [aP a b jL,J' aP h]
   ·cases h
def I5:Nat→I→I→Bool
 | 0,_,_=>false
 | d+1,a,b=>match a,b with
   | .bool x,.bool y=>match x,y with | true,true=>true | false,false=>true | _,_=>false
   | .int k x,.int q y=>match decide (k=q),decide (x=y) with | true,true=>true | _,_=>false
   | .eI,.eI=>true
   | .bS x,.bS y=>IW (I5 d) x y
   | .av x n c,.av y m e=>match IW (I5 d) x y,Nat.beq n m,Qv c e with | true,true,true=>true | _,_,_=>false
   | .func f x y,.func g z w=>match Nat.beq f g,IW (I5 d) x z,IW (I5 d) y w with | true,true,true=>true | _,_,_=>false
   | .agg x,.agg y=>IW (I5 d) x y
   | .tuple x,.tuple y=>IW (I5 d) x y
   | _,_=>false
theorem Ot:∀ (d:Nat) (a b:I),I5 d a b=true→a=b
 | 0,_,_,h=>by simp [I5] at h
 | d+1,a,b,h=>by
   have a8:=Ot d;unfold I5 at h;split at h
   ·split at h <;> first | rfl | cases h
   ·rename_i k x q y;split at h
    ·rename_i ab ae;rw [of_decide_eq_true ab,of_decide_eq_true ae]
    ·cases h
   ·rfl
   ·rw [J' a8 h]
   ·split at h
    ·rename_i ab ae aF;rw [J' a8 ab,sN ae,aaT aF]
    ·cases h
   ·split at h
    ·rename_i ab ae aF;rw [sN ab,J' a8 ae,J' a8 aF]
    ·cases h
   ·rw [J' a8 h]
   ·rw [J' a8 h]
   ·cases h
inductive KV where
 | pure (k:Nat) (args:List I) (v:I)
 | map (k:Nat) (args:List I) (es:List (Nat×I×I)) (clock:Nat)
def Qy (P:Program):KV→Prop
 | .pure k args v=>nn P k args v
 | .map k args es clock=>∀ H,Sem P (.fn k) args H H.length (.map H.length) (H++[.map es clock])
def look (k:Nat) (args:List I) (H:List ar) (lo:Nat):List KV→Option (I×List ar)
 | []=>none
 | .pure q bs v::r=>match Nat.beq k q with
   | true=>match IW (I5 20) args bs with
     | true=>match H with
       | []=>some (v,[])
       | _=>look k args H lo r
     | false=>look k args H lo r
   | false=>look k args H lo r
 | .map q bs es clock::r=>match Nat.beq k q with
   | true=>match IW (I5 20) args bs with
     | true=>match Nat.beq lo H.length with
       | true=>some (.map H.length,H++[.map es clock])
       | false=>look k args H lo r
     | false=>look k args H lo r
   | false=>look k args H lo r
def Pn (l:List KV):b8:=fun bY args H lo=>match bY with
 | .fn k=>look k args H lo l
 | _=>none
theorem Sem.adt {P:Program} {bY:fc} {args:List I} {r:I} {H':List ar} (h:Sem P bY args [] 0 r H') (lo:Nat):Sem P bY args [] lo r H' :=
 ⟨⟨h.1.1,fun _ _ h=>by simp at h⟩,h.2⟩
theorem look_ok {P:Program} {k:Nat} {args:List I} {H:List ar} {lo:Nat} {r:I} {H':List ar}:∀ {l:List KV},(∀ e∈l,Qy P e)→look k args H lo l=some (r,H')→Sem P (.fn k) args H lo r H'
 | [],_,h=>by simp [look] at h
 | .pure q bs v::l,ao,h=>by
   have Lq:=look_ok (k:=k) (args:=args) (H:=H) (lo:=lo) (r:=r) (H':=H') fun e he=>ao e (tS _ he);unfold look at h;split at h
   ·rename_i ab;split at h
    ·rename_i ae;split at h
     ·cases h;have:=ao (.pure q bs r) tY;rw [sN ab,J' (Ot 20) ae];exact this.1.adt lo
     ·exact Lq h
    ·exact Lq h
   ·exact Lq h
 | .map q bs es clock::l,ao,h=>by
   have Lq:=look_ok (k:=k) (args:=args) (H:=H) (lo:=lo) (r:=r) (H':=H') fun e he=>ao e (tS _ he);unfold look at h;split at h
   ·rename_i ab;split at h
    ·rename_i ae;split at h
     ·rename_i aF;cases h;have:=ao (.map q bs es clock) tY;rw [sN ab,J' (Ot 20) ae,sN aF];exact this H
     ·exact Lq h
    ·exact Lq h
   ·exact Lq h
theorem XK {P:Program} {l:List KV} (ao:∀ e∈l,Qy P e):c6 P (Pn l):=o7 fun bY args H lo r H' h=>by
 cases bY with
 | fn k=>exact look_ok ao h
 | yield i=>simp [Pn] at h
def Kz (A:FuncId→dw):Nat→List Func→Bool
 | _,[]=>true
 | k,f::r=>match (A k).bad with
   | true=>Kz A (k+1) r
   | false=>match f.body with
     | some c => match codeOk (A k) c, f.name == "runtime.NumGoroutine" with
       | true,false=>Kz A (k+1) r
       | _,_=>false
     | none=>Kz A (k+1) r
theorem VU {A : FuncId → dw} : ∀ {l : List Func} {k : Nat}, Kz A k l = true → ∀ (i : Nat) (f : Func) (c : Code), (A (k + i)).bad = false → l[i]? = some f → f.body = some c → codeOk (A (k + i)) c = true ∧ f.name ≠ "runtime.NumGoroutine"
 | [],_,_,i,f,c,_,h,_=>by simp at h
 | g::r,k,h,i,f,c,nG,aP,ak=>by
   unfold Kz at h;cases i with
   | zero =>
     simp at aP;subst aP;rw [Nat.add_zero] at nG;rw [nG,ak] at h;simp only at h;split at h
     ·rename_i ab ae;exact ⟨ab,by simpa using ae⟩
     ·cases h
   | succ i =>
     have ai:Kz A (k+1) r=true:=by
      split at h
      ·exact h
      ·split at h
       ·split at h
        ·exact h
        ·cases h
       ·exact h
     have:=VU ai i f c (by rw [show k+1+i=k+(i+1) by omega];exact nG) (by simpa using aP) ak;rw [show k+(i+1)=k+1+i by omega];exact this
theorem VT {P : Program} {A : FuncId → dw} (h : Kz A 0 P.funcs.toList = true) (k : Nat) (f : Func) (c : Code) (af : (A k).bad = false) (aP : P.funcs[k]? = some f) (ak : f.body = some c) : codeOk (A k) c = true ∧ f.name ≠ "runtime.NumGoroutine" := by
 have:=VU h k f c (by rw [sB];exact af) (by simpa using aP) ak
 rwa [sB] at this
theorem TV:Kz jD 0 Go.Proofs.Tryz.prog.funcs.toList=true:=by kernel_rfl
noncomputable def R6 (l:List KV) (k:Nat) (args:List I):Option I:=match ga Go.Proofs.Tryz.prog jD (Pn l) 300 (.fn k) args [] 0 with
 | some (r,H2)=>match bM H2 0 H2.length 0 8 r with
   | some v=>match cr 8 v.settle with
     | true=>some v.settle
     | false=>none
   | none=>none
 | none=>none
theorem af7 {l:List KV} (ao:∀ e∈l,Qy Go.Proofs.Tryz.prog e) {k:Nat} {args:List I} {v:I} (h:R6 l k args=some v):nn Go.Proofs.Tryz.prog k args v:=by
 unfold R6 at h;split at h
 ·rename_i r H2 ak;split at h
  ·rename_i u aP;split at h
   ·rename_i aB;cases h;have ah:=(Cb eG jD (XK ao) (VT TV) 300).Ha ak;refine ⟨⟨a'.refl _ _,ah.2.1,fun B aa J S w xs ag aI ad=>CallsIn.mono (ah.2.2 B aa J S w xs ag aI ad) fun e w' he=>?_⟩,aB⟩;cases e with
    | returned x =>
      have kQ:=xG ag (fun id aE=>by simp at aE) aP he;show aZ B aa J S w [] u.settle x w';cases u with
      | av cells len eo =>
        cases eo with
        | uniq z=>exact kQ.settle
        | _=>exact kQ
      | _=>exact kQ
    | panicked c=>exact he.elim
    | outgrown=>exact he.elim
   ·cases h
  ·cases h
 ·cases h
end Go.Proofs.YtkoioidpbbbaiaaGreat.Ab


namespace Go.Proofs.YtkoioidpbbbaiaaGreat.Ab
open Go
noncomputable def afN:gE :=
 .ov false [p1 5 0,p3 6 2,p1 7 2,p0 8 [.Bs 7] (.conv .u64),p0 9 [.cv (.func 79 [] []),.nc 8] (.call 3),p0 10 [.cv (.func 103 [] []),.jq 5,.cv (.int .i64 0),.jq 6,.jq 9] (.call 1)]
noncomputable def R2:gE :=
 p2 [p3 3 0,qW 4 3,p1 2 4] afN
theorem VA:qo Go.Proofs.Tryz.prog TS 86=some (R2,11,[]):=by kernel_rfl
noncomputable def NF:gE :=
 p2 [p1 24 0,p1 25 1,p1 26 2,p0 27 [.cv (.func 110 [] []),.jq 24,.jq 25,.jq 26] (.call 1)] .ret
noncomputable def ae0:gE :=
 p2 [p1 30 0,p1 31 1,p1 32 2,p0 33 [.cv (.func 111 [] []),.jq 30,.jq 31,.jq 32] (.call 1)] .ret
noncomputable def ae1:gE :=
 p2 [p3 36 0,p3 37 1,p3 38 2,p0 39 [.cv (.func 112 [] []),.jq 36,.jq 37,.jq 38] (.call 1)] (qO [p1 40 3,qy 41 40 1 .sub,p1 3 41])
noncomputable def ae2:gE :=
 p2 [p3 55 2,qy 56 55 1 .sub,p1 57 11,p3 58 1,qn 59 57 58 .sub,qn 60 56 59 .sub,p1 11 60] (qO [qf 12 1])
noncomputable def ae3:gE :=
 p2 [p3 51 0,p3 52 1,p3 53 2,p0 54 [.cv (.func 114 [] []),.jq 51,.jq 52,.jq 53] (.call 1)] ae2
noncomputable def ae4:gE :=
 p2 [p3 69 0,p3 70 1,p3 71 2,p0 72 [.cv (.func 115 [] []),.jq 69,.jq 70,.jq 71] (.call 1)] (.cond (.nc 72) .ret .skip)
noncomputable def ae5:gE :=
 p2 [p3 88 0,p1 89 1,p3 90 2,p1 91 11,p0 92 [.cv (.func 117 [] []),.jq 88,.jq 89,.jq 90,.jq 91] (.call 1),p1 13 92] (p2 [p1 93 13,p1 1 93] (.exit 1))
noncomputable def ae6:gE :=
 p2 [p3 117 0,p1 118 1,p3 119 14,p3 120 3,p0 121 [.cv (.func 103 [] []),.jq 117,.jq 118,.jq 119,.jq 120] (.call 1)] (qO [p1 122 14,qV 123 122 1,p1 1 123])
noncomputable def ae7:gE :=
 p2 [p1 114 16,p1 115 18,qn 116 114 115 .geq,p1 8 116] ae6
noncomputable def aeS:gE :=
 p2 [p3 127 0,p3 128 14,qV 129 128 1,p1 130 2,p3 131 3,p0 132 [.cv (.func 103 [] []),.jq 127,.jq 129,.jq 130,.jq 131] (.call 1)] (qO [p1 133 14,p1 2 133])
noncomputable def aeT:gE :=
 p2 [p1 124 17,p1 125 18,qn 126 124 125 .geq,p1 8 126] aeS
noncomputable def aeU:gE :=
 p2 [p1 109 10,qy 110 109 8 .quo,p1 18 110] (p2 [p3 111 16,p3 112 17,qn 113 111 112 .lss] (.cond (.nc 113) ae7 aeT))
noncomputable def aeV:gE :=
 p2 [p3 103 14,p3 104 1,qn 105 103 104 .sub,p3 106 2,p3 107 14,qn 108 106 107 .sub,p1 16 105,p1 17 108] aeU
noncomputable def aeW:gE :=
 p2 [p3 95 0,p3 96 1,p3 97 2,p1 98 11,p0 99 [.cv (.func 118 [] []),.jq 95,.jq 96,.jq 97,.jq 98] (.call 1),p1 94 99,qB 100 94 0,p0 101 [.Bs 94] (.ext 1),p1 14 100,p1 15 101] (p2 [p1 102 15,p1 9 102] aeV)
noncomputable def aeX:gE :=
 .seq (.seq (ra [p3 73 1,qy 74 73 0 .gtr,p1 75 74,cl 76 [.nc 0] 75 true .mU,cl 77 [.nc 1] 75 true .mU,cl 78 [.Bs 77,.cv (.int .i64 1)] 75 true (.bin .sub),cl 79 [.Bs 76,.Bs 78] 75 true (.kY 1),cl 80 [.Bs 79] 75 true (.zE .one),cl 81 [.nc 0] 75 true .mU,cl 82 [.nc 11] 75 true .mU,cl 83 [.Bs 81,.Bs 82] 75 true (.kY 1),cl 84 [.Bs 83] 75 true (.zE .one),⟨some 85,[.cv (.func 116 [] []),.nc 80,.nc 84],some (75,true),none,.call 3⟩,cl 86 [.Bs 85] 75 true (.un .not),p0 87 [.nc 75,.Bs 86,.cv (.bool false)] .pick]) (.cond (.nc 87) ae5 .skip)) aeW
noncomputable def aeY:gE :=
 .seq (p2 [p3 61 8,p1 62 61,cl 63 [.nc 9] 62 true .mU,p0 64 [.Bs 62,.Bs 63,.cv (.bool false)] .pick,p1 65 64,cl 66 [.jq 12] 65 true .mU,cl 67 [.Bs 66,.cv (.int .i64 1)] 65 true (.bin .eql),p0 68 [.Bs 65,.Bs 67,.cv (.bool false)] .pick] (.cond (.nc 68) ae4 .skip)) aeX
noncomputable def aeZ:gE :=
 p2 [p3 43 0,p3 44 1,p3 45 2,p0 46 [.cv (.func 113 [] []),.jq 43,.jq 44,.jq 45] (.call 1),p1 42 46,qB 47 42 0,p0 48 [.Bs 42] (.ext 1),p1 11 47,p1 12 48] (.seq (p2 [p3 49 12,qy 50 49 2 .eql] (.cond (.nc 50) ae3 .skip)) aeY)
noncomputable def Rr:gE :=
 .seq (p2 [p3 28 3,qy 29 28 0 .eql] (.cond (.nc 29) ae0 .skip)) (.seq (p2 [p3 34 8,p0 35 [.Bs 34] (.un .not)] (.cond (.nc 35) ae1 .skip)) aeZ)
noncomputable def NG:gE :=
 .block 1 (p2 [p3 19 2,p3 20 1,qn 21 19 20 .sub,p1 10 21] (.seq (p2 [p3 22 10,qy 23 22 12 .leq] (.cond (.nc 23) NF .skip)) Rr))
noncomputable def Rq:gE :=
 p2 [p0 8 [.cv (.bool true)] .mU] (p2 [p0 9 [.cv (.bool true)] .mU] (.block 0 (.loop (some (p' false [0,4,4,2,124])) NG)))
theorem Vu:qo Go.Proofs.Tryz.prog Ta 103=some (Rq,134,[]):=by kernel_rfl
noncomputable def ae8:gE :=
 .block 3 (ra [p3 33 0,p3 34 7,p3 35 0,p3 36 7,qy 37 36 1 .sub,p3 38 0,p3 39 7,qy 40 39 1 .sub,re 41 38 40 1,qh 42 41,p3 43 0,p3 44 7,re 45 43 44 1,qh 46 45,re 47 33 34 1,⟨none,[.jq 47,.jq 42],none,none,.st 1⟩,re 48 35 37 1,⟨none,[.jq 48,.jq 46],none,none,.st 1⟩])
noncomputable def ae9:gE :=
 .seq (.seq (ra [p3 16 7,p3 17 1,qn 18 16 17 .gtr,p1 19 18,cl 20 [.nc 0] 19 true .mU,cl 21 [.nc 7] 19 true .mU,cl 22 [.Bs 20,.Bs 21] 19 true (.kY 1),cl 23 [.Bs 22] 19 true (.zE .one),cl 24 [.nc 0] 19 true .mU,cl 25 [.nc 7] 19 true .mU,cl 26 [.Bs 25,.cv (.int .i64 1)] 19 true (.bin .sub),cl 27 [.Bs 24,.Bs 26] 19 true (.kY 1),cl 28 [.Bs 27] 19 true (.zE .one),⟨some 29,[.cv (.func 116 [] []),.nc 23,.nc 28],some (19,true),none,.call 3⟩,p0 30 [.nc 19,.Bs 29,.cv (.bool false)] .pick]) (.cond (.nc 30) .skip (.exit 2))) (.seq ae8 (qO [p1 31 7,qy 32 31 1 .sub,p1 7 32]))
noncomputable def ae_:gE :=
 .block 1 (p2 [p3 15 6,p1 7 15] (.block 2 (.loop (some (p' false [0,3,3,2,41])) ae9)))
noncomputable def afa:gE :=
 .seq (p2 [p3 10 6,p3 11 2,qn 12 10 11 .lss] (.cond (.nc 12) .skip (.exit 0))) (.seq ae_ (qO [p1 13 6,qV 14 13 1,p1 6 14]))
noncomputable def Rs:gE :=
 p2 [p3 8 1,qV 9 8 1,p1 6 9] (.block 0 (.loop (some (p' false [0,3,3,1,42])) afa))
theorem Vv:qo Go.Proofs.Tryz.prog Tc 110=some (Rs,49,[]):=by kernel_rfl
noncomputable def afb:gE :=
 p2 [p3 5 0,p0 6 [.cv (.func 123 [] []),.nc 5] (.call 3),p1 7 6,cl 8 [.nc 1] 7 true .mU,⟨some 9,[.cv (.func 123 [] []),.nc 8],some (7,true),none,.call 3⟩,cl 10 [.Bs 9] 7 true (.un .not),p0 11 [.Bs 7,.Bs 10,.cv (.bool false)] .pick,p1 12 11,cl 13 [.jq 0] 12 false .mU,cl 14 [.jq 1] 12 false .mU,cl 15 [.Bs 13,.Bs 14] 12 false (.bin .lss),p0 16 [.Bs 12,.cv (.bool true),.Bs 15] .pick,p1 4 16] .ret
noncomputable def Wn:gE :=
 p2 [p0 4 [.cv (.bool false)] .mU] afb
theorem ac2:qo Go.Proofs.Tryz.prog Td 116=some (Wn,17,[.tmp 4]):=by kernel_rfl
noncomputable def afc:gE :=
 p2 [p3 3 0,p1 4 0,qn 5 3 4 .neq,p1 2 5] .ret
noncomputable def Wo:gE :=
 p2 [p0 2 [.cv (.bool false)] .mU] afc
theorem ac3:qo Go.Proofs.Tryz.prog Tf 123=some (Wo,6,[.tmp 2]):=by kernel_rfl
end Go.Proofs.YtkoioidpbbbaiaaGreat.Ab


namespace Go.Proofs.YtkoioidpbbbaiaaGreat.Ab
open Go
set_option maxRecDepth 20000
set_option maxHeartbeats 4000000
theorem acG (x:Int):qw 123 [h0 x] (B false):=by
 refine QE eG ac3 rfl rfl ?_;unfold Wo;conv=>whnf
 exact Ke (.inr rfl) rfl (by rw [decide_eq_false (show ¬ (x≠x) from fun h=>h rfl)];rfl)
theorem acY (x y:Int):qw 116 [h0 x,h0 y] (B (decide (x<y))):=by
 refine QE eG ac2 rfl rfl ?_;unfold Wn;conv=>whnf
 refine ⟨by first | rfl | simp only [tx,tZ,Mm,Mu,Mn,Mp,Mo,Mq,Mw,Mv,Kc,Mr,Ms,Mt,tt,tW],_,acG x,?_⟩
 conv=>whnf
 exact Ke (.inr rfl) rfl rfl
def IA (d:Array Int):ar:=.cells (d.toList.map h0)
def Ko (id n:Nat):I:=.ref id 0 n none 1
theorem aaU (d:Array Int) (x:Nat) (h:x<d.size):(d.toList.map h0)[x]?=some (h0 d[x]!):=by
 simp [h]
theorem aaV (d:Array Int) (x:Nat) (v:Int):(d.toList.map h0).set x (h0 v)=(d.setIfInBounds x v).toList.map h0:=by
 simp [List.map_set]
theorem swp_size (d:Array Int) (i j:Nat):(Sort.swp d i j).size=d.size:=by simp [Sort.swp]
theorem Pf {d:Array Int} {n:Nat} (x:Nat) (e:n=x) (h:x<d.size) {K:I→Prop} (k:K (h0 d[x]!)):eJ (d.toList.map h0) n K:=by
 subst e;exact Ew (aaU d n h) k
theorem X8 {d:Array Int} {n:Nat} {v:Int} (x:Nat) (e:n=x) (h:x<d.size) {K:List I→Prop} (k:K ((d.setIfInBounds x v).toList.map h0)):jt (d.toList.map h0) n (h0 v) K:=by
 subst e;refine Gn (by simpa using h) ?_;rw [aaV];exact k
section
variable {H:List ar} {id lo:Nat} (bD:lo≤id)
include bD
theorem acF (d:Array Int) (a b:Nat) (a1:d.size≤1000) (cu:a≤b) (af:b≤d.size) (ag:H[id]?=some (IA d)) :
  Sem Go.Proofs.Tryz.prog (.fn 110) [Ko id d.size,h0 a,h0 b] H lo (.tuple []) (H.set id (IA (Sort.insertionSort Sort.ltInt d a b))):=by
 have aE:=(sa.1 ag).1;refine Ui eG Vv rfl ⟨by simp,fun j ab ae=>by rw [sd (by omega)]⟩ ?_;unfold Rs;conv=>whnf
 have CI:Nat.ble lo id=true:=Nat.ble_eq_true_of_le bD;have gs:∀ c:ar,(H.set id c)[id]?=some c:=fun c=>by rw [List.getElem?_set_self aE]
 have JZ:∀ c e:ar,((H.set id c).set id e)[id]?=some e:=fun c e=>by rw [sV,gs]
 rw [Pt a (by omega)];refine .intro (fun m T H'=>∃ i g',a+1≤i∧(i≤b∨i=a+1)∧m=b+1-i∧g'.size=d.size∧Sort.insOuter Sort.ltInt a b i g'=Sort.insertionSort Sort.ltInt d a b∧T=qc 49 [(0,Ko id d.size),(1,h0 a),(2,h0 b),(6,h0 i)]∧H'=H.set id (IA g')) (b-a) ⟨a+1,d,by omega,.inr rfl,by omega,rfl,rfl,rfl,?_⟩ ?_
 ·obtain ⟨ab,ae⟩:=sa.1 ag;rw [←ae,List.set_getElem_self]
 rintro m T H' ⟨i,g',aci,acj,rfl,CT,he,rfl,rfl⟩;conv=>whnf
 refine HE (fun h=>?_) (fun h=>?_)
 ·conv=>whnf
  refine .intro (fun j T H'=>∃ IL:Array Int,j≤i∧IL.size=d.size∧Sort.insInner Sort.ltInt a j IL=Sort.insInner Sort.ltInt a i g'∧T=qc 49 [(0,Ko id d.size),(1,h0 a),(2,h0 b),(6,h0 i),(7,h0 j)]∧H'=H.set id (IA IL)) i ⟨g',sc _,CT,rfl,rfl,rfl⟩ ?_;rintro j T H' ⟨IL,aw,QW,Lp,rfl,rfl⟩;conv=>whnf
  by_cases aF:(a:Int)<(j:Int)
  ·rw [decide_eq_true aF];obtain ⟨q,rfl⟩:∃ q,j=q+1:=⟨j-1,by omega⟩;(have hw:IntKind.i64.wrap (((q+1:Nat):Int)-1)=(q:Int):=by rw [HO _ (by omega) (by omega)];omega);(conv=>whnf);refine ⟨by omega,?_⟩;(conv=>whnf);refine Ew (by first | exact gs _ | exact JZ _ _ | assumption) ?_
   (conv=>whnf);refine Pf (q+1) (by omega) (by omega) ?_;(conv=>whnf);rw [hw];refine ⟨by omega,?_⟩;(conv=>whnf);refine Ew (by first | exact gs _ | exact JZ _ _ | assumption) ?_
   (conv=>whnf);refine Pf (q) (by omega) (by omega) ?_;(conv=>whnf);refine ⟨by first | rfl | simp only [tx,tZ,Mm,Mu,Mn,Mp,Mo,Mq,Mw,Mv,Kc,Mr,Ms,Mt,tt,tW],_,acY IL[q+1]! IL[q]!,Hg,?_⟩
   (conv=>whnf);by_cases ba:IL[q+1]!<IL[q]!
   ·rw [decide_eq_true ba];(conv=>whnf);rw [hw];refine ⟨by omega,?_⟩;(conv=>whnf);refine Ew (by first | exact gs _ | exact JZ _ _ | assumption) ?_
    (conv=>whnf);refine Pf (q) (by omega) (by omega) ?_;(conv=>whnf);refine ⟨by omega,?_⟩;(conv=>whnf);refine Ew (by first | exact gs _ | exact JZ _ _ | assumption) ?_
    (conv=>whnf);refine Pf (q+1) (by omega) (by omega) ?_;(conv=>whnf);refine ⟨by omega,?_⟩;(conv=>whnf);rw [CI];(conv=>whnf);refine Ew (by first | exact gs _ | exact JZ _ _ | assumption) ?_
    (conv=>whnf);refine X8 (q+1) (by omega) (by first | omega | (simp only [Array.size_setIfInBounds];omega)) ?_
    (conv=>whnf);refine ⟨by omega,?_⟩;(conv=>whnf);rw [CI];(conv=>whnf);refine Ew (by first | exact gs _ | exact JZ _ _ | assumption) ?_
    (conv=>whnf);refine X8 (q) (by omega) (by first | omega | (simp only [Array.size_setIfInBounds];omega)) ?_
    (conv=>whnf);refine ⟨q,by omega,Sort.swp IL (q+1) q,by omega,by rw [swp_size];exact QW,?_,?_,?_⟩
    ·rw [←Lp,Sort.insInner,if_pos (by simp only [Sort.ltInt,sn,decide_eq_true_eq];exact ⟨by omega,ba⟩)]
    ·rw [hw];rfl
    ·simp only [sV];rfl
   ·rw [decide_eq_false ba];(conv=>whnf);have e:Sort.insInner Sort.ltInt a i g'=IL:=by
     rw [←Lp,Sort.insInner,if_neg (by simp only [Sort.ltInt,sn,decide_eq_true_eq];exact fun bE=>ba bE.2)]
    exact ⟨b+1-(i+1),by omega,i+1,IL,by omega,by omega,rfl,QW,by rw [←he,Sort.insOuter.eq_1 _ a b i,if_pos (by omega),e],by rw [←Pt i (by omega)];rfl,rfl⟩
  ·rw [decide_eq_false aF];(conv=>whnf);have e:Sort.insInner Sort.ltInt a i g'=IL:=by
    rw [←Lp];cases j with
    | zero=>rfl
    | succ q=>rw [Sort.insInner,if_neg (by simp only [sn,decide_eq_true_eq];exact fun bE=>by omega)]
   exact ⟨b+1-(i+1),by omega,i+1,IL,by omega,by omega,rfl,QW,by rw [←he,Sort.insOuter.eq_1 _ a b i,if_pos (by omega),e],by rw [←Pt i (by omega)];rfl,rfl⟩
 ·conv=>whnf
  have e:Sort.insertionSort Sort.ltInt d a b=g':=by
   rw [←he];unfold Sort.insOuter;rw [if_neg (by omega)]
  rw [e];exact ⟨.inl rfl,⟨by simp,fun j o aw=>.inr aw⟩,rfl⟩
theorem aeE (d:Array Int) (Jq:Int) (a1:d.size≤12) (ag:H[id]?=some (IA d)) :
  Sem Go.Proofs.Tryz.prog (.fn 103) [Ko id d.size,h0 0,h0 d.size,h0 Jq] H lo (.tuple []) (H.set id (IA (Sort.insertionSort Sort.ltInt d 0 d.size))):=by
 refine rA eG Vu rfl ⟨by simp,fun j ab ae=>by rw [sd (by omega)]⟩ fun Q bp=>?_;unfold Rq;obtain ⟨Qt,Jl⟩:∃ c,NG=c:=⟨_,rfl⟩;rw [Jl];conv=>whnf
 refine .intro (fun m T H'=>T=qc 134 [(0,Ko id d.size),(1,h0 0),(2,h0 d.size),(3,h0 Jq),(8,B true),(9,B true)]∧H'=H) 0 ⟨rfl,rfl⟩ ?_;rintro m T H' ⟨rfl,rfl⟩;subst Jl;unfold NG;obtain ⟨a7,cf⟩:∃ c,NF=c:=⟨_,rfl⟩;obtain ⟨Qs,K4⟩:∃ c,Rr=c:=⟨_,rfl⟩;rw [cf,K4];conv=>whnf
 rw [show IntKind.i64.wrap ((d.size:Int)-0)=(d.size:Int) by rw [HO _ (by omega) (by omega)];omega,decide_eq_true (show (d.size:Int)≤12 by omega)];conv=>whnf
 subst cf;unfold NF;conv=>whnf
 refine ⟨_,_,rq (acF bD d 0 d.size (by omega) (sE _) (sc _) ag),?_⟩;conv=>whnf
 exact bp _ _ _ ⟨.inr rfl,⟨rfl,fun j o aw=>.inr aw⟩,rfl⟩
end
theorem X9 (n:Int):IntKind.u64.wrap n=n % 18446744073709551616:=by simp [IntKind.wrap,IntKind.bits,IntKind.signed]
theorem acX:((List.range 13).all fun n=>match R6 [] 79 [.int .u64 (n:Nat)] with | some v=>I5 3 v (h0 (Sort.bitsLen n)) | none=>false)=true:=by kernel_rfl
theorem Ou (n:Nat) (h:n≤12):qw 79 [.int .u64 n] (h0 (Sort.bitsLen n)):=by
 have:=sm.1 acX n (sH.2 (by omega));split at this
 ·rename_i v ad;rw [Ot _ _ _ this] at ad;exact af7 (l:=[]) (by simp) ad
 ·cases this
theorem agh {H:List ar} {id lo:Nat} (bD:lo≤id) (d:Array Int) (a1:d.size≤12) (ag:H[id]?=some (IA d)) :
  Sem Go.Proofs.Tryz.prog (.fn 86) [Ko id d.size] H lo (.tuple []) (H.set id (IA (Sort.insertionSort Sort.ltInt d 0 d.size))):=by
 refine rA eG VA rfl ⟨by simp,fun j ab ae=>by rw [sd (by omega)]⟩ fun Q bp=>?_;unfold R2;conv=>whnf
 rw [show IntKind.u64.wrap (d.size:Int)=(d.size:Int) by rw [X9];omega];refine ⟨by first | rfl | simp only [tx,tZ,Mm,Mu,Mn,Mp,Mo,Mq,Mw,Mv,Kc,Mr,Ms,Mt,tt,tW],_,Ou d.size a1,?_⟩
 conv=>whnf
 refine ⟨_,_,rq (aeE bD d (Sort.bitsLen d.size) a1 ag),?_⟩;conv=>whnf
 exact bp _ _ _ ⟨.inl rfl,⟨rfl,fun j o aw=>.inr aw⟩,rfl⟩
end Go.Proofs.YtkoioidpbbbaiaaGreat.Ab
