
import Derived.Test.YtkoioidpbbbaiaaGreatJc1
import Derived.Test.YtkoioidpbbbaiaaGreatJc4
import Derived.Test.YtkoioidpbbbaiaaGreatProg
import Derived.KernelRfl
import Derived.IntWalk
import Derived.ProofKit
import Derived.Deep.Slices
import Derived.ChangeStays
import Derived.Below
import Derived.WalkKit
import Derived.Carry
set_option linter.unusedSimpArgs false
set_option linter.unusedVariables false
set_option linter.unusedSectionVars false

open Bool renaming and_eq_true→sq,false_eq_true→tP
open Classical renaming choose_spec→uz
open Int renaming add_zero→uZ
open List renaming all_eq_true→sn,append_assoc→sy,append_nil→sN,drop_eq_getElem_cons→s0,drop_zero→tq,flatMap_cons→uB,getElem?_append→sc,getElem?_append_left→si,getElem?_append_right→ss,getElem?_drop→sR,getElem?_eq_getElem→sj,getElem?_eq_some_iff→sa,getElem?_map→sm,getElem?_take→sI,length_append→sA,length_cons→sL,length_eq_zero_iff→sP,length_map→sX,length_take→s9,map_append→sJ,map_congr_left→tI,map_cons→sG,map_drop→tF,map_id→uX,map_map→vu,map_nil→uA,mem_append_left→vz,mem_append_right→vw,mem_cons_of_mem→tS,mem_cons_self→tY,mem_flatMap→tJ,mem_iff_getElem?→sW,mem_map→sD,mem_range→sH,perm_cons_erase→vB,take_of_length_le→td
open Nat renaming add_comm→tg,add_mul→ta,eq_of_beq_eq_true→sO,le_refl→sd,lt_succ_self→sv,mul_one→tn,zero_add→sC,zero_le→sE
open Option renaming bind_some→sb,map_some→sf
namespace Go.Proofs.YtkoioidpbbbaiaaGreat.Ab
open Go
abbrev pZ:bZ:={ cC:=[true] }
abbrev p6:bZ:={ cC:=[true,true] }
def p4 (l:List Nat):List bZ:=l.map fun n=>match n with
 | 0=>{}
 | 1=>pZ
 | _=>p6
def abb:dw:={ ops:=[[{ mode:=3 }]] }
def abe:dw:={ ops:=[[pZ],[{},{ mode:=3 }],[{ mode:=3 },pZ],[{},{ mode:=3 },pZ,{},pZ,pZ,pZ],[{},{ mode:=3 },pZ,{},pZ,pZ,pZ],[{},{ mode:=3 },pZ,{},pZ,pZ,pZ],[{},{ mode:=3 },pZ,{},pZ,pZ,pZ],[{},{ mode:=3 },pZ,{},pZ,pZ,pZ],[pZ,{ mode:=3 },pZ,{},pZ,pZ,pZ],[pZ,pZ,p6,pZ,pZ,pZ,p6,p6,pZ,pZ,pZ,{ mode:=3 },p6,pZ,pZ,pZ,p6,p6,pZ,pZ,pZ,p6,p6,pZ,pZ,pZ,p6,p6,pZ,{ mode:=3 },p6,pZ]] }
def abg:dw:={ ops:=[[pZ],[{},{ mode:=3 },pZ,{},pZ,pZ,{ cC:=[true,false,true] },pZ,{},pZ,pZ,{ cC:=[true,false,true] }],[{ mode:=3 },pZ],[{},{},{},{ mode:=3 },pZ,{},pZ,pZ,pZ],[{},{},pZ,{ mode:=3 },pZ,{},pZ,pZ,pZ],[{},{},{ mode:=3 },pZ,{},pZ,pZ,pZ],[{},{},{ mode:=3 },pZ,{},pZ,pZ,pZ],[{},{},{ mode:=3 },pZ,{},pZ,pZ,pZ],[pZ,pZ,p6,pZ,pZ,pZ,p6,{ cC:=[true,false,true] },pZ,pZ,{},p6,{ cC:=[true,false,true] },pZ,pZ,{},p6,{ cC:=[true,false,true] },pZ,pZ,{},p6,{ cC:=[true,false,true] },pZ,{},pZ,pZ,{ cC:=[true,false,true] }],[],[pZ,pZ],[pZ,pZ,pZ,pZ,{ mode:=3 },p6,pZ],[pZ,pZ,pZ,{ mode:=3 },pZ,{},pZ,pZ,pZ],[pZ,pZ,pZ,pZ,pZ,p6,p6,pZ,{ mode:=3 },p6,pZ]] }
def abj:dw:={ ops:=[[pZ],[{},{ mode:=3 }],[{ mode:=3 },pZ],[{},{ mode:=3 },pZ,{},pZ,pZ,pZ],[pZ,{ mode:=3 },pZ,{},pZ,pZ,pZ],[pZ,pZ,{ mode:=3 },pZ,pZ,pZ,p6,p6,pZ,{ mode:=3 },p6,pZ]] }
def abl:dw:={ ops:=[[pZ],[{},{ mode:=3 },pZ,pZ,{},pZ,pZ,{ cC:=[true,false,true] }],[{ mode:=3 },pZ],[{},{ mode:=3 },pZ,{},pZ,pZ,pZ],[{},pZ,pZ,pZ,{ mode:=3 },pZ],(p4 [0,1,1,1,1,0,1,1,0,1,1,2,1,2,2,1]),[{},{},{ mode:=3 },pZ,{},pZ,pZ,pZ],[{},{},{},pZ,pZ,{ mode:=3 },pZ,{},{},pZ,pZ,pZ,pZ],[{},{},{},pZ,pZ,{ mode:=3 },pZ,{},{},pZ,pZ,pZ,pZ],[{},pZ,pZ,{ mode:=3 },pZ,{},{},pZ,pZ,pZ,pZ],[pZ,{ mode:=3 },pZ,{},pZ,pZ,pZ],[pZ,pZ,pZ,pZ,pZ,{ cC:=[true,false,true] },pZ,pZ,pZ,{ cC:=[true,false,true] },pZ,pZ,pZ,{ cC:=[true,false,true] },pZ,pZ,pZ,{ cC:=[true,false,true] },pZ,pZ,pZ,{ cC:=[true,false,true] },pZ,{},{},p6,{ cC:=[true,false,true] },pZ,{},pZ,pZ,pZ,p6,{ cC:=[true,false,true] },pZ,{},pZ,{ cC:=[true,false,true] },pZ,{},pZ,pZ,pZ,pZ,p6,{ cC:=[true,false,true] }],[],[{},pZ,{ mode:=3 },pZ,{ mode:=3 },pZ,{ mode:=3 },pZ,{ mode:=3 },{ cC:=[true,true,true,true] },p6,pZ,pZ,{ mode:=3 },{},p6,p6,pZ,pZ,{ mode:=3 },pZ,p6,p6,pZ,{ mode:=3 },p6,pZ]] }
def abn:dw:={ two:=[(5,[0,1,2,7,3,4,5,6,8],3,7)],ops:=[[{ cC:=[true],mode:=1 }],[{},{ mode:=3 },pZ,pZ,{},pZ,pZ,{ cC:=[true,false,true] }],[{ mode:=3 },pZ],(p4 [0,1,1,1]),[{},pZ,{ mode:=3 },pZ],[{},{},{ cC:=[true],mode:=3 },{ cC:=[true,true],mode:=2 },{},{ cC:=[true],mode:=3 },p6,{},{ cC:=[false,true] }],[],(p4 [0,0,1,2]),(p4 [1,1,1]),(p4 [0,1,0,0,1,0,2,2,1,0,1,0,0,2,1,2,1,2,2]),[{ mode:=6 },{},{ mode:=3 },pZ,{},pZ,pZ,pZ],[{},{ mode:=3 },pZ,{},pZ,pZ,pZ],[{},{ mode:=3 },pZ,{},pZ,pZ,pZ],[{},pZ,{ mode:=3 },pZ,{},pZ,pZ,pZ],[pZ,{ mode:=3 },pZ,{},pZ,pZ,pZ],[pZ,pZ,pZ,pZ,pZ,p6,pZ,pZ,p6,pZ,pZ,pZ,p6,pZ,pZ,pZ,p6,pZ,pZ,pZ,p6,pZ,pZ,pZ,p6,pZ,pZ,pZ,p6,pZ,pZ,pZ,p6,pZ,pZ,pZ,{ mode:=3 },{ mode:=3 },p6,pZ,{ mode:=3 },p6,pZ]],il:=[(0,(qc false [5,4,125]))] }
def Lg:dw:={ two:=[(4,[0,1,2,3,4,5,7,6,8,9],6,7)],ops:=[[{ cC:=[true],mode:=1 }],[{},{ mode:=3 },pZ,pZ,{},pZ,pZ,{ cC:=[true,false,true] }],[{ mode:=3 },pZ],[pZ,pZ,pZ,{ cC:=[false,true] },pZ],[{},{ cC:=[true],mode:=3 },pZ,{},{ cC:=[true],mode:=3 },pZ,{},{},{ cC:=[false,true] },{ cC:=[false,true] }],[],(p4 [0,0,1,1,2]),(p4 [1,1,1]),[{},pZ,{},p6,pZ,{},{ cC:=[false,true] }],[{},{ cC:=[true],mode:=1 },{},pZ,{},pZ,p6,{},pZ,{},pZ,pZ,p6,p6,pZ,p6,{},p6],[{},{ cC:=[true],mode:=1 },{},{},pZ,p6,{},pZ,pZ,p6,p6,pZ,p6,{},p6],[{},pZ,pZ,pZ,{ mode:=3 },pZ],[{},{ mode:=3 },pZ,{},pZ,pZ,pZ],[{},{},{},pZ,pZ,{ mode:=3 },pZ,{},{},pZ,pZ,pZ,pZ],[pZ,pZ,pZ,pZ,pZ,{ cC:=[true,false,true] },pZ,{},{ mode:=3 },pZ,{ cC:=[true,false,true] },pZ,{},{ mode:=3 },pZ,{ cC:=[true,false,true] }],[],[{},{ mode:=3 }],[{},{ mode:=3 },pZ,{},pZ,pZ,pZ],[pZ,{},{},pZ,pZ,{ mode:=3 },pZ,{},{},pZ,pZ,pZ,pZ],[pZ,pZ,pZ,pZ,pZ,{ cC:=[true,false,true] },pZ,pZ,{},p6,{ cC:=[true,false,true] },pZ,pZ,{},p6,{ cC:=[true,false,true] },pZ,pZ,{},p6,{ cC:=[true,false,true] }],[],[{},{ mode:=3 },pZ],[{ mode:=3 },pZ],[{},{ mode:=3 },pZ,{},pZ,pZ,pZ],[pZ,pZ,pZ,pZ,pZ,{ mode:=3 },pZ,{},{},pZ,pZ,pZ,pZ],[pZ,pZ,pZ,pZ,p6,pZ,pZ,{},pZ,p6,p6,p6,pZ,pZ,{},pZ,p6,p6,p6,pZ,pZ,pZ,pZ,p6,p6,p6,pZ,{ mode:=3 },p6,pZ]],il:=[(0,(qc false [1,3,1,1,5,4,199]))] }
def Rr:dw:={ ops:=[[{ cC:=[true],mode:=1 }],[{},{ mode:=3 },pZ,pZ,{},pZ,pZ,{ cC:=[true,false,true] }],[{ mode:=3 },pZ],(p4 [1,1,0,1,1,1,2,1]),[{},pZ,{},pZ,pZ,pZ,pZ,p6,{ cC:=[false,true] },{},pZ,pZ,pZ,pZ,p6,{ cC:=[false,true] },p6,p6,{},{ cC:=[false,true] }],[{},pZ,pZ,{},p6,{},pZ,pZ,{},p6,p6,pZ,{},{ cC:=[false,true] }],[],(p4 [0,0,1,1,2]),(p4 [1,1,1]),[{},{ cC:=[true],mode:=1 },{},{ cC:=[true],mode:=3 },{},p6,pZ,{ cC:=[true],mode:=3 },{},{},{ cC:=[true],mode:=3 },{},p6,pZ,{ cC:=[true],mode:=3 },p6,p6,{},{ cC:=[true],mode:=3 },{},p6,pZ,{ cC:=[true],mode:=3 },p6,pZ,p6,{},p6],[{},pZ,pZ,pZ,{ mode:=3 },pZ],[{},{ mode:=3 },pZ,{},pZ,pZ,pZ],[{},{ mode:=3 },pZ,{},pZ,pZ,pZ],[pZ,{},{ mode:=3 },pZ,{},pZ,pZ,pZ],[pZ,{},{ mode:=3 },pZ,{},pZ,pZ,pZ],[pZ,pZ,pZ,pZ,pZ,{ cC:=[true,false,true] },pZ,pZ,pZ,{ cC:=[true,false,true] },pZ,pZ,pZ,{ cC:=[true,false,true] },pZ,pZ,{},p6,{ cC:=[true,false,true] },pZ,pZ,{},p6,{ cC:=[true,false,true] }],[],[{},{ mode:=3 },pZ],[{ mode:=3 },pZ],[{},{ mode:=3 },pZ,{},pZ,pZ,pZ],[pZ,pZ,{ mode:=3 },pZ,{},pZ,pZ,pZ],[pZ,pZ,pZ,pZ,p6,p6,pZ,pZ,pZ,p6,pZ,pZ,pZ,p6,p6,pZ,{ mode:=3 },p6,pZ]],il:=[(0,(qc false [1,1,3,1,5,4,177]))] }
def Uh:dw:={ ops:=[[pZ],(p4 [1,1,1,1,1])] }
def Uk:dw:={ ops:=[[],[{ mode:=3 },{ mode:=3 },{ mode:=3 },{},{},{},{ cC:=[false,true] },{ cC:=[false,true] },{ cC:=[false,true] }],[{},{},{ mode:=3 },{ mode:=3 },pZ,{},{},{},pZ,pZ,pZ],[{},{},{ mode:=3 },{ mode:=3 },pZ,{},{},{},pZ,pZ,pZ],[{},{},{ mode:=3 },{ mode:=3 },pZ,{},{},pZ,pZ],[pZ,{},{ mode:=3 },{ mode:=3 },pZ,{},{},pZ,pZ],[{},{ mode:=3 },pZ,{},pZ,pZ,pZ],[{},{ mode:=3 },pZ,{},pZ,pZ,pZ],[{},{ mode:=3 },pZ,{},pZ,pZ,pZ],[{},{},{ mode:=3 },{ mode:=3 },pZ,{ mode:=3 },{ mode:=3 },pZ,{},{},pZ,pZ],[{},{},{ mode:=3 },{ mode:=3 },pZ,{ mode:=3 },{ mode:=3 },pZ,{},{},pZ,pZ],[{},{},{ mode:=3 },{ mode:=3 },pZ,{ mode:=3 },{ mode:=3 },pZ,{},{},pZ,pZ],[pZ,{},{ mode:=3 },{ mode:=3 },pZ,{},{},pZ,pZ],[{},{},{ mode:=3 },{ mode:=3 },pZ,{},{},pZ,pZ],[{},{ mode:=3 },pZ,{},pZ,pZ,pZ],[pZ,pZ,pZ,pZ,pZ,{ cC:=[true,false,true] },pZ,pZ,pZ,{ cC:=[true,false,true] },pZ,pZ,pZ,{ cC:=[true,false,true] },pZ,pZ,pZ,{ cC:=[true,false,true] },pZ,pZ,pZ,{ cC:=[true,false,true] },pZ,pZ,pZ,{ cC:=[true,false,true] },pZ,pZ,pZ,{ cC:=[true,false,true] },pZ,pZ,pZ,{ cC:=[true,false,true] },pZ,pZ,pZ,{ cC:=[true,false,true] },pZ,pZ,pZ,{ cC:=[true,false,true] },pZ,pZ,pZ,{ cC:=[true,false,true] },pZ,pZ,pZ,{ cC:=[true,false,true] }],[],[pZ,{},{ mode:=3 },pZ,{ mode:=3 },pZ,{},{},pZ,pZ],[pZ,pZ,pZ,pZ,pZ,p6,pZ,pZ,pZ,p6,pZ,pZ,pZ,p6,pZ,pZ,{},{ mode:=3 },{ mode:=3 },p6,pZ,pZ,pZ,p6,pZ,pZ,pZ,p6,pZ,pZ,pZ,p6,pZ,pZ,pZ,p6,pZ,pZ,pZ,p6,pZ,pZ,{},{ mode:=3 },{ mode:=3 },p6,pZ]] }
def Un:dw:={ ops:=[[pZ],[{},{ mode:=3 },pZ,{},pZ,pZ,pZ],[{},pZ],(p4 [1,0,1]),[pZ,pZ,{ mode:=3 },{},pZ,pZ,pZ]] }
def aa9:dw:={ ops:=[[pZ],[{},{ mode:=3 },pZ,{},pZ,pZ,pZ],[{},pZ],(p4 [1,0,1]),[pZ,pZ,{ mode:=3 },pZ]] }
def Up:dw:={ ops:=[[pZ],[pZ,{ mode:=3 },pZ,{},pZ,pZ,pZ],[{},pZ],(p4 [1,0,1]),[{},pZ,{},{ cC:=[false,true] }],[pZ,{ mode:=3 },{ mode:=3 },pZ],(p4 [1,1,0,1])] }
def aa_:dw:={ ops:=[[pZ],[{},{ mode:=3 },pZ],[pZ,{ mode:=3 },{},pZ],[{},pZ,pZ,{ mode:=3 },pZ],[{},{},{ mode:=3 },pZ],[{},{ mode:=3 },pZ],(p4 [0,1,1]),[pZ,{ mode:=3 },pZ],[{},{},{ mode:=3 },pZ],(p4 [0,0,2]),(p4 [0,1,1,1]),[pZ,pZ]],il:=[(0,(qc false [1,1,2,3,29]))] }
def Kp:dw:={ ops:=[[pZ],[pZ,{ mode:=3 },pZ,{},pZ,{},{ cC:=[false,true] },pZ],[{},pZ],(p4 [1,0,1]),[],[{},{ mode:=3 }],[pZ],[pZ,pZ,{ mode:=3 },pZ],(p4 [0,1,2]),[pZ,pZ]] }
def aba:dw:={ ops:=[[pZ],[{},{ mode:=3 },pZ],[pZ,{ mode:=3 },{},pZ],[],[{},pZ,pZ,{ mode:=3 },pZ],(p4 [0,1,1]),[pZ,{ mode:=3 },pZ],[{},{},{ mode:=3 },pZ],(p4 [1,1,1]),[pZ,pZ]],il:=[(0,(qc false [1,1,2,2,21]))] }
def Re:dw:={ ops:=[[],(p4 [0,1,0,1,2]),[],[],(p4 [0,0,1,2]),(p4 [1,1,1]),(p4 [0,0,2,1,0,0,2,1,2]),[],[]],il:=[(0,(qc false [0,2,3,1,20]))] }
def Uq:dw:={ ops:=[[{ cC:=[true],mode:=1 }],[{},{},pZ,{ mode:=2 },pZ,{},pZ,pZ,pZ],[{},pZ],(p4 [1,0,1]),[],[{},{},pZ,pZ,pZ,pZ,{ mode:=2 },pZ,pZ,pZ,p6],[],[],[{},pZ,{},{ cC:=[false,true] }],[pZ,{},pZ,pZ,pZ,{},pZ,pZ,{ mode:=3 },pZ,pZ,{},pZ,{ mode:=3 },{ cC:=[true,false,true] }],[],[{},pZ,pZ,pZ,pZ,{},pZ,{},pZ,{},{ cC:=[true],mode:=13 },pZ,p6,{ cC:=[true,true],mode:=13 },pZ],[pZ,pZ],[pZ,pZ,{ mode:=6 },pZ],[],(p4 [1,1,1])],il:=[(0,(qc false [1,3,4,1,1,1,22,3,38]))] }
def Rf:dw:={ ops:=[[pZ],[{},{},{ mode:=3 },pZ],[pZ,pZ,{ mode:=3 },{},pZ],[],(p4 [0,0,1,2]),(p4 [1,1,1]),[{},{},p6,pZ,{},{ cC:=[false,true] }],[{},pZ,pZ,pZ,{},pZ,{},pZ,pZ,p6,{ cC:=[false,false,true] },pZ,{},pZ,pZ,{},pZ,{},{},pZ,p6,pZ,pZ,p6,{ cC:=[false,true] },{ cC:=[false,false,true] },pZ,{},pZ,{ mode:=3 },pZ,{ cC:=[false,false,true] }],[],[pZ,{},{ mode:=3 },pZ,{ mode:=3 },pZ],[],(p4 [1,1,1])],il:=[(0,(qc false [1,3,4,1,58]))] }
def Ur:dw:={ ops:=[[pZ],[pZ,pZ,{ mode:=3 },pZ,{},pZ,pZ,pZ],(p4 [1,1,1,1,1])] }
def abc:dw:={ ops:=[[pZ],[{},{},{ mode:=3 },pZ],[pZ,pZ,{ mode:=3 },{},pZ],[pZ,pZ,{ mode:=3 },pZ]] }
def Pl:dw:={ ops:=[[{ cC:=[true],mode:=1 }],[pZ,{},pZ,{ cC:=[false,true,true],mode:=8 },pZ,{},pZ,pZ,pZ],[{},pZ],(p4 [1,0,1]),[{},{},{ cC:=[false,true,true],mode:=1 },pZ,pZ,{ cC:=[false,true,true],mode:=1 },p6,{ cC:=[false,true],mode:=1 },{ cC:=[true],mode:=1 }],[{},{ cC:=[false,true],mode:=1 }],[{},pZ,{ cC:=[false,true] },pZ],(p4 [0,1,2]),[pZ,pZ]] }
def Kq:dw:={ ops:=[[{ cC:=[true],mode:=1 }],[pZ,{ cC:=[false,true],mode:=8 },pZ,{},pZ,{},{ cC:=[false,true] },pZ],[{},pZ],(p4 [1,0,1]),[],[{},{ cC:=[false,true],mode:=9 }],[pZ],[],[],(p4 [0,0,1,1,1]),[{},{ cC:=[false,true] },pZ,pZ],[{},{},{},pZ,{ cC:=[false,true] },{ cC:=[false,true,true,true],mode:=1 },pZ,{},pZ,pZ,pZ],[{},{},{},pZ,pZ,pZ,{ cC:=[false,true,true,true,true],mode:=1 },pZ,{},pZ,pZ,pZ],(p4 [1,1,1,2]),[pZ,{ cC:=[false,true] },pZ],[pZ,pZ],(p4 [0,0,2]),[],[],[pZ],[],(p4 [0,0,1,1]),[pZ,pZ],[{},{},pZ,pZ,pZ,{ cC:=[true,true,true] },pZ,pZ,p6,pZ],[pZ,pZ],[pZ,pZ]],il:=[(2,(qc false [4,1,1,2,20,3,55])),(4,(qc false [14,1,53,2,16]))] }
def abd:dw:={ ops:=[[pZ],[{},{ mode:=3 },pZ],[pZ,{ mode:=3 },{},pZ],(p4 [0,1,1,1]),[],[{},{ mode:=3 },pZ],(p4 [0,1,1]),[pZ,{ mode:=3 },pZ],[{},{},{ mode:=3 },{},{},{ mode:=3 },pZ,pZ],[],(p4 [0,0,2]),(p4 [1,1,1]),[{},{},{},p6,pZ,p6,pZ,pZ,pZ,{},pZ,pZ,pZ,{},{ cC:=[false,true] },pZ,{},{},{},{ cC:=[false,true] },{ mode:=3 },{ cC:=[false,true] },pZ,{},pZ,pZ,pZ,{},{ cC:=[false,true] },pZ,{},{},{},{ cC:=[false,true] },{ mode:=3 },{ cC:=[false,true] },{ cC:=[false,false,true] },{ cC:=[false,true] }],[pZ,{},{},p6,pZ,{ cC:=[false,true] },p6,pZ],[],[],(p4 [0,0,2]),(p4 [1,1,1]),(p4 [0,0,2,1,1]),(p4 [1,0,1,2,1]),[pZ,pZ]],il:=[(0,(qc false [1,1,2,3,91])),(2,(qc false [1,1,2,6,88])),(4,(qc false [4,2,4,2,86]))] }
def Us:dw:={ ops:=[[pZ],[{},{ mode:=3 },pZ,pZ,pZ,{ mode:=3 },pZ,p6,pZ]] }
def Ut:dw:={ ops:=[[pZ],[{},{ mode:=3 },pZ,{},pZ,pZ,pZ],[{},{ mode:=3 },pZ,{},pZ,pZ,pZ],[pZ,pZ,pZ,pZ,pZ,{ cC:=[true,false,true] },pZ,{},{},pZ,pZ,{ mode:=3 },pZ,{ cC:=[true,false,true] }],[pZ,pZ],[{},{},{ mode:=3 },pZ,{},pZ,pZ,pZ],[{},pZ,pZ,pZ,pZ,{},p6,p6,pZ,pZ,pZ,{ mode:=3 },pZ,p6,p6,pZ,pZ]] }
def Ob:dw:={ ops:=[[],[],[],(p4 [0,0,2]),(p4 [1,1,1]),(p4 [1,0,1,2,1]),[],(p4 [0,1,1]),(p4 [1,1,1]),[],(p4 [0,1,1]),(p4 [0,0,0,1,2,2,1,1,0,1,2,1]),(p4 [1,0,0,2,1,1,2,1]),(p4 [0,0,0,2,2,0,0,1,2,2,1]),[pZ,pZ]],il:=[(0,(qc false [0,2,3,3,48])),(2,(qc false [1,1,3,2,1,1,47]))] }
def Uu:dw:={ ops:=[[pZ],[pZ,{},pZ,{ mode:=3 },pZ,{},pZ,pZ,pZ],[{},pZ],(p4 [1,0,1]),[pZ,pZ,{ mode:=3 },pZ]] }
def Uv:dw:={ ops:=[[pZ],[{},{},pZ,{ mode:=3 },pZ,{},pZ,pZ,pZ],(p4 [0,1,1]),(p4 [1,0,0,1]),[{},pZ,pZ,pZ,pZ,pZ,{},pZ,{ mode:=3 },pZ,pZ],[],[pZ,pZ,pZ,{ mode:=3 },{},{ cC:=[false,true] }],(p4 [0,1,0,1,1,1])] }
def Uw:dw:={ ops:=[[],(p4 [0,1,1,2,1])] }
def abf:dw:={ ops:=[[],[],[],(p4 [0,0,2]),(p4 [1,1,1]),(p4 [1,0,1,2,1]),[pZ,pZ]],il:=[(0,(qc false [0,1,2,2,10]))] }
def Ux:dw:={ ops:=[[],[{},{ mode:=3 },{ cC:=[false,true] }]] }
def Uy:dw:={ ops:=[[],[{},{ mode:=3 },{ cC:=[false,true] }]] }
def Uz:dw:={ ops:=[[],[{},{ mode:=3 },{ cC:=[false,true] }]] }
def UA:dw:={ ops:=[[],[pZ,pZ]] }
def UB:dw:={ ops:=[[],[pZ,pZ]] }
def UC:dw:={ ops:=[[],[pZ,pZ,pZ,p6,p6,{ cC:=[false,true] }]] }
def Rg:dw:={ ops:=[[pZ],[],(p4 [0,1,1,1]),(p4 [0,0,1,1,2]),(p4 [1,1,1]),[{},{},{},{ mode:=3 },{},{},{},{ mode:=3 },pZ,pZ],[pZ,{},pZ,pZ,{},pZ,pZ,{ cC:=[true,true,true,true,true] },pZ],[pZ,pZ]],il:=[(0,(qc false [1,2,2,2,29]))] }
def Le:dw:={ ops:=[[pZ],[{},{ mode:=3 },pZ],[{},pZ],(p4 [1,0,1]),[pZ],[],(p4 [0,1,1]),[{},{ mode:=3 },{ mode:=3 },pZ],[pZ],[],(p4 [0,0,1,1,1]),(p4 [1,1,2]),[],[pZ,pZ],(p4 [1,1,0,1,1,2]),[],[pZ,pZ],(p4 [1,0,2,1,1])],il:=[(0,(qc false [2,1,14,3,28])),(2,(qc false [2,1,5,1,8,3,6,3,19]))] }
def UD:dw:={ ops:=[[],[],(p4 [0,1,1,1,1,1,0,1,1,1,1,1,2]),[],(p4 [0,1,1]),[{},{},pZ,{ mode:=3 }],[],[{},pZ],[pZ,{},pZ,pZ,{ cC:=[true,true,true] },pZ],[pZ,pZ],[pZ,pZ],[pZ,pZ]],il:=[(0,(qc false [0,2,3,1,16,3,18])),(2,(qc false [0,2,3,1,16,3,6,2,10]))] }
def UE:dw:={ ops:=[[],(p4 [1,0,1])] }
def UF:dw:={ ops:=[[pZ],[pZ,pZ]] }
def Rh:dw:={ ops:=[[],(p4 [0,1,1,1]),[pZ,pZ],[],(p4 [0,1,1]),[{},{},{},{ mode:=6 }],[pZ,pZ],[pZ,pZ],[pZ,pZ]],il:=[(0,(qc false [1,1,3,1,6,3,10]))] }
def UG:dw:={ ops:=[[],[{},pZ,{ mode:=3 },{},pZ,{ mode:=3 },p6,pZ]] }
def Pm:dw:={ ops:=[[pZ],(p4 [0,1,1,1]),(p4 [0,1,1,0,1,2,1,0,1,2]),[],[],(p4 [0,0,2]),(p4 [1,1,1]),[{},pZ,{},p6,pZ,{ mode:=3 },pZ],[],[{},pZ,pZ,pZ,pZ,{},pZ,pZ,{},pZ,pZ,p6,{ cC:=[true,false,true] },pZ,pZ,pZ,pZ,pZ,{ cC:=[true,false,true] }],[],[]],il:=[(0,(qc false [1,1,1,2,44]))] }
def abh:dw:={ ops:=[[pZ],[{},{},{},pZ,pZ,{ mode:=3 },{},{},{},pZ,pZ,{ mode:=3 },pZ,pZ],[{},{},{},pZ,pZ,{ mode:=3 },{},{},{},pZ,pZ,{ mode:=3 },pZ,pZ],[{},pZ,pZ,{},pZ,pZ,{},pZ,pZ,{},pZ,pZ,{ cC:=(qc false [0,8]) },pZ]] }
def abi:dw:={ ops:=[[],(p4 [0,1,1]),(p4 [0,1,1]),[{},pZ],(p4 [1,1,1]),(p4 [0,0,2,1,0,0,1,2,1,2]),[],(p4 [0,1,1]),(p4 [0,0,2]),(p4 [1,1,1]),[{},{},p6,pZ,{},{},p6,pZ,p6,pZ,{},pZ,pZ,{},{},p6,pZ,{},p6,{ cC:=[false,false,true] },{ cC:=[false,true] }],(p4 [0,0,2,1,1]),(p4 [0,1,1,2,2,1,1,2,1]),[],(p4 [0,0,2]),(p4 [1,1,1]),[{},{},{ mode:=3 },pZ],(p4 [1,0,1,2,1]),[pZ,pZ],[]],il:=[(0,(qc false [0,1,2,2,76])),(2,(qc false [0,1,2,4,74])),(4,(qc false [3,1,3,2,72]))] }
def UH:dw:={ ops:=[[],[{},pZ],[],[{},pZ,p6,{ cC:=[true],mode:=1 }]] }
def UI:dw:={ ops:=[[pZ,pZ],[pZ,p6,{ mode:=6 },pZ,pZ]] }
def UJ:dw:={ ops:=[[pZ],[{},pZ,pZ,{ mode:=3 },pZ,pZ,pZ,pZ,pZ,{ mode:=3 },pZ,{ cC:=[true,false,true] },pZ]] }
def Ri:dw:={ ops:=[[pZ],[{},{ mode:=3 },pZ],[pZ,{ mode:=3 },pZ],(p4 [0,1,0,1,1,2]),[],[],(p4 [0,0,1,2]),(p4 [1,1,1]),[{},{},p6,pZ,pZ,pZ,{},{},p6,pZ,{},pZ,pZ,p6,{ cC:=[false,false,true] },pZ,{},{},p6,{},{},p6,pZ,{ mode:=3 },{ cC:=[false,false,true] }],[],[]],il:=[(0,(qc false [1,2,2,1,42]))] }
def UK:dw:={ ops:=[[pZ],(p4 [0,1,1,1,0,1,1,2,1,0,1,1,2,1,1,1,1,2,1])] }
def Rj:dw:={ two:=[(1,[0,1,2,7,3,4,5,6,8],3,7)],ops:=[[{ cC:=[true],mode:=1 }],[{},{},{ cC:=[true],mode:=3 },{ cC:=[true,true],mode:=2 },{},{ cC:=[true],mode:=3 },p6,{},{ cC:=[false,true] }],[],(p4 [0,0,1,2]),(p4 [1,1,1]),(p4 [0,1,0,0,2,1,1,0,0,2,1,1,2,2]),[pZ,{ cC:=[false,true] }]],il:=[(0,(qc false [1,1,2,3,27]))] }
def abk:dw:={ ops:=[[pZ],[{},{},{ mode:=3 },{},{},{ mode:=3 },p6,pZ]] }
def UL:dw:={ ops:=[[],[],[],[],(p4 [0,1,1]),(p4 [1,1,1,2,1]),[{},pZ],[{},pZ],[pZ,pZ],(p4 [1,0,1]),[pZ],[],(p4 [0,1,1]),(p4 [1,1,2,1]),[pZ,pZ],[pZ,pZ]],il:=[(0,(qc false [0,1,2,1,5,3,24])),(2,(qc false [6,1,18,3,8]))] }
def LM:dw:={ ops:=[[],[{},{},{},{ cC:=[false,true,true,true],mode:=1 },pZ,{},pZ,pZ,pZ],[pZ],[],[],[{},pZ],[],[{},pZ],(p4 [0,1,0,2]),[{},{},{},{},pZ,{ cC:=[false,true,true,true,true],mode:=1 },pZ,{},pZ,pZ,pZ],[pZ],[pZ,pZ],[{},{},{ cC:=[false,true,true],mode:=9 },pZ],(p4 [1,1,1,2,1]),[pZ,pZ],[],[pZ],[],(p4 [0,1,1]),(p4 [1,0,0,2,1,0,1,1,1,1,0,0,1,1,0,2,2,1,2,1,2,1,2,1]),[pZ,pZ],[pZ,pZ]],il:=[(0,(qc false [0,3,6,1,15,2,57])),(2,(qc false [0,2,11,1,39,3,28]))] }
def UM:dw:={ ops:=[(p4 [0,1,1]),[pZ,{},pZ,pZ,{ mode:=3 },pZ,{ cC:=[false,true,false,true,true,true],mode:=1 }]] }
def UN:dw:={ ops:=[[pZ,pZ],(p4 [1,1,1,1,2,1])] }
def M6:dw:={ ops:=[[],[{},{},pZ,{},{ cC:=[false,true,true,true,true],mode:=9 },{},{ cC:=[false,true] }],(p4 [0,1,1,1,1,1,0,1,1,1,1,1,2,1]),(p4 [0,1,1]),[{},{},p6,pZ,pZ,pZ,{},pZ,{},pZ,pZ,pZ,pZ,pZ,pZ,pZ,p6,p6,pZ,{ cC:=[false,true] },{ cC:=[false,false,true] },{},pZ],[{},pZ,pZ,pZ,{},{},pZ,pZ,{ cC:=[false,true,true],mode:=9 },p6,pZ,{},{},pZ,pZ],[pZ,pZ],[{},{},{},pZ,pZ,{ cC:=[false,true,true],mode:=9 },{ mode:=2 },pZ],[{},pZ,pZ,pZ,{},{},pZ,pZ,{ cC:=[false,true,true],mode:=9 },{},{ cC:=[true,true,true] }],[{},pZ,pZ,{},pZ,pZ,p6,{},{ cC:=[false,true] }],[pZ],[{},pZ,pZ,{},pZ,pZ,pZ,pZ,pZ,pZ,pZ,p6,p6,pZ,{ cC:=[false,true] }],[pZ,pZ,p6,pZ,{},pZ,{},{ cC:=[false,true] },pZ],[pZ,pZ],[],(p4 [1,1,1,1,2,1,1,2,1,1])] }
def abm:dw:={ ops:=[[pZ],[],[],[pZ,pZ],(p4 [0,0,1,2]),(p4 [1,1,1]),[{},pZ,{},{},p6,pZ,p6,pZ,{},{},pZ,{ mode:=3 },{},{ cC:=[false,true] },pZ],(p4 [0,0,2,1,1]),(p4 [1,1,1,2,1]),(p4 [1,0,0,1,2,2,1,0,0,1,2,2,1,1]),(p4 [0,1,1,1]),(p4 [0,1,1,1,2]),[pZ,{},{ cC:=[false,true] },{},{ cC:=[false,true] },{ cC:=[false,true] },pZ,pZ,pZ,pZ,p6,p6,{ mode:=3 },pZ],[{},pZ,pZ,{ mode:=3 },pZ,pZ,pZ,pZ,{ mode:=3 },p6,pZ]],il:=[(0,(qc false [1,1,1,2,4,4,74]))] }
def Rk:dw:={ ops:=[[],(p4 [0,1,0,2]),[],[],(p4 [0,0,2]),(p4 [1,1,1]),[{},{},p6,pZ,pZ,pZ,{},{},p6,pZ,{},p6,{ cC:=[false,false,true] },pZ,{},{},p6,{},{},p6,pZ,{ mode:=3 },{ cC:=[false,false,true] }],[],[]],il:=[(0,(qc false [0,2,3,1,32]))] }
def UO:dw:={ ops:=[[],[],[{},pZ],[],[],[{},pZ],[{},{},{},{ mode:=3 },{},{ cC:=[false,true] }],[pZ,{},pZ,pZ,pZ,{},p6,p6,{ cC:=[false,true] },p6],[pZ,pZ],[pZ,{ cC:=[false,true] }]],il:=[(0,(qc false [0,3,3,2,3,1,17]))] }
def Rl:dw:={ ops:=[[],[pZ,pZ,p6,pZ,{},{ cC:=[false,true] }],[],(p4 [0,1,0,1,2]),(p4 [1,1,1]),[{},{ cC:=[true],mode:=1 },{},{},p6,pZ,{},{},pZ,p6,pZ,p6,pZ,p6,{},p6],[pZ,{ cC:=[false,true] }]],il:=[(0,(qc false [2,1,3,3,27]))] }
def Rm:dw:={ ops:=[[pZ],[],[],(p4 [0,0,1,2]),(p4 [1,1,1]),(p4 [0,1,0,2]),[{},pZ,{},{},p6,pZ,p6,pZ,{},{ cC:=[false,true] }],[pZ,{},{},pZ,{ mode:=3 },{},pZ,{},pZ,{},p6,p6,p6,p6,pZ],[pZ,pZ]],il:=[(0,(qc false [1,4,4,2,34]))] }
def Rn:dw:={ ops:=[[pZ],[{},pZ,pZ,pZ,{ mode:=3 },pZ,pZ,{},pZ,pZ,pZ,pZ,{ cC:=[true,false,true] },pZ],[],[{},pZ,{ mode:=3 },pZ,{},pZ,pZ,{},pZ,pZ,p6,{ mode:=3 },pZ,{ cC:=[true,false,true] },pZ,{},pZ,pZ,pZ,pZ,pZ,p6,{ cC:=[true,false,true] },pZ],[],[]] }
def UQ:dw:={ ops:=[[],(p4 [1,0,1]),[{ cC:=[true],mode:=1 },{ cC:=[false,true],mode:=1 }],[{ cC:=[true],mode:=2 },pZ]] }
def UR:dw:={ ops:=[[pZ],[pZ,pZ]] }
def Kr:dw:={ ops:=[[pZ],[pZ],[pZ],[{ mode:=1 },pZ,pZ,p6,p6],[{ cC:=[true],mode:=1 },pZ]] }
def US:dw:={ ops:=[[pZ],[],[],[{ cC:=[true,true,true] },{ cC:=[false,true] }],[pZ,{ cC:=[true],mode:=1 }]] }
def Lf:dw:={ ops:=[[],(p4 [0,1,0,1,1,1,1,1,2]),[pZ,pZ,{ cC:=[true,true],mode:=1 },pZ],(p4 [1,1,1,1,1,1]),[],[{},pZ],[{},{ cC:=[false,true] },pZ,pZ],[{},{ cC:=[false,true] },pZ],[{},{},{},pZ,{},pZ,{ cC:=[true,true,true] },{},pZ,p6,{ cC:=[true,true],mode:=1 },pZ],[pZ,{ cC:=[false,true] },pZ],[pZ,pZ],[],[pZ,pZ],[]],il:=[(0,(qc false [0,1,2,2,21,2,24]))] }
def Ro:dw:={ ops:=[[],[],(p4 [0,0,1,2]),(p4 [1,1,1]),(p4 [0,0,2,1,0,2]),[],[]],il:=[(0,(qc false [0,2,3,1,12]))] }
def UT:dw:={ ops:=[[],[pZ,pZ,{ mode:=6 },pZ,pZ]] }
def UU:dw:={ ops:=[[],[{},pZ,p6,pZ,pZ,pZ,p6,{ cC:=[true,false,true] },pZ]] }
def abo:dw:={ ops:=[[pZ],[],[{},pZ],(p4 [1,1,1]),[],[{},{},pZ,{ cC:=[false,true] },p6],(p4 [1,1,1]),[],[],(p4 [0,0,1,2]),(p4 [1,1,1]),[pZ,pZ,{},{},p6,pZ,pZ,pZ,{},pZ,{},p6,{ cC:=[true,false,true] },p6,pZ],[pZ,pZ,{},{ mode:=3 },{},p6,p6,pZ,{},{},{},{},{ mode:=3 },p6],[pZ,pZ],[]],il:=[(0,(qc false [1,3,3,1,49])),(2,(qc false [1,3,3,2,48])),(4,(qc false [1,3,3,4,46]))] }
def abp:dw:={ ops:=[[],[{},pZ],[{},pZ],(p4 [1,0,1,0,1,2,2,1]),[{},pZ],(p4 [0,0,1,2,1,2,1,1,2,1]),[pZ,pZ]] }
def UW:dw:={ ops:=[[],(p4 [1,1,1,1,1,1,1,1,2,1])] }
def UX:dw:={ ops:=[[],[],(p4 [0,0,2,1]),[{},pZ],[pZ,pZ,pZ,pZ,{ cC:=[false,true,true,true,true],mode:=1 }],[{},pZ],[pZ,pZ,pZ,pZ,{ cC:=[false,true,true,true,true],mode:=1 }],[{},pZ],[{},{},{},{},{ cC:=[false,true,true,true,true],mode:=1 }],(p4 [1,1,1]),[{},{},{},{},{ cC:=[false,true,true,true,true],mode:=1 },pZ,{},pZ,pZ,pZ],[{},pZ],[{},{},{},{},{ cC:=[false,true,true,true,true],mode:=1 }],(p4 [0,1,1,0,2,2,1]),[],(p4 [0,1,0,2,1,1,1,2]),[{},{},{},{},{ cC:=[false,true,true,true,true],mode:=1 }],[{},pZ,pZ,{},{},{},pZ,p6,pZ,{},{},p6,pZ,{ mode:=6 },pZ,pZ,{ cC:=[false,true] }],[{},pZ,{},pZ,{},{ cC:=[false,true,true,true,true,true],mode:=1 },pZ],[pZ,pZ],[{},{},{},pZ,{},{ cC:=[false,true,true,true,true,true],mode:=1 },pZ,{},pZ,pZ,pZ],[pZ,pZ],(p4 [0,0,2,0,0,2,1,1]),(p4 [1,1,1]),(p4 [0,0,2]),(p4 [1,1,2,1]),[{},pZ,{},{},{},{ cC:=[false,true,true,true,true,true],mode:=1 }],(p4 [1,1,1]),(p4 [1,1,2,1]),[{},{},pZ,pZ,{},{},{ cC:=[false,true,true,true,true,true],mode:=1 }],[pZ,pZ]],il:=[(0,(qc false [0,5,5,2,136]))] }
def abq:dw:={ ops:=[[],[pZ,pZ,{ mode:=3 },pZ],[pZ,{ mode:=3 },pZ]] }
def Rp:dw:={ ops:=[[],[],[pZ],[],(p4 [0,0,1,1,1]),[{},pZ,{},p6,pZ,{},{},{ mode:=3 },{ cC:=[true,false,true] }],[{},pZ,pZ,pZ,pZ,pZ,p6,pZ,{},{ cC:=[false,true] }],[{},pZ,{},{},{ mode:=3 },{},pZ,p6,p6,{},p6],[{},pZ,{},pZ,{ mode:=3 },pZ,pZ,p6,p6,{},p6],[pZ,pZ],[pZ,{ cC:=[false,true] }]],il:=[(0,(qc false [0,1,1,2,4,2,3,3,43]))] }
def LN:dw:={ ops:=[[],[{},pZ],[],[{},pZ],(p4 [1,1,1]),[],[{},pZ],(p4 [1,1,1]),[{},{},p6,{},{},p6,p6,{},{ cC:=[false,true] }],(p4 [0,1,1,1,1,1,0,1,1,1,1,1,2]),[{},{},{},{},pZ,pZ,pZ,pZ,pZ,p6,p6,p6,pZ,{ cC:=[false,true] }],[{},pZ,{},{},p6,{ cC:=[true,true,true] }],[{},pZ],[{},{},pZ,pZ,pZ,pZ,pZ,pZ,{ mode:=3 },pZ],[],(p4 [0,1,1,1,1]),[],[{},pZ,{},{ cC:=[false,true] }],(p4 [0,1,0,1,0,1,1,1,1,1,2,2,1]),[pZ,{},pZ,pZ,{},pZ,pZ,{ cC:=[true,true,true] },p6,p6,pZ],[pZ,pZ],[{},pZ],[{},pZ],[{},pZ,{},{ cC:=[false,true] }],[{},pZ,{},{},pZ,pZ,{ mode:=3 },pZ],(p4 [0,1,2]),[pZ,pZ]],il:=[(0,(qc false [0,2,3,2,116])),(2,(qc false [0,2,3,3,115])),(4,(qc false [0,1,4,1,3,2,66,3,43])),(6,(qc false [5,1,4,1,96,1,15]))] }
def UY:dw:={ ops:=[[],(p4 [1,1,1,2,1])] }
def abr:dw:={ ops:=[[],(p4 [0,1,1]),(p4 [1,1,1]),(p4 [0,1,1]),(p4 [1,1,1,1]),[{},pZ,pZ,{},{},p6,pZ,p6,pZ,{},{},p6,pZ,p6,p6,pZ,{},{},p6,pZ,p6,p6,pZ,pZ,pZ,pZ,pZ,pZ,p6,{ cC:=[true,false,true] },pZ],[{},pZ],(p4 [0,0,2]),(p4 [1,1,1]),[{},pZ,{},{},{},{},pZ,pZ,{},p6,p6,{ mode:=3 }],[],[]],il:=[(0,(qc false [0,4,6,1,59]))] }
def UZ:dw:={ ops:=[[],[pZ,pZ,{ mode:=6 },pZ,pZ]] }
def U0:dw:={ ops:=[[],(p4 [1,0,1])] }
def U1:dw:={ ops:=[(p4 [0,1,1]),[pZ,{},pZ,pZ,{ mode:=3 },{ cC:=[false,true,false,true,true],mode:=1 }]] }
def U2:dw:={ ops:=[[pZ],[],(p4 [0,1,1]),[{},pZ,{ cC:=[true,true],mode:=1 },pZ],[pZ,pZ]],il:=[(0,(qc false [0,1,4,3,8]))] }
def Rq:dw:={ ops:=[[],[{},pZ],[],[{},pZ],[{},{},{},p6,pZ,{ mode:=6 }],[pZ,pZ],[pZ,pZ],[]],il:=[(0,(qc false [0,2,5,2,10]))] }
def abt:dw:={ ops:=[[],[],[],[{},pZ],(p4 [1,1,1]),(p4 [1,0,0,2,1,2,1]),[pZ,pZ]],il:=[(0,(qc false [0,1,2,2,11]))] }
def U3:dw:={ ops:=[(p4 [0,1,1]),(p4 [0,0,2]),(p4 [1,1,1]),[{},pZ],[{},{},p6,pZ,{},{},{},p6,pZ,{},{},pZ,p6,pZ,{ mode:=6 },pZ,{ cC:=[false,true] }],(p4 [1,1,1]),(p4 [0,0,0,0,1,0,0,1,2,1,0,0,2,1,2,2,2,2])],il:=[(0,(qc false [0,4,4,1,44])),(2,(qc false [0,4,4,2,43]))] }
def abu:dw:={ ops:=[[{},pZ],[],(p4 [1,1,2,1]),(p4 [0,1,1,1]),[{},pZ],(p4 [1,1,1]),[{},{},{},{},{},{ cC:=[false,true,true,true,true,true],mode:=1 }],(p4 [1,1,1]),[{},pZ],(p4 [1,1,1]),(p4 [0,0,0,0,0,2,0,0,0,2,2,1,0,0,2,1,2,2,2,2]),[{},{},{},{},{},{ cC:=[false,true,true,true,true,true],mode:=1 }]],il:=[(0,(qc false [0,1,2,1,4,4,48])),(2,(qc false [0,1,2,1,4,2,2,1,47]))] }
def abv:dw:={ ops:=[(p4 [1,0,2,1]),[{},pZ],[{},pZ,{},{ cC:=[false,true] }],[{},{ mode:=3 },pZ],(p4 [0,0,1,1,2,1,1]),(p4 [0,0,0,1,1,2,1,2]),(p4 [1,1,1]),[{ mode:=1 },{},pZ,p6,pZ,pZ],(p4 [0,0,2]),(p4 [1,0,2,1]),(p4 [0,0,0,0,0,2,0,0,0,2,2,1,0,0,2,1,2,2,2,2])],il:=[(0,(qc false [0,2,6,4,55]))] }
def abw:dw:={ ops:=[[],(p4 [1,0,2,1]),[],(p4 [0,0,1,1,2,1]),(p4 [0,0,1,1,2,1]),(p4 [1,0,1,1,2,1]),[{},pZ],[pZ,pZ],[{},pZ,{},{ cC:=[false,true,true,false,true],mode:=1 },pZ],[{},pZ,{},{ cC:=[false,true,true,false,true],mode:=1 },pZ],[{},pZ,{},{ cC:=[false,true,true,false,true],mode:=1 },pZ],[pZ,pZ,pZ,pZ,pZ,{ cC:=[false,true,true,true,true,false,true],mode:=1 },pZ],[pZ],[pZ,pZ],[{},pZ],[pZ,pZ],[pZ,pZ],[pZ,pZ]] }
def abx:dw:={ ops:=[[pZ,pZ],(p4 [1,1,1]),(p4 [0,0,2]),(p4 [0,0,0,0,0,0,2,1,0,0,2,1,2,2,2,2]),(p4 [1,1,1]),(p4 [1,1,1])],il:=[(0,(qc false [0,1,7,2,24]))] }
def aby:dw:={ ops:=[[],(p4 [0,1,1]),[],[{},pZ],(p4 [1,1,1]),[{},{},p6,pZ,{},{},{},p6,pZ,{},{},pZ,p6,pZ,{ mode:=6 },pZ,pZ,{ cC:=[false,true] }],(p4 [1,1,1]),(p4 [0,0,2]),[],(p4 [0,0,2,1]),[],(p4 [0,0,0,0,1,0,0,1,2,1,0,0,2,1,2,2,2,2]),(p4 [0,0,2,1]),(p4 [0,1,1]),[{},pZ],(p4 [1,1,1]),[{},{},{},p6,pZ,{},{},pZ,p6,pZ,{ mode:=6 },pZ,pZ],(p4 [0,0,0,0,1,0,0,1,2,1,0,0,2,1,2,2,2,2]),(p4 [0,0,2,1]),(p4 [0,1,1]),(p4 [0,0,2]),(p4 [1,1,1]),[{},{},{},p6,pZ,{},{},pZ,p6,pZ,{ mode:=6 },pZ,pZ],(p4 [0,0,0,0,1,0,0,1,2,1,0,0,2,1,2,2,2,2]),[]],il:=[(0,(qc false [0,4,5,2,130])),(2,(qc false [0,4,5,2,130])),(4,(qc false [0,4,5,3,129])),(6,(qc false [0,4,5,2,1,1,128]))] }
def abz:dw:={ ops:=[[],(p4 [0,0,0,0,0,0,2,1,0,0,2,1,2,2,2,2]),(p4 [0,1,1,1,1,1]),[{},{},p6,pZ,{},{},{},p6,pZ,{},{},p6,pZ,{ mode:=6 },pZ,pZ,{ cC:=[false,true] }],(p4 [1,1,1]),[{},{},p6,pZ,{},{},{},p6,pZ,{},{},p6,pZ,{ mode:=6 },pZ,{ cC:=[false,true] }],(p4 [1,1,1]),(p4 [0,0,2]),(p4 [0,0,0,0,0,0,2,1,0,0,2,1,2,2,2,2]),(p4 [1,1,1]),(p4 [1,1,1]),[pZ,pZ]],il:=[(0,(qc false [0,2,2,1,6,2,77])),(2,(qc false [0,2,2,1,6,2,77])),(4,(qc false [0,2,2,1,6,2,77]))] }
def abA:dw:={ ops:=[[],(p4 [0,0,0,0,0,0,2,1,0,0,2,1,2,2,2,2]),(p4 [0,1,1,1,1,1]),[{},{},p6,pZ,{},{},{},p6,pZ,{},{},p6,pZ,{ mode:=6 },pZ,{ cC:=[false,true] }],(p4 [1,1,1]),[{},{},p6,pZ,{},{},{},p6,pZ,{},{},p6,pZ,{ mode:=6 },pZ,pZ,{ cC:=[false,true] }],(p4 [1,1,1]),(p4 [0,0,2]),(p4 [0,0,0,0,0,0,2,1,0,0,2,1,2,2,2,2]),[pZ,pZ],(p4 [0,0,0,0,0,0,2,1,0,0,2,1,2,2,2,2]),(p4 [1,1,1]),(p4 [1,1,1]),[{},{},p6,pZ,{},{},{},p6,pZ,{},{},p6,pZ,{ mode:=6 },pZ,{ cC:=[false,true] }],(p4 [1,1,1]),[{},{},p6,pZ,{},{},{},p6,pZ,{},{},p6,pZ,{ mode:=6 },pZ,pZ,{ cC:=[false,true] }],(p4 [1,1,1]),(p4 [0,0,2]),(p4 [0,0,0,0,0,0,2,1,0,0,2,1,2,2,2,2]),(p4 [1,1,1]),(p4 [1,1,1]),(p4 [0,0,0,0,0,0,2,1,0,0,2,1,2,2,2,2]),[pZ,pZ]],il:=[(0,(qc false [0,2,2,1,7,2,164])),(2,(qc false [0,2,2,1,7,2,164])),(4,(qc false [0,2,2,1,7,2,164])),(6,(qc false [0,2,2,1,7,2,164])),(8,(qc false [0,2,2,1,7,2,164]))] }
def abB:dw:={ ops:=[[],[{},pZ],(p4 [1,1,1]),[],[{},pZ],(p4 [1,1,1]),(p4 [1,1,1]),[pZ,pZ,pZ,{ cC:=[false,true] },pZ,p6,pZ]] }
def abC:dw:={ ops:=[[],[{},pZ],(p4 [1,1,1]),[],[{},pZ],(p4 [1,1,1]),(p4 [1,1,1]),[{},pZ],(p4 [1,1,1]),(p4 [1,1,1]),[pZ,pZ,pZ,{ cC:=[false,true] },pZ,p6,pZ]] }
def Ui:dw:={ ops:=[[],[pZ,pZ,{ mode:=3 },pZ,pZ]] }
def Rc:dw:={ ops:=[[],[{},pZ],[],[{},pZ],[{},{},{},p6,pZ,{ mode:=6 }],[pZ,pZ],[pZ,pZ],[]],il:=[(0,(qc false [0,2,5,2,10]))] }
def Ko:dw:={ ops:=[[pZ],[pZ],[pZ],[{ mode:=1 },pZ,pZ,p6,{ cC:=[true,true],mode:=1 }],[{ cC:=[true],mode:=1 },pZ]] }
def Uj:dw:={ ops:=[[],[],(p4 [0,0,2,1]),[{},pZ],[pZ,pZ,pZ,{ cC:=[false,true,true,true],mode:=1 }],[{},pZ],[pZ,pZ,pZ,{ cC:=[false,true,true,true],mode:=1 }],[{},pZ],[{},{},{},{ cC:=[false,true,true,true],mode:=1 }],(p4 [1,1,1]),[{},{},{},{ cC:=[false,true,true,true],mode:=1 },pZ,{},pZ,pZ,pZ],[{},pZ],[{},{},{},{ cC:=[false,true,true,true],mode:=1 }],(p4 [0,1,1,0,2,2,1]),[],(p4 [0,1,0,2,1,1,1,2]),[{},{},{},{ cC:=[false,true,true,true],mode:=1 }],[{},pZ,pZ,{},{},pZ,p6,pZ,{},{},p6,pZ,{ mode:=3 },pZ,{ cC:=[false,true] }],[{},pZ,{},pZ,{ cC:=[false,true,true,true,true],mode:=1 },pZ],[pZ,pZ],[{},{},{},pZ,{ cC:=[false,true,true,true,true],mode:=1 },pZ,{},pZ,pZ,pZ],[pZ,pZ],(p4 [0,0,2,0,0,2,1,1]),(p4 [1,1,1]),(p4 [0,0,2]),(p4 [1,1,2,1]),[{},pZ,{},{},{ cC:=[false,true,true,true,true],mode:=1 }],(p4 [1,1,1]),(p4 [1,1,2,1]),[{},{},pZ,pZ,{},{ cC:=[false,true,true,true,true],mode:=1 }],[pZ,pZ]],il:=[(0,(qc false [0,4,4,2,124]))] }
def aaS:dw:={ ops:=[[pZ,pZ],[{},{ cC:=[false,true] },pZ,pZ],(p4 [0,0,2]),[{},pZ,{},p6,pZ,{},{},{},{},p6,p6,pZ,{},{},{},p6,pZ,p6,pZ,{ mode:=6 },pZ,{ cC:=[false,true] }],(p4 [1,1,1]),[{},{},{},{},p6,p6,pZ,{},{},{},p6,p6,pZ,{ mode:=6 },pZ,pZ],(p4 [0,0,0,2,0,0,0,2,0,0,0,2,2,1,0,0,0,2,2,1,2,2,2,2]),[pZ,pZ]],il:=[(0,(qc false [0,1,1,3,5,1,71]))] }
def aaT:dw:={ ops:=[[],[pZ,pZ,{ mode:=3 },{ cC:=[false,true] },pZ]] }
def aaU:dw:={ ops:=[[],(p4 [0,0,1,0,1,1,1,2,0,2]),(p4 [0,0,1,0,1,1,1,2,0,2]),(p4 [0,0,1,0,1,1,1,2,0,2]),(p4 [1,1,1,1])] }
def aaV:dw:={ ops:=[[],[pZ,{},pZ,{},pZ,pZ,pZ,pZ,{ cC:=[false,true,true,true,true,true,true],mode:=1 },pZ]] }
def aaW:dw:={ ops:=[[],[{},pZ,pZ,{},{},{ cC:=[false,true,true,true,true,true],mode:=1 },pZ,{},pZ,pZ,pZ],[{},pZ,pZ,{},{},{ cC:=[false,true,true,true,true,true],mode:=1 },pZ,{},pZ,pZ,pZ],[pZ,pZ,pZ,pZ,pZ,{ cC:=[false,true,true,true,true,true],mode:=1 },pZ,{},pZ,pZ,pZ],[pZ,pZ]] }
def Rd:dw:={ ops:=[[],[{},pZ],[],[{},pZ],(p4 [0,0,0,2,1,2]),[pZ,pZ],[pZ,pZ],[]],il:=[(0,(qc false [0,2,5,2,10]))] }
def Ul:dw:={ ops:=[(p4 [0,1,1]),(p4 [0,0,2]),(p4 [1,1,1]),[{},pZ],[{},{},p6,pZ,{},{},p6,pZ,{},{},pZ,p6,pZ,{ mode:=3 },{ cC:=[false,true] }],(p4 [1,1,1]),(p4 [0,0,0,0,1,0,0,1,2,1,0,0,2,1,2,2,2,2])],il:=[(0,(qc false [0,3,3,1,42])),(2,(qc false [0,3,3,2,41]))] }
def aaX:dw:={ ops:=[[{},pZ],[],(p4 [1,1,2,1]),(p4 [0,1,1,1]),[{},pZ],(p4 [1,1,1]),[{},{},{},{},{ cC:=[false,true,true,true,true],mode:=1 }],(p4 [1,1,1]),[{},pZ],(p4 [1,1,1]),(p4 [0,0,0,0,0,2,0,0,0,2,2,1,0,0,2,1,2,2,2,2]),[{},{},{},{},{ cC:=[false,true,true,true,true],mode:=1 }]],il:=[(0,(qc false [0,1,5,4,46])),(2,(qc false [0,1,5,2,2,1,45]))] }
def aaY:dw:={ ops:=[(p4 [1,0,2,1]),[{},pZ],[{},pZ,{},{ cC:=[false,true] }],[{},{ mode:=3 },pZ],(p4 [0,0,1,1,2,1,1]),(p4 [0,0,0,1,1,2,1,2]),(p4 [1,1,1]),[{ mode:=1 },{},pZ,p6,pZ,pZ],(p4 [0,0,2]),(p4 [1,0,2,1]),(p4 [0,0,0,0,0,2,0,0,0,2,2,1,0,0,2,1,2,2,2,2])],il:=[(0,(qc false [0,2,4,4,55]))] }
def aaZ:dw:={ ops:=[[],(p4 [1,0,2,1]),[],(p4 [0,0,1,1,2,1]),(p4 [0,0,1,1,2,1]),(p4 [1,0,1,1,2,1]),[{},pZ],[pZ,pZ],[{},pZ,{ cC:=[false,true,true],mode:=1 },pZ],[{},pZ,{ cC:=[false,true,true],mode:=1 },pZ],[{},pZ,{ cC:=[false,true,true],mode:=1 },pZ],[pZ,pZ,pZ,pZ,{ cC:=[false,true,true,true,true],mode:=1 },pZ],[pZ],[pZ,pZ],[{},pZ],[pZ,pZ],[pZ,pZ],[pZ,pZ]] }
def aa0:dw:={ ops:=[[pZ,pZ],(p4 [1,1,1]),(p4 [0,0,2]),(p4 [0,0,0,0,0,0,2,1,0,0,2,1,2,2,2,2]),(p4 [1,1,1]),(p4 [1,1,1])],il:=[(0,(qc false [0,1,5,2,24]))] }
def aa1:dw:={ ops:=[[],(p4 [0,1,1]),[],[{},pZ],(p4 [1,1,1]),[{},{},p6,pZ,{},{},p6,pZ,{},{},pZ,p6,pZ,{ mode:=3 },pZ,{ cC:=[false,true] }],(p4 [1,1,1]),(p4 [0,0,2]),[],(p4 [0,0,2,1]),[],(p4 [0,0,0,0,1,0,0,1,2,1,0,0,2,1,2,2,2,2]),(p4 [0,0,2,1]),(p4 [0,1,1]),[{},pZ],(p4 [1,1,1]),[{},{},p6,pZ,{},{},pZ,p6,pZ,{ mode:=3 },pZ],(p4 [0,0,0,0,1,0,0,1,2,1,0,0,2,1,2,2,2,2]),(p4 [0,0,2,1]),(p4 [0,1,1]),(p4 [0,0,2]),(p4 [1,1,1]),[{},{},p6,pZ,{},{},pZ,p6,pZ,{ mode:=3 },pZ],(p4 [0,0,0,0,1,0,0,1,2,1,0,0,2,1,2,2,2,2]),[]],il:=[(0,(qc false [0,3,4,2,124])),(2,(qc false [0,3,4,2,124])),(4,(qc false [0,3,4,3,123])),(6,(qc false [0,3,4,2,1,1,122]))] }
def Um:dw:={ ops:=[[],[{},{ mode:=3 },pZ,{},{ mode:=3 },pZ,p6,pZ,pZ,pZ,p6,{ cC:=[true,false,true] },pZ]] }
def aa2:dw:={ ops:=[[],(p4 [0,0,0,0,0,0,2,1,0,0,2,1,2,2,2,2]),(p4 [0,1,1,1,1,1]),[{},{},p6,pZ,{},{},p6,pZ,{},{},p6,pZ,{ mode:=3 },pZ,{ cC:=[false,true] }],(p4 [1,1,1]),[{},{},p6,pZ,{},{},p6,pZ,{},{},p6,pZ,{ mode:=3 },{ cC:=[false,true] }],(p4 [1,1,1]),(p4 [0,0,2]),(p4 [0,0,0,0,0,0,2,1,0,0,2,1,2,2,2,2]),(p4 [1,1,1]),(p4 [1,1,1]),[pZ,pZ]],il:=[(0,(qc false [0,2,7,2,73])),(2,(qc false [0,2,7,2,73])),(4,(qc false [0,2,7,2,73]))] }
def aa3:dw:={ ops:=[[],(p4 [0,0,0,0,0,0,2,1,0,0,2,1,2,2,2,2]),(p4 [0,1,1,1,1,1]),[{},{},p6,pZ,{},{},p6,pZ,{},{},p6,pZ,{ mode:=3 },{ cC:=[false,true] }],(p4 [1,1,1]),[{},{},p6,pZ,{},{},p6,pZ,{},{},p6,pZ,{ mode:=3 },pZ,{ cC:=[false,true] }],(p4 [1,1,1]),(p4 [0,0,2]),(p4 [0,0,0,0,0,0,2,1,0,0,2,1,2,2,2,2]),[pZ,pZ],(p4 [0,0,0,0,0,0,2,1,0,0,2,1,2,2,2,2]),(p4 [1,1,1]),(p4 [1,1,1]),[{},{},p6,pZ,{},{},p6,pZ,{},{},p6,pZ,{ mode:=3 },{ cC:=[false,true] }],(p4 [1,1,1]),[{},{},p6,pZ,{},{},p6,pZ,{},{},p6,pZ,{ mode:=3 },pZ,{ cC:=[false,true] }],(p4 [1,1,1]),(p4 [0,0,2]),(p4 [0,0,0,0,0,0,2,1,0,0,2,1,2,2,2,2]),(p4 [1,1,1]),(p4 [1,1,1]),(p4 [0,0,0,0,0,0,2,1,0,0,2,1,2,2,2,2]),[pZ,pZ]],il:=[(0,(qc false [0,2,8,2,156])),(2,(qc false [0,2,8,2,156])),(4,(qc false [0,2,8,2,156])),(6,(qc false [0,2,8,2,156])),(8,(qc false [0,2,8,2,156]))] }
def aa4:dw:={ ops:=[[],[pZ,{},{},p6,pZ,{},{},p6,pZ,{ mode:=6 },pZ],(p4 [1,0,1,1,1,2]),(p4 [1,1,1,1]),(p4 [1,1,1,1])] }
def aa5:dw:={ ops:=[[pZ,pZ],[{},{ cC:=[false,true] },pZ,pZ],(p4 [0,0,2]),[{},pZ,{},p6,pZ,{},{},{},p6,p6,pZ,{},{},{},p6,pZ,p6,pZ,{ mode:=3 },{ cC:=[false,true] }],(p4 [1,1,1]),[{},{},{},p6,p6,pZ,{},{},{},p6,p6,pZ,{ mode:=3 },pZ],(p4 [0,0,0,2,0,0,0,2,0,0,0,2,2,1,0,0,0,2,2,1,2,2,2,2]),[pZ,pZ]],il:=[(0,(qc false [0,1,1,2,4,1,67]))] }
def aa6:dw:={ ops:=[[],[pZ,{},pZ,{},pZ,pZ,pZ,{ cC:=[false,true,true,true,true,true],mode:=1 },pZ]] }
def aa7:dw:={ ops:=[[],[{},pZ,pZ,{},{ cC:=[false,true,true,true,true],mode:=1 },pZ,{},pZ,pZ,pZ],[{},pZ,pZ,{},{ cC:=[false,true,true,true,true],mode:=1 },pZ,{},pZ,pZ,pZ],[pZ,pZ,pZ,pZ,{ cC:=[false,true,true,true,true],mode:=1 },pZ,{},pZ,pZ,pZ],[pZ,pZ]] }
def Uo:dw:={ ops:=[[],(p4 [0,1,2,1])] }
def aa8:dw:={ ops:=[[],[{},{},p6,pZ,{},{},p6,pZ,{ mode:=3 }],(p4 [1,0,1,1,1,2]),(p4 [1,1,1,1]),(p4 [1,1,1,1])] }
def abD:List dw:=[{},{},abb,abe,abg,abj,abl,abn,Lg,Rr,Uh,Uk,Un,aa9,Up,aa_,Kp,aba,Re,Uq,Rf,Ur,abc,Pl,Kq,abd,Us,Ut,Ob,Uu,Uv,Uw,abf,Ux,Uy,Uz,UA,UB,UC,Rg,Le,UD,UE,UF,Rh,UG,Pm,abh,abi,UH,UI,UJ,Ri,UK,Rj,abk,UL,LM,UM,UN,M6,abm,Rk,UO,Rl,Rm,Rn,UQ,UR,Kr,US,Lf,Ro,UT,UU,abo,abp,UW,UX,abq,Rp,LN,UY,abr,UZ,U0,U1,U2,Rq,abt,U3,abu,abv,abw,abx,aby,abz,abA,abB,abC,Ui,Rc,Ko,Uj,aaS,aaT,aaU,aaV,aaW,Rd,Ul,aaX,aaY,aaZ,aa0,aa1,Um,aa2,aa3,aa4,aa5,aa6,aa7,Uo,aa8,{},{},{},{},{},{},{},{},{},{},{},{},{},{},{},{}]
def jD (k:FuncId):dw:=abD.getD k {}
end Go.Proofs.YtkoioidpbbbaiaaGreat.Ab


namespace Go.Proofs.YtkoioidpbbbaiaaGreat.Ab
open Go
end Go.Proofs.YtkoioidpbbbaiaaGreat.Ab


namespace Go.Proofs.YtkoioidpbbbaiaaGreat.Ab
open Go
end Go.Proofs.YtkoioidpbbbaiaaGreat.Ab


namespace Go.Proofs.YtkoioidpbbbaiaaGreat.Ab
open Go
theorem eG:Go.Proofs.Tryz.prog.follows .mixedOrders=true:=by kernel_rfl
abbrev qB (k:FuncId) (args:List I) (v:I):Prop:=nn Go.Proofs.Tryz.prog k args v
abbrev h0 (n:Int):I:=.int .i64 n
abbrev Hr:I:=.a0
abbrev B (b:Bool):I:=.bool b
def oX (l:List Int):I:=.av (l.map h0) l.length .shared
def jx (l:List (List Int)):I:=.av (l.map oX) l.length .shared
theorem Xn (d:Nat) (l:List Int):(l.map h0).all (cr (d+1))=true:=by
 rw [sn];intro u hu;obtain ⟨x,_,rfl⟩:=sD.1 hu;rfl
theorem Xm (d:Nat) (l:List Int):cr (d+2) (oX l)=true:=Xn d l
theorem Sz (d:Nat) (l:List (List Int)):(l.map oX).all (cr (d+2))=true:=by
 rw [sn];intro u hu;obtain ⟨x,_,rfl⟩:=sD.1 hu;exact Xm d x
theorem afZ (d:Nat) (l:List (List Int)):cr (d+3) (jx l)=true:=Sz d l
theorem Np (k:IntKind) (n:Int):cr 8 (.int k n)=true:=rfl
theorem Nx (b:Bool):cr 8 (.bool b)=true:=rfl
theorem Nq (l:List Int) (n:Nat) (c:hE):cr 8 (.av (l.map h0) n c)=true:=Xn 6 l
theorem Ns (l:List (List Int)) (n:Nat) (c:hE):cr 8 (.av (l.map oX) n c)=true:=Sz 5 l
theorem Nr (l:List Int):cr 8 (oX l)=true:=Xm 6 l
theorem Nt (l:List (List Int)):cr 8 (jx l)=true:=afZ 5 l
theorem Ny (k:FuncId):cr 8 (.func k [] [])=true:=rfl
theorem Nz (n:Nat) (c:hE):cr 8 (.av [] n c)=true:=rfl
theorem K2 (l:List (List Int)) (n:Nat) (c:hE):cr 8 (.agg [.av (l.map oX) n c])=true:=by
 show [I.av (l.map oX) n c].all (cr 7)=true;rw [List.all_cons,List.all_nil,Bool.and_true];exact Sz 4 l
theorem Nu (l:List (List Int)):cr 8 (.agg [jx l])=true:=K2 l _ _
theorem Nv (l:List (List Int)):cr 8 (.bS [jx l])=true:=K2 l _ _
theorem Nw (l:List (List Int)) (n:Nat) (c:hE):cr 8 (.bS [.av (l.map oX) n c])=true:=K2 l _ _
theorem Qt (i:Nat) (h:i≤9223372036854775806):IntKind.i64.wrap ((i:Int)+1)=((i+1:Nat):Int):=by rw [IntKind.wrap_i64];omega
theorem HU (n:Int) (ab:-9223372036854775808≤n) (ae:n≤9223372036854775807):IntKind.i64.wrap n=n:=by rw [IntKind.wrap_i64];omega
theorem Xl:∀ {d:Nat} {v:I},cr d v=true→cr (d+1) v=true
 | 0,v,h=>by simp [cr] at h
 | d+1,v,h=>by
   have key:∀ {l:List I},l.all (cr d)=true→l.all (cr (d+1))=true:=fun h=>by
    rw [sn] at h ⊢;exact fun u hu=>Xl (h u hu)
   cases v <;> simp only [cr,sq,tP] at h ⊢ <;> first | trivial | exact key h | exact ⟨key h.1,key h.2⟩
theorem HL {p:Prop} [Decidable p] {A C:Prop} (ab:p→A) (ae:¬ p→C):(match decide p with | true=>A | false=>C):=by
 by_cases h:p
 ·simp only [h,decide_true];exact ab h
 ·simp only [h,decide_false];exact ae h
theorem Hj {k:FuncId} {xs:List I} {v:I}:∀ p∈([]:c7),p.1=k→p.2.1=xs→p.2.2=v:=fun _ h=>by simp at h
theorem BS {k k':FuncId} {xs ys:List I} {v bo:I} (h:k'=k→ys=xs→bo=v):∀ p∈([(k',ys,bo)]:c7),p.1=k→p.2.1=xs→p.2.2=v:=fun p aB=>by
 simp only [List.mem_singleton] at aB;subst aB;exact h
theorem Ir {k:FuncId} {xs:List I} {v:I} {acc:c7} (h:acc.all (fun p=>p.1 != k)=true):∀ p∈acc,p.1=k→p.2.1=xs→p.2.2=v:=fun p aB e=>by
 have:=sn.1 h p aB;simp [e] at this
def HF (cap:List I):Prop:=cap.all (cr 7)=true∧∀ u∈cap,∃ cs,u=.bS cs
theorem HF.Ue {cap:List I} (h:HF cap):cap.all (cr 8)=true:=by
 have ab:=h.1;rw [sn] at ab ⊢;exact fun u hu=>Xl (ab u hu)
theorem HF.iD {cap:List I} (h:HF cap) (H:List ar):cap.map (iD H)=cap:=by
 conv=>rhs;rw [←uX cap]
 apply tI;intro u hu;obtain ⟨cs,rfl⟩:=h.2 u hu;rfl
theorem HF.hW {cap:List I} (h:HF cap) (H:List ar):cap.map (hW H)=cap:=by
 conv=>rhs;rw [←uX cap]
 apply tI;intro u hu;obtain ⟨cs,rfl⟩:=h.2 u hu;rfl
theorem HF.cc {cap:List I} (h:HF cap):cap.map I.cc=cap:=by
 conv=>rhs;rw [←uX cap]
 apply tI;intro u hu;obtain ⟨cs,rfl⟩:=h.2 u hu;rfl
theorem HF.fn {cap:List I} (h:HF cap) (H:List ar) (k:FuncId):Ab.iD H (.func k [] cap)=.func k [] cap:=by
 simp only [Ab.iD,h.hW,uA]
theorem HF.Xf {cap:List I} (h:HF cap) (k:FuncId):cr 8 (.func k [] cap)=true:=by
 show (([]:List I).all (cr 7) && cap.all (cr 7))=true;rw [h.1];rfl
theorem HF.nil:HF []:=⟨rfl,by simp⟩
section
variable {P:Program}
theorem call6 {k:FuncId} {xs bs:List I} {H:List ar} {lo:Nat} {v:I} (af:(xs.map (iD H)).map I.cc=bs) (aB:(xs.map (iD H)).all (cr 8)=true) (h:nn P k bs v) (ah:fz v=true):oV P 6 lo (.fn k) xs H v.cc H:=by
 subst af;refine ⟨k9 (.fn k) ((xs.map (iD H)).map I.cc) [] 0 v [],EB h.1,?_⟩;simp only [eQ,aB,EA,sb,yW h.2,ah]
end
theorem VA {H:List ar} {id d:Nat} {l:List I} (h:H[id]?=some (.cells l)) (aB:(l.map I.view).all (cr d)=true):bM H 0 H.length 0 (d+1) (.ptr id 0)=some (.bS (l.map I.view)):=by
 have ab:=(sa.1 h).1;have ae:ea (bM H 0 H.length 0 d) (l.map I.view)=some (l.map I.view):=zU fun u hu=>yW (by rw [sn] at aB;exact aB u hu);simp only [bM,Nat.not_lt_zero,if_false,h,tq,ae,sf];rw [if_neg (by omega)]
end Go.Proofs.YtkoioidpbbbaiaaGreat.Ab


namespace Go.Proofs.YtkoioidpbbbaiaaGreat.Ab
open Go
section
variable {P:Program}
theorem Vt (eG:P.follows .mixedOrders=true) {k:Nat} {A:dw} {rc:gE} {n:Nat} {ts:List Iq} (ao:qt P A k=some (rc,n,ts)) {lo:Nat} {args T:List I} {H H':List ar} (b0:args++List.replicate (n-args.length) .a0=T) {v:I} (KY:a' lo H H')
  (h:dQ P A k lo none rc T H fun e g6 H1=>(e=.normal∨e=.ret)∧lI H1 H'∧(rX H1 g6 ts).map jg=some v):Sem P (.fn k) args H lo v H':=by
 unfold qt at ao;split at ao
 ·rename_i f aP;split at ao
  ·rename_i c af;split at ao
   ·rename_i Xr Qo ab ae aF ba;simp only [Option.some.injEq,Prod.mk.injEq] at ao;obtain ⟨rfl,rfl,rfl⟩:=ao;subst b0;refine Hb eG aP af (by simpa using ae) ab KY (oR (fun e s a_=>?_) (G6 aF h));obtain ⟨cf,ca,eS⟩:=a_;simp only [Option.map_eq_some_iff] at eS;obtain ⟨vs,eS,iP⟩:=eS;exact ⟨cf,ca,vs,by rw [OT _ _ ba,eS],iP⟩
   ·cases ao
  ·cases ao
 ·cases ao
end
theorem rI {P:Program} (eG:P.follows .mixedOrders=true) {k:Nat} {A:dw} {rc:gE} {n:Nat} {ts:List Iq} (ao:qt P A k=some (rc,n,ts)) {lo:Nat} {args T:List I} {H H':List ar} (b0:args++List.replicate (n-args.length) .a0=T) {v:I} (KY:a' lo H H')
  (h:∀ Q:cQ→List I→List ar→Prop,(∀ e g6 H1,(e=.normal∨e=.ret)∧lI H1 H'∧(rX H1 g6 ts).map jg=some v→Q e g6 H1)→dQ P A k lo none rc T H Q):Sem P (.fn k) args H lo v H' :=
 Vt eG ao b0 KY (h _ fun _ _ _ h=>h)
theorem Py {P:Program} (eG:P.follows .mixedOrders=true) {k:Nat} {A:dw} {rc:gE} {n:Nat} {ts:List Iq} (ao:qt P A k=some (rc,n,ts)) {args T:List I} (b0:args++List.replicate (n-args.length) .a0=T) {v:I} (aB:cr 8 v=true)
  (h:∀ Q:cQ→List I→List ar→Prop,(∀ e g6 H1,N8 ts v e g6 H1→Q e g6 H1)→dQ P A k 0 none rc T [] Q):nn P k args v :=
 RG eG ao b0 aB (h _ fun _ _ _ h=>h)
theorem rF {P:Program} {lo:Nat} {bY:fc} {xs:List I} {H H':List ar} {v:I} (h:Sem P bY xs H lo v H'):oV P 1 lo bY xs H v H' :=
 ⟨k9 bY xs H lo v H',EB h,by simp only [eQ,EA]⟩
theorem Yt {P:Program} {k:FuncId} {args:List I} {v:I} (cu:args.all (cr 8)=true) (h:nn P k args v) (H:List ar):Sem P (.fn k) args H H.length v H:=by
 obtain ⟨⟨_,ab,ae⟩,aB⟩:=h
 exact ⟨a'.refl _ _,ab,fun B aa J S w vs ag aI ad=>CallsIn.mono (ae B _ [] S w vs (w6 ag) (fun b i h=>by obtain ⟨_,_,h⟩:=kt h;cases h) (ad.pure cu)) fun e w' he=>by
  cases e with
  | returned v=>exact xH ag (yW (n:=0) aB) he
  | panicked c=>exact he.elim
  | outgrown=>exact he.elim⟩
theorem Oc {P:Program} {k:FuncId} {args:List I} {v:I} (cu:args.all (cr 8)=true) (h:nn P k args v) (H:List ar) (lo:Nat):oV P 0 lo (.fn k) args H v H :=
 ⟨_,EB (Yt cu h H),by simp only [eQ,EA,sb,yW h.2,sf]⟩
theorem VO {X Z:List ar} {j:Nat} {o:ar} (h:X[j]?=some o):(X++Z)[j]?=some o:=by
 rw [si (sa.1 h).1];exact h
theorem rZ (X:List ar) (c dU:ar):(X++[c]).set X.length dU=X++[dU]:=by simp
theorem I_ (X:List ar) (c:ar):(X++[c])[X.length]?=some c:=by simp
end Go.Proofs.YtkoioidpbbbaiaaGreat.Ab


namespace Go.Proofs.YtkoioidpbbbaiaaGreat.Ab
open Go
def qj:Nat:=18446744073709551616
def qk (p:Prop) [Decidable p] {aV:Type} (k:Option aV):Option aV:=if p then k else none
theorem q_ {p:Prop} [Decidable p] {aV:Type} {k:Option aV} {v:aV} (h:qk p k=some v):p∧k=some v:=by
 unfold qk at h;split at h
 ·exact ⟨by assumption,h⟩
 ·cases h
theorem qF {p:Prop} [Decidable p] {aV:Type} {k:Option aV} (h:p):qk p k=k:=if_pos h
theorem p9 {α aV:Type} {x:Option α} {f:α→Option aV} {v:aV} (h:x.bind f=some v):∃ a,x=some a∧f a=some v:=by
 cases x with
 | none=>cases h
 | some a=>exact ⟨a,rfl,h⟩
theorem rq {b:Bool} {aV:Type} {x y:Option aV} {v:aV} (af:b=true) (h:(if b=true then x else y)=some v):x=some v:=by
 rw [if_pos af] at h;exact h
theorem rr {b:Bool} {aV:Type} {x y:Option aV} {v:aV} (af:b=false) (h:(if b=true then x else y)=some v):y=some v:=by
 rw [if_neg (by rw [af];decide)] at h;exact h
def ix {α:Type} [Inhabited α] (l:List α) (i:Int):α:=l.getD i.toNat default
theorem rJ {α:Type} [Inhabited α] {l:List α} {k:Nat} (h:k<l.length):ix l (k:Int)=l[k]:=by
 simp [ix,h]
theorem PH {α:Type} [Inhabited α] {l:List α} {i:Int} (h:0≤i∧i<(l.length:Int)):ix l i=l[i.toNat]'(by omega):=by
 have:i.toNat<l.length:=by omega
 simp [ix,this]
theorem JD {α:Type} [Inhabited α] {l:List α} {i:Int} (h:0≤i∧i<(l.length:Int)):ix l i∈l:=by
 rw [PH h];exact List.getElem_mem _
abbrev w (n:Int):Int:=IntKind.i64.wrap n
theorem ah1 {n:Int} (ab:-9223372036854775808≤n) (ae:n≤9223372036854775807):w n=n:=HU n ab ae
theorem r0 {aV:Type} {v:aV} {G:Prop} (h:(none:Option aV)=some v):G:=by cases h
def aaJ {α:Type} (f:α→I) (l:List α):I:=.av (l.map f) l.length .shared
def aaK {α:Type} (f:α→List I) (l:List α):I:=.av (l.flatMap f) l.length .shared
theorem rG {α:Type} [Inhabited α] (f:α→I) (l:List α) (n:Int) (h:0≤n∧n<(l.length:Int)):(l.map f).drop (n.toNat*1)=f (ix l n)::(l.drop (n.toNat+1)).map f:=by
 have aX:n.toNat<l.length:=by omega
 rw [tn,←tF,s0 aX,sG,PH h]
theorem r6 {α:Type} [Inhabited α] (f:α→List I) (s:Nat) (ah:∀ x,(f x).length=s):∀ (l:List α) (n:Int),0≤n∧n<(l.length:Int)→(l.flatMap f).drop (n.toNat*s)=f (ix l n)++(l.drop (n.toNat+1)).flatMap f:=by
 have key:∀ (l:List α) (k:Nat) (h:k<l.length),(l.flatMap f).drop (k*s)=f l[k]++(l.drop (k+1)).flatMap f:=by
  intro l
  induction l with
  | nil=>intro k h;simp at h
  | cons x l a8 =>
    intro k h;cases k with
    | zero=>simp
    | succ k =>
      (have al:k<l.length:=by simpa using h);(have e:(k+1)*s=(f x).length+k*s:=by rw [ah,ta,Nat.one_mul,tg]);rw [uB,e,List.drop_length_add_append,a8 k al];rfl
 intro l n h;rw [key l n.toNat (by omega),PH h]
theorem rf {α:Type} (f:α→List I) (s:Nat) (ah:∀ x,(f x).length=s) (l:List α):(l.flatMap f).length=l.length*s:=by
 induction l with
 | nil=>simp
 | cons x l a8=>rw [uB,sA,a8,ah,sL,ta,Nat.one_mul,tg]
theorem U5 {α:Type} (f:α→I) (l m:List α) (c:hE):I.av (l.map f++m.map f) (l.length+m.length) c=.av ((l++m).map f) (l++m).length c:=by
 rw [sJ,sA]
theorem U6 {α:Type} (f:α→I) (l:List α) (x:α) (c:hE):I.av (l.map f++[f x]) (l.length+1) c=.av ((l++[x]).map f) (l++[x]).length c:=by
 rw [sJ,sA];rfl
theorem HI {α:Type} (f:α→List I) (l:List α) (x:α) (c:hE):I.av (l.flatMap f++f x) (l.length+1) c=.av ((l++[x]).flatMap f) (l++[x]).length c:=by
 simp [List.flatMap_append]
theorem YB {α:Type} (f:α→I) (l:List α) (n:Int) (h:0≤n∧n≤(l.length:Int)) (c:hE):I.av (((l.map f).drop (n.toNat*1)).take ((l.length-n.toNat)*1)) (l.length-n.toNat) c=.av ((l.drop n.toNat).map f) (l.drop n.toNat).length c:=by
 rw [tn,tn,List.length_drop,←tF,td (by simp)]
theorem Tn {α:Type} (f:α→I) (l:List α) (n:Int) (h:0≤n∧n≤(l.length:Int)) (c:hE):I.av ((l.map f).take (n.toNat*1)) n.toNat c=.av ((l.take n.toNat).map f) (l.take n.toNat).length c:=by
 rw [tn,s9,←List.map_take,Nat.min_eq_left (by omega)]
theorem Ug {a b:Bool} (h:a=true) (k:b=true):(a && b)=true:=by rw [h,k];rfl
theorem p5 {α:Type} {f:α→Bool} {x:α} {l:List α} (h:f x=true) (k:l.all f=true):(x::l).all f=true:=Ug h k
theorem H6 {cs:List I} {d:Nat} (h:cs.all (cr d)=true):cr (d+1) (.agg cs)=true:=h
theorem Iv {cs:List I} {d:Nat} (h:cs.all (cr d)=true):cr (d+1) (.bS cs)=true:=h
theorem JG {cs:List I} {d:Nat} (h:cs.all (cr d)=true):cr (d+1) (.tuple cs)=true:=h
theorem Jr {k:FuncId} {a b:List I} {d:Nat} (ab:a.all (cr d)=true) (ae:b.all (cr d)=true):cr (d+1) (.func k a b)=true:=Ug ab ae
theorem rU {α:Type} {f:α→I} {d:Nat} (h:∀ x,cr d (f x)=true) (l:List α) (n:Nat) (c:hE):cr (d+1) (.av (l.map f) n c)=true:=by
 show (l.map f).all (cr d)=true;rw [sn];intro u hu;obtain ⟨x,_,rfl⟩:=sD.1 hu;exact h x
theorem HD {α:Type} {f:α→List I} {d:Nat} (h:∀ x,(f x).all (cr d)=true) (l:List α) (n:Nat) (c:hE):cr (d+1) (.av (l.flatMap f) n c)=true:=by
 show (l.flatMap f).all (cr d)=true;rw [sn];intro u hu;obtain ⟨x,_,aj⟩:=tJ.1 hu;exact sn.1 (h x) u aj
theorem Xk {α:Type} {f:α→I} {d:Nat} (h:∀ x,cr d (f x)=true) (l:List α):(l.map f).all (cr d)=true:=by
 rw [sn];intro u hu;obtain ⟨x,_,rfl⟩:=sD.1 hu;exact h x
theorem nn.cc {P:Program} {k:FuncId} {args:List I} {v:I} (h:nn P k args v) (aB:cr 8 v.cc=true):nn P k args v.cc :=
 ⟨⟨h.1.1,h.1.2.1,fun B aa J S w vs ag aI ad=>CallsIn.mono (h.1.2.2 B aa J S w vs ag aI ad) fun e w' he=>by
   cases e with
   | returned x=>exact aZ.cc he
   | panicked c=>exact he.elim
   | outgrown=>exact he.elim⟩,aB⟩
section
variable {P:Program} {B:Nat} {J:List Nat} {w:World} {aa:Nat→Option aH} {S:Nat→Nat→Prop}
theorem aZ.ah2 {H':List ar} {r:I} {v:Value} {w':World} (h:aZ B aa J S w H' r v w'):aZ B aa J S w H' r.settle.view.cc v w':=by
 have ab:aZ B aa J S w H' r.settle v w':=by
  cases r with
  | av c n k=>cases k with
    | uniq z=>exact h.settle
    | _=>exact h
  | _=>exact h
 have ae:r.settle.cW=true:=by
  cases r with
  | av c n k=>cases k <;> rfl
  | _=>rfl
 obtain ⟨bu,ck,bL,a,b,c,d,e⟩:=ab;exact aZ.cc ⟨bu,ck,bL,a,b,c,d.view ae,aU.b4 (I.dm _)⟩
theorem af0 (eG : P.follows .mixedOrders = true) {k : Nat} {f : Func} {c : Code} (aP : P.funcs[k]? = some f) (af : f.body = some c) (aI : f.name ≠ "runtime.NumGoroutine") {A : dw} (bT : codeOk A c = true)
  {args:List I} {v:I} (aB:cr 8 v=true)
  (h:dc P A k 0 none c 0 ⟨args++List.replicate (f.ntmps-args.length) .a0,[]⟩ fun e s=>(e=.normal∨e=.ret)∧∃ vs r,gX P s.H s.T f.results.toList=some vs∧bM s.H 0 s.H.length 0 8 (jg vs)=some r∧r.settle.view.cc=v):nn P k args v:=by
 refine ⟨⟨a'.refl _ _,⟨f,aP,by simp [af],aI⟩,fun B aa J S w xs ag _ ad=>?_⟩,aB⟩;refine callsIn_of_wp_marks aP af trivial ?_;have aL:=yd ag ad f.ntmps;have dB:=(oP ag).1;refine Bx eG c 0 _ _ h bT Fence.wide _ B w.heap.size J w (hY aa) S _ (.inl ⟨rfl,rfl⟩) (fun l a w aO=>aO.elim) aL fun e s al aM w' ah=>?_;obtain ⟨he,vs,r,ai,C0,eH⟩:=al;obtain ⟨b5,cZ,a4,aJ,aN,cg⟩:=ah;have iV:LeavesInM Fence.wide 0 P f aM.tmps (fZ B aa J S w [] v) aM.defers .returning w':=by
  refine n5 (aa:=b5) (S:=a4) (J:=cZ) (B:=B) (H:=s.H) (lH:=aa) (S0:=S) (w0:=w) aM.defers w' cg.M.2.1 cg.M.2.2 (dB.trans aN) cg.H fun bX dD dt mJ mK=>?_
  have b0:a5 .slot b5 cZ a4 bX s.T aM.tmps.toList:=⟨cg.T.len,fun i u v hu ad=>(cg.T.rel i u v hu ad).mono (Ext.refl _) (fun b o h=>⟨h,dt b o h⟩),fun i u v hu ad =>
   (cg.T.own i u v hu ad).mono (Ext.refl _) (fun b o h=>⟨h,dt b o h⟩) fun b af=>⟨af,dD b _ af,fun _ h=>h⟩⟩
  obtain ⟨x,q1,aW⟩:=xS mK b0 ai;have kQ:=xG ag (fun id aE=>by simp at aE) C0 (aZ.after aJ mJ aW);refine ⟨x,q1,?_⟩;rw [←eH];exact kQ.ah2
 rcases he with rfl | rfl
 ·exact iV
 ·exact iV
end
inductive H4 (rs:List Iq) (v:I) (e:cQ) (T:List I) (H:List ar):Prop where
 | mk (he:e=.normal∨e=.ret) (vs:List I) (ai:rX H T rs=some vs) (r:I) (aP:bM H 0 H.length 0 8 (jg vs)=some r) (ad:r.settle.view.cc=v)
theorem qR {P:Program} (eG:P.follows .mixedOrders=true) {k:Nat} {A:dw} {rc:gE} {n:Nat} {ts:List Iq} (ao:qt P A k=some (rc,n,ts)) {args T:List I} (b0:args++List.replicate (n-args.length) .a0=T) {v:I} (aB:cr 8 v=true)
  (h:∀ Q:cQ→List I→List ar→Prop,(∀ e T H,H4 ts v e T H→Q e T H)→dQ P A k 0 none rc T [] Q):nn P k args v:=by
 have h:=h _ fun _ _ _ h=>h;unfold qt at ao;split at ao
 ·rename_i f aP;split at ao
  ·rename_i c af;split at ao
   ·rename_i Xr Qo ab ae aF ba;simp only [Option.some.injEq,Prod.mk.injEq] at ao;obtain ⟨rfl,rfl,rfl⟩:=ao;subst b0;have a_:∀ e s,H4 Qo v e (a6.T s) (a6.H s)→(e=.normal∨e=.ret)∧∃ vs r,gX P s.H s.T f.results.toList=some vs∧bM s.H 0 s.H.length 0 8 (jg vs)=some r∧r.settle.view.cc=v:=fun e s ⟨cf,vs,RK,r,ca,eS⟩=>by
     exact ⟨cf,vs,r,by rw [OT _ _ ba,RK],ca,eS⟩
    exact af0 eG aP af (by simpa using ae) ab aB (oR a_ (G6 aF h))
   ·cases ao
  ·cases ao
 ·cases ao
theorem wp_loop {P:Program} {A:dw} {fn:FuncId} {lo:Nat} {rl:Option Nat} {cE:List Bool} {c:gE} {T T_:List I} {H:List ar} {Q:cQ→List I→List ar→Prop} (b0:eZ cE T=T_)
  (h:BH (fun T H Q=>ob T fun T=>dQ P A fn lo rl c T H fun e bf H'=>match e with
   | .normal=>xo (some cE) bf fun bf=>Q .normal bf H'
   | e=>Q e bf H') T_ H Q):dQ P A fn lo rl (.loop (some cE) c) T H Q:=by
 show xo (some cE) T _;rw [DS];subst b0;exact h
def Nl {α:Type} (f:α→List I):Option α→I
 | none=>.eI
 | some x=>.bS (f x)
theorem Xj {α:Type} {f:α→List I} {d:Nat} (h:∀ x,(f x).all (cr d)=true) (x:Option α):cr (d+1) (Nl f x)=true:=by
 cases x with
 | none=>rfl
 | some x=>exact h x
abbrev q4 (n:Int):I:=.int .u8 n
theorem I2 {f:I→Option I}:ea f []=some []:=rfl
theorem rM {f:I→Option I} {x y:I} {l r:List I} (h:f x=some y) (k:ea f l=some r):ea f (x::l)=some (y::r):=by simp only [ea,h,k,sf]
theorem Oe {H:List ar} {lo i n d:Nat} {vs rs:List I} (h:ea (bM H lo i n d) vs=some rs):bM H lo i n (d+1) (.tuple vs)=some (.tuple rs):=by simp only [bM,h,sf]
theorem ahn {α:Type} {f:α→I} {H:List ar} {id n:Nat} {l:List α} {cap:Option Nat} (ag:H[id]?=some (.cells (l.map f))) (aI:n=l.length) (ad:∀ x,(f x).view=f x):rowOf H (.ref id 0 n cap 1)=some (l.map f):=by
 subst aI;simp only [rowOf,ag,sC,tn,sX,sd,if_true,tq];rw [td (by simp),vu];congr 1;exact tI fun x _=>ad x
theorem Rv {P:Program} {k:FuncId} {xs cs bs:List I} {H:List ar} {lo:Nat} {v:I} (ah:xs.map (iD H)=cs) (af:cs.map I.cc=bs) (aB:cs.all (cr 8)=true) (h:nn P k bs v) (ad:fz v=true):oV P 6 lo (.fn k) xs H v.cc H :=
 call6 (by rw [ah,af]) (by rw [ah];exact aB) h ad
theorem Ln {f:I→I} {x y:I} {l r:List I} (h:f x=y) (k:l.map f=r):(x::l).map f=y::r:=by rw [sG,h,k]
theorem Oq {f:I→I}:([]:List I).map f=[]:=rfl
theorem ahx {H:List ar} {k:FuncId} {a b aM au:List I} (ab:a.map (hW H)=aM) (ae:b.map (hW H)=au):iD H (.func k a b)=.func k aM au:=by simp only [iD,ab,ae]
theorem YA {H:List ar} {id off:Nat} {cs fG:List I} (ag:H[id]?=some (.cells cs)) (he:((cs.drop off).map I.view).map (kh H)=fG):hW H (.ptr id off)=.bS fG:=by simp only [hW,ag,he]
theorem Xa {P:Program} {C:b8} {lo mode:Nat} {o:Oper} {xs:Array Operand} {ts:Array TypeId} {vs:List I} {H:List ar} (aq:o.op=.call { callee:=.builtin .copy,args:=xs,argTypes:=ts }):a3 P C lo o mode vs H=j_ P lo ts H vs:=by
 unfold a3;rw [aq];rfl
def IE {α Lc:Type} (g:Lc→α→Option Lc):List α→Lc→Option Lc
 | [],s=>some s
 | x::l,s=>(g s x).bind fun t=>IE g l t
theorem Pz {α Lc:Type} {g:Lc→α→Option Lc}:∀ {l:List α} {s t:Lc},IE g l s=some t→∃ F:Nat→Lc,F 0=s∧F l.length=t∧∀ (i:Nat) (h:i<l.length),g (F i) l[i]=some (F (i+1))
 | [],s,t,h=>⟨fun _=>s,rfl,Option.some.inj h,fun i hi=>absurd hi (by simp)⟩
 | x::l,s,t,h=>by
   obtain ⟨u,ab,ae⟩:=p9 h;obtain ⟨F,f1,f2,f3⟩:=Pz ae;refine ⟨fun i=>match i with | 0=>s | i+1=>F i,rfl,f2,fun i hi=>?_⟩;cases i with
   | zero=>show g s x=some (F 0);rw [f1,ab]
   | succ i=>exact f3 i (by simpa using hi)
def Seq (P:Program) (k:FuncId) (cap:List I) (E:List I):Prop :=
 ∀ (l N:Nat) (qX:Nat→List ar),(∀ i,(qX i).length=N)→l<N →
   (∀ (i:Nat) (h:i<E.length) (Y:List ar),∃ qL,Sem P (.yield l) [E[i]] (qX i++Y) 0 (.bool true) (qX (i+1)++qL)) →
   ∀ Y,∃ qL,Sem P (.fn k) (.yield l::cap) (qX 0++Y) 0 (.tuple []) (qX E.length++qL)
theorem aht {P:Program} {l:Nat} {qX:Nat→List ar} {E:List I} (ai:∀ (i:Nat) (h:i<E.length) (Y:List ar),∃ qL,Sem P (.yield l) [E[i]] (qX i++Y) 0 (.bool true) (qX (i+1)++qL)) (Y:List ar) :
  ∃ Z:Nat→List ar,Z 0=Y∧∀ (i:Nat) (h:i<E.length),Sem P (.yield l) [E[i]] (qX i++Z i) 0 (.bool true) (qX (i+1)++Z (i+1)):=by
 classical
 have nS:∀ (i:Nat) (Y:List ar),∃ qL,∀ h:i<E.length,Sem P (.yield l) [E[i]] (qX i++Y) 0 (.bool true) (qX (i+1)++qL):=fun i Y=>by
  by_cases h:i<E.length
  ·obtain ⟨qL,aX⟩:=ai i h Y;exact ⟨qL,fun _=>aX⟩
  ·exact ⟨[],fun aX=>absurd aX h⟩
 exact ⟨fun n=>Nat.rec Y (fun i Z=>Classical.choose (nS i Z)) n,rfl,fun i h=>uz (nS i _) h⟩
theorem I0 {H X:List ar} (h:H.length≤X.length):a' 0 H X:=⟨h,fun _ h _=>absurd h (by omega)⟩
theorem Kd (X Y:List ar) (c d:ar):((X++[c])++Y).set X.length d=(X++[d])++Y:=by
 rw [sy,List.set_append_right _ _ (sd _)];simp
theorem IW (X Y:List ar) (c:ar):((X++[c])++Y)[X.length]?=some c:=by
 rw [sy,ss (sd _)];simp
theorem ahk {α:Type} {P:Program} {A:dw} {fn:FuncId} {rl:Option Nat} {k:FuncId} {cap:List I} {bq:List Nat} {gH ct:Code} {T:List I} {H Hn:List ar} {Q:cQ→List I→List ar→Prop} {f:α→I} {L:List α} (IH:Seq P k cap (L.map f))
  (Obj:Nat→List ar) (aQ:Obj 0=H) (hlen:∀ i,(Obj i).length=H.length)
  (Mo:∀ (i:Nat) (h:i<L.length) (Y:List ar),∃ qL,Sem P (.yield H.length) [f L[i]] ((Obj i++[.loop .ready none fn (T.map I.view) bq gH ct A])++Y) 0 (.bool true) ((Obj (i+1)++[.loop .ready none fn (T.map I.view) bq gH ct A])++qL))
  (hg:inLoop H rl=true) (aI:Obj L.length=Hn) (bp:∀ qL,Q .normal (T.map I.settle) ((Hn++[.dead])++qL)):oE P A fn 0 rl (.func k [] cap) bq gH ct T H Q:=by
 obtain ⟨qL,cp⟩:=IH H.length (H.length+1) (fun i=>Obj i++[.loop .ready none fn (T.map I.view) bq gH ct A]) (fun i=>by simp [hlen]) (by omega) (fun i h Y=>by
  have aX:i<L.length:=by simpa using h
  obtain ⟨qL,ai⟩:=Mo i aX Y
  exact ⟨qL,by rw [List.getElem_map];exact ai⟩) []
 subst aI;simp only [sN,sX,aQ] at cp;have ao:(Obj L.length).length=H.length:=hlen _;refine ⟨hg,.tuple [],_,.ready,none,fn,T.map I.view,bq,gH,ct,A,cp,by rw [←ao];exact IW _ _ _,by decide,?_⟩;show Q .normal (T.map I.settle) (((Obj L.length++[ar.loop .ready none fn (T.map I.view) bq gH ct A])++qL).set H.length .dead);rw [←ao,Kd];exact bp qL
end Go.Proofs.YtkoioidpbbbaiaaGreat.Ab


namespace Go.Proofs.YtkoioidpbbbaiaaGreat.Ab
open Go
theorem Vy {H:List ar} {lo i n d:Nat} {k:FuncId} {a b aM au:List I} (ab:ea (bM H lo i n d) a=some aM) (ae:ea (bM H lo i n d) b=some au):bM H lo i n (d+1) (.func k a b)=some (.func k aM au):=by simp only [bM,ab,ae]
theorem ahl {α:Type} {P:Program} {A:dw} {fn:FuncId} {rl:Option Nat} {k:FuncId} {cap:List I} {t:Nat} {bq:List Nat} {gH ct:Code} {T:List I} {H Hn:List ar} {Q:cQ→List I→List ar→Prop} {f:α→I} {L:List α} (IH:Seq P k cap (L.map f))
  (Obj:Nat→List ar) (ax:df T t=.func k [] cap) (aQ:Obj 0=H) (hlen:∀ i,(Obj i).length=H.length)
  (Mo:∀ (i:Nat) (h:i<L.length) (Y:List ar),∃ qL,Sem P (.yield H.length) [f L[i]] ((Obj i++[.loop .ready none fn (T.map I.view) bq gH ct A])++Y) 0 (.bool true) ((Obj (i+1)++[.loop .ready none fn (T.map I.view) bq gH ct A])++qL))
  (hg:inLoop H rl=true) (aI:Obj L.length=Hn) (bp:∀ qL,Q .normal (T.map I.settle) ((Hn++[.dead])++qL)):dQ P A fn 0 rl (.AM (.nc t) bq gH ct) T H Q:=by
 show hI T t _;rw [iQ,ax];exact ahk IH Obj aQ hlen Mo hg aI bp
end Go.Proofs.YtkoioidpbbbaiaaGreat.Ab


namespace Go.Proofs.YtkoioidpbbbaiaaGreat.Ab
open Go
theorem acK {α:Type} [Inhabited α] (f:α→List I) (s:Nat) (ah:∀ x,(f x).length=s) (l:List α) (n:Int) (h:0≤n∧n<(l.length:Int)) (j:Nat) (aw:j<s):(l.flatMap f)[n.toNat*s+j]?=(f (ix l n))[j]?:=by
 have e:=r6 f s ah l n h
 have:(l.flatMap f)[n.toNat*s+j]?=((l.flatMap f).drop (n.toNat*s))[j]?:=by rw [sR]
 rw [this,e,si (by rw [ah];exact aw)]
theorem K3 {α:Type} [Inhabited α] (f:α→List I) (s:Nat) (ah:∀ x,(f x).length=s) (l:List α) (n:Int) (h:0≤n∧n<(l.length:Int)) (j:Nat) {v:I} (aw:(f (ix l n))[j]?=some v) {K:I→Prop} (k:K v):eJ (l.flatMap f) (0+n.toNat*s+j) K:=by
 refine Ew (x:=v) ?_ k;rw [sC,acK f s ah l n h j (by have:=(sa.1 aw).1;rw [ah] at this;exact this),aw]
theorem Qg {α:Type} [Inhabited α] (f:α→List I) (s:Nat) (ah:∀ x,(f x).length=s) (l:List α) (n:Int) (h:0≤n∧n<(l.length:Int)) {v:I} (aw:(f (ix l n))[0]?=some v) {K:I→Prop} (k:K v):eJ (l.flatMap f) (0+n.toNat*s) K :=
 K3 f s ah l n h 0 aw k
theorem Zc {α:Type} {f:α→List I} (h:∀ x,∀ u∈f x,u.view=u) (l:List α):∀ u∈l.flatMap f,u.view=u:=fun u hu=>by
 obtain ⟨x,_,aj⟩:=tJ.1 hu;exact h x u aj
theorem Zd:∀ u∈([]:List I),u.view=u:=fun u h=>absurd h (by simp)
theorem O0 {v:I} {l:List I} (h:v.view=v) (k:∀ u∈l,u.view=u):∀ u∈v::l,u.view=u:=fun u hu=>by
 rcases List.mem_cons.1 hu with rfl | hu
 ·exact h
 ·exact k u hu
end Go.Proofs.YtkoioidpbbbaiaaGreat.Ab


namespace Go.Proofs.YtkoioidpbbbaiaaGreat.Ab
open Go
theorem qC {n:Int} (h:-9223372036854775808≤n∧n≤9223372036854775807):w n=n:=ah1 h.1 h.2
theorem Ik (i:Nat) (h:i≤9223372036854775806):w ((i:Int)+1)=((i+1:Nat):Int):=Qt i h
end Go.Proofs.YtkoioidpbbbaiaaGreat.Ab


namespace Go.Proofs.YtkoioidpbbbaiaaGreat.Ab
open Go
def p7 (p:Int×Int):List I:=[h0 p.1,h0 p.2]
theorem q' (p:Int×Int):(p7 p).length=2:=rfl
theorem RA (k:IntKind):∀ (xs ys:List Int),xs.length=ys.length→dL (xs.map (.int k)) (ys.map (.int k))=some (decide (xs=ys))
 | [],[],_=>rfl
 | x::xs,y::ys,h=>by
   simp only [sG,dL,if_true,RA k xs ys (by simpa using h),sf];congr 1;by_cases aj:x=y <;> by_cases ao:xs=ys <;> simp [aj,ao]
 | [],y::ys,h=>by cases h
 | x::xs,[],h=>by cases h
theorem aaP {P:Program} {t:TypeId} {fs:Array Field} {op:BinOp} (ab:P.underlying t=some (.struct fs)) (ae:gS P fs.toList 0=true) (aF:P.stoodInHeld t=false) (ba:fs.size=2) (bP:P.eqGuardType P.depth t=false) (a b c d:Int) (aC:op=.eql∨op=.neq) :
  fo P op t (.agg [h0 a,h0 b]) (.agg [h0 c,h0 d])=some (.bool (match op with | .eql=>decide ((a,b)=(c,d)) | _=>!decide ((a,b)=(c,d)))):=by
 unfold fo;simp only [ab];rw [if_pos ⟨ae,aF,by simp [ba],by simp [ba],bP⟩];have e:=RA .i64 [a,b] [c,d] rfl;simp only [sG,uA] at e;have b':decide ([a,b]=[c,d])=decide ((a,b)=(c,d)):=by simp
 rcases aC with rfl | rfl <;> simp only <;> rw [show [h0 a,h0 b]=[I.int .i64 a,I.int .i64 b] from rfl,show [h0 c,h0 d]=[I.int .i64 c,I.int .i64 d] from rfl,e,sf,b']
theorem aaO {P:Program} {t e:TypeId} {len:Nat} {kd:IntKind} (k:IntKind) (ab:P.underlying t=some (.array len e)) (ae:P.underlying e=some (.int kd)) (aF:bF P e=some 1) (ba:P.eqGuardType P.depth t=false) {xs ys:List Int} (aj:xs.length=len) (aY:ys.length=len) :
  fo P .eql t (.agg (xs.map (.int k))) (.agg (ys.map (.int k)))=some (.bool (decide (xs=ys))):=by
 unfold fo;simp only [ab,ae,aF];rw [if_pos ⟨by simp [aj],by simp [aY],ba⟩,RA k xs ys (by rw [aj,aY]),sf]
theorem W' {P:Program} {C:b8} {lo:Nat} {o:Oper} {op:BinOp} {t u:TypeId} {a b:Operand} {x y v:I} {H:List ar} (aq:o.op=.binOp op t a b u) (aI:iZ b=false) (h:fo P op t x y=some v):a3 P C lo o 0 [x,y] H=some (v,H):=by
 unfold a3;rw [aq];show (cB P o [x,y]).map _=_;unfold cB;rw [aq];simp only [aI];show (fo P op t x y).map _=_;rw [h];rfl
end Go.Proofs.YtkoioidpbbbaiaaGreat.Ab


namespace Go.Proofs.YtkoioidpbbbaiaaGreat.Ab
open Go
section
variable {P:Program} {B N:Nat} {J:List Nat} {w:World} {H:List ar} {aa:Nat→Option aH} {S:Nat→Nat→Prop}
end
end Go.Proofs.YtkoioidpbbbaiaaGreat.Ab


namespace Go.Proofs.YtkoioidpbbbaiaaGreat.Ab
open Go
theorem ahX {α:Type} {f:α→I} (h:∀ x,(f x).view=f x) (l:List α):(l.map f).map I.view=l.map f:=by rw [vu];exact tI fun x _=>h x
theorem Ww {α:Type} (f:α→I) (l:List α) {n:Nat} (aP:∀ x,(f x).view=f x) (h:l.length=n):(((l.map f).drop 0).take n).map I.view=l.map f:=by
 rw [tq,td (by simp [h]),ahX aP]
def acP (P:Program) (t:TypeId):Array Field:=match P.underlying t with
 | some (.struct fs)=>fs
 | _=>#[]
theorem aaQ {P:Program} {t e:TypeId} {len:Nat} {kd k:IntKind} {xs:List Int} {n:Int} (ab:P.underlying t=some (.array len e)) (ae:P.underlying e=some (.int kd)) (aF:bF P e=some 1) (ba:dK P e=false) (ao:xs.length=len) (aI:0≤n∧n<(len:Int)) :
  o0 P t (.agg (xs.map h0)) (.int k n)=some (h0 (ix xs n)):=by
 unfold o0;have bP:g_ n len=some n.toNat:=by unfold g_;rw [if_pos aI]
 simp only [ab,aF,bP,sb,tn];unfold iK;simp only [ae,ba];have aR:n.toNat<xs.length:=by omega
 rw [sm,sj aR,sf,PH (by omega)]
theorem afK {P:Program} {C:b8} {lo:Nat} {o:Oper} {t:TypeId} {a b:Operand} {x y v:I} {H:List ar} (aq:o.op=.index t a b) (h:o0 P t x y=some v) (ad:v.view=v:=by rfl):a3 P C lo o 0 [x,y] H=some (v,H):=by
 unfold a3;rw [aq];show (cB P o [x,y]).map _=_;unfold cB;rw [aq];show ((o0 P t x y).map I.view).map _=_;rw [h,sf,sf,ad]
end Go.Proofs.YtkoioidpbbbaiaaGreat.Ab


namespace Go.Proofs.YtkoioidpbbbaiaaGreat.Ab
open Go
def Lr:List I→Nat→List (Nat×I)→List I
 | [],_,_=>[]
 | x::T,_,[]=>x::T
 | x::T,i,(j,v)::r=>match Nat.beq i j with
   | true=>v::Lr T (i+1) r
   | false=>x::Lr T (i+1) ((j,v)::r)
def Iy (u:Nat→I):Nat→Nat→List (Nat×I)→List I
 | 0,_,_=>[]
 | n+1,i,[]=>u i::Iy u n (i+1) []
 | n+1,i,(j,v)::r=>match Nat.beq i j with
   | true=>v::Iy u n (i+1) r
   | false=>u i::Iy u n (i+1) ((j,v)::r)
def ra (n:Nat) (bq:List (Nat×I)) (T:List I):Prop:=T.length=n∧T=Lr T 0 bq
theorem Qk {u bH:Nat→I}:∀ (n i:Nat) (bq:List (Nat×I)),(∀ k,i≤k→u k=bH k)→Iy u n i bq=Iy bH n i bq
 | 0,_,_,_=>rfl
 | n+1,i,[],h=>by
   rw [Iy,Iy,h i (sd _),Qk n (i+1) [] fun k al=>h k (by omega)]
 | n+1,i,(j,v)::r,h=>by
   rw [Iy,Iy];cases Nat.beq i j with
   | true=>exact congrArg _ (Qk n (i+1) r fun k al=>h k (by omega))
   | false=>show u i::_=bH i::_;rw [h i (sd _),Qk n (i+1) _ fun k al=>h k (by omega)]
theorem YC:∀ (T:List I) (i:Nat) (bq:List (Nat×I)),Lr T i bq=Iy (fun k=>df T (k-i)) T.length i bq
 | [],_,_=>rfl
 | x::T,i,bq=>by
   have e:∀ bq,Iy (fun k=>df (x::T) (k-i)) T.length (i+1) bq=Lr T (i+1) bq:=fun bq=>by
    rw [YC T (i+1) bq];refine Qk _ _ _ fun k al=>?_;show df (x::T) (k-i)=df T (k-(i+1));rw [show k-i=(k-(i+1))+1 by omega];rfl
   (have gb:df (x::T) (i-i)=x:=by rw [Nat.sub_self];rfl);(have acH:∀ (T:List I) i,Lr T i []=T:=fun T i=>by cases T <;> rfl);cases bq with
   | nil =>
     show x::T=Iy _ (T.length+1) i [];rw [Iy,gb,e,acH]
   | cons p r =>
     obtain ⟨j,v⟩:=p;show Lr (x::T) i ((j,v)::r)=Iy _ (T.length+1) i ((j,v)::r);rw [Lr,Iy];cases Nat.beq i j with
     | true=>exact congrArg _ (e r).symm
     | false=>show x::_=_::_;rw [gb,e]
theorem ra.ex {n:Nat} {bq:List (Nat×I)} {T:List I} (h:ra n bq T):∃ u,T=Iy u n 0 bq:=by
 obtain ⟨ab,ae⟩:=h;subst ab;exact ⟨_,ae.trans (YC T 0 bq)⟩
class HH (d:Nat) (v:I):Prop where PO:cr d v=true
class qa (d:Nat) (l:List I):Prop where pl:l.all (cr d)=true
instance {d:Nat}:qa d []:=⟨rfl⟩
instance {d:Nat} {v:I} {l:List I} [a:HH d v] [b:qa d l]:qa d (v::l):=⟨p5 a.PO b.pl⟩
instance {d:Nat} {a b:List I} [x:qa d a] [y:qa d b]:qa d (a++b):=⟨by rw [List.all_append,x.pl,y.pl];rfl⟩
instance {d:Nat} {α:Type} {f:α→I} {l:List α} [h:∀ x,HH d (f x)]:qa d (l.map f):=⟨Xk (fun x=>(h x).PO) l⟩
instance {d:Nat} {α:Type} {f:α→List I} {l:List α} [h:∀ x,qa d (f x)]:qa d (l.flatMap f):=⟨by
 rw [sn];intro u hu;obtain ⟨x,_,aj⟩:=tJ.1 hu
 exact sn.1 (h x).pl u aj⟩
instance {d:Nat} {k:IntKind} {n:Int}:HH (d+1) (.int k n):=⟨rfl⟩
instance {d:Nat} {b:Bool}:HH (d+1) (.bool b):=⟨rfl⟩
instance {d:Nat} {b:ByteArray}:HH (d+1) (.str b):=⟨rfl⟩
instance {d:Nat}:HH (d+1) .eI:=⟨rfl⟩
instance {d:Nat}:HH (d+1) .a0:=⟨rfl⟩
instance {d n:Nat} {c:hE} {l:List I} [h:qa d l]:HH (d+1) (.av l n c):=⟨h.pl⟩
instance {d:Nat} {l:List I} [h:qa d l]:HH (d+1) (.agg l):=⟨h.pl⟩
instance {d:Nat} {l:List I} [h:qa d l]:HH (d+1) (.tuple l):=⟨h.pl⟩
instance {d:Nat} {l:List I} [h:qa d l]:HH (d+1) (.bS l):=⟨h.pl⟩
instance {d:Nat} {α:Type} {f:α→I} {l:List α} [h:∀ x,HH d (f x)]:HH (d+1) (aaJ f l):=⟨Xk (fun x=>(h x).PO) l⟩
instance {d:Nat} {α:Type} {f:α→List I} {l:List α} [h:∀ x,qa d (f x)]:HH (d+1) (aaK f l):=⟨(inferInstance:qa d (l.flatMap f)).pl⟩
instance {d:Nat} {l:List Int}:HH (d+2) (oX l):=⟨(inferInstance:qa (d+1) (l.map h0)).pl⟩
instance {d:Nat} {l:List (List Int)}:HH (d+3) (jx l):=⟨(inferInstance:qa (d+2) (l.map oX)).pl⟩
instance {d:Nat} {α:Type} {f:α→List I} {x:Option α} [h:∀ x,qa d (f x)]:HH (d+1) (Nl f x):=⟨Xj (fun x=>(h x).pl) x⟩
theorem qD {p Mu:Prop} [Decidable p] {aV:Type} {k:Option aV} {v:aV} {K:Prop} (h:qk p k=some v) (f:p→Mu) (g:p→k=some v→K):Mu∧K :=
 ⟨f (q_ h).1,g (q_ h).1 (q_ h).2⟩
theorem bs {b:Bool} {aV:Type} {x y:Option aV} {v:aV} {K:Prop} (h:(if b=true then x else y)=some v) (f:b=true→x=some v→K) (g:b=false→y=some v→K):K :=
 match b,h,f,g with
 | true,h,f,_=>f rfl (rq rfl h)
 | false,h,_,g=>g rfl (rr rfl h)
theorem afX {d:Nat} {u:I} (h:cr d u.ha=true):cr d u=true:=by
 cases d with
 | zero=>simp [cr] at h
 | succ d=>cases u with
   | av cs n c=>cases c <;> exact h
   | _=>exact h
theorem Xi {d:Nat} {l:List I} (h:(l.map I.ha).all (cr d)=true):l.all (cr d)=true:=by
 rw [sn] at h ⊢;exact fun u hu=>afX (h _ (List.mem_map_of_mem hu))
theorem afW {d:Nat} {r:I} (h:cr d r.settle.view.cc=true) (aw:r.settle.view.cc.G4=false):cr d r=true:=by
 cases d with
 | zero=>simp [cr] at h
 | succ d=>cases r with
   | av cs n c=>cases c <;> exact h
   | agg cs=>exact Xi (l:=cs) h
   | tuple cs=>exact Xi (l:=cs) h
   | raw=>exact absurd aw (by simp [I.settle,I.view,I.cc,I.G4])
   | c3=>exact absurd aw (by simp [I.settle,I.view,I.cc,I.G4])
   | cm=>exact absurd h (by simp [I.settle,I.view,I.cc,cr])
   | _=>exact h
theorem Ix {rs:List Iq} {v:I} {T:List I} {H:List ar} {vs:List I} [h:HH 8 v] (ab:rX H T rs=some vs) (ae:(jg vs).settle.view.cc=v) (aw:v.G4=false:=by first | rfl | (simp [I.G4];done) | (cases ‹Option _› <;> rfl)):H4 rs v .ret T H :=
 ⟨.inr rfl,vs,ab,_,yW (afW (ae ▸ h.PO) (ae ▸ aw)),ae⟩
end Go.Proofs.YtkoioidpbbbaiaaGreat.Ab


namespace Go.Proofs.YtkoioidpbbbaiaaGreat.Ab
open Go
section
variable {P:Program} {A:dw} {fn:FuncId} {lo:Nat} {rl:Option Nat}
inductive ajx (P:Program) (A:dw) (fn:FuncId) (lo:Nat) (rl:Option Nat) (rc:gE) (T:List I) (H:List ar) (Q:cQ→List I→List ar→Prop):Prop where
 | mk (cE:List Bool) (c:gE) (he:rc=.loop (some cE) c) (h0:Nat→List I→List ar→Prop) (m:Nat) (hm:m≤qj) (aQ:h0 m T H)
   (step:∀ (Hr:List I→List ar→Prop) m T H,h0 m T H→(∀ hr bf H',hr<m→h0 hr bf H'→Hr bf H')→ob T fun T=>dQ P A fn lo rl c T H fun e bf H'=>match e with
    | .normal=>xo (some cE) bf fun bf=>Hr bf H'
    | e=>Q e bf H')
end
theorem PS {cs:List I} {n d:Nat} {c:hE} (h:cs.all (cr d)=true):cr (d+1) (.av cs n c)=true:=h
def ahm (l:List Int):I:=.av (l.map h0) l.length (if l.length=1 then .full else .shared)
end Go.Proofs.YtkoioidpbbbaiaaGreat.Ab


namespace Go.Proofs.YtkoioidpbbbaiaaGreat.Ab
open Go
instance {d:Nat} {p:Int×Int}:qa (d+1) (p7 p):=⟨(inferInstance:qa (d+1) [h0 p.1,h0 p.2]).pl⟩
instance {d:Nat} {l:List Int}:HH (d+2) (ahm l):=⟨(inferInstance:qa (d+1) (l.map h0)).pl⟩
end Go.Proofs.YtkoioidpbbbaiaaGreat.Ab


namespace Go.Proofs.YtkoioidpbbbaiaaGreat.Ab
open Go
abbrev p_:=List Int
abbrev qd:=List (Int×Int)
abbrev LK:=List (List Int)
abbrev ajw:=List (List (Int×Int))
abbrev ajs:=Int×List (Int×Int)
abbrev r1:=cQ→List I→List ar→Prop
abbrev qS (l:List Int) (c:hE):I:=.av (l.map h0) l.length c
abbrev qv (l:List (Int×Int)) (c:hE):I:=.av (l.flatMap p7) l.length c
abbrev ajz (b:Int×List (Int×Int)):I:=.agg [h0 b.1,.av (b.2.flatMap p7) b.2.length .shared]
abbrev ajA (b:Int×List (Int×Int)):ar:=ar.cells [h0 b.1,.av (b.2.flatMap p7) b.2.length .shared]
def qK {aV:Type} (rs:List Iq) (Q:cQ→List I→List ar→Prop) (e:aV→I) (v:aV):Prop:=∀ T H,H4 rs (e v) .ret T H→Q .ret T H
theorem p8 {aV:Type} {x v:aV} {e:aV→I} {rs:List Iq} {Q:cQ→List I→List ar→Prop} {T:List I} {H:List ar} {vs:List I} (h:some x=some v) (jJ:qK rs Q e v) [k:HH 8 (e x)] (ab:rX H T rs=some vs) (ae:(jg vs).settle.view.cc=e x) (aw:(e x).G4=false:=by first | rfl | (simp [I.G4];done) | (cases ‹Option _› <;> rfl)):Q .ret T H:=by
 obtain rfl:=Option.some.inj h;exact jJ _ _ (Ix ab ae aw)
class qp (H:List ar) (i:Nat) (o:outParam ar):Prop where h:H[i]?=some o
instance {H:List ar} {o:ar}:qp (H++[o]) H.length o:=⟨I_ _ _⟩
instance {H:List ar} {i:Nat} {o p:ar} [k:qp H i o]:qp (H++[p]) i o:=⟨VO k.h⟩
end Go.Proofs.YtkoioidpbbbaiaaGreat.Ab


namespace Go.Proofs.YtkoioidpbbbaiaaGreat.Ab
open Go Go.ChangeShapes Go.WideShapes Go.ChangeAt Go.RowKit
def S0 (w:World):Nat→Nat→Prop:=fun b o=>∃ v,w.cell? ⟨b,o,none⟩=some v
theorem my (w:World):aK w.heap.size (fun _=>none) [] (S0 w) w [] :=
 ⟨rfl,fun _ _ h=>by simp at h,fun _ _ h=>h,fun _ _ h=>by simp at h,sd _⟩
theorem YS {P:Program} {k:FuncId} {args:List I} {vs:List Value} {W:World} {b:Bool} (h:nn P k args (.bool b)) (ad:a5 (fun i=>.arg i) (fun _=>none) [] (S0 W) W args vs) :
  Calls P k vs.toArray W fun e IU=>e=.returned (.bool b)∧Below W.heap.size W IU:=by
 have ab:=h.1.2.2 W.heap.size (fun _=>none) [] (S0 W) W vs (my W) (fun _ _ h=>by simp at h) ad;refine (callsIn_wide.1 ab).mono fun e IU he=>?_;cases e with
 | returned v =>
   obtain ⟨ay,bV,S',_,az,_,ai,_⟩:=he;cases ai;exact ⟨rfl,az.os,az.tape,az.output,az.size,fun b af=>az.cE b af rfl⟩
 | panicked c=>exact he.elim
 | outgrown=>exact he.elim
section
variable {H:Type} {enc:TypeId×Value→H} {P:Program} {w:World}
theorem Ud {W IU:World} (K:Kids P (·<P.types.size)) (bR:∀ t e,t<P.types.size→P.underlying t=some (.slice e)→0<P.cellsOf e) (JC:Below W.heap.size W IU) {sp:Nat→Bool} :
  ∀ {ts:List TypeId} {vs:List Value} {fG:List (DataW H)} {p:List MemPlace},(∀ t∈ts,t<P.types.size)→DataW.TrodAll enc P W 0 (fun _=>true) true ts vs fG p→(∀ x∈p,sp x.block=true)→(∀ x∈p,x.block<W.heap.size)→DataW.TrodAll enc P IU 0 sp true ts vs fG p
 | [],_,_,_,_,aL,_,_=>by obtain ⟨rfl,rfl,rfl⟩:=trodAll_nil aL;exact trodAll_mk0
 | t::ts,_,_,_,b0,aL,Nh,aR=>by
   obtain ⟨v,vs,d,fG,a,b,rfl,rfl,rfl,⟨n,aI⟩,ae⟩:=trodAll_cons aL;refine ⟨a,b,⟨n,?_⟩,Ud K bR JC (fun t ax=>b0 t (tS _ ax)) ae (fun x aj=>Nh x (vw _ aj)) (fun x aj=>aR x (vw _ aj)),rfl⟩;exact DataW.trod_stays K (fun {t e} ax he=>bR t e ax he) (fun h=>by cases h) (b0 t tY) aI (fun x aj=>JC.same (aR x (vz _ aj))) fun x aj=>Nh x (vz _ aj)
theorem Xg {f:Func} {s:ChangeSpec} {again:Bool} {W IU:World} {args:Array Value} {t:TypeId} {fG gs:List (DataW H)} {before:List MemPlace}
  (ao:laidOutB P=true) (hm:mapsRowed P=true) (bk:((List.range P.types.size).all fun t=>match P.underlying t with | some (.slice e)=>decide (0<P.cellsOf e) | _=>true)=true)
  (ax:f.resultTypes=#[t]) (VV:P.underlying t=some .bool) (kR:f.params.toList.all (fun t=>decide (t<P.types.size))=true) (Sj:s.vars=[])
  (mb:DataW.Whole enc P f.params.toList s.vars false W args.toList fG gs before) (JC:Below W.heap.size W IU)
  (ah:s.fn H (fG++gs)={ results:=[.lit (.bool true)],args:=fG }):s.post enc P f false true false again W args (.bool true) IU:=by
 have aR:=mb.lt;have ac6:=mb;obtain ⟨p,q,aL,jK,rfl,C0,jV⟩:=ac6;rw [Sj] at jK;obtain ⟨rfl,rfl⟩:=trodVars_none jK;rw [sN] at *;have K:Kids P (·<P.types.size):=kids_rows ao hm;have bR:=slices_full_of P bk;have b0:∀ t∈f.params.toList,t<P.types.size:=fun t h=>by
  have:=sn.1 kR t h;simpa using this
 have again:∀ sp:Nat→Bool,(∀ x∈p,sp x.block=true)→DataW.TrodAll enc P IU 0 sp true f.params.toList args.toList fG p:=fun sp Nh =>
  Ud K bR JC b0 aL Nh aR
 have kT:∀ (b:Nat) (sp:Nat→Bool) (a1:Bool),DataW.TrodAll enc P IU b sp a1 f.resultTypes.toList ((Value.bool true).resultList f.resultTypes.size) (s.fn H fG).results []:=fun b sp a1=>by
  rw [ah,ax];exact trodAll_mk1 (shut_bool VV true)
 have CH:∀ sp:Nat→Bool,(∀ x∈p,sp x.block=true)→DataW.TrodAll enc P IU 0 sp true f.params.toList args.toList (s.fn H fG).args p:=fun sp Nh=>by
  rw [ah];exact again sp Nh
 have ad:∀ sp:Nat→Bool,DataW.TrodVars enc P IU sp s.vars (s.fn H fG).vars []:=fun sp=>by
  rw [ah,Sj];rfl
 have hold:∀ x∈p,(fun b=>decide (b<W.heap.size)) x.block=true:=fun x aj=>by simpa using aR x aj
 refine ⟨fG,[],p,[],p,[],mb,by rw [sN];exact kT _ _ _,by rw [sN];exact CH _ hold,by rw [sN];exact ad _,JC.frame _,fun _=>?_⟩;refine ⟨fun j u r hu ai=>?_,(s.fn H fG).results++(s.fn H fG).args,[],p,⟨p,[],?_,?_,by simp,?_,fun h=>by cases h⟩,fun x aj _=>aj⟩
 ·rw [ax] at hu ai;cases j with
  | zero=>simp [Value.resultList] at hu ai;subst hu;subst ai;exact okWide_bool_mk VV true
  | succ j=>simp at hu
 ·have:=trodAll_append (CH (fun _=>true) fun _ _=>rfl) (kT 0 (fun _=>true) true);simpa using this
 ·rw [Sj];rfl
 ·intro b o af;have:=aR _ af;rw [JC.frozen (p:=⟨b,o,none⟩) this];exact C0 b o af
theorem WT {α:Type} {f:α→I} {R:α→Prop}:∀ {l:List I},(∀ u∈l,∃ x,u=f x∧R x)→∃ gx:List α,l=gx.map f∧∀ x∈gx,R x
 | [],_=>⟨[],rfl,by simp⟩
 | u::l,h=>by
   obtain ⟨x,rfl,aj⟩:=h u (by simp);obtain ⟨gx,rfl,bk⟩:=WT (l:=l) fun y aY=>h y (by simp [aY]);exact ⟨x::gx,rfl,by simpa using ⟨aj,bk⟩⟩
abbrev Km (enc:TypeId×Value→H) (P:Program) (w:World) (e:TypeId) (Q:I→Prop):Prop :=
 ∀ n v y,DataW.trod enc P w 0 (fun _=>true) true n e [v]=some y→∃ u,u.plain=true∧v.oneCell'=true∧Rel [] (S0 w) w u v∧Q u
theorem Ve {e:TypeId} {k:IntKind} (ax:P.underlying e=some (.int k)):Km enc P w e fun u=>∃ x,u=.int k x∧(Lit.int k x).wf=true:=by
 intro n v y h;obtain ⟨x,aj,_,hw⟩:=DataW.trod_int ax h;injection aj with aj _;subst aj;exact ⟨.int k x,rfl,rfl,.int k x,x,rfl,hw⟩
instance:Inhabited I:=⟨.a0⟩
theorem ab7 {t e:TypeId} (ax:P.underlying t=some (.slice e)) (ce:P.cellsOf e=1) {Q:I→Prop} (he:Km enc P w e Q) :
  Km enc P w t fun u=>∃ l:List I,u=.av l l.length .shared∧l.length≤maxLen∧∀ u∈l,Q u:=by
 intro fuel v x h;rcases Deep.open_slice1 ax ce h with ⟨ad,_⟩ | ⟨a,len,cap,m,n,V,D,Q',ad,_,ao,hm,pQ,_,aj⟩
 ·injection ad with ad _;subst ad;exact ⟨_,rfl,rfl,.b3 _ _,[],rfl,sE _,by simp⟩
 ·injection ad with ad _;subst ad;have pQ:m=cap:=pQ;have aj:∀ i,i<cap→w.cell? (a.add i)=some (V i)∧DataW.trod enc P w 0 (fun _=>true) true n e [V i]=some (D i,Q' i):=fun i hi=>aj i (by omega);by_cases ak:cap=0
  ·(subst ak;obtain rfl:len=0:=by omega);exact ⟨_,rfl,rfl,.b3 _ _,[],rfl,sE _,by simp⟩
  ·obtain ⟨b,o,sp⟩:=a;have aQ:=(aj 0 (by omega)).1;(have ah:sp=none:=by simpa [Addr.add] using World.cell?_spot aQ);subst ah;obtain ⟨U,HA⟩:=Deep.choose_lt (α:=I) (n:=len) (p:=fun i u=>u.plain=true∧(V i).oneCell'=true∧Rel [] (S0 w) w u (V i)∧Q u) fun i hi=>he n (V i) _ (aj i (by omega)).2;refine ⟨.av ((List.range len).map U) len .shared,rfl,rfl,.av _ _ _ b o cap V (by simp) ao (by simp) (fun j u aw=>?_) (fun j u aw=>?_),(List.range len).map U,by simp,by simp;omega,fun u hu=>?_⟩
   ·(have mo:j<len:=by have:=(sa.1 aw).1;simpa using this);simp [mo] at aw;subst aw;(have bz:w.cell? ⟨b,o+j,none⟩=some (V j):=by have:=(aj j (by omega)).1;rwa [add_lit] at this);exact ⟨⟨_,bz⟩,bz,(HA j mo).1,(HA j mo).2.1⟩
   ·(have mo:j<len:=by have:=(sa.1 aw).1;simpa using this);simp [mo] at aw;subst aw;exact (HA j mo).2.2.1
   ·obtain ⟨j,aw,rfl⟩:=sD.1 hu;exact (HA j (sH.1 aw)).2.2.2
def I6 (x:Int):Prop := -9223372036854775808≤x∧x≤9223372036854775807
theorem wf_i64 {x:Int} (h:(Lit.int .i64 x).wf=true):I6 x:=by
 have ab:IntKind.i64.min=-9223372036854775808:=rfl;have ae:IntKind.i64.max=9223372036854775807:=rfl;simp only [Lit.wf,sq,decide_eq_true_eq] at h;exact ⟨by omega,by omega⟩
theorem wf_u8 {x:Int} (h:(Lit.int .u8 x).wf=true):0≤x∧x≤255:=by
 have ab:IntKind.u8.min=0:=rfl;have ae:IntKind.u8.max=255:=rfl;simp only [Lit.wf,sq,decide_eq_true_eq] at h;exact ⟨by omega,by omega⟩
structure aaG (l:List Int):Prop where
 n:l.length≤9223372036854775807
 v:∀ x∈l,I6 x
structure ajv (l:List (List Int)):Prop where
 n:l.length≤9223372036854775807
 v:∀ r∈l,aaG r
theorem WV {n:Nat} (h:n≤maxLen):n≤9223372036854775807:=by unfold maxLen at h;omega
def N_ (l:List Int):I:=.av (l.map (.int .u8)) l.length .shared
structure T6 (l:List Int):Prop where
 n:l.length≤9223372036854775807
 v:∀ x∈l,0≤x∧x≤255
theorem ab6 {t e:TypeId} (ax:P.underlying t=some (.slice e)) (ce:P.cellsOf e=1) (he:P.underlying e=some (.int .u8)):Km enc P w t fun u=>∃ l,u=N_ l∧T6 l:=by
 intro n v y h;obtain ⟨u,aA,aG,aT,l,rfl,br,bg⟩:=ab7 ax ce (Ve he) n v y h;obtain ⟨gx,rfl,bd⟩:=WT bg;exact ⟨_,aA,aG,aT,gx,by simp [N_],by simpa using WV br,fun x aj=>wf_u8 (bd x aj)⟩
abbrev Arg (enc:TypeId×Value→H) (P:Program) (w:World) (base:Nat) (t:TypeId) (Q:I→Prop):Prop :=
 ∀ v d p,Value.okWide P w .any base t v→DataW.Trod enc P w 0 (fun _=>true) true t v d p→∃ u,u.plain=true∧Rel [] (S0 w) w u v∧Q u
theorem abI {base:Nat} {t:TypeId} {k:IntKind} (ax:P.underlying t=some (.int k)):Arg enc P w base t fun u=>∃ x,u=.int k x∧(Lit.int k x).wf=true:=by
 intro v d p ad a1;obtain ⟨x,rfl,_,_,hw⟩:=open_int ax ad a1;exact ⟨.int k x,rfl,.int k x,x,rfl,hw⟩
theorem abJ {base:Nat} {t e:TypeId} (ax:P.underlying t=some (.slice e)) {Q:I→Prop} (ak:Km enc P w t Q):Arg enc P w base t Q:=by
 intro v d p ad ⟨n,a1⟩;obtain ⟨a,len,cap,rfl⟩:=okWide_slice ax ad;obtain ⟨u,aA,_,aT,br⟩:=ak n _ _ a1;exact ⟨u,aA,aT,br⟩
theorem ahY {us:List I} {vs:List Value} (h:us.length=vs.length) (ai:∀ (i:Nat) (u:I) (v:Value),us[i]?=some u→vs[i]?=some v→u.plain=true∧Rel [] (S0 w) w u v):a5 (fun i=>.arg i) (fun _=>none) [] (S0 w) w us vs :=
 ⟨h,fun i u v hu ad=>(ai i u v hu ad).2,fun i u v hu ad=>aU.b4 (ai i u v hu ad).1⟩
end
end Go.Proofs.YtkoioidpbbbaiaaGreat.Ab


namespace Go.Proofs.YtkoioidpbbbaiaaGreat.Ab
open Go Go.ChangeShapes Go.WideShapes Go.ChangeAt Go.RowKit
section
variable {H:Type} {enc:TypeId×Value→H} {P:Program} {w:World}
theorem WU {α β:Type} {f:α→β} {R:α→Prop}:∀ {l:List β},(∀ u∈l,∃ x,u=f x∧R x)→∃ gx:List α,l=gx.map f∧∀ x∈gx,R x
 | [],_=>⟨[],rfl,by simp⟩
 | u::l,h=>by
   obtain ⟨x,rfl,aj⟩:=h u (by simp);obtain ⟨gx,rfl,bk⟩:=WU (l:=l) fun y aY=>h y (by simp [aY]);exact ⟨x::gx,rfl,by simpa using ⟨aj,bk⟩⟩
def Pj (enc:TypeId×Value→H) (P:Program) (w:World) (fs:Array Field) (Ip:List (I→Prop)):Prop :=
 Ip.length=fs.size∧∀ (i:Nat) (f:Field) (q:I→Prop),fs[i]?=some f→Ip[i]?=some q→f.offset=i∧P.cellsOf f.type=1∧Km enc P w f.type q
def Q9 (Ip:List (I→Prop)) (us:List I):Prop:=us.length=Ip.length∧∀ (i:Nat) (u:I) (q:I→Prop),us[i]?=some u→Ip[i]?=some q→q u
theorem ahH {t:TypeId} {fs:Array Field} {Ip:List (I→Prop)} (ax:P.underlying t=some (.struct fs)) (ak:P.cellsOf t=fs.size) (aP:Pj enc P w fs Ip) {n:Nat} {cs:List Value} {y:DataW H×List MemPlace}
  (h:DataW.trod enc P w 0 (fun _=>true) true n t cs=some y):∃ us:List I,Q9 Ip us∧cs.length=us.length∧∀ (j:Nat) (u:I) (v:Value),us[j]?=some u→cs[j]?=some v→u.plain=true∧v.oneCell'=true∧Rel [] (S0 w) w u v:=by
 obtain ⟨xs,m,_,_,ao,Sk,aj⟩:=DataW.trod_struct ax h;rw [ak] at ao;have each:∀ i,i<fs.size→∃ u:I,(∀ v,cs[i]?=some v→u.plain=true∧v.oneCell'=true∧Rel [] (S0 w) w u v)∧∀ q,Ip[i]?=some q→q u:=fun i hi=>by
  have ab:fs[i]?=some fs[i]:=Array.getElem?_eq_getElem hi;have a_:i<Ip.length:=by rw [aP.1];exact hi
  have ae:Ip[i]?=some Ip[i]:=sj a_;obtain ⟨e1,b',dA⟩:=aP.2 i _ _ ab ae;have aF:=aj i _ ab;rw [e1,b'] at aF;have VZ:i<cs.length:=by omega
  rw [s0 VZ,sj (by omega)] at aF;simp only [List.take_succ_cons,List.take_zero] at aF;obtain ⟨u,aA,aG,aT,br⟩:=dA _ _ _ aF;refine ⟨u,fun v ad=>?_,fun q Dr=>?_⟩
  ·rw [sj VZ] at ad;cases ad;exact ⟨aA,aG,aT⟩
  ·rw [ae] at Dr;cases Dr;exact br
 obtain ⟨U,HA⟩:=Deep.choose_lt (α:=I) (n:=fs.size) (p:=fun i u=>(∀ v,cs[i]?=some v→u.plain=true∧v.oneCell'=true∧Rel [] (S0 w) w u v)∧∀ q,Ip[i]?=some q→q u) each;have get:∀ (i:Nat) (u:I),((List.range fs.size).map U)[i]?=some u→i<fs.size∧u=U i:=fun i u hu=>by
  have hi:i<fs.size:=by have:=(sa.1 hu).1;simpa using this
  simp [hi] at hu;exact ⟨hi,hu.symm⟩
 refine ⟨(List.range fs.size).map U,⟨by simp [aP.1],fun i u q hu a_=>?_⟩,by simp [ao],fun j u v hu ad=>?_⟩
 ·obtain ⟨hi,rfl⟩:=get i u hu;exact (HA i hi).2 q a_
 ·obtain ⟨hi,rfl⟩:=get j u hu;exact (HA j hi).1 v ad
theorem Vs {s:Nat}:∀ {L:List (List I)} {j:Nat} {u:I},(∀ l∈L,l.length=s)→0<s→L.flatten[j]?=some u→∃ l,L[j / s]?=some l∧l[j % s]?=some u
 | [],j,u,_,_,h=>by simp at h
 | l::L,j,u,ao,ah,h=>by
   have aQ:l.length=s:=ao l (by simp);rw [List.flatten_cons] at h;by_cases aw:j<s
   ·rw [si (by omega)] at h;exact ⟨l,by rw [Nat.div_eq_of_lt aw];rfl,by rw [Nat.mod_eq_of_lt aw];exact h⟩
   ·rw [ss (by omega),aQ] at h;obtain ⟨k,a,b⟩:=Vs (s:=s) (fun x aj=>ao x (by simp [aj])) ah h;(have e1:j / s=(j-s) / s+1:=by rw [Nat.div_eq_sub_div ah (by omega)]);(have b':j % s=(j-s) % s:=by rw [Nat.mod_eq_sub_mod (by omega)]);exact ⟨k,by rw [e1];simpa using a,by rw [b'];exact b⟩
end
end Go.Proofs.YtkoioidpbbbaiaaGreat.Ab


namespace Go.Proofs.YtkoioidpbbbaiaaGreat.Ab
open Go
instance {d:Nat} {l:List I} [h:qa d l]:qa d (l.map I.ha):=⟨by
 have h:=h.pl;rw [sn] at h ⊢;intro u hu;obtain ⟨v,ad,rfl⟩:=sD.1 hu;have:=h v ad;cases d with
 | zero=>simp [cr] at this
 | succ d=>cases v with
   | av cs n c=>cases c <;> exact this
   | _=>exact this⟩
end Go.Proofs.YtkoioidpbbbaiaaGreat.Ab


namespace Go.Proofs.YtkoioidpbbbaiaaGreat.Ab
open Go
def qw (x:(Int×(Int×Int))):List I:=[(h0 x.1),(h0 x.2.1),(h0 x.2.2)]
theorem H8 (x:(Int×(Int×Int))):(qw x).length=3:=rfl
instance {d:Nat} {x:(Int×(Int×Int))}:qa (d+1) (qw x):=⟨(inferInstance:qa (d+1) [(h0 x.1),(h0 x.2.1),(h0 x.2.2)]).pl⟩
end Go.Proofs.YtkoioidpbbbaiaaGreat.Ab


namespace Go.Proofs.YtkoioidpbbbaiaaGreat.Ab
open Go Go.ChangeShapes Go.WideShapes Go.ChangeAt Go.RowKit
set_option maxRecDepth 100000
section
variable {H:Type} {enc:TypeId×Value→H} {P:Program} {w:World}
def Jx (enc:TypeId×Value→H) (P:Program) (w:World) (t:TypeId) (bb:Nat) (Q:List I→Prop):Prop :=
 ∀ (fuel:Nat) (cs:List Value) (y:DataW H×List MemPlace),DataW.trod enc P w 0 (fun _=>true) true fuel t cs=some y →
   ∃ us:List I,Q us∧us.length=bb∧cs.length=bb∧∀ (j:Nat) (u:I) (v:Value),us[j]?=some u→cs[j]?=some v→u.plain=true∧v.oneCell'=true∧Rel [] (S0 w) w u v
theorem ace {t:TypeId} {f1 f2:Field} {b7 cj:Nat} {oY lJ:List I→Prop} (ax:P.underlying t=some (.struct #[f1,f2])) (ak:P.cellsOf t=b7+cj) (bx:f1.offset=0) (bK:f2.offset=b7) (a7:P.cellsOf f1.type=b7) (a9:P.cellsOf f2.type=cj) (ab:Jx enc P w f1.type b7 oY) (ae:Jx enc P w f2.type cj lJ) :
  Jx enc P w t (b7+cj) fun us=>∃ a b,us=a++b∧oY a∧lJ b:=by
 intro fuel cs y h;obtain ⟨xs,m,_,_,ao,Sk,aj⟩:=DataW.trod_struct ax h;rw [ak] at ao;have Sk:xs.length=2:=Sk;have e1:=aj 0 f1 rfl;have b':=aj 1 f2 rfl;rw [bx,a7,tq,sj (by omega)] at e1;rw [bK,a9,sj (by omega)] at b';obtain ⟨a,aA,aG,aT,br⟩:=ab _ _ _ e1;obtain ⟨b,bm,cw,e2,lQ⟩:=ae _ _ _ b';refine ⟨a++b,⟨a,b,rfl,aA,bm⟩,by rw [sA];omega,ao,fun j u v hu ad=>?_⟩;by_cases aw:j<b7
 ·rw [si (by omega)] at hu;exact br j u v hu (by rw [sI,if_pos aw];exact ad)
 ·rw [ss (by omega)] at hu;have aj0:j-a.length<b.length:=(sa.1 hu).1;refine lQ (j-a.length) u v hu ?_;rw [sI,if_pos (by omega),sR,show b7+(j-a.length)=j by omega];exact ad
theorem acb {t:TypeId} {Q:I→Prop} (h:Km enc P w t Q) (ah:∀ (fuel:Nat) (cs:List Value) (y:DataW H×List MemPlace),DataW.trod enc P w 0 (fun _=>true) true fuel t cs=some y→cs.length=1):Jx enc P w t 1 fun us=>∃ u,us=[u]∧Q u:=by
 intro fuel cs y aY;have ao:=ah _ _ _ aY
 match cs,ao with
 | [c],_ =>
   obtain ⟨u,aA,aG,aT,br⟩:=h _ _ _ aY;refine ⟨[u],⟨u,rfl,br⟩,rfl,rfl,fun j bH v hu ad=>?_⟩
   match j with
   | 0=>simp at hu ad;subst hu;subst ad;exact ⟨aA,aG,aT⟩
   | j+1=>simp at hu
theorem Vf {t:TypeId} {fs:Array Field} {Ip:List (I→Prop)} (ax:P.underlying t=some (.struct fs)) (ak:P.cellsOf t=fs.size) (aP:Pj enc P w fs Ip):Jx enc P w t fs.size (Q9 Ip):=fun fuel cs y h=>by
 obtain ⟨us,ab,ae,aF⟩:=ahH ax ak aP h;have:=ab.1;have:=aP.1;exact ⟨us,ab,by omega,by omega,aF⟩
theorem abH {base:Nat} {t:TypeId} {fs:Array Field} {bb:Nat} {Q:List I→Prop} (ax:P.underlying t=some (.struct fs)) (aP:Jx enc P w t bb Q):Arg enc P w base t fun u=>∃ us,u=.agg us∧Q us:=by
 intro v d p ad ⟨n,a1⟩;unfold Value.okWide at ad;rw [ax] at ad;obtain ⟨cs,rfl,bR,_⟩:=ad;obtain ⟨us,ab,ae,GL,aF⟩:=aP _ _ _ a1;have ae:cs.toList.length=us.length:=by rw [ae];exact GL
 refine ⟨.agg us,rfl,.agg us cs (by simpa using ae) (fun u hu=>?_) (fun v ad=>?_) fun j u v hu ad=>?_,us,rfl,ab⟩
 ·obtain ⟨j,aw⟩:=sW.1 hu;have aR:j<cs.toList.length:=by rw [ae];exact (sa.1 aw).1
  exact (aF j u _ aw (sj aR)).1
 ·obtain ⟨j,aw⟩:=sW.1 ad;have aR:j<us.length:=by rw [←ae];exact (sa.1 aw).1
  exact (aF j _ v (sj aR) aw).2.1
 ·exact (aF j u v hu (by show cs.toList[j]?=some v;simpa using ad)).2.2
theorem ab8 {t e:TypeId} {bb:Nat} {Q:List I→Prop} (ax:P.underlying t=some (.slice e)) (ak:P.cellsOf e=bb) (aQ:0<bb) (aP:Jx enc P w e bb Q) :
  Km enc P w t fun u=>∃ L:List (List I),u=.av L.flatten L.length .shared∧L.length≤maxLen∧∀ us∈L,Q us:=by
 intro fuel v x h;rcases Deep.open_slice ax h with ⟨ad,_⟩ | ⟨a,len,cap,m,n,D,Q',ad,_,ao,hm,pQ,_,aj⟩
 ·injection ad with ad _;subst ad;exact ⟨_,rfl,rfl,.b3 _ _,[],rfl,sE _,by simp⟩
 ·injection ad with ad _;subst ad;have pQ:m=cap:=pQ;by_cases CL:cap=0
  ·(subst CL;obtain rfl:len=0:=by omega);exact ⟨_,rfl,rfl,.b3 _ _,[],rfl,sE _,by simp⟩
  ·have each:∀ i,i<len→∃ q:List I×List Value,Q q.1∧q.1.length=bb∧q.2.length=bb∧w.cells? 0 (a.add (i*bb)) bb=some q.2∧∀ (j:Nat) (u:I) (v:Value),q.1[j]?=some u→q.2[j]?=some v→u.plain=true∧v.oneCell'=true∧Rel [] (S0 w) w u v:=fun i hi=>by
    obtain ⟨c_,ab,ae⟩:=aj i (by omega);rw [ak] at ab;obtain ⟨us,bm,cw,e2,lQ⟩:=aP _ _ _ ae;exact ⟨(us,c_),bm,cw,e2,ab,lQ⟩
   obtain ⟨q0,_,_,PF,_⟩:∃ q:List Value,True∧True∧w.cells? 0 (a.add (0*bb)) bb=some q∧True:=by
    obtain ⟨c_,ab,_⟩:=aj 0 (by omega);rw [ak] at ab;exact ⟨c_,trivial,trivial,ab,trivial⟩
   obtain ⟨b,o,sp⟩:=a;have ah:sp=none:=by
    obtain ⟨_,hlen,bz⟩:=World.cells?_some PF;have:=bz 0 aQ;rw [sj (by omega)] at this;simpa [Addr.add] using World.cell?_spot this
   subst ah;obtain ⟨U,HA⟩:=Deep.choose_lt (α:=List I×List Value) (n:=len) (p:=fun i q=>Q q.1∧q.1.length=bb∧q.2.length=bb∧w.cells? 0 (Addr.add ⟨b,o,none⟩ (i*bb)) bb=some q.2∧∀ (j:Nat) (u:I) (v:Value),q.1[j]?=some u→q.2[j]?=some v→u.plain=true∧v.oneCell'=true∧Rel [] (S0 w) w u v) each;have ac5:∀ i,i<len→(U i).1.length=bb:=fun i hi=>(HA i hi).2.1;have c1:∀ l∈((List.range len).map fun i=>(U i).1),l.length=bb:=fun l c'=>by
    obtain ⟨i,hi,rfl⟩:=sD.1 c';exact ac5 i (sH.1 hi)
   let V:Nat→Value:=fun j=>((U (j / bb)).2)[j % bb]!
   have key:∀ (j:Nat) (u:I),(((List.range len).map fun i=>(U i).1).flatten)[j]?=some u→w.cell? ⟨b,o+j,none⟩=some (V j)∧u.plain=true∧(V j).oneCell'=true∧Rel [] (S0 w) w u (V j):=fun j u aw=>by
    obtain ⟨l,cf,ca⟩:=Vs c1 aQ aw;(have hi:j / bb<len:=by have:=(sa.1 cf).1;simpa using this);simp [hi] at cf;subst cf;obtain ⟨a7,B8,a9,bt,b6⟩:=HA _ hi;have Ll:j % bb<bb:=Nat.mod_lt _ aQ;have ad:(U (j / bb)).2[j % bb]?=some (V j):=by
     show _=some ((U (j / bb)).2[j % bb]!);rw [sj (by omega),getElem!_pos _ _ (by omega)]
    obtain ⟨_,_,bz⟩:=World.cells?_some bt;have KV:=bz (j % bb) Ll;rw [ad] at KV;have e:(Addr.add (Addr.add ⟨b,o,none⟩ (j / bb*bb)) (j % bb))=⟨b,o+j,none⟩:=by
     simp only [add_lit];congr 1;have:=Nat.div_add_mod' j bb;omega
    rw [e] at KV;exact ⟨KV,b6 _ _ _ ca ad⟩
   refine ⟨.av ((List.range len).map fun i=>(U i).1).flatten len .shared,rfl,rfl,.av _ _ _ b o cap V (by simp) ao (by simp) (fun j u aw=>?_) (fun j u aw=>?_),(List.range len).map fun i=>(U i).1,by simp,by simp;omega,fun us hu=>?_⟩
   ·obtain ⟨aJ,aN,cb,_⟩:=key j u aw;exact ⟨⟨_,aJ⟩,aJ,aN,cb⟩
   ·exact (key j u aw).2.2.2
   ·obtain ⟨j,aw,rfl⟩:=sD.1 hu;exact (HA j (sH.1 aw)).1
end
section
variable {H:Type} {enc:TypeId×Value→H} {w:World} {base:Nat}
def LL:I→Prop:=fun u=>∃ x,u=h0 x∧I6 x
theorem Pr:Km enc Tryz.prog w 2 LL:=fun n v y h=>by
 obtain ⟨u,a,b,c,x,rfl,d⟩:=Ve (P:=Tryz.prog) Tryz.underlying2 n v y h;exact ⟨_,a,b,c,x,rfl,wf_i64 d⟩
theorem Xe {us:List I} (h:Q9 [LL,LL] us):∃ p:Int×Int,us=p7 p∧I6 p.1∧I6 p.2:=by
 obtain ⟨ao,h⟩:=h
 match us,ao with
 | [a,b],_ =>
   obtain ⟨x,rfl,aj⟩:=h 0 _ _ rfl rfl;obtain ⟨y,rfl,aY⟩:=h 1 _ _ rfl rfl;exact ⟨(x,y),rfl,aj,aY⟩
def T8 (us:List I):Prop:=∃ p:Int×Int,us=p7 p∧I6 p.1∧I6 p.2
theorem Jx.mono {P:Program} {t:TypeId} {n:Nat} {Q R:List I→Prop} (h:Jx enc P w t n Q) (k:∀ us,Q us→R us):Jx enc P w t n R:=fun fuel cs y aY=>by
 obtain ⟨us,ab,ae⟩:=h fuel cs y aY;exact ⟨us,k us ab,ae⟩
theorem acM : Pj enc Tryz.prog w #[{ name := "Pull", type := 2, offset := 0, embedded := false, tag := "", pkgPath := "", byteOffset := 0 }, { name := "More", type := 2, offset := 1, embedded := false, tag := "", pkgPath := "", byteOffset := 8 }] [LL, LL] := ⟨rfl, fun i f q aP a_ => by
 match i with
 | 0=>simp at aP a_;subst aP;subst a_;exact ⟨rfl,by kernel_rfl,Pr⟩
 | 1=>simp at aP a_;subst aP;subst a_;exact ⟨rfl,by kernel_rfl,Pr⟩
 | i+2=>simp at a_⟩
theorem acL : Pj enc Tryz.prog w #[{ name := "Lo", type := 2, offset := 0, embedded := false, tag := "", pkgPath := "", byteOffset := 0 }, { name := "Hi", type := 2, offset := 1, embedded := false, tag := "", pkgPath := "", byteOffset := 8 }] [LL, LL] := ⟨rfl, fun i f q aP a_ => by
 match i with
 | 0=>simp at aP a_;subst aP;subst a_;exact ⟨rfl,by kernel_rfl,Pr⟩
 | 1=>simp at aP a_;subst aP;subst a_;exact ⟨rfl,by kernel_rfl,Pr⟩
 | i+2=>simp at a_⟩
theorem acd:Jx enc Tryz.prog w 54 2 T8:=(Vf Tryz.underlying54 (by kernel_rfl) acM).mono fun _ h=>Xe h
theorem aca:Jx enc Tryz.prog w 24 2 T8:=(Vf Tryz.underlying24 (by kernel_rfl) acL).mono fun _ h=>Xe h
def T5 (bq:List (Int×Int)):Prop:=bq.length≤9223372036854775807∧∀ p∈bq,I6 p.1∧I6 p.2
abbrev T7 (bq:List (Int×Int)):I:=.av (bq.flatMap p7) bq.length .shared
theorem ab9:Km enc Tryz.prog w 22 fun u=>∃ bq,u=T7 bq∧T5 bq:=fun n v y h=>by
 obtain ⟨u,a,b,c,L,rfl,ao,fq⟩:=ab8 Tryz.underlying22 (by kernel_rfl) (by decide) acd n v y h;obtain ⟨bq,rfl,aB⟩:=WU (f:=p7) (R:=fun p:Int×Int=>I6 p.1∧I6 p.2) fun us hu=>by
  obtain ⟨p,e,ab,ae⟩:=fq us hu;exact ⟨p,e,ab,ae⟩
 refine ⟨_,a,b,c,bq,?_,by have:=WV ao;simpa using this,aB⟩;simp [T7,List.flatMap_def]
structure aaH (p:(List (Int×Int))×(Int×Int)):Prop where
 s:T5 p.1
 lo:I6 p.2.1
 hi:I6 p.2.2
theorem afJ (fuel:Nat) (cs:List Value) (y:DataW H×List MemPlace) (h:DataW.trod enc Tryz.prog w 0 (fun _=>true) true fuel 22 cs=some y):cs.length=1:=by
 rcases Deep.open_slice Tryz.underlying22 h with ⟨ad,_⟩ | ⟨a,len,cap,m,n,D,Q',ad,_⟩
 ·rw [ad];rfl
 ·rw [ad];rfl
theorem U7:Arg enc Tryz.prog w base 26 fun u=>∃ p:(List (Int×Int))×(Int×Int),u=.agg [.av (p.1.flatMap p7) p.1.length .shared,h0 p.2.1,h0 p.2.2]∧aaH p:=by
 intro v d p ad a1;obtain ⟨u,a,b,us,rfl,x,y,rfl,⟨fA,rfl,bq,rfl,kR⟩,⟨acD,rfl,ab,ae⟩⟩:=abH (P:=Tryz.prog) (enc:=enc) (w:=w) (base:=base) Tryz.underlying26 (ace Tryz.underlying26 (by kernel_rfl) rfl rfl (by kernel_rfl) (by kernel_rfl) (acb ab9 afJ) aca) v d p ad a1;exact ⟨_,a,b,(bq,acD),rfl,kR,ab,ae⟩
theorem U8:Arg enc Tryz.prog w base 44 fun u=>∃ l,u=N_ l∧T6 l:=abJ Tryz.underlying44 (ab6 Tryz.underlying44 (by kernel_rfl) Tryz.underlying5)
theorem M7:Arg enc Tryz.prog w base 5 fun u=>∃ x,u=.int .u8 x∧0≤x∧x≤255:=fun v d p ad a1=>by
 obtain ⟨u,a,b,x,rfl,h⟩:=abI (P:=Tryz.prog) (enc:=enc) (w:=w) (base:=base) Tryz.underlying5 v d p ad a1;exact ⟨_,a,b,x,rfl,wf_u8 h⟩
end
end Go.Proofs.YtkoioidpbbbaiaaGreat.Ab


namespace Go.Proofs.YtkoioidpbbbaiaaGreat.Ab
open Go Go.ChangeShapes Go.WideShapes Go.ChangeAt Go.RowKit
section
variable {H:Type} {enc:TypeId×Value→H} {P:Program} {w:World} {base:Nat} {spare:Nat→Bool} {held:Bool}
theorem YT {t iE YP t3 t4:TypeId} {args:Array Value} {fG:List (DataW H)} {bq:List MemPlace} (h:DataW.TrodAll enc P w base spare held [t,iE,YP,t3,t4] args.toList fG bq) :
  ∃ v bo Qp IK v4 d g' Pu d3 d4 p Mu PN eb fU,args=#[v,bo,Qp,IK,v4]∧fG=[d,g',Pu,d3,d4]∧bq=p++Mu++PN++eb++fU∧DataW.Trod enc P w base spare held t v d p∧DataW.Trod enc P w base spare held iE bo g' Mu∧DataW.Trod enc P w base spare held YP Qp Pu PN∧DataW.Trod enc P w base spare held t3 IK d3 eb∧DataW.Trod enc P w base spare held t4 v4 d4 fU:=by
 obtain ⟨v,vs,d,ajO,p,q,CH,rfl,rfl,a1,adH⟩:=trodAll_cons h;obtain ⟨bo,cY,g',ajP,Mu,fW,rfl,rfl,rfl,jO,adI⟩:=trodAll_cons adH;obtain ⟨Qp,aj7,Pu,ajQ,PN,aj6,rfl,rfl,rfl,adj,adJ⟩:=trodAll_cons adI;obtain ⟨IK,aj8,d3,ajR,eb,cF,rfl,rfl,rfl,adm,adK⟩:=trodAll_cons adJ;obtain ⟨v4,aj9,d4,ajS,fU,dG,rfl,rfl,rfl,adn,adL⟩:=trodAll_cons adK;obtain ⟨rfl,rfl,rfl⟩:=trodAll_nil adL;exact ⟨v,bo,Qp,IK,v4,d,g',Pu,d3,d4,p,Mu,PN,eb,fU,by cases args;simp_all,rfl,by simp,a1,jO,adj,adm,adn⟩
theorem Ze {yh fA gv Gi Gj:I} {v0 v1 v2 IK v4:Value} (Ov:yh.plain=true) (hT:Rel [] (S0 w) w yh v0) (bU:fA.plain=true) (aS:Rel [] (S0 w) w fA v1) (b1:gv.plain=true) (bj:Rel [] (S0 w) w gv v2) (eb:Gi.plain=true) (eK:Rel [] (S0 w) w Gi IK) (fU:Gj.plain=true) (qW:Rel [] (S0 w) w Gj v4) :
  a5 (fun i=>.arg i) (fun _=>none) [] (S0 w) w [yh,fA,gv,Gi,Gj] [v0,v1,v2,IK,v4] :=
 ahY rfl fun i u v hu ad=>by
  match i with
  | 0=>simp at hu ad;subst hu;subst ad;exact ⟨Ov,hT⟩
  | 1=>simp at hu ad;subst hu;subst ad;exact ⟨bU,aS⟩
  | 2=>simp at hu ad;subst hu;subst ad;exact ⟨b1,bj⟩
  | 3=>simp at hu ad;subst hu;subst ad;exact ⟨eb,eK⟩
  | 4=>simp at hu ad;subst hu;subst ad;exact ⟨fU,qW⟩
  | i+5=>simp at hu
end
end Go.Proofs.YtkoioidpbbbaiaaGreat.Ab


namespace Go.Proofs.YtkoioidpbbbaiaaGreat.Ab
open Go
set_option maxRecDepth 20000
set_option maxHeartbeats 4000000
noncomputable def aaz:gE :=
 p2 [qh 4 0] (p2 [p1 5 1,p1 6 0,p0 7 [.Bs 6] .z4,qz 8 7 0,qz 9 8 0,qi 10 9,q3 11 10,qE 12 11 2 .quo,qn 13 5 12 .sub,p1 4 13] .ret)
theorem afj:qt Tryz.prog UW 77=some (aaz,14,[.tmp 4]):=by kernel_rfl
def K_ (b:((qd×(Int×Int))×Unit)) (K0:Int):Option Int :=
 qk ((2:Int)≠0) <|
 some (w (K0-(w ((b.1.1.length:Int).tdiv (2:Int)))))
theorem LI {b:((qd×(Int×Int))×Unit)} {K0:Int} {v:Int} (h:K_ b K0=some v):qB 77 [(.bS [(.av (b.1.1.flatMap p7) b.1.1.length .shared),(h0 b.1.2.1),(h0 b.1.2.2),Hr]),(h0 K0)] (h0 v):=by
 refine qR eG afj rfl rfl fun Q bp=>?_;have jJ:qK [.tmp 4] Q (fun v=>(h0 v)) v:=fun T H bE=>bp _ T H bE;unfold K_ at h;unfold aaz;conv=>whnf
 refine qD h id fun gM h=>?_;conv=>whnf
 exact p8 h jJ rfl rfl

noncomputable def QQ:gE :=
 .loop (some (qc false [0,2,5,2,10])) (p2 [p0 9 [.nc 8,.nc 7] (.bin .lss)] (.seq (.cond (.nc 9) .skip (.exit 0)) (.seq (.block 1 (p2 [p3 10 8,p1 5 10] (p2 [p3 11 1,p3 12 0,p3 13 5,rv 14 12 13 1,qi 15 14,qn 16 11 15 .eql] (.cond (.nc 16) (p2 [p1 17 5,p1 4 17] .ret) .skip)))) (qV [q2 18 8 1,p1 8 18]))))
noncomputable def Z2:gE :=
 p2 [qh 4 0] (.seq (p2 [p3 6 0,q3 7 6,qh 8 0] (.block 0 QQ)) (p2 [qh 4 (-1)] .ret))
theorem aeL:qt Tryz.prog Rd 109=some (Z2,19,[.tmp 4]):=by kernel_rfl
def Lv (s:p_) (Ij:Int) (p':Unit→Option Int):Nat→Int→Option Int
 | 0,_=>none
 | m+1,s1 =>
   if (decide (s1<(s.length:Int)))=true then
    qk (0≤s1∧s1<(s.length:Int)) <|
    if (decide (Ij=(ix s s1)))=true then
     some s1
    else
     Lv s Ij p' m (w (s1+(1:Int)))
   else
    p' ()
def Qv (s:p_) (Ij:Int):Option Int :=
 Lv s Ij (fun _ =>
   some (-1:Int)) qj (0:Int)
theorem ain {s:p_} {Ij:Int} {p':Unit→Option Int} {s1:Int} {v:Int} {Q:r1}   (jJ:qK [.tmp 4] Q (fun v=>(h0 v)) v) (rn:∀ (qb:List I),p' ()=some v→ra 19 [] qb→Q (.exit 0) qb []) {T:List I} (b0:eZ (qc false [0,2,5,2,10]) T=qe 19 [(0,(qS s .shared)),(1,(h0 Ij)),(7,(h0 (s.length:Int))),(8,(h0 s1))]) (h:Lv s Ij p' qj s1=some v) :
  dQ Tryz.prog Rd 109 0 none QQ T [] Q:=by
 unfold QQ;refine wp_loop b0 ?_;refine .intro (fun m T H=>∃ (s1:Int),T=qe 19 [(0,(qS s .shared)),(1,(h0 Ij)),(7,(h0 (s.length:Int))),(8,(h0 s1))]∧H=[]∧Lv s Ij p' m s1=some v) qj ⟨s1,rfl,rfl,h⟩ ?_;clear h b0;rintro m T H ⟨s1,rfl,rfl,h⟩;cases m
 ·exact r0 h
 rename_i m;rw [Lv.eq_2] at h;conv=>whnf
 refine bs h (fun gM h=>?_) fun gM h=>?_
 ·rw [gM];conv=>whnf
  refine qD h id fun gN h=>?_;rw [rG h0 s s1 gN];conv=>whnf
  refine bs h (fun qx h=>?_) fun qx h=>?_
  ·rw [qx];(conv=>whnf);exact p8 h jJ rfl rfl
  ·rw [qx];(conv=>whnf);exact ⟨m,sv m,(w (s1+(1:Int))),rfl,rfl,h⟩
 ·rw [gM];conv=>whnf
  exact rn  _ h ⟨rfl,rfl⟩
theorem aio {s:p_} {Ij:Int} {v:Int} (h:Qv s Ij=some v):qB 109 [(.av (s.map h0) s.length .shared),(h0 Ij)] (h0 v):=by
 refine qR eG aeL rfl rfl fun Q bp=>?_;have jJ:qK [.tmp 4] Q (fun v=>(h0 v)) v:=fun T H bE=>bp _ T H bE;unfold Qv at h;unfold Z2;obtain ⟨HK,qJ⟩:∃ c,QQ=c:=⟨_,rfl⟩;rw [qJ];conv=>whnf
 subst qJ;refine ain ?_ ?_ (by exact rfl) h
 ·exact fun T H bE=>jJ T H bE
 ·intro  qb h qo;obtain ⟨re,rfl⟩:=qo.ex;conv=>whnf
  exact p8 h jJ rfl rfl

noncomputable def Z0:gE :=
 p2 [p0 4 [.cv (.bool false)] .mU] (p2 [p1 5 0,p1 6 1,p0 7 [.cv (.func 109 [] []),.nc 5,.nc 6] (.call 3),qE 8 7 0 .geq,p1 4 8] .ret)
theorem aeJ:qt Tryz.prog Ui 100=some (Z0,9,[.tmp 4]):=by kernel_rfl
def O1 (s:p_) (Ij:Int):Option Bool :=
 (Qv s Ij).bind fun aS =>
 some (decide ((0:Int)≤aS))
theorem aik {s:p_} {Ij:Int} {v:Bool} (h:O1 s Ij=some v):qB 100 [(.av (s.map h0) s.length .shared),(h0 Ij)] (B v):=by
 refine qR eG aeJ rfl rfl fun Q bp=>?_;have jJ:qK [.tmp 4] Q (fun v=>(B v)) v:=fun T H bE=>bp _ T H bE;unfold O1 at h;unfold Z0;conv=>whnf
 obtain ⟨aS,gM,h⟩:=p9 h;refine ⟨qa.pl,_,aio gM,?_⟩;conv=>whnf
 exact p8 h jJ rfl rfl

noncomputable def TW:gE :=
 .ov true [p0 47 [.nc 9] (.yM 1),qi 48 47,p3 49 0,p1 50 10,p0 51 [.cv (.func 77 [] []),.nc 49,.nc 50] (.call 3),qz 52 12 1,qi 53 52,qn 54 51 53 .mul,qn 55 48 54 .add,p0 56 [.nc 9] (.yM 1),⟨none,[.jq 56,.jq 55],none,none,.st 1⟩]
noncomputable def T3:gE :=
 .seq (rA [p0 37 [.nc 9] (.yM 0),qi 38 37,p3 39 0,p3 40 10,p0 41 [.cv (.func 77 [] []),.nc 39,.nc 40] (.call 3),p0 42 [.nc 12] (.yM 0),qi 43 42,qn 44 41 43 .mul,qn 45 38 44 .add,p0 46 [.nc 9] (.yM 0),⟨none,[.jq 46,.jq 45],none,none,.st 1⟩]) TW
noncomputable def T2:gE :=
 .seq (p2 [p3 20 10,qE 21 20 2 .rem,p3 22 2,qn 23 21 22 .neq,p1 24 23,cl 25 [.nc 3] 24 false .mU,cl 26 [.nc 10] 24 false .mU,⟨some 27,[.cv (.func 100 [] []),.nc 25,.nc 26],some (24,false),none,.call 3⟩,p0 28 [.Bs 24,.cv (.bool true),.Bs 27] .pick] (.cond (.nc 28) (.exit 1) .skip)) (p2 [p3 29 0,p0 30 [.Bs 29] .z4,qz 31 30 0,qz 32 31 0,qi 33 32,p1 34 11,rv 35 33 34 2,p0 36 [.Bs 35] (.zE (.str 2)),p0 12 [] (.alloc [.int .i64 0,.int .i64 0]),⟨none,[.nc 12,.jq 36],none,none,.st 2⟩] T3)
noncomputable def Ph:gE :=
 .ov false [q2 57 15 1,p1 15 57]
noncomputable def T1:gE :=
 .seq (.block 1 (p2 [p3 17 15,p0 18 [.nc 13,.nc 15] (.kY 1),qi 19 18,p1 10 17,p1 11 19] T2)) Ph
noncomputable def T0:gE :=
 .seq (.cond (.nc 16) .skip (.exit 0)) T1
noncomputable def Q6:gE :=
 .loop (some (qc false [0,1,1,2,4,2,3,3,43])) (p2 [p0 16 [.nc 15,.nc 14] (.bin .lss)] T0)
noncomputable def TZ:gE :=
 .block 0 Q6
noncomputable def TY:gE :=
 p2 [p0 58 [.Bs 9] (.zE (.str 2)),⟨none,[.nc 8,.jq 58],none,none,.st 2⟩] .ret
noncomputable def TX:gE :=
 .seq (p2 [p1 13 1,p0 14 [.nc 13] .zJ,qh 15 0] TZ) TY
noncomputable def TV:gE :=
 p2 [p0 9 [] (.alloc [.int .i64 0,.int .i64 0])] TX
noncomputable def aaB:gE :=
 p2 [p0 8 [] (.alloc [.int .i64 0,.int .i64 0])] TV
theorem afl:qt Tryz.prog Rp 80=some (aaB,59,[.cell 8 (.str 2)]):=by kernel_rfl
def La (b:((qd×(Int×Int))×Unit)) (order:p_) (qm:Int) (without:p_) (p':Int→Int→Option (Int×Int)):Nat→Int→Int→Int→Option (Int×Int)
 | 0,_,_,_=>none
 | m+1,s1,s2,dk =>
   if (decide (s1<(order.length:Int)))=true then
    qk (0≤s1∧s1<(order.length:Int)) <|
    qk ((2:Int)≠0) <|
    if (decide ((s1.tmod (2:Int))≠qm))=true then
     La b order qm without p' m (w (s1+(1:Int))) s2 dk
    else
     (O1 without s1).bind fun aS =>
     if aS=true then
      La b order qm without p' m (w (s1+(1:Int))) s2 dk
     else
      qk (0≤(ix order s1)∧(ix order s1)<(b.1.1.length:Int)) <|
      (K_ (b.1,()) s1).bind fun bj =>
      (K_ (b.1,()) s1).bind fun eK =>
      La b order qm without p' m (w (s1+(1:Int))) (w (s2+(w (bj*(ix b.1.1 (ix order s1)).1)))) (w (dk+(w (eK*(ix b.1.1 (ix order s1)).2))))
   else
    p' s2 dk
def MX (b:((qd×(Int×Int))×Unit)) (order:p_) (qm:Int) (without:p_):Option (Int×Int) :=
 La b order qm without (fun yn oT =>
   some (yn,oT)) qj (0:Int) (0:Int) (0:Int)
theorem ajb {b:((qd×(Int×Int))×Unit)} {order:p_} {qm:Int} {without:p_} {p':Int→Int→Option (Int×Int)} {s1:Int} {s2:Int} {dk:Int} {v:(Int×Int)} {Q:r1}   (rn:∀ (yn oT:Int) (rk:List ar) (qb:List I),p' yn oT=some v→ra 59 [(8,(.ptr 0 0)),(9,(.ptr 1 0))] qb→Q (.exit 0) qb (ar.cells [(h0 (0:Int)),(h0 (0:Int))]::ar.cells [(h0 yn),(h0 oT)]::rk)) {T:List I} (b0:eZ (qc false [0,1,1,2,4,2,3,3,43]) T=qe 59 [(0,(.bS [(qv b.1.1 .shared),(h0 b.1.2.1),(h0 b.1.2.2),Hr])),(2,(h0 qm)),(3,(qS without .shared)),(8,(.ptr 0 0)),(9,(.ptr 1 0)),(13,(qS order .shared)),(14,(h0 (order.length:Int))),(15,(h0 s1))]) (h:La b order qm without p' qj s1 s2 dk=some v) :
  dQ Tryz.prog Rp 80 0 none Q6 T [ar.cells [(h0 (0:Int)),(h0 (0:Int))],ar.cells [(h0 s2),(h0 dk)]] Q:=by
 unfold Q6;obtain ⟨ajJ,VK⟩:∃ c,T0=c:=⟨_,rfl⟩;rw [VK];refine wp_loop b0 ?_;refine .intro (fun m T H=>∃ (s1 s2 dk:Int) (Ub:List ar),T=qe 59 [(0,(.bS [(qv b.1.1 .shared),(h0 b.1.2.1),(h0 b.1.2.2),Hr])),(2,(h0 qm)),(3,(qS without .shared)),(8,(.ptr 0 0)),(9,(.ptr 1 0)),(13,(qS order .shared)),(14,(h0 (order.length:Int))),(15,(h0 s1))]∧H=(ar.cells [(h0 (0:Int)),(h0 (0:Int))]::ar.cells [(h0 s2),(h0 dk)]::Ub)∧La b order qm without p' m s1 s2 dk=some v) qj ⟨s1,s2,dk,[],rfl,rfl,h⟩ ?_;clear h b0;rintro m T H ⟨s1,s2,dk,Ub,rfl,rfl,h⟩;cases m
 ·exact r0 h
 rename_i m;rw [La.eq_2] at h;conv=>whnf
 subst VK;unfold T0;obtain ⟨ajK,VL⟩:∃ c,T1=c:=⟨_,rfl⟩;rw [VL];conv=>whnf
 refine bs h (fun gM h=>?_) fun gM h=>?_
 ·rw [gM];conv=>whnf
  subst VL;unfold T1;obtain ⟨ajL,PB⟩:∃ c,Ph=c:=⟨_,rfl⟩;rw [PB];obtain ⟨ajM,VM⟩:∃ c,T2=c:=⟨_,rfl⟩;rw [VM];conv=>whnf
  refine qD h id fun gN h=>?_;rw [rG h0 order s1 gN];conv=>whnf
  subst VM;unfold T2;obtain ⟨ajN,VN⟩:∃ c,T3=c:=⟨_,rfl⟩;rw [VN];conv=>whnf
  refine qD h id fun qx h=>?_;conv=>whnf
  refine bs h (fun qQ h=>?_) fun qQ h=>?_
  ·rw [qQ];(conv=>whnf);subst PB;unfold Ph;(conv=>whnf);exact ⟨m,sv m,(w (s1+(1:Int))),s2,dk,_,rfl,rfl,h⟩
  ·rw [qQ];(conv=>whnf);obtain ⟨aS,qA,h⟩:=p9 h;refine ⟨qa.pl,_,aik qA,?_⟩;(conv=>whnf);cases aS
   ·(conv=>whnf);replace h:=rr rfl h;refine qD h id fun q5 h=>?_;rw [r6 p7 2 q' b.1.1 (ix order s1) q5];(conv=>whnf);refine Ew (x:=ar.cells [(h0 (0:Int)),(h0 (0:Int))]) (by first | exact qp.h | rfl | (simp [sc,I.settle];done)) ?_
    (conv=>whnf);rw [rZ];subst VN;unfold T3;obtain ⟨ajG,VH⟩:∃ c,TW=c:=⟨_,rfl⟩;rw [VH];(conv=>whnf);obtain ⟨bj,qP,h⟩:=p9 h;refine ⟨qa.pl,_,LI qP,Hj,?_⟩;(conv=>whnf);refine Ew (x:=ar.cells [(h0 (ix b.1.1 (ix order s1)).1),(h0 (ix b.1.1 (ix order s1)).2)]) (by first | exact qp.h | rfl | (simp [sc,I.settle];done)) ?_
    (conv=>whnf);subst VH;unfold TW;(conv=>whnf);obtain ⟨eK,qT,h⟩:=p9 h;refine ⟨qa.pl,_,LI qT,Hj,?_⟩;(conv=>whnf);refine Ew (x:=ar.cells [(h0 (ix b.1.1 (ix order s1)).1),(h0 (ix b.1.1 (ix order s1)).2)]) (by first | exact qp.h | rfl | (simp [sc,I.settle];done)) ?_
    (conv=>whnf);subst PB;unfold Ph;(conv=>whnf);exact ⟨m,sv m,(w (s1+(1:Int))),(w (s2+(w (bj*(ix b.1.1 (ix order s1)).1)))),(w (dk+(w (eK*(ix b.1.1 (ix order s1)).2)))),_,rfl,rfl,h⟩
   ·(conv=>whnf);replace h:=rq rfl h;subst PB;unfold Ph;(conv=>whnf);exact ⟨m,sv m,(w (s1+(1:Int))),s2,dk,_,rfl,rfl,h⟩
 ·rw [gM];conv=>whnf
  exact rn _ _ _ _ h ⟨rfl,rfl⟩
theorem QJ {b:((qd×(Int×Int))×Unit)} {order:p_} {qm:Int} {without:p_} {v:(Int×Int)} (h:MX b order qm without=some v):qB 80 [(.bS [(.av (b.1.1.flatMap p7) b.1.1.length .shared),(h0 b.1.2.1),(h0 b.1.2.2),Hr]),(.av (order.map h0) order.length .shared),(h0 qm),(.av (without.map h0) without.length .shared)] (.agg [(h0 v.1),(h0 v.2)]):=by
 refine qR eG afl rfl (H6 (p5 rfl (p5 rfl rfl))) fun Q bp=>?_;have jJ:qK [.cell 8 (.str 2)] Q (fun v=>(.agg [(h0 v.1),(h0 v.2)])) v:=fun T H bE=>bp _ T H bE;unfold MX at h;unfold aaB;obtain ⟨HK,qJ⟩:∃ c,TV=c:=⟨_,rfl⟩;rw [qJ];conv=>whnf
 subst qJ;unfold TV;obtain ⟨Lh,rb⟩:∃ c,TX=c:=⟨_,rfl⟩;rw [rb];conv=>whnf
 subst rb;unfold TX;obtain ⟨abS,Oh⟩:∃ c,TY=c:=⟨_,rfl⟩;rw [Oh];obtain ⟨ajI,VJ⟩:∃ c,TZ=c:=⟨_,rfl⟩;rw [VJ];conv=>whnf
 subst VJ;unfold TZ;obtain ⟨ajH,VI⟩:∃ c,Q6=c:=⟨_,rfl⟩;rw [VI];conv=>whnf
 subst VI;refine ajb ?_ (by exact rfl) h;intro yn oT rk qb h qo;obtain ⟨re,rfl⟩:=qo.ex;conv=>whnf
 subst Oh;unfold TY;conv=>whnf
 exact p8 h jJ rfl rfl
end Go.Proofs.YtkoioidpbbbaiaaGreat.Ab


namespace Go.Proofs.YtkoioidpbbbaiaaGreat.Ab
open Go
noncomputable def agL:gE :=
 .ov false [p1 18 8,p0 19 [.nc 9] (.yM 0),qi 20 19,qz 21 9 1,qi 22 21,p3 23 2,qn 24 22 23 .mul,qn 25 20 24 .add,p0 26 [.nc 7,.Bs 18] (.zu 2 1),⟨none,[.jq 26,.jq 25],none,none,.st 1⟩]
noncomputable def agM:gE :=
 p2 [p3 14 0,p3 15 1,p3 16 8,p0 17 [.cv (.func 80 [] []),.nc 14,.nc 15,.nc 16,.cv (.av [] 0 .full)] (.call 3),p0 9 [] (.alloc [.int .i64 0,.int .i64 0]),⟨none,[.nc 9,.jq 17],none,none,.st 2⟩] agL
noncomputable def agN:gE :=
 .block 1 (p2 [p3 13 11,p1 8 13] agM)
noncomputable def agO:gE :=
 .seq (p2 [qh 11 0] (.block 0 (.loop (some (qc false [0,3,3,2,3,1,17])) (p2 [p0 12 [.nc 11,.cv (.int .i64 2)] (.bin .lss)] (.seq (.cond (.nc 12) .skip (.exit 0)) (.seq agN (qV [q2 27 11 1,p1 11 27]))))))) (p2 [p0 28 [.Bs 7] (.zE (.arr 2)),⟨none,[.nc 6,.jq 28],none,none,.st 2⟩] .ret)
noncomputable def X2:gE :=
 p2 [p0 6 [] (.alloc [.int .i64 0, .int .i64 0])] (p2 [p0 7 [] (.alloc [.int .i64 0, .int .i64 0])] (p2 [p0 10 [.nc 7] (.other (Oper.mk (some 10) (Op.slice 96 (Operand.tmp 7) none none none) 104 "press.go:44" (Array.mk []) none) 0), ⟨none, [.jq 10], none, none, .other (Oper.mk none (Op.call (Call.mk (Callee.builtin Builtin.clear) (Array.mk [Operand.tmp 10]) (Array.mk [104]))) 0 "press.go:44" (Array.mk [Edge.mk 0 Ground.data]) none) 0⟩] agO))
theorem aer:qt Go.Proofs.Tryz.prog UO 63=some (X2,29,[.cell 6 (.arr 2)]):=by kernel_rfl
noncomputable def agw:gE :=
 .ov false [p1 35 5,p3 36 9,p1 37 9,p0 38 [.Bs 37] (.un .neg),p0 39 [.jq 35,.jq 36,.jq 38] .max,p1 5 39]
noncomputable def agx:gE :=
 .block 3 (p2 [p0 34 [.nc 31, .nc 32] (.other (Oper.mk (some 34) (Op.index 96 (Operand.tmp 31) (Operand.tmp 32)) 2 "press.go:56" (Array.mk []) none) 0), p1 9 34] agw)
noncomputable def agy:gE :=
 p2 [p3 28 0,p3 29 1,p1 30 7,p0 31 [.cv (.func 63 [] []),.nc 28,.nc 29,.nc 30] (.call 3),qh 32 0] (.block 2 (.loop (some (qc false [0,2,3,1,16,3,6,2,10])) (p2 [p0 33 [.nc 32,.cv (.int .i64 2)] (.bin .lss)] (.seq (.cond (.nc 33) .skip (.exit 2)) (.seq agx (qV [q2 40 32 1,p1 32 40]))))))
noncomputable def agz:gE :=
 .block 1 (p2 [p0 26 [.nc 22,.nc 24] (.kY 1),qi 27 26,p1 7 27] agy)
noncomputable def agA:gE :=
 .seq (.seq (rA [p3 10 0,p0 11 [.Bs 10] .z4,qz 12 11 0,qz 13 12 1,qz 14 13 0,qi 15 14,p3 16 0,p0 17 [.Bs 16] .z4,qz 18 17 0,qz 19 18 1,qz 20 19 1,qi 21 20,p0 22 [.Bs 15,.Bs 21] (.yB 2 1 [.int .i64 0] [0,1]),p0 23 [.nc 22] .zJ,qh 24 0]) (.block 0 (.loop (some (qc false [0,2,3,1,16,3,18])) (p2 [p0 25 [.nc 24,.nc 23] (.bin .lss)] (.seq (.cond (.nc 25) .skip (.exit 0)) (.seq agz (qV [q2 41 24 1,p1 24 41]))))))) (p2 [p1 42 5,p1 4 42] .ret)
noncomputable def XO:gE :=
 p2 [qh 4 0] (p2 [qh 5 0] agA)
theorem ael:qt Go.Proofs.Tryz.prog UD 41=some (XO,43,[.tmp 4]):=by kernel_rfl
end Go.Proofs.YtkoioidpbbbaiaaGreat.Ab


namespace Go.Proofs.YtkoioidpbbbaiaaGreat.Ab
open Go
theorem acO {H:List ar} {id d:Nat} {l r:List I} (h:H[id]?=some (.cells l)) (hm:ea (bM H 0 H.length 0 d) (l.map I.view)=some r):bM H 0 H.length 0 (d+1) (.ptr id 0)=some (.bS r):=by
 have ab:=(sa.1 h).1;simp only [bM,Nat.not_lt_zero,if_false,h,tq,hm,sf];rw [if_neg (by omega)]
theorem Vz {H:List ar} {lo id0 n d id:Nat} (h:¬ id<lo) (aX:id≠id0):bM H lo id0 n (d+1) (.map id)=some .a0:=by
 simp only [bM,if_neg h,if_neg aX]
end Go.Proofs.YtkoioidpbbbaiaaGreat.Ab


namespace Go.Proofs.YtkoioidpbbbaiaaGreat.Ab
open Go
set_option maxRecDepth 20000
set_option maxHeartbeats 4000000
def MT (b:((List (Int×Int))×(Int×Int))×Unit) (order:List Int) (rD:Int):Option (Int×Int) :=
 (MX b order 0 []).bind fun s=>(MX b order 1 []).bind fun t=>some (w (s.1+w (s.2*rD)),w (t.1+w (t.2*rD)))
abbrev lp (b:((List (Int×Int))×(Int×Int))×Unit):I:=.bS [.av (b.1.1.flatMap p7) b.1.1.length .shared,h0 b.1.2.1,h0 b.1.2.2,Hr]
theorem TQ {b:((List (Int×Int))×(Int×Int))×Unit} {order:List Int} {rD:Int} {v:Int×Int} (h:MT b order rD=some v):qB 63 [lp b,.av (order.map h0) order.length .shared,h0 rD] (.agg [h0 v.1,h0 v.2]):=by
 unfold MT at h;obtain ⟨s,ah,h⟩:=p9 h;obtain ⟨t,ax,h⟩:=p9 h;obtain rfl:=Option.some.inj h;refine qR eG aer rfl (H6 (p5 rfl (p5 rfl rfl))) fun Q bp=>?_;unfold X2;conv=>whnf
 refine ⟨_,_,fun C=>rfl,?_⟩;conv=>whnf
 refine ⟨_,_,fun C=>rfl,?_⟩;conv=>whnf
 refine .intro (fun m T H=>(m=2∧T=qe 29 [(0,lp b),(1,.av (order.map h0) order.length .shared),(2,h0 rD),(6,.ptr 0 0),(7,.ptr 1 0),(11,h0 0)]∧H=[.cells [h0 0,h0 0],.cells [h0 0,h0 0]]) ∨
  (m=1∧T=qe 29 [(0,lp b),(1,.av (order.map h0) order.length .shared),(2,h0 rD),(6,.ptr 0 0),(7,.ptr 1 0),(11,h0 1)]∧H=[.cells [h0 0,h0 0],.cells [h0 (w (s.1+w (s.2*rD))),h0 0],.cells [h0 s.1,h0 s.2]]) ∨
  (m=0∧T=qe 29 [(0,lp b),(1,.av (order.map h0) order.length .shared),(2,h0 rD),(6,.ptr 0 0),(7,.ptr 1 0),(11,h0 2)]∧H=[.cells [h0 0,h0 0],.cells [h0 (w (s.1+w (s.2*rD))),h0 (w (t.1+w (t.2*rD)))],.cells [h0 s.1,h0 s.2],.cells [h0 t.1,h0 t.2]])) 2 (.inl ⟨rfl,rfl,rfl⟩) ?_
 rintro m T H (⟨rfl,rfl,rfl⟩ | ⟨rfl,rfl,rfl⟩ | ⟨rfl,rfl,rfl⟩)
 ·conv=>whnf
  refine ⟨qa.pl,_,QJ ah,?_⟩;conv=>whnf
  refine ⟨by decide,?_⟩;conv=>whnf
  exact ⟨1,by decide,.inr (.inl ⟨rfl,rfl,rfl⟩)⟩
 ·conv=>whnf
  refine ⟨qa.pl,_,QJ ax,?_⟩;conv=>whnf
  refine ⟨by decide,?_⟩;conv=>whnf
  exact ⟨0,by decide,.inr (.inr ⟨rfl,rfl,rfl⟩)⟩
 ·conv=>whnf
  refine ⟨sd 2,?_⟩;conv=>whnf
  refine bp _ _ _ ?_;exact ⟨.inr rfl,[.agg [h0 (w (s.1+w (s.2*rD))),h0 (w (t.1+w (t.2*rD)))]],rfl,_,yW (H6 (p5 rfl (p5 rfl rfl))),rfl⟩
def K9 (b:((List (Int×Int))×(Int×Int))×Unit) (order:List Int):Option Int :=
 (MT b order b.1.2.1).bind fun s=>(MT b order b.1.2.2).bind fun t =>
  some (max (max (max (max (max (max (max (max 0 s.1) (w (-s.1))) s.2) (w (-s.2))) t.1) (w (-t.1))) t.2) (w (-t.2)))
theorem O6 {b:((List (Int×Int))×(Int×Int))×Unit} {order:List Int} {v:Int} (h:K9 b order=some v):qB 41 [lp b,.av (order.map h0) order.length .shared] (h0 v):=by
 unfold K9 at h;obtain ⟨s,ah,h⟩:=p9 h;obtain ⟨t,ax,h⟩:=p9 h;obtain rfl:=Option.some.inj h;refine qR eG ael rfl rfl fun Q bp=>?_;unfold XO;conv=>whnf
 refine .intro (fun m T H=>(m=2∧T=qe 43 [(0,lp b),(1,.av (order.map h0) order.length .shared),(5,h0 0),(22,.av [h0 b.1.2.1,h0 b.1.2.2] 2 (.own 1)),(23,h0 2),(24,h0 0)]∧H=[])∨(m=1∧T=qe 43 [(0,lp b),(1,.av (order.map h0) order.length .shared),(5,h0 (max (max (max (max 0 s.1) (w (-s.1))) s.2) (w (-s.2)))),(22,.av [h0 b.1.2.1,h0 b.1.2.2] 2 (.own 1)),(23,h0 2),(24,h0 1)]∧H=[])∨(m=0∧T=qe 43 [(0,lp b),(1,.av (order.map h0) order.length .shared),(5,h0 (max (max (max (max (max (max (max (max 0 s.1) (w (-s.1))) s.2) (w (-s.2))) t.1) (w (-t.1))) t.2) (w (-t.2)))),(22,.av [h0 b.1.2.1,h0 b.1.2.2] 2 (.own 1)),(23,h0 2),(24,h0 2)]∧H=[])) 2 (.inl ⟨rfl,rfl,rfl⟩) ?_;rintro m T H (⟨rfl,rfl,rfl⟩ | ⟨rfl,rfl,rfl⟩ | ⟨rfl,rfl,rfl⟩)
 ·conv=>whnf
  refine ⟨by decide,?_⟩;conv=>whnf
  refine ⟨qa.pl,_,TQ ah,?_⟩;conv=>whnf
  refine .intro (fun m T H=>(m=2∧T=qe 43 [(0,lp b),(1,.av (order.map h0) order.length .shared),(5,h0 0),(22,.av [h0 b.1.2.1,h0 b.1.2.2] 2 (.own 1)),(23,h0 2),(24,h0 0),(31,.agg [h0 s.1,h0 s.2]),(32,h0 0)]∧H=[])∨(m=1∧T=qe 43 [(0,lp b),(1,.av (order.map h0) order.length .shared),(5,h0 (max (max 0 s.1) (w (-s.1)))),(22,.av [h0 b.1.2.1,h0 b.1.2.2] 2 (.own 1)),(23,h0 2),(24,h0 0),(31,.agg [h0 s.1,h0 s.2]),(32,h0 1)]∧H=[])∨(m=0∧T=qe 43 [(0,lp b),(1,.av (order.map h0) order.length .shared),(5,h0 (max (max (max (max 0 s.1) (w (-s.1))) s.2) (w (-s.2)))),(22,.av [h0 b.1.2.1,h0 b.1.2.2] 2 (.own 1)),(23,h0 2),(24,h0 0),(31,.agg [h0 s.1,h0 s.2]),(32,h0 2)]∧H=[])) 2 (.inl ⟨rfl,rfl,rfl⟩) ?_;rintro m T H (⟨rfl,rfl,rfl⟩ | ⟨rfl,rfl,rfl⟩ | ⟨rfl,rfl,rfl⟩)
  ·(conv=>whnf);refine ⟨_,_,fun C=>rfl,?_⟩;(conv=>whnf);exact ⟨1,by decide,.inr (.inl ⟨rfl,rfl,rfl⟩)⟩
  ·(conv=>whnf);refine ⟨_,_,fun C=>rfl,?_⟩;(conv=>whnf);exact ⟨0,by decide,.inr (.inr ⟨rfl,rfl,rfl⟩)⟩
  ·(conv=>whnf);exact ⟨1,by decide,.inr (.inl ⟨rfl,rfl,rfl⟩)⟩
 ·conv=>whnf
  refine ⟨by decide,?_⟩;conv=>whnf
  refine ⟨qa.pl,_,TQ ax,?_⟩;conv=>whnf
  refine .intro (fun m T H=>(m=2∧T=qe 43 [(0,lp b),(1,.av (order.map h0) order.length .shared),(5,h0 (max (max (max (max 0 s.1) (w (-s.1))) s.2) (w (-s.2)))),(22,.av [h0 b.1.2.1,h0 b.1.2.2] 2 (.own 1)),(23,h0 2),(24,h0 1),(31,.agg [h0 t.1,h0 t.2]),(32,h0 0)]∧H=[])∨(m=1∧T=qe 43 [(0,lp b),(1,.av (order.map h0) order.length .shared),(5,h0 (max (max (max (max (max (max 0 s.1) (w (-s.1))) s.2) (w (-s.2))) t.1) (w (-t.1)))),(22,.av [h0 b.1.2.1,h0 b.1.2.2] 2 (.own 1)),(23,h0 2),(24,h0 1),(31,.agg [h0 t.1,h0 t.2]),(32,h0 1)]∧H=[])∨(m=0∧T=qe 43 [(0,lp b),(1,.av (order.map h0) order.length .shared),(5,h0 (max (max (max (max (max (max (max (max 0 s.1) (w (-s.1))) s.2) (w (-s.2))) t.1) (w (-t.1))) t.2) (w (-t.2)))),(22,.av [h0 b.1.2.1,h0 b.1.2.2] 2 (.own 1)),(23,h0 2),(24,h0 1),(31,.agg [h0 t.1,h0 t.2]),(32,h0 2)]∧H=[])) 2 (.inl ⟨rfl,rfl,rfl⟩) ?_;rintro m T H (⟨rfl,rfl,rfl⟩ | ⟨rfl,rfl,rfl⟩ | ⟨rfl,rfl,rfl⟩)
  ·(conv=>whnf);refine ⟨_,_,fun C=>rfl,?_⟩;(conv=>whnf);exact ⟨1,by decide,.inr (.inl ⟨rfl,rfl,rfl⟩)⟩
  ·(conv=>whnf);refine ⟨_,_,fun C=>rfl,?_⟩;(conv=>whnf);exact ⟨0,by decide,.inr (.inr ⟨rfl,rfl,rfl⟩)⟩
  ·(conv=>whnf);exact ⟨0,by decide,.inr (.inr ⟨rfl,rfl,rfl⟩)⟩
 ·conv=>whnf
  exact bp _ _ _ ⟨.inr rfl,_,rfl,_,yW rfl,rfl⟩

noncomputable def aaC:gE :=
 p2 [qh 4 0] (p2 [p1 5 0,p1 6 1,qE 7 6 2 .quo,qn 8 5 7 .sub,p1 4 8] .ret)
theorem afm:qt Tryz.prog UY 82=some (aaC,9,[.tmp 4]):=by kernel_rfl
def MY (K0 Mp:Int):Option Int :=
 qk ((2:Int)≠0) <|
 some (w (K0-(w (Mp.tdiv (2:Int)))))
theorem aje {K0:Int} {Mp:Int} {v:Int} (h:MY K0 Mp=some v):qB 82 [(h0 K0),(h0 Mp)] (h0 v):=by
 refine qR eG afm rfl rfl fun Q bp=>?_;have jJ:qK [.tmp 4] Q (fun v=>(h0 v)) v:=fun T H bE=>bp _ T H bE;unfold MY at h;unfold aaC;conv=>whnf
 refine qD h id fun gM h=>?_;conv=>whnf
 exact p8 h jJ rfl rfl

noncomputable def Q3:gE :=
 .loop (some (qc false [1,4,4,2,34])) (.seq (p2 [p3 12 10,p3 13 1,q3 14 13,qn 15 12 14 .lss] (.cond (.nc 15) .skip (.exit 0))) (.seq (.block 1 (p2 [p3 18 10,qE 19 18 2 .rem,p3 20 3,qn 21 19 20 .eql] (.cond (.nc 21) (.seq (rA [p0 22 [.nc 4] (.yM 0),qi 23 22,p3 24 1,p3 25 10,rv 26 24 25 1,qi 27 26,rv 28 23 27 2,p0 29 [.Bs 28] (.zE (.str 2)),p0 11 [] (.alloc [.int .i64 0,.int .i64 0]),⟨none,[.nc 11,.jq 29],none,none,.st 2⟩]) (rA [p1 30 9,p3 31 10,p3 32 1,q3 33 32,p0 34 [.cv (.func 82 [] []),.nc 31,.nc 33] (.call 3),p0 35 [.nc 11] (.yM 0),qi 36 35,p0 37 [.nc 11] (.yM 1),qi 38 37,p3 39 2,qn 40 38 39 .mul,qn 41 36 40 .add,qn 42 34 41 .mul,qn 43 30 42 .add,p1 9 43])) .skip))) (qV [p1 16 10,q2 17 16 1,p1 10 17])))
noncomputable def aat:gE :=
 p2 [p0 4 [.jq 0] .box,qh 8 0] (p2 [qh 9 0] (.seq (p2 [qh 10 0] (.block 0 Q3)) (p2 [p1 44 9,p1 8 44] .ret)))
theorem afd:qt Tryz.prog Rm 65=some (aat,45,[.tmp 8]):=by kernel_rfl
def LH (p:(qd×(Int×Int))) (order:p_) (rD qm:Int) (p':Int→Option Int):Nat→Int→Int→Option Int
 | 0,_,_=>none
 | m+1,s1,s2 =>
   if (decide (s2<(order.length:Int)))=true then
    qk ((2:Int)≠0) <|
    if (decide ((s2.tmod (2:Int))=qm))=true then
     qk (0≤s2∧s2<(order.length:Int)) <|
     qk (0≤(ix order s2)∧(ix order s2)<(p.1.length:Int)) <|
     (MY s2 (order.length:Int)).bind fun aS =>
     LH p order rD qm p' m (w (s1+(w (aS*(w ((ix p.1 (ix order s2)).1+(w ((ix p.1 (ix order s2)).2*rD)))))))) (w (s2+(1:Int)))
    else
     LH p order rD qm p' m s1 (w (s2+(1:Int)))
   else
    p' s1
def Kj (p:(qd×(Int×Int))) (order:p_) (rD qm:Int):Option Int :=
 LH p order rD qm (fun yn =>
   some yn) qj (0:Int) (0:Int)
theorem ai8 {p:(qd×(Int×Int))} {order:p_} {rD:Int} {qm:Int} {p':Int→Option Int} {s1:Int} {s2:Int} {v:Int} {Q:r1}   (rn:∀ (yn:Int) (bx:ar) (rk:List ar) (qb:List I),p' yn=some v→ra 45 [(9,(h0 yn))] qb→Q (.exit 0) qb (bx::rk)) {T:List I} (b0:eZ (qc false [1,4,4,2,34]) T=qe 45 [(1,(qS order .shared)),(2,(h0 rD)),(3,(h0 qm)),(4,(.ptr 0 0)),(9,(h0 s1)),(10,(h0 s2))]) (h:LH p order rD qm p' qj s1 s2=some v) :
  dQ Tryz.prog Rm 65 0 none Q3 T [ar.cells [(qv p.1 .shared),(h0 p.2.1),(h0 p.2.2)]] Q:=by
 unfold Q3;refine wp_loop b0 ?_;refine .intro (fun m T H=>∃ (s1 s2:Int) (Ua:List ar),T=qe 45 [(1,(qS order .shared)),(2,(h0 rD)),(3,(h0 qm)),(4,(.ptr 0 0)),(9,(h0 s1)),(10,(h0 s2))]∧H=(ar.cells [(qv p.1 .shared),(h0 p.2.1),(h0 p.2.2)]::Ua)∧LH p order rD qm p' m s1 s2=some v) qj ⟨s1,s2,[],rfl,rfl,h⟩ ?_;clear h b0;rintro m T H ⟨s1,s2,Ua,rfl,rfl,h⟩;cases m
 ·exact r0 h
 rename_i m;rw [LH.eq_2] at h;conv=>whnf
 refine bs h (fun gM h=>?_) fun gM h=>?_
 ·rw [gM];conv=>whnf
  refine qD h id fun gN h=>?_;conv=>whnf
  refine bs h (fun qx h=>?_) fun qx h=>?_
  ·rw [qx];(conv=>whnf);refine qD h id fun qQ h=>?_;rw [rG h0 order s2 qQ];(conv=>whnf);refine qD h id fun qA h=>?_;rw [r6 p7 2 q' p.1 (ix order s2) qA];(conv=>whnf);refine Ew (x:=ar.cells [(h0 (0:Int)),(h0 (0:Int))]) (by first | exact qp.h | rfl | (simp [sc,I.settle];done)) ?_
   (conv=>whnf);rw [rZ];obtain ⟨aS,q5,h⟩:=p9 h;refine ⟨(p5 rfl (p5 rfl rfl)),_,aje q5,Hj,?_⟩;(conv=>whnf);refine Ew (x:=ar.cells [(h0 (ix p.1 (ix order s2)).1),(h0 (ix p.1 (ix order s2)).2)]) (by first | exact qp.h | rfl | (simp [sc,I.settle];done)) ?_
   (conv=>whnf);refine Ew (x:=ar.cells [(h0 (ix p.1 (ix order s2)).1),(h0 (ix p.1 (ix order s2)).2)]) (by first | exact qp.h | rfl | (simp [sc,I.settle];done)) ?_
   (conv=>whnf);exact ⟨m,sv m,(w (s1+(w (aS*(w ((ix p.1 (ix order s2)).1+(w ((ix p.1 (ix order s2)).2*rD)))))))),(w (s2+(1:Int))),_,rfl,rfl,h⟩
  ·rw [qx];(conv=>whnf);exact ⟨m,sv m,s1,(w (s2+(1:Int))),_,rfl,rfl,h⟩
 ·rw [gM];conv=>whnf
  exact rn _ _ _ _ h ⟨rfl,rfl⟩
theorem ZM {p:(qd×(Int×Int))} {order:p_} {rD:Int} {qm:Int} {v:Int} (h:Kj p order rD qm=some v):qB 65 [(.agg [(.av (p.1.flatMap p7) p.1.length .shared),(h0 p.2.1),(h0 p.2.2)]),(.av (order.map h0) order.length .shared),(h0 rD),(h0 qm)] (h0 v):=by
 refine qR eG afd rfl rfl fun Q bp=>?_;have jJ:qK [.tmp 8] Q (fun v=>(h0 v)) v:=fun T H bE=>bp _ T H bE;unfold Kj at h;unfold aat;obtain ⟨HK,qJ⟩:∃ c,Q3=c:=⟨_,rfl⟩;rw [qJ];conv=>whnf
 subst qJ;refine ai8 ?_ (by exact rfl) h;intro yn bx rk qb h qo;obtain ⟨re,rfl⟩:=qo.ex;conv=>whnf
 exact p8 h jJ rfl rfl
end Go.Proofs.YtkoioidpbbbaiaaGreat.Ab


namespace Go.Proofs.YtkoioidpbbbaiaaGreat.Ab
open Go
set_option maxRecDepth 20000
set_option maxHeartbeats 1000000
abbrev qq:=Int×Int
def qO:Nat→(Nat→Int)→Int
 | 0,_=>0
 | n+1,g=>qO n g+g n
theorem Kx {n:Nat} {g h:Nat→Int} (e:∀ i,i<n→g i=h i):qO n g=qO n h:=by
 induction n with
 | zero=>rfl
 | succ n a8=>simp only [qO];rw [a8 fun i hi=>e i (by omega),e n (by omega)]
theorem OW {n:Nat} {g:Nat→Int} {B:Int} (e:∀ i,i<n → -B≤g i∧g i≤B):-(n*B)≤qO n g∧qO n g≤n*B:=by
 induction n with
 | zero=>simp [qO]
 | succ n a8 =>
   obtain ⟨ab,ae⟩:=a8 fun i hi=>e i (by omega);obtain ⟨aF,ba⟩:=e n (by omega);simp only [qO]
   have:((n+1:Nat):Int)*B=n*B+B:=by rw [Int.natCast_add,Int.add_mul];simp
   omega
theorem YJ (n:Nat) (g h:Nat→Int):qO n (fun i=>g i+h i)=qO n g+qO n h:=by
 induction n with
 | zero=>rfl
 | succ n a8=>simp only [qO,a8];omega
theorem OX (n:Nat) (g:Nat→Int) (c:Int):qO n (fun i=>c*g i)=c*qO n g:=by
 induction n with
 | zero=>simp [qO]
 | succ n a8=>simp only [qO,a8,Int.mul_add]
theorem Hm {a b A B:Int} (h:-A≤a∧a≤A) (k:-B≤b∧b≤B):-(A*B)≤a*b∧a*b≤A*B:=by
 have ab:a.natAbs*b.natAbs≤A.natAbs*B.natAbs:=Nat.mul_le_mul (by omega) (by omega);have ae:(a*b).natAbs≤A.natAbs*B.natAbs:=by rw [Int.natAbs_mul];exact ab
 have aF:((A.natAbs*B.natAbs:Nat):Int)=A*B:=by
  rw [Int.natCast_mul,Int.natAbs_of_nonneg (by omega),Int.natAbs_of_nonneg (by omega)]
 omega
def qM (S:List qq) (o:List Int) (i:Nat):qq:=ix S (ix o (i:Int))
def qG (n i:Nat):Int:=(i:Int)-((n / 2:Nat):Int)
def qU (S:List qq) (o:List Int) (a:Nat) (W:List Int) (f:qq→Int):Int:=qO o.length fun i=>if i % 2=a∧(i:Int) ∉ W then qG o.length i*f (qM S o i) else 0
def rh (S:List qq) (o:List Int) (a:Nat) (f:qq→Int):Int:=qO o.length fun i=>if i % 2=a then qG o.length i*f (qM S o i) else 0
theorem Ot (S:List qq) (o:List Int) (a:Nat) (f:qq→Int):qU S o a [] f=rh S o a f:=Kx fun i _=>by simp
def JM (S:List qq) (o:List Int):Prop:=∀ i:Nat,i<o.length→0≤ix o (i:Int)∧ix o (i:Int)<(S.length:Int)
def qY (s:qq):Prop:=0≤s.1∧s.1≤100∧-10≤s.2∧s.2≤10
instance (s:qq):Decidable (qY s):=by unfold qY;exact inferInstance
theorem Jt {S:List qq} {o:List Int} (cp:∀ s∈S,qY s) (jJ:JM S o) {i:Nat} (hi:i<o.length):qY (qM S o i):=cp _ (JD (jJ i hi))
def q7 (d:Int) (s:qq):Int:=s.1+s.2*d
theorem M8 {d:Int} {s:qq} (ah:qY s) (a1:0≤d∧d≤50):-600≤q7 d s∧q7 d s≤600:=by
 have:=Hm (a:=s.2) (b:=d) (A:=10) (B:=50) ⟨ah.2.2.1,ah.2.2.2⟩ ⟨by omega,a1.2⟩;have ab:=ah.1;have ae:=ah.2.1;unfold q7;omega
theorem Nm {n i:Nat} (hi:i<n) (aI:n≤10):-10≤qG n i∧qG n i≤10:=by unfold qG;omega
theorem Qn {n i:Nat} {v B:Int} {q:Prop} [Decidable q] (hi:i<n) (aI:n≤10) (JC:0≤B) (h:-B≤v∧v≤B):-(10*B)≤(if q then qG n i*v else 0)∧(if q then qG n i*v else 0)≤10*B:=by
 by_cases ab:q
 ·rw [if_pos ab];exact Hm (Nm hi aI) h
 ·rw [if_neg ab];omega
theorem Sv {S:List qq} {o:List Int} {a:Nat} {W:List Int} {f:qq→Int} {B:Int} (aq:o.length≤10) (JC:0≤B) (h:∀ i,i<o.length → -B≤f (qM S o i)∧f (qM S o i)≤B):-(100*B)≤qU S o a W f∧qU S o a W f≤100*B:=by
 have:=OW (n:=o.length) (g:=fun i=>if i % 2=a∧(i:Int) ∉ W then qG o.length i*f (qM S o i) else 0) (B:=10*B) fun i hi=>Qn hi aq JC (h i hi);have ae:=Int.mul_le_mul_of_nonneg_right (show (o.length:Int)≤10 by omega) (show 0≤10*B by omega);unfold qU;omega
theorem afx {S:List qq} {o:List Int} {a:Nat} {f:qq→Int} {B:Int} (aq:o.length≤10) (JC:0≤B) (h:∀ i,i<o.length → -B≤f (qM S o i)∧f (qM S o i)≤B):-(100*B)≤rh S o a f∧rh S o a f≤100*B:=by
 rw [←Ot];exact Sv aq JC h
theorem ZV {n i:Nat} (hi:i<n) (aI:n≤10):MY (i:Int) (n:Int)=some (qG n i):=by
 unfold MY;rw [qF (by decide)];have e:(n:Int).tdiv 2=((n / 2:Nat):Int):=by rw [Int.tdiv_eq_ediv_of_nonneg (by omega)];omega
 rw [e,qC (n:=((n / 2:Nat):Int)) (by omega),qC (by omega)];rfl
theorem OY (i:Nat):(i:Int).tmod 2=((i % 2:Nat):Int):=by rw [Int.tmod_eq_emod_of_nonneg (by omega)];omega
theorem Wr {p:(List qq)×(Int×Int)} {o:List Int} {d:Int} {a:Nat} {kl:Int→Option Int} (cp:∀ s∈p.1,qY s) (jJ:JM p.1 o) (aq:o.length≤10) (a1:0≤d∧d≤50) :
  ∀ (m i:Nat),i≤o.length→o.length-i<m→LH p o d (a:Int) kl m (qO i fun i=>if i % 2=a then qG o.length i*q7 d (qM p.1 o i) else 0) (i:Int)=kl (rh p.1 o a (q7 d))
 | 0,_,_,h=>absurd h (by omega)
 | m+1,i,hi,hm=>by
   rw [LH];by_cases aR:i<o.length
   ·rw [if_pos (decide_eq_true (by omega)),qF (by decide),OY,Ik i (by omega)];have a8:=Wr (kl:=kl) (a:=a) cp jJ aq a1 m (i+1) (by omega) (by omega);by_cases a_:i % 2=a
    ·rw [if_pos (decide_eq_true (by omega)),qF (by omega),qF (jJ i aR),ZV aR aq,sb];have al:=Jt cp jJ aR;have bm:=Hm (a:=(qM p.1 o i).2) (b:=d) (A:=10) (B:=50) ⟨al.2.2.1,al.2.2.2⟩ ⟨by omega,a1.2⟩;have cw:=M8 al a1;have e2:=Hm (Nm aR aq) cw;have lQ:=OW (n:=i) (g:=fun i=>if i % 2=a then qG o.length i*q7 d (qM p.1 o i) else 0) (B:=6000) fun j aw=>Qn (B:=600) (by omega) aq (by omega) (M8 (Jt cp jJ (by omega)) a1);have e1:ix p.1 (ix o (i:Int))=qM p.1 o i:=rfl;rw [e1,qC (n:=(qM p.1 o i).2*d) (by omega)];rw [show (qM p.1 o i).1+(qM p.1 o i).2*d=q7 d (qM p.1 o i) from rfl,qC (n:=q7 d (qM p.1 o i)) (by omega),qC (n:=qG o.length i*q7 d (qM p.1 o i)) (by omega),qC (by omega)];simp only [qO,if_pos a_] at a8;exact a8
    ·rw [if_neg (by simpa using by omega)];simp only [qO,if_neg a_,uZ] at a8;exact a8
   ·(obtain rfl:i=o.length:=by omega);rw [if_neg (by simp)];rfl
theorem It {n:Nat} (h:n≤1000000):n<qj:=by unfold qj;omega
theorem ai7 {p:(List qq)×(Int×Int)} {o:List Int} {d:Int} {a:Nat} (cp:∀ s∈p.1,qY s) (jJ:JM p.1 o) (aq:o.length≤10) (a1:0≤d∧d≤50):Kj p o d (a:Int)=some (rh p.1 o a (q7 d)):=by
 unfold Kj;exact Wr cp jJ aq a1 qj 0 (by omega) (It (by omega))
theorem QG {b:((List (Int×Int))×(Int×Int))×Unit} {n i:Nat} (aI:n≤10) (af:b.1.1.length=n) (hi:i<n):K_ b (i:Int)=some (qG n i):=by
 have:=ZV hi aI;unfold MY at this;unfold K_;rw [af];exact this
theorem Wf {W:List Int} (mb:W.length≤1000) {v:Int}:∀ (m i:Nat),i≤W.length→W.length-i<m→(∀ j,j<i→ix W (j:Int)≠v)→∃ r,Lv W v (fun _=>some (-1:Int)) m (i:Int)=some r∧decide (0≤r)=decide (v∈W)
 | 0,_,_,h,_=>absurd h (by omega)
 | m+1,i,hi,hm,ad=>by
   rw [Lv];by_cases aR:i<W.length
   ·rw [if_pos (decide_eq_true (by omega)),qF (by omega)];by_cases he:v=ix W (i:Int)
    ·rw [if_pos (decide_eq_true he)];refine ⟨_,rfl,?_⟩;rw [decide_eq_true (by omega),decide_eq_true (by rw [he];exact JD (by omega))]
    ·rw [if_neg (by simpa using he),Ik i (by omega)];refine Wf mb m (i+1) (by omega) (by omega) fun j aw=>?_;by_cases gi:j=i
     ·subst gi;exact fun e=>he e.symm
     ·exact ad j (by omega)
   ·rw [if_neg (by simpa using by omega)];refine ⟨-1,rfl,?_⟩;rw [decide_eq_false (by omega),decide_eq_false];intro nO;obtain ⟨j,aw,e⟩:=List.getElem_of_mem nO;refine ad j (by omega) ?_;rw [rJ aw];exact e
theorem aij (W:List Int) (mb:W.length≤1000) (v:Int):O1 W v=some (decide (v∈W)):=by
 unfold O1 Qv;obtain ⟨r,ab,ae⟩:=Wf (W:=W) mb (v:=v) qj 0 (by omega) (It (by omega)) (fun j aw=>absurd aw (by omega));have iR:Lv W v (fun _=>some (-1:Int)) qj 0=some r:=ab;rw [iR,sb,ae]
theorem Wt {b:((List (Int×Int))×(Int×Int))×Unit} {o:List Int} {W:List Int} {a:Nat} {kl:Int→Int→Option (Int×Int)} (cp:∀ s∈b.1.1,qY s) (jJ:JM b.1.1 o) (aq:o.length≤10) (aI:b.1.1.length=o.length) (mb:W.length≤1000) :
  ∀ (m i:Nat),i≤o.length→o.length-i<m →
    La b o (a:Int) W kl m (i:Int) (qO i fun i=>if i % 2=a∧(i:Int) ∉ W then qG o.length i*(qM b.1.1 o i).1 else 0) (qO i fun i=>if i % 2=a∧(i:Int) ∉ W then qG o.length i*(qM b.1.1 o i).2 else 0)=kl (qU b.1.1 o a W Prod.fst) (qU b.1.1 o a W Prod.snd)
 | 0,_,_,h=>absurd h (by omega)
 | m+1,i,hi,hm=>by
   rw [La];by_cases aR:i<o.length
   ·rw [if_pos (decide_eq_true (by omega)),qF (by omega),qF (by decide),OY,Ik i (by omega)];have a8:=Wt (kl:=kl) (a:=a) (W:=W) cp jJ aq aI mb m (i+1) (by omega) (by omega);by_cases a_:i % 2=a
    ·rw [if_neg (by simpa using by omega),aij W mb,sb];by_cases hw:(i:Int)∈W
     ·rw [if_pos (decide_eq_true hw)];simp only [qO,hw,not_true_eq_false,and_false,if_false,uZ] at a8;exact a8
     ·rw [if_neg (by simpa using hw),qF (jJ i aR),QG aq aI aR,sb,sb];have al:=Jt cp jJ aR;have e2:=Hm (Nm aR aq) (b:=(qM b.1.1 o i).1) (B:=100) ⟨by have:=al.1;omega,al.2.1⟩;have U_:=Hm (Nm aR aq) (b:=(qM b.1.1 o i).2) (B:=10) ⟨al.2.2.1,al.2.2.2⟩;have lQ:=OW (n:=i) (g:=fun i=>if i % 2=a∧(i:Int) ∉ W then qG o.length i*(qM b.1.1 o i).1 else 0) (B:=1000) fun j aw=>Qn (B:=100) (by omega) aq (by omega) (by have:=Jt cp jJ (i:=j) (by omega);exact ⟨by have:=this.1;omega,this.2.1⟩);have abL:=OW (n:=i) (g:=fun i=>if i % 2=a∧(i:Int) ∉ W then qG o.length i*(qM b.1.1 o i).2 else 0) (B:=100) fun j aw=>Qn (B:=10) (by omega) aq (by omega) (by have:=Jt cp jJ (i:=j) (by omega);exact ⟨this.2.2.1,this.2.2.2⟩);have e1:ix b.1.1 (ix o (i:Int))=qM b.1.1 o i:=rfl;rw [e1,qC (n:=qG o.length i*(qM b.1.1 o i).1) (by omega),qC (n:=qG o.length i*(qM b.1.1 o i).2) (by omega),qC (by omega),qC (by omega)];simp only [qO,if_pos (show i % 2=a∧(i:Int) ∉ W from ⟨a_,hw⟩)] at a8;exact a8
    ·rw [if_pos (by simpa using by omega)];simp only [qO,a_,false_and,if_false,uZ] at a8;exact a8
   ·(obtain rfl:i=o.length:=by omega);rw [if_neg (by simp)];rfl
theorem QI {b:((List (Int×Int))×(Int×Int))×Unit} {o:List Int} {W:List Int} {a:Nat} (cp:∀ s∈b.1.1,qY s) (jJ:JM b.1.1 o) (aq:o.length≤10) (aI:b.1.1.length=o.length) (mb:W.length≤1000) :
  MX b o (a:Int) W=some (qU b.1.1 o a W Prod.fst,qU b.1.1 o a W Prod.snd):=by
 unfold MX;exact Wt cp jJ aq aI mb qj 0 (by omega) (It (by omega))
theorem Nj (S:List qq) (o:List Int) (a:Nat) (W:List Int) (d:Int):qU S o a W (q7 d)=qU S o a W Prod.fst+qU S o a W Prod.snd*d:=by
 unfold qU;rw [Int.mul_comm _ d,←OX,←YJ];refine Kx fun i _=>?_;by_cases h:i % 2=a∧(i:Int) ∉ W
 ·simp only [if_pos h,q7];grind
 ·simp only [if_neg h];omega
theorem afz (S:List qq) (o:List Int) (a:Nat) (d:Int):rh S o a (q7 d)=rh S o a Prod.fst+rh S o a Prod.snd*d:=by
 simp only [←Ot];exact Nj S o a [] d
theorem RH {S:List qq} {o:List Int} {a:Nat} {W:List Int} (cp:∀ s∈S,qY s) (jJ:JM S o) (aq:o.length≤10):-10000≤qU S o a W Prod.fst∧qU S o a W Prod.fst≤10000 :=
 Sv (B:=100) aq (by omega) fun i hi=>by have:=Jt cp jJ hi;exact ⟨by have:=this.1;omega,this.2.1⟩
theorem Tp {S:List qq} {o:List Int} {a:Nat} {W:List Int} (cp:∀ s∈S,qY s) (jJ:JM S o) (aq:o.length≤10):-1000≤qU S o a W Prod.snd∧qU S o a W Prod.snd≤1000 :=
 Sv (B:=10) aq (by omega) fun i hi=>by have:=Jt cp jJ hi;exact ⟨this.2.2.1,this.2.2.2⟩
theorem TP {b:((List (Int×Int))×(Int×Int))×Unit} {o:List Int} {d:Int} (cp:∀ s∈b.1.1,qY s) (jJ:JM b.1.1 o) (aq:o.length≤10) (aI:b.1.1.length=o.length) (a1:0≤d∧d≤50) :
  MT b o d=some (rh b.1.1 o 0 (q7 d),rh b.1.1 o 1 (q7 d)):=by
 unfold MT;have aQ:=QI (W:=[]) (a:=0) cp jJ aq aI (by simp);have ab:=QI (W:=[]) (a:=1) cp jJ aq aI (by simp);rw [show ((0:Nat):Int)=0 from rfl] at aQ;rw [show ((1:Nat):Int)=1 from rfl] at ab;rw [aQ,ab,sb,sb];have one:∀ a,w (qU b.1.1 o a [] Prod.fst+w (qU b.1.1 o a [] Prod.snd*d))=rh b.1.1 o a (q7 d):=fun a=>by
  have a7:=RH (a:=a) (W:=[]) cp jJ aq;have a9:=Tp (a:=a) (W:=[]) cp jJ aq;have bt:=Hm (b:=d) (B:=50) a9 ⟨by omega,a1.2⟩;rw [qC (n:=qU b.1.1 o a [] Prod.snd*d) (by omega),qC (by omega),←Nj,Ot]
 simp only [one]
end Go.Proofs.YtkoioidpbbbaiaaGreat.Ab


namespace Go.Proofs.YtkoioidpbbbaiaaGreat.Ab
def ri:Nat→List Int→List (List Int)
 | 0,_=>[[]]
 | n+1,left=>left.flatMap fun x=>(ri n (left.erase x)).map (x::·)
theorem RC {left:List Int} {x:Int} {n:Nat} (ao:left.length=n+1) (aj:x∈left):(left.erase x).length=n:=by
 rw [List.length_erase_of_mem aj,ao];rfl
theorem ahf {left:List Int} (h:left.Pairwise (·<·)):left.Nodup:=h.imp fun h e=>by omega
theorem WD:∀ (n:Nat) (left:List Int),left.length=n→ri n left≠[]
 | 0,_,_=>by simp [ri]
 | n+1,[],h=>by simp at h
 | n+1,x::s,h=>by
   have:=WD n ((x::s).erase x) (RC h (by simp));simp only [ri,uB];intro e;exact this (by simpa using (List.append_eq_nil_iff.1 e).1)
theorem WB:∀ (n:Nat) (left:List Int),left.length=n→(ri n left)[0]?=some left
 | 0,left,h=>by rw [sP.1 h];rfl
 | n+1,[],h=>by simp at h
 | n+1,x::s,h=>by
   (have e:(x::s).erase x=s:=by simp);have a8:=WB n s (by simpa using h);simp only [ri,uB,e];have V4:0<((ri n s).map (x::·)).length:=by
    rw [sX];exact List.length_pos_iff.2 (WD n s (by simpa using h))
   rw [si V4,sm,a8];rfl
theorem PM:∀ (n:Nat) (left l:List Int),left.length=n→(l∈ri n left↔l.Perm left)
 | 0,left,l,h=>by
   rw [sP.1 h];simp [ri]
 | n+1,left,l,h=>by
   simp only [ri,tJ,sD];constructor
   ·rintro ⟨x,aj,r,ai,rfl⟩;have:=(PM n (left.erase x) r (RC h aj)).1 ai;exact (this.cons x).trans (vB aj).symm
   ·intro aB;cases l with
    | nil=>have:=aB.length_eq;simp at this;omega
    | cons x r =>
      have aj:x∈left:=aB.mem_iff.1 (by simp);refine ⟨x,aj,r,(PM n (left.erase x) r (RC h aj)).2 ?_,rfl⟩;exact (List.perm_cons x).1 (aB.trans (vB aj))
theorem aeb {n:Nat} {left l:List Int} (h:left.length=n) (ao:l∈ri n left):l.length=n:=by
 rw [((PM n left l h).1 ao).length_eq,h]
end Go.Proofs.YtkoioidpbbbaiaaGreat.Ab


namespace Go.Proofs.YtkoioidpbbbaiaaGreat.Ab
open Go
noncomputable def X3:gE :=
 p2 [⟨some 6, [.jq 3], none, some 3, .Bq⟩, p0 7 [.cv (.func 86 [] []), .jq 6] (.call 1)] (p2 [⟨some 8, [.jq 3], none, some 3, .other (Oper.mk (some 8) (Op.move (Operand.tmp 3)) 32 "iter.go:69" (Array.mk []) none) 2⟩, p1 2 8] .ret)
noncomputable def S2:gE :=
 p2 [p0 2 [.cv (.av [] 0 .full)] (.nil 1)] (p2 [p1 4 0,p0 5 [.cv (.func 85 [] []),.nc 4] (.call 0),p1 3 5] X3)
theorem WI:qt Go.Proofs.Tryz.prog UQ 67=some (S2,9,[.tmp 2]):=by kernel_rfl
noncomputable def Ya:gE :=
 p2 [p0 2 [.cv (.av [] 0 .full)] (.nil 1)] (p2 [p1 3 0,p0 4 [.cv (.func 102 [] []),.cv (.av [] 0 .full),.nc 3] (.call 0),p1 2 4] .ret)
theorem aeu:qt Go.Proofs.Tryz.prog U0 85=some (Ya,5,[.tmp 2]):=by kernel_rfl
noncomputable def ag7:gE :=
 p2 [p3 11 0,p1 12 4,p0 13 [.jq 11,.jq 12] (.call 1),p0 14 [.Bs 13] (.un .not)] (.cond (.nc 14) .ret .skip)
noncomputable def ag8:gE :=
 .block 1 (p2 [p0 9 [.nc 5,.nc 7] (.kY 1),qi 10 9,p1 4 10] ag7)
noncomputable def Yb:gE :=
 p2 [qi 5 1,p0 6 [.nc 5] .zJ,qh 7 0] (.block 0 (.loop (some (qc false [0,1,4,3,8])) (p2 [p0 8 [.nc 7,.nc 6] (.bin .lss)] (.seq (.cond (.nc 8) .skip (.exit 0)) (.seq ag8 (qV [q2 15 7 1,p1 7 15]))))))
theorem aev:qt Go.Proofs.Tryz.prog U2 87=some (Yb,16,[]):=by kernel_rfl
noncomputable def Xs:gE :=
 p2 [p0 2 [.jq 0] .box,p0 4 [.cv (.av [] 0 .full)] (.nil 1)] (.seq (p2 [p1 6 1] (.block 0 (.AM (.nc 6) [7] (rB Go.Proofs.Tryz.prog 102 0) (rC Go.Proofs.Tryz.prog 102 0)))) (p2 [p0 12 [.Bs 2] .take,p1 4 12] .ret))
theorem aed:qt Go.Proofs.Tryz.prog Ko 102=some (Xs,13,[.tmp 4]):=by kernel_rfl
end Go.Proofs.YtkoioidpbbbaiaaGreat.Ab


namespace Go.Proofs.YtkoioidpbbbaiaaGreat.Ab
open Go
set_option maxRecDepth 20000
set_option maxHeartbeats 4000000
noncomputable def Yc:gE :=
 .ov false [p0 5 [.jq 7] .mU]
theorem aew:ey Tryz.prog Ko (rB Tryz.prog 102 0) 0=some Yc:=by kernel_rfl
noncomputable def Yg:gE :=
 .block 1 (.ov false [p0 8 [.nc 2] .take,p0 9 [.jq 5] .mU,p0 10 [.Bs 9] (.yB 1 1 [.int .i64 0] [0]),p0 11 [.jq 8,.jq 10] (.app 1 8),⟨none,[.jq 2,.jq 11],none,none,.Bk⟩])
theorem aeA:ey Tryz.prog Ko (rC Tryz.prog 102 0) 0=some Yg:=by kernel_rfl
def Ka (l:List Int):I:=match l with | []=>.av [] 0 .full | _=>.raw (l.map h0) l.length 1
def Pt (l:List Int):I:=match l with | []=>.av [] 0 .full | _=>.av (l.map h0) l.length (.uniq 1)
theorem abF {l:List Int} {e:Int} {yh fA Gi Gj r2 Jw HS u8 HT HP HQ HR:I} (ao:l.length≤1000) (Y:List ar) :
  ∃ qL,Sem Tryz.prog (.yield [ar.cells [Ka l]].length) [h0 e] (([ar.cells [Ka l]]++[ar.loop .ready none 102 [yh,fA,.ptr 0 0,Gi,Gj,r2,Jw,HS,u8,HT,HP,HQ,HR] [7] (rB Tryz.prog 102 0) (rC Tryz.prog 102 0) Ko])++Y) 0 (.bool true) (([ar.cells [Ka (l++[e])]]++[ar.loop .ready none 102 [yh,fA,.ptr 0 0,Gi,Gj,r2,Jw,HS,u8,HT,HP,HQ,HR] [7] (rB Tryz.prog 102 0) (rC Tryz.prog 102 0) Ko])++qL):=by
 refine ⟨Y,Qi eG aew aeA (IW _ _ _) rfl (I0 (by simp)) ?_⟩;unfold Yc;conv=>whnf
 refine ⟨rfl,IW _ _ _,?_⟩;rw [Kd];unfold Yg;cases l with
 | nil =>
   (conv=>whnf);refine ⟨rfl,by omega,?_⟩;(conv=>whnf);refine ⟨by decide,by decide,rfl,?_⟩;(conv=>whnf);refine ⟨rfl,by decide,Gn (by decide) ?_⟩;(conv=>whnf);show _∧(([ar.cells [Ka ([]++[e])]]++[ar.loop .busy none 102 [yh,fA,.ptr 0 0,Gi,Gj,r2,Jw,HS,u8,HT,HP,HQ,HR] [7] (rB Tryz.prog 102 0) (rC Tryz.prog 102 0) Ko])++Y)[[ar.cells [Ka ([]++[e])]].length]?=_∧lI ((([ar.cells [Ka ([]++[e])]]++[ar.loop .busy none 102 [yh,fA,.ptr 0 0,Gi,Gj,r2,Jw,HS,u8,HT,HP,HQ,HR] [7] (rB Tryz.prog 102 0) (rC Tryz.prog 102 0) Ko])++Y).set [ar.cells [Ka ([]++[e])]].length _) _;exact ⟨rfl,IW _ _ _,by rw [Kd];exact lI.refl _⟩
 | cons a l =>
   (conv=>whnf);refine ⟨rfl,by omega,?_⟩;(conv=>whnf);refine ⟨rfl,by simp only [sL] at ao ⊢;omega,?_⟩;(conv=>whnf);refine ⟨?_,Nat.succ_ne_zero _,Gn (by simp) ?_⟩
   ·show ((a::l).map h0++[h0 e]).all g1=true;rw [←List.map_singleton (f:=h0),←sJ];exact sn.2 fun x aj=>by obtain ⟨y,_,rfl⟩:=sD.1 aj;rfl
   (conv=>whnf);have e1:I.raw ((a::l).map h0++[h0 e]) ((a::l).length+1) 1=Ka ((a::l)++[e]):=by
    show _=I.raw (((a::l)++[e]).map h0) ((a::l)++[e]).length 1;rw [sJ,sA];rfl
   show _∧(([ar.cells [I.raw ((a::l).map h0++[h0 e]) ((a::l).length+1) 1]]++[ar.loop .busy none 102 [yh,fA,.ptr 0 0,Gi,Gj,r2,Jw,HS,u8,HT,HP,HQ,HR] [7] (rB Tryz.prog 102 0) (rC Tryz.prog 102 0) Ko])++Y)[[ar.cells [I.raw ((a::l).map h0++[h0 e]) ((a::l).length+1) 1]].length]?=_∧lI ((([ar.cells [I.raw ((a::l).map h0++[h0 e]) ((a::l).length+1) 1]]++[ar.loop .busy none 102 [yh,fA,.ptr 0 0,Gi,Gj,r2,Jw,HS,u8,HT,HP,HQ,HR] [7] (rB Tryz.prog 102 0) (rC Tryz.prog 102 0) Ko])++Y).set [ar.cells [I.raw ((a::l).map h0++[h0 e]) ((a::l).length+1) 1]].length _) _;rw [e1];exact ⟨rfl,IW _ _ _,by rw [Kd];exact lI.refl _⟩
theorem Na (l:List Int):cr 8 (Pt l)=true:=by
 cases l with
 | nil=>rfl
 | cons a l=>exact rU (fun _=>rfl) _ _ _
theorem ack {k:FuncId} {cap:List I} {l:List Int} (IH:Seq Tryz.prog k cap (l.map h0)) (ao:l.length≤1000):qB 102 [.av [] 0 .full,.func k [] cap] (Pt l):=by
 refine Py eG aed rfl (Na l) fun Q bp=>?_;unfold Xs;obtain ⟨a7,cf⟩:∃ c,gE.AM (.nc 6) [7] (rB Tryz.prog 102 0) (rC Tryz.prog 102 0)=c:=⟨_,rfl⟩;rw [cf];conv=>whnf
 subst cf;refine ahl (f:=h0) IH (fun i=>[ar.cells [Ka (l.take i)]]) (by exact rfl) (by exact rfl) (fun _=>rfl) ?_ (rl:=none) (by exact rfl) (Hn:=[ar.cells [Ka l]]) (by show [ar.cells [Ka (l.take l.length)]]=_;rw [List.take_length]) ?_
 ·intro i hi Y;rw [show l.take (i+1)=l.take i++[l[i]] by rw [List.take_add_one,sj hi];rfl];exact abF (l:=l.take i) (e:=l[i]) (by rw [s9];omega) Y
 ·intro qL;cases l with
  | nil =>
    (conv=>whnf);exact bp _ _ _ (K4 (.inr rfl) (Na _) rfl)
  | cons a l =>
    (conv=>whnf);exact bp _ _ _ (K4 (.inr rfl) (Na _) rfl)
theorem Vj {k:FuncId} {cap:List I} {l:List Int} (pw:cap.all (cr 7)=true) (IH:Seq Tryz.prog k cap (l.map h0)) (ao:l.length≤1000):qB 85 [.func k [] cap] (Pt l):=by
 refine Py eG aeu rfl (Na l) fun Q bp=>?_;unfold Ya;conv=>whnf
 refine ⟨_,_,Oc (p5 rfl (p5 (Jr rfl pw) rfl)) (ack IH ao) _ _,?_⟩;cases l with
 | nil =>
   (conv=>whnf);exact bp _ _ _ (K4 (.inr rfl) (Na _) rfl)
 | cons a l =>
   (conv=>whnf);exact bp _ _ _ (K4 (.inr rfl) (Na _) rfl)
end Go.Proofs.YtkoioidpbbbaiaaGreat.Ab


namespace Go.Proofs.YtkoioidpbbbaiaaGreat.Ab
open Go
def Rw:hE→hE→Bool
 | .shared,.shared=>true
 | .full,.full=>true
 | .own a,.own b=>Nat.beq a b
 | .uniq a,.uniq b=>Nat.beq a b
 | _,_=>false
theorem ab1:∀ {a b:hE},Rw a b=true→a=b:=by
 intro a b h;cases a <;> cases b <;> simp only [Rw,tP] at h <;> first | rfl | (rw [sO h])
def Jq (f:I→I→Bool):List I→List I→Bool
 | [],[]=>true
 | a::l,b::r=>match f a b with
   | true=>Jq f l r
   | false=>false
 | _,_=>false
theorem KZ {f:I→I→Bool} (aP:∀ a b,f a b=true→a=b):∀ {a b:List I},Jq f a b=true→a=b
 | [],[],_=>rfl
 | [],_::_,h=>by simp [Jq] at h
 | _::_,[],h=>by simp [Jq] at h
 | a::l,b::r,h=>by
   simp only [Jq] at h;split at h
   ·rename_i jL;rw [aP a b jL,KZ aP h]
   ·cases h
def Jz:Nat→I→I→Bool
 | 0,_,_=>false
 | d+1,a,b=>match a,b with
   | .bool x,.bool y=>match x,y with | true,true=>true | false,false=>true | _,_=>false
   | .int k x,.int q y=>match decide (k=q),decide (x=y) with | true,true=>true | _,_=>false
   | .eI,.eI=>true
   | .bS x,.bS y=>Jq (Jz d) x y
   | .av x n c,.av y m e=>match Jq (Jz d) x y,Nat.beq n m,Rw c e with | true,true,true=>true | _,_,_=>false
   | .func f x y,.func g z w=>match Nat.beq f g,Jq (Jz d) x z,Jq (Jz d) y w with | true,true,true=>true | _,_,_=>false
   | .agg x,.agg y=>Jq (Jz d) x y
   | .tuple x,.tuple y=>Jq (Jz d) x y
   | _,_=>false
theorem Po:∀ (d:Nat) (a b:I),Jz d a b=true→a=b
 | 0,_,_,h=>by simp [Jz] at h
 | d+1,a,b,h=>by
   have a8:=Po d;unfold Jz at h;split at h
   ·split at h <;> first | rfl | cases h
   ·rename_i k x q y;split at h
    ·rename_i ab ae;rw [of_decide_eq_true ab,of_decide_eq_true ae]
    ·cases h
   ·rfl
   ·rw [KZ a8 h]
   ·split at h
    ·rename_i ab ae aF;rw [KZ a8 ab,sO ae,ab1 aF]
    ·cases h
   ·split at h
    ·rename_i ab ae aF;rw [sO ab,KZ a8 ae,KZ a8 aF]
    ·cases h
   ·rw [KZ a8 h]
   ·rw [KZ a8 h]
   ·cases h
inductive LJ where
 | pure (k:Nat) (args:List I) (v:I)
 | map (k:Nat) (args:List I) (es:List (Nat×I×I)) (clock:Nat)
def Rz (P:Program):LJ→Prop
 | .pure k args v=>nn P k args v
 | .map k args es clock=>∀ H,Sem P (.fn k) args H H.length (.map H.length) (H++[.map es clock])
def look (k:Nat) (args:List I) (H:List ar) (lo:Nat):List LJ→Option (I×List ar)
 | []=>none
 | .pure q bs v::r=>match Nat.beq k q with
   | true=>match Jq (Jz 20) args bs with
     | true=>match H with
       | []=>some (v,[])
       | _=>look k args H lo r
     | false=>look k args H lo r
   | false=>look k args H lo r
 | .map q bs es clock::r=>match Nat.beq k q with
   | true=>match Jq (Jz 20) args bs with
     | true=>match Nat.beq lo H.length with
       | true=>some (.map H.length,H++[.map es clock])
       | false=>look k args H lo r
     | false=>look k args H lo r
   | false=>look k args H lo r
def Qm (l:List LJ):b8:=fun bY args H lo=>match bY with
 | .fn k=>look k args H lo l
 | _=>none
theorem Sem.aeE {P:Program} {bY:fc} {args:List I} {r:I} {H':List ar} (h:Sem P bY args [] 0 r H') (lo:Nat):Sem P bY args [] lo r H' :=
 ⟨⟨h.1.1,fun _ _ h=>by simp at h⟩,h.2⟩
theorem look_ok {P:Program} {k:Nat} {args:List I} {H:List ar} {lo:Nat} {r:I} {H':List ar}:∀ {l:List LJ},(∀ e∈l,Rz P e)→look k args H lo l=some (r,H')→Sem P (.fn k) args H lo r H'
 | [],_,h=>by simp [look] at h
 | .pure q bs v::l,ao,h=>by
   have Mn:=look_ok (k:=k) (args:=args) (H:=H) (lo:=lo) (r:=r) (H':=H') fun e he=>ao e (tS _ he);unfold look at h;split at h
   ·rename_i ab;split at h
    ·rename_i ae;split at h
     ·cases h;have:=ao (.pure q bs r) tY;rw [sO ab,KZ (Po 20) ae];exact this.1.aeE lo
     ·exact Mn h
    ·exact Mn h
   ·exact Mn h
 | .map q bs es clock::l,ao,h=>by
   have Mn:=look_ok (k:=k) (args:=args) (H:=H) (lo:=lo) (r:=r) (H':=H') fun e he=>ao e (tS _ he);unfold look at h;split at h
   ·rename_i ab;split at h
    ·rename_i ae;split at h
     ·rename_i aF;cases h;have:=ao (.map q bs es clock) tY;rw [sO ab,KZ (Po 20) ae,sO aF];exact this H
     ·exact Mn h
    ·exact Mn h
   ·exact Mn h
theorem YQ {P:Program} {l:List LJ} (ao:∀ e∈l,Rz P e):c6 P (Qm l):=o7 fun bY args H lo r H' h=>by
 cases bY with
 | fn k=>exact look_ok ao h
 | yield i=>simp [Qm] at h
def Lp (A:FuncId→dw):Nat→List Func→Bool
 | _,[]=>true
 | k,f::r=>match (A k).bad with
   | true=>Lp A (k+1) r
   | false=>match f.body with
     | some c => match codeOk (A k) c, f.name == "runtime.NumGoroutine" with
       | true,false=>Lp A (k+1) r
       | _,_=>false
     | none=>Lp A (k+1) r
theorem W8 {A : FuncId → dw} : ∀ {l : List Func} {k : Nat}, Lp A k l = true → ∀ (i : Nat) (f : Func) (c : Code), (A (k + i)).bad = false → l[i]? = some f → f.body = some c → codeOk (A (k + i)) c = true ∧ f.name ≠ "runtime.NumGoroutine"
 | [],_,_,i,f,c,_,h,_=>by simp at h
 | g::r,k,h,i,f,c,nG,aP,ak=>by
   unfold Lp at h;cases i with
   | zero =>
     simp at aP;subst aP;rw [Nat.add_zero] at nG;rw [nG,ak] at h;simp only at h;split at h
     ·rename_i ab ae;exact ⟨ab,by simpa using ae⟩
     ·cases h
   | succ i =>
     have ai:Lp A (k+1) r=true:=by
      split at h
      ·exact h
      ·split at h
       ·split at h
        ·exact h
        ·cases h
       ·exact h
     have:=W8 ai i f c (by rw [show k+1+i=k+(i+1) by omega];exact nG) (by simpa using aP) ak;rw [show k+(i+1)=k+1+i by omega];exact this
theorem W7 {P : Program} {A : FuncId → dw} (h : Lp A 0 P.funcs.toList = true) (k : Nat) (f : Func) (c : Code) (af : (A k).bad = false) (aP : P.funcs[k]? = some f) (ak : f.body = some c) : codeOk (A k) c = true ∧ f.name ≠ "runtime.NumGoroutine" := by
 have:=W8 h k f c (by rw [sC];exact af) (by simpa using aP) ak
 rwa [sC] at this
theorem U4:Lp jD 0 Go.Proofs.Tryz.prog.funcs.toList=true:=by kernel_rfl
noncomputable def Tj (l:List LJ) (k:Nat) (args:List I):Option I:=match ga Go.Proofs.Tryz.prog jD (Qm l) 300 (.fn k) args [] 0 with
 | some (r,H2)=>match bM H2 0 H2.length 0 8 r with
   | some v=>match cr 8 v.settle with
     | true=>some v.settle
     | false=>none
   | none=>none
 | none=>none
theorem aho {l:List LJ} (ao:∀ e∈l,Rz Go.Proofs.Tryz.prog e) {k:Nat} {args:List I} {v:I} (h:Tj l k args=some v):nn Go.Proofs.Tryz.prog k args v:=by
 unfold Tj at h;split at h
 ·rename_i r H2 ak;split at h
  ·rename_i u aP;split at h
   ·rename_i aB;cases h;have ah:=(Cb eG jD (YQ ao) (W7 U4) 300).Ha ak;refine ⟨⟨a'.refl _ _,ah.2.1,fun B aa J S w xs ag aI ad=>CallsIn.mono (ah.2.2 B aa J S w xs ag aI ad) fun e w' he=>?_⟩,aB⟩;cases e with
    | returned x =>
      have kQ:=xG ag (fun id aE=>by simp at aE) aP he;show aZ B aa J S w [] u.settle x w';cases u with
      | av cells len eo =>
        cases eo with
        | uniq z=>exact kQ.settle
        | _=>exact kQ
      | _=>exact kQ
    | panicked c=>exact he.elim
    | outgrown=>exact he.elim
   ·cases h
  ·cases h
 ·cases h
end Go.Proofs.YtkoioidpbbbaiaaGreat.Ab


namespace Go.Proofs.YtkoioidpbbbaiaaGreat.Ab
open Go
noncomputable def ag6:gE :=
 .ov false [p1 5 0,p3 6 2,p1 7 2,p0 8 [.Bs 7] (.conv .u64),p0 9 [.cv (.func 79 [] []),.nc 8] (.call 3),p0 10 [.cv (.func 103 [] []),.jq 5,.cv (.int .i64 0),.jq 6,.jq 9] (.call 1)]
noncomputable def Tf:gE :=
 p2 [p3 3 0,q3 4 3,p1 2 4] ag6
theorem WL:qt Go.Proofs.Tryz.prog U1 86=some (Tf,11,[]):=by kernel_rfl
noncomputable def OG:gE :=
 p2 [p1 24 0,p1 25 1,p1 26 2,p0 27 [.cv (.func 110 [] []),.jq 24,.jq 25,.jq 26] (.call 1)] .ret
noncomputable def agi:gE :=
 p2 [p1 30 0,p1 31 1,p1 32 2,p0 33 [.cv (.func 111 [] []),.jq 30,.jq 31,.jq 32] (.call 1)] .ret
noncomputable def agj:gE :=
 p2 [p3 36 0,p3 37 1,p3 38 2,p0 39 [.cv (.func 112 [] []),.jq 36,.jq 37,.jq 38] (.call 1)] (qV [p1 40 3,qE 41 40 1 .sub,p1 3 41])
noncomputable def agk:gE :=
 p2 [p3 55 2,qE 56 55 1 .sub,p1 57 11,p3 58 1,qn 59 57 58 .sub,qn 60 56 59 .sub,p1 11 60] (qV [qh 12 1])
noncomputable def agl:gE :=
 p2 [p3 51 0,p3 52 1,p3 53 2,p0 54 [.cv (.func 114 [] []),.jq 51,.jq 52,.jq 53] (.call 1)] agk
noncomputable def agm:gE :=
 p2 [p3 69 0,p3 70 1,p3 71 2,p0 72 [.cv (.func 115 [] []),.jq 69,.jq 70,.jq 71] (.call 1)] (.cond (.nc 72) .ret .skip)
noncomputable def agn:gE :=
 p2 [p3 88 0,p1 89 1,p3 90 2,p1 91 11,p0 92 [.cv (.func 117 [] []),.jq 88,.jq 89,.jq 90,.jq 91] (.call 1),p1 13 92] (p2 [p1 93 13,p1 1 93] (.exit 1))
noncomputable def ago:gE :=
 p2 [p3 117 0,p1 118 1,p3 119 14,p3 120 3,p0 121 [.cv (.func 103 [] []),.jq 117,.jq 118,.jq 119,.jq 120] (.call 1)] (qV [p1 122 14,q2 123 122 1,p1 1 123])
noncomputable def agp:gE :=
 p2 [p1 114 16,p1 115 18,qn 116 114 115 .geq,p1 8 116] ago
noncomputable def af_:gE :=
 p2 [p3 127 0,p3 128 14,q2 129 128 1,p1 130 2,p3 131 3,p0 132 [.cv (.func 103 [] []),.jq 127,.jq 129,.jq 130,.jq 131] (.call 1)] (qV [p1 133 14,p1 2 133])
noncomputable def aga:gE :=
 p2 [p1 124 17,p1 125 18,qn 126 124 125 .geq,p1 8 126] af_
noncomputable def agb:gE :=
 p2 [p1 109 10,qE 110 109 8 .quo,p1 18 110] (p2 [p3 111 16,p3 112 17,qn 113 111 112 .lss] (.cond (.nc 113) agp aga))
noncomputable def agc:gE :=
 p2 [p3 103 14,p3 104 1,qn 105 103 104 .sub,p3 106 2,p3 107 14,qn 108 106 107 .sub,p1 16 105,p1 17 108] agb
noncomputable def agd:gE :=
 p2 [p3 95 0,p3 96 1,p3 97 2,p1 98 11,p0 99 [.cv (.func 118 [] []),.jq 95,.jq 96,.jq 97,.jq 98] (.call 1),p1 94 99,qI 100 94 0,p0 101 [.Bs 94] (.ext 1),p1 14 100,p1 15 101] (p2 [p1 102 15,p1 9 102] agc)
noncomputable def age:gE :=
 .seq (.seq (rA [p3 73 1,qE 74 73 0 .gtr,p1 75 74,cl 76 [.nc 0] 75 true .mU,cl 77 [.nc 1] 75 true .mU,cl 78 [.Bs 77,.cv (.int .i64 1)] 75 true (.bin .sub),cl 79 [.Bs 76,.Bs 78] 75 true (.kY 1),cl 80 [.Bs 79] 75 true (.zE .one),cl 81 [.nc 0] 75 true .mU,cl 82 [.nc 11] 75 true .mU,cl 83 [.Bs 81,.Bs 82] 75 true (.kY 1),cl 84 [.Bs 83] 75 true (.zE .one),⟨some 85,[.cv (.func 116 [] []),.nc 80,.nc 84],some (75,true),none,.call 3⟩,cl 86 [.Bs 85] 75 true (.un .not),p0 87 [.nc 75,.Bs 86,.cv (.bool false)] .pick]) (.cond (.nc 87) agn .skip)) agd
noncomputable def agf:gE :=
 .seq (p2 [p3 61 8,p1 62 61,cl 63 [.nc 9] 62 true .mU,p0 64 [.Bs 62,.Bs 63,.cv (.bool false)] .pick,p1 65 64,cl 66 [.jq 12] 65 true .mU,cl 67 [.Bs 66,.cv (.int .i64 1)] 65 true (.bin .eql),p0 68 [.Bs 65,.Bs 67,.cv (.bool false)] .pick] (.cond (.nc 68) agm .skip)) age
noncomputable def agh:gE :=
 p2 [p3 43 0,p3 44 1,p3 45 2,p0 46 [.cv (.func 113 [] []),.jq 43,.jq 44,.jq 45] (.call 1),p1 42 46,qI 47 42 0,p0 48 [.Bs 42] (.ext 1),p1 11 47,p1 12 48] (.seq (p2 [p3 49 12,qE 50 49 2 .eql] (.cond (.nc 50) agl .skip)) agf)
noncomputable def SC:gE :=
 .seq (p2 [p3 28 3,qE 29 28 0 .eql] (.cond (.nc 29) agi .skip)) (.seq (p2 [p3 34 8,p0 35 [.Bs 34] (.un .not)] (.cond (.nc 35) agj .skip)) agh)
noncomputable def OH:gE :=
 .block 1 (p2 [p3 19 2,p3 20 1,qn 21 19 20 .sub,p1 10 21] (.seq (p2 [p3 22 10,qE 23 22 12 .leq] (.cond (.nc 23) OG .skip)) SC))
noncomputable def SB:gE :=
 p2 [p0 8 [.cv (.bool true)] .mU] (p2 [p0 9 [.cv (.bool true)] .mU] (.block 0 (.loop (some (qc false [0,4,4,2,124])) OH)))
theorem WE:qt Go.Proofs.Tryz.prog Uj 103=some (SB,134,[]):=by kernel_rfl
noncomputable def agq:gE :=
 .block 3 (rA [p3 33 0,p3 34 7,p3 35 0,p3 36 7,qE 37 36 1 .sub,p3 38 0,p3 39 7,qE 40 39 1 .sub,rv 41 38 40 1,qi 42 41,p3 43 0,p3 44 7,rv 45 43 44 1,qi 46 45,rv 47 33 34 1,⟨none,[.jq 47,.jq 42],none,none,.st 1⟩,rv 48 35 37 1,⟨none,[.jq 48,.jq 46],none,none,.st 1⟩])
noncomputable def agr:gE :=
 .seq (.seq (rA [p3 16 7,p3 17 1,qn 18 16 17 .gtr,p1 19 18,cl 20 [.nc 0] 19 true .mU,cl 21 [.nc 7] 19 true .mU,cl 22 [.Bs 20,.Bs 21] 19 true (.kY 1),cl 23 [.Bs 22] 19 true (.zE .one),cl 24 [.nc 0] 19 true .mU,cl 25 [.nc 7] 19 true .mU,cl 26 [.Bs 25,.cv (.int .i64 1)] 19 true (.bin .sub),cl 27 [.Bs 24,.Bs 26] 19 true (.kY 1),cl 28 [.Bs 27] 19 true (.zE .one),⟨some 29,[.cv (.func 116 [] []),.nc 23,.nc 28],some (19,true),none,.call 3⟩,p0 30 [.nc 19,.Bs 29,.cv (.bool false)] .pick]) (.cond (.nc 30) .skip (.exit 2))) (.seq agq (qV [p1 31 7,qE 32 31 1 .sub,p1 7 32]))
noncomputable def ags:gE :=
 .block 1 (p2 [p3 15 6,p1 7 15] (.block 2 (.loop (some (qc false [0,3,3,2,41])) agr)))
noncomputable def agt:gE :=
 .seq (p2 [p3 10 6,p3 11 2,qn 12 10 11 .lss] (.cond (.nc 12) .skip (.exit 0))) (.seq ags (qV [p1 13 6,q2 14 13 1,p1 6 14]))
noncomputable def SD:gE :=
 p2 [p3 8 1,q2 9 8 1,p1 6 9] (.block 0 (.loop (some (qc false [0,3,3,1,42])) agt))
theorem WG:qt Go.Proofs.Tryz.prog Ul 110=some (SD,49,[]):=by kernel_rfl
noncomputable def agu:gE :=
 p2 [p3 5 0,p0 6 [.cv (.func 123 [] []),.nc 5] (.call 3),p1 7 6,cl 8 [.nc 1] 7 true .mU,⟨some 9,[.cv (.func 123 [] []),.nc 8],some (7,true),none,.call 3⟩,cl 10 [.Bs 9] 7 true (.un .not),p0 11 [.Bs 7,.Bs 10,.cv (.bool false)] .pick,p1 12 11,cl 13 [.jq 0] 12 false .mU,cl 14 [.jq 1] 12 false .mU,cl 15 [.Bs 13,.Bs 14] 12 false (.bin .lss),p0 16 [.Bs 12,.cv (.bool true),.Bs 15] .pick,p1 4 16] .ret
noncomputable def Xt:gE :=
 p2 [p0 4 [.cv (.bool false)] .mU] agu
theorem aee:qt Go.Proofs.Tryz.prog Um 116=some (Xt,17,[.tmp 4]):=by kernel_rfl
noncomputable def agv:gE :=
 p2 [p3 3 0,p1 4 0,qn 5 3 4 .neq,p1 2 5] .ret
noncomputable def Xu:gE :=
 p2 [p0 2 [.cv (.bool false)] .mU] agv
theorem aef:qt Go.Proofs.Tryz.prog Uo 123=some (Xu,6,[.tmp 2]):=by kernel_rfl
end Go.Proofs.YtkoioidpbbbaiaaGreat.Ab
