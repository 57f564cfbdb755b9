
import Derived.Test.YtkoioidpbbbaiaaGreatJa1
import Derived.Test.YtkoioidpbbbaiaaGreatJa4
import Derived.Test.YtkoioidpbbbaiaaGreatProg
import Derived.KernelRfl
import Derived.IntWalk
import Derived.ProofKit
import Derived.Deep.Slices
import Derived.ChangeStays
import Derived.Below
import Derived.WalkKit
set_option linter.unusedSimpArgs false
set_option linter.unusedVariables false
set_option linter.unusedSectionVars false

open Bool renaming and_eq_true→su,false_eq_true→ub
open Classical renaming choose_spec→uJ
open Int renaming add_zero→tJ
open List renaming all_eq_true→ss,append_assoc→sC,append_nil→sM,drop_eq_getElem_cons→sV,drop_zero→tu,flatMap_cons→uo,getElem?_append→sr,getElem?_append_left→sk,getElem?_append_right→sv,getElem?_drop→sS,getElem?_eq_getElem→sm,getElem?_eq_some_iff→sd,getElem?_map→sq,getElem?_take→sL,getElem_map→tX,length_append→sD,length_cons→sO,length_eq_zero_iff→sT,length_map→sZ,length_pos_iff→vJ,length_take→s9,map_append→sR,map_congr_left→tT,map_cons→sI,map_drop→tP,map_id→vi,map_map→vD,map_nil→uK,mem_append_left→vG,mem_append_right→vk,mem_cons_of_mem→ue,mem_cons_self→tV,mem_flatMap→tW,mem_iff_getElem?→s8,mem_map→sH,mem_range→sJ,perm_cons_erase→vK,take_of_length_le→tb
open Nat renaming add_comm→tp,add_mul→ti,eq_of_beq_eq_true→sQ,le_refl→se,lt_succ_self→sg,mul_one→tz,zero_add→sG,zero_le→sE
open Option renaming bind_some→sc,map_some→si
namespace Go.Proofs.YtkoioidpbbbaiaaGreat.Ab
open Go
abbrev p2:bY:={ cz:=[true] }
abbrev p8:bY:={ cz:=[true,true] }
def p7 (l:List Nat):List bY:=l.map fun n=>match n with
 | 0=>{}
 | 1=>p2
 | _=>p8
def abn:dt:={ ops:=[[{ mode:=3 }]] }
def Uk:dt:={ ops:=[[p2],[{},{ mode:=3 }],[{ mode:=3 },p2],[{},{ mode:=3 },p2,{},p2,p2,p2],[{},{ mode:=3 },p2,{},p2,p2,p2],[{},{ mode:=3 },p2,{},p2,p2,p2],[{},{ mode:=3 },p2,{},p2,p2,p2],[{},{ mode:=3 },p2,{},p2,p2,p2],[p2,{ mode:=3 },p2,{},p2,p2,p2],[p2,p2,p8,p2,p2,p2,p8,p8,p2,p2,p2,{ mode:=3 },p8,p2,p2,p2,p8,p8,p2,p2,p2,p8,p8,p2,p2,p2,p8,p8,p2,{ mode:=3 },p8,p2]] }
def Us:dt:={ ops:=[[p2],[{},{ mode:=3 },p2,{},p2,p2,{ cz:=[true,false,true] },p2,{},p2,p2,{ cz:=[true,false,true] }],[{ mode:=3 },p2],[{},{},{},{ mode:=3 },p2,{},p2,p2,p2],[{},{},p2,{ mode:=3 },p2,{},p2,p2,p2],[{},{},{ mode:=3 },p2,{},p2,p2,p2],[{},{},{ mode:=3 },p2,{},p2,p2,p2],[{},{},{ mode:=3 },p2,{},p2,p2,p2],[p2,p2,p8,p2,p2,p2,p8,{ cz:=[true,false,true] },p2,p2,{},p8,{ cz:=[true,false,true] },p2,p2,{},p8,{ cz:=[true,false,true] },p2,p2,{},p8,{ cz:=[true,false,true] },p2,{},p2,p2,{ cz:=[true,false,true] }],[],[p2,p2],[p2,p2,p2,p2,{ mode:=3 },p8,p2],[p2,p2,p2,{ mode:=3 },p2,{},p2,p2,p2],[p2,p2,p2,p2,p2,p8,p8,p2,{ mode:=3 },p8,p2]] }
def Uz:dt:={ ops:=[[p2],[{},{ mode:=3 }],[{ mode:=3 },p2],[{},{ mode:=3 },p2,{},p2,p2,p2],[p2,{ mode:=3 },p2,{},p2,p2,p2],[p2,p2,{ mode:=3 },p2,p2,p2,p8,p8,p2,{ mode:=3 },p8,p2]] }
def abt:dt:={ ops:=[[p2],[{},{ mode:=3 },p2,p2,{},p2,p2,{ cz:=[true,false,true] }],[{ mode:=3 },p2],[{},{ mode:=3 },p2,{},p2,p2,p2],[{},p2,p2,p2,{ mode:=3 },p2],(p7 [0,1,1,1,1,0,1,1,0,1,1,2,1,2,2,1]),[{},{},{ mode:=3 },p2,{},p2,p2,p2],[{},{},{},p2,p2,{ mode:=3 },p2,{},{},p2,p2,p2,p2],[{},{},{},p2,p2,{ mode:=3 },p2,{},{},p2,p2,p2,p2],[{},p2,p2,{ mode:=3 },p2,{},{},p2,p2,p2,p2],[p2,{ mode:=3 },p2,{},p2,p2,p2],[p2,p2,p2,p2,p2,{ cz:=[true,false,true] },p2,p2,p2,{ cz:=[true,false,true] },p2,p2,p2,{ cz:=[true,false,true] },p2,p2,p2,{ cz:=[true,false,true] },p2,p2,p2,{ cz:=[true,false,true] },p2,{},{},p8,{ cz:=[true,false,true] },p2,{},p2,p2,p2,p8,{ cz:=[true,false,true] },p2,{},p2,{ cz:=[true,false,true] },p2,{},p2,p2,p2,p2,p8,{ cz:=[true,false,true] }],[],[{},p2,{ mode:=3 },p2,{ mode:=3 },p2,{ mode:=3 },p2,{ mode:=3 },{ cz:=[true,true,true,true] },p8,p2,p2,{ mode:=3 },{},p8,p8,p2,p2,{ mode:=3 },p2,p8,p8,p2,{ mode:=3 },p8,p2]] }
def abv:dt:={ two:=[(5,[0,1,2,7,3,4,5,6,8],3,7)],ops:=[[{ cz:=[true],mode:=1 }],[{},{ mode:=3 },p2,p2,{},p2,p2,{ cz:=[true,false,true] }],[{ mode:=3 },p2],(p7 [0,1,1,1]),[{},p2,{ mode:=3 },p2],[{},{},{ cz:=[true],mode:=3 },{ cz:=[true,true],mode:=2 },{},{ cz:=[true],mode:=3 },p8,{},{ cz:=[false,true] }],[],(p7 [0,0,1,2]),(p7 [1,1,1]),(p7 [0,1,0,0,1,0,2,2,1,0,1,0,0,2,1,2,1,2,2]),[{ mode:=6 },{},{ mode:=3 },p2,{},p2,p2,p2],[{},{ mode:=3 },p2,{},p2,p2,p2],[{},{ mode:=3 },p2,{},p2,p2,p2],[{},p2,{ mode:=3 },p2,{},p2,p2,p2],[p2,{ mode:=3 },p2,{},p2,p2,p2],[p2,p2,p2,p2,p2,p8,p2,p2,p8,p2,p2,p2,p8,p2,p2,p2,p8,p2,p2,p2,p8,p2,p2,p2,p8,p2,p2,p2,p8,p2,p2,p2,p8,p2,p2,p2,{ mode:=3 },{ mode:=3 },p8,p2,{ mode:=3 },p8,p2]],ih:=[(0,(qb false [5,4,125]))] }
def aby:dt:={ two:=[(4,[0,1,2,3,4,5,7,6,8,9],6,7)],ops:=[[{ cz:=[true],mode:=1 }],[{},{ mode:=3 },p2,p2,{},p2,p2,{ cz:=[true,false,true] }],[{ mode:=3 },p2],[p2,p2,p2,{ cz:=[false,true] },p2],[{},{ cz:=[true],mode:=3 },p2,{},{ cz:=[true],mode:=3 },p2,{},{},{ cz:=[false,true] },{ cz:=[false,true] }],[],(p7 [0,0,1,1,2]),(p7 [1,1,1]),[{},p2,{},p8,p2,{},{ cz:=[false,true] }],[{},{ cz:=[true],mode:=1 },{},p2,{},p2,p8,{},p2,{},p2,p2,p8,p8,p2,p8,{},p8],[{},{ cz:=[true],mode:=1 },{},{},p2,p8,{},p2,p2,p8,p8,p2,p8,{},p8],[{},p2,p2,p2,{ mode:=3 },p2],[{},{ mode:=3 },p2,{},p2,p2,p2],[{},{},{},p2,p2,{ mode:=3 },p2,{},{},p2,p2,p2,p2],[p2,p2,p2,p2,p2,{ cz:=[true,false,true] },p2,{},{ mode:=3 },p2,{ cz:=[true,false,true] },p2,{},{ mode:=3 },p2,{ cz:=[true,false,true] }],[],[{},{ mode:=3 }],[{},{ mode:=3 },p2,{},p2,p2,p2],[p2,{},{},p2,p2,{ mode:=3 },p2,{},{},p2,p2,p2,p2],[p2,p2,p2,p2,p2,{ cz:=[true,false,true] },p2,p2,{},p8,{ cz:=[true,false,true] },p2,p2,{},p8,{ cz:=[true,false,true] },p2,p2,{},p8,{ cz:=[true,false,true] }],[],[{},{ mode:=3 },p2],[{ mode:=3 },p2],[{},{ mode:=3 },p2,{},p2,p2,p2],[p2,p2,p2,p2,p2,{ mode:=3 },p2,{},{},p2,p2,p2,p2],[p2,p2,p2,p2,p8,p2,p2,{},p2,p8,p8,p8,p2,p2,{},p2,p8,p8,p8,p2,p2,p2,p2,p8,p8,p8,p2,{ mode:=3 },p8,p2]],ih:=[(0,(qb false [1,3,1,1,5,4,199]))] }
def abz:dt:={ ops:=[[{ cz:=[true],mode:=1 }],[{},{ mode:=3 },p2,p2,{},p2,p2,{ cz:=[true,false,true] }],[{ mode:=3 },p2],(p7 [1,1,0,1,1,1,2,1]),[{},p2,{},p2,p2,p2,p2,p8,{ cz:=[false,true] },{},p2,p2,p2,p2,p8,{ cz:=[false,true] },p8,p8,{},{ cz:=[false,true] }],[{},p2,p2,{},p8,{},p2,p2,{},p8,p8,p2,{},{ cz:=[false,true] }],[],(p7 [0,0,1,1,2]),(p7 [1,1,1]),[{},{ cz:=[true],mode:=1 },{},{ cz:=[true],mode:=3 },{},p8,p2,{ cz:=[true],mode:=3 },{},{},{ cz:=[true],mode:=3 },{},p8,p2,{ cz:=[true],mode:=3 },p8,p8,{},{ cz:=[true],mode:=3 },{},p8,p2,{ cz:=[true],mode:=3 },p8,p2,p8,{},p8],[{},p2,p2,p2,{ mode:=3 },p2],[{},{ mode:=3 },p2,{},p2,p2,p2],[{},{ mode:=3 },p2,{},p2,p2,p2],[p2,{},{ mode:=3 },p2,{},p2,p2,p2],[p2,{},{ mode:=3 },p2,{},p2,p2,p2],[p2,p2,p2,p2,p2,{ cz:=[true,false,true] },p2,p2,p2,{ cz:=[true,false,true] },p2,p2,p2,{ cz:=[true,false,true] },p2,p2,{},p8,{ cz:=[true,false,true] },p2,p2,{},p8,{ cz:=[true,false,true] }],[],[{},{ mode:=3 },p2],[{ mode:=3 },p2],[{},{ mode:=3 },p2,{},p2,p2,p2],[p2,p2,{ mode:=3 },p2,{},p2,p2,p2],[p2,p2,p2,p2,p8,p8,p2,p2,p2,p8,p2,p2,p2,p8,p8,p2,{ mode:=3 },p8,p2]],ih:=[(0,(qb false [1,1,3,1,5,4,177]))] }
def T8:dt:={ ops:=[[p2],(p7 [1,1,1,1,1])] }
def T':dt:={ ops:=[[],[{ mode:=3 },{ mode:=3 },{ mode:=3 },{},{},{},{ cz:=[false,true] },{ cz:=[false,true] },{ cz:=[false,true] }],[{},{},{ mode:=3 },{ mode:=3 },p2,{},{},{},p2,p2,p2],[{},{},{ mode:=3 },{ mode:=3 },p2,{},{},{},p2,p2,p2],[{},{},{ mode:=3 },{ mode:=3 },p2,{},{},p2,p2],[p2,{},{ mode:=3 },{ mode:=3 },p2,{},{},p2,p2],[{},{ mode:=3 },p2,{},p2,p2,p2],[{},{ mode:=3 },p2,{},p2,p2,p2],[{},{ mode:=3 },p2,{},p2,p2,p2],[{},{},{ mode:=3 },{ mode:=3 },p2,{ mode:=3 },{ mode:=3 },p2,{},{},p2,p2],[{},{},{ mode:=3 },{ mode:=3 },p2,{ mode:=3 },{ mode:=3 },p2,{},{},p2,p2],[{},{},{ mode:=3 },{ mode:=3 },p2,{ mode:=3 },{ mode:=3 },p2,{},{},p2,p2],[p2,{},{ mode:=3 },{ mode:=3 },p2,{},{},p2,p2],[{},{},{ mode:=3 },{ mode:=3 },p2,{},{},p2,p2],[{},{ mode:=3 },p2,{},p2,p2,p2],[p2,p2,p2,p2,p2,{ cz:=[true,false,true] },p2,p2,p2,{ cz:=[true,false,true] },p2,p2,p2,{ cz:=[true,false,true] },p2,p2,p2,{ cz:=[true,false,true] },p2,p2,p2,{ cz:=[true,false,true] },p2,p2,p2,{ cz:=[true,false,true] },p2,p2,p2,{ cz:=[true,false,true] },p2,p2,p2,{ cz:=[true,false,true] },p2,p2,p2,{ cz:=[true,false,true] },p2,p2,p2,{ cz:=[true,false,true] },p2,p2,p2,{ cz:=[true,false,true] },p2,p2,p2,{ cz:=[true,false,true] }],[],[p2,{},{ mode:=3 },p2,{ mode:=3 },p2,{},{},p2,p2],[p2,p2,p2,p2,p2,p8,p2,p2,p2,p8,p2,p2,p2,p8,p2,p2,{},{ mode:=3 },{ mode:=3 },p8,p2,p2,p2,p8,p2,p2,p2,p8,p2,p2,p2,p8,p2,p2,p2,p8,p2,p2,p2,p8,p2,p2,{},{ mode:=3 },{ mode:=3 },p8,p2]] }
def Uc:dt:={ ops:=[[p2],[{},{ mode:=3 },p2,{},p2,p2,p2],[{},p2],(p7 [1,0,1]),[p2,p2,{ mode:=3 },{},p2,p2,p2]] }
def Ue:dt:={ ops:=[[p2],[{},{ mode:=3 },p2,{},p2,p2,p2],[{},p2],(p7 [1,0,1]),[p2,p2,{ mode:=3 },p2]] }
def Uf:dt:={ ops:=[[p2],[p2,{ mode:=3 },p2,{},p2,p2,p2],[{},p2],(p7 [1,0,1]),[{},p2,{},{ cz:=[false,true] }],[p2,{ mode:=3 },{ mode:=3 },p2],(p7 [1,1,0,1])] }
def QI:dt:={ ops:=[[p2],[{},{ mode:=3 },p2],[p2,{ mode:=3 },{},p2],[{},p2,p2,{ mode:=3 },p2],[{},{},{ mode:=3 },p2],[{},{ mode:=3 },p2],(p7 [0,1,1]),[p2,{ mode:=3 },p2],[{},{},{ mode:=3 },p2],(p7 [0,0,2]),(p7 [0,1,1,1]),[p2,p2]],ih:=[(0,(qb false [1,1,2,3,29]))] }
def JQ:dt:={ ops:=[[p2],[p2,{ mode:=3 },p2,{},p2,{},{ cz:=[false,true] },p2],[{},p2],(p7 [1,0,1]),[],[{},{ mode:=3 }],[p2],[p2,p2,{ mode:=3 },p2],(p7 [0,1,2]),[p2,p2]] }
def QJ:dt:={ ops:=[[p2],[{},{ mode:=3 },p2],[p2,{ mode:=3 },{},p2],[],[{},p2,p2,{ mode:=3 },p2],(p7 [0,1,1]),[p2,{ mode:=3 },p2],[{},{},{ mode:=3 },p2],(p7 [1,1,1]),[p2,p2]],ih:=[(0,(qb false [1,1,2,2,21]))] }
def QK:dt:={ ops:=[[],(p7 [0,1,0,1,2]),[],[],(p7 [0,0,1,2]),(p7 [1,1,1]),(p7 [0,0,2,1,0,0,2,1,2]),[],[]],ih:=[(0,(qb false [0,2,3,1,20]))] }
def Ug:dt:={ ops:=[[{ cz:=[true],mode:=1 }],[{},{},p2,{ mode:=2 },p2,{},p2,p2,p2],[{},p2],(p7 [1,0,1]),[],[{},{},p2,p2,p2,p2,{ mode:=2 },p2,p2,p2,p8],[],[],[{},p2,{},{ cz:=[false,true] }],[p2,{},p2,p2,p2,{},p2,p2,{ mode:=3 },p2,p2,{},p2,{ mode:=3 },{ cz:=[true,false,true] }],[],[{},p2,p2,p2,p2,{},p2,{},p2,{},{ cz:=[true],mode:=13 },p2,p8,{ cz:=[true,true],mode:=13 },p2],[p2,p2],[p2,p2,{ mode:=6 },p2],[],(p7 [1,1,1])],ih:=[(0,(qb false [1,3,4,1,1,1,22,3,38]))] }
def QL:dt:={ ops:=[[p2],[{},{},{ mode:=3 },p2],[p2,p2,{ mode:=3 },{},p2],[],(p7 [0,0,1,2]),(p7 [1,1,1]),[{},{},p8,p2,{},{ cz:=[false,true] }],[{},p2,p2,p2,{},p2,{},p2,p2,p8,{ cz:=[false,false,true] },p2,{},p2,p2,{},p2,{},{},p2,p8,p2,p2,p8,{ cz:=[false,true] },{ cz:=[false,false,true] },p2,{},p2,{ mode:=3 },p2,{ cz:=[false,false,true] }],[],[p2,{},{ mode:=3 },p2,{ mode:=3 },p2],[],(p7 [1,1,1])],ih:=[(0,(qb false [1,3,4,1,58]))] }
def Uh:dt:={ ops:=[[p2],[p2,p2,{ mode:=3 },p2,{},p2,p2,p2],(p7 [1,1,1,1,1])] }
def Ui:dt:={ ops:=[[p2],[{},{},{ mode:=3 },p2],[p2,p2,{ mode:=3 },{},p2],[p2,p2,{ mode:=3 },p2]] }
def OC:dt:={ ops:=[[{ cz:=[true],mode:=1 }],[p2,{},p2,{ cz:=[false,true,true],mode:=8 },p2,{},p2,p2,p2],[{},p2],(p7 [1,0,1]),[{},{},{ cz:=[false,true,true],mode:=1 },p2,p2,{ cz:=[false,true,true],mode:=1 },p8,{ cz:=[false,true],mode:=1 },{ cz:=[true],mode:=1 }],[{},{ cz:=[false,true],mode:=1 }],[{},p2,{ cz:=[false,true] },p2],(p7 [0,1,2]),[p2,p2]] }
def JR:dt:={ ops:=[[{ cz:=[true],mode:=1 }],[p2,{ cz:=[false,true],mode:=8 },p2,{},p2,{},{ cz:=[false,true] },p2],[{},p2],(p7 [1,0,1]),[],[{},{ cz:=[false,true],mode:=9 }],[p2],[],[],(p7 [0,0,1,1,1]),[{},{ cz:=[false,true] },p2,p2],[{},{},{},p2,{ cz:=[false,true] },{ cz:=[false,true,true,true],mode:=1 },p2,{},p2,p2,p2],[{},{},{},p2,p2,p2,{ cz:=[false,true,true,true,true],mode:=1 },p2,{},p2,p2,p2],(p7 [1,1,1,2]),[p2,{ cz:=[false,true] },p2],[p2,p2],(p7 [0,0,2]),[],[],[p2],[],(p7 [0,0,1,1]),[p2,p2],[{},{},p2,p2,p2,{ cz:=[true,true,true] },p2,p2,p8,p2],[p2,p2],[p2,p2]],ih:=[(2,(qb false [4,1,1,2,20,3,55])),(4,(qb false [14,1,53,2,16]))] }
def Na:dt:={ ops:=[[p2],[{},{ mode:=3 },p2],[p2,{ mode:=3 },{},p2],(p7 [0,1,1,1]),[],[{},{ mode:=3 },p2],(p7 [0,1,1]),[p2,{ mode:=3 },p2],[{},{},{ mode:=3 },{},{},{ mode:=3 },p2,p2],[],(p7 [0,0,2]),(p7 [1,1,1]),[{},{},{},p8,p2,p8,p2,p2,p2,{},p2,p2,p2,{},{ cz:=[false,true] },p2,{},{},{},{ cz:=[false,true] },{ mode:=3 },{ cz:=[false,true] },p2,{},p2,p2,p2,{},{ cz:=[false,true] },p2,{},{},{},{ cz:=[false,true] },{ mode:=3 },{ cz:=[false,true] },{ cz:=[false,false,true] },{ cz:=[false,true] }],[p2,{},{},p8,p2,{ cz:=[false,true] },p8,p2],[],[],(p7 [0,0,2]),(p7 [1,1,1]),(p7 [0,0,2,1,1]),(p7 [1,0,1,2,1]),[p2,p2]],ih:=[(0,(qb false [1,1,2,3,91])),(2,(qb false [1,1,2,6,88])),(4,(qb false [4,2,4,2,86]))] }
def abo:dt:={ ops:=[[p2],[{},{ mode:=3 },p2,p2,p2,{ mode:=3 },p2,p8,p2]] }
def abp:dt:={ ops:=[[p2],[{},{ mode:=3 },p2,{},p2,p2,p2],[{},{ mode:=3 },p2,{},p2,p2,p2],[p2,p2,p2,p2,p2,{ cz:=[true,false,true] },p2,{},{},p2,p2,{ mode:=3 },p2,{ cz:=[true,false,true] }],[p2,p2],[{},{},{ mode:=3 },p2,{},p2,p2,p2],[{},p2,p2,p2,p2,{},p8,p8,p2,p2,p2,{ mode:=3 },p2,p8,p8,p2,p2]] }
def abq:dt:={ ops:=[[],[],[],(p7 [0,0,2]),(p7 [1,1,1]),(p7 [1,0,1,2,1]),[],(p7 [0,1,1]),(p7 [1,1,1]),[],(p7 [0,1,1]),(p7 [0,0,0,1,2,2,1,1,0,1,2,1]),(p7 [1,0,0,2,1,1,2,1]),(p7 [0,0,0,2,2,0,0,1,2,2,1]),[p2,p2]],ih:=[(0,(qb false [0,2,3,3,48])),(2,(qb false [1,1,3,2,1,1,47]))] }
def Uj:dt:={ ops:=[[p2],[p2,{},p2,{ mode:=3 },p2,{},p2,p2,p2],[{},p2],(p7 [1,0,1]),[p2,p2,{ mode:=3 },p2]] }
def Ul:dt:={ ops:=[[p2],[{},{},p2,{ mode:=3 },p2,{},p2,p2,p2],(p7 [0,1,1]),(p7 [1,0,0,1]),[{},p2,p2,p2,p2,p2,{},p2,{ mode:=3 },p2,p2],[],[p2,p2,p2,{ mode:=3 },{},{ cz:=[false,true] }],(p7 [0,1,0,1,1,1])] }
def abr:dt:={ ops:=[[],(p7 [0,1,1,2,1])] }
def QM:dt:={ ops:=[[],[],[],(p7 [0,0,2]),(p7 [1,1,1]),(p7 [1,0,1,2,1]),[p2,p2]],ih:=[(0,(qb false [0,1,2,2,10]))] }
def Um:dt:={ ops:=[[],[{},{ mode:=3 },{ cz:=[false,true] }]] }
def Un:dt:={ ops:=[[],[{},{ mode:=3 },{ cz:=[false,true] }]] }
def Uo:dt:={ ops:=[[],[{},{ mode:=3 },{ cz:=[false,true] }]] }
def Up:dt:={ ops:=[[],[p2,p2]] }
def Uq:dt:={ ops:=[[],[p2,p2]] }
def Ur:dt:={ ops:=[[],[p2,p2,p2,p8,p8,{ cz:=[false,true] }]] }
def QN:dt:={ ops:=[[p2],[],(p7 [0,1,1,1]),(p7 [0,0,1,1,2]),(p7 [1,1,1]),[{},{},{},{ mode:=3 },{},{},{},{ mode:=3 },p2,p2],[p2,{},p2,p2,{},p2,p2,{ cz:=[true,true,true,true,true] },p2],[p2,p2]],ih:=[(0,(qb false [1,2,2,2,29]))] }
def Kt:dt:={ ops:=[[p2],[{},{ mode:=3 },p2],[{},p2],(p7 [1,0,1]),[p2],[],(p7 [0,1,1]),[{},{ mode:=3 },{ mode:=3 },p2],[p2],[],(p7 [0,0,1,1,1]),(p7 [1,1,2]),[],[p2,p2],(p7 [1,1,0,1,1,2]),[],[p2,p2],(p7 [1,0,2,1,1])],ih:=[(0,(qb false [2,1,14,3,28])),(2,(qb false [2,1,5,1,8,3,6,3,19]))] }
def Ut:dt:={ ops:=[[],[],(p7 [0,1,1,1,1,1,0,1,1,1,1,1,2]),[],(p7 [0,1,1]),[{},{},p2,{ mode:=3 }],[],[{},p2],[p2,{},p2,p2,{ cz:=[true,true,true] },p2],[p2,p2],[p2,p2],[p2,p2]],ih:=[(0,(qb false [0,2,3,1,16,3,18])),(2,(qb false [0,2,3,1,16,3,6,2,10]))] }
def Uu:dt:={ ops:=[[],(p7 [1,0,1])] }
def Uv:dt:={ ops:=[[p2],[p2,p2]] }
def QO:dt:={ ops:=[[],(p7 [0,1,1,1]),[p2,p2],[],(p7 [0,1,1]),[{},{},{},{ mode:=6 }],[p2,p2],[p2,p2],[p2,p2]],ih:=[(0,(qb false [1,1,3,1,6,3,10]))] }
def Uw:dt:={ ops:=[[],[{},p2,{ mode:=3 },{},p2,{ mode:=3 },p8,p2]] }
def OD:dt:={ ops:=[[p2],(p7 [0,1,1,1]),(p7 [0,1,1,0,1,2,1,0,1,2]),[],[],(p7 [0,0,2]),(p7 [1,1,1]),[{},p2,{},p8,p2,{ mode:=3 },p2],[],[{},p2,p2,p2,p2,{},p2,p2,{},p2,p2,p8,{ cz:=[true,false,true] },p2,p2,p2,p2,p2,{ cz:=[true,false,true] }],[],[]],ih:=[(0,(qb false [1,1,1,2,44]))] }
def Ux:dt:={ ops:=[[p2],[{},{},{},p2,p2,{ mode:=3 },{},{},{},p2,p2,{ mode:=3 },p2,p2],[{},{},{},p2,p2,{ mode:=3 },{},{},{},p2,p2,{ mode:=3 },p2,p2],[{},p2,p2,{},p2,p2,{},p2,p2,{},p2,p2,{ cz:=(qb false [0,8]) },p2]] }
def Nb:dt:={ ops:=[[],(p7 [0,1,1]),(p7 [0,1,1]),[{},p2],(p7 [1,1,1]),(p7 [0,0,2,1,0,0,1,2,1,2]),[],(p7 [0,1,1]),(p7 [0,0,2]),(p7 [1,1,1]),[{},{},p8,p2,{},{},p8,p2,p8,p2,{},p2,p2,{},{},p8,p2,{},p8,{ cz:=[false,false,true] },{ cz:=[false,true] }],(p7 [0,0,2,1,1]),(p7 [0,1,1,2,2,1,1,2,1]),[],(p7 [0,0,2]),(p7 [1,1,1]),[{},{},{ mode:=3 },p2],(p7 [1,0,1,2,1]),[p2,p2],[]],ih:=[(0,(qb false [0,1,2,2,76])),(2,(qb false [0,1,2,4,74])),(4,(qb false [3,1,3,2,72]))] }
def Uy:dt:={ ops:=[[],[{},p2],[],[{},p2,p8,{ cz:=[true],mode:=1 }]] }
def UA:dt:={ ops:=[[p2,p2],[p2,p8,{ mode:=6 },p2,p2]] }
def UB:dt:={ ops:=[[p2],[{},p2,p2,{ mode:=3 },p2,p2,p2,p2,p2,{ mode:=3 },p2,{ cz:=[true,false,true] },p2]] }
def QP:dt:={ ops:=[[p2],[{},{ mode:=3 },p2],[p2,{ mode:=3 },p2],(p7 [0,1,0,1,1,2]),[],[],(p7 [0,0,1,2]),(p7 [1,1,1]),[{},{},p8,p2,p2,p2,{},{},p8,p2,{},p2,p2,p8,{ cz:=[false,false,true] },p2,{},{},p8,{},{},p8,p2,{ mode:=3 },{ cz:=[false,false,true] }],[],[]],ih:=[(0,(qb false [1,2,2,1,42]))] }
def UC:dt:={ ops:=[[p2],(p7 [0,1,1,1,0,1,1,2,1,0,1,1,2,1,1,1,1,2,1])] }
def QQ:dt:={ two:=[(1,[0,1,2,7,3,4,5,6,8],3,7)],ops:=[[{ cz:=[true],mode:=1 }],[{},{},{ cz:=[true],mode:=3 },{ cz:=[true,true],mode:=2 },{},{ cz:=[true],mode:=3 },p8,{},{ cz:=[false,true] }],[],(p7 [0,0,1,2]),(p7 [1,1,1]),(p7 [0,1,0,0,2,1,1,0,0,2,1,1,2,2]),[p2,{ cz:=[false,true] }]],ih:=[(0,(qb false [1,1,2,3,27]))] }
def UD:dt:={ ops:=[[p2],[{},{},{ mode:=3 },{},{},{ mode:=3 },p8,p2]] }
def UE:dt:={ ops:=[[],[],[],[],(p7 [0,1,1]),(p7 [1,1,1,2,1]),[{},p2],[{},p2],[p2,p2],(p7 [1,0,1]),[p2],[],(p7 [0,1,1]),(p7 [1,1,2,1]),[p2,p2],[p2,p2]],ih:=[(0,(qb false [0,1,2,1,5,3,24])),(2,(qb false [6,1,18,3,8]))] }
def K5:dt:={ ops:=[[],[{},{},{},{ cz:=[false,true,true,true],mode:=1 },p2,{},p2,p2,p2],[p2],[],[],[{},p2],[],[{},p2],(p7 [0,1,0,2]),[{},{},{},{},p2,{ cz:=[false,true,true,true,true],mode:=1 },p2,{},p2,p2,p2],[p2],[p2,p2],[{},{},{ cz:=[false,true,true],mode:=9 },p2],(p7 [1,1,1,2,1]),[p2,p2],[],[p2],[],(p7 [0,1,1]),(p7 [1,0,0,2,1,0,1,1,1,1,0,0,1,1,0,2,2,1,2,1,2,1,2,1]),[p2,p2],[p2,p2]],ih:=[(0,(qb false [0,3,6,1,15,2,57])),(2,(qb false [0,2,11,1,39,3,28]))] }
def UF:dt:={ ops:=[(p7 [0,1,1]),[p2,{},p2,p2,{ mode:=3 },p2,{ cz:=[false,true,false,true,true,true],mode:=1 }]] }
def UG:dt:={ ops:=[[p2,p2],(p7 [1,1,1,1,2,1])] }
def L5:dt:={ ops:=[[],[{},{},p2,{},{ cz:=[false,true,true,true,true],mode:=9 },{},{ cz:=[false,true] }],(p7 [0,1,1,1,1,1,0,1,1,1,1,1,2,1]),(p7 [0,1,1]),[{},{},p8,p2,p2,p2,{},p2,{},p2,p2,p2,p2,p2,p2,p2,p8,p8,p2,{ cz:=[false,true] },{ cz:=[false,false,true] },{},p2],[{},p2,p2,p2,{},{},p2,p2,{ cz:=[false,true,true],mode:=9 },p8,p2,{},{},p2,p2],[p2,p2],[{},{},{},p2,p2,{ cz:=[false,true,true],mode:=9 },{ mode:=2 },p2],[{},p2,p2,p2,{},{},p2,p2,{ cz:=[false,true,true],mode:=9 },{},{ cz:=[true,true,true] }],[{},p2,p2,{},p2,p2,p8,{},{ cz:=[false,true] }],[p2],[{},p2,p2,{},p2,p2,p2,p2,p2,p2,p2,p8,p8,p2,{ cz:=[false,true] }],[p2,p2,p8,p2,{},p2,{},{ cz:=[false,true] },p2],[p2,p2],[],(p7 [1,1,1,1,2,1,1,2,1,1])] }
def QR:dt:={ ops:=[[p2],[],[],[p2,p2],(p7 [0,0,1,2]),(p7 [1,1,1]),[{},p2,{},{},p8,p2,p8,p2,{},{},p2,{ mode:=3 },{},{ cz:=[false,true] },p2],(p7 [0,0,2,1,1]),(p7 [1,1,1,2,1]),(p7 [1,0,0,1,2,2,1,0,0,1,2,2,1,1]),(p7 [0,1,1,1]),(p7 [0,1,1,1,2]),[p2,{},{ cz:=[false,true] },{},{ cz:=[false,true] },{ cz:=[false,true] },p2,p2,p2,p2,p8,p8,{ mode:=3 },p2],[{},p2,p2,{ mode:=3 },p2,p2,p2,p2,{ mode:=3 },p8,p2]],ih:=[(0,(qb false [1,1,1,2,4,4,74]))] }
def abu:dt:={ ops:=[[],(p7 [0,1,0,2]),[],[],(p7 [0,0,2]),(p7 [1,1,1]),[{},{},p8,p2,p2,p2,{},{},p8,p2,{},p8,{ cz:=[false,false,true] },p2,{},{},p8,{},{},p8,p2,{ mode:=3 },{ cz:=[false,false,true] }],[],[]],ih:=[(0,(qb false [0,2,3,1,32]))] }
def UH:dt:={ ops:=[[],[],[{},p2],[],[],[{},p2],[{},{},{},{ mode:=3 },{},{ cz:=[false,true] }],[p2,{},p2,p2,p2,{},p8,p8,{ cz:=[false,true] },p8],[p2,p2],[p2,{ cz:=[false,true] }]],ih:=[(0,(qb false [0,3,3,2,3,1,17]))] }
def QS:dt:={ ops:=[[],[p2,p2,p8,p2,{},{ cz:=[false,true] }],[],(p7 [0,1,0,1,2]),(p7 [1,1,1]),[{},{ cz:=[true],mode:=1 },{},{},p8,p2,{},{},p2,p8,p2,p8,p2,p8,{},p8],[p2,{ cz:=[false,true] }]],ih:=[(0,(qb false [2,1,3,3,27]))] }
def QT:dt:={ ops:=[[p2],[],[],(p7 [0,0,1,2]),(p7 [1,1,1]),(p7 [0,1,0,2]),[{},p2,{},{},p8,p2,p8,p2,{},{ cz:=[false,true] }],[p2,{},{},p2,{ mode:=3 },{},p2,{},p2,{},p8,p8,p8,p8,p2],[p2,p2]],ih:=[(0,(qb false [1,4,4,2,34]))] }
def QU:dt:={ ops:=[[p2],[{},p2,p2,p2,{ mode:=3 },p2,p2,{},p2,p2,p2,p2,{ cz:=[true,false,true] },p2],[],[{},p2,{ mode:=3 },p2,{},p2,p2,{},p2,p2,p8,{ mode:=3 },p2,{ cz:=[true,false,true] },p2,{},p2,p2,p2,p2,p2,p8,{ cz:=[true,false,true] },p2],[],[]] }
def UI:dt:={ ops:=[[],(p7 [1,0,1]),[{ cz:=[true],mode:=1 },{ cz:=[false,true],mode:=1 }],[{ cz:=[true],mode:=2 },p2]] }
def UJ:dt:={ ops:=[[p2],[p2,p2]] }
def JS:dt:={ ops:=[[p2],[p2],[p2],[{ mode:=1 },p2,p2,p8,p8],[{ cz:=[true],mode:=1 },p2]] }
def UK:dt:={ ops:=[[p2],[],[],[{ cz:=[true,true,true] },{ cz:=[false,true] }],[p2,{ cz:=[true],mode:=1 }]] }
def Ku:dt:={ ops:=[[],(p7 [0,1,0,1,1,1,1,1,2]),[p2,p2,{ cz:=[true,true],mode:=1 },p2],(p7 [1,1,1,1,1,1]),[],[{},p2],[{},{ cz:=[false,true] },p2,p2],[{},{ cz:=[false,true] },p2],[{},{},{},p2,{},p2,{ cz:=[true,true,true] },{},p2,p8,{ cz:=[true,true],mode:=1 },p2],[p2,{ cz:=[false,true] },p2],[p2,p2],[],[p2,p2],[]],ih:=[(0,(qb false [0,1,2,2,21,2,24]))] }
def QV:dt:={ ops:=[[],[],(p7 [0,0,1,2]),(p7 [1,1,1]),(p7 [0,0,2,1,0,2]),[],[]],ih:=[(0,(qb false [0,2,3,1,12]))] }
def UL:dt:={ ops:=[[],[p2,p2,{ mode:=6 },p2,p2]] }
def UM:dt:={ ops:=[[],[{},p2,p8,p2,p2,p2,p8,{ cz:=[true,false,true] },p2]] }
def Nc:dt:={ ops:=[[p2],[],[{},p2],(p7 [1,1,1]),[],[{},{},p2,{ cz:=[false,true] },p8],(p7 [1,1,1]),[],[],(p7 [0,0,1,2]),(p7 [1,1,1]),[p2,p2,{},{},p8,p2,p2,p2,{},p2,{},p8,{ cz:=[true,false,true] },p8,p2],[p2,p2,{},{ mode:=3 },{},p8,p8,p2,{},{},{},{},{ mode:=3 },p8],[p2,p2],[]],ih:=[(0,(qb false [1,3,3,1,49])),(2,(qb false [1,3,3,2,48])),(4,(qb false [1,3,3,4,46]))] }
def abw:dt:={ ops:=[[],[{},p2],[{},p2],(p7 [1,0,1,0,1,2,2,1]),[{},p2],(p7 [0,0,1,2,1,2,1,1,2,1]),[p2,p2]] }
def UN:dt:={ ops:=[[],(p7 [1,1,1,1,1,1,1,1,2,1])] }
def UO:dt:={ ops:=[[],[],(p7 [0,0,2,1]),[{},p2],[p2,p2,p2,p2,{ cz:=[false,true,true,true,true],mode:=1 }],[{},p2],[p2,p2,p2,p2,{ cz:=[false,true,true,true,true],mode:=1 }],[{},p2],[{},{},{},{},{ cz:=[false,true,true,true,true],mode:=1 }],(p7 [1,1,1]),[{},{},{},{},{ cz:=[false,true,true,true,true],mode:=1 },p2,{},p2,p2,p2],[{},p2],[{},{},{},{},{ cz:=[false,true,true,true,true],mode:=1 }],(p7 [0,1,1,0,2,2,1]),[],(p7 [0,1,0,2,1,1,1,2]),[{},{},{},{},{ cz:=[false,true,true,true,true],mode:=1 }],[{},p2,p2,{},{},{},p2,p8,p2,{},{},p8,p2,{ mode:=6 },p2,p2,{ cz:=[false,true] }],[{},p2,{},p2,{},{ cz:=[false,true,true,true,true,true],mode:=1 },p2],[p2,p2],[{},{},{},p2,{},{ cz:=[false,true,true,true,true,true],mode:=1 },p2,{},p2,p2,p2],[p2,p2],(p7 [0,0,2,0,0,2,1,1]),(p7 [1,1,1]),(p7 [0,0,2]),(p7 [1,1,2,1]),[{},p2,{},{},{},{ cz:=[false,true,true,true,true,true],mode:=1 }],(p7 [1,1,1]),(p7 [1,1,2,1]),[{},{},p2,p2,{},{},{ cz:=[false,true,true,true,true,true],mode:=1 }],[p2,p2]],ih:=[(0,(qb false [0,5,5,2,136]))] }
def abx:dt:={ ops:=[[],[p2,p2,{ mode:=3 },p2],[p2,{ mode:=3 },p2]] }
def QW:dt:={ ops:=[[],[],[p2],[],(p7 [0,0,1,1,1]),[{},p2,{},p8,p2,{},{},{ mode:=3 },{ cz:=[true,false,true] }],[{},p2,p2,p2,p2,p2,p8,p2,{},{ cz:=[false,true] }],[{},p2,{},{},{ mode:=3 },{},p2,p8,p8,{},p8],[{},p2,{},p2,{ mode:=3 },p2,p2,p8,p8,{},p8],[p2,p2],[p2,{ cz:=[false,true] }]],ih:=[(0,(qb false [0,1,1,2,4,2,3,3,43]))] }
def K6:dt:={ ops:=[[],[{},p2],[],[{},p2],(p7 [1,1,1]),[],[{},p2],(p7 [1,1,1]),[{},{},p8,{},{},p8,p8,{},{ cz:=[false,true] }],(p7 [0,1,1,1,1,1,0,1,1,1,1,1,2]),[{},{},{},{},p2,p2,p2,p2,p2,p8,p8,p8,p2,{ cz:=[false,true] }],[{},p2,{},{},p8,{ cz:=[true,true,true] }],[{},p2],[{},{},p2,p2,p2,p2,p2,p2,{ mode:=3 },p2],[],(p7 [0,1,1,1,1]),[],[{},p2,{},{ cz:=[false,true] }],(p7 [0,1,0,1,0,1,1,1,1,1,2,2,1]),[p2,{},p2,p2,{},p2,p2,{ cz:=[true,true,true] },p8,p8,p2],[p2,p2],[{},p2],[{},p2],[{},p2,{},{ cz:=[false,true] }],[{},p2,{},{},p2,p2,{ mode:=3 },p2],(p7 [0,1,2]),[p2,p2]],ih:=[(0,(qb false [0,2,3,2,116])),(2,(qb false [0,2,3,3,115])),(4,(qb false [0,1,4,1,3,2,66,3,43])),(6,(qb false [5,1,4,1,96,1,15]))] }
def UQ:dt:={ ops:=[[],(p7 [1,1,1,2,1])] }
def QX:dt:={ ops:=[[],(p7 [0,1,1]),(p7 [1,1,1]),(p7 [0,1,1]),(p7 [1,1,1,1]),[{},p2,p2,{},{},p8,p2,p8,p2,{},{},p8,p2,p8,p8,p2,{},{},p8,p2,p8,p8,p2,p2,p2,p2,p2,p2,p8,{ cz:=[true,false,true] },p2],[{},p2],(p7 [0,0,2]),(p7 [1,1,1]),[{},p2,{},{},{},{},p2,p2,{},p8,p8,{ mode:=3 }],[],[]],ih:=[(0,(qb false [0,4,6,1,59]))] }
def UR:dt:={ ops:=[[],[p2,p2,{ mode:=6 },p2,p2]] }
def US:dt:={ ops:=[[],(p7 [1,0,1])] }
def UT:dt:={ ops:=[(p7 [0,1,1]),[p2,{},p2,p2,{ mode:=3 },{ cz:=[false,true,false,true,true],mode:=1 }]] }
def UU:dt:={ ops:=[[p2],[],(p7 [0,1,1]),[{},p2,{ cz:=[true,true],mode:=1 },p2],[p2,p2]],ih:=[(0,(qb false [0,1,4,3,8]))] }
def QY:dt:={ ops:=[[],[{},p2],[],[{},p2],[{},{},{},p8,p2,{ mode:=6 }],[p2,p2],[p2,p2],[]],ih:=[(0,(qb false [0,2,5,2,10]))] }
def QZ:dt:={ ops:=[[],[],[],[{},p2],(p7 [1,1,1]),(p7 [1,0,0,2,1,2,1]),[p2,p2]],ih:=[(0,(qb false [0,1,2,2,11]))] }
def UW:dt:={ ops:=[(p7 [0,1,1]),(p7 [0,0,2]),(p7 [1,1,1]),[{},p2],[{},{},p8,p2,{},{},{},p8,p2,{},{},p2,p8,p2,{ mode:=6 },p2,{ cz:=[false,true] }],(p7 [1,1,1]),(p7 [0,0,0,0,1,0,0,1,2,1,0,0,2,1,2,2,2,2])],ih:=[(0,(qb false [0,4,4,1,44])),(2,(qb false [0,4,4,2,43]))] }
def abA:dt:={ ops:=[[{},p2],[],(p7 [1,1,2,1]),(p7 [0,1,1,1]),[{},p2],(p7 [1,1,1]),[{},{},{},{},{},{ cz:=[false,true,true,true,true,true],mode:=1 }],(p7 [1,1,1]),[{},p2],(p7 [1,1,1]),(p7 [0,0,0,0,0,2,0,0,0,2,2,1,0,0,2,1,2,2,2,2]),[{},{},{},{},{},{ cz:=[false,true,true,true,true,true],mode:=1 }]],ih:=[(0,(qb false [0,1,2,1,4,4,48])),(2,(qb false [0,1,2,1,4,2,2,1,47]))] }
def abB:dt:={ ops:=[(p7 [1,0,2,1]),[{},p2],[{},p2,{},{ cz:=[false,true] }],[{},{ mode:=3 },p2],(p7 [0,0,1,1,2,1,1]),(p7 [0,0,0,1,1,2,1,2]),(p7 [1,1,1]),[{ mode:=1 },{},p2,p8,p2,p2],(p7 [0,0,2]),(p7 [1,0,2,1]),(p7 [0,0,0,0,0,2,0,0,0,2,2,1,0,0,2,1,2,2,2,2])],ih:=[(0,(qb false [0,2,6,4,55]))] }
def abC:dt:={ ops:=[[],(p7 [1,0,2,1]),[],(p7 [0,0,1,1,2,1]),(p7 [0,0,1,1,2,1]),(p7 [1,0,1,1,2,1]),[{},p2],[p2,p2],[{},p2,{},{ cz:=[false,true,true,false,true],mode:=1 },p2],[{},p2,{},{ cz:=[false,true,true,false,true],mode:=1 },p2],[{},p2,{},{ cz:=[false,true,true,false,true],mode:=1 },p2],[p2,p2,p2,p2,p2,{ cz:=[false,true,true,true,true,false,true],mode:=1 },p2],[p2],[p2,p2],[{},p2],[p2,p2],[p2,p2],[p2,p2]] }
def abD:dt:={ ops:=[[p2,p2],(p7 [1,1,1]),(p7 [0,0,2]),(p7 [0,0,0,0,0,0,2,1,0,0,2,1,2,2,2,2]),(p7 [1,1,1]),(p7 [1,1,1])],ih:=[(0,(qb false [0,1,7,2,24]))] }
def abE:dt:={ ops:=[[],(p7 [0,1,1]),[],[{},p2],(p7 [1,1,1]),[{},{},p8,p2,{},{},{},p8,p2,{},{},p2,p8,p2,{ mode:=6 },p2,p2,{ cz:=[false,true] }],(p7 [1,1,1]),(p7 [0,0,2]),[],(p7 [0,0,2,1]),[],(p7 [0,0,0,0,1,0,0,1,2,1,0,0,2,1,2,2,2,2]),(p7 [0,0,2,1]),(p7 [0,1,1]),[{},p2],(p7 [1,1,1]),[{},{},{},p8,p2,{},{},p2,p8,p2,{ mode:=6 },p2,p2],(p7 [0,0,0,0,1,0,0,1,2,1,0,0,2,1,2,2,2,2]),(p7 [0,0,2,1]),(p7 [0,1,1]),(p7 [0,0,2]),(p7 [1,1,1]),[{},{},{},p8,p2,{},{},p2,p8,p2,{ mode:=6 },p2,p2],(p7 [0,0,0,0,1,0,0,1,2,1,0,0,2,1,2,2,2,2]),[]],ih:=[(0,(qb false [0,4,5,2,130])),(2,(qb false [0,4,5,2,130])),(4,(qb false [0,4,5,3,129])),(6,(qb false [0,4,5,2,1,1,128]))] }
def abF:dt:={ ops:=[[],(p7 [0,0,0,0,0,0,2,1,0,0,2,1,2,2,2,2]),(p7 [0,1,1,1,1,1]),[{},{},p8,p2,{},{},{},p8,p2,{},{},p8,p2,{ mode:=6 },p2,p2,{ cz:=[false,true] }],(p7 [1,1,1]),[{},{},p8,p2,{},{},{},p8,p2,{},{},p8,p2,{ mode:=6 },p2,{ cz:=[false,true] }],(p7 [1,1,1]),(p7 [0,0,2]),(p7 [0,0,0,0,0,0,2,1,0,0,2,1,2,2,2,2]),(p7 [1,1,1]),(p7 [1,1,1]),[p2,p2]],ih:=[(0,(qb false [0,2,2,1,6,2,77])),(2,(qb false [0,2,2,1,6,2,77])),(4,(qb false [0,2,2,1,6,2,77]))] }
def abG:dt:={ ops:=[[],(p7 [0,0,0,0,0,0,2,1,0,0,2,1,2,2,2,2]),(p7 [0,1,1,1,1,1]),[{},{},p8,p2,{},{},{},p8,p2,{},{},p8,p2,{ mode:=6 },p2,{ cz:=[false,true] }],(p7 [1,1,1]),[{},{},p8,p2,{},{},{},p8,p2,{},{},p8,p2,{ mode:=6 },p2,p2,{ cz:=[false,true] }],(p7 [1,1,1]),(p7 [0,0,2]),(p7 [0,0,0,0,0,0,2,1,0,0,2,1,2,2,2,2]),[p2,p2],(p7 [0,0,0,0,0,0,2,1,0,0,2,1,2,2,2,2]),(p7 [1,1,1]),(p7 [1,1,1]),[{},{},p8,p2,{},{},{},p8,p2,{},{},p8,p2,{ mode:=6 },p2,{ cz:=[false,true] }],(p7 [1,1,1]),[{},{},p8,p2,{},{},{},p8,p2,{},{},p8,p2,{ mode:=6 },p2,p2,{ cz:=[false,true] }],(p7 [1,1,1]),(p7 [0,0,2]),(p7 [0,0,0,0,0,0,2,1,0,0,2,1,2,2,2,2]),(p7 [1,1,1]),(p7 [1,1,1]),(p7 [0,0,0,0,0,0,2,1,0,0,2,1,2,2,2,2]),[p2,p2]],ih:=[(0,(qb false [0,2,2,1,7,2,164])),(2,(qb false [0,2,2,1,7,2,164])),(4,(qb false [0,2,2,1,7,2,164])),(6,(qb false [0,2,2,1,7,2,164])),(8,(qb false [0,2,2,1,7,2,164]))] }
def abH:dt:={ ops:=[[],[{},p2],(p7 [1,1,1]),[],[{},p2],(p7 [1,1,1]),(p7 [1,1,1]),[p2,p2,p2,{ cz:=[false,true] },p2,p8,p2]] }
def abI:dt:={ ops:=[[],[{},p2],(p7 [1,1,1]),[],[{},p2],(p7 [1,1,1]),(p7 [1,1,1]),[{},p2],(p7 [1,1,1]),(p7 [1,1,1]),[p2,p2,p2,{ cz:=[false,true] },p2,p8,p2]] }
def T9:dt:={ ops:=[[],[p2,p2,{ mode:=3 },p2,p2]] }
def QG:dt:={ ops:=[[],[{},p2],[],[{},p2],[{},{},{},p8,p2,{ mode:=6 }],[p2,p2],[p2,p2],[]],ih:=[(0,(qb false [0,2,5,2,10]))] }
def JP:dt:={ ops:=[[p2],[p2],[p2],[{ mode:=1 },p2,p2,p8,{ cz:=[true,true],mode:=1 }],[{ cz:=[true],mode:=1 },p2]] }
def T_:dt:={ ops:=[[],[],(p7 [0,0,2,1]),[{},p2],[p2,p2,p2,{ cz:=[false,true,true,true],mode:=1 }],[{},p2],[p2,p2,p2,{ cz:=[false,true,true,true],mode:=1 }],[{},p2],[{},{},{},{ cz:=[false,true,true,true],mode:=1 }],(p7 [1,1,1]),[{},{},{},{ cz:=[false,true,true,true],mode:=1 },p2,{},p2,p2,p2],[{},p2],[{},{},{},{ cz:=[false,true,true,true],mode:=1 }],(p7 [0,1,1,0,2,2,1]),[],(p7 [0,1,0,2,1,1,1,2]),[{},{},{},{ cz:=[false,true,true,true],mode:=1 }],[{},p2,p2,{},{},p2,p8,p2,{},{},p8,p2,{ mode:=3 },p2,{ cz:=[false,true] }],[{},p2,{},p2,{ cz:=[false,true,true,true,true],mode:=1 },p2],[p2,p2],[{},{},{},p2,{ cz:=[false,true,true,true,true],mode:=1 },p2,{},p2,p2,p2],[p2,p2],(p7 [0,0,2,0,0,2,1,1]),(p7 [1,1,1]),(p7 [0,0,2]),(p7 [1,1,2,1]),[{},p2,{},{},{ cz:=[false,true,true,true,true],mode:=1 }],(p7 [1,1,1]),(p7 [1,1,2,1]),[{},{},p2,p2,{},{ cz:=[false,true,true,true,true],mode:=1 }],[p2,p2]],ih:=[(0,(qb false [0,4,4,2,124]))] }
def aa7:dt:={ ops:=[[p2,p2],[{},{ cz:=[false,true] },p2,p2],(p7 [0,0,2]),[{},p2,{},p8,p2,{},{},{},{},p8,p8,p2,{},{},{},p8,p2,p8,p2,{ mode:=6 },p2,{ cz:=[false,true] }],(p7 [1,1,1]),[{},{},{},{},p8,p8,p2,{},{},{},p8,p8,p2,{ mode:=6 },p2,p2],(p7 [0,0,0,2,0,0,0,2,0,0,0,2,2,1,0,0,0,2,2,1,2,2,2,2]),[p2,p2]],ih:=[(0,(qb false [0,1,1,3,5,1,71]))] }
def aa8:dt:={ ops:=[[],[p2,p2,{ mode:=3 },{ cz:=[false,true] },p2]] }
def aa9:dt:={ ops:=[[],(p7 [0,0,1,0,1,1,1,2,0,2]),(p7 [0,0,1,0,1,1,1,2,0,2]),(p7 [0,0,1,0,1,1,1,2,0,2]),(p7 [1,1,1,1])] }
def aa_:dt:={ ops:=[[],[p2,{},p2,{},p2,p2,p2,p2,{ cz:=[false,true,true,true,true,true,true],mode:=1 },p2]] }
def aba:dt:={ ops:=[[],[{},p2,p2,{},{},{ cz:=[false,true,true,true,true,true],mode:=1 },p2,{},p2,p2,p2],[{},p2,p2,{},{},{ cz:=[false,true,true,true,true,true],mode:=1 },p2,{},p2,p2,p2],[p2,p2,p2,p2,p2,{ cz:=[false,true,true,true,true,true],mode:=1 },p2,{},p2,p2,p2],[p2,p2]] }
def QH:dt:={ ops:=[[],[{},p2],[],[{},p2],(p7 [0,0,0,2,1,2]),[p2,p2],[p2,p2],[]],ih:=[(0,(qb false [0,2,5,2,10]))] }
def Ua:dt:={ ops:=[(p7 [0,1,1]),(p7 [0,0,2]),(p7 [1,1,1]),[{},p2],[{},{},p8,p2,{},{},p8,p2,{},{},p2,p8,p2,{ mode:=3 },{ cz:=[false,true] }],(p7 [1,1,1]),(p7 [0,0,0,0,1,0,0,1,2,1,0,0,2,1,2,2,2,2])],ih:=[(0,(qb false [0,3,3,1,42])),(2,(qb false [0,3,3,2,41]))] }
def abb:dt:={ ops:=[[{},p2],[],(p7 [1,1,2,1]),(p7 [0,1,1,1]),[{},p2],(p7 [1,1,1]),[{},{},{},{},{ cz:=[false,true,true,true,true],mode:=1 }],(p7 [1,1,1]),[{},p2],(p7 [1,1,1]),(p7 [0,0,0,0,0,2,0,0,0,2,2,1,0,0,2,1,2,2,2,2]),[{},{},{},{},{ cz:=[false,true,true,true,true],mode:=1 }]],ih:=[(0,(qb false [0,1,5,4,46])),(2,(qb false [0,1,5,2,2,1,45]))] }
def abc:dt:={ ops:=[(p7 [1,0,2,1]),[{},p2],[{},p2,{},{ cz:=[false,true] }],[{},{ mode:=3 },p2],(p7 [0,0,1,1,2,1,1]),(p7 [0,0,0,1,1,2,1,2]),(p7 [1,1,1]),[{ mode:=1 },{},p2,p8,p2,p2],(p7 [0,0,2]),(p7 [1,0,2,1]),(p7 [0,0,0,0,0,2,0,0,0,2,2,1,0,0,2,1,2,2,2,2])],ih:=[(0,(qb false [0,2,4,4,55]))] }
def abd:dt:={ ops:=[[],(p7 [1,0,2,1]),[],(p7 [0,0,1,1,2,1]),(p7 [0,0,1,1,2,1]),(p7 [1,0,1,1,2,1]),[{},p2],[p2,p2],[{},p2,{ cz:=[false,true,true],mode:=1 },p2],[{},p2,{ cz:=[false,true,true],mode:=1 },p2],[{},p2,{ cz:=[false,true,true],mode:=1 },p2],[p2,p2,p2,p2,{ cz:=[false,true,true,true,true],mode:=1 },p2],[p2],[p2,p2],[{},p2],[p2,p2],[p2,p2],[p2,p2]] }
def abe:dt:={ ops:=[[p2,p2],(p7 [1,1,1]),(p7 [0,0,2]),(p7 [0,0,0,0,0,0,2,1,0,0,2,1,2,2,2,2]),(p7 [1,1,1]),(p7 [1,1,1])],ih:=[(0,(qb false [0,1,5,2,24]))] }
def abf:dt:={ ops:=[[],(p7 [0,1,1]),[],[{},p2],(p7 [1,1,1]),[{},{},p8,p2,{},{},p8,p2,{},{},p2,p8,p2,{ mode:=3 },p2,{ cz:=[false,true] }],(p7 [1,1,1]),(p7 [0,0,2]),[],(p7 [0,0,2,1]),[],(p7 [0,0,0,0,1,0,0,1,2,1,0,0,2,1,2,2,2,2]),(p7 [0,0,2,1]),(p7 [0,1,1]),[{},p2],(p7 [1,1,1]),[{},{},p8,p2,{},{},p2,p8,p2,{ mode:=3 },p2],(p7 [0,0,0,0,1,0,0,1,2,1,0,0,2,1,2,2,2,2]),(p7 [0,0,2,1]),(p7 [0,1,1]),(p7 [0,0,2]),(p7 [1,1,1]),[{},{},p8,p2,{},{},p2,p8,p2,{ mode:=3 },p2],(p7 [0,0,0,0,1,0,0,1,2,1,0,0,2,1,2,2,2,2]),[]],ih:=[(0,(qb false [0,3,4,2,124])),(2,(qb false [0,3,4,2,124])),(4,(qb false [0,3,4,3,123])),(6,(qb false [0,3,4,2,1,1,122]))] }
def Ub:dt:={ ops:=[[],[{},{ mode:=3 },p2,{},{ mode:=3 },p2,p8,p2,p2,p2,p8,{ cz:=[true,false,true] },p2]] }
def abg:dt:={ ops:=[[],(p7 [0,0,0,0,0,0,2,1,0,0,2,1,2,2,2,2]),(p7 [0,1,1,1,1,1]),[{},{},p8,p2,{},{},p8,p2,{},{},p8,p2,{ mode:=3 },p2,{ cz:=[false,true] }],(p7 [1,1,1]),[{},{},p8,p2,{},{},p8,p2,{},{},p8,p2,{ mode:=3 },{ cz:=[false,true] }],(p7 [1,1,1]),(p7 [0,0,2]),(p7 [0,0,0,0,0,0,2,1,0,0,2,1,2,2,2,2]),(p7 [1,1,1]),(p7 [1,1,1]),[p2,p2]],ih:=[(0,(qb false [0,2,7,2,73])),(2,(qb false [0,2,7,2,73])),(4,(qb false [0,2,7,2,73]))] }
def abh:dt:={ ops:=[[],(p7 [0,0,0,0,0,0,2,1,0,0,2,1,2,2,2,2]),(p7 [0,1,1,1,1,1]),[{},{},p8,p2,{},{},p8,p2,{},{},p8,p2,{ mode:=3 },{ cz:=[false,true] }],(p7 [1,1,1]),[{},{},p8,p2,{},{},p8,p2,{},{},p8,p2,{ mode:=3 },p2,{ cz:=[false,true] }],(p7 [1,1,1]),(p7 [0,0,2]),(p7 [0,0,0,0,0,0,2,1,0,0,2,1,2,2,2,2]),[p2,p2],(p7 [0,0,0,0,0,0,2,1,0,0,2,1,2,2,2,2]),(p7 [1,1,1]),(p7 [1,1,1]),[{},{},p8,p2,{},{},p8,p2,{},{},p8,p2,{ mode:=3 },{ cz:=[false,true] }],(p7 [1,1,1]),[{},{},p8,p2,{},{},p8,p2,{},{},p8,p2,{ mode:=3 },p2,{ cz:=[false,true] }],(p7 [1,1,1]),(p7 [0,0,2]),(p7 [0,0,0,0,0,0,2,1,0,0,2,1,2,2,2,2]),(p7 [1,1,1]),(p7 [1,1,1]),(p7 [0,0,0,0,0,0,2,1,0,0,2,1,2,2,2,2]),[p2,p2]],ih:=[(0,(qb false [0,2,8,2,156])),(2,(qb false [0,2,8,2,156])),(4,(qb false [0,2,8,2,156])),(6,(qb false [0,2,8,2,156])),(8,(qb false [0,2,8,2,156]))] }
def abi:dt:={ ops:=[[],[p2,{},{},p8,p2,{},{},p8,p2,{ mode:=6 },p2],(p7 [1,0,1,1,1,2]),(p7 [1,1,1,1]),(p7 [1,1,1,1])] }
def abj:dt:={ ops:=[[p2,p2],[{},{ cz:=[false,true] },p2,p2],(p7 [0,0,2]),[{},p2,{},p8,p2,{},{},{},p8,p8,p2,{},{},{},p8,p2,p8,p2,{ mode:=3 },{ cz:=[false,true] }],(p7 [1,1,1]),[{},{},{},p8,p8,p2,{},{},{},p8,p8,p2,{ mode:=3 },p2],(p7 [0,0,0,2,0,0,0,2,0,0,0,2,2,1,0,0,0,2,2,1,2,2,2,2]),[p2,p2]],ih:=[(0,(qb false [0,1,1,2,4,1,67]))] }
def abk:dt:={ ops:=[[],[p2,{},p2,{},p2,p2,p2,{ cz:=[false,true,true,true,true,true],mode:=1 },p2]] }
def abl:dt:={ ops:=[[],[{},p2,p2,{},{ cz:=[false,true,true,true,true],mode:=1 },p2,{},p2,p2,p2],[{},p2,p2,{},{ cz:=[false,true,true,true,true],mode:=1 },p2,{},p2,p2,p2],[p2,p2,p2,p2,{ cz:=[false,true,true,true,true],mode:=1 },p2,{},p2,p2,p2],[p2,p2]] }
def Ud:dt:={ ops:=[[],(p7 [0,1,2,1])] }
def abm:dt:={ ops:=[[],[{},{},p8,p2,{},{},p8,p2,{ mode:=3 }],(p7 [1,0,1,1,1,2]),(p7 [1,1,1,1]),(p7 [1,1,1,1])] }
def abJ:List dt:=[{},{},abn,Uk,Us,Uz,abt,abv,aby,abz,T8,T',Uc,Ue,Uf,QI,JQ,QJ,QK,Ug,QL,Uh,Ui,OC,JR,Na,abo,abp,abq,Uj,Ul,abr,QM,Um,Un,Uo,Up,Uq,Ur,QN,Kt,Ut,Uu,Uv,QO,Uw,OD,Ux,Nb,Uy,UA,UB,QP,UC,QQ,UD,UE,K5,UF,UG,L5,QR,abu,UH,QS,QT,QU,UI,UJ,JS,UK,Ku,QV,UL,UM,Nc,abw,UN,UO,abx,QW,K6,UQ,QX,UR,US,UT,UU,QY,QZ,UW,abA,abB,abC,abD,abE,abF,abG,abH,abI,T9,QG,JP,T_,aa7,aa8,aa9,aa_,aba,QH,Ua,abb,abc,abd,abe,abf,Ub,abg,abh,abi,abj,abk,abl,Ud,abm,{},{},{},{},{},{},{},{},{},{},{},{},{},{},{},{}]
def jA (k:FuncId):dt:=abJ.getD k {}
end Go.Proofs.YtkoioidpbbbaiaaGreat.Ab


namespace Go.Proofs.YtkoioidpbbbaiaaGreat.Ab
open Go
end Go.Proofs.YtkoioidpbbbaiaaGreat.Ab


namespace Go.Proofs.YtkoioidpbbbaiaaGreat.Ab
open Go
end Go.Proofs.YtkoioidpbbbaiaaGreat.Ab


namespace Go.Proofs.YtkoioidpbbbaiaaGreat.Ab
open Go
theorem eD:Go.Proofs.Tryz.prog.follows .mixedOrders=true:=by kernel_rfl
abbrev qv (k:FuncId) (args:List I) (v:I):Prop:=nj Go.Proofs.Tryz.prog k args v
abbrev hX (n:Int):I:=.int .i64 n
abbrev Hl:I:=.a0
abbrev B (b:Bool):I:=.bool b
def oW (l:List Int):I:=.av (l.map hX) l.length .shared
def ju (l:List (List Int)):I:=.av (l.map oW) l.length .shared
theorem Xp (d:Nat) (l:List Int):(l.map hX).all (cn (d+1))=true:=by
 rw [ss];intro u hu;obtain ⟨x,_,rfl⟩:=sH.1 hu;rfl
theorem Xo (d:Nat) (l:List Int):cn (d+2) (oW l)=true:=Xp d l
theorem R' (d:Nat) (l:List (List Int)):(l.map oW).all (cn (d+2))=true:=by
 rw [ss];intro u hu;obtain ⟨x,_,rfl⟩:=sH.1 hu;exact Xo d x
theorem af8 (d:Nat) (l:List (List Int)):cn (d+3) (ju l)=true:=R' d l
theorem Mq (k:IntKind) (n:Int):cn 8 (.int k n)=true:=rfl
theorem My (b:Bool):cn 8 (.bool b)=true:=rfl
theorem Mr (l:List Int) (n:Nat) (c:hB):cn 8 (.av (l.map hX) n c)=true:=Xp 6 l
theorem Mt (l:List (List Int)) (n:Nat) (c:hB):cn 8 (.av (l.map oW) n c)=true:=R' 5 l
theorem Ms (l:List Int):cn 8 (oW l)=true:=Xo 6 l
theorem Mu (l:List (List Int)):cn 8 (ju l)=true:=af8 5 l
theorem Mz (k:FuncId):cn 8 (.func k [] [])=true:=rfl
theorem MA (n:Nat) (c:hB):cn 8 (.av [] n c)=true:=rfl
theorem Ka (l:List (List Int)) (n:Nat) (c:hB):cn 8 (.agg [.av (l.map oW) n c])=true:=by
 show [I.av (l.map oW) n c].all (cn 7)=true;rw [List.all_cons,List.all_nil,Bool.and_true];exact R' 4 l
theorem Mv (l:List (List Int)):cn 8 (.agg [ju l])=true:=Ka l _ _
theorem Mw (l:List (List Int)):cn 8 (.bR [ju l])=true:=Ka l _ _
theorem Mx (l:List (List Int)) (n:Nat) (c:hB):cn 8 (.bR [.av (l.map oW) n c])=true:=Ka l _ _
theorem PL (i:Nat) (h:i≤9223372036854775806):IntKind.i64.wrap ((i:Int)+1)=((i+1:Nat):Int):=by rw [IntKind.wrap_i64];omega
theorem HQ (n:Int) (ab:-9223372036854775808≤n) (ae:n≤9223372036854775807):IntKind.i64.wrap n=n:=by rw [IntKind.wrap_i64];omega
theorem Xn:∀ {d:Nat} {v:I},cn d v=true→cn (d+1) v=true
 | 0,v,h=>by simp [cn] at h
 | d+1,v,h=>by
   have key:∀ {l:List I},l.all (cn d)=true→l.all (cn (d+1))=true:=fun h=>by
    rw [ss] at h ⊢;exact fun u hu=>Xn (h u hu)
   cases v <;> simp only [cn,su,ub] at h ⊢ <;> first | trivial | exact key h | exact ⟨key h.1,key h.2⟩
theorem HG {p:Prop} [Decidable p] {A C:Prop} (ab:p→A) (ae:¬ p→C):(match decide p with | true=>A | false=>C):=by
 by_cases h:p
 ·simp only [h,decide_true];exact ab h
 ·simp only [h,decide_false];exact ae h
theorem rB {k:FuncId} {xs:List I} {v:I}:∀ p∈([]:c4),p.1=k→p.2.1=xs→p.2.2=v:=fun _ h=>by simp at h
theorem BS {k k':FuncId} {xs ys:List I} {v bn:I} (h:k'=k→ys=xs→bn=v):∀ p∈([(k',ys,bn)]:c4),p.1=k→p.2.1=xs→p.2.2=v:=fun p aB=>by
 simp only [List.mem_singleton] at aB;subst aB;exact h
theorem Im {k:FuncId} {xs:List I} {v:I} {acc:c4} (h:acc.all (fun p=>p.1 != k)=true):∀ p∈acc,p.1=k→p.2.1=xs→p.2.2=v:=fun p aB e=>by
 have:=ss.1 h p aB;simp [e] at this
def HE (cap:List I):Prop:=cap.all (cn 7)=true∧∀ u∈cap,∃ cs,u=.bR cs
theorem HE.T5 {cap:List I} (h:HE cap):cap.all (cn 8)=true:=by
 have ab:=h.1;rw [ss] at ab ⊢;exact fun u hu=>Xn (ab u hu)
theorem HE.iA {cap:List I} (h:HE cap) (H:List ar):cap.map (iA H)=cap:=by
 conv=>rhs;rw [←vi cap]
 apply tT;intro u hu;obtain ⟨cs,rfl⟩:=h.2 u hu;rfl
theorem HE.hT {cap:List I} (h:HE cap) (H:List ar):cap.map (hT H)=cap:=by
 conv=>rhs;rw [←vi cap]
 apply tT;intro u hu;obtain ⟨cs,rfl⟩:=h.2 u hu;rfl
theorem HE.ca {cap:List I} (h:HE cap):cap.map I.ca=cap:=by
 conv=>rhs;rw [←vi cap]
 apply tT;intro u hu;obtain ⟨cs,rfl⟩:=h.2 u hu;rfl
theorem HE.fn {cap:List I} (h:HE cap) (H:List ar) (k:FuncId):Ab.iA H (.func k [] cap)=.func k [] cap:=by
 simp only [Ab.iA,h.hT,uK]
theorem HE.Xf {cap:List I} (h:HE cap) (k:FuncId):cn 8 (.func k [] cap)=true:=by
 show (([]:List I).all (cn 7) && cap.all (cn 7))=true;rw [h.1];rfl
theorem HE.nil:HE []:=⟨rfl,by simp⟩
section
variable {P:Program}
theorem call6 {k:FuncId} {xs bs:List I} {H:List ar} {lo:Nat} {v:I} (af:(xs.map (iA H)).map I.ca=bs) (aB:(xs.map (iA H)).all (cn 8)=true) (h:nj P k bs v) (ah:fw v=true):oU P 6 lo (.fn k) xs H v.ca H:=by
 subst af;refine ⟨k6 (.fn k) ((xs.map (iA H)).map I.ca) [] 0 v [],EB h.1,?_⟩;simp only [eN,aB,EA,sc,yW h.2,ah]
end
theorem Vu {H:List ar} {id d:Nat} {l:List I} (h:H[id]?=some (.cells l)) (aB:(l.map I.view).all (cn d)=true):bL H 0 H.length 0 (d+1) (.ptr id 0)=some (.bR (l.map I.view)):=by
 have ab:=(sd.1 h).1;have ae:dZ (bL H 0 H.length 0 d) (l.map I.view)=some (l.map I.view):=zU fun u hu=>yW (by rw [ss] at aB;exact aB u hu);simp only [bL,Nat.not_lt_zero,if_false,h,tu,ae,si];rw [if_neg (by omega)]
end Go.Proofs.YtkoioidpbbbaiaaGreat.Ab


namespace Go.Proofs.YtkoioidpbbbaiaaGreat.Ab
open Go
section
variable {P:Program}
theorem Vn (eD:P.follows .mixedOrders=true) {k:Nat} {A:dt} {rc:gB} {n:Nat} {ts:List Il} (ao:qt P A k=some (rc,n,ts)) {lo:Nat} {args T:List I} {H H':List ar} (bZ:args++List.replicate (n-args.length) .a0=T) {v:I} (J7:a' lo H H')
  (h:dN P A k lo none rc T H fun e g3 H1=>(e=.normal∨e=.ret)∧lF H1 H'∧(rZ H1 g3 ts).map jd=some v):Sem P (.fn k) args H lo v H':=by
 unfold qt at ao;split at ao
 ·rename_i f aP;split at ao
  ·rename_i c af;split at ao
   ·rename_i XI PG ab ae aF ba;simp only [Option.some.injEq,Prod.mk.injEq] at ao;obtain ⟨rfl,rfl,rfl⟩:=ao;subst bZ;refine Hb eD aP af (by simpa using ae) ab J7 (oQ (fun e s a_=>?_) (G6 aF h));obtain ⟨cc,b_,eP⟩:=a_;simp only [Option.map_eq_some_iff] at eP;obtain ⟨vs,eP,iM⟩:=eP;exact ⟨cc,b_,vs,by rw [N2 _ _ ba,eP],iM⟩
   ·cases ao
  ·cases ao
 ·cases ao
end
theorem rK {P:Program} (eD:P.follows .mixedOrders=true) {k:Nat} {A:dt} {rc:gB} {n:Nat} {ts:List Il} (ao:qt P A k=some (rc,n,ts)) {lo:Nat} {args T:List I} {H H':List ar} (bZ:args++List.replicate (n-args.length) .a0=T) {v:I} (J7:a' lo H H')
  (h:∀ Q:cN→List I→List ar→Prop,(∀ e g3 H1,(e=.normal∨e=.ret)∧lF H1 H'∧(rZ H1 g3 ts).map jd=some v→Q e g3 H1)→dN P A k lo none rc T H Q):Sem P (.fn k) args H lo v H' :=
 Vn eD ao bZ J7 (h _ fun _ _ _ h=>h)
theorem OS {P:Program} (eD:P.follows .mixedOrders=true) {k:Nat} {A:dt} {rc:gB} {n:Nat} {ts:List Il} (ao:qt P A k=some (rc,n,ts)) {args T:List I} (bZ:args++List.replicate (n-args.length) .a0=T) {v:I} (aB:cn 8 v=true)
  (h:∀ Q:cN→List I→List ar→Prop,(∀ e g3 H1,M_ ts v e g3 H1→Q e g3 H1)→dN P A k 0 none rc T [] Q):nj P k args v :=
 Rg eD ao bZ aB (h _ fun _ _ _ h=>h)
theorem rG {P:Program} {lo:Nat} {bX:e'} {xs:List I} {H H':List ar} {v:I} (h:Sem P bX xs H lo v H'):oU P 1 lo bX xs H v H' :=
 ⟨k6 bX xs H lo v H',EB h,by simp only [eN,EA]⟩
theorem YK {P:Program} {k:FuncId} {args:List I} {v:I} (cq:args.all (cn 8)=true) (h:nj P k args v) (H:List ar):Sem P (.fn k) args H H.length v H:=by
 obtain ⟨⟨_,ab,ae⟩,aB⟩:=h
 exact ⟨a'.refl _ _,ab,fun B aa J S w vs ag aI ad=>CallsIn.mono (ae B _ [] S w vs (pZ ag) (fun b i h=>by obtain ⟨_,_,h⟩:=kq h;cases h) (ad.pure cq)) fun e w' he=>by
  cases e with
  | returned v=>exact xH ag (yW (n:=0) aB) he
  | panicked c=>exact he.elim
  | outgrown=>exact he.elim⟩
theorem Nf {P:Program} {k:FuncId} {args:List I} {v:I} (cq:args.all (cn 8)=true) (h:nj P k args v) (H:List ar) (lo:Nat):oU P 0 lo (.fn k) args H v H :=
 ⟨_,EB (YK cq h H),by simp only [eN,EA,sc,yW h.2,si]⟩
theorem VI {X Z:List ar} {j:Nat} {o:ar} (h:X[j]?=some o):(X++Z)[j]?=some o:=by
 rw [sk (sd.1 h).1];exact h
theorem HJ (X:List ar) (c dR:ar):(X++[c]).set X.length dR=X++[dR]:=by simp
theorem I2 (X:List ar) (c:ar):(X++[c])[X.length]?=some c:=by simp
end Go.Proofs.YtkoioidpbbbaiaaGreat.Ab


namespace Go.Proofs.YtkoioidpbbbaiaaGreat.Ab
open Go
def qh:Nat:=18446744073709551616
def qq (p:Prop) [Decidable p] {aV:Type} (k:Option aV):Option aV:=if p then k else none
theorem rV {p:Prop} [Decidable p] {aV:Type} {k:Option aV} {v:aV} (h:qq p k=some v):p∧k=some v:=by
 unfold qq at h;split at h
 ·exact ⟨by assumption,h⟩
 ·cases h
theorem qw {p:Prop} [Decidable p] {aV:Type} {k:Option aV} (h:p):qq p k=k:=if_pos h
theorem p' {α aV:Type} {x:Option α} {f:α→Option aV} {v:aV} (h:x.bind f=some v):∃ a,x=some a∧f a=some v:=by
 cases x with
 | none=>cases h
 | some a=>exact ⟨a,rfl,h⟩
theorem rn {b:Bool} {aV:Type} {x y:Option aV} {v:aV} (af:b=true) (h:(if b=true then x else y)=some v):x=some v:=by
 rw [if_pos af] at h;exact h
theorem rp {b:Bool} {aV:Type} {x y:Option aV} {v:aV} (af:b=false) (h:(if b=true then x else y)=some v):y=some v:=by
 rw [if_neg (by rw [af];decide)] at h;exact h
def ix {α:Type} [Inhabited α] (l:List α) (i:Int):α:=l.getD i.toNat default
theorem rH {α:Type} [Inhabited α] {l:List α} {k:Nat} (h:k<l.length):ix l (k:Int)=l[k]:=by
 simp [ix,h]
theorem O9 {α:Type} [Inhabited α] {l:List α} {i:Int} (h:0≤i∧i<(l.length:Int)):ix l i=l[i.toNat]'(by omega):=by
 have:i.toNat<l.length:=by omega
 simp [ix,this]
theorem J8 {α:Type} [Inhabited α] {l:List α} {i:Int} (h:0≤i∧i<(l.length:Int)):ix l i∈l:=by
 rw [O9 h];exact List.getElem_mem _
abbrev w (n:Int):Int:=IntKind.i64.wrap n
theorem ahZ {n:Int} (ab:-9223372036854775808≤n) (ae:n≤9223372036854775807):w n=n:=HQ n ab ae
theorem rz {aV:Type} {v:aV} {G:Prop} (h:(none:Option aV)=some v):G:=by cases h
def aaZ {α:Type} (f:α→I) (l:List α):I:=.av (l.map f) l.length .shared
def aa0 {α:Type} (f:α→List I) (l:List α):I:=.av (l.flatMap f) l.length .shared
theorem ri {α:Type} [Inhabited α] (f:α→I) (l:List α) (n:Int) (h:0≤n∧n<(l.length:Int)):(l.map f).drop (n.toNat*1)=f (ix l n)::(l.drop (n.toNat+1)).map f:=by
 have aX:n.toNat<l.length:=by omega
 rw [tz,←tP,sV aX,sI,O9 h]
theorem IY {α:Type} [Inhabited α] (f:α→List I) (s:Nat) (ah:∀ x,(f x).length=s):∀ (l:List α) (n:Int),0≤n∧n<(l.length:Int)→(l.flatMap f).drop (n.toNat*s)=f (ix l n)++(l.drop (n.toNat+1)).flatMap f:=by
 have key:∀ (l:List α) (k:Nat) (h:k<l.length),(l.flatMap f).drop (k*s)=f l[k]++(l.drop (k+1)).flatMap f:=by
  intro l
  induction l with
  | nil=>intro k h;simp at h
  | cons x l a8 =>
    intro k h;cases k with
    | zero=>simp
    | succ k =>
      (have al:k<l.length:=by simpa using h);(have e:(k+1)*s=(f x).length+k*s:=by rw [ah,ti,Nat.one_mul,tp]);rw [uo,e,List.drop_length_add_append,a8 k al];rfl
 intro l n h;rw [key l n.toNat (by omega),O9 h]
theorem Iy {α:Type} (f:α→List I) (s:Nat) (ah:∀ x,(f x).length=s) (l:List α):(l.flatMap f).length=l.length*s:=by
 induction l with
 | nil=>simp
 | cons x l a8=>rw [uo,sD,a8,ah,sO,ti,Nat.one_mul,tp]
theorem abL {α:Type} (f:α→I) (l m:List α) (c:hB):I.av (l.map f++m.map f) (l.length+m.length) c=.av ((l++m).map f) (l++m).length c:=by
 rw [sR,sD]
theorem L6 {α:Type} (f:α→I) (l:List α) (x:α) (c:hB):I.av (l.map f++[f x]) (l.length+1) c=.av ((l++[x]).map f) (l++[x]).length c:=by
 rw [sR,sD];rfl
theorem UY {α:Type} (f:α→List I) (l:List α) (x:α) (c:hB):I.av (l.flatMap f++f x) (l.length+1) c=.av ((l++[x]).flatMap f) (l++[x]).length c:=by
 simp [List.flatMap_append]
theorem YT {α:Type} (f:α→I) (l:List α) (n:Int) (h:0≤n∧n≤(l.length:Int)) (c:hB):I.av (((l.map f).drop (n.toNat*1)).take ((l.length-n.toNat)*1)) (l.length-n.toNat) c=.av ((l.drop n.toNat).map f) (l.drop n.toNat).length c:=by
 rw [tz,tz,List.length_drop,←tP,tb (by simp)]
theorem YS {α:Type} (f:α→I) (l:List α) (n:Int) (h:0≤n∧n≤(l.length:Int)) (c:hB):I.av ((l.map f).take (n.toNat*1)) n.toNat c=.av ((l.take n.toNat).map f) (l.take n.toNat).length c:=by
 rw [tz,s9,←List.map_take,Nat.min_eq_left (by omega)]
theorem T7 {a b:Bool} (h:a=true) (k:b=true):(a && b)=true:=by rw [h,k];rfl
theorem p9 {α:Type} {f:α→Bool} {x:α} {l:List α} (h:f x=true) (k:l.all f=true):(x::l).all f=true:=T7 h k
theorem H3 {cs:List I} {d:Nat} (h:cs.all (cn d)=true):cn (d+1) (.agg cs)=true:=h
theorem Iq {cs:List I} {d:Nat} (h:cs.all (cn d)=true):cn (d+1) (.bR cs)=true:=h
theorem Ir {cs:List I} {d:Nat} (h:cs.all (cn d)=true):cn (d+1) (.tuple cs)=true:=h
theorem I7 {k:FuncId} {a b:List I} {d:Nat} (ab:a.all (cn d)=true) (ae:b.all (cn d)=true):cn (d+1) (.func k a b)=true:=T7 ab ae
theorem rL {α:Type} {f:α→I} {d:Nat} (h:∀ x,cn d (f x)=true) (l:List α) (n:Nat) (c:hB):cn (d+1) (.av (l.map f) n c)=true:=by
 show (l.map f).all (cn d)=true;rw [ss];intro u hu;obtain ⟨x,_,rfl⟩:=sH.1 hu;exact h x
theorem HB {α:Type} {f:α→List I} {d:Nat} (h:∀ x,(f x).all (cn d)=true) (l:List α) (n:Nat) (c:hB):cn (d+1) (.av (l.flatMap f) n c)=true:=by
 show (l.flatMap f).all (cn d)=true;rw [ss];intro u hu;obtain ⟨x,_,aj⟩:=tW.1 hu;exact ss.1 (h x) u aj
theorem Xm {α:Type} {f:α→I} {d:Nat} (h:∀ x,cn d (f x)=true) (l:List α):(l.map f).all (cn d)=true:=by
 rw [ss];intro u hu;obtain ⟨x,_,rfl⟩:=sH.1 hu;exact h x
theorem nj.ca {P:Program} {k:FuncId} {args:List I} {v:I} (h:nj P k args v) (aB:cn 8 v.ca=true):nj P k args v.ca :=
 ⟨⟨h.1.1,h.1.2.1,fun B aa J S w vs ag aI ad=>CallsIn.mono (h.1.2.2 B aa J S w vs ag aI ad) fun e w' he=>by
   cases e with
   | returned x=>exact aZ.ca he
   | panicked c=>exact he.elim
   | outgrown=>exact he.elim⟩,aB⟩
section
variable {P:Program} {B:Nat} {J:List Nat} {w:World} {aa:Nat→Option aH} {S:Nat→Nat→Prop}
theorem aZ.ah0 {H':List ar} {r:I} {v:Value} {w':World} (h:aZ B aa J S w H' r v w'):aZ B aa J S w H' r.settle.view.ca v w':=by
 have ab:aZ B aa J S w H' r.settle v w':=by
  cases r with
  | av c n k=>cases k with
    | uniq z=>exact h.settle
    | _=>exact h
  | _=>exact h
 have ae:r.settle.cT=true:=by
  cases r with
  | av c n k=>cases k <;> rfl
  | _=>rfl
 obtain ⟨bt,cg,bK,a,b,c,d,e⟩:=ab;exact aZ.ca ⟨bt,cg,bK,a,b,c,d.view ae,aU.b3 (I.di _)⟩
theorem af9 (eD : P.follows .mixedOrders = true) {k : Nat} {f : Func} {c : Code} (aP : P.funcs[k]? = some f) (af : f.body = some c) (aI : f.name ≠ "runtime.NumGoroutine") {A : dt} (bS : codeOk A c = true)
  {args:List I} {v:I} (aB:cn 8 v=true)
  (h:c' P A k 0 none c 0 ⟨args++List.replicate (f.ntmps-args.length) .a0,[]⟩ fun e s=>(e=.normal∨e=.ret)∧∃ vs r,gU P s.H s.T f.results.toList=some vs∧bL s.H 0 s.H.length 0 8 (jd vs)=some r∧r.settle.view.ca=v):nj P k args v:=by
 refine ⟨⟨a'.refl _ _,⟨f,aP,by simp [af],aI⟩,fun B aa J S w xs ag _ ad=>?_⟩,aB⟩;refine callsIn_of_wp_marks aP af trivial ?_;have aL:=yd ag ad f.ntmps;have dy:=(oO ag).1;refine Bx eD c 0 _ _ h bS Fence.wide _ B w.heap.size J w (hV aa) S _ (.inl ⟨rfl,rfl⟩) (fun l a w aO=>aO.elim) aL fun e s al aM w' ah=>?_;obtain ⟨he,vs,r,ai,C0,eE⟩:=al;obtain ⟨b4,cW,a4,aJ,aN,cd⟩:=ah;have iS:LeavesInM Fence.wide 0 P f aM.tmps (fW B aa J S w [] v) aM.defers .returning w':=by
  refine n4 (aa:=b4) (S:=a4) (J:=cW) (B:=B) (H:=s.H) (lE:=aa) (S0:=S) (w0:=w) aM.defers w' cd.M.2.1 cd.M.2.2 (dy.trans aN) cd.H fun bW dA dq mG mH=>?_
  have bZ:a5 .slot b4 cW a4 bW s.T aM.tmps.toList:=⟨cd.T.len,fun i u v hu ad=>(cd.T.rel i u v hu ad).mono (Ext.refl _) (fun b o h=>⟨h,dq b o h⟩),fun i u v hu ad =>
   (cd.T.own i u v hu ad).mono (Ext.refl _) (fun b o h=>⟨h,dq b o h⟩) fun b af=>⟨af,dA b _ af,fun _ h=>h⟩⟩
  obtain ⟨x,q1,aW⟩:=xS mH bZ ai;have kN:=xG ag (fun id aE=>by simp at aE) C0 (aZ.after aJ mG aW);refine ⟨x,q1,?_⟩;rw [←eE];exact kN.ah0
 rcases he with rfl | rfl
 ·exact iS
 ·exact iS
end
inductive HX (rs:List Il) (v:I) (e:cN) (T:List I) (H:List ar):Prop where
 | mk (he:e=.normal∨e=.ret) (vs:List I) (ai:rZ H T rs=some vs) (r:I) (aP:bL H 0 H.length 0 8 (jd vs)=some r) (ad:r.settle.view.ca=v)
theorem qN {P:Program} (eD:P.follows .mixedOrders=true) {k:Nat} {A:dt} {rc:gB} {n:Nat} {ts:List Il} (ao:qt P A k=some (rc,n,ts)) {args T:List I} (bZ:args++List.replicate (n-args.length) .a0=T) {v:I} (aB:cn 8 v=true)
  (h:∀ Q:cN→List I→List ar→Prop,(∀ e T H,HX ts v e T H→Q e T H)→dN P A k 0 none rc T [] Q):nj P k args v:=by
 have h:=h _ fun _ _ _ h=>h;unfold qt at ao;split at ao
 ·rename_i f aP;split at ao
  ·rename_i c af;split at ao
   ·rename_i XI PG ab ae aF ba;simp only [Option.some.injEq,Prod.mk.injEq] at ao;obtain ⟨rfl,rfl,rfl⟩:=ao;subst bZ;have a_:∀ e s,HX PG v e (a6.T s) (a6.H s)→(e=.normal∨e=.ret)∧∃ vs r,gU P s.H s.T f.results.toList=some vs∧bL s.H 0 s.H.length 0 8 (jd vs)=some r∧r.settle.view.ca=v:=fun e s ⟨cc,vs,Rh,r,b_,eP⟩=>by
     exact ⟨cc,vs,r,by rw [N2 _ _ ba,Rh],b_,eP⟩
    exact af9 eD aP af (by simpa using ae) ab aB (oQ a_ (G6 aF h))
   ·cases ao
  ·cases ao
 ·cases ao
theorem wp_loop {P:Program} {A:dt} {fn:FuncId} {lo:Nat} {rl:Option Nat} {cB:List Bool} {c:gB} {T TY:List I} {H:List ar} {Q:cN→List I→List ar→Prop} (bZ:eW cB T=TY)
  (h:BH (fun T H Q=>oa T fun T=>dN P A fn lo rl c T H fun e bd H'=>match e with
   | .normal=>xo (some cB) bd fun bd=>Q .normal bd H'
   | e=>Q e bd H') TY H Q):dN P A fn lo rl (.loop (some cB) c) T H Q:=by
 show xo (some cB) T _;rw [DS];subst bZ;exact h
def Mo {α:Type} (f:α→List I):Option α→I
 | none=>.eF
 | some x=>.bR (f x)
theorem Xl {α:Type} {f:α→List I} {d:Nat} (h:∀ x,(f x).all (cn d)=true) (x:Option α):cn (d+1) (Mo f x)=true:=by
 cases x with
 | none=>rfl
 | some x=>exact h x
theorem IP {f:I→Option I}:dZ f []=some []:=rfl
theorem rM {f:I→Option I} {x y:I} {l r:List I} (h:f x=some y) (k:dZ f l=some r):dZ f (x::l)=some (y::r):=by simp only [dZ,h,k,si]
theorem Nh {H:List ar} {lo i n d:Nat} {vs rs:List I} (h:dZ (bL H lo i n d) vs=some rs):bL H lo i n (d+1) (.tuple vs)=some (.tuple rs):=by simp only [bL,h,si]
theorem aho {α:Type} {f:α→I} {H:List ar} {id n:Nat} {l:List α} {cap:Option Nat} (ag:H[id]?=some (.cells (l.map f))) (aI:n=l.length) (ad:∀ x,(f x).view=f x):rowOf H (.ref id 0 n cap 1)=some (l.map f):=by
 subst aI;simp only [rowOf,ag,sG,tz,sZ,se,if_true,tu];rw [tb (by simp),vD];congr 1;exact tT fun x _=>ad x
theorem Q5 {P:Program} {k:FuncId} {xs cs bs:List I} {H:List ar} {lo:Nat} {v:I} (ah:xs.map (iA H)=cs) (af:cs.map I.ca=bs) (aB:cs.all (cn 8)=true) (h:nj P k bs v) (ad:fw v=true):oU P 6 lo (.fn k) xs H v.ca H :=
 call6 (by rw [ah,af]) (by rw [ah];exact aB) h ad
theorem KC {f:I→I} {x y:I} {l r:List I} (h:f x=y) (k:l.map f=r):(x::l).map f=y::r:=by rw [sI,h,k]
theorem NH {f:I→I}:([]:List I).map f=[]:=rfl
theorem ahy {H:List ar} {k:FuncId} {a b aM au:List I} (ab:a.map (hT H)=aM) (ae:b.map (hT H)=au):iA H (.func k a b)=.func k aM au:=by simp only [iA,ab,ae]
theorem YR {H:List ar} {id off:Nat} {cs fD:List I} (ag:H[id]?=some (.cells cs)) (he:((cs.drop off).map I.view).map (ke H)=fD):hT H (.ptr id off)=.bR fD:=by simp only [hT,ag,he]
theorem Xb {P:Program} {C:b6} {lo mode:Nat} {o:Oper} {xs:Array Operand} {ts:Array TypeId} {vs:List I} {H:List ar} (aq:o.op=.call { callee:=.builtin .copy,args:=xs,argTypes:=ts }):a3 P C lo o mode vs H=j7 P lo ts H vs:=by
 unfold a3;rw [aq];rfl
def Iz {α Kp:Type} (g:Kp→α→Option Kp):List α→Kp→Option Kp
 | [],s=>some s
 | x::l,s=>(g s x).bind fun t=>Iz g l t
theorem OT {α Kp:Type} {g:Kp→α→Option Kp}:∀ {l:List α} {s t:Kp},Iz g l s=some t→∃ F:Nat→Kp,F 0=s∧F l.length=t∧∀ (i:Nat) (h:i<l.length),g (F i) l[i]=some (F (i+1))
 | [],s,t,h=>⟨fun _=>s,rfl,Option.some.inj h,fun i hi=>absurd hi (by simp)⟩
 | x::l,s,t,h=>by
   obtain ⟨u,ab,ae⟩:=p' h;obtain ⟨F,f1,f2,f3⟩:=OT ae;refine ⟨fun i=>match i with | 0=>s | i+1=>F i,rfl,f2,fun i hi=>?_⟩;cases i with
   | zero=>show g s x=some (F 0);rw [f1,ab]
   | succ i=>exact f3 i (by simpa using hi)
def Seq (P:Program) (k:FuncId) (cap:List I) (E:List I):Prop :=
 ∀ (l N:Nat) (q4:Nat→List ar),(∀ i,(q4 i).length=N)→l<N →
   (∀ (i:Nat) (h:i<E.length) (Y:List ar),∃ qS,Sem P (.yield l) [E[i]] (q4 i++Y) 0 (.bool true) (q4 (i+1)++qS)) →
   ∀ Y,∃ qS,Sem P (.fn k) (.yield l::cap) (q4 0++Y) 0 (.tuple []) (q4 E.length++qS)
theorem ahv {P:Program} {l:Nat} {q4:Nat→List ar} {E:List I} (ai:∀ (i:Nat) (h:i<E.length) (Y:List ar),∃ qS,Sem P (.yield l) [E[i]] (q4 i++Y) 0 (.bool true) (q4 (i+1)++qS)) (Y:List ar) :
  ∃ Z:Nat→List ar,Z 0=Y∧∀ (i:Nat) (h:i<E.length),Sem P (.yield l) [E[i]] (q4 i++Z i) 0 (.bool true) (q4 (i+1)++Z (i+1)):=by
 classical
 have nP:∀ (i:Nat) (Y:List ar),∃ qS,∀ h:i<E.length,Sem P (.yield l) [E[i]] (q4 i++Y) 0 (.bool true) (q4 (i+1)++qS):=fun i Y=>by
  by_cases h:i<E.length
  ·obtain ⟨qS,aX⟩:=ai i h Y;exact ⟨qS,fun _=>aX⟩
  ·exact ⟨[],fun aX=>absurd aX h⟩
 exact ⟨fun n=>Nat.rec Y (fun i Z=>Classical.choose (nP i Z)) n,rfl,fun i h=>uJ (nP i _) h⟩
theorem IM {H X:List ar} (h:H.length≤X.length):a' 0 H X:=⟨h,fun _ h _=>absurd h (by omega)⟩
theorem JG (X Y:List ar) (c d:ar):((X++[c])++Y).set X.length d=(X++[d])++Y:=by
 rw [sC,List.set_append_right _ _ (se _)];simp
theorem IJ (X Y:List ar) (c:ar):((X++[c])++Y)[X.length]?=some c:=by
 rw [sC,sv (se _)];simp
theorem ahl {α:Type} {P:Program} {A:dt} {fn:FuncId} {rl:Option Nat} {k:FuncId} {cap:List I} {bp:List Nat} {gE cp:Code} {T:List I} {H Hn:List ar} {Q:cN→List I→List ar→Prop} {f:α→I} {L:List α} (ID:Seq P k cap (L.map f))
  (Obj:Nat→List ar) (aQ:Obj 0=H) (hlen:∀ i,(Obj i).length=H.length)
  (Li:∀ (i:Nat) (h:i<L.length) (Y:List ar),∃ qS,Sem P (.yield H.length) [f L[i]] ((Obj i++[.loop .ready none fn (T.map I.view) bp gE cp A])++Y) 0 (.bool true) ((Obj (i+1)++[.loop .ready none fn (T.map I.view) bp gE cp A])++qS))
  (hc:inLoop H rl=true) (aI:Obj L.length=Hn) (bo:∀ qS,Q .normal (T.map I.settle) ((Hn++[.dead])++qS)):oD P A fn 0 rl (.func k [] cap) bp gE cp T H Q:=by
 obtain ⟨qS,cl⟩:=ID H.length (H.length+1) (fun i=>Obj i++[.loop .ready none fn (T.map I.view) bp gE cp A]) (fun i=>by simp [hlen]) (by omega) (fun i h Y=>by
  have aX:i<L.length:=by simpa using h
  obtain ⟨qS,ai⟩:=Li i aX Y
  exact ⟨qS,by rw [tX];exact ai⟩) []
 subst aI;simp only [sM,sZ,aQ] at cl;have ao:(Obj L.length).length=H.length:=hlen _;refine ⟨hc,.tuple [],_,.ready,none,fn,T.map I.view,bp,gE,cp,A,cl,by rw [←ao];exact IJ _ _ _,by decide,?_⟩;show Q .normal (T.map I.settle) (((Obj L.length++[ar.loop .ready none fn (T.map I.view) bp gE cp A])++qS).set H.length .dead);rw [←ao,JG];exact bo qS
end Go.Proofs.YtkoioidpbbbaiaaGreat.Ab


namespace Go.Proofs.YtkoioidpbbbaiaaGreat.Ab
open Go
theorem Vs {H:List ar} {lo i n d:Nat} {k:FuncId} {a b aM au:List I} (ab:dZ (bL H lo i n d) a=some aM) (ae:dZ (bL H lo i n d) b=some au):bL H lo i n (d+1) (.func k a b)=some (.func k aM au):=by simp only [bL,ab,ae]
theorem ahm {α:Type} {P:Program} {A:dt} {fn:FuncId} {rl:Option Nat} {k:FuncId} {cap:List I} {t:Nat} {bp:List Nat} {gE cp:Code} {T:List I} {H Hn:List ar} {Q:cN→List I→List ar→Prop} {f:α→I} {L:List α} (ID:Seq P k cap (L.map f))
  (Obj:Nat→List ar) (ax:dc T t=.func k [] cap) (aQ:Obj 0=H) (hlen:∀ i,(Obj i).length=H.length)
  (Li:∀ (i:Nat) (h:i<L.length) (Y:List ar),∃ qS,Sem P (.yield H.length) [f L[i]] ((Obj i++[.loop .ready none fn (T.map I.view) bp gE cp A])++Y) 0 (.bool true) ((Obj (i+1)++[.loop .ready none fn (T.map I.view) bp gE cp A])++qS))
  (hc:inLoop H rl=true) (aI:Obj L.length=Hn) (bo:∀ qS,Q .normal (T.map I.settle) ((Hn++[.dead])++qS)):dN P A fn 0 rl (.AM (.m_ t) bp gE cp) T H Q:=by
 show hF T t _;rw [iN,ax];exact ahl ID Obj aQ hlen Li hc aI bo
end Go.Proofs.YtkoioidpbbbaiaaGreat.Ab


namespace Go.Proofs.YtkoioidpbbbaiaaGreat.Ab
open Go
theorem acP {α:Type} [Inhabited α] (f:α→List I) (s:Nat) (ah:∀ x,(f x).length=s) (l:List α) (n:Int) (h:0≤n∧n<(l.length:Int)) (j:Nat) (aw:j<s):(l.flatMap f)[n.toNat*s+j]?=(f (ix l n))[j]?:=by
 have e:=IY f s ah l n h
 have:(l.flatMap f)[n.toNat*s+j]?=((l.flatMap f).drop (n.toNat*s))[j]?:=by rw [sS]
 rw [this,e,sk (by rw [ah];exact aw)]
theorem Kb {α:Type} [Inhabited α] (f:α→List I) (s:Nat) (ah:∀ x,(f x).length=s) (l:List α) (n:Int) (h:0≤n∧n<(l.length:Int)) (j:Nat) {v:I} (aw:(f (ix l n))[j]?=some v) {K:I→Prop} (k:K v):eG (l.flatMap f) (0+n.toNat*s+j) K:=by
 refine Ew (x:=v) ?_ k;rw [sG,acP f s ah l n h j (by have:=(sd.1 aw).1;rw [ah] at this;exact this),aw]
theorem Pz {α:Type} [Inhabited α] (f:α→List I) (s:Nat) (ah:∀ x,(f x).length=s) (l:List α) (n:Int) (h:0≤n∧n<(l.length:Int)) {v:I} (aw:(f (ix l n))[0]?=some v) {K:I→Prop} (k:K v):eG (l.flatMap f) (0+n.toNat*s) K :=
 Kb f s ah l n h 0 aw k
theorem Zp {α:Type} {f:α→List I} (h:∀ x,∀ u∈f x,u.view=u) (l:List α):∀ u∈l.flatMap f,u.view=u:=fun u hu=>by
 obtain ⟨x,_,aj⟩:=tW.1 hu;exact h x u aj
theorem Zq:∀ u∈([]:List I),u.view=u:=fun u h=>absurd h (by simp)
theorem N_ {v:I} {l:List I} (h:v.view=v) (k:∀ u∈l,u.view=u):∀ u∈v::l,u.view=u:=fun u hu=>by
 rcases List.mem_cons.1 hu with rfl | hu
 ·exact h
 ·exact k u hu
end Go.Proofs.YtkoioidpbbbaiaaGreat.Ab


namespace Go.Proofs.YtkoioidpbbbaiaaGreat.Ab
open Go
theorem qF {n:Int} (h:-9223372036854775808≤n∧n≤9223372036854775807):w n=n:=ahZ h.1 h.2
theorem Hq (i:Nat) (h:i≤9223372036854775806):w ((i:Int)+1)=((i+1:Nat):Int):=PL i h
end Go.Proofs.YtkoioidpbbbaiaaGreat.Ab


namespace Go.Proofs.YtkoioidpbbbaiaaGreat.Ab
open Go
def p_ (p:Int×Int):List I:=[hX p.1,hX p.2]
theorem Lo (p:Int×Int):(p_ p).length=2:=rfl
theorem Rb (k:IntKind):∀ (xs ys:List Int),xs.length=ys.length→dI (xs.map (.int k)) (ys.map (.int k))=some (decide (xs=ys))
 | [],[],_=>rfl
 | x::xs,y::ys,h=>by
   simp only [sI,dI,if_true,Rb k xs ys (by simpa using h),si];congr 1;by_cases aj:x=y <;> by_cases ao:xs=ys <;> simp [aj,ao]
 | [],y::ys,h=>by cases h
 | x::xs,[],h=>by cases h
theorem aa5 {P:Program} {t:TypeId} {fs:Array Field} {op:BinOp} (ab:P.underlying t=some (.struct fs)) (ae:gP P fs.toList 0=true) (aF:P.stoodInHeld t=false) (ba:fs.size=2) (bO:P.eqGuardType P.depth t=false) (a b c d:Int) (aC:op=.eql∨op=.neq) :
  fk P op t (.agg [hX a,hX b]) (.agg [hX c,hX d])=some (.bool (match op with | .eql=>decide ((a,b)=(c,d)) | _=>!decide ((a,b)=(c,d)))):=by
 unfold fk;simp only [ab];rw [if_pos ⟨ae,aF,by simp [ba],by simp [ba],bO⟩];have e:=Rb .i64 [a,b] [c,d] rfl;simp only [sI,uK] at e;have b9:decide ([a,b]=[c,d])=decide ((a,b)=(c,d)):=by simp
 rcases aC with rfl | rfl <;> simp only <;> rw [show [hX a,hX b]=[I.int .i64 a,I.int .i64 b] from rfl,show [hX c,hX d]=[I.int .i64 c,I.int .i64 d] from rfl,e,si,b9]
theorem aa4 {P:Program} {t e:TypeId} {len:Nat} {kd:IntKind} (k:IntKind) (ab:P.underlying t=some (.array len e)) (ae:P.underlying e=some (.int kd)) (aF:bE P e=some 1) (ba:P.eqGuardType P.depth t=false) {xs ys:List Int} (aj:xs.length=len) (aY:ys.length=len) :
  fk P .eql t (.agg (xs.map (.int k))) (.agg (ys.map (.int k)))=some (.bool (decide (xs=ys))):=by
 unfold fk;simp only [ab,ae,aF];rw [if_pos ⟨by simp [aj],by simp [aY],ba⟩,Rb k xs ys (by rw [aj,aY]),si]
theorem Xa {P:Program} {C:b6} {lo:Nat} {o:Oper} {op:BinOp} {t u:TypeId} {a b:Operand} {x y v:I} {H:List ar} (aq:o.op=.binOp op t a b u) (aI:iW b=false) (h:fk P op t x y=some v):a3 P C lo o 0 [x,y] H=some (v,H):=by
 unfold a3;rw [aq];show (cy P o [x,y]).map _=_;unfold cy;rw [aq];simp only [aI];show (fk P op t x y).map _=_;rw [h];rfl
end Go.Proofs.YtkoioidpbbbaiaaGreat.Ab


namespace Go.Proofs.YtkoioidpbbbaiaaGreat.Ab
open Go
section
variable {P:Program} {B N:Nat} {J:List Nat} {w:World} {H:List ar} {aa:Nat→Option aH} {S:Nat→Nat→Prop}
end
end Go.Proofs.YtkoioidpbbbaiaaGreat.Ab


namespace Go.Proofs.YtkoioidpbbbaiaaGreat.Ab
open Go
theorem ahV {α:Type} {f:α→I} (h:∀ x,(f x).view=f x) (l:List α):(l.map f).map I.view=l.map f:=by rw [vD];exact tT fun x _=>h x
theorem WA {α:Type} (f:α→I) (l:List α) {n:Nat} (aP:∀ x,(f x).view=f x) (h:l.length=n):(((l.map f).drop 0).take n).map I.view=l.map f:=by
 rw [tu,tb (by simp [h]),ahV aP]
def acU (P:Program) (t:TypeId):Array Field:=match P.underlying t with
 | some (.struct fs)=>fs
 | _=>#[]
theorem aa6 {P:Program} {t e:TypeId} {len:Nat} {kd k:IntKind} {xs:List Int} {n:Int} (ab:P.underlying t=some (.array len e)) (ae:P.underlying e=some (.int kd)) (aF:bE P e=some 1) (ba:dH P e=false) (ao:xs.length=len) (aI:0≤n∧n<(len:Int)) :
  oZ P t (.agg (xs.map hX)) (.int k n)=some (hX (ix xs n)):=by
 unfold oZ;have bO:g7 n len=some n.toNat:=by unfold g7;rw [if_pos aI]
 simp only [ab,aF,bO,sc,tz];unfold iH;simp only [ae,ba];have aR:n.toNat<xs.length:=by omega
 rw [sq,sm aR,si,O9 (by omega)]
theorem afS {P:Program} {C:b6} {lo:Nat} {o:Oper} {t:TypeId} {a b:Operand} {x y v:I} {H:List ar} (aq:o.op=.index t a b) (h:oZ P t x y=some v) (ad:v.view=v:=by rfl):a3 P C lo o 0 [x,y] H=some (v,H):=by
 unfold a3;rw [aq];show (cy P o [x,y]).map _=_;unfold cy;rw [aq];show ((oZ P t x y).map I.view).map _=_;rw [h,si,si,ad]
end Go.Proofs.YtkoioidpbbbaiaaGreat.Ab


namespace Go.Proofs.YtkoioidpbbbaiaaGreat.Ab
open Go
def KG:List I→Nat→List (Nat×I)→List I
 | [],_,_=>[]
 | x::T,_,[]=>x::T
 | x::T,i,(j,v)::r=>match Nat.beq i j with
   | true=>v::KG T (i+1) r
   | false=>x::KG T (i+1) ((j,v)::r)
def Iv (u:Nat→I):Nat→Nat→List (Nat×I)→List I
 | 0,_,_=>[]
 | n+1,i,[]=>u i::Iv u n (i+1) []
 | n+1,i,(j,v)::r=>match Nat.beq i j with
   | true=>v::Iv u n (i+1) r
   | false=>u i::Iv u n (i+1) ((j,v)::r)
def rk (n:Nat) (bp:List (Nat×I)) (T:List I):Prop:=T.length=n∧T=KG T 0 bp
theorem PD {u bG:Nat→I}:∀ (n i:Nat) (bp:List (Nat×I)),(∀ k,i≤k→u k=bG k)→Iv u n i bp=Iv bG n i bp
 | 0,_,_,_=>rfl
 | n+1,i,[],h=>by
   rw [Iv,Iv,h i (se _),PD n (i+1) [] fun k al=>h k (by omega)]
 | n+1,i,(j,v)::r,h=>by
   rw [Iv,Iv];cases Nat.beq i j with
   | true=>exact congrArg _ (PD n (i+1) r fun k al=>h k (by omega))
   | false=>show u i::_=bG i::_;rw [h i (se _),PD n (i+1) _ fun k al=>h k (by omega)]
theorem YU:∀ (T:List I) (i:Nat) (bp:List (Nat×I)),KG T i bp=Iv (fun k=>dc T (k-i)) T.length i bp
 | [],_,_=>rfl
 | x::T,i,bp=>by
   have e:∀ bp,Iv (fun k=>dc (x::T) (k-i)) T.length (i+1) bp=KG T (i+1) bp:=fun bp=>by
    rw [YU T (i+1) bp];refine PD _ _ _ fun k al=>?_;show dc (x::T) (k-i)=dc T (k-(i+1));rw [show k-i=(k-(i+1))+1 by omega];rfl
   (have f_:dc (x::T) (i-i)=x:=by rw [Nat.sub_self];rfl);(have acM:∀ (T:List I) i,KG T i []=T:=fun T i=>by cases T <;> rfl);cases bp with
   | nil =>
     show x::T=Iv _ (T.length+1) i [];rw [Iv,f_,e,acM]
   | cons p r =>
     obtain ⟨j,v⟩:=p;show KG (x::T) i ((j,v)::r)=Iv _ (T.length+1) i ((j,v)::r);rw [KG,Iv];cases Nat.beq i j with
     | true=>exact congrArg _ (e r).symm
     | false=>show x::_=_::_;rw [f_,e]
theorem rk.ex {n:Nat} {bp:List (Nat×I)} {T:List I} (h:rk n bp T):∃ u,T=Iv u n 0 bp:=by
 obtain ⟨ab,ae⟩:=h;subst ab;exact ⟨_,ae.trans (YU T 0 bp)⟩
class HF (d:Nat) (v:I):Prop where Pc:cn d v=true
class qi (d:Nat) (l:List I):Prop where pl:l.all (cn d)=true
instance {d:Nat}:qi d []:=⟨rfl⟩
instance {d:Nat} {v:I} {l:List I} [a:HF d v] [b:qi d l]:qi d (v::l):=⟨p9 a.Pc b.pl⟩
instance {d:Nat} {a b:List I} [x:qi d a] [y:qi d b]:qi d (a++b):=⟨by rw [List.all_append,x.pl,y.pl];rfl⟩
instance {d:Nat} {α:Type} {f:α→I} {l:List α} [h:∀ x,HF d (f x)]:qi d (l.map f):=⟨Xm (fun x=>(h x).Pc) l⟩
instance {d:Nat} {α:Type} {f:α→List I} {l:List α} [h:∀ x,qi d (f x)]:qi d (l.flatMap f):=⟨by
 rw [ss];intro u hu;obtain ⟨x,_,aj⟩:=tW.1 hu
 exact ss.1 (h x).pl u aj⟩
instance {d:Nat} {k:IntKind} {n:Int}:HF (d+1) (.int k n):=⟨rfl⟩
instance {d:Nat} {b:Bool}:HF (d+1) (.bool b):=⟨rfl⟩
instance {d:Nat} {b:ByteArray}:HF (d+1) (.str b):=⟨rfl⟩
instance {d:Nat}:HF (d+1) .eF:=⟨rfl⟩
instance {d:Nat}:HF (d+1) .a0:=⟨rfl⟩
instance {d n:Nat} {c:hB} {l:List I} [h:qi d l]:HF (d+1) (.av l n c):=⟨h.pl⟩
instance {d:Nat} {l:List I} [h:qi d l]:HF (d+1) (.agg l):=⟨h.pl⟩
instance {d:Nat} {l:List I} [h:qi d l]:HF (d+1) (.tuple l):=⟨h.pl⟩
instance {d:Nat} {l:List I} [h:qi d l]:HF (d+1) (.bR l):=⟨h.pl⟩
instance {d:Nat} {α:Type} {f:α→I} {l:List α} [h:∀ x,HF d (f x)]:HF (d+1) (aaZ f l):=⟨Xm (fun x=>(h x).Pc) l⟩
instance {d:Nat} {α:Type} {f:α→List I} {l:List α} [h:∀ x,qi d (f x)]:HF (d+1) (aa0 f l):=⟨(inferInstance:qi d (l.flatMap f)).pl⟩
instance {d:Nat} {l:List Int}:HF (d+2) (oW l):=⟨(inferInstance:qi (d+1) (l.map hX)).pl⟩
instance {d:Nat} {l:List (List Int)}:HF (d+3) (ju l):=⟨(inferInstance:qi (d+2) (l.map oW)).pl⟩
instance {d:Nat} {α:Type} {f:α→List I} {x:Option α} [h:∀ x,qi d (f x)]:HF (d+1) (Mo f x):=⟨Xl (fun x=>(h x).pl) x⟩
theorem qD {p Xd:Prop} [Decidable p] {aV:Type} {k:Option aV} {v:aV} {K:Prop} (h:qq p k=some v) (f:p→Xd) (g:p→k=some v→K):Xd∧K :=
 ⟨f (rV h).1,g (rV h).1 (rV h).2⟩
theorem bs {b:Bool} {aV:Type} {x y:Option aV} {v:aV} {K:Prop} (h:(if b=true then x else y)=some v) (f:b=true→x=some v→K) (g:b=false→y=some v→K):K :=
 match b,h,f,g with
 | true,h,f,_=>f rfl (rn rfl h)
 | false,h,_,g=>g rfl (rp rfl h)
theorem af6 {d:Nat} {u:I} (h:cn d u.g9=true):cn d u=true:=by
 cases d with
 | zero=>simp [cn] at h
 | succ d=>cases u with
   | av cs n c=>cases c <;> exact h
   | _=>exact h
theorem Xk {d:Nat} {l:List I} (h:(l.map I.g9).all (cn d)=true):l.all (cn d)=true:=by
 rw [ss] at h ⊢;exact fun u hu=>af6 (h _ (List.mem_map_of_mem hu))
theorem af5 {d:Nat} {r:I} (h:cn d r.settle.view.ca=true) (aw:r.settle.view.ca.G4=false):cn d r=true:=by
 cases d with
 | zero=>simp [cn] at h
 | succ d=>cases r with
   | av cs n c=>cases c <;> exact h
   | agg cs=>exact Xk (l:=cs) h
   | tuple cs=>exact Xk (l:=cs) h
   | raw=>exact absurd aw (by simp [I.settle,I.view,I.ca,I.G4])
   | c0=>exact absurd aw (by simp [I.settle,I.view,I.ca,I.G4])
   | cj=>exact absurd h (by simp [I.settle,I.view,I.ca,cn])
   | _=>exact h
theorem It {rs:List Il} {v:I} {T:List I} {H:List ar} {vs:List I} [h:HF 8 v] (ab:rZ H T rs=some vs) (ae:(jd vs).settle.view.ca=v) (aw:v.G4=false:=by first | rfl | (simp [I.G4];done) | (cases ‹Option _› <;> rfl)):HX rs v .ret T H :=
 ⟨.inr rfl,vs,ab,_,yW (af5 (ae ▸ h.Pc) (ae ▸ aw)),ae⟩
end Go.Proofs.YtkoioidpbbbaiaaGreat.Ab


namespace Go.Proofs.YtkoioidpbbbaiaaGreat.Ab
open Go
section
variable {P:Program} {A:dt} {fn:FuncId} {lo:Nat} {rl:Option Nat}
inductive ajE (P:Program) (A:dt) (fn:FuncId) (lo:Nat) (rl:Option Nat) (rc:gB) (T:List I) (H:List ar) (Q:cN→List I→List ar→Prop):Prop where
 | mk (cB:List Bool) (c:gB) (he:rc=.loop (some cB) c) (hX:Nat→List I→List ar→Prop) (m:Nat) (hm:m≤qh) (aQ:hX m T H)
   (step:∀ (Hl:List I→List ar→Prop) m T H,hX m T H→(∀ ho bd H',ho<m→hX ho bd H'→Hl bd H')→oa T fun T=>dN P A fn lo rl c T H fun e bd H'=>match e with
    | .normal=>xo (some cB) bd fun bd=>Hl bd H'
    | e=>Q e bd H')
end
theorem Pf {cs:List I} {n d:Nat} {c:hB} (h:cs.all (cn d)=true):cn (d+1) (.av cs n c)=true:=h
def ahn (l:List Int):I:=.av (l.map hX) l.length (if l.length=1 then .full else .shared)
end Go.Proofs.YtkoioidpbbbaiaaGreat.Ab


namespace Go.Proofs.YtkoioidpbbbaiaaGreat.Ab
open Go
instance {d:Nat} {p:Int×Int}:qi (d+1) (p_ p):=⟨(inferInstance:qi (d+1) [hX p.1,hX p.2]).pl⟩
instance {d:Nat} {l:List Int}:HF (d+2) (ahn l):=⟨(inferInstance:qi (d+1) (l.map hX)).pl⟩
end Go.Proofs.YtkoioidpbbbaiaaGreat.Ab


namespace Go.Proofs.YtkoioidpbbbaiaaGreat.Ab
open Go
abbrev qa:=List Int
abbrev qj:=List (Int×Int)
abbrev K3:=List (List Int)
abbrev ajD:=List (List (Int×Int))
abbrev ajx:=Int×List (Int×Int)
abbrev rR:=cN→List I→List ar→Prop
abbrev qy (l:List Int) (c:hB):I:=.av (l.map hX) l.length c
abbrev qY (l:List (Int×Int)) (c:hB):I:=.av (l.flatMap p_) l.length c
abbrev ajG (b:Int×List (Int×Int)):I:=.agg [hX b.1,.av (b.2.flatMap p_) b.2.length .shared]
abbrev ajH (b:Int×List (Int×Int)):ar:=ar.cells [hX b.1,.av (b.2.flatMap p_) b.2.length .shared]
def qK {aV:Type} (rs:List Il) (Q:cN→List I→List ar→Prop) (e:aV→I) (v:aV):Prop:=∀ T H,HX rs (e v) .ret T H→Q .ret T H
theorem qd {aV:Type} {x v:aV} {e:aV→I} {rs:List Il} {Q:cN→List I→List ar→Prop} {T:List I} {H:List ar} {vs:List I} (h:some x=some v) (jG:qK rs Q e v) [k:HF 8 (e x)] (ab:rZ H T rs=some vs) (ae:(jd vs).settle.view.ca=e x) (aw:(e x).G4=false:=by first | rfl | (simp [I.G4];done) | (cases ‹Option _› <;> rfl)):Q .ret T H:=by
 obtain rfl:=Option.some.inj h;exact jG _ _ (It ab ae aw)
class q6 (H:List ar) (i:Nat) (o:outParam ar):Prop where h:H[i]?=some o
instance {H:List ar} {o:ar}:q6 (H++[o]) H.length o:=⟨I2 _ _⟩
instance {H:List ar} {i:Nat} {o p:ar} [k:q6 H i o]:q6 (H++[p]) i o:=⟨VI k.h⟩
end Go.Proofs.YtkoioidpbbbaiaaGreat.Ab


namespace Go.Proofs.YtkoioidpbbbaiaaGreat.Ab
open Go Go.ChangeShapes Go.WideShapes Go.ChangeAt Go.RowKit
def S0 (w:World):Nat→Nat→Prop:=fun b o=>∃ v,w.cell? ⟨b,o,none⟩=some v
theorem mv (w:World):aK w.heap.size (fun _=>none) [] (S0 w) w [] :=
 ⟨rfl,fun _ _ h=>by simp at h,fun _ _ h=>h,fun _ _ h=>by simp at h,se _⟩
theorem S_ {P:Program} {k:FuncId} {args:List I} {vs:List Value} {W:World} {b:Bool} (h:nj P k args (.bool b)) (ad:a5 (fun i=>.arg i) (fun _=>none) [] (S0 W) W args vs) :
  Calls P k vs.toArray W fun e Ix=>e=.returned (.bool b)∧Below W.heap.size W Ix:=by
 have ab:=h.1.2.2 W.heap.size (fun _=>none) [] (S0 W) W vs (mv W) (fun _ _ h=>by simp at h) ad;refine (callsIn_wide.1 ab).mono fun e Ix he=>?_;cases e with
 | returned v =>
   obtain ⟨ay,bU,S',_,az,_,ai,_⟩:=he;cases ai;exact ⟨rfl,az.os,az.tape,az.output,az.size,fun b af=>az.cB b af rfl⟩
 | panicked c=>exact he.elim
 | outgrown=>exact he.elim
section
variable {H:Type} {enc:TypeId×Value→H} {P:Program} {w:World}
theorem T4 {W Ix:World} (K:Kids P (·<P.types.size)) (bQ:∀ t e,t<P.types.size→P.underlying t=some (.slice e)→0<P.cellsOf e) (Jx:Below W.heap.size W Ix) {sp:Nat→Bool} :
  ∀ {ts:List TypeId} {vs:List Value} {fD:List (DataW H)} {p:List MemPlace},(∀ t∈ts,t<P.types.size)→DataW.TrodAll enc P W 0 (fun _=>true) true ts vs fD p→(∀ x∈p,sp x.block=true)→(∀ x∈p,x.block<W.heap.size)→DataW.TrodAll enc P Ix 0 sp true ts vs fD p
 | [],_,_,_,_,aL,_,_=>by obtain ⟨rfl,rfl,rfl⟩:=trodAll_nil aL;exact trodAll_mk0
 | t::ts,_,_,_,bZ,aL,Mj,aR=>by
   obtain ⟨v,vs,d,fD,a,b,rfl,rfl,rfl,⟨n,aI⟩,ae⟩:=trodAll_cons aL;refine ⟨a,b,⟨n,?_⟩,T4 K bQ Jx (fun t ax=>bZ t (ue _ ax)) ae (fun x aj=>Mj x (vk _ aj)) (fun x aj=>aR x (vk _ aj)),rfl⟩;exact DataW.trod_stays K (fun {t e} ax he=>bQ t e ax he) (fun h=>by cases h) (bZ t tV) aI (fun x aj=>Jx.same (aR x (vG _ aj))) fun x aj=>Mj x (vG _ aj)
theorem R_ {f:Func} {s:ChangeSpec} {again:Bool} {W Ix:World} {args:Array Value} {t:TypeId} {fD gs:List (DataW H)} {before:List MemPlace}
  (ao:laidOutB P=true) (hm:mapsRowed P=true) (bj:((List.range P.types.size).all fun t=>match P.underlying t with | some (.slice e)=>decide (0<P.cellsOf e) | _=>true)=true)
  (ax:f.resultTypes=#[t]) (VU:P.underlying t=some .bool) (kO:f.params.toList.all (fun t=>decide (t<P.types.size))=true) (RO:s.vars=[])
  (l9:DataW.Whole enc P f.params.toList s.vars false W args.toList fD gs before) (Jx:Below W.heap.size W Ix)
  (ah:s.fn H (fD++gs)={ results:=[.lit (.bool true)],args:=fD }):s.post enc P f false true false again W args (.bool true) Ix:=by
 have aR:=l9.lt;have ada:=l9;obtain ⟨p,q,aL,jH,rfl,C0,jS⟩:=ada;rw [RO] at jH;obtain ⟨rfl,rfl⟩:=trodVars_none jH;rw [sM] at *;have K:Kids P (·<P.types.size):=kids_rows ao hm;have bQ:=slices_full_of P bj;have bZ:∀ t∈f.params.toList,t<P.types.size:=fun t h=>by
  have:=ss.1 kO t h;simpa using this
 have again:∀ sp:Nat→Bool,(∀ x∈p,sp x.block=true)→DataW.TrodAll enc P Ix 0 sp true f.params.toList args.toList fD p:=fun sp Mj =>
  T4 K bQ Jx bZ aL Mj aR
 have kQ:∀ (b:Nat) (sp:Nat→Bool) (a1:Bool),DataW.TrodAll enc P Ix b sp a1 f.resultTypes.toList ((Value.bool true).resultList f.resultTypes.size) (s.fn H fD).results []:=fun b sp a1=>by
  rw [ah,ax];exact trodAll_mk1 (shut_bool VU true)
 have CH:∀ sp:Nat→Bool,(∀ x∈p,sp x.block=true)→DataW.TrodAll enc P Ix 0 sp true f.params.toList args.toList (s.fn H fD).args p:=fun sp Mj=>by
  rw [ah];exact again sp Mj
 have ad:∀ sp:Nat→Bool,DataW.TrodVars enc P Ix sp s.vars (s.fn H fD).vars []:=fun sp=>by
  rw [ah,RO];rfl
 have hold:∀ x∈p,(fun b=>decide (b<W.heap.size)) x.block=true:=fun x aj=>by simpa using aR x aj
 refine ⟨fD,[],p,[],p,[],l9,by rw [sM];exact kQ _ _ _,by rw [sM];exact CH _ hold,by rw [sM];exact ad _,Jx.frame _,fun _=>?_⟩;refine ⟨fun j u r hu ai=>?_,(s.fn H fD).results++(s.fn H fD).args,[],p,⟨p,[],?_,?_,by simp,?_,fun h=>by cases h⟩,fun x aj _=>aj⟩
 ·rw [ax] at hu ai;cases j with
  | zero=>simp [Value.resultList] at hu ai;subst hu;subst ai;exact okWide_bool_mk VU true
  | succ j=>simp at hu
 ·have:=trodAll_append (CH (fun _=>true) fun _ _=>rfl) (kQ 0 (fun _=>true) true);simpa using this
 ·rw [RO];rfl
 ·intro b o af;have:=aR _ af;rw [Jx.frozen (p:=⟨b,o,none⟩) this];exact C0 b o af
theorem WU {α:Type} {f:α→I} {R:α→Prop}:∀ {l:List I},(∀ u∈l,∃ x,u=f x∧R x)→∃ gu:List α,l=gu.map f∧∀ x∈gu,R x
 | [],_=>⟨[],rfl,by simp⟩
 | u::l,h=>by
   obtain ⟨x,rfl,aj⟩:=h u (by simp);obtain ⟨gu,rfl,bj⟩:=WU (l:=l) fun y aY=>h y (by simp [aY]);exact ⟨x::gu,rfl,by simpa using ⟨aj,bj⟩⟩
abbrev Jq (enc:TypeId×Value→H) (P:Program) (w:World) (e:TypeId) (Q:I→Prop):Prop :=
 ∀ n v y,DataW.trod enc P w 0 (fun _=>true) true n e [v]=some y→∃ u,u.plain=true∧v.oneCell'=true∧Rel [] (S0 w) w u v∧Q u
theorem Q7 {e:TypeId} {k:IntKind} (ax:P.underlying e=some (.int k)):Jq enc P w e fun u=>∃ x,u=.int k x∧(Lit.int k x).wf=true:=by
 intro n v y h;obtain ⟨x,aj,_,hw⟩:=DataW.trod_int ax h;injection aj with aj _;subst aj;exact ⟨.int k x,rfl,rfl,.int k x,x,rfl,hw⟩
instance:Inhabited I:=⟨.a0⟩
theorem aci {t e:TypeId} (ax:P.underlying t=some (.slice e)) (ce:P.cellsOf e=1) {Q:I→Prop} (he:Jq enc P w e Q) :
  Jq enc P w t fun u=>∃ l:List I,u=.av l l.length .shared∧l.length≤maxLen∧∀ u∈l,Q u:=by
 intro fuel v x h;rcases Deep.open_slice1 ax ce h with ⟨ad,_⟩ | ⟨a,len,cap,m,n,V,D,QD,ad,_,ao,hm,pP,_,aj⟩
 ·injection ad with ad _;subst ad;exact ⟨_,rfl,rfl,.b2 _ _,[],rfl,sE _,by simp⟩
 ·injection ad with ad _;subst ad;have pP:m=cap:=pP;have aj:∀ i,i<cap→w.cell? (a.add i)=some (V i)∧DataW.trod enc P w 0 (fun _=>true) true n e [V i]=some (D i,QD i):=fun i hi=>aj i (by omega);by_cases ak:cap=0
  ·(subst ak;obtain rfl:len=0:=by omega);exact ⟨_,rfl,rfl,.b2 _ _,[],rfl,sE _,by simp⟩
  ·obtain ⟨b,o,sp⟩:=a;have aQ:=(aj 0 (by omega)).1;(have ah:sp=none:=by simpa [Addr.add] using World.cell?_spot aQ);subst ah;obtain ⟨U,r8⟩:=Deep.choose_lt (α:=I) (n:=len) (p:=fun i u=>u.plain=true∧(V i).oneCell'=true∧Rel [] (S0 w) w u (V i)∧Q u) fun i hi=>he n (V i) _ (aj i (by omega)).2;refine ⟨.av ((List.range len).map U) len .shared,rfl,rfl,.av _ _ _ b o cap V (by simp) ao (by simp) (fun j u aw=>?_) (fun j u aw=>?_),(List.range len).map U,by simp,by simp;omega,fun u hu=>?_⟩
   ·(have ml:j<len:=by have:=(sd.1 aw).1;simpa using this);simp [ml] at aw;subst aw;(have bx:w.cell? ⟨b,o+j,none⟩=some (V j):=by have:=(aj j (by omega)).1;rwa [add_lit] at this);exact ⟨⟨_,bx⟩,bx,(r8 j ml).1,(r8 j ml).2.1⟩
   ·(have ml:j<len:=by have:=(sd.1 aw).1;simpa using this);simp [ml] at aw;subst aw;exact (r8 j ml).2.2.1
   ·obtain ⟨j,aw,rfl⟩:=sH.1 hu;exact (r8 j (sJ.1 aw)).2.2.2
def IU (x:Int):Prop := -9223372036854775808≤x∧x≤9223372036854775807
theorem wf_i64 {x:Int} (h:(Lit.int .i64 x).wf=true):IU x:=by
 have ab:IntKind.i64.min=-9223372036854775808:=rfl;have ae:IntKind.i64.max=9223372036854775807:=rfl;simp only [Lit.wf,su,decide_eq_true_eq] at h;exact ⟨by omega,by omega⟩
structure QB (l:List Int):Prop where
 n:l.length≤9223372036854775807
 v:∀ x∈l,IU x
structure ajB (l:List (List Int)):Prop where
 n:l.length≤9223372036854775807
 v:∀ r∈l,QB r
theorem R4 {n:Nat} (h:n≤maxLen):n≤9223372036854775807:=by unfold maxLen at h;omega
theorem acg {t e:TypeId} (ax:P.underlying t=some (.slice e)) (ce:P.cellsOf e=1) (he:P.underlying e=some (.int .i64)):Jq enc P w t fun u=>∃ l,u=oW l∧QB l:=by
 intro n v y h;obtain ⟨u,aA,aG,aT,l,rfl,bq,bf⟩:=aci ax ce (Q7 he) n v y h;obtain ⟨gu,rfl,bc⟩:=WU bf;exact ⟨_,aA,aG,aT,gu,by simp [oW],by simpa using R4 bq,fun x aj=>wf_i64 (bc x aj)⟩
def TZ (l:List Int):I:=.av (l.map (.int .u8)) l.length .shared
structure ajC (l:List Int):Prop where
 n:l.length≤9223372036854775807
 v:∀ x∈l,0≤x∧x≤255
abbrev Arg (enc:TypeId×Value→H) (P:Program) (w:World) (base:Nat) (t:TypeId) (Q:I→Prop):Prop :=
 ∀ v d p,Value.okWide P w .any base t v→DataW.Trod enc P w 0 (fun _=>true) true t v d p→∃ u,u.plain=true∧Rel [] (S0 w) w u v∧Q u
theorem UZ {base:Nat} {t e:TypeId} (ax:P.underlying t=some (.slice e)) {Q:I→Prop} (ak:Jq enc P w t Q):Arg enc P w base t Q:=by
 intro v d p ad ⟨n,a1⟩;obtain ⟨a,len,cap,rfl⟩:=okWide_slice ax ad;obtain ⟨u,aA,_,aT,bq⟩:=ak n _ _ a1;exact ⟨u,aA,aT,bq⟩
theorem Zr {us:List I} {vs:List Value} (h:us.length=vs.length) (ai:∀ (i:Nat) (u:I) (v:Value),us[i]?=some u→vs[i]?=some v→u.plain=true∧Rel [] (S0 w) w u v):a5 (fun i=>.arg i) (fun _=>none) [] (S0 w) w us vs :=
 ⟨h,fun i u v hu ad=>(ai i u v hu ad).2,fun i u v hu ad=>aU.b3 (ai i u v hu ad).1⟩
theorem Zs {yh:I} {v0:Value} (NM:yh.plain=true) (hQ:Rel [] (S0 w) w yh v0):a5 (fun i=>.arg i) (fun _=>none) [] (S0 w) w [yh] [v0] :=
 Zr rfl fun i u v hu ad=>by
  match i with
  | 0=>simp at hu ad;subst hu;subst ad;exact ⟨NM,hQ⟩
  | i+1=>simp at hu
theorem ahX {yh fx gq:I} {v0 v1 v2:Value} (NM:yh.plain=true) (hQ:Rel [] (S0 w) w yh v0) (bT:fx.plain=true) (aS:Rel [] (S0 w) w fx v1) (b0:gq.plain=true) (bh:Rel [] (S0 w) w gq v2) :
  a5 (fun i=>.arg i) (fun _=>none) [] (S0 w) w [yh,fx,gq] [v0,v1,v2] :=
 Zr rfl fun i u v hu ad=>by
  match i with
  | 0=>simp at hu ad;subst hu;subst ad;exact ⟨NM,hQ⟩
  | 1=>simp at hu ad;subst hu;subst ad;exact ⟨bT,aS⟩
  | 2=>simp at hu ad;subst hu;subst ad;exact ⟨b0,bh⟩
  | i+3=>simp at hu
end
end Go.Proofs.YtkoioidpbbbaiaaGreat.Ab


namespace Go.Proofs.YtkoioidpbbbaiaaGreat.Ab
open Go Go.ChangeShapes Go.WideShapes Go.ChangeAt Go.RowKit
section
variable {H:Type} {enc:TypeId×Value→H} {P:Program} {w:World}
theorem R3 {α β:Type} {f:α→β} {R:α→Prop}:∀ {l:List β},(∀ u∈l,∃ x,u=f x∧R x)→∃ gu:List α,l=gu.map f∧∀ x∈gu,R x
 | [],_=>⟨[],rfl,by simp⟩
 | u::l,h=>by
   obtain ⟨x,rfl,aj⟩:=h u (by simp);obtain ⟨gu,rfl,bj⟩:=R3 (l:=l) fun y aY=>h y (by simp [aY]);exact ⟨x::gu,rfl,by simpa using ⟨aj,bj⟩⟩
def OA (enc:TypeId×Value→H) (P:Program) (w:World) (fs:Array Field) (Ik:List (I→Prop)):Prop :=
 Ik.length=fs.size∧∀ (i:Nat) (f:Field) (q:I→Prop),fs[i]?=some f→Ik[i]?=some q→f.offset=i∧P.cellsOf f.type=1∧Jq enc P w f.type q
def Qz (Ik:List (I→Prop)) (us:List I):Prop:=us.length=Ik.length∧∀ (i:Nat) (u:I) (q:I→Prop),us[i]?=some u→Ik[i]?=some q→q u
theorem ahI {t:TypeId} {fs:Array Field} {Ik:List (I→Prop)} (ax:P.underlying t=some (.struct fs)) (ak:P.cellsOf t=fs.size) (aP:OA enc P w fs Ik) {n:Nat} {cs:List Value} {y:DataW H×List MemPlace}
  (h:DataW.trod enc P w 0 (fun _=>true) true n t cs=some y):∃ us:List I,Qz Ik us∧cs.length=us.length∧∀ (j:Nat) (u:I) (v:Value),us[j]?=some u→cs[j]?=some v→u.plain=true∧v.oneCell'=true∧Rel [] (S0 w) w u v:=by
 obtain ⟨xs,m,_,_,ao,RP,aj⟩:=DataW.trod_struct ax h;rw [ak] at ao;have each:∀ i,i<fs.size→∃ u:I,(∀ v,cs[i]?=some v→u.plain=true∧v.oneCell'=true∧Rel [] (S0 w) w u v)∧∀ q,Ik[i]?=some q→q u:=fun i hi=>by
  have ab:fs[i]?=some fs[i]:=Array.getElem?_eq_getElem hi;have a_:i<Ik.length:=by rw [aP.1];exact hi
  have ae:Ik[i]?=some Ik[i]:=sm a_;obtain ⟨e1,b9,dx⟩:=aP.2 i _ _ ab ae;have aF:=aj i _ ab;rw [e1,b9] at aF;have VX:i<cs.length:=by omega
  rw [sV VX,sm (by omega)] at aF;simp only [List.take_succ_cons,List.take_zero] at aF;obtain ⟨u,aA,aG,aT,bq⟩:=dx _ _ _ aF;refine ⟨u,fun v ad=>?_,fun q Dr=>?_⟩
  ·rw [sm VX] at ad;cases ad;exact ⟨aA,aG,aT⟩
  ·rw [ae] at Dr;cases Dr;exact bq
 obtain ⟨U,r8⟩:=Deep.choose_lt (α:=I) (n:=fs.size) (p:=fun i u=>(∀ v,cs[i]?=some v→u.plain=true∧v.oneCell'=true∧Rel [] (S0 w) w u v)∧∀ q,Ik[i]?=some q→q u) each;have get:∀ (i:Nat) (u:I),((List.range fs.size).map U)[i]?=some u→i<fs.size∧u=U i:=fun i u hu=>by
  have hi:i<fs.size:=by have:=(sd.1 hu).1;simpa using this
  simp [hi] at hu;exact ⟨hi,hu.symm⟩
 refine ⟨(List.range fs.size).map U,⟨by simp [aP.1],fun i u q hu a_=>?_⟩,by simp [ao],fun j u v hu ad=>?_⟩
 ·obtain ⟨hi,rfl⟩:=get i u hu;exact (r8 i hi).2 q a_
 ·obtain ⟨hi,rfl⟩:=get j u hu;exact (r8 j hi).1 v ad
theorem Vm {s:Nat}:∀ {L:List (List I)} {j:Nat} {u:I},(∀ l∈L,l.length=s)→0<s→L.flatten[j]?=some u→∃ l,L[j / s]?=some l∧l[j % s]?=some u
 | [],j,u,_,_,h=>by simp at h
 | l::L,j,u,ao,ah,h=>by
   have aQ:l.length=s:=ao l (by simp);rw [List.flatten_cons] at h;by_cases aw:j<s
   ·rw [sk (by omega)] at h;exact ⟨l,by rw [Nat.div_eq_of_lt aw];rfl,by rw [Nat.mod_eq_of_lt aw];exact h⟩
   ·rw [sv (by omega),aQ] at h;obtain ⟨k,a,b⟩:=Vm (s:=s) (fun x aj=>ao x (by simp [aj])) ah h;(have e1:j / s=(j-s) / s+1:=by rw [Nat.div_eq_sub_div ah (by omega)]);(have b9:j % s=(j-s) % s:=by rw [Nat.mod_eq_sub_mod (by omega)]);exact ⟨k,by rw [e1];simpa using a,by rw [b9];exact b⟩
end
end Go.Proofs.YtkoioidpbbbaiaaGreat.Ab


namespace Go.Proofs.YtkoioidpbbbaiaaGreat.Ab
open Go
instance {d:Nat} {l:List I} [h:qi d l]:qi d (l.map I.g9):=⟨by
 have h:=h.pl;rw [ss] at h ⊢;intro u hu;obtain ⟨v,ad,rfl⟩:=sH.1 hu;have:=h v ad;cases d with
 | zero=>simp [cn] at this
 | succ d=>cases v with
   | av cs n c=>cases c <;> exact this
   | _=>exact this⟩
end Go.Proofs.YtkoioidpbbbaiaaGreat.Ab


namespace Go.Proofs.YtkoioidpbbbaiaaGreat.Ab
open Go
def qx (x:(Int×(Int×Int))):List I:=[(hX x.1),(hX x.2.1),(hX x.2.2)]
theorem H7 (x:(Int×(Int×Int))):(qx x).length=3:=rfl
instance {d:Nat} {x:(Int×(Int×Int))}:qi (d+1) (qx x):=⟨(inferInstance:qi (d+1) [(hX x.1),(hX x.2.1),(hX x.2.2)]).pl⟩
end Go.Proofs.YtkoioidpbbbaiaaGreat.Ab


namespace Go.Proofs.YtkoioidpbbbaiaaGreat.Ab
open Go Go.ChangeShapes Go.WideShapes Go.ChangeAt Go.RowKit
set_option maxRecDepth 100000
section
variable {H:Type} {enc:TypeId×Value→H} {P:Program} {w:World}
def Ja (enc:TypeId×Value→H) (P:Program) (w:World) (t:TypeId) (sz:Nat) (Q:List I→Prop):Prop :=
 ∀ (fuel:Nat) (cs:List Value) (y:DataW H×List MemPlace),DataW.trod enc P w 0 (fun _=>true) true fuel t cs=some y →
   ∃ us:List I,Q us∧us.length=sz∧cs.length=sz∧∀ (j:Nat) (u:I) (v:Value),us[j]?=some u→cs[j]?=some v→u.plain=true∧v.oneCell'=true∧Rel [] (S0 w) w u v
theorem U9 {t:TypeId} {f1 f2:Field} {n1 n2:Nat} {oX lG:List I→Prop} (ax:P.underlying t=some (.struct #[f1,f2])) (ak:P.cellsOf t=n1+n2) (bw:f1.offset=0) (bJ:f2.offset=n1) (a7:P.cellsOf f1.type=n1) (a9:P.cellsOf f2.type=n2) (ab:Ja enc P w f1.type n1 oX) (ae:Ja enc P w f2.type n2 lG) :
  Ja enc P w t (n1+n2) fun us=>∃ a b,us=a++b∧oX a∧lG b:=by
 intro fuel cs y h;obtain ⟨xs,m,_,_,ao,RP,aj⟩:=DataW.trod_struct ax h;rw [ak] at ao;have RP:xs.length=2:=RP;have e1:=aj 0 f1 rfl;have b9:=aj 1 f2 rfl;rw [bw,a7,tu,sm (by omega)] at e1;rw [bJ,a9,sm (by omega)] at b9;obtain ⟨a,aA,aG,aT,bq⟩:=ab _ _ _ e1;obtain ⟨b,bl,cr,eY,lN⟩:=ae _ _ _ b9;refine ⟨a++b,⟨a,b,rfl,aA,bl⟩,by rw [sD];omega,ao,fun j u v hu ad=>?_⟩;by_cases aw:j<n1
 ·rw [sk (by omega)] at hu;exact bq j u v hu (by rw [sL,if_pos aw];exact ad)
 ·rw [sv (by omega)] at hu;have aj2:j-a.length<b.length:=(sd.1 hu).1;refine lN (j-a.length) u v hu ?_;rw [sL,if_pos (by omega),sS,show n1+(j-a.length)=j by omega];exact ad
theorem U6 {t:TypeId} {Q:I→Prop} (h:Jq enc P w t Q) (ah:∀ (fuel:Nat) (cs:List Value) (y:DataW H×List MemPlace),DataW.trod enc P w 0 (fun _=>true) true fuel t cs=some y→cs.length=1):Ja enc P w t 1 fun us=>∃ u,us=[u]∧Q u:=by
 intro fuel cs y aY;have ao:=ah _ _ _ aY
 match cs,ao with
 | [c],_ =>
   obtain ⟨u,aA,aG,aT,bq⟩:=h _ _ _ aY;refine ⟨[u],⟨u,rfl,bq⟩,rfl,rfl,fun j bG v hu ad=>?_⟩
   match j with
   | 0=>simp at hu ad;subst hu;subst ad;exact ⟨aA,aG,aT⟩
   | j+1=>simp at hu
theorem U8 {t:TypeId} {fs:Array Field} {Ik:List (I→Prop)} (ax:P.underlying t=some (.struct fs)) (ak:P.cellsOf t=fs.size) (aP:OA enc P w fs Ik):Ja enc P w t fs.size (Qz Ik):=fun fuel cs y h=>by
 obtain ⟨us,ab,ae,aF⟩:=ahI ax ak aP h;have:=ab.1;have:=aP.1;exact ⟨us,ab,by omega,by omega,aF⟩
theorem abP {base:Nat} {t:TypeId} {fs:Array Field} {sz:Nat} {Q:List I→Prop} (ax:P.underlying t=some (.struct fs)) (aP:Ja enc P w t sz Q):Arg enc P w base t fun u=>∃ us,u=.agg us∧Q us:=by
 intro v d p ad ⟨n,a1⟩;unfold Value.okWide at ad;rw [ax] at ad;obtain ⟨cs,rfl,bQ,_⟩:=ad;obtain ⟨us,ab,ae,GL,aF⟩:=aP _ _ _ a1;have ae:cs.toList.length=us.length:=by rw [ae];exact GL
 refine ⟨.agg us,rfl,.agg us cs (by simpa using ae) (fun u hu=>?_) (fun v ad=>?_) fun j u v hu ad=>?_,us,rfl,ab⟩
 ·obtain ⟨j,aw⟩:=s8.1 hu;have aR:j<cs.toList.length:=by rw [ae];exact (sd.1 aw).1
  exact (aF j u _ aw (sm aR)).1
 ·obtain ⟨j,aw⟩:=s8.1 ad;have aR:j<us.length:=by rw [←ae];exact (sd.1 aw).1
  exact (aF j _ v (sm aR) aw).2.1
 ·exact (aF j u v hu (by show cs.toList[j]?=some v;simpa using ad)).2.2
theorem U5 {t e:TypeId} {sz:Nat} {Q:List I→Prop} (ax:P.underlying t=some (.slice e)) (ak:P.cellsOf e=sz) (aQ:0<sz) (aP:Ja enc P w e sz Q) :
  Jq enc P w t fun u=>∃ L:List (List I),u=.av L.flatten L.length .shared∧L.length≤maxLen∧∀ us∈L,Q us:=by
 intro fuel v x h;rcases Deep.open_slice ax h with ⟨ad,_⟩ | ⟨a,len,cap,m,n,D,QD,ad,_,ao,hm,pP,_,aj⟩
 ·injection ad with ad _;subst ad;exact ⟨_,rfl,rfl,.b2 _ _,[],rfl,sE _,by simp⟩
 ·injection ad with ad _;subst ad;have pP:m=cap:=pP;by_cases CL:cap=0
  ·(subst CL;obtain rfl:len=0:=by omega);exact ⟨_,rfl,rfl,.b2 _ _,[],rfl,sE _,by simp⟩
  ·have each:∀ i,i<len→∃ q:List I×List Value,Q q.1∧q.1.length=sz∧q.2.length=sz∧w.cells? 0 (a.add (i*sz)) sz=some q.2∧∀ (j:Nat) (u:I) (v:Value),q.1[j]?=some u→q.2[j]?=some v→u.plain=true∧v.oneCell'=true∧Rel [] (S0 w) w u v:=fun i hi=>by
    obtain ⟨c7,ab,ae⟩:=aj i (by omega);rw [ak] at ab;obtain ⟨us,bl,cr,eY,lN⟩:=aP _ _ _ ae;exact ⟨(us,c7),bl,cr,eY,ab,lN⟩
   obtain ⟨q0,_,_,O6,_⟩:∃ q:List Value,True∧True∧w.cells? 0 (a.add (0*sz)) sz=some q∧True:=by
    obtain ⟨c7,ab,_⟩:=aj 0 (by omega);rw [ak] at ab;exact ⟨c7,trivial,trivial,ab,trivial⟩
   obtain ⟨b,o,sp⟩:=a;have ah:sp=none:=by
    obtain ⟨_,hlen,bx⟩:=World.cells?_some O6;have:=bx 0 aQ;rw [sm (by omega)] at this;simpa [Addr.add] using World.cell?_spot this
   subst ah;obtain ⟨U,r8⟩:=Deep.choose_lt (α:=List I×List Value) (n:=len) (p:=fun i q=>Q q.1∧q.1.length=sz∧q.2.length=sz∧w.cells? 0 (Addr.add ⟨b,o,none⟩ (i*sz)) sz=some q.2∧∀ (j:Nat) (u:I) (v:Value),q.1[j]?=some u→q.2[j]?=some v→u.plain=true∧v.oneCell'=true∧Rel [] (S0 w) w u v) each;have ac_:∀ i,i<len→(U i).1.length=sz:=fun i hi=>(r8 i hi).2.1;have cY:∀ l∈((List.range len).map fun i=>(U i).1),l.length=sz:=fun l c8=>by
    obtain ⟨i,hi,rfl⟩:=sH.1 c8;exact ac_ i (sJ.1 hi)
   let V:Nat→Value:=fun j=>((U (j / sz)).2)[j % sz]!
   have key:∀ (j:Nat) (u:I),(((List.range len).map fun i=>(U i).1).flatten)[j]?=some u→w.cell? ⟨b,o+j,none⟩=some (V j)∧u.plain=true∧(V j).oneCell'=true∧Rel [] (S0 w) w u (V j):=fun j u aw=>by
    obtain ⟨l,cc,b_⟩:=Vm cY aQ aw;(have hi:j / sz<len:=by have:=(sd.1 cc).1;simpa using this);simp [hi] at cc;subst cc;obtain ⟨a7,B8,a9,br,b5⟩:=r8 _ hi;have KB:j % sz<sz:=Nat.mod_lt _ aQ;have ad:(U (j / sz)).2[j % sz]?=some (V j):=by
     show _=some ((U (j / sz)).2[j % sz]!);rw [sm (by omega),getElem!_pos _ _ (by omega)]
    obtain ⟨_,_,bx⟩:=World.cells?_some br;have J5:=bx (j % sz) KB;rw [ad] at J5;have e:(Addr.add (Addr.add ⟨b,o,none⟩ (j / sz*sz)) (j % sz))=⟨b,o+j,none⟩:=by
     simp only [add_lit];congr 1;have:=Nat.div_add_mod' j sz;omega
    rw [e] at J5;exact ⟨J5,b5 _ _ _ b_ ad⟩
   refine ⟨.av ((List.range len).map fun i=>(U i).1).flatten len .shared,rfl,rfl,.av _ _ _ b o cap V (by simp) ao (by simp) (fun j u aw=>?_) (fun j u aw=>?_),(List.range len).map fun i=>(U i).1,by simp,by simp;omega,fun us hu=>?_⟩
   ·obtain ⟨aJ,aN,b',_⟩:=key j u aw;exact ⟨⟨_,aJ⟩,aJ,aN,b'⟩
   ·exact (key j u aw).2.2.2
   ·obtain ⟨j,aw,rfl⟩:=sH.1 hu;exact (r8 j (sJ.1 aw)).1
end
section
variable {H:Type} {enc:TypeId×Value→H} {w:World} {base:Nat}
def Kr:I→Prop:=fun u=>∃ x,u=hX x∧IU x
theorem OI:Jq enc Tryz.prog w 2 Kr:=fun n v y h=>by
 obtain ⟨u,a,b,c,x,rfl,d⟩:=Q7 (P:=Tryz.prog) Tryz.underlying2 n v y h;exact ⟨_,a,b,c,x,rfl,wf_i64 d⟩
theorem ach:Jq enc Tryz.prog w 3 Kr:=fun n v y h=>by
 obtain ⟨u,a,b,c,x,rfl,d⟩:=Q7 (P:=Tryz.prog) Tryz.underlying3 n v y h;exact ⟨_,a,b,c,x,rfl,wf_i64 d⟩
theorem Xe {us:List I} (h:Qz [Kr,Kr] us):∃ p:Int×Int,us=p_ p∧IU p.1∧IU p.2:=by
 obtain ⟨ao,h⟩:=h
 match us,ao with
 | [a,b],_ =>
   obtain ⟨x,rfl,aj⟩:=h 0 _ _ rfl rfl;obtain ⟨y,rfl,aY⟩:=h 1 _ _ rfl rfl;exact ⟨(x,y),rfl,aj,aY⟩
def TW (us:List I):Prop:=∃ p:Int×Int,us=p_ p∧IU p.1∧IU p.2
theorem Ja.mono {P:Program} {t:TypeId} {n:Nat} {Q R:List I→Prop} (h:Ja enc P w t n Q) (k:∀ us,Q us→R us):Ja enc P w t n R:=fun fuel cs y aY=>by
 obtain ⟨us,ab,ae⟩:=h fuel cs y aY;exact ⟨us,k us ab,ae⟩
theorem acR : OA enc Tryz.prog w #[{ name := "Pull", type := 2, offset := 0, embedded := false, tag := "", pkgPath := "", byteOffset := 0 }, { name := "More", type := 2, offset := 1, embedded := false, tag := "", pkgPath := "", byteOffset := 8 }] [Kr, Kr] := ⟨rfl, fun i f q aP a_ => by
 match i with
 | 0=>simp at aP a_;subst aP;subst a_;exact ⟨rfl,by kernel_rfl,OI⟩
 | 1=>simp at aP a_;subst aP;subst a_;exact ⟨rfl,by kernel_rfl,OI⟩
 | i+2=>simp at a_⟩
theorem acQ : OA enc Tryz.prog w #[{ name := "Lo", type := 2, offset := 0, embedded := false, tag := "", pkgPath := "", byteOffset := 0 }, { name := "Hi", type := 2, offset := 1, embedded := false, tag := "", pkgPath := "", byteOffset := 8 }] [Kr, Kr] := ⟨rfl, fun i f q aP a_ => by
 match i with
 | 0=>simp at aP a_;subst aP;subst a_;exact ⟨rfl,by kernel_rfl,OI⟩
 | 1=>simp at aP a_;subst aP;subst a_;exact ⟨rfl,by kernel_rfl,OI⟩
 | i+2=>simp at a_⟩
theorem U7:Ja enc Tryz.prog w 54 2 TW:=(U8 Tryz.underlying54 (by kernel_rfl) acR).mono fun _ h=>Xe h
theorem acm:Ja enc Tryz.prog w 24 2 TW:=(U8 Tryz.underlying24 (by kernel_rfl) acQ).mono fun _ h=>Xe h
def TU (bp:List (Int×Int)):Prop:=bp.length≤9223372036854775807∧∀ p∈bp,IU p.1∧IU p.2
abbrev TV (bp:List (Int×Int)):I:=.av (bp.flatMap p_) bp.length .shared
theorem acj:Jq enc Tryz.prog w 22 fun u=>∃ bp,u=TV bp∧TU bp:=fun n v y h=>by
 obtain ⟨u,a,b,c,L,rfl,ao,fm⟩:=U5 Tryz.underlying22 (by kernel_rfl) (by decide) U7 n v y h;obtain ⟨bp,rfl,aB⟩:=R3 (f:=p_) (R:=fun p:Int×Int=>IU p.1∧IU p.2) fun us hu=>by
  obtain ⟨p,e,ab,ae⟩:=fm us hu;exact ⟨p,e,ab,ae⟩
 refine ⟨_,a,b,c,bp,?_,by have:=R4 ao;simpa using this,aB⟩;simp [TV,List.flatMap_def]
structure aaX (p:(List (Int×Int))×(Int×Int)):Prop where
 s:TU p.1
 lo:IU p.2.1
 hi:IU p.2.2
theorem afR (fuel:Nat) (cs:List Value) (y:DataW H×List MemPlace) (h:DataW.trod enc Tryz.prog w 0 (fun _=>true) true fuel 22 cs=some y):cs.length=1:=by
 rcases Deep.open_slice Tryz.underlying22 h with ⟨ad,_⟩ | ⟨a,len,cap,m,n,D,QD,ad,_⟩
 ·rw [ad];rfl
 ·rw [ad];rfl
theorem afQ (fuel:Nat) (cs:List Value) (y:DataW H×List MemPlace) (h:DataW.trod enc Tryz.prog w 0 (fun _=>true) true fuel 3 cs=some y):cs.length=1:=by
 obtain ⟨x,aj,_,hw⟩:=DataW.trod_int Tryz.underlying3 h;rw [aj];rfl
theorem Q0:Arg enc Tryz.prog w base 26 fun u=>∃ p:(List (Int×Int))×(Int×Int),u=.agg [.av (p.1.flatMap p_) p.1.length .shared,hX p.2.1,hX p.2.2]∧aaX p:=by
 intro v d p ad a1;obtain ⟨u,a,b,us,rfl,x,y,rfl,⟨fx,rfl,bp,rfl,kO⟩,⟨acH,rfl,ab,ae⟩⟩:=abP (P:=Tryz.prog) (enc:=enc) (w:=w) (base:=base) Tryz.underlying26 (U9 Tryz.underlying26 (by kernel_rfl) rfl rfl (by kernel_rfl) (by kernel_rfl) (U6 acj afR) acm) v d p ad a1;exact ⟨_,a,b,(bp,acH),rfl,kO,ab,ae⟩
theorem abO:Arg enc Tryz.prog w base 32 fun u=>∃ l,u=oW l∧QB l:=UZ Tryz.underlying32 (acg Tryz.underlying32 (by kernel_rfl) Tryz.underlying3)
def TT (l:List (Int×(Int×Int))):Prop:=l.length≤9223372036854775807
theorem abQ:Arg enc Tryz.prog w base 38 fun u=>∃ l,u=.av (l.flatMap qx) l.length .shared∧TT l:=UZ Tryz.underlying38 fun n v y h=>by
 obtain ⟨u,a,b,c,L,rfl,ao,fm⟩:=U5 (sz:=3) Tryz.underlying38 (by kernel_rfl) (by decide) (U9 (n1:=1) (n2:=2) Tryz.underlying62 (by kernel_rfl) rfl rfl (by kernel_rfl) (by kernel_rfl) (U6 ach afQ) U7) n v y h;obtain ⟨bp,rfl,aB⟩:=R3 (f:=qx) (R:=fun _=>True) fun us hu=>by
  obtain ⟨x,z,rfl,⟨fx,rfl,i,rfl,_⟩,⟨q,rfl,_,_⟩⟩:=fm us hu;exact ⟨(i,q),rfl,trivial⟩
 refine ⟨_,a,b,c,bp,?_,by have:=R4 ao;simpa [TT] using this⟩;simp [List.flatMap_def]
end
end Go.Proofs.YtkoioidpbbbaiaaGreat.Ab


namespace Go.Proofs.YtkoioidpbbbaiaaGreat.Ab
open Go
set_option maxRecDepth 20000
set_option maxHeartbeats 4000000
noncomputable def aaQ:gB :=
 p5 [qg 4 0] (p5 [p4 5 1,p4 6 0,p3 7 [.Bs 6] .z4,qJ 8 7 0,qJ 9 8 0,ql 10 9,qZ 11 10,qu 12 11 2 .quo,qp 13 5 12 .sub,p4 4 13] .ret)
theorem afs:qt Tryz.prog UN 77=some (aaQ,14,[.tmp 4]):=by kernel_rfl
def Kn (b:((qj×(Int×Int))×Unit)) (J_:Int):Option Int :=
 qq ((2:Int)≠0) <|
 some (w (J_-(w ((b.1.1.length:Int).tdiv (2:Int)))))
theorem K1 {b:((qj×(Int×Int))×Unit)} {J_:Int} {v:Int} (h:Kn b J_=some v):qv 77 [(.bR [(.av (b.1.1.flatMap p_) b.1.1.length .shared),(hX b.1.2.1),(hX b.1.2.2),Hl]),(hX J_)] (hX v):=by
 refine qN eD afs rfl rfl fun Q bo=>?_;have jG:qK [.tmp 4] Q (fun v=>(hX v)) v:=fun T H bD=>bo _ T H bD;unfold Kn at h;unfold aaQ;conv=>whnf
 refine qD h id fun gJ h=>?_;conv=>whnf
 exact qd h jG rfl rfl

noncomputable def P8:gB :=
 .loop (some (qb false [0,2,5,2,10])) (p5 [p3 9 [.m_ 8,.m_ 7] (.bin .lss)] (.seq (.cond (.m_ 9) .skip (.exit 0)) (.seq (.block 1 (p5 [p6 10 8,p4 5 10] (p5 [p6 11 1,p6 12 0,p6 13 5,rm 14 12 13 1,ql 15 14,qp 16 11 15 .eql] (.cond (.m_ 16) (p5 [p4 17 5,p4 4 17] .ret) .skip)))) (qE [qV 18 8 1,p4 8 18]))))
noncomputable def Z_:gB :=
 p5 [qg 4 0] (.seq (p5 [p6 6 0,qZ 7 6,qg 8 0] (.block 0 P8)) (p5 [qg 4 (-1)] .ret))
theorem aeL:qt Tryz.prog QH 109=some (Z_,19,[.tmp 4]):=by kernel_rfl
def KK (s:qa) (Ig:Int) (qc:Unit→Option Int):Nat→Int→Option Int
 | 0,_=>none
 | m+1,s1 =>
   if (decide (s1<(s.length:Int)))=true then
    qq (0≤s1∧s1<(s.length:Int)) <|
    if (decide (Ig=(ix s s1)))=true then
     some s1
    else
     KK s Ig qc m (w (s1+(1:Int)))
   else
    qc ()
def PN (s:qa) (Ig:Int):Option Int :=
 KK s Ig (fun _ =>
   some (-1:Int)) qh (0:Int)
theorem ail {s:qa} {Ig:Int} {qc:Unit→Option Int} {s1:Int} {v:Int} {Q:rR}   (jG:qK [.tmp 4] Q (fun v=>(hX v)) v) (q':∀ (qe:List I),qc ()=some v→rk 19 [] qe→Q (.exit 0) qe []) {T:List I} (bZ:eW (qb false [0,2,5,2,10]) T=qf 19 [(0,(qy s .shared)),(1,(hX Ig)),(7,(hX (s.length:Int))),(8,(hX s1))]) (h:KK s Ig qc qh s1=some v) :
  dN Tryz.prog QH 109 0 none P8 T [] Q:=by
 unfold P8;refine wp_loop bZ ?_;refine .intro (fun m T H=>∃ (s1:Int),T=qf 19 [(0,(qy s .shared)),(1,(hX Ig)),(7,(hX (s.length:Int))),(8,(hX s1))]∧H=[]∧KK s Ig qc m s1=some v) qh ⟨s1,rfl,rfl,h⟩ ?_;clear h bZ;rintro m T H ⟨s1,rfl,rfl,h⟩;cases m
 ·exact rz h
 rename_i m;rw [KK.eq_2] at h;conv=>whnf
 refine bs h (fun gJ h=>?_) fun gJ h=>?_
 ·rw [gJ];conv=>whnf
  refine qD h id fun gK h=>?_;rw [ri hX s s1 gK];conv=>whnf
  refine bs h (fun qs h=>?_) fun qs h=>?_
  ·rw [qs];(conv=>whnf);exact qd h jG rfl rfl
  ·rw [qs];(conv=>whnf);exact ⟨m,sg m,(w (s1+(1:Int))),rfl,rfl,h⟩
 ·rw [gJ];conv=>whnf
  exact q'  _ h ⟨rfl,rfl⟩
theorem aim {s:qa} {Ig:Int} {v:Int} (h:PN s Ig=some v):qv 109 [(.av (s.map hX) s.length .shared),(hX Ig)] (hX v):=by
 refine qN eD aeL rfl rfl fun Q bo=>?_;have jG:qK [.tmp 4] Q (fun v=>(hX v)) v:=fun T H bD=>bo _ T H bD;unfold PN at h;unfold Z_;obtain ⟨r9,qC⟩:∃ c,P8=c:=⟨_,rfl⟩;rw [qC];conv=>whnf
 subst qC;refine ail ?_ ?_ (by exact rfl) h
 ·exact fun T H bD=>jG T H bD
 ·intro  qe h qz;obtain ⟨rq,rfl⟩:=qz.ex;conv=>whnf
  exact qd h jG rfl rfl

noncomputable def Z8:gB :=
 p5 [p3 4 [.cv (.bool false)] .mR] (p5 [p4 5 0,p4 6 1,p3 7 [.cv (.func 109 [] []),.m_ 5,.m_ 6] (.call 3),qu 8 7 0 .geq,p4 4 8] .ret)
theorem aeJ:qt Tryz.prog T9 100=some (Z8,9,[.tmp 4]):=by kernel_rfl
def Oa (s:qa) (Ig:Int):Option Bool :=
 (PN s Ig).bind fun aS =>
 some (decide ((0:Int)≤aS))
theorem aii {s:qa} {Ig:Int} {v:Bool} (h:Oa s Ig=some v):qv 100 [(.av (s.map hX) s.length .shared),(hX Ig)] (B v):=by
 refine qN eD aeJ rfl rfl fun Q bo=>?_;have jG:qK [.tmp 4] Q (fun v=>(B v)) v:=fun T H bD=>bo _ T H bD;unfold Oa at h;unfold Z8;conv=>whnf
 obtain ⟨aS,gJ,h⟩:=p' h;refine ⟨qi.pl,_,aim gJ,?_⟩;conv=>whnf
 exact qd h jG rfl rfl

noncomputable def TI:gB :=
 .ou true [p3 47 [.m_ 9] (.yM 1),ql 48 47,p6 49 0,p4 50 10,p3 51 [.cv (.func 77 [] []),.m_ 49,.m_ 50] (.call 3),qJ 52 12 1,ql 53 52,qp 54 51 53 .mul,qp 55 48 54 .add,p3 56 [.m_ 9] (.yM 1),⟨none,[.jm 56,.jm 55],none,none,.st 1⟩]
noncomputable def TQ:gB :=
 .seq (rh [p3 37 [.m_ 9] (.yM 0),ql 38 37,p6 39 0,p6 40 10,p3 41 [.cv (.func 77 [] []),.m_ 39,.m_ 40] (.call 3),p3 42 [.m_ 12] (.yM 0),ql 43 42,qp 44 41 43 .mul,qp 45 38 44 .add,p3 46 [.m_ 9] (.yM 0),⟨none,[.jm 46,.jm 45],none,none,.st 1⟩]) TI
noncomputable def TP:gB :=
 .seq (p5 [p6 20 10,qu 21 20 2 .rem,p6 22 2,qp 23 21 22 .neq,p4 24 23,ch 25 [.m_ 3] 24 false .mR,ch 26 [.m_ 10] 24 false .mR,⟨some 27,[.cv (.func 100 [] []),.m_ 25,.m_ 26],some (24,false),none,.call 3⟩,p3 28 [.Bs 24,.cv (.bool true),.Bs 27] .pick] (.cond (.m_ 28) (.exit 1) .skip)) (p5 [p6 29 0,p3 30 [.Bs 29] .z4,qJ 31 30 0,qJ 32 31 0,ql 33 32,p4 34 11,rm 35 33 34 2,p3 36 [.Bs 35] (.zE (.str 2)),p3 12 [] (.alloc [.int .i64 0,.int .i64 0]),⟨none,[.m_ 12,.jm 36],none,none,.st 2⟩] TQ)
noncomputable def Oy:gB :=
 .ou false [qV 57 15 1,p4 15 57]
noncomputable def TN:gB :=
 .seq (.block 1 (p5 [p6 17 15,p3 18 [.m_ 13,.m_ 15] (.kV 1),ql 19 18,p4 10 17,p4 11 19] TP)) Oy
noncomputable def TM:gB :=
 .seq (.cond (.m_ 16) .skip (.exit 0)) TN
noncomputable def Qv:gB :=
 .loop (some (qb false [0,1,1,2,4,2,3,3,43])) (p5 [p3 16 [.m_ 15,.m_ 14] (.bin .lss)] TM)
noncomputable def TL:gB :=
 .block 0 Qv
noncomputable def TK:gB :=
 p5 [p3 58 [.Bs 9] (.zE (.str 2)),⟨none,[.m_ 8,.jm 58],none,none,.st 2⟩] .ret
noncomputable def TJ:gB :=
 .seq (p5 [p4 13 1,p3 14 [.m_ 13] .zJ,qg 15 0] TL) TK
noncomputable def TH:gB :=
 p5 [p3 9 [] (.alloc [.int .i64 0,.int .i64 0])] TJ
noncomputable def aaR:gB :=
 p5 [p3 8 [] (.alloc [.int .i64 0,.int .i64 0])] TH
theorem aft:qt Tryz.prog QW 80=some (aaR,59,[.cell 8 (.str 2)]):=by kernel_rfl
def Ko (b:((qj×(Int×Int))×Unit)) (order:qa) (qn:Int) (without:qa) (qc:Int→Int→Option (Int×Int)):Nat→Int→Int→Int→Option (Int×Int)
 | 0,_,_,_=>none
 | m+1,s1,s2,dh =>
   if (decide (s1<(order.length:Int)))=true then
    qq (0≤s1∧s1<(order.length:Int)) <|
    qq ((2:Int)≠0) <|
    if (decide ((s1.tmod (2:Int))≠qn))=true then
     Ko b order qn without qc m (w (s1+(1:Int))) s2 dh
    else
     (Oa without s1).bind fun aS =>
     if aS=true then
      Ko b order qn without qc m (w (s1+(1:Int))) s2 dh
     else
      qq (0≤(ix order s1)∧(ix order s1)<(b.1.1.length:Int)) <|
      (Kn (b.1,()) s1).bind fun bh =>
      (Kn (b.1,()) s1).bind fun eH =>
      Ko b order qn without qc m (w (s1+(1:Int))) (w (s2+(w (bh*(ix b.1.1 (ix order s1)).1)))) (w (dh+(w (eH*(ix b.1.1 (ix order s1)).2))))
   else
    qc s2 dh
def LX (b:((qj×(Int×Int))×Unit)) (order:qa) (qn:Int) (without:qa):Option (Int×Int) :=
 Ko b order qn without (fun yn oS =>
   some (yn,oS)) qh (0:Int) (0:Int) (0:Int)
theorem ajk {b:((qj×(Int×Int))×Unit)} {order:qa} {qn:Int} {without:qa} {qc:Int→Int→Option (Int×Int)} {s1:Int} {s2:Int} {dh:Int} {v:(Int×Int)} {Q:rR}   (q':∀ (yn oS:Int) (Js:List ar) (qe:List I),qc yn oS=some v→rk 59 [(8,(.ptr 0 0)),(9,(.ptr 1 0))] qe→Q (.exit 0) qe (ar.cells [(hX (0:Int)),(hX (0:Int))]::ar.cells [(hX yn),(hX oS)]::Js)) {T:List I} (bZ:eW (qb false [0,1,1,2,4,2,3,3,43]) T=qf 59 [(0,(.bR [(qY b.1.1 .shared),(hX b.1.2.1),(hX b.1.2.2),Hl])),(2,(hX qn)),(3,(qy without .shared)),(8,(.ptr 0 0)),(9,(.ptr 1 0)),(13,(qy order .shared)),(14,(hX (order.length:Int))),(15,(hX s1))]) (h:Ko b order qn without qc qh s1 s2 dh=some v) :
  dN Tryz.prog QW 80 0 none Qv T [ar.cells [(hX (0:Int)),(hX (0:Int))],ar.cells [(hX s2),(hX dh)]] Q:=by
 unfold Qv;obtain ⟨ajQ,VE⟩:∃ c,TM=c:=⟨_,rfl⟩;rw [VE];refine wp_loop bZ ?_;refine .intro (fun m T H=>∃ (s1 s2 dh:Int) (T3:List ar),T=qf 59 [(0,(.bR [(qY b.1.1 .shared),(hX b.1.2.1),(hX b.1.2.2),Hl])),(2,(hX qn)),(3,(qy without .shared)),(8,(.ptr 0 0)),(9,(.ptr 1 0)),(13,(qy order .shared)),(14,(hX (order.length:Int))),(15,(hX s1))]∧H=(ar.cells [(hX (0:Int)),(hX (0:Int))]::ar.cells [(hX s2),(hX dh)]::T3)∧Ko b order qn without qc m s1 s2 dh=some v) qh ⟨s1,s2,dh,[],rfl,rfl,h⟩ ?_;clear h bZ;rintro m T H ⟨s1,s2,dh,T3,rfl,rfl,h⟩;cases m
 ·exact rz h
 rename_i m;rw [Ko.eq_2] at h;conv=>whnf
 subst VE;unfold TM;obtain ⟨ajR,VF⟩:∃ c,TN=c:=⟨_,rfl⟩;rw [VF];conv=>whnf
 refine bs h (fun gJ h=>?_) fun gJ h=>?_
 ·rw [gJ];conv=>whnf
  subst VF;unfold TN;obtain ⟨ajS,OV⟩:∃ c,Oy=c:=⟨_,rfl⟩;rw [OV];obtain ⟨ajT,VG⟩:∃ c,TP=c:=⟨_,rfl⟩;rw [VG];conv=>whnf
  refine qD h id fun gK h=>?_;rw [ri hX order s1 gK];conv=>whnf
  subst VG;unfold TP;obtain ⟨ajU,VH⟩:∃ c,TQ=c:=⟨_,rfl⟩;rw [VH];conv=>whnf
  refine qD h id fun qs h=>?_;conv=>whnf
  refine bs h (fun qG h=>?_) fun qG h=>?_
  ·rw [qG];(conv=>whnf);subst OV;unfold Oy;(conv=>whnf);exact ⟨m,sg m,(w (s1+(1:Int))),s2,dh,_,rfl,rfl,h⟩
  ·rw [qG];(conv=>whnf);obtain ⟨aS,qW,h⟩:=p' h;refine ⟨qi.pl,_,aii qW,?_⟩;(conv=>whnf);cases aS
   ·(conv=>whnf);replace h:=rp rfl h;refine qD h id fun q8 h=>?_;rw [IY p_ 2 Lo b.1.1 (ix order s1) q8];(conv=>whnf);refine Ew (x:=ar.cells [(hX (0:Int)),(hX (0:Int))]) (by first | exact q6.h | rfl | (simp [sr,I.settle];done)) ?_
    (conv=>whnf);rw [HJ];subst VH;unfold TQ;obtain ⟨ajN,VB⟩:∃ c,TI=c:=⟨_,rfl⟩;rw [VB];(conv=>whnf);obtain ⟨bh,qR,h⟩:=p' h;refine ⟨qi.pl,_,K1 qR,rB,?_⟩;(conv=>whnf);refine Ew (x:=ar.cells [(hX (ix b.1.1 (ix order s1)).1),(hX (ix b.1.1 (ix order s1)).2)]) (by first | exact q6.h | rfl | (simp [sr,I.settle];done)) ?_
    (conv=>whnf);subst VB;unfold TI;(conv=>whnf);obtain ⟨eH,rb,h⟩:=p' h;refine ⟨qi.pl,_,K1 rb,rB,?_⟩;(conv=>whnf);refine Ew (x:=ar.cells [(hX (ix b.1.1 (ix order s1)).1),(hX (ix b.1.1 (ix order s1)).2)]) (by first | exact q6.h | rfl | (simp [sr,I.settle];done)) ?_
    (conv=>whnf);subst OV;unfold Oy;(conv=>whnf);exact ⟨m,sg m,(w (s1+(1:Int))),(w (s2+(w (bh*(ix b.1.1 (ix order s1)).1)))),(w (dh+(w (eH*(ix b.1.1 (ix order s1)).2)))),_,rfl,rfl,h⟩
   ·(conv=>whnf);replace h:=rn rfl h;subst OV;unfold Oy;(conv=>whnf);exact ⟨m,sg m,(w (s1+(1:Int))),s2,dh,_,rfl,rfl,h⟩
 ·rw [gJ];conv=>whnf
  exact q' _ _ _ _ h ⟨rfl,rfl⟩
theorem P6 {b:((qj×(Int×Int))×Unit)} {order:qa} {qn:Int} {without:qa} {v:(Int×Int)} (h:LX b order qn without=some v):qv 80 [(.bR [(.av (b.1.1.flatMap p_) b.1.1.length .shared),(hX b.1.2.1),(hX b.1.2.2),Hl]),(.av (order.map hX) order.length .shared),(hX qn),(.av (without.map hX) without.length .shared)] (.agg [(hX v.1),(hX v.2)]):=by
 refine qN eD aft rfl (H3 (p9 rfl (p9 rfl rfl))) fun Q bo=>?_;have jG:qK [.cell 8 (.str 2)] Q (fun v=>(.agg [(hX v.1),(hX v.2)])) v:=fun T H bD=>bo _ T H bD;unfold LX at h;unfold aaR;obtain ⟨r9,qC⟩:∃ c,TH=c:=⟨_,rfl⟩;rw [qC];conv=>whnf
 subst qC;unfold TH;obtain ⟨J2,rN⟩:∃ c,TJ=c:=⟨_,rfl⟩;rw [rN];conv=>whnf
 subst rN;unfold TJ;obtain ⟨Q4,Jw⟩:∃ c,TK=c:=⟨_,rfl⟩;rw [Jw];obtain ⟨ajP,VD⟩:∃ c,TL=c:=⟨_,rfl⟩;rw [VD];conv=>whnf
 subst VD;unfold TL;obtain ⟨ajO,VC⟩:∃ c,Qv=c:=⟨_,rfl⟩;rw [VC];conv=>whnf
 subst VC;refine ajk ?_ (by exact rfl) h;intro yn oS Js qe h qz;obtain ⟨rq,rfl⟩:=qz.ex;conv=>whnf
 subst Jw;unfold TK;conv=>whnf
 exact qd h jG rfl rfl
end Go.Proofs.YtkoioidpbbbaiaaGreat.Ab


namespace Go.Proofs.YtkoioidpbbbaiaaGreat.Ab
open Go
noncomputable def agN:gB :=
 .ou false [p4 18 8,p3 19 [.m_ 9] (.yM 0),ql 20 19,qJ 21 9 1,ql 22 21,p6 23 2,qp 24 22 23 .mul,qp 25 20 24 .add,p3 26 [.m_ 7,.Bs 18] (.zu 2 1),⟨none,[.jm 26,.jm 25],none,none,.st 1⟩]
noncomputable def agO:gB :=
 p5 [p6 14 0,p6 15 1,p6 16 8,p3 17 [.cv (.func 80 [] []),.m_ 14,.m_ 15,.m_ 16,.cv (.av [] 0 .full)] (.call 3),p3 9 [] (.alloc [.int .i64 0,.int .i64 0]),⟨none,[.m_ 9,.jm 17],none,none,.st 2⟩] agN
noncomputable def agP:gB :=
 .block 1 (p5 [p6 13 11,p4 8 13] agO)
noncomputable def agQ:gB :=
 .seq (p5 [qg 11 0] (.block 0 (.loop (some (qb false [0,3,3,2,3,1,17])) (p5 [p3 12 [.m_ 11,.cv (.int .i64 2)] (.bin .lss)] (.seq (.cond (.m_ 12) .skip (.exit 0)) (.seq agP (qE [qV 27 11 1,p4 11 27]))))))) (p5 [p3 28 [.Bs 7] (.zE (.arr 2)),⟨none,[.m_ 6,.jm 28],none,none,.st 2⟩] .ret)
noncomputable def Yh:gB :=
 p5 [p3 6 [] (.alloc [.int .i64 0, .int .i64 0])] (p5 [p3 7 [] (.alloc [.int .i64 0, .int .i64 0])] (p5 [p3 10 [.m_ 7] (.other (Oper.mk (some 10) (Op.slice 96 (Operand.tmp 7) none none none) 104 "press.go:44" (Array.mk []) none) 0), ⟨none, [.jm 10], none, none, .other (Oper.mk none (Op.call (Call.mk (Callee.builtin Builtin.clear) (Array.mk [Operand.tmp 10]) (Array.mk [104]))) 0 "press.go:44" (Array.mk [Edge.mk 0 Ground.data]) none) 0⟩] agQ))
theorem aeq:qt Go.Proofs.Tryz.prog UH 63=some (Yh,29,[.cell 6 (.arr 2)]):=by kernel_rfl
noncomputable def agy:gB :=
 .ou false [p4 35 5,p6 36 9,p4 37 9,p3 38 [.Bs 37] (.un .neg),p3 39 [.jm 35,.jm 36,.jm 38] .max,p4 5 39]
noncomputable def agz:gB :=
 .block 3 (p5 [p3 34 [.m_ 31, .m_ 32] (.other (Oper.mk (some 34) (Op.index 96 (Operand.tmp 31) (Operand.tmp 32)) 2 "press.go:56" (Array.mk []) none) 0), p4 9 34] agy)
noncomputable def agA:gB :=
 p5 [p6 28 0,p6 29 1,p4 30 7,p3 31 [.cv (.func 63 [] []),.m_ 28,.m_ 29,.m_ 30] (.call 3),qg 32 0] (.block 2 (.loop (some (qb false [0,2,3,1,16,3,6,2,10])) (p5 [p3 33 [.m_ 32,.cv (.int .i64 2)] (.bin .lss)] (.seq (.cond (.m_ 33) .skip (.exit 2)) (.seq agz (qE [qV 40 32 1,p4 32 40]))))))
noncomputable def agB:gB :=
 .block 1 (p5 [p3 26 [.m_ 22,.m_ 24] (.kV 1),ql 27 26,p4 7 27] agA)
noncomputable def agC:gB :=
 .seq (.seq (rh [p6 10 0,p3 11 [.Bs 10] .z4,qJ 12 11 0,qJ 13 12 1,qJ 14 13 0,ql 15 14,p6 16 0,p3 17 [.Bs 16] .z4,qJ 18 17 0,qJ 19 18 1,qJ 20 19 1,ql 21 20,p3 22 [.Bs 15,.Bs 21] (.yB 2 1 [.int .i64 0] [0,1]),p3 23 [.m_ 22] .zJ,qg 24 0]) (.block 0 (.loop (some (qb false [0,2,3,1,16,3,18])) (p5 [p3 25 [.m_ 24,.m_ 23] (.bin .lss)] (.seq (.cond (.m_ 25) .skip (.exit 0)) (.seq agB (qE [qV 41 24 1,p4 24 41]))))))) (p5 [p4 42 5,p4 4 42] .ret)
noncomputable def X5:gB :=
 p5 [qg 4 0] (p5 [qg 5 0] agC)
theorem aek:qt Go.Proofs.Tryz.prog Ut 41=some (X5,43,[.tmp 4]):=by kernel_rfl
end Go.Proofs.YtkoioidpbbbaiaaGreat.Ab


namespace Go.Proofs.YtkoioidpbbbaiaaGreat.Ab
open Go
theorem acT {H:List ar} {id d:Nat} {l r:List I} (h:H[id]?=some (.cells l)) (hm:dZ (bL H 0 H.length 0 d) (l.map I.view)=some r):bL H 0 H.length 0 (d+1) (.ptr id 0)=some (.bR r):=by
 have ab:=(sd.1 h).1;simp only [bL,Nat.not_lt_zero,if_false,h,tu,hm,si];rw [if_neg (by omega)]
theorem Vt {H:List ar} {lo id0 n d id:Nat} (h:¬ id<lo) (aX:id≠id0):bL H lo id0 n (d+1) (.map id)=some .a0:=by
 simp only [bL,if_neg h,if_neg aX]
end Go.Proofs.YtkoioidpbbbaiaaGreat.Ab


namespace Go.Proofs.YtkoioidpbbbaiaaGreat.Ab
open Go
set_option maxRecDepth 20000
set_option maxHeartbeats 4000000
def LU (b:((List (Int×Int))×(Int×Int))×Unit) (order:List Int) (rE:Int):Option (Int×Int) :=
 (LX b order 0 []).bind fun s=>(LX b order 1 []).bind fun t=>some (w (s.1+w (s.2*rE)),w (t.1+w (t.2*rE)))
abbrev lj (b:((List (Int×Int))×(Int×Int))×Unit):I:=.bR [.av (b.1.1.flatMap p_) b.1.1.length .shared,hX b.1.2.1,hX b.1.2.2,Hl]
theorem Tz {b:((List (Int×Int))×(Int×Int))×Unit} {order:List Int} {rE:Int} {v:Int×Int} (h:LU b order rE=some v):qv 63 [lj b,.av (order.map hX) order.length .shared,hX rE] (.agg [hX v.1,hX v.2]):=by
 unfold LU at h;obtain ⟨s,ah,h⟩:=p' h;obtain ⟨t,ax,h⟩:=p' h;obtain rfl:=Option.some.inj h;refine qN eD aeq rfl (H3 (p9 rfl (p9 rfl rfl))) fun Q bo=>?_;unfold Yh;conv=>whnf
 refine ⟨_,_,fun C=>rfl,?_⟩;conv=>whnf
 refine ⟨_,_,fun C=>rfl,?_⟩;conv=>whnf
 refine .intro (fun m T H=>(m=2∧T=qf 29 [(0,lj b),(1,.av (order.map hX) order.length .shared),(2,hX rE),(6,.ptr 0 0),(7,.ptr 1 0),(11,hX 0)]∧H=[.cells [hX 0,hX 0],.cells [hX 0,hX 0]]) ∨
  (m=1∧T=qf 29 [(0,lj b),(1,.av (order.map hX) order.length .shared),(2,hX rE),(6,.ptr 0 0),(7,.ptr 1 0),(11,hX 1)]∧H=[.cells [hX 0,hX 0],.cells [hX (w (s.1+w (s.2*rE))),hX 0],.cells [hX s.1,hX s.2]]) ∨
  (m=0∧T=qf 29 [(0,lj b),(1,.av (order.map hX) order.length .shared),(2,hX rE),(6,.ptr 0 0),(7,.ptr 1 0),(11,hX 2)]∧H=[.cells [hX 0,hX 0],.cells [hX (w (s.1+w (s.2*rE))),hX (w (t.1+w (t.2*rE)))],.cells [hX s.1,hX s.2],.cells [hX t.1,hX t.2]])) 2 (.inl ⟨rfl,rfl,rfl⟩) ?_
 rintro m T H (⟨rfl,rfl,rfl⟩ | ⟨rfl,rfl,rfl⟩ | ⟨rfl,rfl,rfl⟩)
 ·conv=>whnf
  refine ⟨qi.pl,_,P6 ah,?_⟩;conv=>whnf
  refine ⟨by decide,?_⟩;conv=>whnf
  exact ⟨1,by decide,.inr (.inl ⟨rfl,rfl,rfl⟩)⟩
 ·conv=>whnf
  refine ⟨qi.pl,_,P6 ax,?_⟩;conv=>whnf
  refine ⟨by decide,?_⟩;conv=>whnf
  exact ⟨0,by decide,.inr (.inr ⟨rfl,rfl,rfl⟩)⟩
 ·conv=>whnf
  refine ⟨se 2,?_⟩;conv=>whnf
  refine bo _ _ _ ?_;exact ⟨.inr rfl,[.agg [hX (w (s.1+w (s.2*rE))),hX (w (t.1+w (t.2*rE)))]],rfl,_,yW (H3 (p9 rfl (p9 rfl rfl))),rfl⟩
def Kj (b:((List (Int×Int))×(Int×Int))×Unit) (order:List Int):Option Int :=
 (LU b order b.1.2.1).bind fun s=>(LU b order b.1.2.2).bind fun t =>
  some (max (max (max (max (max (max (max (max 0 s.1) (w (-s.1))) s.2) (w (-s.2))) t.1) (w (-t.1))) t.2) (w (-t.2)))
theorem Oh {b:((List (Int×Int))×(Int×Int))×Unit} {order:List Int} {v:Int} (h:Kj b order=some v):qv 41 [lj b,.av (order.map hX) order.length .shared] (hX v):=by
 unfold Kj at h;obtain ⟨s,ah,h⟩:=p' h;obtain ⟨t,ax,h⟩:=p' h;obtain rfl:=Option.some.inj h;refine qN eD aek rfl rfl fun Q bo=>?_;unfold X5;conv=>whnf
 refine .intro (fun m T H=>(m=2∧T=qf 43 [(0,lj b),(1,.av (order.map hX) order.length .shared),(5,hX 0),(22,.av [hX b.1.2.1,hX b.1.2.2] 2 (.own 1)),(23,hX 2),(24,hX 0)]∧H=[])∨(m=1∧T=qf 43 [(0,lj b),(1,.av (order.map hX) order.length .shared),(5,hX (max (max (max (max 0 s.1) (w (-s.1))) s.2) (w (-s.2)))),(22,.av [hX b.1.2.1,hX b.1.2.2] 2 (.own 1)),(23,hX 2),(24,hX 1)]∧H=[])∨(m=0∧T=qf 43 [(0,lj b),(1,.av (order.map hX) order.length .shared),(5,hX (max (max (max (max (max (max (max (max 0 s.1) (w (-s.1))) s.2) (w (-s.2))) t.1) (w (-t.1))) t.2) (w (-t.2)))),(22,.av [hX b.1.2.1,hX b.1.2.2] 2 (.own 1)),(23,hX 2),(24,hX 2)]∧H=[])) 2 (.inl ⟨rfl,rfl,rfl⟩) ?_;rintro m T H (⟨rfl,rfl,rfl⟩ | ⟨rfl,rfl,rfl⟩ | ⟨rfl,rfl,rfl⟩)
 ·conv=>whnf
  refine ⟨by decide,?_⟩;conv=>whnf
  refine ⟨qi.pl,_,Tz ah,?_⟩;conv=>whnf
  refine .intro (fun m T H=>(m=2∧T=qf 43 [(0,lj b),(1,.av (order.map hX) order.length .shared),(5,hX 0),(22,.av [hX b.1.2.1,hX b.1.2.2] 2 (.own 1)),(23,hX 2),(24,hX 0),(31,.agg [hX s.1,hX s.2]),(32,hX 0)]∧H=[])∨(m=1∧T=qf 43 [(0,lj b),(1,.av (order.map hX) order.length .shared),(5,hX (max (max 0 s.1) (w (-s.1)))),(22,.av [hX b.1.2.1,hX b.1.2.2] 2 (.own 1)),(23,hX 2),(24,hX 0),(31,.agg [hX s.1,hX s.2]),(32,hX 1)]∧H=[])∨(m=0∧T=qf 43 [(0,lj b),(1,.av (order.map hX) order.length .shared),(5,hX (max (max (max (max 0 s.1) (w (-s.1))) s.2) (w (-s.2)))),(22,.av [hX b.1.2.1,hX b.1.2.2] 2 (.own 1)),(23,hX 2),(24,hX 0),(31,.agg [hX s.1,hX s.2]),(32,hX 2)]∧H=[])) 2 (.inl ⟨rfl,rfl,rfl⟩) ?_;rintro m T H (⟨rfl,rfl,rfl⟩ | ⟨rfl,rfl,rfl⟩ | ⟨rfl,rfl,rfl⟩)
  ·(conv=>whnf);refine ⟨_,_,fun C=>rfl,?_⟩;(conv=>whnf);exact ⟨1,by decide,.inr (.inl ⟨rfl,rfl,rfl⟩)⟩
  ·(conv=>whnf);refine ⟨_,_,fun C=>rfl,?_⟩;(conv=>whnf);exact ⟨0,by decide,.inr (.inr ⟨rfl,rfl,rfl⟩)⟩
  ·(conv=>whnf);exact ⟨1,by decide,.inr (.inl ⟨rfl,rfl,rfl⟩)⟩
 ·conv=>whnf
  refine ⟨by decide,?_⟩;conv=>whnf
  refine ⟨qi.pl,_,Tz ax,?_⟩;conv=>whnf
  refine .intro (fun m T H=>(m=2∧T=qf 43 [(0,lj b),(1,.av (order.map hX) order.length .shared),(5,hX (max (max (max (max 0 s.1) (w (-s.1))) s.2) (w (-s.2)))),(22,.av [hX b.1.2.1,hX b.1.2.2] 2 (.own 1)),(23,hX 2),(24,hX 1),(31,.agg [hX t.1,hX t.2]),(32,hX 0)]∧H=[])∨(m=1∧T=qf 43 [(0,lj b),(1,.av (order.map hX) order.length .shared),(5,hX (max (max (max (max (max (max 0 s.1) (w (-s.1))) s.2) (w (-s.2))) t.1) (w (-t.1)))),(22,.av [hX b.1.2.1,hX b.1.2.2] 2 (.own 1)),(23,hX 2),(24,hX 1),(31,.agg [hX t.1,hX t.2]),(32,hX 1)]∧H=[])∨(m=0∧T=qf 43 [(0,lj b),(1,.av (order.map hX) order.length .shared),(5,hX (max (max (max (max (max (max (max (max 0 s.1) (w (-s.1))) s.2) (w (-s.2))) t.1) (w (-t.1))) t.2) (w (-t.2)))),(22,.av [hX b.1.2.1,hX b.1.2.2] 2 (.own 1)),(23,hX 2),(24,hX 1),(31,.agg [hX t.1,hX t.2]),(32,hX 2)]∧H=[])) 2 (.inl ⟨rfl,rfl,rfl⟩) ?_;rintro m T H (⟨rfl,rfl,rfl⟩ | ⟨rfl,rfl,rfl⟩ | ⟨rfl,rfl,rfl⟩)
  ·(conv=>whnf);refine ⟨_,_,fun C=>rfl,?_⟩;(conv=>whnf);exact ⟨1,by decide,.inr (.inl ⟨rfl,rfl,rfl⟩)⟩
  ·(conv=>whnf);refine ⟨_,_,fun C=>rfl,?_⟩;(conv=>whnf);exact ⟨0,by decide,.inr (.inr ⟨rfl,rfl,rfl⟩)⟩
  ·(conv=>whnf);exact ⟨0,by decide,.inr (.inr ⟨rfl,rfl,rfl⟩)⟩
 ·conv=>whnf
  exact bo _ _ _ ⟨.inr rfl,_,rfl,_,yW rfl,rfl⟩

noncomputable def aaS:gB :=
 p5 [qg 4 0] (p5 [p4 5 0,p4 6 1,qu 7 6 2 .quo,qp 8 5 7 .sub,p4 4 8] .ret)
theorem afu:qt Tryz.prog UQ 82=some (aaS,9,[.tmp 4]):=by kernel_rfl
def LY (J_ Lj:Int):Option Int :=
 qq ((2:Int)≠0) <|
 some (w (J_-(w (Lj.tdiv (2:Int)))))
theorem Z5 {J_:Int} {Lj:Int} {v:Int} (h:LY J_ Lj=some v):qv 82 [(hX J_),(hX Lj)] (hX v):=by
 refine qN eD afu rfl rfl fun Q bo=>?_;have jG:qK [.tmp 4] Q (fun v=>(hX v)) v:=fun T H bD=>bo _ T H bD;unfold LY at h;unfold aaS;conv=>whnf
 refine qD h id fun gJ h=>?_;conv=>whnf
 exact qd h jG rfl rfl

noncomputable def Qp:gB :=
 .loop (some (qb false [1,4,4,2,34])) (.seq (p5 [p6 12 10,p6 13 1,qZ 14 13,qp 15 12 14 .lss] (.cond (.m_ 15) .skip (.exit 0))) (.seq (.block 1 (p5 [p6 18 10,qu 19 18 2 .rem,p6 20 3,qp 21 19 20 .eql] (.cond (.m_ 21) (.seq (rh [p3 22 [.m_ 4] (.yM 0),ql 23 22,p6 24 1,p6 25 10,rm 26 24 25 1,ql 27 26,rm 28 23 27 2,p3 29 [.Bs 28] (.zE (.str 2)),p3 11 [] (.alloc [.int .i64 0,.int .i64 0]),⟨none,[.m_ 11,.jm 29],none,none,.st 2⟩]) (rh [p4 30 9,p6 31 10,p6 32 1,qZ 33 32,p3 34 [.cv (.func 82 [] []),.m_ 31,.m_ 33] (.call 3),p3 35 [.m_ 11] (.yM 0),ql 36 35,p3 37 [.m_ 11] (.yM 1),ql 38 37,p6 39 2,qp 40 38 39 .mul,qp 41 36 40 .add,qp 42 34 41 .mul,qp 43 30 42 .add,p4 9 43])) .skip))) (qE [p4 16 10,qV 17 16 1,p4 10 17])))
noncomputable def aaJ:gB :=
 p5 [p3 4 [.jm 0] .box,qg 8 0] (p5 [qg 9 0] (.seq (p5 [qg 10 0] (.block 0 Qp)) (p5 [p4 44 9,p4 8 44] .ret)))
theorem afl:qt Tryz.prog QT 65=some (aaJ,45,[.tmp 8]):=by kernel_rfl
def K0 (p:(qj×(Int×Int))) (order:qa) (rE qn:Int) (qc:Int→Option Int):Nat→Int→Int→Option Int
 | 0,_,_=>none
 | m+1,s1,s2 =>
   if (decide (s2<(order.length:Int)))=true then
    qq ((2:Int)≠0) <|
    if (decide ((s2.tmod (2:Int))=qn))=true then
     qq (0≤s2∧s2<(order.length:Int)) <|
     qq (0≤(ix order s2)∧(ix order s2)<(p.1.length:Int)) <|
     (LY s2 (order.length:Int)).bind fun aS =>
     K0 p order rE qn qc m (w (s1+(w (aS*(w ((ix p.1 (ix order s2)).1+(w ((ix p.1 (ix order s2)).2*rE)))))))) (w (s2+(1:Int)))
    else
     K0 p order rE qn qc m s1 (w (s2+(1:Int)))
   else
    qc s1
def JM (p:(qj×(Int×Int))) (order:qa) (rE qn:Int):Option Int :=
 K0 p order rE qn (fun yn =>
   some yn) qh (0:Int) (0:Int)
theorem ajd {p:(qj×(Int×Int))} {order:qa} {rE:Int} {qn:Int} {qc:Int→Option Int} {s1:Int} {s2:Int} {v:Int} {Q:rR}   (q':∀ (yn:Int) (bw:ar) (Js:List ar) (qe:List I),qc yn=some v→rk 45 [(9,(hX yn))] qe→Q (.exit 0) qe (bw::Js)) {T:List I} (bZ:eW (qb false [1,4,4,2,34]) T=qf 45 [(1,(qy order .shared)),(2,(hX rE)),(3,(hX qn)),(4,(.ptr 0 0)),(9,(hX s1)),(10,(hX s2))]) (h:K0 p order rE qn qc qh s1 s2=some v) :
  dN Tryz.prog QT 65 0 none Qp T [ar.cells [(qY p.1 .shared),(hX p.2.1),(hX p.2.2)]] Q:=by
 unfold Qp;refine wp_loop bZ ?_;refine .intro (fun m T H=>∃ (s1 s2:Int) (T2:List ar),T=qf 45 [(1,(qy order .shared)),(2,(hX rE)),(3,(hX qn)),(4,(.ptr 0 0)),(9,(hX s1)),(10,(hX s2))]∧H=(ar.cells [(qY p.1 .shared),(hX p.2.1),(hX p.2.2)]::T2)∧K0 p order rE qn qc m s1 s2=some v) qh ⟨s1,s2,[],rfl,rfl,h⟩ ?_;clear h bZ;rintro m T H ⟨s1,s2,T2,rfl,rfl,h⟩;cases m
 ·exact rz h
 rename_i m;rw [K0.eq_2] at h;conv=>whnf
 refine bs h (fun gJ h=>?_) fun gJ h=>?_
 ·rw [gJ];conv=>whnf
  refine qD h id fun gK h=>?_;conv=>whnf
  refine bs h (fun qs h=>?_) fun qs h=>?_
  ·rw [qs];(conv=>whnf);refine qD h id fun qG h=>?_;rw [ri hX order s2 qG];(conv=>whnf);refine qD h id fun qW h=>?_;rw [IY p_ 2 Lo p.1 (ix order s2) qW];(conv=>whnf);refine Ew (x:=ar.cells [(hX (0:Int)),(hX (0:Int))]) (by first | exact q6.h | rfl | (simp [sr,I.settle];done)) ?_
   (conv=>whnf);rw [HJ];obtain ⟨aS,q8,h⟩:=p' h;refine ⟨(p9 rfl (p9 rfl rfl)),_,Z5 q8,rB,?_⟩;(conv=>whnf);refine Ew (x:=ar.cells [(hX (ix p.1 (ix order s2)).1),(hX (ix p.1 (ix order s2)).2)]) (by first | exact q6.h | rfl | (simp [sr,I.settle];done)) ?_
   (conv=>whnf);refine Ew (x:=ar.cells [(hX (ix p.1 (ix order s2)).1),(hX (ix p.1 (ix order s2)).2)]) (by first | exact q6.h | rfl | (simp [sr,I.settle];done)) ?_
   (conv=>whnf);exact ⟨m,sg m,(w (s1+(w (aS*(w ((ix p.1 (ix order s2)).1+(w ((ix p.1 (ix order s2)).2*rE)))))))),(w (s2+(1:Int))),_,rfl,rfl,h⟩
  ·rw [qs];(conv=>whnf);exact ⟨m,sg m,s1,(w (s2+(1:Int))),_,rfl,rfl,h⟩
 ·rw [gJ];conv=>whnf
  exact q' _ _ _ _ h ⟨rfl,rfl⟩
theorem MZ {p:(qj×(Int×Int))} {order:qa} {rE:Int} {qn:Int} {v:Int} (h:JM p order rE qn=some v):qv 65 [(.agg [(.av (p.1.flatMap p_) p.1.length .shared),(hX p.2.1),(hX p.2.2)]),(.av (order.map hX) order.length .shared),(hX rE),(hX qn)] (hX v):=by
 refine qN eD afl rfl rfl fun Q bo=>?_;have jG:qK [.tmp 8] Q (fun v=>(hX v)) v:=fun T H bD=>bo _ T H bD;unfold JM at h;unfold aaJ;obtain ⟨r9,qC⟩:∃ c,Qp=c:=⟨_,rfl⟩;rw [qC];conv=>whnf
 subst qC;refine ajd ?_ (by exact rfl) h;intro yn bw Js qe h qz;obtain ⟨rq,rfl⟩:=qz.ex;conv=>whnf
 exact qd h jG rfl rfl
end Go.Proofs.YtkoioidpbbbaiaaGreat.Ab


namespace Go.Proofs.YtkoioidpbbbaiaaGreat.Ab
open Go
set_option maxRecDepth 20000
set_option maxHeartbeats 1000000
abbrev qM:=Int×Int
def q5:Nat→(Nat→Int)→Int
 | 0,_=>0
 | n+1,g=>q5 n g+g n
theorem N7 {n:Nat} {g h:Nat→Int} (e:∀ i,i<n→g i=h i):q5 n g=q5 n h:=by
 induction n with
 | zero=>rfl
 | succ n a8=>simp only [q5];rw [a8 fun i hi=>e i (by omega),e n (by omega)]
theorem Lv {n:Nat} {g:Nat→Int} {B:Int} (e:∀ i,i<n → -B≤g i∧g i≤B):-(n*B)≤q5 n g∧q5 n g≤n*B:=by
 induction n with
 | zero=>simp [q5]
 | succ n a8 =>
   obtain ⟨ab,ae⟩:=a8 fun i hi=>e i (by omega);obtain ⟨aF,ba⟩:=e n (by omega);simp only [q5]
   have:((n+1:Nat):Int)*B=n*B+B:=by rw [Int.natCast_add,Int.add_mul];simp
   omega
theorem ahJ (n:Nat) (g h:Nat→Int):q5 n (fun i=>g i+h i)=q5 n g+q5 n h:=by
 induction n with
 | zero=>rfl
 | succ n a8=>simp only [q5,a8];omega
theorem Y2 (n:Nat) (g:Nat→Int) (c:Int):q5 n (fun i=>c*g i)=c*q5 n g:=by
 induction n with
 | zero=>simp [q5]
 | succ n a8=>simp only [q5,a8,Int.mul_add]
theorem Hy {a b A B:Int} (h:-A≤a∧a≤A) (k:-B≤b∧b≤B):-(A*B)≤a*b∧a*b≤A*B:=by
 have ab:a.natAbs*b.natAbs≤A.natAbs*B.natAbs:=Nat.mul_le_mul (by omega) (by omega);have ae:(a*b).natAbs≤A.natAbs*B.natAbs:=by rw [Int.natAbs_mul];exact ab
 have aF:((A.natAbs*B.natAbs:Nat):Int)=A*B:=by
  rw [Int.natCast_mul,Int.natAbs_of_nonneg (by omega),Int.natAbs_of_nonneg (by omega)]
 omega
def qO (S:List qM) (o:List Int) (i:Nat):qM:=ix S (ix o (i:Int))
def qH (n i:Nat):Int:=(i:Int)-((n / 2:Nat):Int)
def qI (S:List qM) (o:List Int) (a:Nat) (W:List Int) (f:qM→Int):Int:=q5 o.length fun i=>if i % 2=a∧(i:Int) ∉ W then qH o.length i*f (qO S o i) else 0
def r1 (S:List qM) (o:List Int) (a:Nat) (f:qM→Int):Int:=q5 o.length fun i=>if i % 2=a then qH o.length i*f (qO S o i) else 0
theorem NJ (S:List qM) (o:List Int) (a:Nat) (f:qM→Int):qI S o a [] f=r1 S o a f:=N7 fun i _=>by simp
def JZ (S:List qM) (o:List Int):Prop:=∀ i:Nat,i<o.length→0≤ix o (i:Int)∧ix o (i:Int)<(S.length:Int)
def q2 (s:qM):Prop:=0≤s.1∧s.1≤100∧-10≤s.2∧s.2≤10
instance (s:qM):Decidable (q2 s):=by unfold q2;exact inferInstance
theorem Iu {S:List qM} {o:List Int} (cl:∀ s∈S,q2 s) (jG:JZ S o) {i:Nat} (hi:i<o.length):q2 (qO S o i):=cl _ (J8 (jG i hi))
def re (d:Int) (s:qM):Int:=s.1+s.2*d
theorem L7 {d:Int} {s:qM} (ah:q2 s) (a1:0≤d∧d≤50):-600≤re d s∧re d s≤600:=by
 have:=Hy (a:=s.2) (b:=d) (A:=10) (B:=50) ⟨ah.2.2.1,ah.2.2.2⟩ ⟨by omega,a1.2⟩;have ab:=ah.1;have ae:=ah.2.1;unfold re;omega
theorem KF {n i:Nat} (hi:i<n) (aI:n≤10):-10≤qH n i∧qH n i≤10:=by unfold qH;omega
theorem ME {n i:Nat} {v B:Int} {q:Prop} [Decidable q] (hi:i<n) (aI:n≤10) (Jx:0≤B) (h:-B≤v∧v≤B):-(10*B)≤(if q then qH n i*v else 0)∧(if q then qH n i*v else 0)≤10*B:=by
 by_cases ab:q
 ·rw [if_pos ab];exact Hy (KF hi aI) h
 ·rw [if_neg ab];omega
theorem R5 {S:List qM} {o:List Int} {a:Nat} {W:List Int} {f:qM→Int} {B:Int} (aq:o.length≤10) (Jx:0≤B) (h:∀ i,i<o.length → -B≤f (qO S o i)∧f (qO S o i)≤B):-(100*B)≤qI S o a W f∧qI S o a W f≤100*B:=by
 have:=Lv (n:=o.length) (g:=fun i=>if i % 2=a∧(i:Int) ∉ W then qH o.length i*f (qO S o i) else 0) (B:=10*B) fun i hi=>ME hi aq Jx (h i hi);have ae:=Int.mul_le_mul_of_nonneg_right (show (o.length:Int)≤10 by omega) (show 0≤10*B by omega);unfold qI;omega
theorem afG {S:List qM} {o:List Int} {a:Nat} {f:qM→Int} {B:Int} (aq:o.length≤10) (Jx:0≤B) (h:∀ i,i<o.length → -B≤f (qO S o i)∧f (qO S o i)≤B):-(100*B)≤r1 S o a f∧r1 S o a f≤100*B:=by
 rw [←NJ];exact R5 aq Jx h
theorem TE {n i:Nat} (hi:i<n) (aI:n≤10):LY (i:Int) (n:Int)=some (qH n i):=by
 unfold LY;rw [qw (by decide)];have e:(n:Int).tdiv 2=((n / 2:Nat):Int):=by rw [Int.tdiv_eq_ediv_of_nonneg (by omega)];omega
 rw [e,qF (n:=((n / 2:Nat):Int)) (by omega),qF (by omega)];rfl
theorem Lw (i:Nat):(i:Int).tmod 2=((i % 2:Nat):Int):=by rw [Int.tmod_eq_emod_of_nonneg (by omega)];omega
theorem Wv {p:(List qM)×(Int×Int)} {o:List Int} {d:Int} {a:Nat} {kl:Int→Option Int} (cl:∀ s∈p.1,q2 s) (jG:JZ p.1 o) (aq:o.length≤10) (a1:0≤d∧d≤50) :
  ∀ (m i:Nat),i≤o.length→o.length-i<m→K0 p o d (a:Int) kl m (q5 i fun i=>if i % 2=a then qH o.length i*re d (qO p.1 o i) else 0) (i:Int)=kl (r1 p.1 o a (re d))
 | 0,_,_,h=>absurd h (by omega)
 | m+1,i,hi,hm=>by
   rw [K0];by_cases aR:i<o.length
   ·rw [if_pos (decide_eq_true (by omega)),qw (by decide),Lw,Hq i (by omega)];have a8:=Wv (kl:=kl) (a:=a) cl jG aq a1 m (i+1) (by omega) (by omega);by_cases a_:i % 2=a
    ·rw [if_pos (decide_eq_true (by omega)),qw (by omega),qw (jG i aR),TE aR aq,sc];have al:=Iu cl jG aR;have bl:=Hy (a:=(qO p.1 o i).2) (b:=d) (A:=10) (B:=50) ⟨al.2.2.1,al.2.2.2⟩ ⟨by omega,a1.2⟩;have cr:=L7 al a1;have eY:=Hy (KF aR aq) cr;have lN:=Lv (n:=i) (g:=fun i=>if i % 2=a then qH o.length i*re d (qO p.1 o i) else 0) (B:=6000) fun j aw=>ME (B:=600) (by omega) aq (by omega) (L7 (Iu cl jG (by omega)) a1);have e1:ix p.1 (ix o (i:Int))=qO p.1 o i:=rfl;rw [e1,qF (n:=(qO p.1 o i).2*d) (by omega)];rw [show (qO p.1 o i).1+(qO p.1 o i).2*d=re d (qO p.1 o i) from rfl,qF (n:=re d (qO p.1 o i)) (by omega),qF (n:=qH o.length i*re d (qO p.1 o i)) (by omega),qF (by omega)];simp only [q5,if_pos a_] at a8;exact a8
    ·rw [if_neg (by simpa using by omega)];simp only [q5,if_neg a_,tJ] at a8;exact a8
   ·(obtain rfl:i=o.length:=by omega);rw [if_neg (by simp)];rfl
theorem r5 {n:Nat} (h:n≤1000000):n<qh:=by unfold qh;omega
theorem ajc {p:(List qM)×(Int×Int)} {o:List Int} {d:Int} {a:Nat} (cl:∀ s∈p.1,q2 s) (jG:JZ p.1 o) (aq:o.length≤10) (a1:0≤d∧d≤50):JM p o d (a:Int)=some (r1 p.1 o a (re d)):=by
 unfold JM;exact Wv cl jG aq a1 qh 0 (by omega) (r5 (by omega))
theorem P4 {b:((List (Int×Int))×(Int×Int))×Unit} {n i:Nat} (aI:n≤10) (af:b.1.1.length=n) (hi:i<n):Kn b (i:Int)=some (qH n i):=by
 have:=TE hi aI;unfold LY at this;unfold Kn;rw [af];exact this
theorem Wd {W:List Int} (l9:W.length≤1000) {v:Int}:∀ (m i:Nat),i≤W.length→W.length-i<m→(∀ j,j<i→ix W (j:Int)≠v)→∃ r,KK W v (fun _=>some (-1:Int)) m (i:Int)=some r∧decide (0≤r)=decide (v∈W)
 | 0,_,_,h,_=>absurd h (by omega)
 | m+1,i,hi,hm,ad=>by
   rw [KK];by_cases aR:i<W.length
   ·rw [if_pos (decide_eq_true (by omega)),qw (by omega)];by_cases he:v=ix W (i:Int)
    ·rw [if_pos (decide_eq_true he)];refine ⟨_,rfl,?_⟩;rw [decide_eq_true (by omega),decide_eq_true (by rw [he];exact J8 (by omega))]
    ·rw [if_neg (by simpa using he),Hq i (by omega)];refine Wd l9 m (i+1) (by omega) (by omega) fun j aw=>?_;by_cases gf:j=i
     ·subst gf;exact fun e=>he e.symm
     ·exact ad j (by omega)
   ·rw [if_neg (by simpa using by omega)];refine ⟨-1,rfl,?_⟩;rw [decide_eq_false (by omega),decide_eq_false];intro nL;obtain ⟨j,aw,e⟩:=List.getElem_of_mem nL;refine ad j (by omega) ?_;rw [rH aw];exact e
theorem aih (W:List Int) (l9:W.length≤1000) (v:Int):Oa W v=some (decide (v∈W)):=by
 unfold Oa PN;obtain ⟨r,ab,ae⟩:=Wd (W:=W) l9 (v:=v) qh 0 (by omega) (r5 (by omega)) (fun j aw=>absurd aw (by omega));have iO:KK W v (fun _=>some (-1:Int)) qh 0=some r:=ab;rw [iO,sc,ae]
theorem Wy {b:((List (Int×Int))×(Int×Int))×Unit} {o:List Int} {W:List Int} {a:Nat} {kl:Int→Int→Option (Int×Int)} (cl:∀ s∈b.1.1,q2 s) (jG:JZ b.1.1 o) (aq:o.length≤10) (aI:b.1.1.length=o.length) (l9:W.length≤1000) :
  ∀ (m i:Nat),i≤o.length→o.length-i<m →
    Ko b o (a:Int) W kl m (i:Int) (q5 i fun i=>if i % 2=a∧(i:Int) ∉ W then qH o.length i*(qO b.1.1 o i).1 else 0) (q5 i fun i=>if i % 2=a∧(i:Int) ∉ W then qH o.length i*(qO b.1.1 o i).2 else 0)=kl (qI b.1.1 o a W Prod.fst) (qI b.1.1 o a W Prod.snd)
 | 0,_,_,h=>absurd h (by omega)
 | m+1,i,hi,hm=>by
   rw [Ko];by_cases aR:i<o.length
   ·rw [if_pos (decide_eq_true (by omega)),qw (by omega),qw (by decide),Lw,Hq i (by omega)];have a8:=Wy (kl:=kl) (a:=a) (W:=W) cl jG aq aI l9 m (i+1) (by omega) (by omega);by_cases a_:i % 2=a
    ·rw [if_neg (by simpa using by omega),aih W l9,sc];by_cases hw:(i:Int)∈W
     ·rw [if_pos (decide_eq_true hw)];simp only [q5,hw,not_true_eq_false,and_false,if_false,tJ] at a8;exact a8
     ·rw [if_neg (by simpa using hw),qw (jG i aR),P4 aq aI aR,sc,sc];have al:=Iu cl jG aR;have eY:=Hy (KF aR aq) (b:=(qO b.1.1 o i).1) (B:=100) ⟨by have:=al.1;omega,al.2.1⟩;have abT:=Hy (KF aR aq) (b:=(qO b.1.1 o i).2) (B:=10) ⟨al.2.2.1,al.2.2.2⟩;have lN:=Lv (n:=i) (g:=fun i=>if i % 2=a∧(i:Int) ∉ W then qH o.length i*(qO b.1.1 o i).1 else 0) (B:=1000) fun j aw=>ME (B:=100) (by omega) aq (by omega) (by have:=Iu cl jG (i:=j) (by omega);exact ⟨by have:=this.1;omega,this.2.1⟩);have abU:=Lv (n:=i) (g:=fun i=>if i % 2=a∧(i:Int) ∉ W then qH o.length i*(qO b.1.1 o i).2 else 0) (B:=100) fun j aw=>ME (B:=10) (by omega) aq (by omega) (by have:=Iu cl jG (i:=j) (by omega);exact ⟨this.2.2.1,this.2.2.2⟩);have e1:ix b.1.1 (ix o (i:Int))=qO b.1.1 o i:=rfl;rw [e1,qF (n:=qH o.length i*(qO b.1.1 o i).1) (by omega),qF (n:=qH o.length i*(qO b.1.1 o i).2) (by omega),qF (by omega),qF (by omega)];simp only [q5,if_pos (show i % 2=a∧(i:Int) ∉ W from ⟨a_,hw⟩)] at a8;exact a8
    ·rw [if_pos (by simpa using by omega)];simp only [q5,a_,false_and,if_false,tJ] at a8;exact a8
   ·(obtain rfl:i=o.length:=by omega);rw [if_neg (by simp)];rfl
theorem P5 {b:((List (Int×Int))×(Int×Int))×Unit} {o:List Int} {W:List Int} {a:Nat} (cl:∀ s∈b.1.1,q2 s) (jG:JZ b.1.1 o) (aq:o.length≤10) (aI:b.1.1.length=o.length) (l9:W.length≤1000) :
  LX b o (a:Int) W=some (qI b.1.1 o a W Prod.fst,qI b.1.1 o a W Prod.snd):=by
 unfold LX;exact Wy cl jG aq aI l9 qh 0 (by omega) (r5 (by omega))
theorem Mn (S:List qM) (o:List Int) (a:Nat) (W:List Int) (d:Int):qI S o a W (re d)=qI S o a W Prod.fst+qI S o a W Prod.snd*d:=by
 unfold qI;rw [Int.mul_comm _ d,←Y2,←ahJ];refine N7 fun i _=>?_;by_cases h:i % 2=a∧(i:Int) ∉ W
 ·simp only [if_pos h,re];grind
 ·simp only [if_neg h];omega
theorem afI (S:List qM) (o:List Int) (a:Nat) (d:Int):r1 S o a (re d)=r1 S o a Prod.fst+r1 S o a Prod.snd*d:=by
 simp only [←NJ];exact Mn S o a [] d
theorem Ni {S:List qM} {o:List Int} {a:Nat} {W:List Int} (cl:∀ s∈S,q2 s) (jG:JZ S o) (aq:o.length≤10):-10000≤qI S o a W Prod.fst∧qI S o a W Prod.fst≤10000 :=
 R5 (B:=100) aq (by omega) fun i hi=>by have:=Iu cl jG hi;exact ⟨by have:=this.1;omega,this.2.1⟩
theorem N5 {S:List qM} {o:List Int} {a:Nat} {W:List Int} (cl:∀ s∈S,q2 s) (jG:JZ S o) (aq:o.length≤10):-1000≤qI S o a W Prod.snd∧qI S o a W Prod.snd≤1000 :=
 R5 (B:=10) aq (by omega) fun i hi=>by have:=Iu cl jG hi;exact ⟨this.2.2.1,this.2.2.2⟩
theorem Ty {b:((List (Int×Int))×(Int×Int))×Unit} {o:List Int} {d:Int} (cl:∀ s∈b.1.1,q2 s) (jG:JZ b.1.1 o) (aq:o.length≤10) (aI:b.1.1.length=o.length) (a1:0≤d∧d≤50) :
  LU b o d=some (r1 b.1.1 o 0 (re d),r1 b.1.1 o 1 (re d)):=by
 unfold LU;have aQ:=P5 (W:=[]) (a:=0) cl jG aq aI (by simp);have ab:=P5 (W:=[]) (a:=1) cl jG aq aI (by simp);rw [show ((0:Nat):Int)=0 from rfl] at aQ;rw [show ((1:Nat):Int)=1 from rfl] at ab;rw [aQ,ab,sc,sc];have one:∀ a,w (qI b.1.1 o a [] Prod.fst+w (qI b.1.1 o a [] Prod.snd*d))=r1 b.1.1 o a (re d):=fun a=>by
  have a7:=Ni (a:=a) (W:=[]) cl jG aq;have a9:=N5 (a:=a) (W:=[]) cl jG aq;have br:=Hy (b:=d) (B:=50) a9 ⟨by omega,a1.2⟩;rw [qF (n:=qI b.1.1 o a [] Prod.snd*d) (by omega),qF (by omega),←Mn,NJ]
 simp only [one]
end Go.Proofs.YtkoioidpbbbaiaaGreat.Ab


namespace Go.Proofs.YtkoioidpbbbaiaaGreat.Ab
def qU:Nat→List Int→List (List Int)
 | 0,_=>[[]]
 | n+1,left=>left.flatMap fun x=>(qU n (left.erase x)).map (x::·)
def I6:List Int→List Int→Option (List Int)
 | _,[]=>none
 | left,x::r=>match I6 (left.erase x) r with
   | some r'=>some (x::r')
   | none=>match left.find? (fun y=>decide (x<y)) with
     | some y=>some (y::left.erase y)
     | none=>none
theorem Ma {left:List Int} {x:Int} {n:Nat} (ao:left.length=n+1) (aj:x∈left):(left.erase x).length=n:=by
 rw [List.length_erase_of_mem aj,ao];rfl
theorem acN {left:List Int} {x:Int} (h:left.Pairwise (·<·)):(left.erase x).Pairwise (·<·):=h.sublist List.erase_sublist
theorem S1 {left:List Int} (h:left.Pairwise (·<·)):left.Nodup:=h.imp fun h e=>by omega
theorem RX:∀ (n:Nat) (left:List Int),left.length=n→qU n left≠[]
 | 0,_,_=>by simp [qU]
 | n+1,[],h=>by simp at h
 | n+1,x::s,h=>by
   have:=RX n ((x::s).erase x) (Ma h (by simp));simp only [qU,uo];intro e;exact this (by simpa using (List.append_eq_nil_iff.1 e).1)
theorem RW:∀ (n:Nat) (left:List Int),left.length=n→(qU n left)[0]?=some left
 | 0,left,h=>by rw [sT.1 h];rfl
 | n+1,[],h=>by simp at h
 | n+1,x::s,h=>by
   (have e:(x::s).erase x=s:=by simp);have a8:=RW n s (by simpa using h);simp only [qU,uo,e];have O5:0<((qU n s).map (x::·)).length:=by
    rw [sZ];exact vJ.2 (RX n s (by simpa using h))
   rw [sk O5,sq,a8];rfl
theorem WG:∀ (n:Nat) (left:List Int),left.Pairwise (·<·)→left.length=n→∀ (i:Nat) (h:i<(qU n left).length),I6 left (qU n left)[i]=(qU n left)[i+1]?
 | 0,left,_,_,i,h=>by
   have:i=0:=by simp [qU] at h;exact h
   subst this;rfl
 | n+1,left,ah,ao,i,h=>by
   have key:∀ (s p:List Int),left=p++s→∀ (i:Nat) (h:i<(s.flatMap fun x=>(qU n (left.erase x)).map (x::·)).length),
     I6 left (s.flatMap fun x=>(qU n (left.erase x)).map (x::·))[i]=(s.flatMap fun x=>(qU n (left.erase x)).map (x::·))[i+1]?:=by
    intro s
    induction s with
    | nil=>intro p aB i h;simp at h
    | cons x s a8 =>
      intro p aB i h;(have aj:x∈left:=by rw [aB];simp);have CI:((qU n (left.erase x)).map (x::·)).length=(qU n (left.erase x)).length:=sZ ..;simp only [uo] at h ⊢;by_cases hi:i<(qU n (left.erase x)).length
      ·rw [List.getElem_append_left (by omega),tX];have aI:=WG n (left.erase x) (acN ah) (Ma ao aj) i hi;rw [I6,aI];by_cases RJ:i+1<(qU n (left.erase x)).length
       ·rw [sk (by omega),sq,sm RJ];rfl
       ·rw [List.getElem?_eq_none (by omega),sv (by omega),CI,show i+1-(qU n (left.erase x)).length=0 by omega];have aP:left.find? (fun y=>decide (x<y))=s.head?:=by
         rw [aB] at ah;rw [aB,List.find?_append];obtain ⟨ab,ae,aF⟩:=List.pairwise_append.1 ah;have e1:p.find? (fun y=>decide (x<y))=none:=List.find?_eq_none.2 fun y aY=>by
          have:=aF y aY x (by simp);simp;omega
         rw [e1,Option.none_or,List.find?_cons_of_neg (by simp)];cases s with
         | nil=>rfl
         | cons y s =>
           rw [List.find?_cons_of_pos]
           ·rfl
           ·have:=(List.pairwise_cons.1 ae).1 y (by simp);simpa using this
        rw [aP];cases s with
        | nil=>rfl
        | cons y s =>
          simp only [List.head?_cons,uo];(have aY:y∈left:=by rw [aB];simp);have O5:0<((qU n (left.erase y)).map (y::·)).length:=by
           rw [sZ];exact vJ.2 (RX n _ (Ma ao aY))
          rw [sk O5,sq,RW n _ (Ma ao aY)];rfl
      ·rw [List.getElem_append_right (by omega),sv (by omega)];have adB:=h;rw [sD] at adB;have:=a8 (p++[x]) (by rw [aB];simp) (i-((qU n (left.erase x)).map (x::·)).length) (by omega);rw [this];congr 1;omega
   exact key left [] rfl i h
theorem Pb:∀ (n:Nat) (left l:List Int),left.length=n→(l∈qU n left↔l.Perm left)
 | 0,left,l,h=>by
   rw [sT.1 h];simp [qU]
 | n+1,left,l,h=>by
   simp only [qU,tW,sH];constructor
   ·rintro ⟨x,aj,r,ai,rfl⟩;have:=(Pb n (left.erase x) r (Ma h aj)).1 ai;exact (this.cons x).trans (vK aj).symm
   ·intro aB;cases l with
    | nil=>have:=aB.length_eq;simp at this;omega
    | cons x r =>
      have aj:x∈left:=aB.mem_iff.1 (by simp);refine ⟨x,aj,r,(Pb n (left.erase x) r (Ma h aj)).2 ?_,rfl⟩;exact (List.perm_cons x).1 (aB.trans (vK aj))
theorem aea {n:Nat} {left l:List Int} (h:left.length=n) (ao:l∈qU n left):l.length=n:=by
 rw [((Pb n left l h).1 ao).length_eq,h]
end Go.Proofs.YtkoioidpbbbaiaaGreat.Ab


namespace Go.Proofs.YtkoioidpbbbaiaaGreat.Ab
open Go
noncomputable def Yi:gB :=
 p5 [⟨some 6, [.jm 3], none, some 3, .Bq⟩, p3 7 [.cv (.func 86 [] []), .jm 6] (.call 1)] (p5 [⟨some 8, [.jm 3], none, some 3, .other (Oper.mk (some 8) (Op.move (Operand.tmp 3)) 32 "iter.go:69" (Array.mk []) none) 2⟩, p4 2 8] .ret)
noncomputable def SG:gB :=
 p5 [p3 2 [.cv (.av [] 0 .full)] (.nil 1)] (p5 [p4 4 0,p3 5 [.cv (.func 85 [] []),.m_ 4] (.call 0),p4 3 5] Yi)
theorem WL:qt Go.Proofs.Tryz.prog UI 67=some (SG,9,[.tmp 2]):=by kernel_rfl
noncomputable def Yr:gB :=
 p5 [p3 2 [.cv (.av [] 0 .full)] (.nil 1)] (p5 [p4 3 0,p3 4 [.cv (.func 102 [] []),.cv (.av [] 0 .full),.m_ 3] (.call 0),p4 2 4] .ret)
theorem aet:qt Go.Proofs.Tryz.prog US 85=some (Yr,5,[.tmp 2]):=by kernel_rfl
noncomputable def ag9:gB :=
 p5 [p6 11 0,p4 12 4,p3 13 [.jm 11,.jm 12] (.call 1),p3 14 [.Bs 13] (.un .not)] (.cond (.m_ 14) .ret .skip)
noncomputable def ag_:gB :=
 .block 1 (p5 [p3 9 [.m_ 5,.m_ 7] (.kV 1),ql 10 9,p4 4 10] ag9)
noncomputable def Ys:gB :=
 p5 [ql 5 1,p3 6 [.m_ 5] .zJ,qg 7 0] (.block 0 (.loop (some (qb false [0,1,4,3,8])) (p5 [p3 8 [.m_ 7,.m_ 6] (.bin .lss)] (.seq (.cond (.m_ 8) .skip (.exit 0)) (.seq ag_ (qE [qV 15 7 1,p4 7 15]))))))
theorem aeu:qt Go.Proofs.Tryz.prog UU 87=some (Ys,16,[]):=by kernel_rfl
noncomputable def XJ:gB :=
 p5 [p3 2 [.jm 0] .box,p3 4 [.cv (.av [] 0 .full)] (.nil 1)] (.seq (p5 [p4 6 1] (.block 0 (.AM (.m_ 6) [7] (rC Go.Proofs.Tryz.prog 102 0) (rD Go.Proofs.Tryz.prog 102 0)))) (p5 [p3 12 [.Bs 2] .take,p4 4 12] .ret))
theorem aec:qt Go.Proofs.Tryz.prog JP 102=some (XJ,13,[.tmp 4]):=by kernel_rfl
end Go.Proofs.YtkoioidpbbbaiaaGreat.Ab


namespace Go.Proofs.YtkoioidpbbbaiaaGreat.Ab
open Go
set_option maxRecDepth 20000
set_option maxHeartbeats 4000000
noncomputable def Yt:gB :=
 .ou false [p3 5 [.jm 7] .mR]
theorem aev:eu Tryz.prog JP (rC Tryz.prog 102 0) 0=some Yt:=by kernel_rfl
noncomputable def Yx:gB :=
 .block 1 (.ou false [p3 8 [.m_ 2] .take,p3 9 [.jm 5] .mR,p3 10 [.Bs 9] (.yB 1 1 [.int .i64 0] [0]),p3 11 [.jm 8,.jm 10] (.app 1 8),⟨none,[.jm 2,.jm 11],none,none,.Bk⟩])
theorem aez:eu Tryz.prog JP (rD Tryz.prog 102 0) 0=some Yx:=by kernel_rfl
def JD (l:List Int):I:=match l with | []=>.av [] 0 .full | _=>.raw (l.map hX) l.length 1
def OK (l:List Int):I:=match l with | []=>.av [] 0 .full | _=>.av (l.map hX) l.length (.uniq 1)
theorem abM {l:List Int} {e:Int} {yh fx Gi Gj r2 I_ HO u8 HP HL HM HN:I} (ao:l.length≤1000) (Y:List ar) :
  ∃ qS,Sem Tryz.prog (.yield [ar.cells [JD l]].length) [hX e] (([ar.cells [JD l]]++[ar.loop .ready none 102 [yh,fx,.ptr 0 0,Gi,Gj,r2,I_,HO,u8,HP,HL,HM,HN] [7] (rC Tryz.prog 102 0) (rD Tryz.prog 102 0) JP])++Y) 0 (.bool true) (([ar.cells [JD (l++[e])]]++[ar.loop .ready none 102 [yh,fx,.ptr 0 0,Gi,Gj,r2,I_,HO,u8,HP,HL,HM,HN] [7] (rC Tryz.prog 102 0) (rD Tryz.prog 102 0) JP])++qS):=by
 refine ⟨Y,PB eD aev aez (IJ _ _ _) rfl (IM (by simp)) ?_⟩;unfold Yt;conv=>whnf
 refine ⟨rfl,IJ _ _ _,?_⟩;rw [JG];unfold Yx;cases l with
 | nil =>
   (conv=>whnf);refine ⟨rfl,by omega,?_⟩;(conv=>whnf);refine ⟨by decide,by decide,rfl,?_⟩;(conv=>whnf);refine ⟨rfl,by decide,Gn (by decide) ?_⟩;(conv=>whnf);show _∧(([ar.cells [JD ([]++[e])]]++[ar.loop .busy none 102 [yh,fx,.ptr 0 0,Gi,Gj,r2,I_,HO,u8,HP,HL,HM,HN] [7] (rC Tryz.prog 102 0) (rD Tryz.prog 102 0) JP])++Y)[[ar.cells [JD ([]++[e])]].length]?=_∧lF ((([ar.cells [JD ([]++[e])]]++[ar.loop .busy none 102 [yh,fx,.ptr 0 0,Gi,Gj,r2,I_,HO,u8,HP,HL,HM,HN] [7] (rC Tryz.prog 102 0) (rD Tryz.prog 102 0) JP])++Y).set [ar.cells [JD ([]++[e])]].length _) _;exact ⟨rfl,IJ _ _ _,by rw [JG];exact lF.refl _⟩
 | cons a l =>
   (conv=>whnf);refine ⟨rfl,by omega,?_⟩;(conv=>whnf);refine ⟨rfl,by simp only [sO] at ao ⊢;omega,?_⟩;(conv=>whnf);refine ⟨?_,Nat.succ_ne_zero _,Gn (by simp) ?_⟩
   ·show ((a::l).map hX++[hX e]).all gY=true;rw [←List.map_singleton (f:=hX),←sR];exact ss.2 fun x aj=>by obtain ⟨y,_,rfl⟩:=sH.1 aj;rfl
   (conv=>whnf);have e1:I.raw ((a::l).map hX++[hX e]) ((a::l).length+1) 1=JD ((a::l)++[e]):=by
    show _=I.raw (((a::l)++[e]).map hX) ((a::l)++[e]).length 1;rw [sR,sD];rfl
   show _∧(([ar.cells [I.raw ((a::l).map hX++[hX e]) ((a::l).length+1) 1]]++[ar.loop .busy none 102 [yh,fx,.ptr 0 0,Gi,Gj,r2,I_,HO,u8,HP,HL,HM,HN] [7] (rC Tryz.prog 102 0) (rD Tryz.prog 102 0) JP])++Y)[[ar.cells [I.raw ((a::l).map hX++[hX e]) ((a::l).length+1) 1]].length]?=_∧lF ((([ar.cells [I.raw ((a::l).map hX++[hX e]) ((a::l).length+1) 1]]++[ar.loop .busy none 102 [yh,fx,.ptr 0 0,Gi,Gj,r2,I_,HO,u8,HP,HL,HM,HN] [7] (rC Tryz.prog 102 0) (rD Tryz.prog 102 0) JP])++Y).set [ar.cells [I.raw ((a::l).map hX++[hX e]) ((a::l).length+1) 1]].length _) _;rw [e1];exact ⟨rfl,IJ _ _ _,by rw [JG];exact lF.refl _⟩
theorem L' (l:List Int):cn 8 (OK l)=true:=by
 cases l with
 | nil=>rfl
 | cons a l=>exact rL (fun _=>rfl) _ _ _
theorem acu {k:FuncId} {cap:List I} {l:List Int} (ID:Seq Tryz.prog k cap (l.map hX)) (ao:l.length≤1000):qv 102 [.av [] 0 .full,.func k [] cap] (OK l):=by
 refine OS eD aec rfl (L' l) fun Q bo=>?_;unfold XJ;obtain ⟨a7,cc⟩:∃ c,gB.AM (.m_ 6) [7] (rC Tryz.prog 102 0) (rD Tryz.prog 102 0)=c:=⟨_,rfl⟩;rw [cc];conv=>whnf
 subst cc;refine ahm (f:=hX) ID (fun i=>[ar.cells [JD (l.take i)]]) (by exact rfl) (by exact rfl) (fun _=>rfl) ?_ (rl:=none) (by exact rfl) (Hn:=[ar.cells [JD l]]) (by show [ar.cells [JD (l.take l.length)]]=_;rw [List.take_length]) ?_
 ·intro i hi Y;rw [show l.take (i+1)=l.take i++[l[i]] by rw [List.take_add_one,sm hi];rfl];exact abM (l:=l.take i) (e:=l[i]) (by rw [s9];omega) Y
 ·intro qS;cases l with
  | nil =>
    (conv=>whnf);exact bo _ _ _ (Kc (.inr rfl) (L' _) rfl)
  | cons a l =>
    (conv=>whnf);exact bo _ _ _ (Kc (.inr rfl) (L' _) rfl)
theorem Ve {k:FuncId} {cap:List I} {l:List Int} (pv:cap.all (cn 7)=true) (ID:Seq Tryz.prog k cap (l.map hX)) (ao:l.length≤1000):qv 85 [.func k [] cap] (OK l):=by
 refine OS eD aet rfl (L' l) fun Q bo=>?_;unfold Yr;conv=>whnf
 refine ⟨_,_,Nf (p9 rfl (p9 (I7 rfl pv) rfl)) (acu ID ao) _ _,?_⟩;cases l with
 | nil =>
   (conv=>whnf);exact bo _ _ _ (Kc (.inr rfl) (L' _) rfl)
 | cons a l =>
   (conv=>whnf);exact bo _ _ _ (Kc (.inr rfl) (L' _) rfl)
end Go.Proofs.YtkoioidpbbbaiaaGreat.Ab


namespace Go.Proofs.YtkoioidpbbbaiaaGreat.Ab
open Go
def Q6:hB→hB→Bool
 | .shared,.shared=>true
 | .full,.full=>true
 | .own a,.own b=>Nat.beq a b
 | .uniq a,.uniq b=>Nat.beq a b
 | _,_=>false
theorem acd:∀ {a b:hB},Q6 a b=true→a=b:=by
 intro a b h;cases a <;> cases b <;> simp only [Q6,ub] at h <;> first | rfl | (rw [sQ h])
def I5 (f:I→I→Bool):List I→List I→Bool
 | [],[]=>true
 | a::l,b::r=>match f a b with
   | true=>I5 f l r
   | false=>false
 | _,_=>false
theorem J9 {f:I→I→Bool} (aP:∀ a b,f a b=true→a=b):∀ {a b:List I},I5 f a b=true→a=b
 | [],[],_=>rfl
 | [],_::_,h=>by simp [I5] at h
 | _::_,[],h=>by simp [I5] at h
 | a::l,b::r,h=>by
   simp only [I5] at h;split at h
   ·rename_i jI;rw [aP a b jI,J9 aP h]
   ·cases h
def Jc:Nat→I→I→Bool
 | 0,_,_=>false
 | d+1,a,b=>match a,b with
   | .bool x,.bool y=>match x,y with | true,true=>true | false,false=>true | _,_=>false
   | .int k x,.int q y=>match decide (k=q),decide (x=y) with | true,true=>true | _,_=>false
   | .eF,.eF=>true
   | .bR x,.bR y=>I5 (Jc d) x y
   | .av x n c,.av y m e=>match I5 (Jc d) x y,Nat.beq n m,Q6 c e with | true,true,true=>true | _,_,_=>false
   | .func f x y,.func g z w=>match Nat.beq f g,I5 (Jc d) x z,I5 (Jc d) y w with | true,true,true=>true | _,_,_=>false
   | .agg x,.agg y=>I5 (Jc d) x y
   | .tuple x,.tuple y=>I5 (Jc d) x y
   | _,_=>false
theorem OG:∀ (d:Nat) (a b:I),Jc d a b=true→a=b
 | 0,_,_,h=>by simp [Jc] at h
 | d+1,a,b,h=>by
   have a8:=OG d;unfold Jc at h;split at h
   ·split at h <;> first | rfl | cases h
   ·rename_i k x q y;split at h
    ·rename_i ab ae;rw [of_decide_eq_true ab,of_decide_eq_true ae]
    ·cases h
   ·rfl
   ·rw [J9 a8 h]
   ·split at h
    ·rename_i ab ae aF;rw [J9 a8 ab,sQ ae,acd aF]
    ·cases h
   ·split at h
    ·rename_i ab ae aF;rw [sQ ab,J9 a8 ae,J9 a8 aF]
    ·cases h
   ·rw [J9 a8 h]
   ·rw [J9 a8 h]
   ·cases h
inductive K2 where
 | pure (k:Nat) (args:List I) (v:I)
 | map (k:Nat) (args:List I) (es:List (Nat×I×I)) (clock:Nat)
def Q_ (P:Program):K2→Prop
 | .pure k args v=>nj P k args v
 | .map k args es clock=>∀ H,Sem P (.fn k) args H H.length (.map H.length) (H++[.map es clock])
def look (k:Nat) (args:List I) (H:List ar) (lo:Nat):List K2→Option (I×List ar)
 | []=>none
 | .pure q bs v::r=>match Nat.beq k q with
   | true=>match I5 (Jc 20) args bs with
     | true=>match H with
       | []=>some (v,[])
       | _=>look k args H lo r
     | false=>look k args H lo r
   | false=>look k args H lo r
 | .map q bs es clock::r=>match Nat.beq k q with
   | true=>match I5 (Jc 20) args bs with
     | true=>match Nat.beq lo H.length with
       | true=>some (.map H.length,H++[.map es clock])
       | false=>look k args H lo r
     | false=>look k args H lo r
   | false=>look k args H lo r
def PF (l:List K2):b6:=fun bX args H lo=>match bX with
 | .fn k=>look k args H lo l
 | _=>none
theorem Sem.aeD {P:Program} {bX:e'} {args:List I} {r:I} {H':List ar} (h:Sem P bX args [] 0 r H') (lo:Nat):Sem P bX args [] lo r H' :=
 ⟨⟨h.1.1,fun _ _ h=>by simp at h⟩,h.2⟩
theorem look_ok {P:Program} {k:Nat} {args:List I} {H:List ar} {lo:Nat} {r:I} {H':List ar}:∀ {l:List K2},(∀ e∈l,Q_ P e)→look k args H lo l=some (r,H')→Sem P (.fn k) args H lo r H'
 | [],_,h=>by simp [look] at h
 | .pure q bs v::l,ao,h=>by
   have Lh:=look_ok (k:=k) (args:=args) (H:=H) (lo:=lo) (r:=r) (H':=H') fun e he=>ao e (ue _ he);unfold look at h;split at h
   ·rename_i ab;split at h
    ·rename_i ae;split at h
     ·cases h;have:=ao (.pure q bs r) tV;rw [sQ ab,J9 (OG 20) ae];exact this.1.aeD lo
     ·exact Lh h
    ·exact Lh h
   ·exact Lh h
 | .map q bs es clock::l,ao,h=>by
   have Lh:=look_ok (k:=k) (args:=args) (H:=H) (lo:=lo) (r:=r) (H':=H') fun e he=>ao e (ue _ he);unfold look at h;split at h
   ·rename_i ab;split at h
    ·rename_i ae;split at h
     ·rename_i aF;cases h;have:=ao (.map q bs es clock) tV;rw [sQ ab,J9 (OG 20) ae,sQ aF];exact this H
     ·exact Lh h
    ·exact Lh h
   ·exact Lh h
theorem Y8 {P:Program} {l:List K2} (ao:∀ e∈l,Q_ P e):c3 P (PF l):=o6 fun bX args H lo r H' h=>by
 cases bX with
 | fn k=>exact look_ok ao h
 | yield i=>simp [PF] at h
def KE (A:FuncId→dt):Nat→List Func→Bool
 | _,[]=>true
 | k,f::r=>match (A k).bad with
   | true=>KE A (k+1) r
   | false=>match f.body with
     | some c => match codeOk (A k) c, f.name == "runtime.NumGoroutine" with
       | true,false=>KE A (k+1) r
       | _,_=>false
     | none=>KE A (k+1) r
theorem W8 {A : FuncId → dt} : ∀ {l : List Func} {k : Nat}, KE A k l = true → ∀ (i : Nat) (f : Func) (c : Code), (A (k + i)).bad = false → l[i]? = some f → f.body = some c → codeOk (A (k + i)) c = true ∧ f.name ≠ "runtime.NumGoroutine"
 | [],_,_,i,f,c,_,h,_=>by simp at h
 | g::r,k,h,i,f,c,nD,aP,ak=>by
   unfold KE at h;cases i with
   | zero =>
     simp at aP;subst aP;rw [Nat.add_zero] at nD;rw [nD,ak] at h;simp only at h;split at h
     ·rename_i ab ae;exact ⟨ab,by simpa using ae⟩
     ·cases h
   | succ i =>
     have ai:KE A (k+1) r=true:=by
      split at h
      ·exact h
      ·split at h
       ·split at h
        ·exact h
        ·cases h
       ·exact h
     have:=W8 ai i f c (by rw [show k+1+i=k+(i+1) by omega];exact nD) (by simpa using aP) ak;rw [show k+(i+1)=k+1+i by omega];exact this
theorem W7 {P : Program} {A : FuncId → dt} (h : KE A 0 P.funcs.toList = true) (k : Nat) (f : Func) (c : Code) (af : (A k).bad = false) (aP : P.funcs[k]? = some f) (ak : f.body = some c) : codeOk (A k) c = true ∧ f.name ≠ "runtime.NumGoroutine" := by
 have:=W8 h k f c (by rw [sG];exact af) (by simpa using aP) ak
 rwa [sG] at this
theorem UX:KE jA 0 Go.Proofs.Tryz.prog.funcs.toList=true:=by kernel_rfl
noncomputable def S2 (l:List K2) (k:Nat) (args:List I):Option I:=match fZ Go.Proofs.Tryz.prog jA (PF l) 300 (.fn k) args [] 0 with
 | some (r,H2)=>match bL H2 0 H2.length 0 8 r with
   | some v=>match cn 8 v.settle with
     | true=>some v.settle
     | false=>none
   | none=>none
 | none=>none
theorem ahp {l:List K2} (ao:∀ e∈l,Q_ Go.Proofs.Tryz.prog e) {k:Nat} {args:List I} {v:I} (h:S2 l k args=some v):nj Go.Proofs.Tryz.prog k args v:=by
 unfold S2 at h;split at h
 ·rename_i r H2 ak;split at h
  ·rename_i u aP;split at h
   ·rename_i aB;cases h;have ah:=(Cb eD jA (Y8 ao) (W7 UX) 300).Ha ak;refine ⟨⟨a'.refl _ _,ah.2.1,fun B aa J S w xs ag aI ad=>CallsIn.mono (ah.2.2 B aa J S w xs ag aI ad) fun e w' he=>?_⟩,aB⟩;cases e with
    | returned x =>
      have kN:=xG ag (fun id aE=>by simp at aE) aP he;show aZ B aa J S w [] u.settle x w';cases u with
      | av cells len ej =>
        cases ej with
        | uniq z=>exact kN.settle
        | _=>exact kN
      | _=>exact kN
    | panicked c=>exact he.elim
    | outgrown=>exact he.elim
   ·cases h
  ·cases h
 ·cases h
end Go.Proofs.YtkoioidpbbbaiaaGreat.Ab


namespace Go.Proofs.YtkoioidpbbbaiaaGreat.Ab
open Go
noncomputable def ag8:gB :=
 .ou false [p4 5 0,p6 6 2,p4 7 2,p3 8 [.Bs 7] (.conv .u64),p3 9 [.cv (.func 79 [] []),.m_ 8] (.call 3),p3 10 [.cv (.func 103 [] []),.jm 5,.cv (.int .i64 0),.jm 6,.jm 9] (.call 1)]
noncomputable def SW:gB :=
 p5 [p6 3 0,qZ 4 3,p4 2 4] ag8
theorem WO:qt Go.Proofs.Tryz.prog UT 86=some (SW,11,[]):=by kernel_rfl
noncomputable def NQ:gB :=
 p5 [p4 24 0,p4 25 1,p4 26 2,p3 27 [.cv (.func 110 [] []),.jm 24,.jm 25,.jm 26] (.call 1)] .ret
noncomputable def agk:gB :=
 p5 [p4 30 0,p4 31 1,p4 32 2,p3 33 [.cv (.func 111 [] []),.jm 30,.jm 31,.jm 32] (.call 1)] .ret
noncomputable def agl:gB :=
 p5 [p6 36 0,p6 37 1,p6 38 2,p3 39 [.cv (.func 112 [] []),.jm 36,.jm 37,.jm 38] (.call 1)] (qE [p4 40 3,qu 41 40 1 .sub,p4 3 41])
noncomputable def agm:gB :=
 p5 [p6 55 2,qu 56 55 1 .sub,p4 57 11,p6 58 1,qp 59 57 58 .sub,qp 60 56 59 .sub,p4 11 60] (qE [qg 12 1])
noncomputable def agn:gB :=
 p5 [p6 51 0,p6 52 1,p6 53 2,p3 54 [.cv (.func 114 [] []),.jm 51,.jm 52,.jm 53] (.call 1)] agm
noncomputable def ago:gB :=
 p5 [p6 69 0,p6 70 1,p6 71 2,p3 72 [.cv (.func 115 [] []),.jm 69,.jm 70,.jm 71] (.call 1)] (.cond (.m_ 72) .ret .skip)
noncomputable def agp:gB :=
 p5 [p6 88 0,p4 89 1,p6 90 2,p4 91 11,p3 92 [.cv (.func 117 [] []),.jm 88,.jm 89,.jm 90,.jm 91] (.call 1),p4 13 92] (p5 [p4 93 13,p4 1 93] (.exit 1))
noncomputable def agq:gB :=
 p5 [p6 117 0,p4 118 1,p6 119 14,p6 120 3,p3 121 [.cv (.func 103 [] []),.jm 117,.jm 118,.jm 119,.jm 120] (.call 1)] (qE [p4 122 14,qV 123 122 1,p4 1 123])
noncomputable def agr:gB :=
 p5 [p4 114 16,p4 115 18,qp 116 114 115 .geq,p4 8 116] agq
noncomputable def agb:gB :=
 p5 [p6 127 0,p6 128 14,qV 129 128 1,p4 130 2,p6 131 3,p3 132 [.cv (.func 103 [] []),.jm 127,.jm 129,.jm 130,.jm 131] (.call 1)] (qE [p4 133 14,p4 2 133])
noncomputable def agc:gB :=
 p5 [p4 124 17,p4 125 18,qp 126 124 125 .geq,p4 8 126] agb
noncomputable def agd:gB :=
 p5 [p4 109 10,qu 110 109 8 .quo,p4 18 110] (p5 [p6 111 16,p6 112 17,qp 113 111 112 .lss] (.cond (.m_ 113) agr agc))
noncomputable def age:gB :=
 p5 [p6 103 14,p6 104 1,qp 105 103 104 .sub,p6 106 2,p6 107 14,qp 108 106 107 .sub,p4 16 105,p4 17 108] agd
noncomputable def agf:gB :=
 p5 [p6 95 0,p6 96 1,p6 97 2,p4 98 11,p3 99 [.cv (.func 118 [] []),.jm 95,.jm 96,.jm 97,.jm 98] (.call 1),p4 94 99,qQ 100 94 0,p3 101 [.Bs 94] (.ext 1),p4 14 100,p4 15 101] (p5 [p4 102 15,p4 9 102] age)
noncomputable def agh:gB :=
 .seq (.seq (rh [p6 73 1,qu 74 73 0 .gtr,p4 75 74,ch 76 [.m_ 0] 75 true .mR,ch 77 [.m_ 1] 75 true .mR,ch 78 [.Bs 77,.cv (.int .i64 1)] 75 true (.bin .sub),ch 79 [.Bs 76,.Bs 78] 75 true (.kV 1),ch 80 [.Bs 79] 75 true (.zE .one),ch 81 [.m_ 0] 75 true .mR,ch 82 [.m_ 11] 75 true .mR,ch 83 [.Bs 81,.Bs 82] 75 true (.kV 1),ch 84 [.Bs 83] 75 true (.zE .one),⟨some 85,[.cv (.func 116 [] []),.m_ 80,.m_ 84],some (75,true),none,.call 3⟩,ch 86 [.Bs 85] 75 true (.un .not),p3 87 [.m_ 75,.Bs 86,.cv (.bool false)] .pick]) (.cond (.m_ 87) agp .skip)) agf
noncomputable def agi:gB :=
 .seq (p5 [p6 61 8,p4 62 61,ch 63 [.m_ 9] 62 true .mR,p3 64 [.Bs 62,.Bs 63,.cv (.bool false)] .pick,p4 65 64,ch 66 [.jm 12] 65 true .mR,ch 67 [.Bs 66,.cv (.int .i64 1)] 65 true (.bin .eql),p3 68 [.Bs 65,.Bs 67,.cv (.bool false)] .pick] (.cond (.m_ 68) ago .skip)) agh
noncomputable def agj:gB :=
 p5 [p6 43 0,p6 44 1,p6 45 2,p3 46 [.cv (.func 113 [] []),.jm 43,.jm 44,.jm 45] (.call 1),p4 42 46,qQ 47 42 0,p3 48 [.Bs 42] (.ext 1),p4 11 47,p4 12 48] (.seq (p5 [p6 49 12,qu 50 49 2 .eql] (.cond (.m_ 50) agn .skip)) agi)
noncomputable def Sj:gB :=
 .seq (p5 [p6 28 3,qu 29 28 0 .eql] (.cond (.m_ 29) agk .skip)) (.seq (p5 [p6 34 8,p3 35 [.Bs 34] (.un .not)] (.cond (.m_ 35) agl .skip)) agj)
noncomputable def NR:gB :=
 .block 1 (p5 [p6 19 2,p6 20 1,qp 21 19 20 .sub,p4 10 21] (.seq (p5 [p6 22 10,qu 23 22 12 .leq] (.cond (.m_ 23) NQ .skip)) Sj))
noncomputable def Si:gB :=
 p5 [p3 8 [.cv (.bool true)] .mR] (p5 [p3 9 [.cv (.bool true)] .mR] (.block 0 (.loop (some (qb false [0,4,4,2,124])) NR)))
theorem WI:qt Go.Proofs.Tryz.prog T_ 103=some (Si,134,[]):=by kernel_rfl
noncomputable def ags:gB :=
 .block 3 (rh [p6 33 0,p6 34 7,p6 35 0,p6 36 7,qu 37 36 1 .sub,p6 38 0,p6 39 7,qu 40 39 1 .sub,rm 41 38 40 1,ql 42 41,p6 43 0,p6 44 7,rm 45 43 44 1,ql 46 45,rm 47 33 34 1,⟨none,[.jm 47,.jm 42],none,none,.st 1⟩,rm 48 35 37 1,⟨none,[.jm 48,.jm 46],none,none,.st 1⟩])
noncomputable def agt:gB :=
 .seq (.seq (rh [p6 16 7,p6 17 1,qp 18 16 17 .gtr,p4 19 18,ch 20 [.m_ 0] 19 true .mR,ch 21 [.m_ 7] 19 true .mR,ch 22 [.Bs 20,.Bs 21] 19 true (.kV 1),ch 23 [.Bs 22] 19 true (.zE .one),ch 24 [.m_ 0] 19 true .mR,ch 25 [.m_ 7] 19 true .mR,ch 26 [.Bs 25,.cv (.int .i64 1)] 19 true (.bin .sub),ch 27 [.Bs 24,.Bs 26] 19 true (.kV 1),ch 28 [.Bs 27] 19 true (.zE .one),⟨some 29,[.cv (.func 116 [] []),.m_ 23,.m_ 28],some (19,true),none,.call 3⟩,p3 30 [.m_ 19,.Bs 29,.cv (.bool false)] .pick]) (.cond (.m_ 30) .skip (.exit 2))) (.seq ags (qE [p4 31 7,qu 32 31 1 .sub,p4 7 32]))
noncomputable def agu:gB :=
 .block 1 (p5 [p6 15 6,p4 7 15] (.block 2 (.loop (some (qb false [0,3,3,2,41])) agt)))
noncomputable def agv:gB :=
 .seq (p5 [p6 10 6,p6 11 2,qp 12 10 11 .lss] (.cond (.m_ 12) .skip (.exit 0))) (.seq agu (qE [p4 13 6,qV 14 13 1,p4 6 14]))
noncomputable def Sk:gB :=
 p5 [p6 8 1,qV 9 8 1,p4 6 9] (.block 0 (.loop (some (qb false [0,3,3,1,42])) agv))
theorem WJ:qt Go.Proofs.Tryz.prog Ua 110=some (Sk,49,[]):=by kernel_rfl
noncomputable def agw:gB :=
 p5 [p6 5 0,p3 6 [.cv (.func 123 [] []),.m_ 5] (.call 3),p4 7 6,ch 8 [.m_ 1] 7 true .mR,⟨some 9,[.cv (.func 123 [] []),.m_ 8],some (7,true),none,.call 3⟩,ch 10 [.Bs 9] 7 true (.un .not),p3 11 [.Bs 7,.Bs 10,.cv (.bool false)] .pick,p4 12 11,ch 13 [.jm 0] 12 false .mR,ch 14 [.jm 1] 12 false .mR,ch 15 [.Bs 13,.Bs 14] 12 false (.bin .lss),p3 16 [.Bs 12,.cv (.bool true),.Bs 15] .pick,p4 4 16] .ret
noncomputable def XK:gB :=
 p5 [p3 4 [.cv (.bool false)] .mR] agw
theorem aed:qt Go.Proofs.Tryz.prog Ub 116=some (XK,17,[.tmp 4]):=by kernel_rfl
noncomputable def agx:gB :=
 p5 [p6 3 0,p4 4 0,qp 5 3 4 .neq,p4 2 5] .ret
noncomputable def XL:gB :=
 p5 [p3 2 [.cv (.bool false)] .mR] agx
theorem aee:qt Go.Proofs.Tryz.prog Ud 123=some (XL,6,[.tmp 2]):=by kernel_rfl
end Go.Proofs.YtkoioidpbbbaiaaGreat.Ab
