
import Derived.Test.YtkoioidpbbbaiaaGreatJa1
import Derived.Test.YtkoioidpbbbaiaaGreatJa4
import Derived.Test.YtkoioidpbbbaiaaGreatProg
import Derived.KernelRfl
import Derived.IntWalk
import Derived.ProofKit
import Derived.Deep.Slices
import Derived.ChangeStays
import Derived.Below
import Derived.WalkKit
import Derived.Sort.AssemblyPlain
set_option linter.unusedSimpArgs false
set_option linter.unusedVariables false
set_option linter.unusedSectionVars false

open Bool renaming and_eq_true→su,and_self→uh,and_true→tx,false_eq_true→ub
open Classical renaming choose_spec→uJ
open Int renaming add_zero→tJ
open List renaming all_cons→tH,all_eq_true→ss,all_nil→uj,append_assoc→sC,append_nil→sM,drop_eq_getElem_cons→sV,drop_zero→tu,flatMap_cons→uo,getElem?_append→sr,getElem?_append_left→sk,getElem?_append_right→sv,getElem?_drop→sS,getElem?_eq_getElem→sm,getElem?_eq_some_iff→sd,getElem?_map→sq,getElem?_set_ne→sf,getElem?_take→sL,getElem_map→tX,length_append→sD,length_cons→sO,length_eq_zero_iff→sT,length_map→sZ,length_pos_iff→vJ,length_take→s9,map_append→sR,map_congr_left→tT,map_cons→sI,map_drop→tP,map_id→vi,map_map→vD,map_nil→uK,mem_append_left→vG,mem_append_right→vk,mem_cons_of_mem→ue,mem_cons_self→tV,mem_flatMap→tW,mem_iff_getElem?→s8,mem_map→sH,mem_range→sJ,perm_cons_erase→vK,set_set→s7,take_of_length_le→tb
open Nat renaming add_comm→tp,add_mul→ti,eq_of_beq_eq_true→sQ,le_refl→se,lt_succ_self→sg,mul_one→tz,zero_add→sG,zero_le→sE
open Option renaming bind_some→sc,map_some→si
namespace Go.Proofs.YtkoioidpbbbaiaaGreat.Ab
open Go
abbrev p2:bY:={ cz:=[true] }
abbrev p9:bY:={ cz:=[true,true] }
def p8 (l:List Nat):List bY:=l.map fun n=>match n with
 | 0=>{}
 | 1=>p2
 | _=>p9
def abm:dt:={ ops:=[[{ mode:=3 }]] }
def Uk:dt:={ ops:=[[p2],[{},{ mode:=3 }],[{ mode:=3 },p2],[{},{ mode:=3 },p2,{},p2,p2,p2],[{},{ mode:=3 },p2,{},p2,p2,p2],[{},{ mode:=3 },p2,{},p2,p2,p2],[{},{ mode:=3 },p2,{},p2,p2,p2],[{},{ mode:=3 },p2,{},p2,p2,p2],[p2,{ mode:=3 },p2,{},p2,p2,p2],[p2,p2,p9,p2,p2,p2,p9,p9,p2,p2,p2,{ mode:=3 },p9,p2,p2,p2,p9,p9,p2,p2,p2,p9,p9,p2,p2,p2,p9,p9,p2,{ mode:=3 },p9,p2]] }
def Us:dt:={ ops:=[[p2],[{},{ mode:=3 },p2,{},p2,p2,{ cz:=[true,false,true] },p2,{},p2,p2,{ cz:=[true,false,true] }],[{ mode:=3 },p2],[{},{},{},{ mode:=3 },p2,{},p2,p2,p2],[{},{},p2,{ mode:=3 },p2,{},p2,p2,p2],[{},{},{ mode:=3 },p2,{},p2,p2,p2],[{},{},{ mode:=3 },p2,{},p2,p2,p2],[{},{},{ mode:=3 },p2,{},p2,p2,p2],[p2,p2,p9,p2,p2,p2,p9,{ cz:=[true,false,true] },p2,p2,{},p9,{ cz:=[true,false,true] },p2,p2,{},p9,{ cz:=[true,false,true] },p2,p2,{},p9,{ cz:=[true,false,true] },p2,{},p2,p2,{ cz:=[true,false,true] }],[],[p2,p2],[p2,p2,p2,p2,{ mode:=3 },p9,p2],[p2,p2,p2,{ mode:=3 },p2,{},p2,p2,p2],[p2,p2,p2,p2,p2,p9,p9,p2,{ mode:=3 },p9,p2]] }
def Uz:dt:={ ops:=[[p2],[{},{ mode:=3 }],[{ mode:=3 },p2],[{},{ mode:=3 },p2,{},p2,p2,p2],[p2,{ mode:=3 },p2,{},p2,p2,p2],[p2,p2,{ mode:=3 },p2,p2,p2,p9,p9,p2,{ mode:=3 },p9,p2]] }
def abr:dt:={ ops:=[[],[],[],[],[],[],[],[],[],[],[],[],[],[{},p2,{ mode:=3 },p2,{},p2,p2,p2]] }
def abv:dt:={ ops:=[[],[],[],[],[],[],[],[],[],[],[],[],[],[],[],[],[],[],[],[p2,p2,p2,p2,p2,{ cz:=[true,false,true] },p2,p2,{},p9,{ cz:=[true,false,true] },p2,p2,{},p9,{ cz:=[true,false,true] },p2,p2,{},p9,{ cz:=[true,false,true] }]] }
def abw:dt:={ ops:=[[],[],[],[],[],[],[],[],[],[],[],[{},{ mode:=3 },p2,{},p2,p2,p2],[],[],[],[],[],[{},{ mode:=3 },p2],[],[],[p2,p2,{ mode:=3 },p2,{},p2,p2,p2]] }
def T8:dt:={ ops:=[[p2],(p8 [1,1,1,1,1])] }
def T':dt:={ ops:=[[],[{ mode:=3 },{ mode:=3 },{ mode:=3 },{},{},{},{ cz:=[false,true] },{ cz:=[false,true] },{ cz:=[false,true] }],[{},{},{ mode:=3 },{ mode:=3 },p2,{},{},{},p2,p2,p2],[{},{},{ mode:=3 },{ mode:=3 },p2,{},{},{},p2,p2,p2],[{},{},{ mode:=3 },{ mode:=3 },p2,{},{},p2,p2],[p2,{},{ mode:=3 },{ mode:=3 },p2,{},{},p2,p2],[{},{ mode:=3 },p2,{},p2,p2,p2],[{},{ mode:=3 },p2,{},p2,p2,p2],[{},{ mode:=3 },p2,{},p2,p2,p2],[{},{},{ mode:=3 },{ mode:=3 },p2,{ mode:=3 },{ mode:=3 },p2,{},{},p2,p2],[{},{},{ mode:=3 },{ mode:=3 },p2,{ mode:=3 },{ mode:=3 },p2,{},{},p2,p2],[{},{},{ mode:=3 },{ mode:=3 },p2,{ mode:=3 },{ mode:=3 },p2,{},{},p2,p2],[p2,{},{ mode:=3 },{ mode:=3 },p2,{},{},p2,p2],[{},{},{ mode:=3 },{ mode:=3 },p2,{},{},p2,p2],[{},{ mode:=3 },p2,{},p2,p2,p2],[p2,p2,p2,p2,p2,{ cz:=[true,false,true] },p2,p2,p2,{ cz:=[true,false,true] },p2,p2,p2,{ cz:=[true,false,true] },p2,p2,p2,{ cz:=[true,false,true] },p2,p2,p2,{ cz:=[true,false,true] },p2,p2,p2,{ cz:=[true,false,true] },p2,p2,p2,{ cz:=[true,false,true] },p2,p2,p2,{ cz:=[true,false,true] },p2,p2,p2,{ cz:=[true,false,true] },p2,p2,p2,{ cz:=[true,false,true] },p2,p2,p2,{ cz:=[true,false,true] },p2,p2,p2,{ cz:=[true,false,true] }],[],[p2,{},{ mode:=3 },p2,{ mode:=3 },p2,{},{},p2,p2],[p2,p2,p2,p2,p2,p9,p2,p2,p2,p9,p2,p2,p2,p9,p2,p2,{},{ mode:=3 },{ mode:=3 },p9,p2,p2,p2,p9,p2,p2,p2,p9,p2,p2,p2,p9,p2,p2,p2,p9,p2,p2,p2,p9,p2,p2,{},{ mode:=3 },{ mode:=3 },p9,p2]] }
def Uc:dt:={ ops:=[[p2],[{},{ mode:=3 },p2,{},p2,p2,p2],[{},p2],(p8 [1,0,1]),[p2,p2,{ mode:=3 },{},p2,p2,p2]] }
def Ue:dt:={ ops:=[[p2],[{},{ mode:=3 },p2,{},p2,p2,p2],[{},p2],(p8 [1,0,1]),[p2,p2,{ mode:=3 },p2]] }
def Uf:dt:={ ops:=[[p2],[p2,{ mode:=3 },p2,{},p2,p2,p2],[{},p2],(p8 [1,0,1]),[{},p2,{},{ cz:=[false,true] }],[p2,{ mode:=3 },{ mode:=3 },p2],(p8 [1,1,0,1])] }
def QI:dt:={ ops:=[[p2],[{},{ mode:=3 },p2],[p2,{ mode:=3 },{},p2],[{},p2,p2,{ mode:=3 },p2],[{},{},{ mode:=3 },p2],[{},{ mode:=3 },p2],(p8 [0,1,1]),[p2,{ mode:=3 },p2],[{},{},{ mode:=3 },p2],(p8 [0,0,2]),(p8 [0,1,1,1]),[p2,p2]],ih:=[(0,(qd false [1,1,2,3,29]))] }
def JR:dt:={ ops:=[[p2],[p2,{ mode:=3 },p2,{},p2,{},{ cz:=[false,true] },p2],[{},p2],(p8 [1,0,1]),[],[{},{ mode:=3 }],[p2],[p2,p2,{ mode:=3 },p2],(p8 [0,1,2]),[p2,p2]] }
def QJ:dt:={ ops:=[[p2],[{},{ mode:=3 },p2],[p2,{ mode:=3 },{},p2],[],[{},p2,p2,{ mode:=3 },p2],(p8 [0,1,1]),[p2,{ mode:=3 },p2],[{},{},{ mode:=3 },p2],(p8 [1,1,1]),[p2,p2]],ih:=[(0,(qd false [1,1,2,2,21]))] }
def QK:dt:={ ops:=[[],(p8 [0,1,0,1,2]),[],[],(p8 [0,0,1,2]),(p8 [1,1,1]),(p8 [0,0,2,1,0,0,2,1,2]),[],[]],ih:=[(0,(qd false [0,2,3,1,20]))] }
def Ug:dt:={ ops:=[[{ cz:=[true],mode:=1 }],[{},{},p2,{ mode:=2 },p2,{},p2,p2,p2],[{},p2],(p8 [1,0,1]),[],[{},{},p2,p2,p2,p2,{ mode:=2 },p2,p2,p2,p9],[],[],[{},p2,{},{ cz:=[false,true] }],[p2,{},p2,p2,p2,{},p2,p2,{ mode:=3 },p2,p2,{},p2,{ mode:=3 },{ cz:=[true,false,true] }],[],[{},p2,p2,p2,p2,{},p2,{},p2,{},{ cz:=[true],mode:=13 },p2,p9,{ cz:=[true,true],mode:=13 },p2],[p2,p2],[p2,p2,{ mode:=6 },p2],[],(p8 [1,1,1])],ih:=[(0,(qd false [1,3,4,1,1,1,22,3,38]))] }
def QL:dt:={ ops:=[[p2],[{},{},{ mode:=3 },p2],[p2,p2,{ mode:=3 },{},p2],[],(p8 [0,0,1,2]),(p8 [1,1,1]),[{},{},p9,p2,{},{ cz:=[false,true] }],[{},p2,p2,p2,{},p2,{},p2,p2,p9,{ cz:=[false,false,true] },p2,{},p2,p2,{},p2,{},{},p2,p9,p2,p2,p9,{ cz:=[false,true] },{ cz:=[false,false,true] },p2,{},p2,{ mode:=3 },p2,{ cz:=[false,false,true] }],[],[p2,{},{ mode:=3 },p2,{ mode:=3 },p2],[],(p8 [1,1,1])],ih:=[(0,(qd false [1,3,4,1,58]))] }
def Uh:dt:={ ops:=[[p2],[p2,p2,{ mode:=3 },p2,{},p2,p2,p2],(p8 [1,1,1,1,1])] }
def Ui:dt:={ ops:=[[p2],[{},{},{ mode:=3 },p2],[p2,p2,{ mode:=3 },{},p2],[p2,p2,{ mode:=3 },p2]] }
def OC:dt:={ ops:=[[{ cz:=[true],mode:=1 }],[p2,{},p2,{ cz:=[false,true,true],mode:=8 },p2,{},p2,p2,p2],[{},p2],(p8 [1,0,1]),[{},{},{ cz:=[false,true,true],mode:=1 },p2,p2,{ cz:=[false,true,true],mode:=1 },p9,{ cz:=[false,true],mode:=1 },{ cz:=[true],mode:=1 }],[{},{ cz:=[false,true],mode:=1 }],[{},p2,{ cz:=[false,true] },p2],(p8 [0,1,2]),[p2,p2]] }
def JS:dt:={ ops:=[[{ cz:=[true],mode:=1 }],[p2,{ cz:=[false,true],mode:=8 },p2,{},p2,{},{ cz:=[false,true] },p2],[{},p2],(p8 [1,0,1]),[],[{},{ cz:=[false,true],mode:=9 }],[p2],[],[],(p8 [0,0,1,1,1]),[{},{ cz:=[false,true] },p2,p2],[{},{},{},p2,{ cz:=[false,true] },{ cz:=[false,true,true,true],mode:=1 },p2,{},p2,p2,p2],[{},{},{},p2,p2,p2,{ cz:=[false,true,true,true,true],mode:=1 },p2,{},p2,p2,p2],(p8 [1,1,1,2]),[p2,{ cz:=[false,true] },p2],[p2,p2],(p8 [0,0,2]),[],[],[p2],[],(p8 [0,0,1,1]),[p2,p2],[{},{},p2,p2,p2,{ cz:=[true,true,true] },p2,p2,p9,p2],[p2,p2],[p2,p2]],ih:=[(2,(qd false [4,1,1,2,20,3,55])),(4,(qd false [14,1,53,2,16]))] }
def Nb:dt:={ ops:=[[p2],[{},{ mode:=3 },p2],[p2,{ mode:=3 },{},p2],(p8 [0,1,1,1]),[],[{},{ mode:=3 },p2],(p8 [0,1,1]),[p2,{ mode:=3 },p2],[{},{},{ mode:=3 },{},{},{ mode:=3 },p2,p2],[],(p8 [0,0,2]),(p8 [1,1,1]),[{},{},{},p9,p2,p9,p2,p2,p2,{},p2,p2,p2,{},{ cz:=[false,true] },p2,{},{},{},{ cz:=[false,true] },{ mode:=3 },{ cz:=[false,true] },p2,{},p2,p2,p2,{},{ cz:=[false,true] },p2,{},{},{},{ cz:=[false,true] },{ mode:=3 },{ cz:=[false,true] },{ cz:=[false,false,true] },{ cz:=[false,true] }],[p2,{},{},p9,p2,{ cz:=[false,true] },p9,p2],[],[],(p8 [0,0,2]),(p8 [1,1,1]),(p8 [0,0,2,1,1]),(p8 [1,0,1,2,1]),[p2,p2]],ih:=[(0,(qd false [1,1,2,3,91])),(2,(qd false [1,1,2,6,88])),(4,(qd false [4,2,4,2,86]))] }
def abn:dt:={ ops:=[[p2],[{},{ mode:=3 },p2,p2,p2,{ mode:=3 },p2,p9,p2]] }
def abo:dt:={ ops:=[[p2],[{},{ mode:=3 },p2,{},p2,p2,p2],[{},{ mode:=3 },p2,{},p2,p2,p2],[p2,p2,p2,p2,p2,{ cz:=[true,false,true] },p2,{},{},p2,p2,{ mode:=3 },p2,{ cz:=[true,false,true] }],[p2,p2],[{},{},{ mode:=3 },p2,{},p2,p2,p2],[{},p2,p2,p2,p2,{},p9,p9,p2,p2,p2,{ mode:=3 },p2,p9,p9,p2,p2]] }
def Uj:dt:={ ops:=[[p2],[p2,{},p2,{ mode:=3 },p2,{},p2,p2,p2],[{},p2],(p8 [1,0,1]),[p2,p2,{ mode:=3 },p2]] }
def Ul:dt:={ ops:=[[p2],[{},{},p2,{ mode:=3 },p2,{},p2,p2,p2],(p8 [0,1,1]),(p8 [1,0,0,1]),[{},p2,p2,p2,p2,p2,{},p2,{ mode:=3 },p2,p2],[],[p2,p2,p2,{ mode:=3 },{},{ cz:=[false,true] }],(p8 [0,1,0,1,1,1])] }
def abp:dt:={ ops:=[[],(p8 [0,1,1,2,1])] }
def QM:dt:={ ops:=[[],[],[],(p8 [0,0,2]),(p8 [1,1,1]),(p8 [1,0,1,2,1]),[p2,p2]],ih:=[(0,(qd false [0,1,2,2,10]))] }
def Um:dt:={ ops:=[[],[{},{ mode:=3 },{ cz:=[false,true] }]] }
def Un:dt:={ ops:=[[],[{},{ mode:=3 },{ cz:=[false,true] }]] }
def Uo:dt:={ ops:=[[],[{},{ mode:=3 },{ cz:=[false,true] }]] }
def Up:dt:={ ops:=[[],[p2,p2]] }
def Uq:dt:={ ops:=[[],[p2,p2]] }
def Ur:dt:={ ops:=[[],[p2,p2,p2,p9,p9,{ cz:=[false,true] }]] }
def QN:dt:={ ops:=[[p2],[],(p8 [0,1,1,1]),(p8 [0,0,1,1,2]),(p8 [1,1,1]),[{},{},{},{ mode:=3 },{},{},{},{ mode:=3 },p2,p2],[p2,{},p2,p2,{},p2,p2,{ cz:=[true,true,true,true,true] },p2],[p2,p2]],ih:=[(0,(qd false [1,2,2,2,29]))] }
def Kv:dt:={ ops:=[[p2],[{},{ mode:=3 },p2],[{},p2],(p8 [1,0,1]),[p2],[],(p8 [0,1,1]),[{},{ mode:=3 },{ mode:=3 },p2],[p2],[],(p8 [0,0,1,1,1]),(p8 [1,1,2]),[],[p2,p2],(p8 [1,1,0,1,1,2]),[],[p2,p2],(p8 [1,0,2,1,1])],ih:=[(0,(qd false [2,1,14,3,28])),(2,(qd false [2,1,5,1,8,3,6,3,19]))] }
def Ut:dt:={ ops:=[[],[],(p8 [0,1,1,1,1,1,0,1,1,1,1,1,2]),[],(p8 [0,1,1]),[{},{},p2,{ mode:=3 }],[],[{},p2],[p2,{},p2,p2,{ cz:=[true,true,true] },p2],[p2,p2],[p2,p2],[p2,p2]],ih:=[(0,(qd false [0,2,3,1,16,3,18])),(2,(qd false [0,2,3,1,16,3,6,2,10]))] }
def Uu:dt:={ ops:=[[],(p8 [1,0,1])] }
def Uv:dt:={ ops:=[[p2],[p2,p2]] }
def QO:dt:={ ops:=[[],(p8 [0,1,1,1]),[p2,p2],[],(p8 [0,1,1]),[{},{},{},{ mode:=6 }],[p2,p2],[p2,p2],[p2,p2]],ih:=[(0,(qd false [1,1,3,1,6,3,10]))] }
def Uw:dt:={ ops:=[[],[{},p2,{ mode:=3 },{},p2,{ mode:=3 },p9,p2]] }
def OD:dt:={ ops:=[[p2],(p8 [0,1,1,1]),(p8 [0,1,1,0,1,2,1,0,1,2]),[],[],(p8 [0,0,2]),(p8 [1,1,1]),[{},p2,{},p9,p2,{ mode:=3 },p2],[],[{},p2,p2,p2,p2,{},p2,p2,{},p2,p2,p9,{ cz:=[true,false,true] },p2,p2,p2,p2,p2,{ cz:=[true,false,true] }],[],[]],ih:=[(0,(qd false [1,1,1,2,44]))] }
def Ux:dt:={ ops:=[[p2],[{},{},{},p2,p2,{ mode:=3 },{},{},{},p2,p2,{ mode:=3 },p2,p2],[{},{},{},p2,p2,{ mode:=3 },{},{},{},p2,p2,{ mode:=3 },p2,p2],[{},p2,p2,{},p2,p2,{},p2,p2,{},p2,p2,{ cz:=(qd false [0,8]) },p2]] }
def Nc:dt:={ ops:=[[],(p8 [0,1,1]),(p8 [0,1,1]),[{},p2],(p8 [1,1,1]),(p8 [0,0,2,1,0,0,1,2,1,2]),[],(p8 [0,1,1]),(p8 [0,0,2]),(p8 [1,1,1]),[{},{},p9,p2,{},{},p9,p2,p9,p2,{},p2,p2,{},{},p9,p2,{},p9,{ cz:=[false,false,true] },{ cz:=[false,true] }],(p8 [0,0,2,1,1]),(p8 [0,1,1,2,2,1,1,2,1]),[],(p8 [0,0,2]),(p8 [1,1,1]),[{},{},{ mode:=3 },p2],(p8 [1,0,1,2,1]),[p2,p2],[]],ih:=[(0,(qd false [0,1,2,2,76])),(2,(qd false [0,1,2,4,74])),(4,(qd false [3,1,3,2,72]))] }
def Uy:dt:={ ops:=[[],[{},p2],[],[{},p2,p9,{ cz:=[true],mode:=1 }]] }
def UA:dt:={ ops:=[[p2,p2],[p2,p9,{ mode:=6 },p2,p2]] }
def UB:dt:={ ops:=[[p2],[{},p2,p2,{ mode:=3 },p2,p2,p2,p2,p2,{ mode:=3 },p2,{ cz:=[true,false,true] },p2]] }
def QP:dt:={ ops:=[[p2],[{},{ mode:=3 },p2],[p2,{ mode:=3 },p2],(p8 [0,1,0,1,1,2]),[],[],(p8 [0,0,1,2]),(p8 [1,1,1]),[{},{},p9,p2,p2,p2,{},{},p9,p2,{},p2,p2,p9,{ cz:=[false,false,true] },p2,{},{},p9,{},{},p9,p2,{ mode:=3 },{ cz:=[false,false,true] }],[],[]],ih:=[(0,(qd false [1,2,2,1,42]))] }
def UC:dt:={ ops:=[[p2],(p8 [0,1,1,1,0,1,1,2,1,0,1,1,2,1,1,1,1,2,1])] }
def QQ:dt:={ two:=[(1,[0,1,2,7,3,4,5,6,8],3,7)],ops:=[[{ cz:=[true],mode:=1 }],[{},{},{ cz:=[true],mode:=3 },{ cz:=[true,true],mode:=2 },{},{ cz:=[true],mode:=3 },p9,{},{ cz:=[false,true] }],[],(p8 [0,0,1,2]),(p8 [1,1,1]),(p8 [0,1,0,0,2,1,1,0,0,2,1,1,2,2]),[p2,{ cz:=[false,true] }]],ih:=[(0,(qd false [1,1,2,3,27]))] }
def UD:dt:={ ops:=[[p2],[{},{},{ mode:=3 },{},{},{ mode:=3 },p9,p2]] }
def UE:dt:={ ops:=[[],[],[],[],(p8 [0,1,1]),(p8 [1,1,1,2,1]),[{},p2],[{},p2],[p2,p2],(p8 [1,0,1]),[p2],[],(p8 [0,1,1]),(p8 [1,1,2,1]),[p2,p2],[p2,p2]],ih:=[(0,(qd false [0,1,2,1,5,3,24])),(2,(qd false [6,1,18,3,8]))] }
def K7:dt:={ ops:=[[],[{},{},{},{ cz:=[false,true,true,true],mode:=1 },p2,{},p2,p2,p2],[p2],[],[],[{},p2],[],[{},p2],(p8 [0,1,0,2]),[{},{},{},{},p2,{ cz:=[false,true,true,true,true],mode:=1 },p2,{},p2,p2,p2],[p2],[p2,p2],[{},{},{ cz:=[false,true,true],mode:=9 },p2],(p8 [1,1,1,2,1]),[p2,p2],[],[p2],[],(p8 [0,1,1]),(p8 [1,0,0,2,1,0,1,1,1,1,0,0,1,1,0,2,2,1,2,1,2,1,2,1]),[p2,p2],[p2,p2]],ih:=[(0,(qd false [0,3,6,1,15,2,57])),(2,(qd false [0,2,11,1,39,3,28]))] }
def UF:dt:={ ops:=[(p8 [0,1,1]),[p2,{},p2,p2,{ mode:=3 },p2,{ cz:=[false,true,false,true,true,true],mode:=1 }]] }
def UG:dt:={ ops:=[[p2,p2],(p8 [1,1,1,1,2,1])] }
def L6:dt:={ ops:=[[],[{},{},p2,{},{ cz:=[false,true,true,true,true],mode:=9 },{},{ cz:=[false,true] }],(p8 [0,1,1,1,1,1,0,1,1,1,1,1,2,1]),(p8 [0,1,1]),[{},{},p9,p2,p2,p2,{},p2,{},p2,p2,p2,p2,p2,p2,p2,p9,p9,p2,{ cz:=[false,true] },{ cz:=[false,false,true] },{},p2],[{},p2,p2,p2,{},{},p2,p2,{ cz:=[false,true,true],mode:=9 },p9,p2,{},{},p2,p2],[p2,p2],[{},{},{},p2,p2,{ cz:=[false,true,true],mode:=9 },{ mode:=2 },p2],[{},p2,p2,p2,{},{},p2,p2,{ cz:=[false,true,true],mode:=9 },{},{ cz:=[true,true,true] }],[{},p2,p2,{},p2,p2,p9,{},{ cz:=[false,true] }],[p2],[{},p2,p2,{},p2,p2,p2,p2,p2,p2,p2,p9,p9,p2,{ cz:=[false,true] }],[p2,p2,p9,p2,{},p2,{},{ cz:=[false,true] },p2],[p2,p2],[],(p8 [1,1,1,1,2,1,1,2,1,1])] }
def QR:dt:={ ops:=[[p2],[],[],[p2,p2],(p8 [0,0,1,2]),(p8 [1,1,1]),[{},p2,{},{},p9,p2,p9,p2,{},{},p2,{ mode:=3 },{},{ cz:=[false,true] },p2],(p8 [0,0,2,1,1]),(p8 [1,1,1,2,1]),(p8 [1,0,0,1,2,2,1,0,0,1,2,2,1,1]),(p8 [0,1,1,1]),(p8 [0,1,1,1,2]),[p2,{},{ cz:=[false,true] },{},{ cz:=[false,true] },{ cz:=[false,true] },p2,p2,p2,p2,p9,p9,{ mode:=3 },p2],[{},p2,p2,{ mode:=3 },p2,p2,p2,p2,{ mode:=3 },p9,p2]],ih:=[(0,(qd false [1,1,1,2,4,4,74]))] }
def abq:dt:={ ops:=[[],(p8 [0,1,0,2]),[],[],(p8 [0,0,2]),(p8 [1,1,1]),[{},{},p9,p2,p2,p2,{},{},p9,p2,{},p9,{ cz:=[false,false,true] },p2,{},{},p9,{},{},p9,p2,{ mode:=3 },{ cz:=[false,false,true] }],[],[]],ih:=[(0,(qd false [0,2,3,1,32]))] }
def UH:dt:={ ops:=[[],[],[{},p2],[],[],[{},p2],[{},{},{},{ mode:=3 },{},{ cz:=[false,true] }],[p2,{},p2,p2,p2,{},p9,p9,{ cz:=[false,true] },p9],[p2,p2],[p2,{ cz:=[false,true] }]],ih:=[(0,(qd false [0,3,3,2,3,1,17]))] }
def QS:dt:={ ops:=[[],[p2,p2,p9,p2,{},{ cz:=[false,true] }],[],(p8 [0,1,0,1,2]),(p8 [1,1,1]),[{},{ cz:=[true],mode:=1 },{},{},p9,p2,{},{},p2,p9,p2,p9,p2,p9,{},p9],[p2,{ cz:=[false,true] }]],ih:=[(0,(qd false [2,1,3,3,27]))] }
def QT:dt:={ ops:=[[p2],[],[],(p8 [0,0,1,2]),(p8 [1,1,1]),(p8 [0,1,0,2]),[{},p2,{},{},p9,p2,p9,p2,{},{ cz:=[false,true] }],[p2,{},{},p2,{ mode:=3 },{},p2,{},p2,{},p9,p9,p9,p9,p2],[p2,p2]],ih:=[(0,(qd false [1,4,4,2,34]))] }
def QU:dt:={ ops:=[[p2],[{},p2,p2,p2,{ mode:=3 },p2,p2,{},p2,p2,p2,p2,{ cz:=[true,false,true] },p2],[],[{},p2,{ mode:=3 },p2,{},p2,p2,{},p2,p2,p9,{ mode:=3 },p2,{ cz:=[true,false,true] },p2,{},p2,p2,p2,p2,p2,p9,{ cz:=[true,false,true] },p2],[],[]] }
def UI:dt:={ ops:=[[],(p8 [1,0,1]),[{ cz:=[true],mode:=1 },{ cz:=[false,true],mode:=1 }],[{ cz:=[true],mode:=2 },p2]] }
def UJ:dt:={ ops:=[[p2],[p2,p2]] }
def JT:dt:={ ops:=[[p2],[p2],[p2],[{ mode:=1 },p2,p2,p9,p9],[{ cz:=[true],mode:=1 },p2]] }
def UK:dt:={ ops:=[[p2],[],[],[{ cz:=[true,true,true] },{ cz:=[false,true] }],[p2,{ cz:=[true],mode:=1 }]] }
def Kw:dt:={ ops:=[[],(p8 [0,1,0,1,1,1,1,1,2]),[p2,p2,{ cz:=[true,true],mode:=1 },p2],(p8 [1,1,1,1,1,1]),[],[{},p2],[{},{ cz:=[false,true] },p2,p2],[{},{ cz:=[false,true] },p2],[{},{},{},p2,{},p2,{ cz:=[true,true,true] },{},p2,p9,{ cz:=[true,true],mode:=1 },p2],[p2,{ cz:=[false,true] },p2],[p2,p2],[],[p2,p2],[]],ih:=[(0,(qd false [0,1,2,2,21,2,24]))] }
def QV:dt:={ ops:=[[],[],(p8 [0,0,1,2]),(p8 [1,1,1]),(p8 [0,0,2,1,0,2]),[],[]],ih:=[(0,(qd false [0,2,3,1,12]))] }
def UL:dt:={ ops:=[[],[p2,p2,{ mode:=6 },p2,p2]] }
def UM:dt:={ ops:=[[],[{},p2,p9,p2,p2,p2,p9,{ cz:=[true,false,true] },p2]] }
def Nd:dt:={ ops:=[[p2],[],[{},p2],(p8 [1,1,1]),[],[{},{},p2,{ cz:=[false,true] },p9],(p8 [1,1,1]),[],[],(p8 [0,0,1,2]),(p8 [1,1,1]),[p2,p2,{},{},p9,p2,p2,p2,{},p2,{},p9,{ cz:=[true,false,true] },p9,p2],[p2,p2,{},{ mode:=3 },{},p9,p9,p2,{},{},{},{},{ mode:=3 },p9],[p2,p2],[]],ih:=[(0,(qd false [1,3,3,1,49])),(2,(qd false [1,3,3,2,48])),(4,(qd false [1,3,3,4,46]))] }
def abt:dt:={ ops:=[[],[{},p2],[{},p2],(p8 [1,0,1,0,1,2,2,1]),[{},p2],(p8 [0,0,1,2,1,2,1,1,2,1]),[p2,p2]] }
def UN:dt:={ ops:=[[],(p8 [1,1,1,1,1,1,1,1,2,1])] }
def UO:dt:={ ops:=[[],[],(p8 [0,0,2,1]),[{},p2],[p2,p2,p2,p2,{ cz:=[false,true,true,true,true],mode:=1 }],[{},p2],[p2,p2,p2,p2,{ cz:=[false,true,true,true,true],mode:=1 }],[{},p2],[{},{},{},{},{ cz:=[false,true,true,true,true],mode:=1 }],(p8 [1,1,1]),[{},{},{},{},{ cz:=[false,true,true,true,true],mode:=1 },p2,{},p2,p2,p2],[{},p2],[{},{},{},{},{ cz:=[false,true,true,true,true],mode:=1 }],(p8 [0,1,1,0,2,2,1]),[],(p8 [0,1,0,2,1,1,1,2]),[{},{},{},{},{ cz:=[false,true,true,true,true],mode:=1 }],[{},p2,p2,{},{},{},p2,p9,p2,{},{},p9,p2,{ mode:=6 },p2,p2,{ cz:=[false,true] }],[{},p2,{},p2,{},{ cz:=[false,true,true,true,true,true],mode:=1 },p2],[p2,p2],[{},{},{},p2,{},{ cz:=[false,true,true,true,true,true],mode:=1 },p2,{},p2,p2,p2],[p2,p2],(p8 [0,0,2,0,0,2,1,1]),(p8 [1,1,1]),(p8 [0,0,2]),(p8 [1,1,2,1]),[{},p2,{},{},{},{ cz:=[false,true,true,true,true,true],mode:=1 }],(p8 [1,1,1]),(p8 [1,1,2,1]),[{},{},p2,p2,{},{},{ cz:=[false,true,true,true,true,true],mode:=1 }],[p2,p2]],ih:=[(0,(qd false [0,5,5,2,136]))] }
def abu:dt:={ ops:=[[],[p2,p2,{ mode:=3 },p2],[p2,{ mode:=3 },p2]] }
def QW:dt:={ ops:=[[],[],[p2],[],(p8 [0,0,1,1,1]),[{},p2,{},p9,p2,{},{},{ mode:=3 },{ cz:=[true,false,true] }],[{},p2,p2,p2,p2,p2,p9,p2,{},{ cz:=[false,true] }],[{},p2,{},{},{ mode:=3 },{},p2,p9,p9,{},p9],[{},p2,{},p2,{ mode:=3 },p2,p2,p9,p9,{},p9],[p2,p2],[p2,{ cz:=[false,true] }]],ih:=[(0,(qd false [0,1,1,2,4,2,3,3,43]))] }
def K8:dt:={ ops:=[[],[{},p2],[],[{},p2],(p8 [1,1,1]),[],[{},p2],(p8 [1,1,1]),[{},{},p9,{},{},p9,p9,{},{ cz:=[false,true] }],(p8 [0,1,1,1,1,1,0,1,1,1,1,1,2]),[{},{},{},{},p2,p2,p2,p2,p2,p9,p9,p9,p2,{ cz:=[false,true] }],[{},p2,{},{},p9,{ cz:=[true,true,true] }],[{},p2],[{},{},p2,p2,p2,p2,p2,p2,{ mode:=3 },p2],[],(p8 [0,1,1,1,1]),[],[{},p2,{},{ cz:=[false,true] }],(p8 [0,1,0,1,0,1,1,1,1,1,2,2,1]),[p2,{},p2,p2,{},p2,p2,{ cz:=[true,true,true] },p9,p9,p2],[p2,p2],[{},p2],[{},p2],[{},p2,{},{ cz:=[false,true] }],[{},p2,{},{},p2,p2,{ mode:=3 },p2],(p8 [0,1,2]),[p2,p2]],ih:=[(0,(qd false [0,2,3,2,116])),(2,(qd false [0,2,3,3,115])),(4,(qd false [0,1,4,1,3,2,66,3,43])),(6,(qd false [5,1,4,1,96,1,15]))] }
def UQ:dt:={ ops:=[[],(p8 [1,1,1,2,1])] }
def QX:dt:={ ops:=[[],(p8 [0,1,1]),(p8 [1,1,1]),(p8 [0,1,1]),(p8 [1,1,1,1]),[{},p2,p2,{},{},p9,p2,p9,p2,{},{},p9,p2,p9,p9,p2,{},{},p9,p2,p9,p9,p2,p2,p2,p2,p2,p2,p9,{ cz:=[true,false,true] },p2],[{},p2],(p8 [0,0,2]),(p8 [1,1,1]),[{},p2,{},{},{},{},p2,p2,{},p9,p9,{ mode:=3 }],[],[]],ih:=[(0,(qd false [0,4,6,1,59]))] }
def UR:dt:={ ops:=[[],[p2,p2,{ mode:=6 },p2,p2]] }
def US:dt:={ ops:=[[],(p8 [1,0,1])] }
def UT:dt:={ ops:=[(p8 [0,1,1]),[p2,{},p2,p2,{ mode:=3 },{ cz:=[false,true,false,true,true],mode:=1 }]] }
def UU:dt:={ ops:=[[p2],[],(p8 [0,1,1]),[{},p2,{ cz:=[true,true],mode:=1 },p2],[p2,p2]],ih:=[(0,(qd false [0,1,4,3,8]))] }
def QY:dt:={ ops:=[[],[{},p2],[],[{},p2],[{},{},{},p9,p2,{ mode:=6 }],[p2,p2],[p2,p2],[]],ih:=[(0,(qd false [0,2,5,2,10]))] }
def QZ:dt:={ ops:=[[],[],[],[{},p2],(p8 [1,1,1]),(p8 [1,0,0,2,1,2,1]),[p2,p2]],ih:=[(0,(qd false [0,1,2,2,11]))] }
def UW:dt:={ ops:=[(p8 [0,1,1]),(p8 [0,0,2]),(p8 [1,1,1]),[{},p2],[{},{},p9,p2,{},{},{},p9,p2,{},{},p2,p9,p2,{ mode:=6 },p2,{ cz:=[false,true] }],(p8 [1,1,1]),(p8 [0,0,0,0,1,0,0,1,2,1,0,0,2,1,2,2,2,2])],ih:=[(0,(qd false [0,4,4,1,44])),(2,(qd false [0,4,4,2,43]))] }
def abx:dt:={ ops:=[[{},p2],[],(p8 [1,1,2,1]),(p8 [0,1,1,1]),[{},p2],(p8 [1,1,1]),[{},{},{},{},{},{ cz:=[false,true,true,true,true,true],mode:=1 }],(p8 [1,1,1]),[{},p2],(p8 [1,1,1]),(p8 [0,0,0,0,0,2,0,0,0,2,2,1,0,0,2,1,2,2,2,2]),[{},{},{},{},{},{ cz:=[false,true,true,true,true,true],mode:=1 }]],ih:=[(0,(qd false [0,1,2,1,4,4,48])),(2,(qd false [0,1,2,1,4,2,2,1,47]))] }
def aby:dt:={ ops:=[(p8 [1,0,2,1]),[{},p2],[{},p2,{},{ cz:=[false,true] }],[{},{ mode:=3 },p2],(p8 [0,0,1,1,2,1,1]),(p8 [0,0,0,1,1,2,1,2]),(p8 [1,1,1]),[{ mode:=1 },{},p2,p9,p2,p2],(p8 [0,0,2]),(p8 [1,0,2,1]),(p8 [0,0,0,0,0,2,0,0,0,2,2,1,0,0,2,1,2,2,2,2])],ih:=[(0,(qd false [0,2,6,4,55]))] }
def abz:dt:={ ops:=[[],(p8 [1,0,2,1]),[],(p8 [0,0,1,1,2,1]),(p8 [0,0,1,1,2,1]),(p8 [1,0,1,1,2,1]),[{},p2],[p2,p2],[{},p2,{},{ cz:=[false,true,true,false,true],mode:=1 },p2],[{},p2,{},{ cz:=[false,true,true,false,true],mode:=1 },p2],[{},p2,{},{ cz:=[false,true,true,false,true],mode:=1 },p2],[p2,p2,p2,p2,p2,{ cz:=[false,true,true,true,true,false,true],mode:=1 },p2],[p2],[p2,p2],[{},p2],[p2,p2],[p2,p2],[p2,p2]] }
def abA:dt:={ ops:=[[p2,p2],(p8 [1,1,1]),(p8 [0,0,2]),(p8 [0,0,0,0,0,0,2,1,0,0,2,1,2,2,2,2]),(p8 [1,1,1]),(p8 [1,1,1])],ih:=[(0,(qd false [0,1,7,2,24]))] }
def abB:dt:={ ops:=[[],(p8 [0,1,1]),[],[{},p2],(p8 [1,1,1]),[{},{},p9,p2,{},{},{},p9,p2,{},{},p2,p9,p2,{ mode:=6 },p2,p2,{ cz:=[false,true] }],(p8 [1,1,1]),(p8 [0,0,2]),[],(p8 [0,0,2,1]),[],(p8 [0,0,0,0,1,0,0,1,2,1,0,0,2,1,2,2,2,2]),(p8 [0,0,2,1]),(p8 [0,1,1]),[{},p2],(p8 [1,1,1]),[{},{},{},p9,p2,{},{},p2,p9,p2,{ mode:=6 },p2,p2],(p8 [0,0,0,0,1,0,0,1,2,1,0,0,2,1,2,2,2,2]),(p8 [0,0,2,1]),(p8 [0,1,1]),(p8 [0,0,2]),(p8 [1,1,1]),[{},{},{},p9,p2,{},{},p2,p9,p2,{ mode:=6 },p2,p2],(p8 [0,0,0,0,1,0,0,1,2,1,0,0,2,1,2,2,2,2]),[]],ih:=[(0,(qd false [0,4,5,2,130])),(2,(qd false [0,4,5,2,130])),(4,(qd false [0,4,5,3,129])),(6,(qd false [0,4,5,2,1,1,128]))] }
def abC:dt:={ ops:=[[],(p8 [0,0,0,0,0,0,2,1,0,0,2,1,2,2,2,2]),(p8 [0,1,1,1,1,1]),[{},{},p9,p2,{},{},{},p9,p2,{},{},p9,p2,{ mode:=6 },p2,p2,{ cz:=[false,true] }],(p8 [1,1,1]),[{},{},p9,p2,{},{},{},p9,p2,{},{},p9,p2,{ mode:=6 },p2,{ cz:=[false,true] }],(p8 [1,1,1]),(p8 [0,0,2]),(p8 [0,0,0,0,0,0,2,1,0,0,2,1,2,2,2,2]),(p8 [1,1,1]),(p8 [1,1,1]),[p2,p2]],ih:=[(0,(qd false [0,2,2,1,6,2,77])),(2,(qd false [0,2,2,1,6,2,77])),(4,(qd false [0,2,2,1,6,2,77]))] }
def abD:dt:={ ops:=[[],(p8 [0,0,0,0,0,0,2,1,0,0,2,1,2,2,2,2]),(p8 [0,1,1,1,1,1]),[{},{},p9,p2,{},{},{},p9,p2,{},{},p9,p2,{ mode:=6 },p2,{ cz:=[false,true] }],(p8 [1,1,1]),[{},{},p9,p2,{},{},{},p9,p2,{},{},p9,p2,{ mode:=6 },p2,p2,{ cz:=[false,true] }],(p8 [1,1,1]),(p8 [0,0,2]),(p8 [0,0,0,0,0,0,2,1,0,0,2,1,2,2,2,2]),[p2,p2],(p8 [0,0,0,0,0,0,2,1,0,0,2,1,2,2,2,2]),(p8 [1,1,1]),(p8 [1,1,1]),[{},{},p9,p2,{},{},{},p9,p2,{},{},p9,p2,{ mode:=6 },p2,{ cz:=[false,true] }],(p8 [1,1,1]),[{},{},p9,p2,{},{},{},p9,p2,{},{},p9,p2,{ mode:=6 },p2,p2,{ cz:=[false,true] }],(p8 [1,1,1]),(p8 [0,0,2]),(p8 [0,0,0,0,0,0,2,1,0,0,2,1,2,2,2,2]),(p8 [1,1,1]),(p8 [1,1,1]),(p8 [0,0,0,0,0,0,2,1,0,0,2,1,2,2,2,2]),[p2,p2]],ih:=[(0,(qd false [0,2,2,1,7,2,164])),(2,(qd false [0,2,2,1,7,2,164])),(4,(qd false [0,2,2,1,7,2,164])),(6,(qd false [0,2,2,1,7,2,164])),(8,(qd false [0,2,2,1,7,2,164]))] }
def abE:dt:={ ops:=[[],[{},p2],(p8 [1,1,1]),[],[{},p2],(p8 [1,1,1]),(p8 [1,1,1]),[p2,p2,p2,{ cz:=[false,true] },p2,p9,p2]] }
def abF:dt:={ ops:=[[],[{},p2],(p8 [1,1,1]),[],[{},p2],(p8 [1,1,1]),(p8 [1,1,1]),[{},p2],(p8 [1,1,1]),(p8 [1,1,1]),[p2,p2,p2,{ cz:=[false,true] },p2,p9,p2]] }
def T9:dt:={ ops:=[[],[p2,p2,{ mode:=3 },p2,p2]] }
def QG:dt:={ ops:=[[],[{},p2],[],[{},p2],[{},{},{},p9,p2,{ mode:=6 }],[p2,p2],[p2,p2],[]],ih:=[(0,(qd false [0,2,5,2,10]))] }
def JQ:dt:={ ops:=[[p2],[p2],[p2],[{ mode:=1 },p2,p2,p9,{ cz:=[true,true],mode:=1 }],[{ cz:=[true],mode:=1 },p2]] }
def T_:dt:={ ops:=[[],[],(p8 [0,0,2,1]),[{},p2],[p2,p2,p2,{ cz:=[false,true,true,true],mode:=1 }],[{},p2],[p2,p2,p2,{ cz:=[false,true,true,true],mode:=1 }],[{},p2],[{},{},{},{ cz:=[false,true,true,true],mode:=1 }],(p8 [1,1,1]),[{},{},{},{ cz:=[false,true,true,true],mode:=1 },p2,{},p2,p2,p2],[{},p2],[{},{},{},{ cz:=[false,true,true,true],mode:=1 }],(p8 [0,1,1,0,2,2,1]),[],(p8 [0,1,0,2,1,1,1,2]),[{},{},{},{ cz:=[false,true,true,true],mode:=1 }],[{},p2,p2,{},{},p2,p9,p2,{},{},p9,p2,{ mode:=3 },p2,{ cz:=[false,true] }],[{},p2,{},p2,{ cz:=[false,true,true,true,true],mode:=1 },p2],[p2,p2],[{},{},{},p2,{ cz:=[false,true,true,true,true],mode:=1 },p2,{},p2,p2,p2],[p2,p2],(p8 [0,0,2,0,0,2,1,1]),(p8 [1,1,1]),(p8 [0,0,2]),(p8 [1,1,2,1]),[{},p2,{},{},{ cz:=[false,true,true,true,true],mode:=1 }],(p8 [1,1,1]),(p8 [1,1,2,1]),[{},{},p2,p2,{},{ cz:=[false,true,true,true,true],mode:=1 }],[p2,p2]],ih:=[(0,(qd false [0,4,4,2,124]))] }
def aa7:dt:={ ops:=[[p2,p2],[{},{ cz:=[false,true] },p2,p2],(p8 [0,0,2]),[{},p2,{},p9,p2,{},{},{},{},p9,p9,p2,{},{},{},p9,p2,p9,p2,{ mode:=6 },p2,{ cz:=[false,true] }],(p8 [1,1,1]),[{},{},{},{},p9,p9,p2,{},{},{},p9,p9,p2,{ mode:=6 },p2,p2],(p8 [0,0,0,2,0,0,0,2,0,0,0,2,2,1,0,0,0,2,2,1,2,2,2,2]),[p2,p2]],ih:=[(0,(qd false [0,1,1,3,5,1,71]))] }
def aa8:dt:={ ops:=[[],[p2,p2,{ mode:=3 },{ cz:=[false,true] },p2]] }
def aa9:dt:={ ops:=[[],(p8 [0,0,1,0,1,1,1,2,0,2]),(p8 [0,0,1,0,1,1,1,2,0,2]),(p8 [0,0,1,0,1,1,1,2,0,2]),(p8 [1,1,1,1])] }
def aa_:dt:={ ops:=[[],[p2,{},p2,{},p2,p2,p2,p2,{ cz:=[false,true,true,true,true,true,true],mode:=1 },p2]] }
def aba:dt:={ ops:=[[],[{},p2,p2,{},{},{ cz:=[false,true,true,true,true,true],mode:=1 },p2,{},p2,p2,p2],[{},p2,p2,{},{},{ cz:=[false,true,true,true,true,true],mode:=1 },p2,{},p2,p2,p2],[p2,p2,p2,p2,p2,{ cz:=[false,true,true,true,true,true],mode:=1 },p2,{},p2,p2,p2],[p2,p2]] }
def QH:dt:={ ops:=[[],[{},p2],[],[{},p2],(p8 [0,0,0,2,1,2]),[p2,p2],[p2,p2],[]],ih:=[(0,(qd false [0,2,5,2,10]))] }
def Ua:dt:={ ops:=[(p8 [0,1,1]),(p8 [0,0,2]),(p8 [1,1,1]),[{},p2],[{},{},p9,p2,{},{},p9,p2,{},{},p2,p9,p2,{ mode:=3 },{ cz:=[false,true] }],(p8 [1,1,1]),(p8 [0,0,0,0,1,0,0,1,2,1,0,0,2,1,2,2,2,2])],ih:=[(0,(qd false [0,3,3,1,42])),(2,(qd false [0,3,3,2,41]))] }
def abb:dt:={ ops:=[[{},p2],[],(p8 [1,1,2,1]),(p8 [0,1,1,1]),[{},p2],(p8 [1,1,1]),[{},{},{},{},{ cz:=[false,true,true,true,true],mode:=1 }],(p8 [1,1,1]),[{},p2],(p8 [1,1,1]),(p8 [0,0,0,0,0,2,0,0,0,2,2,1,0,0,2,1,2,2,2,2]),[{},{},{},{},{ cz:=[false,true,true,true,true],mode:=1 }]],ih:=[(0,(qd false [0,1,5,4,46])),(2,(qd false [0,1,5,2,2,1,45]))] }
def abc:dt:={ ops:=[(p8 [1,0,2,1]),[{},p2],[{},p2,{},{ cz:=[false,true] }],[{},{ mode:=3 },p2],(p8 [0,0,1,1,2,1,1]),(p8 [0,0,0,1,1,2,1,2]),(p8 [1,1,1]),[{ mode:=1 },{},p2,p9,p2,p2],(p8 [0,0,2]),(p8 [1,0,2,1]),(p8 [0,0,0,0,0,2,0,0,0,2,2,1,0,0,2,1,2,2,2,2])],ih:=[(0,(qd false [0,2,4,4,55]))] }
def abd:dt:={ ops:=[[],(p8 [1,0,2,1]),[],(p8 [0,0,1,1,2,1]),(p8 [0,0,1,1,2,1]),(p8 [1,0,1,1,2,1]),[{},p2],[p2,p2],[{},p2,{ cz:=[false,true,true],mode:=1 },p2],[{},p2,{ cz:=[false,true,true],mode:=1 },p2],[{},p2,{ cz:=[false,true,true],mode:=1 },p2],[p2,p2,p2,p2,{ cz:=[false,true,true,true,true],mode:=1 },p2],[p2],[p2,p2],[{},p2],[p2,p2],[p2,p2],[p2,p2]] }
def abe:dt:={ ops:=[[p2,p2],(p8 [1,1,1]),(p8 [0,0,2]),(p8 [0,0,0,0,0,0,2,1,0,0,2,1,2,2,2,2]),(p8 [1,1,1]),(p8 [1,1,1])],ih:=[(0,(qd false [0,1,5,2,24]))] }
def abf:dt:={ ops:=[[],(p8 [0,1,1]),[],[{},p2],(p8 [1,1,1]),[{},{},p9,p2,{},{},p9,p2,{},{},p2,p9,p2,{ mode:=3 },p2,{ cz:=[false,true] }],(p8 [1,1,1]),(p8 [0,0,2]),[],(p8 [0,0,2,1]),[],(p8 [0,0,0,0,1,0,0,1,2,1,0,0,2,1,2,2,2,2]),(p8 [0,0,2,1]),(p8 [0,1,1]),[{},p2],(p8 [1,1,1]),[{},{},p9,p2,{},{},p2,p9,p2,{ mode:=3 },p2],(p8 [0,0,0,0,1,0,0,1,2,1,0,0,2,1,2,2,2,2]),(p8 [0,0,2,1]),(p8 [0,1,1]),(p8 [0,0,2]),(p8 [1,1,1]),[{},{},p9,p2,{},{},p2,p9,p2,{ mode:=3 },p2],(p8 [0,0,0,0,1,0,0,1,2,1,0,0,2,1,2,2,2,2]),[]],ih:=[(0,(qd false [0,3,4,2,124])),(2,(qd false [0,3,4,2,124])),(4,(qd false [0,3,4,3,123])),(6,(qd false [0,3,4,2,1,1,122]))] }
def Ub:dt:={ ops:=[[],[{},{ mode:=3 },p2,{},{ mode:=3 },p2,p9,p2,p2,p2,p9,{ cz:=[true,false,true] },p2]] }
def abg:dt:={ ops:=[[],[],[],[],[],[],[],[],[],[],(p8 [1,1,1])] }
def abh:dt:={ ops:=[[],[],[],(p8 [1,1,1,1])] }
def abi:dt:={ ops:=[[],[],[],[],[],[{},{},{},p9,p9,p2,{},{},{},p9,p9,p2,{ mode:=3 },p2]] }
def abj:dt:={ ops:=[[],[p2,{},p2,{},p2,p2,p2,{ cz:=[false,true,true,true,true,true],mode:=1 },p2]] }
def abk:dt:={ ops:=[[],[{},p2,p2,{},{ cz:=[false,true,true,true,true],mode:=1 },p2,{},p2,p2,p2],[],[p2,p2,p2,p2,{ cz:=[false,true,true,true,true],mode:=1 },p2,{},p2,p2,p2]] }
def Ud:dt:={ ops:=[[],(p8 [0,1,2,1])] }
def abl:dt:={ ops:=[[],[{},{},p9,p2,{},{},p9,p2,{ mode:=3 }],(p8 [1,0,1,1,1,2]),(p8 [1,1,1,1]),(p8 [1,1,1,1])] }
def abG:List dt:=[{},{},abm,Uk,Us,Uz,{},abr,abv,abw,T8,T',Uc,Ue,Uf,QI,JR,QJ,QK,Ug,QL,Uh,Ui,OC,JS,Nb,abn,abo,{},Uj,Ul,abp,QM,Um,Un,Uo,Up,Uq,Ur,QN,Kv,Ut,Uu,Uv,QO,Uw,OD,Ux,Nc,Uy,UA,UB,QP,UC,QQ,UD,UE,K7,UF,UG,L6,QR,abq,UH,QS,QT,QU,UI,UJ,JT,UK,Kw,QV,UL,UM,Nd,abt,UN,UO,abu,QW,K8,UQ,QX,UR,US,UT,UU,QY,QZ,UW,abx,aby,abz,abA,abB,abC,abD,abE,abF,T9,QG,JQ,T_,aa7,aa8,aa9,aa_,aba,QH,Ua,abb,abc,abd,abe,abf,Ub,abg,{},abh,abi,abj,abk,Ud,abl,{},{},{},{},{},{},{},{},{},{},{},{},{},{},{},{}]
def jA (k:FuncId):dt:=abG.getD k {}
end Go.Proofs.YtkoioidpbbbaiaaGreat.Ab


namespace Go.Proofs.YtkoioidpbbbaiaaGreat.Ab
open Go
end Go.Proofs.YtkoioidpbbbaiaaGreat.Ab


namespace Go.Proofs.YtkoioidpbbbaiaaGreat.Ab
open Go
end Go.Proofs.YtkoioidpbbbaiaaGreat.Ab


namespace Go.Proofs.YtkoioidpbbbaiaaGreat.Ab
open Go
theorem eD:Go.Proofs.Tryz.prog.follows .mixedOrders=true:=by qb
abbrev qw (k:FuncId) (args:List I) (v:I):Prop:=nj Go.Proofs.Tryz.prog k args v
abbrev hX (n:Int):I:=.int .i64 n
abbrev Hm:I:=.a0
abbrev B (b:Bool):I:=.bool b
def oW (l:List Int):I:=.av (l.map hX) l.length .shared
def ju (l:List (List Int)):I:=.av (l.map oW) l.length .shared
theorem Xp (d:Nat) (l:List Int):(l.map hX).all (cn (d+1))=true:=by
 rw [ss];intro u hu;obtain ⟨x,_,rfl⟩:=sH.1 hu;rfl
theorem Xo (d:Nat) (l:List Int):cn (d+2) (oW l)=true:=Xp d l
theorem R' (d:Nat) (l:List (List Int)):(l.map oW).all (cn (d+2))=true:=by
 rw [ss];intro u hu;obtain ⟨x,_,rfl⟩:=sH.1 hu;exact Xo d x
theorem af5 (d:Nat) (l:List (List Int)):cn (d+3) (ju l)=true:=R' d l
theorem Mr (k:IntKind) (n:Int):cn 8 (.int k n)=true:=rfl
theorem Mz (b:Bool):cn 8 (.bool b)=true:=rfl
theorem Ms (l:List Int) (n:Nat) (c:hB):cn 8 (.av (l.map hX) n c)=true:=Xp 6 l
theorem Mu (l:List (List Int)) (n:Nat) (c:hB):cn 8 (.av (l.map oW) n c)=true:=R' 5 l
theorem Mt (l:List Int):cn 8 (oW l)=true:=Xo 6 l
theorem Mv (l:List (List Int)):cn 8 (ju l)=true:=af5 5 l
theorem MA (k:FuncId):cn 8 (.func k [] [])=true:=rfl
theorem MB (n:Nat) (c:hB):cn 8 (.av [] n c)=true:=rfl
theorem Kb (l:List (List Int)) (n:Nat) (c:hB):cn 8 (.agg [.av (l.map oW) n c])=true:=by
 show [I.av (l.map oW) n c].all (cn 7)=true;rw [tH,uj,tx];exact R' 4 l
theorem Mw (l:List (List Int)):cn 8 (.agg [ju l])=true:=Kb l _ _
theorem Mx (l:List (List Int)):cn 8 (.bR [ju l])=true:=Kb l _ _
theorem My (l:List (List Int)) (n:Nat) (c:hB):cn 8 (.bR [.av (l.map oW) n c])=true:=Kb l _ _
theorem PL (i:Nat) (h:i≤9223372036854775806):IntKind.i64.wrap ((i:Int)+1)=((i+1:Nat):Int):=by rw [IntKind.wrap_i64];omega
theorem HR (n:Int) (ab:-9223372036854775808≤n) (ae:n≤9223372036854775807):IntKind.i64.wrap n=n:=by rw [IntKind.wrap_i64];omega
theorem Xn:∀ {d:Nat} {v:I},cn d v=true→cn (d+1) v=true
 | 0,v,h=>by simp [cn] at h
 | d+1,v,h=>by
   have key:∀ {l:List I},l.all (cn d)=true→l.all (cn (d+1))=true:=fun h=>by
    rw [ss] at h ⊢;exact fun u hu=>Xn (h u hu)
   cases v <;> simp only [cn,su,ub] at h ⊢ <;> first | trivial | exact key h | exact ⟨key h.1,key h.2⟩
theorem HH {p:Prop} [Decidable p] {A C:Prop} (ab:p→A) (ae:¬ p→C):(match decide p with | true=>A | false=>C):=by
 by_cases h:p
 ·simp only [h,decide_true];exact ab h
 ·simp only [h,decide_false];exact ae h
theorem rC {k:FuncId} {xs:List I} {v:I}:∀ p∈([]:c4),p.1=k→p.2.1=xs→p.2.2=v:=fun _ h=>by simp at h
theorem BS {k k':FuncId} {xs ys:List I} {v bn:I} (h:k'=k→ys=xs→bn=v):∀ p∈([(k',ys,bn)]:c4),p.1=k→p.2.1=xs→p.2.2=v:=fun p aB=>by
 simp only [List.mem_singleton] at aB;subst aB;exact h
theorem Io {k:FuncId} {xs:List I} {v:I} {acc:c4} (h:acc.all (fun p=>p.1 != k)=true):∀ p∈acc,p.1=k→p.2.1=xs→p.2.2=v:=fun p aB e=>by
 have:=ss.1 h p aB;simp [e] at this
def HF (cap:List I):Prop:=cap.all (cn 7)=true∧∀ u∈cap,∃ cs,u=.bR cs
theorem HF.T5 {cap:List I} (h:HF cap):cap.all (cn 8)=true:=by
 have ab:=h.1;rw [ss] at ab ⊢;exact fun u hu=>Xn (ab u hu)
theorem HF.iA {cap:List I} (h:HF cap) (H:List ar):cap.map (iA H)=cap:=by
 conv=>rhs;rw [←vi cap]
 apply tT;intro u hu;obtain ⟨cs,rfl⟩:=h.2 u hu;rfl
theorem HF.hT {cap:List I} (h:HF cap) (H:List ar):cap.map (hT H)=cap:=by
 conv=>rhs;rw [←vi cap]
 apply tT;intro u hu;obtain ⟨cs,rfl⟩:=h.2 u hu;rfl
theorem HF.ca {cap:List I} (h:HF cap):cap.map I.ca=cap:=by
 conv=>rhs;rw [←vi cap]
 apply tT;intro u hu;obtain ⟨cs,rfl⟩:=h.2 u hu;rfl
theorem HF.fn {cap:List I} (h:HF cap) (H:List ar) (k:FuncId):Ab.iA H (.func k [] cap)=.func k [] cap:=by
 simp only [Ab.iA,h.hT,uK]
theorem HF.Xf {cap:List I} (h:HF cap) (k:FuncId):cn 8 (.func k [] cap)=true:=by
 show (([]:List I).all (cn 7) && cap.all (cn 7))=true;rw [h.1];rfl
theorem HF.nil:HF []:=⟨rfl,by simp⟩
section
variable {P:Program}
theorem call6 {k:FuncId} {xs bs:List I} {H:List ar} {lo:Nat} {v:I} (af:(xs.map (iA H)).map I.ca=bs) (aB:(xs.map (iA H)).all (cn 8)=true) (h:nj P k bs v) (ah:fw v=true):oU P 6 lo (.fn k) xs H v.ca H:=by
 subst af;refine ⟨k6 (.fn k) ((xs.map (iA H)).map I.ca) [] 0 v [],EB h.1,?_⟩;simp only [eN,aB,EA,sc,yW h.2,ah]
end
theorem Vu {H:List ar} {id d:Nat} {l:List I} (h:H[id]?=some (.cells l)) (aB:(l.map I.view).all (cn d)=true):bL H 0 H.length 0 (d+1) (.ptr id 0)=some (.bR (l.map I.view)):=by
 have ab:=(sd.1 h).1;have ae:dZ (bL H 0 H.length 0 d) (l.map I.view)=some (l.map I.view):=zU fun u hu=>yW (by rw [ss] at aB;exact aB u hu);simp only [bL,Nat.not_lt_zero,if_false,h,tu,ae,si];rw [if_neg (by omega)]
end Go.Proofs.YtkoioidpbbbaiaaGreat.Ab


namespace Go.Proofs.YtkoioidpbbbaiaaGreat.Ab
open Go
section
variable {P:Program}
theorem Vn (eD:P.follows .mixedOrders=true) {k:Nat} {A:dt} {rc:gB} {n:Nat} {ts:List Im} (ao:qu P A k=some (rc,n,ts)) {lo:Nat} {args T:List I} {H H':List ar} (bZ:args++List.replicate (n-args.length) .a0=T) {v:I} (J8:a' lo H H')
  (h:dN P A k lo none rc T H fun e g3 H1=>(e=.normal∨e=.ret)∧lF H1 H'∧(r0 H1 g3 ts).map jd=some v):Sem P (.fn k) args H lo v H':=by
 unfold qu at ao;split at ao
 ·rename_i f aP;split at ao
  ·rename_i c af;split at ao
   ·rename_i XI PG ab ae aF ba;simp only [Option.some.injEq,Prod.mk.injEq] at ao;obtain ⟨rfl,rfl,rfl⟩:=ao;subst bZ;refine Hb eD aP af (by simpa using ae) ab J8 (oQ (fun e s a_=>?_) (G6 aF h));obtain ⟨cc,b_,eP⟩:=a_;simp only [Option.map_eq_some_iff] at eP;obtain ⟨vs,eP,iM⟩:=eP;exact ⟨cc,b_,vs,by rw [N2 _ _ ba,eP],iM⟩
   ·cases ao
  ·cases ao
 ·cases ao
end
theorem rL {P:Program} (eD:P.follows .mixedOrders=true) {k:Nat} {A:dt} {rc:gB} {n:Nat} {ts:List Im} (ao:qu P A k=some (rc,n,ts)) {lo:Nat} {args T:List I} {H H':List ar} (bZ:args++List.replicate (n-args.length) .a0=T) {v:I} (J8:a' lo H H')
  (h:∀ Q:cN→List I→List ar→Prop,(∀ e g3 H1,(e=.normal∨e=.ret)∧lF H1 H'∧(r0 H1 g3 ts).map jd=some v→Q e g3 H1)→dN P A k lo none rc T H Q):Sem P (.fn k) args H lo v H' :=
 Vn eD ao bZ J8 (h _ fun _ _ _ h=>h)
theorem OS {P:Program} (eD:P.follows .mixedOrders=true) {k:Nat} {A:dt} {rc:gB} {n:Nat} {ts:List Im} (ao:qu P A k=some (rc,n,ts)) {args T:List I} (bZ:args++List.replicate (n-args.length) .a0=T) {v:I} (aB:cn 8 v=true)
  (h:∀ Q:cN→List I→List ar→Prop,(∀ e g3 H1,M' ts v e g3 H1→Q e g3 H1)→dN P A k 0 none rc T [] Q):nj P k args v :=
 Rg eD ao bZ aB (h _ fun _ _ _ h=>h)
theorem rH {P:Program} {lo:Nat} {bX:e'} {xs:List I} {H H':List ar} {v:I} (h:Sem P bX xs H lo v H'):oU P 1 lo bX xs H v H' :=
 ⟨k6 bX xs H lo v H',EB h,by simp only [eN,EA]⟩
theorem YK {P:Program} {k:FuncId} {args:List I} {v:I} (cq:args.all (cn 8)=true) (h:nj P k args v) (H:List ar):Sem P (.fn k) args H H.length v H:=by
 obtain ⟨⟨_,ab,ae⟩,aB⟩:=h
 exact ⟨a'.refl _ _,ab,fun B aa J S w vs ag aI ad=>CallsIn.mono (ae B _ [] S w vs (pZ ag) (fun b i h=>by obtain ⟨_,_,h⟩:=kq h;cases h) (ad.pure cq)) fun e w' he=>by
  cases e with
  | returned v=>exact xH ag (yW (n:=0) aB) he
  | panicked c=>exact he.elim
  | outgrown=>exact he.elim⟩
theorem Ng {P:Program} {k:FuncId} {args:List I} {v:I} (cq:args.all (cn 8)=true) (h:nj P k args v) (H:List ar) (lo:Nat):oU P 0 lo (.fn k) args H v H :=
 ⟨_,EB (YK cq h H),by simp only [eN,EA,sc,yW h.2,si]⟩
theorem VI {X Z:List ar} {j:Nat} {o:ar} (h:X[j]?=some o):(X++Z)[j]?=some o:=by
 rw [sk (sd.1 h).1];exact h
theorem HK (X:List ar) (c dR:ar):(X++[c]).set X.length dR=X++[dR]:=by simp
theorem I3 (X:List ar) (c:ar):(X++[c])[X.length]?=some c:=by simp
end Go.Proofs.YtkoioidpbbbaiaaGreat.Ab


namespace Go.Proofs.YtkoioidpbbbaiaaGreat.Ab
open Go
def qi:Nat:=18446744073709551616
def qs (p:Prop) [Decidable p] {aV:Type} (k:Option aV):Option aV:=if p then k else none
theorem rW {p:Prop} [Decidable p] {aV:Type} {k:Option aV} {v:aV} (h:qs p k=some v):p∧k=some v:=by
 unfold qs at h;split at h
 ·exact ⟨by assumption,h⟩
 ·cases h
theorem qx {p:Prop} [Decidable p] {aV:Type} {k:Option aV} (h:p):qs p k=k:=if_pos h
theorem p' {α aV:Type} {x:Option α} {f:α→Option aV} {v:aV} (h:x.bind f=some v):∃ a,x=some a∧f a=some v:=by
 cases x with
 | none=>cases h
 | some a=>exact ⟨a,rfl,h⟩
theorem rp {b:Bool} {aV:Type} {x y:Option aV} {v:aV} (af:b=true) (h:(if b=true then x else y)=some v):x=some v:=by
 rw [if_pos af] at h;exact h
theorem rq {b:Bool} {aV:Type} {x y:Option aV} {v:aV} (af:b=false) (h:(if b=true then x else y)=some v):y=some v:=by
 rw [if_neg (by rw [af];decide)] at h;exact h
def ix {α:Type} [Inhabited α] (l:List α) (i:Int):α:=l.getD i.toNat default
theorem rI {α:Type} [Inhabited α] {l:List α} {k:Nat} (h:k<l.length):ix l (k:Int)=l[k]:=by
 simp [ix,h]
theorem O9 {α:Type} [Inhabited α] {l:List α} {i:Int} (h:0≤i∧i<(l.length:Int)):ix l i=l[i.toNat]'(by omega):=by
 have:i.toNat<l.length:=by omega
 simp [ix,this]
theorem J9 {α:Type} [Inhabited α] {l:List α} {i:Int} (h:0≤i∧i<(l.length:Int)):ix l i∈l:=by
 rw [O9 h];exact List.getElem_mem _
abbrev w (n:Int):Int:=IntKind.i64.wrap n
theorem ahW {n:Int} (ab:-9223372036854775808≤n) (ae:n≤9223372036854775807):w n=n:=HR n ab ae
theorem rA {aV:Type} {v:aV} {G:Prop} (h:(none:Option aV)=some v):G:=by cases h
def aaZ {α:Type} (f:α→I) (l:List α):I:=.av (l.map f) l.length .shared
def aa0 {α:Type} (f:α→List I) (l:List α):I:=.av (l.flatMap f) l.length .shared
theorem rj {α:Type} [Inhabited α] (f:α→I) (l:List α) (n:Int) (h:0≤n∧n<(l.length:Int)):(l.map f).drop (n.toNat*1)=f (ix l n)::(l.drop (n.toNat+1)).map f:=by
 have aX:n.toNat<l.length:=by omega
 rw [tz,←tP,sV aX,sI,O9 h]
theorem IZ {α:Type} [Inhabited α] (f:α→List I) (s:Nat) (ah:∀ x,(f x).length=s):∀ (l:List α) (n:Int),0≤n∧n<(l.length:Int)→(l.flatMap f).drop (n.toNat*s)=f (ix l n)++(l.drop (n.toNat+1)).flatMap f:=by
 have key:∀ (l:List α) (k:Nat) (h:k<l.length),(l.flatMap f).drop (k*s)=f l[k]++(l.drop (k+1)).flatMap f:=by
  intro l
  induction l with
  | nil=>intro k h;simp at h
  | cons x l a8 =>
    intro k h;cases k with
    | zero=>simp
    | succ k =>
      (have al:k<l.length:=by simpa using h);(have e:(k+1)*s=(f x).length+k*s:=by rw [ah,ti,Nat.one_mul,tp]);rw [uo,e,List.drop_length_add_append,a8 k al];rfl
 intro l n h;rw [key l n.toNat (by omega),O9 h]
theorem Iz {α:Type} (f:α→List I) (s:Nat) (ah:∀ x,(f x).length=s) (l:List α):(l.flatMap f).length=l.length*s:=by
 induction l with
 | nil=>simp
 | cons x l a8=>rw [uo,sD,a8,ah,sO,ti,Nat.one_mul,tp]
theorem abI {α:Type} (f:α→I) (l m:List α) (c:hB):I.av (l.map f++m.map f) (l.length+m.length) c=.av ((l++m).map f) (l++m).length c:=by
 rw [sR,sD]
theorem L7 {α:Type} (f:α→I) (l:List α) (x:α) (c:hB):I.av (l.map f++[f x]) (l.length+1) c=.av ((l++[x]).map f) (l++[x]).length c:=by
 rw [sR,sD];rfl
theorem UY {α:Type} (f:α→List I) (l:List α) (x:α) (c:hB):I.av (l.flatMap f++f x) (l.length+1) c=.av ((l++[x]).flatMap f) (l++[x]).length c:=by
 simp [List.flatMap_append]
theorem YT {α:Type} (f:α→I) (l:List α) (n:Int) (h:0≤n∧n≤(l.length:Int)) (c:hB):I.av (((l.map f).drop (n.toNat*1)).take ((l.length-n.toNat)*1)) (l.length-n.toNat) c=.av ((l.drop n.toNat).map f) (l.drop n.toNat).length c:=by
 rw [tz,tz,List.length_drop,←tP,tb (by simp)]
theorem YS {α:Type} (f:α→I) (l:List α) (n:Int) (h:0≤n∧n≤(l.length:Int)) (c:hB):I.av ((l.map f).take (n.toNat*1)) n.toNat c=.av ((l.take n.toNat).map f) (l.take n.toNat).length c:=by
 rw [tz,s9,←List.map_take,Nat.min_eq_left (by omega)]
theorem T7 {a b:Bool} (h:a=true) (k:b=true):(a && b)=true:=by rw [h,k];rfl
theorem p7 {α:Type} {f:α→Bool} {x:α} {l:List α} (h:f x=true) (k:l.all f=true):(x::l).all f=true:=T7 h k
theorem H4 {cs:List I} {d:Nat} (h:cs.all (cn d)=true):cn (d+1) (.agg cs)=true:=h
theorem Ir {cs:List I} {d:Nat} (h:cs.all (cn d)=true):cn (d+1) (.bR cs)=true:=h
theorem Is {cs:List I} {d:Nat} (h:cs.all (cn d)=true):cn (d+1) (.tuple cs)=true:=h
theorem I8 {k:FuncId} {a b:List I} {d:Nat} (ab:a.all (cn d)=true) (ae:b.all (cn d)=true):cn (d+1) (.func k a b)=true:=T7 ab ae
theorem rM {α:Type} {f:α→I} {d:Nat} (h:∀ x,cn d (f x)=true) (l:List α) (n:Nat) (c:hB):cn (d+1) (.av (l.map f) n c)=true:=by
 show (l.map f).all (cn d)=true;rw [ss];intro u hu;obtain ⟨x,_,rfl⟩:=sH.1 hu;exact h x
theorem HC {α:Type} {f:α→List I} {d:Nat} (h:∀ x,(f x).all (cn d)=true) (l:List α) (n:Nat) (c:hB):cn (d+1) (.av (l.flatMap f) n c)=true:=by
 show (l.flatMap f).all (cn d)=true;rw [ss];intro u hu;obtain ⟨x,_,aj⟩:=tW.1 hu;exact ss.1 (h x) u aj
theorem Xm {α:Type} {f:α→I} {d:Nat} (h:∀ x,cn d (f x)=true) (l:List α):(l.map f).all (cn d)=true:=by
 rw [ss];intro u hu;obtain ⟨x,_,rfl⟩:=sH.1 hu;exact h x
theorem nj.ca {P:Program} {k:FuncId} {args:List I} {v:I} (h:nj P k args v) (aB:cn 8 v.ca=true):nj P k args v.ca :=
 ⟨⟨h.1.1,h.1.2.1,fun B aa J S w vs ag aI ad=>CallsIn.mono (h.1.2.2 B aa J S w vs ag aI ad) fun e w' he=>by
   cases e with
   | returned x=>exact aZ.ca he
   | panicked c=>exact he.elim
   | outgrown=>exact he.elim⟩,aB⟩
section
variable {P:Program} {B:Nat} {J:List Nat} {w:World} {aa:Nat→Option aH} {S:Nat→Nat→Prop}
theorem aZ.ahX {H':List ar} {r:I} {v:Value} {w':World} (h:aZ B aa J S w H' r v w'):aZ B aa J S w H' r.settle.view.ca v w':=by
 have ab:aZ B aa J S w H' r.settle v w':=by
  cases r with
  | av c n k=>cases k with
    | uniq z=>exact h.settle
    | _=>exact h
  | _=>exact h
 have ae:r.settle.cT=true:=by
  cases r with
  | av c n k=>cases k <;> rfl
  | _=>rfl
 obtain ⟨bt,cg,bK,a,b,c,d,e⟩:=ab;exact aZ.ca ⟨bt,cg,bK,a,b,c,d.view ae,aU.b3 (I.di _)⟩
theorem af6 (eD : P.follows .mixedOrders = true) {k : Nat} {f : Func} {c : Code} (aP : P.funcs[k]? = some f) (af : f.body = some c) (aI : f.name ≠ "runtime.NumGoroutine") {A : dt} (bS : codeOk A c = true)
  {args:List I} {v:I} (aB:cn 8 v=true)
  (h:c' P A k 0 none c 0 ⟨args++List.replicate (f.ntmps-args.length) .a0,[]⟩ fun e s=>(e=.normal∨e=.ret)∧∃ vs r,gU P s.H s.T f.results.toList=some vs∧bL s.H 0 s.H.length 0 8 (jd vs)=some r∧r.settle.view.ca=v):nj P k args v:=by
 refine ⟨⟨a'.refl _ _,⟨f,aP,by simp [af],aI⟩,fun B aa J S w xs ag _ ad=>?_⟩,aB⟩;refine callsIn_of_wp_marks aP af trivial ?_;have aL:=yd ag ad f.ntmps;have dy:=(oO ag).1;refine Bx eD c 0 _ _ h bS Fence.wide _ B w.heap.size J w (hV aa) S _ (.inl ⟨rfl,rfl⟩) (fun l a w aO=>aO.elim) aL fun e s al aM w' ah=>?_;obtain ⟨he,vs,r,ai,C0,eE⟩:=al;obtain ⟨b4,cW,a4,aJ,aN,cd⟩:=ah;have iS:LeavesInM Fence.wide 0 P f aM.tmps (fW B aa J S w [] v) aM.defers .returning w':=by
  refine n4 (aa:=b4) (S:=a4) (J:=cW) (B:=B) (H:=s.H) (lE:=aa) (S0:=S) (w0:=w) aM.defers w' cd.M.2.1 cd.M.2.2 (dy.trans aN) cd.H fun bW dA dq mG mH=>?_
  have bZ:a5 .slot b4 cW a4 bW s.T aM.tmps.toList:=⟨cd.T.len,fun i u v hu ad=>(cd.T.rel i u v hu ad).mono (Ext.refl _) (fun b o h=>⟨h,dq b o h⟩),fun i u v hu ad =>
   (cd.T.own i u v hu ad).mono (Ext.refl _) (fun b o h=>⟨h,dq b o h⟩) fun b af=>⟨af,dA b _ af,fun _ h=>h⟩⟩
  obtain ⟨x,q1,aW⟩:=xS mH bZ ai;have kN:=xG ag (fun id aE=>by simp at aE) C0 (aZ.after aJ mG aW);refine ⟨x,q1,?_⟩;rw [←eE];exact kN.ahX
 rcases he with rfl | rfl
 ·exact iS
 ·exact iS
end
inductive HY (rs:List Im) (v:I) (e:cN) (T:List I) (H:List ar):Prop where
 | mk (he:e=.normal∨e=.ret) (vs:List I) (ai:r0 H T rs=some vs) (r:I) (aP:bL H 0 H.length 0 8 (jd vs)=some r) (ad:r.settle.view.ca=v)
theorem qO {P:Program} (eD:P.follows .mixedOrders=true) {k:Nat} {A:dt} {rc:gB} {n:Nat} {ts:List Im} (ao:qu P A k=some (rc,n,ts)) {args T:List I} (bZ:args++List.replicate (n-args.length) .a0=T) {v:I} (aB:cn 8 v=true)
  (h:∀ Q:cN→List I→List ar→Prop,(∀ e T H,HY ts v e T H→Q e T H)→dN P A k 0 none rc T [] Q):nj P k args v:=by
 have h:=h _ fun _ _ _ h=>h;unfold qu at ao;split at ao
 ·rename_i f aP;split at ao
  ·rename_i c af;split at ao
   ·rename_i XI PG ab ae aF ba;simp only [Option.some.injEq,Prod.mk.injEq] at ao;obtain ⟨rfl,rfl,rfl⟩:=ao;subst bZ;have a_:∀ e s,HY PG v e (a6.T s) (a6.H s)→(e=.normal∨e=.ret)∧∃ vs r,gU P s.H s.T f.results.toList=some vs∧bL s.H 0 s.H.length 0 8 (jd vs)=some r∧r.settle.view.ca=v:=fun e s ⟨cc,vs,Rh,r,b_,eP⟩=>by
     exact ⟨cc,vs,r,by rw [N2 _ _ ba,Rh],b_,eP⟩
    exact af6 eD aP af (by simpa using ae) ab aB (oQ a_ (G6 aF h))
   ·cases ao
  ·cases ao
 ·cases ao
theorem wp_loop {P:Program} {A:dt} {fn:FuncId} {lo:Nat} {rl:Option Nat} {cB:List Bool} {c:gB} {T TY:List I} {H:List ar} {Q:cN→List I→List ar→Prop} (bZ:eW cB T=TY)
  (h:BH (fun T H Q=>oa T fun T=>dN P A fn lo rl c T H fun e bd H'=>match e with
   | .normal=>xo (some cB) bd fun bd=>Q .normal bd H'
   | e=>Q e bd H') TY H Q):dN P A fn lo rl (.loop (some cB) c) T H Q:=by
 show xo (some cB) T _;rw [DS];subst bZ;exact h
def Mp {α:Type} (f:α→List I):Option α→I
 | none=>.eF
 | some x=>.bR (f x)
theorem Xl {α:Type} {f:α→List I} {d:Nat} (h:∀ x,(f x).all (cn d)=true) (x:Option α):cn (d+1) (Mp f x)=true:=by
 cases x with
 | none=>rfl
 | some x=>exact h x
theorem IQ {f:I→Option I}:dZ f []=some []:=rfl
theorem rN {f:I→Option I} {x y:I} {l r:List I} (h:f x=some y) (k:dZ f l=some r):dZ f (x::l)=some (y::r):=by simp only [dZ,h,k,si]
theorem Ni {H:List ar} {lo i n d:Nat} {vs rs:List I} (h:dZ (bL H lo i n d) vs=some rs):bL H lo i n (d+1) (.tuple vs)=some (.tuple rs):=by simp only [bL,h,si]
theorem ahl {α:Type} {f:α→I} {H:List ar} {id n:Nat} {l:List α} {cap:Option Nat} (ag:H[id]?=some (.cells (l.map f))) (aI:n=l.length) (ad:∀ x,(f x).view=f x):rowOf H (.ref id 0 n cap 1)=some (l.map f):=by
 subst aI;simp only [rowOf,ag,sG,tz,sZ,se,if_true,tu];rw [tb (by simp),vD];congr 1;exact tT fun x _=>ad x
theorem Q5 {P:Program} {k:FuncId} {xs cs bs:List I} {H:List ar} {lo:Nat} {v:I} (ah:xs.map (iA H)=cs) (af:cs.map I.ca=bs) (aB:cs.all (cn 8)=true) (h:nj P k bs v) (ad:fw v=true):oU P 6 lo (.fn k) xs H v.ca H :=
 call6 (by rw [ah,af]) (by rw [ah];exact aB) h ad
theorem KE {f:I→I} {x y:I} {l r:List I} (h:f x=y) (k:l.map f=r):(x::l).map f=y::r:=by rw [sI,h,k]
theorem NI {f:I→I}:([]:List I).map f=[]:=rfl
theorem ahv {H:List ar} {k:FuncId} {a b aM au:List I} (ab:a.map (hT H)=aM) (ae:b.map (hT H)=au):iA H (.func k a b)=.func k aM au:=by simp only [iA,ab,ae]
theorem YR {H:List ar} {id off:Nat} {cs fD:List I} (ag:H[id]?=some (.cells cs)) (he:((cs.drop off).map I.view).map (ke H)=fD):hT H (.ptr id off)=.bR fD:=by simp only [hT,ag,he]
theorem Xb {P:Program} {C:b6} {lo mode:Nat} {o:Oper} {xs:Array Operand} {ts:Array TypeId} {vs:List I} {H:List ar} (aq:o.op=.call { callee:=.builtin .copy,args:=xs,argTypes:=ts }):a3 P C lo o mode vs H=j7 P lo ts H vs:=by
 unfold a3;rw [aq];rfl
def IA {α Kr:Type} (g:Kr→α→Option Kr):List α→Kr→Option Kr
 | [],s=>some s
 | x::l,s=>(g s x).bind fun t=>IA g l t
theorem OT {α Kr:Type} {g:Kr→α→Option Kr}:∀ {l:List α} {s t:Kr},IA g l s=some t→∃ F:Nat→Kr,F 0=s∧F l.length=t∧∀ (i:Nat) (h:i<l.length),g (F i) l[i]=some (F (i+1))
 | [],s,t,h=>⟨fun _=>s,rfl,Option.some.inj h,fun i hi=>absurd hi (by simp)⟩
 | x::l,s,t,h=>by
   obtain ⟨u,ab,ae⟩:=p' h;obtain ⟨F,f1,f2,f3⟩:=OT ae;refine ⟨fun i=>match i with | 0=>s | i+1=>F i,rfl,f2,fun i hi=>?_⟩;cases i with
   | zero=>show g s x=some (F 0);rw [f1,ab]
   | succ i=>exact f3 i (by simpa using hi)
def Seq (P:Program) (k:FuncId) (cap:List I) (E:List I):Prop :=
 ∀ (l N:Nat) (q5:Nat→List ar),(∀ i,(q5 i).length=N)→l<N →
   (∀ (i:Nat) (h:i<E.length) (Y:List ar),∃ qT,Sem P (.yield l) [E[i]] (q5 i++Y) 0 (.bool true) (q5 (i+1)++qT)) →
   ∀ Y,∃ qT,Sem P (.fn k) (.yield l::cap) (q5 0++Y) 0 (.tuple []) (q5 E.length++qT)
theorem ahs {P:Program} {l:Nat} {q5:Nat→List ar} {E:List I} (ai:∀ (i:Nat) (h:i<E.length) (Y:List ar),∃ qT,Sem P (.yield l) [E[i]] (q5 i++Y) 0 (.bool true) (q5 (i+1)++qT)) (Y:List ar) :
  ∃ Z:Nat→List ar,Z 0=Y∧∀ (i:Nat) (h:i<E.length),Sem P (.yield l) [E[i]] (q5 i++Z i) 0 (.bool true) (q5 (i+1)++Z (i+1)):=by
 classical
 have nP:∀ (i:Nat) (Y:List ar),∃ qT,∀ h:i<E.length,Sem P (.yield l) [E[i]] (q5 i++Y) 0 (.bool true) (q5 (i+1)++qT):=fun i Y=>by
  by_cases h:i<E.length
  ·obtain ⟨qT,aX⟩:=ai i h Y;exact ⟨qT,fun _=>aX⟩
  ·exact ⟨[],fun aX=>absurd aX h⟩
 exact ⟨fun n=>Nat.rec Y (fun i Z=>Classical.choose (nP i Z)) n,rfl,fun i h=>uJ (nP i _) h⟩
theorem IP {H X:List ar} (h:H.length≤X.length):a' 0 H X:=⟨h,fun _ h _=>absurd h (by omega)⟩
theorem JH (X Y:List ar) (c d:ar):((X++[c])++Y).set X.length d=(X++[d])++Y:=by
 rw [sC,List.set_append_right _ _ (se _)];simp
theorem IK (X Y:List ar) (c:ar):((X++[c])++Y)[X.length]?=some c:=by
 rw [sC,sv (se _)];simp
theorem ahi {α:Type} {P:Program} {A:dt} {fn:FuncId} {rl:Option Nat} {k:FuncId} {cap:List I} {bp:List Nat} {gE cp:Code} {T:List I} {H Hn:List ar} {Q:cN→List I→List ar→Prop} {f:α→I} {L:List α} (IE:Seq P k cap (L.map f))
  (Obj:Nat→List ar) (aQ:Obj 0=H) (hlen:∀ i,(Obj i).length=H.length)
  (Lk:∀ (i:Nat) (h:i<L.length) (Y:List ar),∃ qT,Sem P (.yield H.length) [f L[i]] ((Obj i++[.loop .ready none fn (T.map I.view) bp gE cp A])++Y) 0 (.bool true) ((Obj (i+1)++[.loop .ready none fn (T.map I.view) bp gE cp A])++qT))
  (hc:inLoop H rl=true) (aI:Obj L.length=Hn) (bo:∀ qT,Q .normal (T.map I.settle) ((Hn++[.dead])++qT)):oD P A fn 0 rl (.func k [] cap) bp gE cp T H Q:=by
 obtain ⟨qT,cl⟩:=IE H.length (H.length+1) (fun i=>Obj i++[.loop .ready none fn (T.map I.view) bp gE cp A]) (fun i=>by simp [hlen]) (by omega) (fun i h Y=>by
  have aX:i<L.length:=by simpa using h
  obtain ⟨qT,ai⟩:=Lk i aX Y
  exact ⟨qT,by rw [tX];exact ai⟩) []
 subst aI;simp only [sM,sZ,aQ] at cl;have ao:(Obj L.length).length=H.length:=hlen _;refine ⟨hc,.tuple [],_,.ready,none,fn,T.map I.view,bp,gE,cp,A,cl,by rw [←ao];exact IK _ _ _,by decide,?_⟩;show Q .normal (T.map I.settle) (((Obj L.length++[ar.loop .ready none fn (T.map I.view) bp gE cp A])++qT).set H.length .dead);rw [←ao,JH];exact bo qT
end Go.Proofs.YtkoioidpbbbaiaaGreat.Ab


namespace Go.Proofs.YtkoioidpbbbaiaaGreat.Ab
open Go
theorem Vs {H:List ar} {lo i n d:Nat} {k:FuncId} {a b aM au:List I} (ab:dZ (bL H lo i n d) a=some aM) (ae:dZ (bL H lo i n d) b=some au):bL H lo i n (d+1) (.func k a b)=some (.func k aM au):=by simp only [bL,ab,ae]
theorem ahj {α:Type} {P:Program} {A:dt} {fn:FuncId} {rl:Option Nat} {k:FuncId} {cap:List I} {t:Nat} {bp:List Nat} {gE cp:Code} {T:List I} {H Hn:List ar} {Q:cN→List I→List ar→Prop} {f:α→I} {L:List α} (IE:Seq P k cap (L.map f))
  (Obj:Nat→List ar) (ax:dc T t=.func k [] cap) (aQ:Obj 0=H) (hlen:∀ i,(Obj i).length=H.length)
  (Lk:∀ (i:Nat) (h:i<L.length) (Y:List ar),∃ qT,Sem P (.yield H.length) [f L[i]] ((Obj i++[.loop .ready none fn (T.map I.view) bp gE cp A])++Y) 0 (.bool true) ((Obj (i+1)++[.loop .ready none fn (T.map I.view) bp gE cp A])++qT))
  (hc:inLoop H rl=true) (aI:Obj L.length=Hn) (bo:∀ qT,Q .normal (T.map I.settle) ((Hn++[.dead])++qT)):dN P A fn 0 rl (.AM (.m_ t) bp gE cp) T H Q:=by
 show hF T t _;rw [iN,ax];exact ahi IE Obj aQ hlen Lk hc aI bo
end Go.Proofs.YtkoioidpbbbaiaaGreat.Ab


namespace Go.Proofs.YtkoioidpbbbaiaaGreat.Ab
open Go
theorem acM {α:Type} [Inhabited α] (f:α→List I) (s:Nat) (ah:∀ x,(f x).length=s) (l:List α) (n:Int) (h:0≤n∧n<(l.length:Int)) (j:Nat) (aw:j<s):(l.flatMap f)[n.toNat*s+j]?=(f (ix l n))[j]?:=by
 have e:=IZ f s ah l n h
 have:(l.flatMap f)[n.toNat*s+j]?=((l.flatMap f).drop (n.toNat*s))[j]?:=by rw [sS]
 rw [this,e,sk (by rw [ah];exact aw)]
theorem Kd {α:Type} [Inhabited α] (f:α→List I) (s:Nat) (ah:∀ x,(f x).length=s) (l:List α) (n:Int) (h:0≤n∧n<(l.length:Int)) (j:Nat) {v:I} (aw:(f (ix l n))[j]?=some v) {K:I→Prop} (k:K v):eG (l.flatMap f) (0+n.toNat*s+j) K:=by
 refine Ew (x:=v) ?_ k;rw [sG,acM f s ah l n h j (by have:=(sd.1 aw).1;rw [ah] at this;exact this),aw]
theorem Pz {α:Type} [Inhabited α] (f:α→List I) (s:Nat) (ah:∀ x,(f x).length=s) (l:List α) (n:Int) (h:0≤n∧n<(l.length:Int)) {v:I} (aw:(f (ix l n))[0]?=some v) {K:I→Prop} (k:K v):eG (l.flatMap f) (0+n.toNat*s) K :=
 Kd f s ah l n h 0 aw k
theorem Zp {α:Type} {f:α→List I} (h:∀ x,∀ u∈f x,u.view=u) (l:List α):∀ u∈l.flatMap f,u.view=u:=fun u hu=>by
 obtain ⟨x,_,aj⟩:=tW.1 hu;exact h x u aj
theorem Zq:∀ u∈([]:List I),u.view=u:=fun u h=>absurd h (by simp)
theorem N_ {v:I} {l:List I} (h:v.view=v) (k:∀ u∈l,u.view=u):∀ u∈v::l,u.view=u:=fun u hu=>by
 rcases List.mem_cons.1 hu with rfl | hu
 ·exact h
 ·exact k u hu
end Go.Proofs.YtkoioidpbbbaiaaGreat.Ab


namespace Go.Proofs.YtkoioidpbbbaiaaGreat.Ab
open Go
theorem qG {n:Int} (h:-9223372036854775808≤n∧n≤9223372036854775807):w n=n:=ahW h.1 h.2
theorem Hr (i:Nat) (h:i≤9223372036854775806):w ((i:Int)+1)=((i+1:Nat):Int):=PL i h
end Go.Proofs.YtkoioidpbbbaiaaGreat.Ab


namespace Go.Proofs.YtkoioidpbbbaiaaGreat.Ab
open Go
def p_ (p:Int×Int):List I:=[hX p.1,hX p.2]
theorem Lq (p:Int×Int):(p_ p).length=2:=rfl
theorem Rb (k:IntKind):∀ (xs ys:List Int),xs.length=ys.length→dI (xs.map (.int k)) (ys.map (.int k))=some (decide (xs=ys))
 | [],[],_=>rfl
 | x::xs,y::ys,h=>by
   simp only [sI,dI,if_true,Rb k xs ys (by simpa using h),si];congr 1;by_cases aj:x=y <;> by_cases ao:xs=ys <;> simp [aj,ao]
 | [],y::ys,h=>by cases h
 | x::xs,[],h=>by cases h
theorem aa5 {P:Program} {t:TypeId} {fs:Array Field} {op:BinOp} (ab:P.underlying t=some (.struct fs)) (ae:gP P fs.toList 0=true) (aF:P.stoodInHeld t=false) (ba:fs.size=2) (bO:P.eqGuardType P.depth t=false) (a b c d:Int) (aC:op=.eql∨op=.neq) :
  fk P op t (.agg [hX a,hX b]) (.agg [hX c,hX d])=some (.bool (match op with | .eql=>decide ((a,b)=(c,d)) | _=>!decide ((a,b)=(c,d)))):=by
 unfold fk;simp only [ab];rw [if_pos ⟨ae,aF,by simp [ba],by simp [ba],bO⟩];have e:=Rb .i64 [a,b] [c,d] rfl;simp only [sI,uK] at e;have b9:decide ([a,b]=[c,d])=decide ((a,b)=(c,d)):=by simp
 rcases aC with rfl | rfl <;> simp only <;> rw [show [hX a,hX b]=[I.int .i64 a,I.int .i64 b] from rfl,show [hX c,hX d]=[I.int .i64 c,I.int .i64 d] from rfl,e,si,b9]
theorem aa4 {P:Program} {t e:TypeId} {len:Nat} {kd:IntKind} (k:IntKind) (ab:P.underlying t=some (.array len e)) (ae:P.underlying e=some (.int kd)) (aF:bE P e=some 1) (ba:P.eqGuardType P.depth t=false) {xs ys:List Int} (aj:xs.length=len) (aY:ys.length=len) :
  fk P .eql t (.agg (xs.map (.int k))) (.agg (ys.map (.int k)))=some (.bool (decide (xs=ys))):=by
 unfold fk;simp only [ab,ae,aF];rw [if_pos ⟨by simp [aj],by simp [aY],ba⟩,Rb k xs ys (by rw [aj,aY]),si]
theorem Xa {P:Program} {C:b6} {lo:Nat} {o:Oper} {op:BinOp} {t u:TypeId} {a b:Operand} {x y v:I} {H:List ar} (aq:o.op=.binOp op t a b u) (aI:iW b=false) (h:fk P op t x y=some v):a3 P C lo o 0 [x,y] H=some (v,H):=by
 unfold a3;rw [aq];show (cy P o [x,y]).map _=_;unfold cy;rw [aq];simp only [aI];show (fk P op t x y).map _=_;rw [h];rfl
end Go.Proofs.YtkoioidpbbbaiaaGreat.Ab


namespace Go.Proofs.YtkoioidpbbbaiaaGreat.Ab
open Go
section
variable {P:Program} {B N:Nat} {J:List Nat} {w:World} {H:List ar} {aa:Nat→Option aH} {S:Nat→Nat→Prop}
end
end Go.Proofs.YtkoioidpbbbaiaaGreat.Ab


namespace Go.Proofs.YtkoioidpbbbaiaaGreat.Ab
open Go
theorem ahS {α:Type} {f:α→I} (h:∀ x,(f x).view=f x) (l:List α):(l.map f).map I.view=l.map f:=by rw [vD];exact tT fun x _=>h x
theorem WA {α:Type} (f:α→I) (l:List α) {n:Nat} (aP:∀ x,(f x).view=f x) (h:l.length=n):(((l.map f).drop 0).take n).map I.view=l.map f:=by
 rw [tu,tb (by simp [h]),ahS aP]
def acR (P:Program) (t:TypeId):Array Field:=match P.underlying t with
 | some (.struct fs)=>fs
 | _=>#[]
theorem aa6 {P:Program} {t e:TypeId} {len:Nat} {kd k:IntKind} {xs:List Int} {n:Int} (ab:P.underlying t=some (.array len e)) (ae:P.underlying e=some (.int kd)) (aF:bE P e=some 1) (ba:dH P e=false) (ao:xs.length=len) (aI:0≤n∧n<(len:Int)) :
  oZ P t (.agg (xs.map hX)) (.int k n)=some (hX (ix xs n)):=by
 unfold oZ;have bO:g7 n len=some n.toNat:=by unfold g7;rw [if_pos aI]
 simp only [ab,aF,bO,sc,tz];unfold iH;simp only [ae,ba];have aR:n.toNat<xs.length:=by omega
 rw [sq,sm aR,si,O9 (by omega)]
theorem afP {P:Program} {C:b6} {lo:Nat} {o:Oper} {t:TypeId} {a b:Operand} {x y v:I} {H:List ar} (aq:o.op=.index t a b) (h:oZ P t x y=some v) (ad:v.view=v:=by rfl):a3 P C lo o 0 [x,y] H=some (v,H):=by
 unfold a3;rw [aq];show (cy P o [x,y]).map _=_;unfold cy;rw [aq];show ((oZ P t x y).map I.view).map _=_;rw [h,si,si,ad]
end Go.Proofs.YtkoioidpbbbaiaaGreat.Ab


namespace Go.Proofs.YtkoioidpbbbaiaaGreat.Ab
open Go
def KI:List I→Nat→List (Nat×I)→List I
 | [],_,_=>[]
 | x::T,_,[]=>x::T
 | x::T,i,(j,v)::r=>match Nat.beq i j with
   | true=>v::KI T (i+1) r
   | false=>x::KI T (i+1) ((j,v)::r)
def Iw (u:Nat→I):Nat→Nat→List (Nat×I)→List I
 | 0,_,_=>[]
 | n+1,i,[]=>u i::Iw u n (i+1) []
 | n+1,i,(j,v)::r=>match Nat.beq i j with
   | true=>v::Iw u n (i+1) r
   | false=>u i::Iw u n (i+1) ((j,v)::r)
def rm (n:Nat) (bp:List (Nat×I)) (T:List I):Prop:=T.length=n∧T=KI T 0 bp
theorem PD {u bG:Nat→I}:∀ (n i:Nat) (bp:List (Nat×I)),(∀ k,i≤k→u k=bG k)→Iw u n i bp=Iw bG n i bp
 | 0,_,_,_=>rfl
 | n+1,i,[],h=>by
   rw [Iw,Iw,h i (se _),PD n (i+1) [] fun k al=>h k (by omega)]
 | n+1,i,(j,v)::r,h=>by
   rw [Iw,Iw];cases Nat.beq i j with
   | true=>exact congrArg _ (PD n (i+1) r fun k al=>h k (by omega))
   | false=>show u i::_=bG i::_;rw [h i (se _),PD n (i+1) _ fun k al=>h k (by omega)]
theorem YU:∀ (T:List I) (i:Nat) (bp:List (Nat×I)),KI T i bp=Iw (fun k=>dc T (k-i)) T.length i bp
 | [],_,_=>rfl
 | x::T,i,bp=>by
   have e:∀ bp,Iw (fun k=>dc (x::T) (k-i)) T.length (i+1) bp=KI T (i+1) bp:=fun bp=>by
    rw [YU T (i+1) bp];refine PD _ _ _ fun k al=>?_;show dc (x::T) (k-i)=dc T (k-(i+1));rw [show k-i=(k-(i+1))+1 by omega];rfl
   (have f_:dc (x::T) (i-i)=x:=by rw [Nat.sub_self];rfl);(have acJ:∀ (T:List I) i,KI T i []=T:=fun T i=>by cases T <;> rfl);cases bp with
   | nil =>
     show x::T=Iw _ (T.length+1) i [];rw [Iw,f_,e,acJ]
   | cons p r =>
     obtain ⟨j,v⟩:=p;show KI (x::T) i ((j,v)::r)=Iw _ (T.length+1) i ((j,v)::r);rw [KI,Iw];cases Nat.beq i j with
     | true=>exact congrArg _ (e r).symm
     | false=>show x::_=_::_;rw [f_,e]
theorem rm.ex {n:Nat} {bp:List (Nat×I)} {T:List I} (h:rm n bp T):∃ u,T=Iw u n 0 bp:=by
 obtain ⟨ab,ae⟩:=h;subst ab;exact ⟨_,ae.trans (YU T 0 bp)⟩
class HG (d:Nat) (v:I):Prop where Pc:cn d v=true
class qj (d:Nat) (l:List I):Prop where pl:l.all (cn d)=true
instance {d:Nat}:qj d []:=⟨rfl⟩
instance {d:Nat} {v:I} {l:List I} [a:HG d v] [b:qj d l]:qj d (v::l):=⟨p7 a.Pc b.pl⟩
instance {d:Nat} {a b:List I} [x:qj d a] [y:qj d b]:qj d (a++b):=⟨by rw [List.all_append,x.pl,y.pl];rfl⟩
instance {d:Nat} {α:Type} {f:α→I} {l:List α} [h:∀ x,HG d (f x)]:qj d (l.map f):=⟨Xm (fun x=>(h x).Pc) l⟩
instance {d:Nat} {α:Type} {f:α→List I} {l:List α} [h:∀ x,qj d (f x)]:qj d (l.flatMap f):=⟨by
 rw [ss];intro u hu;obtain ⟨x,_,aj⟩:=tW.1 hu
 exact ss.1 (h x).pl u aj⟩
instance {d:Nat} {k:IntKind} {n:Int}:HG (d+1) (.int k n):=⟨rfl⟩
instance {d:Nat} {b:Bool}:HG (d+1) (.bool b):=⟨rfl⟩
instance {d:Nat} {b:ByteArray}:HG (d+1) (.str b):=⟨rfl⟩
instance {d:Nat}:HG (d+1) .eF:=⟨rfl⟩
instance {d:Nat}:HG (d+1) .a0:=⟨rfl⟩
instance {d n:Nat} {c:hB} {l:List I} [h:qj d l]:HG (d+1) (.av l n c):=⟨h.pl⟩
instance {d:Nat} {l:List I} [h:qj d l]:HG (d+1) (.agg l):=⟨h.pl⟩
instance {d:Nat} {l:List I} [h:qj d l]:HG (d+1) (.tuple l):=⟨h.pl⟩
instance {d:Nat} {l:List I} [h:qj d l]:HG (d+1) (.bR l):=⟨h.pl⟩
instance {d:Nat} {α:Type} {f:α→I} {l:List α} [h:∀ x,HG d (f x)]:HG (d+1) (aaZ f l):=⟨Xm (fun x=>(h x).Pc) l⟩
instance {d:Nat} {α:Type} {f:α→List I} {l:List α} [h:∀ x,qj d (f x)]:HG (d+1) (aa0 f l):=⟨(inferInstance:qj d (l.flatMap f)).pl⟩
instance {d:Nat} {l:List Int}:HG (d+2) (oW l):=⟨(inferInstance:qj (d+1) (l.map hX)).pl⟩
instance {d:Nat} {l:List (List Int)}:HG (d+3) (ju l):=⟨(inferInstance:qj (d+2) (l.map oW)).pl⟩
instance {d:Nat} {α:Type} {f:α→List I} {x:Option α} [h:∀ x,qj d (f x)]:HG (d+1) (Mp f x):=⟨Xl (fun x=>(h x).pl) x⟩
theorem qE {p Xd:Prop} [Decidable p] {aV:Type} {k:Option aV} {v:aV} {K:Prop} (h:qs p k=some v) (f:p→Xd) (g:p→k=some v→K):Xd∧K :=
 ⟨f (rW h).1,g (rW h).1 (rW h).2⟩
theorem bs {b:Bool} {aV:Type} {x y:Option aV} {v:aV} {K:Prop} (h:(if b=true then x else y)=some v) (f:b=true→x=some v→K) (g:b=false→y=some v→K):K :=
 match b,h,f,g with
 | true,h,f,_=>f rfl (rp rfl h)
 | false,h,_,g=>g rfl (rq rfl h)
theorem af3 {d:Nat} {u:I} (h:cn d u.g9=true):cn d u=true:=by
 cases d with
 | zero=>simp [cn] at h
 | succ d=>cases u with
   | av cs n c=>cases c <;> exact h
   | _=>exact h
theorem Xk {d:Nat} {l:List I} (h:(l.map I.g9).all (cn d)=true):l.all (cn d)=true:=by
 rw [ss] at h ⊢;exact fun u hu=>af3 (h _ (List.mem_map_of_mem hu))
theorem af2 {d:Nat} {r:I} (h:cn d r.settle.view.ca=true) (aw:r.settle.view.ca.G4=false):cn d r=true:=by
 cases d with
 | zero=>simp [cn] at h
 | succ d=>cases r with
   | av cs n c=>cases c <;> exact h
   | agg cs=>exact Xk (l:=cs) h
   | tuple cs=>exact Xk (l:=cs) h
   | raw=>exact absurd aw (by simp [I.settle,I.view,I.ca,I.G4])
   | c0=>exact absurd aw (by simp [I.settle,I.view,I.ca,I.G4])
   | cj=>exact absurd h (by simp [I.settle,I.view,I.ca,cn])
   | _=>exact h
theorem Iu {rs:List Im} {v:I} {T:List I} {H:List ar} {vs:List I} [h:HG 8 v] (ab:r0 H T rs=some vs) (ae:(jd vs).settle.view.ca=v) (aw:v.G4=false:=by first | rfl | (simp [I.G4];done) | (cases ‹Option _› <;> rfl)):HY rs v .ret T H :=
 ⟨.inr rfl,vs,ab,_,yW (af2 (ae ▸ h.Pc) (ae ▸ aw)),ae⟩
end Go.Proofs.YtkoioidpbbbaiaaGreat.Ab


namespace Go.Proofs.YtkoioidpbbbaiaaGreat.Ab
open Go
section
variable {P:Program} {A:dt} {fn:FuncId} {lo:Nat} {rl:Option Nat}
inductive ajB (P:Program) (A:dt) (fn:FuncId) (lo:Nat) (rl:Option Nat) (rc:gB) (T:List I) (H:List ar) (Q:cN→List I→List ar→Prop):Prop where
 | mk (cB:List Bool) (c:gB) (he:rc=.loop (some cB) c) (hX:Nat→List I→List ar→Prop) (m:Nat) (hm:m≤qi) (aQ:hX m T H)
   (step:∀ (Hm:List I→List ar→Prop) m T H,hX m T H→(∀ ho bd H',ho<m→hX ho bd H'→Hm bd H')→oa T fun T=>dN P A fn lo rl c T H fun e bd H'=>match e with
    | .normal=>xo (some cB) bd fun bd=>Hm bd H'
    | e=>Q e bd H')
end
theorem Pf {cs:List I} {n d:Nat} {c:hB} (h:cs.all (cn d)=true):cn (d+1) (.av cs n c)=true:=h
def ahk (l:List Int):I:=.av (l.map hX) l.length (if l.length=1 then .full else .shared)
end Go.Proofs.YtkoioidpbbbaiaaGreat.Ab


namespace Go.Proofs.YtkoioidpbbbaiaaGreat.Ab
open Go
instance {d:Nat} {p:Int×Int}:qj (d+1) (p_ p):=⟨(inferInstance:qj (d+1) [hX p.1,hX p.2]).pl⟩
instance {d:Nat} {l:List Int}:HG (d+2) (ahk l):=⟨(inferInstance:qj (d+1) (l.map hX)).pl⟩
end Go.Proofs.YtkoioidpbbbaiaaGreat.Ab


namespace Go.Proofs.YtkoioidpbbbaiaaGreat.Ab
open Go
abbrev qa:=List Int
abbrev qk:=List (Int×Int)
abbrev K5:=List (List Int)
abbrev ajA:=List (List (Int×Int))
abbrev aju:=Int×List (Int×Int)
abbrev rS:=cN→List I→List ar→Prop
abbrev qz (l:List Int) (c:hB):I:=.av (l.map hX) l.length c
abbrev qZ (l:List (Int×Int)) (c:hB):I:=.av (l.flatMap p_) l.length c
abbrev ajD (b:Int×List (Int×Int)):I:=.agg [hX b.1,.av (b.2.flatMap p_) b.2.length .shared]
abbrev ajE (b:Int×List (Int×Int)):ar:=ar.cells [hX b.1,.av (b.2.flatMap p_) b.2.length .shared]
def qL {aV:Type} (rs:List Im) (Q:cN→List I→List ar→Prop) (e:aV→I) (v:aV):Prop:=∀ T H,HY rs (e v) .ret T H→Q .ret T H
theorem qe {aV:Type} {x v:aV} {e:aV→I} {rs:List Im} {Q:cN→List I→List ar→Prop} {T:List I} {H:List ar} {vs:List I} (h:some x=some v) (jG:qL rs Q e v) [k:HG 8 (e x)] (ab:r0 H T rs=some vs) (ae:(jd vs).settle.view.ca=e x):Q .ret T H:=by
 obtain rfl:=Option.some.inj h;exact jG _ _ (Iu ab ae)
class q7 (H:List ar) (i:Nat) (o:outParam ar):Prop where h:H[i]?=some o
instance {H:List ar} {o:ar}:q7 (H++[o]) H.length o:=⟨I3 _ _⟩
instance {H:List ar} {i:Nat} {o p:ar} [k:q7 H i o]:q7 (H++[p]) i o:=⟨VI k.h⟩
end Go.Proofs.YtkoioidpbbbaiaaGreat.Ab


namespace Go.Proofs.YtkoioidpbbbaiaaGreat.Ab
open Go Go.ChangeShapes Go.WideShapes Go.ChangeAt Go.RowKit
def S0 (w:World):Nat→Nat→Prop:=fun b o=>∃ v,w.cell? ⟨b,o,none⟩=some v
theorem mv (w:World):aK w.heap.size (fun _=>none) [] (S0 w) w [] :=
 ⟨rfl,fun _ _ h=>by simp at h,fun _ _ h=>h,fun _ _ h=>by simp at h,se _⟩
theorem S_ {P:Program} {k:FuncId} {args:List I} {vs:List Value} {W:World} {b:Bool} (h:nj P k args (.bool b)) (ad:a5 (fun i=>.arg i) (fun _=>none) [] (S0 W) W args vs) :
  Calls P k vs.toArray W fun e Iy=>e=.returned (.bool b)∧Below W.heap.size W Iy:=by
 have ab:=h.1.2.2 W.heap.size (fun _=>none) [] (S0 W) W vs (mv W) (fun _ _ h=>by simp at h) ad;refine (callsIn_wide.1 ab).mono fun e Iy he=>?_;cases e with
 | returned v =>
   obtain ⟨ay,bU,S',_,az,_,ai,_⟩:=he;cases ai;exact ⟨rfl,az.os,az.tape,az.output,az.size,fun b af=>az.cB b af rfl⟩
 | panicked c=>exact he.elim
 | outgrown=>exact he.elim
section
variable {H:Type} {enc:TypeId×Value→H} {P:Program} {w:World}
theorem T4 {W Iy:World} (K:Kids P (·<P.types.size)) (bQ:∀ t e,t<P.types.size→P.underlying t=some (.slice e)→0<P.cellsOf e) (Jy:Below W.heap.size W Iy) {sp:Nat→Bool} :
  ∀ {ts:List TypeId} {vs:List Value} {fD:List (DataW H)} {p:List MemPlace},(∀ t∈ts,t<P.types.size)→DataW.TrodAll enc P W 0 (fun _=>true) true ts vs fD p→(∀ x∈p,sp x.block=true)→(∀ x∈p,x.block<W.heap.size)→DataW.TrodAll enc P Iy 0 sp true ts vs fD p
 | [],_,_,_,_,aL,_,_=>by obtain ⟨rfl,rfl,rfl⟩:=trodAll_nil aL;exact trodAll_mk0
 | t::ts,_,_,_,bZ,aL,Mk,aR=>by
   obtain ⟨v,vs,d,fD,a,b,rfl,rfl,rfl,⟨n,aI⟩,ae⟩:=trodAll_cons aL;refine ⟨a,b,⟨n,?_⟩,T4 K bQ Jy (fun t ax=>bZ t (ue _ ax)) ae (fun x aj=>Mk x (vk _ aj)) (fun x aj=>aR x (vk _ aj)),rfl⟩;exact DataW.trod_stays K (fun {t e} ax he=>bQ t e ax he) (fun h=>by cases h) (bZ t tV) aI (fun x aj=>Jy.same (aR x (vG _ aj))) fun x aj=>Mk x (vG _ aj)
theorem R_ {f:Func} {s:ChangeSpec} {again:Bool} {W Iy:World} {args:Array Value} {t:TypeId} {fD gs:List (DataW H)} {before:List MemPlace}
  (ao:laidOutB P=true) (hm:mapsRowed P=true) (bj:((List.range P.types.size).all fun t=>match P.underlying t with | some (.slice e)=>decide (0<P.cellsOf e) | _=>true)=true)
  (ax:f.resultTypes=#[t]) (VU:P.underlying t=some .bool) (kO:f.params.toList.all (fun t=>decide (t<P.types.size))=true) (RO:s.vars=[])
  (l9:DataW.Whole enc P f.params.toList s.vars false W args.toList fD gs before) (Jy:Below W.heap.size W Iy)
  (ah:s.fn H (fD++gs)={ results:=[.lit (.bool true)],args:=fD }):s.post enc P f false true false again W args (.bool true) Iy:=by
 have aR:=l9.lt;have ac8:=l9;obtain ⟨p,q,aL,jH,rfl,C0,jS⟩:=ac8;rw [RO] at jH;obtain ⟨rfl,rfl⟩:=trodVars_none jH;rw [sM] at *;have K:Kids P (·<P.types.size):=kids_rows ao hm;have bQ:=slices_full_of P bj;have bZ:∀ t∈f.params.toList,t<P.types.size:=fun t h=>by
  have:=ss.1 kO t h;simpa using this
 have again:∀ sp:Nat→Bool,(∀ x∈p,sp x.block=true)→DataW.TrodAll enc P Iy 0 sp true f.params.toList args.toList fD p:=fun sp Mk =>
  T4 K bQ Jy bZ aL Mk aR
 have kQ:∀ (b:Nat) (sp:Nat→Bool) (a1:Bool),DataW.TrodAll enc P Iy b sp a1 f.resultTypes.toList ((Value.bool true).resultList f.resultTypes.size) (s.fn H fD).results []:=fun b sp a1=>by
  rw [ah,ax];exact trodAll_mk1 (shut_bool VU true)
 have CH:∀ sp:Nat→Bool,(∀ x∈p,sp x.block=true)→DataW.TrodAll enc P Iy 0 sp true f.params.toList args.toList (s.fn H fD).args p:=fun sp Mk=>by
  rw [ah];exact again sp Mk
 have ad:∀ sp:Nat→Bool,DataW.TrodVars enc P Iy sp s.vars (s.fn H fD).vars []:=fun sp=>by
  rw [ah,RO];rfl
 have hold:∀ x∈p,(fun b=>decide (b<W.heap.size)) x.block=true:=fun x aj=>by simpa using aR x aj
 refine ⟨fD,[],p,[],p,[],l9,by rw [sM];exact kQ _ _ _,by rw [sM];exact CH _ hold,by rw [sM];exact ad _,Jy.frame _,fun _=>?_⟩;refine ⟨fun j u r hu ai=>?_,(s.fn H fD).results++(s.fn H fD).args,[],p,⟨p,[],?_,?_,by simp,?_,fun h=>by cases h⟩,fun x aj _=>aj⟩
 ·rw [ax] at hu ai;cases j with
  | zero=>simp [Value.resultList] at hu ai;subst hu;subst ai;exact okWide_bool_mk VU true
  | succ j=>simp at hu
 ·have:=trodAll_append (CH (fun _=>true) fun _ _=>rfl) (kQ 0 (fun _=>true) true);simpa using this
 ·rw [RO];rfl
 ·intro b o af;have:=aR _ af;rw [Jy.frozen (p:=⟨b,o,none⟩) this];exact C0 b o af
theorem WU {α:Type} {f:α→I} {R:α→Prop}:∀ {l:List I},(∀ u∈l,∃ x,u=f x∧R x)→∃ gu:List α,l=gu.map f∧∀ x∈gu,R x
 | [],_=>⟨[],rfl,by simp⟩
 | u::l,h=>by
   obtain ⟨x,rfl,aj⟩:=h u (by simp);obtain ⟨gu,rfl,bj⟩:=WU (l:=l) fun y aY=>h y (by simp [aY]);exact ⟨x::gu,rfl,by simpa using ⟨aj,bj⟩⟩
abbrev Jr (enc:TypeId×Value→H) (P:Program) (w:World) (e:TypeId) (Q:I→Prop):Prop :=
 ∀ n v y,DataW.trod enc P w 0 (fun _=>true) true n e [v]=some y→∃ u,u.plain=true∧v.oneCell'=true∧Rel [] (S0 w) w u v∧Q u
theorem Q7 {e:TypeId} {k:IntKind} (ax:P.underlying e=some (.int k)):Jr enc P w e fun u=>∃ x,u=.int k x∧(Lit.int k x).wf=true:=by
 intro n v y h;obtain ⟨x,aj,_,hw⟩:=DataW.trod_int ax h;injection aj with aj _;subst aj;exact ⟨.int k x,rfl,rfl,.int k x,x,rfl,hw⟩
instance:Inhabited I:=⟨.a0⟩
theorem acf {t e:TypeId} (ax:P.underlying t=some (.slice e)) (ce:P.cellsOf e=1) {Q:I→Prop} (he:Jr enc P w e Q) :
  Jr enc P w t fun u=>∃ l:List I,u=.av l l.length .shared∧l.length≤maxLen∧∀ u∈l,Q u:=by
 intro fuel v x h;rcases Deep.open_slice1 ax ce h with ⟨ad,_⟩ | ⟨a,len,cap,m,n,V,D,QD,ad,_,ao,hm,pP,_,aj⟩
 ·injection ad with ad _;subst ad;exact ⟨_,rfl,rfl,.b2 _ _,[],rfl,sE _,by simp⟩
 ·injection ad with ad _;subst ad;have pP:m=cap:=pP;have aj:∀ i,i<cap→w.cell? (a.add i)=some (V i)∧DataW.trod enc P w 0 (fun _=>true) true n e [V i]=some (D i,QD i):=fun i hi=>aj i (by omega);by_cases ak:cap=0
  ·(subst ak;obtain rfl:len=0:=by omega);exact ⟨_,rfl,rfl,.b2 _ _,[],rfl,sE _,by simp⟩
  ·obtain ⟨b,o,sp⟩:=a;have aQ:=(aj 0 (by omega)).1;(have ah:sp=none:=by simpa [Addr.add] using World.cell?_spot aQ);subst ah;obtain ⟨U,r9⟩:=Deep.choose_lt (α:=I) (n:=len) (p:=fun i u=>u.plain=true∧(V i).oneCell'=true∧Rel [] (S0 w) w u (V i)∧Q u) fun i hi=>he n (V i) _ (aj i (by omega)).2;refine ⟨.av ((List.range len).map U) len .shared,rfl,rfl,.av _ _ _ b o cap V (by simp) ao (by simp) (fun j u aw=>?_) (fun j u aw=>?_),(List.range len).map U,by simp,by simp;omega,fun u hu=>?_⟩
   ·(have ml:j<len:=by have:=(sd.1 aw).1;simpa using this);simp [ml] at aw;subst aw;(have bx:w.cell? ⟨b,o+j,none⟩=some (V j):=by have:=(aj j (by omega)).1;rwa [add_lit] at this);exact ⟨⟨_,bx⟩,bx,(r9 j ml).1,(r9 j ml).2.1⟩
   ·(have ml:j<len:=by have:=(sd.1 aw).1;simpa using this);simp [ml] at aw;subst aw;exact (r9 j ml).2.2.1
   ·obtain ⟨j,aw,rfl⟩:=sH.1 hu;exact (r9 j (sJ.1 aw)).2.2.2
def IV (x:Int):Prop := -9223372036854775808≤x∧x≤9223372036854775807
theorem wf_i64 {x:Int} (h:(Lit.int .i64 x).wf=true):IV x:=by
 have ab:IntKind.i64.min=-9223372036854775808:=rfl;have ae:IntKind.i64.max=9223372036854775807:=rfl;simp only [Lit.wf,su,decide_eq_true_eq] at h;exact ⟨by omega,by omega⟩
structure QB (l:List Int):Prop where
 n:l.length≤9223372036854775807
 v:∀ x∈l,IV x
structure ajy (l:List (List Int)):Prop where
 n:l.length≤9223372036854775807
 v:∀ r∈l,QB r
theorem R4 {n:Nat} (h:n≤maxLen):n≤9223372036854775807:=by unfold maxLen at h;omega
theorem acd {t e:TypeId} (ax:P.underlying t=some (.slice e)) (ce:P.cellsOf e=1) (he:P.underlying e=some (.int .i64)):Jr enc P w t fun u=>∃ l,u=oW l∧QB l:=by
 intro n v y h;obtain ⟨u,aA,aG,aT,l,rfl,bq,bf⟩:=acf ax ce (Q7 he) n v y h;obtain ⟨gu,rfl,bc⟩:=WU bf;exact ⟨_,aA,aG,aT,gu,by simp [oW],by simpa using R4 bq,fun x aj=>wf_i64 (bc x aj)⟩
def TZ (l:List Int):I:=.av (l.map (.int .u8)) l.length .shared
structure ajz (l:List Int):Prop where
 n:l.length≤9223372036854775807
 v:∀ x∈l,0≤x∧x≤255
abbrev Arg (enc:TypeId×Value→H) (P:Program) (w:World) (base:Nat) (t:TypeId) (Q:I→Prop):Prop :=
 ∀ v d p,Value.okWide P w .any base t v→DataW.Trod enc P w 0 (fun _=>true) true t v d p→∃ u,u.plain=true∧Rel [] (S0 w) w u v∧Q u
theorem UZ {base:Nat} {t e:TypeId} (ax:P.underlying t=some (.slice e)) {Q:I→Prop} (ak:Jr enc P w t Q):Arg enc P w base t Q:=by
 intro v d p ad ⟨n,a1⟩;obtain ⟨a,len,cap,rfl⟩:=okWide_slice ax ad;obtain ⟨u,aA,_,aT,bq⟩:=ak n _ _ a1;exact ⟨u,aA,aT,bq⟩
theorem Zr {us:List I} {vs:List Value} (h:us.length=vs.length) (ai:∀ (i:Nat) (u:I) (v:Value),us[i]?=some u→vs[i]?=some v→u.plain=true∧Rel [] (S0 w) w u v):a5 (fun i=>.arg i) (fun _=>none) [] (S0 w) w us vs :=
 ⟨h,fun i u v hu ad=>(ai i u v hu ad).2,fun i u v hu ad=>aU.b3 (ai i u v hu ad).1⟩
theorem Zs {yh:I} {v0:Value} (NN:yh.plain=true) (hQ:Rel [] (S0 w) w yh v0):a5 (fun i=>.arg i) (fun _=>none) [] (S0 w) w [yh] [v0] :=
 Zr rfl fun i u v hu ad=>by
  match i with
  | 0=>simp at hu ad;subst hu;subst ad;exact ⟨NN,hQ⟩
  | i+1=>simp at hu
theorem ahU {yh fx gq:I} {v0 v1 v2:Value} (NN:yh.plain=true) (hQ:Rel [] (S0 w) w yh v0) (bT:fx.plain=true) (aS:Rel [] (S0 w) w fx v1) (b0:gq.plain=true) (bh:Rel [] (S0 w) w gq v2) :
  a5 (fun i=>.arg i) (fun _=>none) [] (S0 w) w [yh,fx,gq] [v0,v1,v2] :=
 Zr rfl fun i u v hu ad=>by
  match i with
  | 0=>simp at hu ad;subst hu;subst ad;exact ⟨NN,hQ⟩
  | 1=>simp at hu ad;subst hu;subst ad;exact ⟨bT,aS⟩
  | 2=>simp at hu ad;subst hu;subst ad;exact ⟨b0,bh⟩
  | i+3=>simp at hu
end
end Go.Proofs.YtkoioidpbbbaiaaGreat.Ab


namespace Go.Proofs.YtkoioidpbbbaiaaGreat.Ab
open Go Go.ChangeShapes Go.WideShapes Go.ChangeAt Go.RowKit
section
variable {H:Type} {enc:TypeId×Value→H} {P:Program} {w:World}
theorem R3 {α β:Type} {f:α→β} {R:α→Prop}:∀ {l:List β},(∀ u∈l,∃ x,u=f x∧R x)→∃ gu:List α,l=gu.map f∧∀ x∈gu,R x
 | [],_=>⟨[],rfl,by simp⟩
 | u::l,h=>by
   obtain ⟨x,rfl,aj⟩:=h u (by simp);obtain ⟨gu,rfl,bj⟩:=R3 (l:=l) fun y aY=>h y (by simp [aY]);exact ⟨x::gu,rfl,by simpa using ⟨aj,bj⟩⟩
def OA (enc:TypeId×Value→H) (P:Program) (w:World) (fs:Array Field) (Il:List (I→Prop)):Prop :=
 Il.length=fs.size∧∀ (i:Nat) (f:Field) (q:I→Prop),fs[i]?=some f→Il[i]?=some q→f.offset=i∧P.cellsOf f.type=1∧Jr enc P w f.type q
def Qz (Il:List (I→Prop)) (us:List I):Prop:=us.length=Il.length∧∀ (i:Nat) (u:I) (q:I→Prop),us[i]?=some u→Il[i]?=some q→q u
theorem ahF {t:TypeId} {fs:Array Field} {Il:List (I→Prop)} (ax:P.underlying t=some (.struct fs)) (ak:P.cellsOf t=fs.size) (aP:OA enc P w fs Il) {n:Nat} {cs:List Value} {y:DataW H×List MemPlace}
  (h:DataW.trod enc P w 0 (fun _=>true) true n t cs=some y):∃ us:List I,Qz Il us∧cs.length=us.length∧∀ (j:Nat) (u:I) (v:Value),us[j]?=some u→cs[j]?=some v→u.plain=true∧v.oneCell'=true∧Rel [] (S0 w) w u v:=by
 obtain ⟨xs,m,_,_,ao,RP,aj⟩:=DataW.trod_struct ax h;rw [ak] at ao;have each:∀ i,i<fs.size→∃ u:I,(∀ v,cs[i]?=some v→u.plain=true∧v.oneCell'=true∧Rel [] (S0 w) w u v)∧∀ q,Il[i]?=some q→q u:=fun i hi=>by
  have ab:fs[i]?=some fs[i]:=Array.getElem?_eq_getElem hi;have a_:i<Il.length:=by rw [aP.1];exact hi
  have ae:Il[i]?=some Il[i]:=sm a_;obtain ⟨e1,b9,dx⟩:=aP.2 i _ _ ab ae;have aF:=aj i _ ab;rw [e1,b9] at aF;have VX:i<cs.length:=by omega
  rw [sV VX,sm (by omega)] at aF;simp only [List.take_succ_cons,List.take_zero] at aF;obtain ⟨u,aA,aG,aT,bq⟩:=dx _ _ _ aF;refine ⟨u,fun v ad=>?_,fun q Dr=>?_⟩
  ·rw [sm VX] at ad;cases ad;exact ⟨aA,aG,aT⟩
  ·rw [ae] at Dr;cases Dr;exact bq
 obtain ⟨U,r9⟩:=Deep.choose_lt (α:=I) (n:=fs.size) (p:=fun i u=>(∀ v,cs[i]?=some v→u.plain=true∧v.oneCell'=true∧Rel [] (S0 w) w u v)∧∀ q,Il[i]?=some q→q u) each;have get:∀ (i:Nat) (u:I),((List.range fs.size).map U)[i]?=some u→i<fs.size∧u=U i:=fun i u hu=>by
  have hi:i<fs.size:=by have:=(sd.1 hu).1;simpa using this
  simp [hi] at hu;exact ⟨hi,hu.symm⟩
 refine ⟨(List.range fs.size).map U,⟨by simp [aP.1],fun i u q hu a_=>?_⟩,by simp [ao],fun j u v hu ad=>?_⟩
 ·obtain ⟨hi,rfl⟩:=get i u hu;exact (r9 i hi).2 q a_
 ·obtain ⟨hi,rfl⟩:=get j u hu;exact (r9 j hi).1 v ad
theorem Vm {s:Nat}:∀ {L:List (List I)} {j:Nat} {u:I},(∀ l∈L,l.length=s)→0<s→L.flatten[j]?=some u→∃ l,L[j / s]?=some l∧l[j % s]?=some u
 | [],j,u,_,_,h=>by simp at h
 | l::L,j,u,ao,ah,h=>by
   have aQ:l.length=s:=ao l (by simp);rw [List.flatten_cons] at h;by_cases aw:j<s
   ·rw [sk (by omega)] at h;exact ⟨l,by rw [Nat.div_eq_of_lt aw];rfl,by rw [Nat.mod_eq_of_lt aw];exact h⟩
   ·rw [sv (by omega),aQ] at h;obtain ⟨k,a,b⟩:=Vm (s:=s) (fun x aj=>ao x (by simp [aj])) ah h;(have e1:j / s=(j-s) / s+1:=by rw [Nat.div_eq_sub_div ah (by omega)]);(have b9:j % s=(j-s) % s:=by rw [Nat.mod_eq_sub_mod (by omega)]);exact ⟨k,by rw [e1];simpa using a,by rw [b9];exact b⟩
end
end Go.Proofs.YtkoioidpbbbaiaaGreat.Ab


namespace Go.Proofs.YtkoioidpbbbaiaaGreat.Ab
open Go
instance {d:Nat} {l:List I} [h:qj d l]:qj d (l.map I.g9):=⟨by
 have h:=h.pl;rw [ss] at h ⊢;intro u hu;obtain ⟨v,ad,rfl⟩:=sH.1 hu;have:=h v ad;cases d with
 | zero=>simp [cn] at this
 | succ d=>cases v with
   | av cs n c=>cases c <;> exact this
   | _=>exact this⟩
end Go.Proofs.YtkoioidpbbbaiaaGreat.Ab


namespace Go.Proofs.YtkoioidpbbbaiaaGreat.Ab
open Go
def qy (x:(Int×(Int×Int))):List I:=[(hX x.1),(hX x.2.1),(hX x.2.2)]
theorem H8 (x:(Int×(Int×Int))):(qy x).length=3:=rfl
instance {d:Nat} {x:(Int×(Int×Int))}:qj (d+1) (qy x):=⟨(inferInstance:qj (d+1) [(hX x.1),(hX x.2.1),(hX x.2.2)]).pl⟩
end Go.Proofs.YtkoioidpbbbaiaaGreat.Ab


namespace Go.Proofs.YtkoioidpbbbaiaaGreat.Ab
open Go Go.ChangeShapes Go.WideShapes Go.ChangeAt Go.RowKit
set_option maxRecDepth 100000
section
variable {H:Type} {enc:TypeId×Value→H} {P:Program} {w:World}
def Jb (enc:TypeId×Value→H) (P:Program) (w:World) (t:TypeId) (sz:Nat) (Q:List I→Prop):Prop :=
 ∀ (fuel:Nat) (cs:List Value) (y:DataW H×List MemPlace),DataW.trod enc P w 0 (fun _=>true) true fuel t cs=some y →
   ∃ us:List I,Q us∧us.length=sz∧cs.length=sz∧∀ (j:Nat) (u:I) (v:Value),us[j]?=some u→cs[j]?=some v→u.plain=true∧v.oneCell'=true∧Rel [] (S0 w) w u v
theorem U9 {t:TypeId} {f1 f2:Field} {n1 n2:Nat} {oX lG:List I→Prop} (ax:P.underlying t=some (.struct #[f1,f2])) (ak:P.cellsOf t=n1+n2) (bw:f1.offset=0) (bJ:f2.offset=n1) (a7:P.cellsOf f1.type=n1) (a9:P.cellsOf f2.type=n2) (ab:Jb enc P w f1.type n1 oX) (ae:Jb enc P w f2.type n2 lG) :
  Jb enc P w t (n1+n2) fun us=>∃ a b,us=a++b∧oX a∧lG b:=by
 intro fuel cs y h;obtain ⟨xs,m,_,_,ao,RP,aj⟩:=DataW.trod_struct ax h;rw [ak] at ao;have RP:xs.length=2:=RP;have e1:=aj 0 f1 rfl;have b9:=aj 1 f2 rfl;rw [bw,a7,tu,sm (by omega)] at e1;rw [bJ,a9,sm (by omega)] at b9;obtain ⟨a,aA,aG,aT,bq⟩:=ab _ _ _ e1;obtain ⟨b,bl,cr,eY,lN⟩:=ae _ _ _ b9;refine ⟨a++b,⟨a,b,rfl,aA,bl⟩,by rw [sD];omega,ao,fun j u v hu ad=>?_⟩;by_cases aw:j<n1
 ·rw [sk (by omega)] at hu;exact bq j u v hu (by rw [sL,if_pos aw];exact ad)
 ·rw [sv (by omega)] at hu;have ajZ:j-a.length<b.length:=(sd.1 hu).1;refine lN (j-a.length) u v hu ?_;rw [sL,if_pos (by omega),sS,show n1+(j-a.length)=j by omega];exact ad
theorem U6 {t:TypeId} {Q:I→Prop} (h:Jr enc P w t Q) (ah:∀ (fuel:Nat) (cs:List Value) (y:DataW H×List MemPlace),DataW.trod enc P w 0 (fun _=>true) true fuel t cs=some y→cs.length=1):Jb enc P w t 1 fun us=>∃ u,us=[u]∧Q u:=by
 intro fuel cs y aY;have ao:=ah _ _ _ aY
 match cs,ao with
 | [c],_ =>
   obtain ⟨u,aA,aG,aT,bq⟩:=h _ _ _ aY;refine ⟨[u],⟨u,rfl,bq⟩,rfl,rfl,fun j bG v hu ad=>?_⟩
   match j with
   | 0=>simp at hu ad;subst hu;subst ad;exact ⟨aA,aG,aT⟩
   | j+1=>simp at hu
theorem U8 {t:TypeId} {fs:Array Field} {Il:List (I→Prop)} (ax:P.underlying t=some (.struct fs)) (ak:P.cellsOf t=fs.size) (aP:OA enc P w fs Il):Jb enc P w t fs.size (Qz Il):=fun fuel cs y h=>by
 obtain ⟨us,ab,ae,aF⟩:=ahF ax ak aP h;have:=ab.1;have:=aP.1;exact ⟨us,ab,by omega,by omega,aF⟩
theorem abM {base:Nat} {t:TypeId} {fs:Array Field} {sz:Nat} {Q:List I→Prop} (ax:P.underlying t=some (.struct fs)) (aP:Jb enc P w t sz Q):Arg enc P w base t fun u=>∃ us,u=.agg us∧Q us:=by
 intro v d p ad ⟨n,a1⟩;unfold Value.okWide at ad;rw [ax] at ad;obtain ⟨cs,rfl,bQ,_⟩:=ad;obtain ⟨us,ab,ae,GL,aF⟩:=aP _ _ _ a1;have ae:cs.toList.length=us.length:=by rw [ae];exact GL
 refine ⟨.agg us,rfl,.agg us cs (by simpa using ae) (fun u hu=>?_) (fun v ad=>?_) fun j u v hu ad=>?_,us,rfl,ab⟩
 ·obtain ⟨j,aw⟩:=s8.1 hu;have aR:j<cs.toList.length:=by rw [ae];exact (sd.1 aw).1
  exact (aF j u _ aw (sm aR)).1
 ·obtain ⟨j,aw⟩:=s8.1 ad;have aR:j<us.length:=by rw [←ae];exact (sd.1 aw).1
  exact (aF j _ v (sm aR) aw).2.1
 ·exact (aF j u v hu (by show cs.toList[j]?=some v;simpa using ad)).2.2
theorem U5 {t e:TypeId} {sz:Nat} {Q:List I→Prop} (ax:P.underlying t=some (.slice e)) (ak:P.cellsOf e=sz) (aQ:0<sz) (aP:Jb enc P w e sz Q) :
  Jr enc P w t fun u=>∃ L:List (List I),u=.av L.flatten L.length .shared∧L.length≤maxLen∧∀ us∈L,Q us:=by
 intro fuel v x h;rcases Deep.open_slice ax h with ⟨ad,_⟩ | ⟨a,len,cap,m,n,D,QD,ad,_,ao,hm,pP,_,aj⟩
 ·injection ad with ad _;subst ad;exact ⟨_,rfl,rfl,.b2 _ _,[],rfl,sE _,by simp⟩
 ·injection ad with ad _;subst ad;have pP:m=cap:=pP;by_cases CL:cap=0
  ·(subst CL;obtain rfl:len=0:=by omega);exact ⟨_,rfl,rfl,.b2 _ _,[],rfl,sE _,by simp⟩
  ·have each:∀ i,i<len→∃ q:List I×List Value,Q q.1∧q.1.length=sz∧q.2.length=sz∧w.cells? 0 (a.add (i*sz)) sz=some q.2∧∀ (j:Nat) (u:I) (v:Value),q.1[j]?=some u→q.2[j]?=some v→u.plain=true∧v.oneCell'=true∧Rel [] (S0 w) w u v:=fun i hi=>by
    obtain ⟨c7,ab,ae⟩:=aj i (by omega);rw [ak] at ab;obtain ⟨us,bl,cr,eY,lN⟩:=aP _ _ _ ae;exact ⟨(us,c7),bl,cr,eY,ab,lN⟩
   obtain ⟨q0,_,_,O6,_⟩:∃ q:List Value,True∧True∧w.cells? 0 (a.add (0*sz)) sz=some q∧True:=by
    obtain ⟨c7,ab,_⟩:=aj 0 (by omega);rw [ak] at ab;exact ⟨c7,trivial,trivial,ab,trivial⟩
   obtain ⟨b,o,sp⟩:=a;have ah:sp=none:=by
    obtain ⟨_,hlen,bx⟩:=World.cells?_some O6;have:=bx 0 aQ;rw [sm (by omega)] at this;simpa [Addr.add] using World.cell?_spot this
   subst ah;obtain ⟨U,r9⟩:=Deep.choose_lt (α:=List I×List Value) (n:=len) (p:=fun i q=>Q q.1∧q.1.length=sz∧q.2.length=sz∧w.cells? 0 (Addr.add ⟨b,o,none⟩ (i*sz)) sz=some q.2∧∀ (j:Nat) (u:I) (v:Value),q.1[j]?=some u→q.2[j]?=some v→u.plain=true∧v.oneCell'=true∧Rel [] (S0 w) w u v) each;have ac7:∀ i,i<len→(U i).1.length=sz:=fun i hi=>(r9 i hi).2.1;have cY:∀ l∈((List.range len).map fun i=>(U i).1),l.length=sz:=fun l c8=>by
    obtain ⟨i,hi,rfl⟩:=sH.1 c8;exact ac7 i (sJ.1 hi)
   let V:Nat→Value:=fun j=>((U (j / sz)).2)[j % sz]!
   have key:∀ (j:Nat) (u:I),(((List.range len).map fun i=>(U i).1).flatten)[j]?=some u→w.cell? ⟨b,o+j,none⟩=some (V j)∧u.plain=true∧(V j).oneCell'=true∧Rel [] (S0 w) w u (V j):=fun j u aw=>by
    obtain ⟨l,cc,b_⟩:=Vm cY aQ aw;(have hi:j / sz<len:=by have:=(sd.1 cc).1;simpa using this);simp [hi] at cc;subst cc;obtain ⟨a7,B8,a9,br,b5⟩:=r9 _ hi;have KD:j % sz<sz:=Nat.mod_lt _ aQ;have ad:(U (j / sz)).2[j % sz]?=some (V j):=by
     show _=some ((U (j / sz)).2[j % sz]!);rw [sm (by omega),getElem!_pos _ _ (by omega)]
    obtain ⟨_,_,bx⟩:=World.cells?_some br;have J6:=bx (j % sz) KD;rw [ad] at J6;have e:(Addr.add (Addr.add ⟨b,o,none⟩ (j / sz*sz)) (j % sz))=⟨b,o+j,none⟩:=by
     simp only [add_lit];congr 1;have:=Nat.div_add_mod' j sz;omega
    rw [e] at J6;exact ⟨J6,b5 _ _ _ b_ ad⟩
   refine ⟨.av ((List.range len).map fun i=>(U i).1).flatten len .shared,rfl,rfl,.av _ _ _ b o cap V (by simp) ao (by simp) (fun j u aw=>?_) (fun j u aw=>?_),(List.range len).map fun i=>(U i).1,by simp,by simp;omega,fun us hu=>?_⟩
   ·obtain ⟨aJ,aN,b',_⟩:=key j u aw;exact ⟨⟨_,aJ⟩,aJ,aN,b'⟩
   ·exact (key j u aw).2.2.2
   ·obtain ⟨j,aw,rfl⟩:=sH.1 hu;exact (r9 j (sJ.1 aw)).1
end
section
variable {H:Type} {enc:TypeId×Value→H} {w:World} {base:Nat}
def Kt:I→Prop:=fun u=>∃ x,u=hX x∧IV x
theorem OI:Jr enc Tryz.prog w 2 Kt:=fun n v y h=>by
 obtain ⟨u,a,b,c,x,rfl,d⟩:=Q7 (P:=Tryz.prog) Tryz.underlying2 n v y h;exact ⟨_,a,b,c,x,rfl,wf_i64 d⟩
theorem ace:Jr enc Tryz.prog w 3 Kt:=fun n v y h=>by
 obtain ⟨u,a,b,c,x,rfl,d⟩:=Q7 (P:=Tryz.prog) Tryz.underlying3 n v y h;exact ⟨_,a,b,c,x,rfl,wf_i64 d⟩
theorem Xe {us:List I} (h:Qz [Kt,Kt] us):∃ p:Int×Int,us=p_ p∧IV p.1∧IV p.2:=by
 obtain ⟨ao,h⟩:=h
 match us,ao with
 | [a,b],_ =>
   obtain ⟨x,rfl,aj⟩:=h 0 _ _ rfl rfl;obtain ⟨y,rfl,aY⟩:=h 1 _ _ rfl rfl;exact ⟨(x,y),rfl,aj,aY⟩
def TW (us:List I):Prop:=∃ p:Int×Int,us=p_ p∧IV p.1∧IV p.2
theorem Jb.mono {P:Program} {t:TypeId} {n:Nat} {Q R:List I→Prop} (h:Jb enc P w t n Q) (k:∀ us,Q us→R us):Jb enc P w t n R:=fun fuel cs y aY=>by
 obtain ⟨us,ab,ae⟩:=h fuel cs y aY;exact ⟨us,k us ab,ae⟩
theorem acO : OA enc Tryz.prog w #[{ name := "Pull", type := 2, offset := 0, embedded := false, tag := "", pkgPath := "", byteOffset := 0 }, { name := "More", type := 2, offset := 1, embedded := false, tag := "", pkgPath := "", byteOffset := 8 }] [Kt, Kt] := ⟨rfl, fun i f q aP a_ => by
 match i with
 | 0=>simp at aP a_;subst aP;subst a_;exact ⟨rfl,by qb,OI⟩
 | 1=>simp at aP a_;subst aP;subst a_;exact ⟨rfl,by qb,OI⟩
 | i+2=>simp at a_⟩
theorem acN : OA enc Tryz.prog w #[{ name := "Lo", type := 2, offset := 0, embedded := false, tag := "", pkgPath := "", byteOffset := 0 }, { name := "Hi", type := 2, offset := 1, embedded := false, tag := "", pkgPath := "", byteOffset := 8 }] [Kt, Kt] := ⟨rfl, fun i f q aP a_ => by
 match i with
 | 0=>simp at aP a_;subst aP;subst a_;exact ⟨rfl,by qb,OI⟩
 | 1=>simp at aP a_;subst aP;subst a_;exact ⟨rfl,by qb,OI⟩
 | i+2=>simp at a_⟩
theorem U7:Jb enc Tryz.prog w 54 2 TW:=(U8 Tryz.underlying54 (by qb) acO).mono fun _ h=>Xe h
theorem aci:Jb enc Tryz.prog w 24 2 TW:=(U8 Tryz.underlying24 (by qb) acN).mono fun _ h=>Xe h
def TU (bp:List (Int×Int)):Prop:=bp.length≤9223372036854775807∧∀ p∈bp,IV p.1∧IV p.2
abbrev TV (bp:List (Int×Int)):I:=.av (bp.flatMap p_) bp.length .shared
theorem acg:Jr enc Tryz.prog w 22 fun u=>∃ bp,u=TV bp∧TU bp:=fun n v y h=>by
 obtain ⟨u,a,b,c,L,rfl,ao,fm⟩:=U5 Tryz.underlying22 (by qb) (by decide) U7 n v y h;obtain ⟨bp,rfl,aB⟩:=R3 (f:=p_) (R:=fun p:Int×Int=>IV p.1∧IV p.2) fun us hu=>by
  obtain ⟨p,e,ab,ae⟩:=fm us hu;exact ⟨p,e,ab,ae⟩
 refine ⟨_,a,b,c,bp,?_,by have:=R4 ao;simpa using this,aB⟩;simp [TV,List.flatMap_def]
structure aaX (p:(List (Int×Int))×(Int×Int)):Prop where
 s:TU p.1
 lo:IV p.2.1
 hi:IV p.2.2
theorem afO (fuel:Nat) (cs:List Value) (y:DataW H×List MemPlace) (h:DataW.trod enc Tryz.prog w 0 (fun _=>true) true fuel 22 cs=some y):cs.length=1:=by
 rcases Deep.open_slice Tryz.underlying22 h with ⟨ad,_⟩ | ⟨a,len,cap,m,n,D,QD,ad,_⟩
 ·rw [ad];rfl
 ·rw [ad];rfl
theorem afN (fuel:Nat) (cs:List Value) (y:DataW H×List MemPlace) (h:DataW.trod enc Tryz.prog w 0 (fun _=>true) true fuel 3 cs=some y):cs.length=1:=by
 obtain ⟨x,aj,_,hw⟩:=DataW.trod_int Tryz.underlying3 h;rw [aj];rfl
theorem Q0:Arg enc Tryz.prog w base 26 fun u=>∃ p:(List (Int×Int))×(Int×Int),u=.agg [.av (p.1.flatMap p_) p.1.length .shared,hX p.2.1,hX p.2.2]∧aaX p:=by
 intro v d p ad a1;obtain ⟨u,a,b,us,rfl,x,y,rfl,⟨fx,rfl,bp,rfl,kO⟩,⟨acE,rfl,ab,ae⟩⟩:=abM (P:=Tryz.prog) (enc:=enc) (w:=w) (base:=base) Tryz.underlying26 (U9 Tryz.underlying26 (by qb) rfl rfl (by qb) (by qb) (U6 acg afO) aci) v d p ad a1;exact ⟨_,a,b,(bp,acE),rfl,kO,ab,ae⟩
theorem abL:Arg enc Tryz.prog w base 32 fun u=>∃ l,u=oW l∧QB l:=UZ Tryz.underlying32 (acd Tryz.underlying32 (by qb) Tryz.underlying3)
def TT (l:List (Int×(Int×Int))):Prop:=l.length≤9223372036854775807
theorem abN:Arg enc Tryz.prog w base 38 fun u=>∃ l,u=.av (l.flatMap qy) l.length .shared∧TT l:=UZ Tryz.underlying38 fun n v y h=>by
 obtain ⟨u,a,b,c,L,rfl,ao,fm⟩:=U5 (sz:=3) Tryz.underlying38 (by qb) (by decide) (U9 (n1:=1) (n2:=2) Tryz.underlying62 (by qb) rfl rfl (by qb) (by qb) (U6 ace afN) U7) n v y h;obtain ⟨bp,rfl,aB⟩:=R3 (f:=qy) (R:=fun _=>True) fun us hu=>by
  obtain ⟨x,z,rfl,⟨fx,rfl,i,rfl,_⟩,⟨q,rfl,_,_⟩⟩:=fm us hu;exact ⟨(i,q),rfl,trivial⟩
 refine ⟨_,a,b,c,bp,?_,by have:=R4 ao;simpa [TT] using this⟩;simp [List.flatMap_def]
end
end Go.Proofs.YtkoioidpbbbaiaaGreat.Ab


namespace Go.Proofs.YtkoioidpbbbaiaaGreat.Ab
open Go
set_option maxRecDepth 20000
set_option maxHeartbeats 4000000
noncomputable def aaQ:gB :=
 p5 [qh 4 0] (p5 [p4 5 1,p4 6 0,p3 7 [.Bs 6] .z4,qK 8 7 0,qK 9 8 0,qm 10 9,q2 11 10,qv 12 11 2 .quo,qq 13 5 12 .sub,p4 4 13] .ret)
theorem afp:qu Tryz.prog UN 77=some (aaQ,14,[.tmp 4]):=by qb
def Kp (b:((qk×(Int×Int))×Unit)) (J':Int):Option Int :=
 qs ((2:Int)≠0) <|
 some (w (J'-(w ((b.1.1.length:Int).tdiv (2:Int)))))
theorem K3 {b:((qk×(Int×Int))×Unit)} {J':Int} {v:Int} (h:Kp b J'=some v):qw 77 [(.bR [(.av (b.1.1.flatMap p_) b.1.1.length .shared),(hX b.1.2.1),(hX b.1.2.2),Hm]),(hX J')] (hX v):=by
 refine qO eD afp rfl rfl fun Q bo=>?_;have jG:qL [.tmp 4] Q (fun v=>(hX v)) v:=fun T H bD=>bo _ T H bD;unfold Kp at h;unfold aaQ;conv=>whnf
 refine qE h id fun gJ h=>?_;conv=>whnf
 exact qe h jG rfl rfl

noncomputable def P8:gB :=
 .loop (some (qd false [0,2,5,2,10])) (p5 [p3 9 [.m_ 8,.m_ 7] (.bin .lss)] (.seq (.cond (.m_ 9) .skip (.exit 0)) (.seq (.block 1 (p5 [p6 10 8,p4 5 10] (p5 [p6 11 1,p6 12 0,p6 13 5,rn 14 12 13 1,qm 15 14,qq 16 11 15 .eql] (.cond (.m_ 16) (p5 [p4 17 5,p4 4 17] .ret) .skip)))) (qF [qW 18 8 1,p4 8 18]))))
noncomputable def Z_:gB :=
 p5 [qh 4 0] (.seq (p5 [p6 6 0,q2 7 6,qh 8 0] (.block 0 P8)) (p5 [qh 4 (-1)] .ret))
theorem aeI:qu Tryz.prog QH 109=some (Z_,19,[.tmp 4]):=by qb
def KM (s:qa) (Ih:Int) (qc:Unit→Option Int):Nat→Int→Option Int
 | 0,_=>none
 | m+1,s1 =>
   if (decide (s1<(s.length:Int)))=true then
    qs (0≤s1∧s1<(s.length:Int)) <|
    if (decide (Ih=(ix s s1)))=true then
     some s1
    else
     KM s Ih qc m (w (s1+(1:Int)))
   else
    qc ()
def PN (s:qa) (Ih:Int):Option Int :=
 KM s Ih (fun _ =>
   some (-1:Int)) qi (0:Int)
theorem aii {s:qa} {Ih:Int} {qc:Unit→Option Int} {s1:Int} {v:Int} {Q:rS}   (jG:qL [.tmp 4] Q (fun v=>(hX v)) v) (ra:∀ (qf:List I),qc ()=some v→rm 19 [] qf→Q (.exit 0) qf []) {T:List I} (bZ:eW (qd false [0,2,5,2,10]) T=qg 19 [(0,(qz s .shared)),(1,(hX Ih)),(7,(hX (s.length:Int))),(8,(hX s1))]) (h:KM s Ih qc qi s1=some v) :
  dN Tryz.prog QH 109 0 none P8 T [] Q:=by
 unfold P8;refine wp_loop bZ ?_;refine .intro (fun m T H=>∃ (s1:Int),T=qg 19 [(0,(qz s .shared)),(1,(hX Ih)),(7,(hX (s.length:Int))),(8,(hX s1))]∧H=[]∧KM s Ih qc m s1=some v) qi ⟨s1,rfl,rfl,h⟩ ?_;clear h bZ;rintro m T H ⟨s1,rfl,rfl,h⟩;cases m
 ·exact rA h
 rename_i m;rw [KM.eq_2] at h;conv=>whnf
 refine bs h (fun gJ h=>?_) fun gJ h=>?_
 ·rw [gJ];conv=>whnf
  refine qE h id fun gK h=>?_;rw [rj hX s s1 gK];conv=>whnf
  refine bs h (fun qt h=>?_) fun qt h=>?_
  ·rw [qt];(conv=>whnf);exact qe h jG rfl rfl
  ·rw [qt];(conv=>whnf);exact ⟨m,sg m,(w (s1+(1:Int))),rfl,rfl,h⟩
 ·rw [gJ];conv=>whnf
  exact ra  _ h ⟨rfl,rfl⟩
theorem aij {s:qa} {Ih:Int} {v:Int} (h:PN s Ih=some v):qw 109 [(.av (s.map hX) s.length .shared),(hX Ih)] (hX v):=by
 refine qO eD aeI rfl rfl fun Q bo=>?_;have jG:qL [.tmp 4] Q (fun v=>(hX v)) v:=fun T H bD=>bo _ T H bD;unfold PN at h;unfold Z_;obtain ⟨r_,qD⟩:∃ c,P8=c:=⟨_,rfl⟩;rw [qD];conv=>whnf
 subst qD;refine aii ?_ ?_ (by exact rfl) h
 ·exact fun T H bD=>jG T H bD
 ·intro  qf h qA;obtain ⟨rr,rfl⟩:=qA.ex;conv=>whnf
  exact qe h jG rfl rfl

noncomputable def Z8:gB :=
 p5 [p3 4 [.cv (.bool false)] .mR] (p5 [p4 5 0,p4 6 1,p3 7 [.cv (.func 109 [] []),.m_ 5,.m_ 6] (.call 3),qv 8 7 0 .geq,p4 4 8] .ret)
theorem aeG:qu Tryz.prog T9 100=some (Z8,9,[.tmp 4]):=by qb
def Oa (s:qa) (Ih:Int):Option Bool :=
 (PN s Ih).bind fun aS =>
 some (decide ((0:Int)≤aS))
theorem aie {s:qa} {Ih:Int} {v:Bool} (h:Oa s Ih=some v):qw 100 [(.av (s.map hX) s.length .shared),(hX Ih)] (B v):=by
 refine qO eD aeG rfl rfl fun Q bo=>?_;have jG:qL [.tmp 4] Q (fun v=>(B v)) v:=fun T H bD=>bo _ T H bD;unfold Oa at h;unfold Z8;conv=>whnf
 obtain ⟨aS,gJ,h⟩:=p' h;refine ⟨qj.pl,_,aij gJ,?_⟩;conv=>whnf
 exact qe h jG rfl rfl

noncomputable def TI:gB :=
 .ou true [p3 47 [.m_ 9] (.yM 1),qm 48 47,p6 49 0,p4 50 10,p3 51 [.cv (.func 77 [] []),.m_ 49,.m_ 50] (.call 3),qK 52 12 1,qm 53 52,qq 54 51 53 .mul,qq 55 48 54 .add,p3 56 [.m_ 9] (.yM 1),⟨none,[.jm 56,.jm 55],none,none,.st 1⟩]
noncomputable def TQ:gB :=
 .seq (ri [p3 37 [.m_ 9] (.yM 0),qm 38 37,p6 39 0,p6 40 10,p3 41 [.cv (.func 77 [] []),.m_ 39,.m_ 40] (.call 3),p3 42 [.m_ 12] (.yM 0),qm 43 42,qq 44 41 43 .mul,qq 45 38 44 .add,p3 46 [.m_ 9] (.yM 0),⟨none,[.jm 46,.jm 45],none,none,.st 1⟩]) TI
noncomputable def TP:gB :=
 .seq (p5 [p6 20 10,qv 21 20 2 .rem,p6 22 2,qq 23 21 22 .neq,p4 24 23,ch 25 [.m_ 3] 24 false .mR,ch 26 [.m_ 10] 24 false .mR,⟨some 27,[.cv (.func 100 [] []),.m_ 25,.m_ 26],some (24,false),none,.call 3⟩,p3 28 [.Bs 24,.cv (.bool true),.Bs 27] .pick] (.cond (.m_ 28) (.exit 1) .skip)) (p5 [p6 29 0,p3 30 [.Bs 29] .z4,qK 31 30 0,qK 32 31 0,qm 33 32,p4 34 11,rn 35 33 34 2,p3 36 [.Bs 35] (.zE (.str 2)),p3 12 [] (.alloc [.int .i64 0,.int .i64 0]),⟨none,[.m_ 12,.jm 36],none,none,.st 2⟩] TQ)
noncomputable def Oy:gB :=
 .ou false [qW 57 15 1,p4 15 57]
noncomputable def TN:gB :=
 .seq (.block 1 (p5 [p6 17 15,p3 18 [.m_ 13,.m_ 15] (.kV 1),qm 19 18,p4 10 17,p4 11 19] TP)) Oy
noncomputable def TM:gB :=
 .seq (.cond (.m_ 16) .skip (.exit 0)) TN
noncomputable def Qv:gB :=
 .loop (some (qd false [0,1,1,2,4,2,3,3,43])) (p5 [p3 16 [.m_ 15,.m_ 14] (.bin .lss)] TM)
noncomputable def TL:gB :=
 .block 0 Qv
noncomputable def TK:gB :=
 p5 [p3 58 [.Bs 9] (.zE (.str 2)),⟨none,[.m_ 8,.jm 58],none,none,.st 2⟩] .ret
noncomputable def TJ:gB :=
 .seq (p5 [p4 13 1,p3 14 [.m_ 13] .zJ,qh 15 0] TL) TK
noncomputable def TH:gB :=
 p5 [p3 9 [] (.alloc [.int .i64 0,.int .i64 0])] TJ
noncomputable def aaR:gB :=
 p5 [p3 8 [] (.alloc [.int .i64 0,.int .i64 0])] TH
theorem afq:qu Tryz.prog QW 80=some (aaR,59,[.cell 8 (.str 2)]):=by qb
def Kq (b:((qk×(Int×Int))×Unit)) (order:qa) (qo:Int) (without:qa) (qc:Int→Int→Option (Int×Int)):Nat→Int→Int→Int→Option (Int×Int)
 | 0,_,_,_=>none
 | m+1,s1,s2,dh =>
   if (decide (s1<(order.length:Int)))=true then
    qs (0≤s1∧s1<(order.length:Int)) <|
    qs ((2:Int)≠0) <|
    if (decide ((s1.tmod (2:Int))≠qo))=true then
     Kq b order qo without qc m (w (s1+(1:Int))) s2 dh
    else
     (Oa without s1).bind fun aS =>
     if aS=true then
      Kq b order qo without qc m (w (s1+(1:Int))) s2 dh
     else
      qs (0≤(ix order s1)∧(ix order s1)<(b.1.1.length:Int)) <|
      (Kp (b.1,()) s1).bind fun bh =>
      (Kp (b.1,()) s1).bind fun eH =>
      Kq b order qo without qc m (w (s1+(1:Int))) (w (s2+(w (bh*(ix b.1.1 (ix order s1)).1)))) (w (dh+(w (eH*(ix b.1.1 (ix order s1)).2))))
   else
    qc s2 dh
def LY (b:((qk×(Int×Int))×Unit)) (order:qa) (qo:Int) (without:qa):Option (Int×Int) :=
 Kq b order qo without (fun yn oS =>
   some (yn,oS)) qi (0:Int) (0:Int) (0:Int)
theorem ajh {b:((qk×(Int×Int))×Unit)} {order:qa} {qo:Int} {without:qa} {qc:Int→Int→Option (Int×Int)} {s1:Int} {s2:Int} {dh:Int} {v:(Int×Int)} {Q:rS}   (ra:∀ (yn oS:Int) (Jt:List ar) (qf:List I),qc yn oS=some v→rm 59 [(8,(.ptr 0 0)),(9,(.ptr 1 0))] qf→Q (.exit 0) qf (ar.cells [(hX (0:Int)),(hX (0:Int))]::ar.cells [(hX yn),(hX oS)]::Jt)) {T:List I} (bZ:eW (qd false [0,1,1,2,4,2,3,3,43]) T=qg 59 [(0,(.bR [(qZ b.1.1 .shared),(hX b.1.2.1),(hX b.1.2.2),Hm])),(2,(hX qo)),(3,(qz without .shared)),(8,(.ptr 0 0)),(9,(.ptr 1 0)),(13,(qz order .shared)),(14,(hX (order.length:Int))),(15,(hX s1))]) (h:Kq b order qo without qc qi s1 s2 dh=some v) :
  dN Tryz.prog QW 80 0 none Qv T [ar.cells [(hX (0:Int)),(hX (0:Int))],ar.cells [(hX s2),(hX dh)]] Q:=by
 unfold Qv;obtain ⟨ajN,VE⟩:∃ c,TM=c:=⟨_,rfl⟩;rw [VE];refine wp_loop bZ ?_;refine .intro (fun m T H=>∃ (s1 s2 dh:Int) (T3:List ar),T=qg 59 [(0,(.bR [(qZ b.1.1 .shared),(hX b.1.2.1),(hX b.1.2.2),Hm])),(2,(hX qo)),(3,(qz without .shared)),(8,(.ptr 0 0)),(9,(.ptr 1 0)),(13,(qz order .shared)),(14,(hX (order.length:Int))),(15,(hX s1))]∧H=(ar.cells [(hX (0:Int)),(hX (0:Int))]::ar.cells [(hX s2),(hX dh)]::T3)∧Kq b order qo without qc m s1 s2 dh=some v) qi ⟨s1,s2,dh,[],rfl,rfl,h⟩ ?_;clear h bZ;rintro m T H ⟨s1,s2,dh,T3,rfl,rfl,h⟩;cases m
 ·exact rA h
 rename_i m;rw [Kq.eq_2] at h;conv=>whnf
 subst VE;unfold TM;obtain ⟨ajO,VF⟩:∃ c,TN=c:=⟨_,rfl⟩;rw [VF];conv=>whnf
 refine bs h (fun gJ h=>?_) fun gJ h=>?_
 ·rw [gJ];conv=>whnf
  subst VF;unfold TN;obtain ⟨ajP,OV⟩:∃ c,Oy=c:=⟨_,rfl⟩;rw [OV];obtain ⟨ajQ,VG⟩:∃ c,TP=c:=⟨_,rfl⟩;rw [VG];conv=>whnf
  refine qE h id fun gK h=>?_;rw [rj hX order s1 gK];conv=>whnf
  subst VG;unfold TP;obtain ⟨ajR,VH⟩:∃ c,TQ=c:=⟨_,rfl⟩;rw [VH];conv=>whnf
  refine qE h id fun qt h=>?_;conv=>whnf
  refine bs h (fun qH h=>?_) fun qH h=>?_
  ·rw [qH];(conv=>whnf);subst OV;unfold Oy;(conv=>whnf);exact ⟨m,sg m,(w (s1+(1:Int))),s2,dh,_,rfl,rfl,h⟩
  ·rw [qH];(conv=>whnf);obtain ⟨aS,qX,h⟩:=p' h;refine ⟨qj.pl,_,aie qX,?_⟩;(conv=>whnf);cases aS
   ·(conv=>whnf);replace h:=rq rfl h;refine qE h id fun q9 h=>?_;rw [IZ p_ 2 Lq b.1.1 (ix order s1) q9];(conv=>whnf);refine Ew (x:=ar.cells [(hX (0:Int)),(hX (0:Int))]) (by first | exact q7.h | rfl | (simp [sr,I.settle];done)) ?_
    (conv=>whnf);rw [HK];subst VH;unfold TQ;obtain ⟨ajK,VB⟩:∃ c,TI=c:=⟨_,rfl⟩;rw [VB];(conv=>whnf);obtain ⟨bh,qS,h⟩:=p' h;refine ⟨qj.pl,_,K3 qS,rC,?_⟩;(conv=>whnf);refine Ew (x:=ar.cells [(hX (ix b.1.1 (ix order s1)).1),(hX (ix b.1.1 (ix order s1)).2)]) (by first | exact q7.h | rfl | (simp [sr,I.settle];done)) ?_
    (conv=>whnf);subst VB;unfold TI;(conv=>whnf);obtain ⟨eH,re,h⟩:=p' h;refine ⟨qj.pl,_,K3 re,rC,?_⟩;(conv=>whnf);refine Ew (x:=ar.cells [(hX (ix b.1.1 (ix order s1)).1),(hX (ix b.1.1 (ix order s1)).2)]) (by first | exact q7.h | rfl | (simp [sr,I.settle];done)) ?_
    (conv=>whnf);subst OV;unfold Oy;(conv=>whnf);exact ⟨m,sg m,(w (s1+(1:Int))),(w (s2+(w (bh*(ix b.1.1 (ix order s1)).1)))),(w (dh+(w (eH*(ix b.1.1 (ix order s1)).2)))),_,rfl,rfl,h⟩
   ·(conv=>whnf);replace h:=rp rfl h;subst OV;unfold Oy;(conv=>whnf);exact ⟨m,sg m,(w (s1+(1:Int))),s2,dh,_,rfl,rfl,h⟩
 ·rw [gJ];conv=>whnf
  exact ra _ _ _ _ h ⟨rfl,rfl⟩
theorem P6 {b:((qk×(Int×Int))×Unit)} {order:qa} {qo:Int} {without:qa} {v:(Int×Int)} (h:LY b order qo without=some v):qw 80 [(.bR [(.av (b.1.1.flatMap p_) b.1.1.length .shared),(hX b.1.2.1),(hX b.1.2.2),Hm]),(.av (order.map hX) order.length .shared),(hX qo),(.av (without.map hX) without.length .shared)] (.agg [(hX v.1),(hX v.2)]):=by
 refine qO eD afq rfl (H4 (p7 rfl (p7 rfl rfl))) fun Q bo=>?_;have jG:qL [.cell 8 (.str 2)] Q (fun v=>(.agg [(hX v.1),(hX v.2)])) v:=fun T H bD=>bo _ T H bD;unfold LY at h;unfold aaR;obtain ⟨r_,qD⟩:∃ c,TH=c:=⟨_,rfl⟩;rw [qD];conv=>whnf
 subst qD;unfold TH;obtain ⟨J3,rO⟩:∃ c,TJ=c:=⟨_,rfl⟩;rw [rO];conv=>whnf
 subst rO;unfold TJ;obtain ⟨Q4,Jx⟩:∃ c,TK=c:=⟨_,rfl⟩;rw [Jx];obtain ⟨ajM,VD⟩:∃ c,TL=c:=⟨_,rfl⟩;rw [VD];conv=>whnf
 subst VD;unfold TL;obtain ⟨ajL,VC⟩:∃ c,Qv=c:=⟨_,rfl⟩;rw [VC];conv=>whnf
 subst VC;refine ajh ?_ (by exact rfl) h;intro yn oS Jt qf h qA;obtain ⟨rr,rfl⟩:=qA.ex;conv=>whnf
 subst Jx;unfold TK;conv=>whnf
 exact qe h jG rfl rfl
end Go.Proofs.YtkoioidpbbbaiaaGreat.Ab


namespace Go.Proofs.YtkoioidpbbbaiaaGreat.Ab
open Go
noncomputable def agK:gB :=
 .ou false [p4 18 8,p3 19 [.m_ 9] (.yM 0),qm 20 19,qK 21 9 1,qm 22 21,p6 23 2,qq 24 22 23 .mul,qq 25 20 24 .add,p3 26 [.m_ 7,.Bs 18] (.zu 2 1),⟨none,[.jm 26,.jm 25],none,none,.st 1⟩]
noncomputable def agL:gB :=
 p5 [p6 14 0,p6 15 1,p6 16 8,p3 17 [.cv (.func 80 [] []),.m_ 14,.m_ 15,.m_ 16,.cv (.av [] 0 .full)] (.call 3),p3 9 [] (.alloc [.int .i64 0,.int .i64 0]),⟨none,[.m_ 9,.jm 17],none,none,.st 2⟩] agK
noncomputable def agM:gB :=
 .block 1 (p5 [p6 13 11,p4 8 13] agL)
noncomputable def agN:gB :=
 .seq (p5 [qh 11 0] (.block 0 (.loop (some (qd false [0,3,3,2,3,1,17])) (p5 [p3 12 [.m_ 11,.cv (.int .i64 2)] (.bin .lss)] (.seq (.cond (.m_ 12) .skip (.exit 0)) (.seq agM (qF [qW 27 11 1,p4 11 27]))))))) (p5 [p3 28 [.Bs 7] (.zE (.arr 2)),⟨none,[.m_ 6,.jm 28],none,none,.st 2⟩] .ret)
noncomputable def Yh:gB :=
 p5 [p3 6 [] (.alloc [.int .i64 0, .int .i64 0])] (p5 [p3 7 [] (.alloc [.int .i64 0, .int .i64 0])] (p5 [p3 10 [.m_ 7] (.other (Oper.mk (some 10) (Op.slice 96 (Operand.tmp 7) none none none) 104 "press.go:44" (Array.mk []) none) 0), ⟨none, [.jm 10], none, none, .other (Oper.mk none (Op.call (Call.mk (Callee.builtin Builtin.clear) (Array.mk [Operand.tmp 10]) (Array.mk [104]))) 0 "press.go:44" (Array.mk [Edge.mk 0 Ground.data]) none) 0⟩] agN))
theorem aen:qu Go.Proofs.Tryz.prog UH 63=some (Yh,29,[.cell 6 (.arr 2)]):=by qb
noncomputable def agv:gB :=
 .ou false [p4 35 5,p6 36 9,p4 37 9,p3 38 [.Bs 37] (.un .neg),p3 39 [.jm 35,.jm 36,.jm 38] .max,p4 5 39]
noncomputable def agw:gB :=
 .block 3 (p5 [p3 34 [.m_ 31, .m_ 32] (.other (Oper.mk (some 34) (Op.index 96 (Operand.tmp 31) (Operand.tmp 32)) 2 "press.go:56" (Array.mk []) none) 0), p4 9 34] agv)
noncomputable def agx:gB :=
 p5 [p6 28 0,p6 29 1,p4 30 7,p3 31 [.cv (.func 63 [] []),.m_ 28,.m_ 29,.m_ 30] (.call 3),qh 32 0] (.block 2 (.loop (some (qd false [0,2,3,1,16,3,6,2,10])) (p5 [p3 33 [.m_ 32,.cv (.int .i64 2)] (.bin .lss)] (.seq (.cond (.m_ 33) .skip (.exit 2)) (.seq agw (qF [qW 40 32 1,p4 32 40]))))))
noncomputable def agy:gB :=
 .block 1 (p5 [p3 26 [.m_ 22,.m_ 24] (.kV 1),qm 27 26,p4 7 27] agx)
noncomputable def agz:gB :=
 .seq (.seq (ri [p6 10 0,p3 11 [.Bs 10] .z4,qK 12 11 0,qK 13 12 1,qK 14 13 0,qm 15 14,p6 16 0,p3 17 [.Bs 16] .z4,qK 18 17 0,qK 19 18 1,qK 20 19 1,qm 21 20,p3 22 [.Bs 15,.Bs 21] (.yB 2 1 [.int .i64 0] [0,1]),p3 23 [.m_ 22] .zJ,qh 24 0]) (.block 0 (.loop (some (qd false [0,2,3,1,16,3,18])) (p5 [p3 25 [.m_ 24,.m_ 23] (.bin .lss)] (.seq (.cond (.m_ 25) .skip (.exit 0)) (.seq agy (qF [qW 41 24 1,p4 24 41]))))))) (p5 [p4 42 5,p4 4 42] .ret)
noncomputable def X5:gB :=
 p5 [qh 4 0] (p5 [qh 5 0] agz)
theorem aeh:qu Go.Proofs.Tryz.prog Ut 41=some (X5,43,[.tmp 4]):=by qb
end Go.Proofs.YtkoioidpbbbaiaaGreat.Ab


namespace Go.Proofs.YtkoioidpbbbaiaaGreat.Ab
open Go
theorem acQ {H:List ar} {id d:Nat} {l r:List I} (h:H[id]?=some (.cells l)) (hm:dZ (bL H 0 H.length 0 d) (l.map I.view)=some r):bL H 0 H.length 0 (d+1) (.ptr id 0)=some (.bR r):=by
 have ab:=(sd.1 h).1;simp only [bL,Nat.not_lt_zero,if_false,h,tu,hm,si];rw [if_neg (by omega)]
theorem Vt {H:List ar} {lo id0 n d id:Nat} (h:¬ id<lo) (aX:id≠id0):bL H lo id0 n (d+1) (.map id)=some .a0:=by
 simp only [bL,if_neg h,if_neg aX]
end Go.Proofs.YtkoioidpbbbaiaaGreat.Ab


namespace Go.Proofs.YtkoioidpbbbaiaaGreat.Ab
open Go
set_option maxRecDepth 20000
set_option maxHeartbeats 4000000
def LV (b:((List (Int×Int))×(Int×Int))×Unit) (order:List Int) (rF:Int):Option (Int×Int) :=
 (LY b order 0 []).bind fun s=>(LY b order 1 []).bind fun t=>some (w (s.1+w (s.2*rF)),w (t.1+w (t.2*rF)))
abbrev lj (b:((List (Int×Int))×(Int×Int))×Unit):I:=.bR [.av (b.1.1.flatMap p_) b.1.1.length .shared,hX b.1.2.1,hX b.1.2.2,Hm]
theorem Tz {b:((List (Int×Int))×(Int×Int))×Unit} {order:List Int} {rF:Int} {v:Int×Int} (h:LV b order rF=some v):qw 63 [lj b,.av (order.map hX) order.length .shared,hX rF] (.agg [hX v.1,hX v.2]):=by
 unfold LV at h;obtain ⟨s,ah,h⟩:=p' h;obtain ⟨t,ax,h⟩:=p' h;obtain rfl:=Option.some.inj h;refine qO eD aen rfl (H4 (p7 rfl (p7 rfl rfl))) fun Q bo=>?_;unfold Yh;conv=>whnf
 refine ⟨_,_,fun C=>rfl,?_⟩;conv=>whnf
 refine ⟨_,_,fun C=>rfl,?_⟩;conv=>whnf
 refine .intro (fun m T H=>(m=2∧T=qg 29 [(0,lj b),(1,.av (order.map hX) order.length .shared),(2,hX rF),(6,.ptr 0 0),(7,.ptr 1 0),(11,hX 0)]∧H=[.cells [hX 0,hX 0],.cells [hX 0,hX 0]]) ∨
  (m=1∧T=qg 29 [(0,lj b),(1,.av (order.map hX) order.length .shared),(2,hX rF),(6,.ptr 0 0),(7,.ptr 1 0),(11,hX 1)]∧H=[.cells [hX 0,hX 0],.cells [hX (w (s.1+w (s.2*rF))),hX 0],.cells [hX s.1,hX s.2]]) ∨
  (m=0∧T=qg 29 [(0,lj b),(1,.av (order.map hX) order.length .shared),(2,hX rF),(6,.ptr 0 0),(7,.ptr 1 0),(11,hX 2)]∧H=[.cells [hX 0,hX 0],.cells [hX (w (s.1+w (s.2*rF))),hX (w (t.1+w (t.2*rF)))],.cells [hX s.1,hX s.2],.cells [hX t.1,hX t.2]])) 2 (.inl ⟨rfl,rfl,rfl⟩) ?_
 rintro m T H (⟨rfl,rfl,rfl⟩ | ⟨rfl,rfl,rfl⟩ | ⟨rfl,rfl,rfl⟩)
 ·conv=>whnf
  refine ⟨qj.pl,_,P6 ah,?_⟩;conv=>whnf
  refine ⟨by decide,?_⟩;conv=>whnf
  exact ⟨1,by decide,.inr (.inl ⟨rfl,rfl,rfl⟩)⟩
 ·conv=>whnf
  refine ⟨qj.pl,_,P6 ax,?_⟩;conv=>whnf
  refine ⟨by decide,?_⟩;conv=>whnf
  exact ⟨0,by decide,.inr (.inr ⟨rfl,rfl,rfl⟩)⟩
 ·conv=>whnf
  refine ⟨se 2,?_⟩;conv=>whnf
  refine bo _ _ _ ?_;exact ⟨.inr rfl,[.agg [hX (w (s.1+w (s.2*rF))),hX (w (t.1+w (t.2*rF)))]],rfl,_,yW (H4 (p7 rfl (p7 rfl rfl))),rfl⟩
def Kl (b:((List (Int×Int))×(Int×Int))×Unit) (order:List Int):Option Int :=
 (LV b order b.1.2.1).bind fun s=>(LV b order b.1.2.2).bind fun t =>
  some (max (max (max (max (max (max (max (max 0 s.1) (w (-s.1))) s.2) (w (-s.2))) t.1) (w (-t.1))) t.2) (w (-t.2)))
theorem Oh {b:((List (Int×Int))×(Int×Int))×Unit} {order:List Int} {v:Int} (h:Kl b order=some v):qw 41 [lj b,.av (order.map hX) order.length .shared] (hX v):=by
 unfold Kl at h;obtain ⟨s,ah,h⟩:=p' h;obtain ⟨t,ax,h⟩:=p' h;obtain rfl:=Option.some.inj h;refine qO eD aeh rfl rfl fun Q bo=>?_;unfold X5;conv=>whnf
 refine .intro (fun m T H=>(m=2∧T=qg 43 [(0,lj b),(1,.av (order.map hX) order.length .shared),(5,hX 0),(22,.av [hX b.1.2.1,hX b.1.2.2] 2 (.own 1)),(23,hX 2),(24,hX 0)]∧H=[])∨(m=1∧T=qg 43 [(0,lj b),(1,.av (order.map hX) order.length .shared),(5,hX (max (max (max (max 0 s.1) (w (-s.1))) s.2) (w (-s.2)))),(22,.av [hX b.1.2.1,hX b.1.2.2] 2 (.own 1)),(23,hX 2),(24,hX 1)]∧H=[])∨(m=0∧T=qg 43 [(0,lj b),(1,.av (order.map hX) order.length .shared),(5,hX (max (max (max (max (max (max (max (max 0 s.1) (w (-s.1))) s.2) (w (-s.2))) t.1) (w (-t.1))) t.2) (w (-t.2)))),(22,.av [hX b.1.2.1,hX b.1.2.2] 2 (.own 1)),(23,hX 2),(24,hX 2)]∧H=[])) 2 (.inl ⟨rfl,rfl,rfl⟩) ?_;rintro m T H (⟨rfl,rfl,rfl⟩ | ⟨rfl,rfl,rfl⟩ | ⟨rfl,rfl,rfl⟩)
 ·conv=>whnf
  refine ⟨by decide,?_⟩;conv=>whnf
  refine ⟨qj.pl,_,Tz ah,?_⟩;conv=>whnf
  refine .intro (fun m T H=>(m=2∧T=qg 43 [(0,lj b),(1,.av (order.map hX) order.length .shared),(5,hX 0),(22,.av [hX b.1.2.1,hX b.1.2.2] 2 (.own 1)),(23,hX 2),(24,hX 0),(31,.agg [hX s.1,hX s.2]),(32,hX 0)]∧H=[])∨(m=1∧T=qg 43 [(0,lj b),(1,.av (order.map hX) order.length .shared),(5,hX (max (max 0 s.1) (w (-s.1)))),(22,.av [hX b.1.2.1,hX b.1.2.2] 2 (.own 1)),(23,hX 2),(24,hX 0),(31,.agg [hX s.1,hX s.2]),(32,hX 1)]∧H=[])∨(m=0∧T=qg 43 [(0,lj b),(1,.av (order.map hX) order.length .shared),(5,hX (max (max (max (max 0 s.1) (w (-s.1))) s.2) (w (-s.2)))),(22,.av [hX b.1.2.1,hX b.1.2.2] 2 (.own 1)),(23,hX 2),(24,hX 0),(31,.agg [hX s.1,hX s.2]),(32,hX 2)]∧H=[])) 2 (.inl ⟨rfl,rfl,rfl⟩) ?_;rintro m T H (⟨rfl,rfl,rfl⟩ | ⟨rfl,rfl,rfl⟩ | ⟨rfl,rfl,rfl⟩)
  ·(conv=>whnf);refine ⟨_,_,fun C=>rfl,?_⟩;(conv=>whnf);exact ⟨1,by decide,.inr (.inl ⟨rfl,rfl,rfl⟩)⟩
  ·(conv=>whnf);refine ⟨_,_,fun C=>rfl,?_⟩;(conv=>whnf);exact ⟨0,by decide,.inr (.inr ⟨rfl,rfl,rfl⟩)⟩
  ·(conv=>whnf);exact ⟨1,by decide,.inr (.inl ⟨rfl,rfl,rfl⟩)⟩
 ·conv=>whnf
  refine ⟨by decide,?_⟩;conv=>whnf
  refine ⟨qj.pl,_,Tz ax,?_⟩;conv=>whnf
  refine .intro (fun m T H=>(m=2∧T=qg 43 [(0,lj b),(1,.av (order.map hX) order.length .shared),(5,hX (max (max (max (max 0 s.1) (w (-s.1))) s.2) (w (-s.2)))),(22,.av [hX b.1.2.1,hX b.1.2.2] 2 (.own 1)),(23,hX 2),(24,hX 1),(31,.agg [hX t.1,hX t.2]),(32,hX 0)]∧H=[])∨(m=1∧T=qg 43 [(0,lj b),(1,.av (order.map hX) order.length .shared),(5,hX (max (max (max (max (max (max 0 s.1) (w (-s.1))) s.2) (w (-s.2))) t.1) (w (-t.1)))),(22,.av [hX b.1.2.1,hX b.1.2.2] 2 (.own 1)),(23,hX 2),(24,hX 1),(31,.agg [hX t.1,hX t.2]),(32,hX 1)]∧H=[])∨(m=0∧T=qg 43 [(0,lj b),(1,.av (order.map hX) order.length .shared),(5,hX (max (max (max (max (max (max (max (max 0 s.1) (w (-s.1))) s.2) (w (-s.2))) t.1) (w (-t.1))) t.2) (w (-t.2)))),(22,.av [hX b.1.2.1,hX b.1.2.2] 2 (.own 1)),(23,hX 2),(24,hX 1),(31,.agg [hX t.1,hX t.2]),(32,hX 2)]∧H=[])) 2 (.inl ⟨rfl,rfl,rfl⟩) ?_;rintro m T H (⟨rfl,rfl,rfl⟩ | ⟨rfl,rfl,rfl⟩ | ⟨rfl,rfl,rfl⟩)
  ·(conv=>whnf);refine ⟨_,_,fun C=>rfl,?_⟩;(conv=>whnf);exact ⟨1,by decide,.inr (.inl ⟨rfl,rfl,rfl⟩)⟩
  ·(conv=>whnf);refine ⟨_,_,fun C=>rfl,?_⟩;(conv=>whnf);exact ⟨0,by decide,.inr (.inr ⟨rfl,rfl,rfl⟩)⟩
  ·(conv=>whnf);exact ⟨0,by decide,.inr (.inr ⟨rfl,rfl,rfl⟩)⟩
 ·conv=>whnf
  exact bo _ _ _ ⟨.inr rfl,_,rfl,_,yW rfl,rfl⟩

noncomputable def aaS:gB :=
 p5 [qh 4 0] (p5 [p4 5 0,p4 6 1,qv 7 6 2 .quo,qq 8 5 7 .sub,p4 4 8] .ret)
theorem afr:qu Tryz.prog UQ 82=some (aaS,9,[.tmp 4]):=by qb
def LZ (J' Ll:Int):Option Int :=
 qs ((2:Int)≠0) <|
 some (w (J'-(w (Ll.tdiv (2:Int)))))
theorem Z5 {J':Int} {Ll:Int} {v:Int} (h:LZ J' Ll=some v):qw 82 [(hX J'),(hX Ll)] (hX v):=by
 refine qO eD afr rfl rfl fun Q bo=>?_;have jG:qL [.tmp 4] Q (fun v=>(hX v)) v:=fun T H bD=>bo _ T H bD;unfold LZ at h;unfold aaS;conv=>whnf
 refine qE h id fun gJ h=>?_;conv=>whnf
 exact qe h jG rfl rfl

noncomputable def Qp:gB :=
 .loop (some (qd false [1,4,4,2,34])) (.seq (p5 [p6 12 10,p6 13 1,q2 14 13,qq 15 12 14 .lss] (.cond (.m_ 15) .skip (.exit 0))) (.seq (.block 1 (p5 [p6 18 10,qv 19 18 2 .rem,p6 20 3,qq 21 19 20 .eql] (.cond (.m_ 21) (.seq (ri [p3 22 [.m_ 4] (.yM 0),qm 23 22,p6 24 1,p6 25 10,rn 26 24 25 1,qm 27 26,rn 28 23 27 2,p3 29 [.Bs 28] (.zE (.str 2)),p3 11 [] (.alloc [.int .i64 0,.int .i64 0]),⟨none,[.m_ 11,.jm 29],none,none,.st 2⟩]) (ri [p4 30 9,p6 31 10,p6 32 1,q2 33 32,p3 34 [.cv (.func 82 [] []),.m_ 31,.m_ 33] (.call 3),p3 35 [.m_ 11] (.yM 0),qm 36 35,p3 37 [.m_ 11] (.yM 1),qm 38 37,p6 39 2,qq 40 38 39 .mul,qq 41 36 40 .add,qq 42 34 41 .mul,qq 43 30 42 .add,p4 9 43])) .skip))) (qF [p4 16 10,qW 17 16 1,p4 10 17])))
noncomputable def aaJ:gB :=
 p5 [p3 4 [.jm 0] .box,qh 8 0] (p5 [qh 9 0] (.seq (p5 [qh 10 0] (.block 0 Qp)) (p5 [p4 44 9,p4 8 44] .ret)))
theorem afi:qu Tryz.prog QT 65=some (aaJ,45,[.tmp 8]):=by qb
def K2 (p:(qk×(Int×Int))) (order:qa) (rF qo:Int) (qc:Int→Option Int):Nat→Int→Int→Option Int
 | 0,_,_=>none
 | m+1,s1,s2 =>
   if (decide (s2<(order.length:Int)))=true then
    qs ((2:Int)≠0) <|
    if (decide ((s2.tmod (2:Int))=qo))=true then
     qs (0≤s2∧s2<(order.length:Int)) <|
     qs (0≤(ix order s2)∧(ix order s2)<(p.1.length:Int)) <|
     (LZ s2 (order.length:Int)).bind fun aS =>
     K2 p order rF qo qc m (w (s1+(w (aS*(w ((ix p.1 (ix order s2)).1+(w ((ix p.1 (ix order s2)).2*rF)))))))) (w (s2+(1:Int)))
    else
     K2 p order rF qo qc m s1 (w (s2+(1:Int)))
   else
    qc s1
def JN (p:(qk×(Int×Int))) (order:qa) (rF qo:Int):Option Int :=
 K2 p order rF qo (fun yn =>
   some yn) qi (0:Int) (0:Int)
theorem aja {p:(qk×(Int×Int))} {order:qa} {rF:Int} {qo:Int} {qc:Int→Option Int} {s1:Int} {s2:Int} {v:Int} {Q:rS}   (ra:∀ (yn:Int) (bw:ar) (Jt:List ar) (qf:List I),qc yn=some v→rm 45 [(9,(hX yn))] qf→Q (.exit 0) qf (bw::Jt)) {T:List I} (bZ:eW (qd false [1,4,4,2,34]) T=qg 45 [(1,(qz order .shared)),(2,(hX rF)),(3,(hX qo)),(4,(.ptr 0 0)),(9,(hX s1)),(10,(hX s2))]) (h:K2 p order rF qo qc qi s1 s2=some v) :
  dN Tryz.prog QT 65 0 none Qp T [ar.cells [(qZ p.1 .shared),(hX p.2.1),(hX p.2.2)]] Q:=by
 unfold Qp;refine wp_loop bZ ?_;refine .intro (fun m T H=>∃ (s1 s2:Int) (T2:List ar),T=qg 45 [(1,(qz order .shared)),(2,(hX rF)),(3,(hX qo)),(4,(.ptr 0 0)),(9,(hX s1)),(10,(hX s2))]∧H=(ar.cells [(qZ p.1 .shared),(hX p.2.1),(hX p.2.2)]::T2)∧K2 p order rF qo qc m s1 s2=some v) qi ⟨s1,s2,[],rfl,rfl,h⟩ ?_;clear h bZ;rintro m T H ⟨s1,s2,T2,rfl,rfl,h⟩;cases m
 ·exact rA h
 rename_i m;rw [K2.eq_2] at h;conv=>whnf
 refine bs h (fun gJ h=>?_) fun gJ h=>?_
 ·rw [gJ];conv=>whnf
  refine qE h id fun gK h=>?_;conv=>whnf
  refine bs h (fun qt h=>?_) fun qt h=>?_
  ·rw [qt];(conv=>whnf);refine qE h id fun qH h=>?_;rw [rj hX order s2 qH];(conv=>whnf);refine qE h id fun qX h=>?_;rw [IZ p_ 2 Lq p.1 (ix order s2) qX];(conv=>whnf);refine Ew (x:=ar.cells [(hX (0:Int)),(hX (0:Int))]) (by first | exact q7.h | rfl | (simp [sr,I.settle];done)) ?_
   (conv=>whnf);rw [HK];obtain ⟨aS,q9,h⟩:=p' h;refine ⟨(p7 rfl (p7 rfl rfl)),_,Z5 q9,rC,?_⟩;(conv=>whnf);refine Ew (x:=ar.cells [(hX (ix p.1 (ix order s2)).1),(hX (ix p.1 (ix order s2)).2)]) (by first | exact q7.h | rfl | (simp [sr,I.settle];done)) ?_
   (conv=>whnf);refine Ew (x:=ar.cells [(hX (ix p.1 (ix order s2)).1),(hX (ix p.1 (ix order s2)).2)]) (by first | exact q7.h | rfl | (simp [sr,I.settle];done)) ?_
   (conv=>whnf);exact ⟨m,sg m,(w (s1+(w (aS*(w ((ix p.1 (ix order s2)).1+(w ((ix p.1 (ix order s2)).2*rF)))))))),(w (s2+(1:Int))),_,rfl,rfl,h⟩
  ·rw [qt];(conv=>whnf);exact ⟨m,sg m,s1,(w (s2+(1:Int))),_,rfl,rfl,h⟩
 ·rw [gJ];conv=>whnf
  exact ra _ _ _ _ h ⟨rfl,rfl⟩
theorem M0 {p:(qk×(Int×Int))} {order:qa} {rF:Int} {qo:Int} {v:Int} (h:JN p order rF qo=some v):qw 65 [(.agg [(.av (p.1.flatMap p_) p.1.length .shared),(hX p.2.1),(hX p.2.2)]),(.av (order.map hX) order.length .shared),(hX rF),(hX qo)] (hX v):=by
 refine qO eD afi rfl rfl fun Q bo=>?_;have jG:qL [.tmp 8] Q (fun v=>(hX v)) v:=fun T H bD=>bo _ T H bD;unfold JN at h;unfold aaJ;obtain ⟨r_,qD⟩:∃ c,Qp=c:=⟨_,rfl⟩;rw [qD];conv=>whnf
 subst qD;refine aja ?_ (by exact rfl) h;intro yn bw Jt qf h qA;obtain ⟨rr,rfl⟩:=qA.ex;conv=>whnf
 exact qe h jG rfl rfl
end Go.Proofs.YtkoioidpbbbaiaaGreat.Ab


namespace Go.Proofs.YtkoioidpbbbaiaaGreat.Ab
open Go
set_option maxRecDepth 20000
set_option maxHeartbeats 1000000
abbrev qN:=Int×Int
def q6:Nat→(Nat→Int)→Int
 | 0,_=>0
 | n+1,g=>q6 n g+g n
theorem N7 {n:Nat} {g h:Nat→Int} (e:∀ i,i<n→g i=h i):q6 n g=q6 n h:=by
 induction n with
 | zero=>rfl
 | succ n a8=>simp only [q6];rw [a8 fun i hi=>e i (by omega),e n (by omega)]
theorem Lw {n:Nat} {g:Nat→Int} {B:Int} (e:∀ i,i<n → -B≤g i∧g i≤B):-(n*B)≤q6 n g∧q6 n g≤n*B:=by
 induction n with
 | zero=>simp [q6]
 | succ n a8 =>
   obtain ⟨ab,ae⟩:=a8 fun i hi=>e i (by omega);obtain ⟨aF,ba⟩:=e n (by omega);simp only [q6]
   have:((n+1:Nat):Int)*B=n*B+B:=by rw [Int.natCast_add,Int.add_mul];simp
   omega
theorem ahG (n:Nat) (g h:Nat→Int):q6 n (fun i=>g i+h i)=q6 n g+q6 n h:=by
 induction n with
 | zero=>rfl
 | succ n a8=>simp only [q6,a8];omega
theorem Y2 (n:Nat) (g:Nat→Int) (c:Int):q6 n (fun i=>c*g i)=c*q6 n g:=by
 induction n with
 | zero=>simp [q6]
 | succ n a8=>simp only [q6,a8,Int.mul_add]
theorem Hz {a b A B:Int} (h:-A≤a∧a≤A) (k:-B≤b∧b≤B):-(A*B)≤a*b∧a*b≤A*B:=by
 have ab:a.natAbs*b.natAbs≤A.natAbs*B.natAbs:=Nat.mul_le_mul (by omega) (by omega);have ae:(a*b).natAbs≤A.natAbs*B.natAbs:=by rw [Int.natAbs_mul];exact ab
 have aF:((A.natAbs*B.natAbs:Nat):Int)=A*B:=by
  rw [Int.natCast_mul,Int.natAbs_of_nonneg (by omega),Int.natAbs_of_nonneg (by omega)]
 omega
def qP (S:List qN) (o:List Int) (i:Nat):qN:=ix S (ix o (i:Int))
def qI (n i:Nat):Int:=(i:Int)-((n / 2:Nat):Int)
def qJ (S:List qN) (o:List Int) (a:Nat) (W:List Int) (f:qN→Int):Int:=q6 o.length fun i=>if i % 2=a∧(i:Int) ∉ W then qI o.length i*f (qP S o i) else 0
def r2 (S:List qN) (o:List Int) (a:Nat) (f:qN→Int):Int:=q6 o.length fun i=>if i % 2=a then qI o.length i*f (qP S o i) else 0
theorem NK (S:List qN) (o:List Int) (a:Nat) (f:qN→Int):qJ S o a [] f=r2 S o a f:=N7 fun i _=>by simp
def J0 (S:List qN) (o:List Int):Prop:=∀ i:Nat,i<o.length→0≤ix o (i:Int)∧ix o (i:Int)<(S.length:Int)
def q3 (s:qN):Prop:=0≤s.1∧s.1≤100∧-10≤s.2∧s.2≤10
instance (s:qN):Decidable (q3 s):=by unfold q3;exact inferInstance
theorem Iv {S:List qN} {o:List Int} (cl:∀ s∈S,q3 s) (jG:J0 S o) {i:Nat} (hi:i<o.length):q3 (qP S o i):=cl _ (J9 (jG i hi))
def rf (d:Int) (s:qN):Int:=s.1+s.2*d
theorem L8 {d:Int} {s:qN} (ah:q3 s) (a1:0≤d∧d≤50):-600≤rf d s∧rf d s≤600:=by
 have:=Hz (a:=s.2) (b:=d) (A:=10) (B:=50) ⟨ah.2.2.1,ah.2.2.2⟩ ⟨by omega,a1.2⟩;have ab:=ah.1;have ae:=ah.2.1;unfold rf;omega
theorem KH {n i:Nat} (hi:i<n) (aI:n≤10):-10≤qI n i∧qI n i≤10:=by unfold qI;omega
theorem MF {n i:Nat} {v B:Int} {q:Prop} [Decidable q] (hi:i<n) (aI:n≤10) (Jy:0≤B) (h:-B≤v∧v≤B):-(10*B)≤(if q then qI n i*v else 0)∧(if q then qI n i*v else 0)≤10*B:=by
 by_cases ab:q
 ·rw [if_pos ab];exact Hz (KH hi aI) h
 ·rw [if_neg ab];omega
theorem R5 {S:List qN} {o:List Int} {a:Nat} {W:List Int} {f:qN→Int} {B:Int} (aq:o.length≤10) (Jy:0≤B) (h:∀ i,i<o.length → -B≤f (qP S o i)∧f (qP S o i)≤B):-(100*B)≤qJ S o a W f∧qJ S o a W f≤100*B:=by
 have:=Lw (n:=o.length) (g:=fun i=>if i % 2=a∧(i:Int) ∉ W then qI o.length i*f (qP S o i) else 0) (B:=10*B) fun i hi=>MF hi aq Jy (h i hi);have ae:=Int.mul_le_mul_of_nonneg_right (show (o.length:Int)≤10 by omega) (show 0≤10*B by omega);unfold qJ;omega
theorem afD {S:List qN} {o:List Int} {a:Nat} {f:qN→Int} {B:Int} (aq:o.length≤10) (Jy:0≤B) (h:∀ i,i<o.length → -B≤f (qP S o i)∧f (qP S o i)≤B):-(100*B)≤r2 S o a f∧r2 S o a f≤100*B:=by
 rw [←NK];exact R5 aq Jy h
theorem TE {n i:Nat} (hi:i<n) (aI:n≤10):LZ (i n:Int)=some (qI n i):=by
 unfold LZ;rw [qx (by decide)];have e:(n:Int).tdiv 2=((n / 2:Nat):Int):=by rw [Int.tdiv_eq_ediv_of_nonneg (by omega)];omega
 rw [e,qG (n:=((n / 2:Nat):Int)) (by omega),qG (by omega)];rfl
theorem Lx (i:Nat):(i:Int).tmod 2=((i % 2:Nat):Int):=by rw [Int.tmod_eq_emod_of_nonneg (by omega)];omega
theorem Wv {p:(List qN)×(Int×Int)} {o:List Int} {d:Int} {a:Nat} {kl:Int→Option Int} (cl:∀ s∈p.1,q3 s) (jG:J0 p.1 o) (aq:o.length≤10) (a1:0≤d∧d≤50) :
  ∀ (m i:Nat),i≤o.length→o.length-i<m→K2 p o d (a:Int) kl m (q6 i fun i=>if i % 2=a then qI o.length i*rf d (qP p.1 o i) else 0) (i:Int)=kl (r2 p.1 o a (rf d))
 | 0,_,_,h=>absurd h (by omega)
 | m+1,i,hi,hm=>by
   rw [K2];by_cases aR:i<o.length
   ·rw [if_pos (decide_eq_true (by omega)),qx (by decide),Lx,Hr i (by omega)];have a8:=Wv (kl:=kl) (a:=a) cl jG aq a1 m (i+1) (by omega) (by omega);by_cases a_:i % 2=a
    ·rw [if_pos (decide_eq_true (by omega)),qx (by omega),qx (jG i aR),TE aR aq,sc];have al:=Iv cl jG aR;have bl:=Hz (a:=(qP p.1 o i).2) (b:=d) (A:=10) (B:=50) ⟨al.2.2.1,al.2.2.2⟩ ⟨by omega,a1.2⟩;have cr:=L8 al a1;have eY:=Hz (KH aR aq) cr;have lN:=Lw (n:=i) (g:=fun i=>if i % 2=a then qI o.length i*rf d (qP p.1 o i) else 0) (B:=6000) fun j aw=>MF (B:=600) (by omega) aq (by omega) (L8 (Iv cl jG (by omega)) a1);have e1:ix p.1 (ix o (i:Int))=qP p.1 o i:=rfl;rw [e1,qG (n:=(qP p.1 o i).2*d) (by omega)];rw [show (qP p.1 o i).1+(qP p.1 o i).2*d=rf d (qP p.1 o i) from rfl,qG (n:=rf d (qP p.1 o i)) (by omega),qG (n:=qI o.length i*rf d (qP p.1 o i)) (by omega),qG (by omega)];simp only [q6,if_pos a_] at a8;exact a8
    ·rw [if_neg (by simpa using by omega)];simp only [q6,if_neg a_,tJ] at a8;exact a8
   ·(obtain rfl:i=o.length:=by omega);rw [if_neg (by simp)];rfl
theorem r6 {n:Nat} (h:n≤1000000):n<qi:=by unfold qi;omega
theorem ai_ {p:(List qN)×(Int×Int)} {o:List Int} {d:Int} {a:Nat} (cl:∀ s∈p.1,q3 s) (jG:J0 p.1 o) (aq:o.length≤10) (a1:0≤d∧d≤50):JN p o d (a:Int)=some (r2 p.1 o a (rf d)):=by
 unfold JN;exact Wv cl jG aq a1 qi 0 (by omega) (r6 (by omega))
theorem P4 {b:((List (Int×Int))×(Int×Int))×Unit} {n i:Nat} (aI:n≤10) (af:b.1.1.length=n) (hi:i<n):Kp b (i:Int)=some (qI n i):=by
 have:=TE hi aI;unfold LZ at this;unfold Kp;rw [af];exact this
theorem Wd {W:List Int} (l9:W.length≤1000) {v:Int}:∀ (m i:Nat),i≤W.length→W.length-i<m→(∀ j,j<i→ix W (j:Int)≠v)→∃ r,KM W v (fun _=>some (-1:Int)) m (i:Int)=some r∧decide (0≤r)=decide (v∈W)
 | 0,_,_,h,_=>absurd h (by omega)
 | m+1,i,hi,hm,ad=>by
   rw [KM];by_cases aR:i<W.length
   ·rw [if_pos (decide_eq_true (by omega)),qx (by omega)];by_cases he:v=ix W (i:Int)
    ·rw [if_pos (decide_eq_true he)];refine ⟨_,rfl,?_⟩;rw [decide_eq_true (by omega),decide_eq_true (by rw [he];exact J9 (by omega))]
    ·rw [if_neg (by simpa using he),Hr i (by omega)];refine Wd l9 m (i+1) (by omega) (by omega) fun j aw=>?_;by_cases gf:j=i
     ·subst gf;exact fun e=>he e.symm
     ·exact ad j (by omega)
   ·rw [if_neg (by simpa using by omega)];refine ⟨-1,rfl,?_⟩;rw [decide_eq_false (by omega),decide_eq_false];intro nL;obtain ⟨j,aw,e⟩:=List.getElem_of_mem nL;refine ad j (by omega) ?_;rw [rI aw];exact e
theorem aid (W:List Int) (l9:W.length≤1000) (v:Int):Oa W v=some (decide (v∈W)):=by
 unfold Oa PN;obtain ⟨r,ab,ae⟩:=Wd (W:=W) l9 (v:=v) qi 0 (by omega) (r6 (by omega)) (fun j aw=>absurd aw (by omega));have iO:KM W v (fun _=>some (-1:Int)) qi 0=some r:=ab;rw [iO,sc,ae]
theorem Wy {b:((List (Int×Int))×(Int×Int))×Unit} {o:List Int} {W:List Int} {a:Nat} {kl:Int→Int→Option (Int×Int)} (cl:∀ s∈b.1.1,q3 s) (jG:J0 b.1.1 o) (aq:o.length≤10) (aI:b.1.1.length=o.length) (l9:W.length≤1000) :
  ∀ (m i:Nat),i≤o.length→o.length-i<m →
    Kq b o (a:Int) W kl m (i:Int) (q6 i fun i=>if i % 2=a∧(i:Int) ∉ W then qI o.length i*(qP b.1.1 o i).1 else 0) (q6 i fun i=>if i % 2=a∧(i:Int) ∉ W then qI o.length i*(qP b.1.1 o i).2 else 0)=kl (qJ b.1.1 o a W Prod.fst) (qJ b.1.1 o a W Prod.snd)
 | 0,_,_,h=>absurd h (by omega)
 | m+1,i,hi,hm=>by
   rw [Kq];by_cases aR:i<o.length
   ·rw [if_pos (decide_eq_true (by omega)),qx (by omega),qx (by decide),Lx,Hr i (by omega)];have a8:=Wy (kl:=kl) (a:=a) (W:=W) cl jG aq aI l9 m (i+1) (by omega) (by omega);by_cases a_:i % 2=a
    ·rw [if_neg (by simpa using by omega),aid W l9,sc];by_cases hw:(i:Int)∈W
     ·rw [if_pos (decide_eq_true hw)];simp only [q6,hw,not_true_eq_false,and_false,if_false,tJ] at a8;exact a8
     ·rw [if_neg (by simpa using hw),qx (jG i aR),P4 aq aI aR,sc,sc];have al:=Iv cl jG aR;have eY:=Hz (KH aR aq) (b:=(qP b.1.1 o i).1) (B:=100) ⟨by have:=al.1;omega,al.2.1⟩;have abQ:=Hz (KH aR aq) (b:=(qP b.1.1 o i).2) (B:=10) ⟨al.2.2.1,al.2.2.2⟩;have lN:=Lw (n:=i) (g:=fun i=>if i % 2=a∧(i:Int) ∉ W then qI o.length i*(qP b.1.1 o i).1 else 0) (B:=1000) fun j aw=>MF (B:=100) (by omega) aq (by omega) (by have:=Iv cl jG (i:=j) (by omega);exact ⟨by have:=this.1;omega,this.2.1⟩);have abR:=Lw (n:=i) (g:=fun i=>if i % 2=a∧(i:Int) ∉ W then qI o.length i*(qP b.1.1 o i).2 else 0) (B:=100) fun j aw=>MF (B:=10) (by omega) aq (by omega) (by have:=Iv cl jG (i:=j) (by omega);exact ⟨this.2.2.1,this.2.2.2⟩);have e1:ix b.1.1 (ix o (i:Int))=qP b.1.1 o i:=rfl;rw [e1,qG (n:=qI o.length i*(qP b.1.1 o i).1) (by omega),qG (n:=qI o.length i*(qP b.1.1 o i).2) (by omega),qG (by omega),qG (by omega)];simp only [q6,if_pos (show i % 2=a∧(i:Int) ∉ W from ⟨a_,hw⟩)] at a8;exact a8
    ·rw [if_pos (by simpa using by omega)];simp only [q6,a_,false_and,if_false,tJ] at a8;exact a8
   ·(obtain rfl:i=o.length:=by omega);rw [if_neg (by simp)];rfl
theorem P5 {b:((List (Int×Int))×(Int×Int))×Unit} {o:List Int} {W:List Int} {a:Nat} (cl:∀ s∈b.1.1,q3 s) (jG:J0 b.1.1 o) (aq:o.length≤10) (aI:b.1.1.length=o.length) (l9:W.length≤1000) :
  LY b o (a:Int) W=some (qJ b.1.1 o a W Prod.fst,qJ b.1.1 o a W Prod.snd):=by
 unfold LY;exact Wy cl jG aq aI l9 qi 0 (by omega) (r6 (by omega))
theorem Mo (S:List qN) (o:List Int) (a:Nat) (W:List Int) (d:Int):qJ S o a W (rf d)=qJ S o a W Prod.fst+qJ S o a W Prod.snd*d:=by
 unfold qJ;rw [Int.mul_comm _ d,←Y2,←ahG];refine N7 fun i _=>?_;by_cases h:i % 2=a∧(i:Int) ∉ W
 ·simp only [if_pos h,rf];grind
 ·simp only [if_neg h];omega
theorem afF (S:List qN) (o:List Int) (a:Nat) (d:Int):r2 S o a (rf d)=r2 S o a Prod.fst+r2 S o a Prod.snd*d:=by
 simp only [←NK];exact Mo S o a [] d
theorem Nj {S:List qN} {o:List Int} {a:Nat} {W:List Int} (cl:∀ s∈S,q3 s) (jG:J0 S o) (aq:o.length≤10):-10000≤qJ S o a W Prod.fst∧qJ S o a W Prod.fst≤10000 :=
 R5 (B:=100) aq (by omega) fun i hi=>by have:=Iv cl jG hi;exact ⟨by have:=this.1;omega,this.2.1⟩
theorem N5 {S:List qN} {o:List Int} {a:Nat} {W:List Int} (cl:∀ s∈S,q3 s) (jG:J0 S o) (aq:o.length≤10):-1000≤qJ S o a W Prod.snd∧qJ S o a W Prod.snd≤1000 :=
 R5 (B:=10) aq (by omega) fun i hi=>by have:=Iv cl jG hi;exact ⟨this.2.2.1,this.2.2.2⟩
theorem Ty {b:((List (Int×Int))×(Int×Int))×Unit} {o:List Int} {d:Int} (cl:∀ s∈b.1.1,q3 s) (jG:J0 b.1.1 o) (aq:o.length≤10) (aI:b.1.1.length=o.length) (a1:0≤d∧d≤50) :
  LV b o d=some (r2 b.1.1 o 0 (rf d),r2 b.1.1 o 1 (rf d)):=by
 unfold LV;have aQ:=P5 (W:=[]) (a:=0) cl jG aq aI (by simp);have ab:=P5 (W:=[]) (a:=1) cl jG aq aI (by simp);rw [show ((0:Nat):Int)=0 from rfl] at aQ;rw [show ((1:Nat):Int)=1 from rfl] at ab;rw [aQ,ab,sc,sc];have one:∀ a,w (qJ b.1.1 o a [] Prod.fst+w (qJ b.1.1 o a [] Prod.snd*d))=r2 b.1.1 o a (rf d):=fun a=>by
  have a7:=Nj (a:=a) (W:=[]) cl jG aq;have a9:=N5 (a:=a) (W:=[]) cl jG aq;have br:=Hz (b:=d) (B:=50) a9 ⟨by omega,a1.2⟩;rw [qG (n:=qJ b.1.1 o a [] Prod.snd*d) (by omega),qG (by omega),←Mo,NK]
 simp only [one]
end Go.Proofs.YtkoioidpbbbaiaaGreat.Ab


namespace Go.Proofs.YtkoioidpbbbaiaaGreat.Ab
def qV:Nat→List Int→List (List Int)
 | 0,_=>[[]]
 | n+1,left=>left.flatMap fun x=>(qV n (left.erase x)).map (x::·)
def I7:List Int→List Int→Option (List Int)
 | _,[]=>none
 | left,x::r=>match I7 (left.erase x) r with
   | some r'=>some (x::r')
   | none=>match left.find? (fun y=>decide (x<y)) with
     | some y=>some (y::left.erase y)
     | none=>none
theorem Mb {left:List Int} {x:Int} {n:Nat} (ao:left.length=n+1) (aj:x∈left):(left.erase x).length=n:=by
 rw [List.length_erase_of_mem aj,ao];rfl
theorem acK {left:List Int} {x:Int} (h:left.Pairwise (·<·)):(left.erase x).Pairwise (·<·):=h.sublist List.erase_sublist
theorem S1 {left:List Int} (h:left.Pairwise (·<·)):left.Nodup:=h.imp fun h e=>by omega
theorem RX:∀ (n:Nat) (left:List Int),left.length=n→qV n left≠[]
 | 0,_,_=>by simp [qV]
 | n+1,[],h=>by simp at h
 | n+1,x::s,h=>by
   have:=RX n ((x::s).erase x) (Mb h (by simp));simp only [qV,uo];intro e;exact this (by simpa using (List.append_eq_nil_iff.1 e).1)
theorem RW:∀ (n:Nat) (left:List Int),left.length=n→(qV n left)[0]?=some left
 | 0,left,h=>by rw [sT.1 h];rfl
 | n+1,[],h=>by simp at h
 | n+1,x::s,h=>by
   (have e:(x::s).erase x=s:=by simp);have a8:=RW n s (by simpa using h);simp only [qV,uo,e];have O5:0<((qV n s).map (x::·)).length:=by
    rw [sZ];exact vJ.2 (RX n s (by simpa using h))
   rw [sk O5,sq,a8];rfl
theorem WG:∀ (n:Nat) (left:List Int),left.Pairwise (·<·)→left.length=n→∀ (i:Nat) (h:i<(qV n left).length),I7 left (qV n left)[i]=(qV n left)[i+1]?
 | 0,left,_,_,i,h=>by
   have:i=0:=by simp [qV] at h;exact h
   subst this;rfl
 | n+1,left,ah,ao,i,h=>by
   have key:∀ (s p:List Int),left=p++s→∀ (i:Nat) (h:i<(s.flatMap fun x=>(qV n (left.erase x)).map (x::·)).length),
     I7 left (s.flatMap fun x=>(qV n (left.erase x)).map (x::·))[i]=(s.flatMap fun x=>(qV n (left.erase x)).map (x::·))[i+1]?:=by
    intro s
    induction s with
    | nil=>intro p aB i h;simp at h
    | cons x s a8 =>
      intro p aB i h;(have aj:x∈left:=by rw [aB];simp);have CI:((qV n (left.erase x)).map (x::·)).length=(qV n (left.erase x)).length:=sZ ..;simp only [uo] at h ⊢;by_cases hi:i<(qV n (left.erase x)).length
      ·rw [List.getElem_append_left (by omega),tX];have aI:=WG n (left.erase x) (acK ah) (Mb ao aj) i hi;rw [I7,aI];by_cases RJ:i+1<(qV n (left.erase x)).length
       ·rw [sk (by omega),sq,sm RJ];rfl
       ·rw [List.getElem?_eq_none (by omega),sv (by omega),CI,show i+1-(qV n (left.erase x)).length=0 by omega];have aP:left.find? (fun y=>decide (x<y))=s.head?:=by
         rw [aB] at ah;rw [aB,List.find?_append];obtain ⟨ab,ae,aF⟩:=List.pairwise_append.1 ah;have e1:p.find? (fun y=>decide (x<y))=none:=List.find?_eq_none.2 fun y aY=>by
          have:=aF y aY x (by simp);simp;omega
         rw [e1,Option.none_or,List.find?_cons_of_neg (by simp)];cases s with
         | nil=>rfl
         | cons y s =>
           rw [List.find?_cons_of_pos]
           ·rfl
           ·have:=(List.pairwise_cons.1 ae).1 y (by simp);simpa using this
        rw [aP];cases s with
        | nil=>rfl
        | cons y s =>
          simp only [List.head?_cons,uo];(have aY:y∈left:=by rw [aB];simp);have O5:0<((qV n (left.erase y)).map (y::·)).length:=by
           rw [sZ];exact vJ.2 (RX n _ (Mb ao aY))
          rw [sk O5,sq,RW n _ (Mb ao aY)];rfl
      ·rw [List.getElem_append_right (by omega),sv (by omega)];have ady:=h;rw [sD] at ady;have:=a8 (p++[x]) (by rw [aB];simp) (i-((qV n (left.erase x)).map (x::·)).length) (by omega);rw [this];congr 1;omega
   exact key left [] rfl i h
theorem Pb:∀ (n:Nat) (left l:List Int),left.length=n→(l∈qV n left↔l.Perm left)
 | 0,left,l,h=>by
   rw [sT.1 h];simp [qV]
 | n+1,left,l,h=>by
   simp only [qV,tW,sH];constructor
   ·rintro ⟨x,aj,r,ai,rfl⟩;have:=(Pb n (left.erase x) r (Mb h aj)).1 ai;exact (this.cons x).trans (vK aj).symm
   ·intro aB;cases l with
    | nil=>have:=aB.length_eq;simp at this;omega
    | cons x r =>
      have aj:x∈left:=aB.mem_iff.1 (by simp);refine ⟨x,aj,r,(Pb n (left.erase x) r (Mb h aj)).2 ?_,rfl⟩;exact (List.perm_cons x).1 (aB.trans (vK aj))
theorem ad8 {n:Nat} {left l:List Int} (h:left.length=n) (ao:l∈qV n left):l.length=n:=by
 rw [((Pb n left l h).1 ao).length_eq,h]
end Go.Proofs.YtkoioidpbbbaiaaGreat.Ab


namespace Go.Proofs.YtkoioidpbbbaiaaGreat.Ab
open Go
noncomputable def Yi:gB :=
 p5 [⟨some 6, [.jm 3], none, some 3, .Bq⟩, p3 7 [.cv (.func 86 [] []), .jm 6] (.call 1)] (p5 [⟨some 8, [.jm 3], none, some 3, .other (Oper.mk (some 8) (Op.move (Operand.tmp 3)) 32 "iter.go:69" (Array.mk []) none) 2⟩, p4 2 8] .ret)
noncomputable def SG:gB :=
 p5 [p3 2 [.cv (.av [] 0 .full)] (.nil 1)] (p5 [p4 4 0,p3 5 [.cv (.func 85 [] []),.m_ 4] (.call 0),p4 3 5] Yi)
theorem WL:qu Go.Proofs.Tryz.prog UI 67=some (SG,9,[.tmp 2]):=by qb
noncomputable def Yr:gB :=
 p5 [p3 2 [.cv (.av [] 0 .full)] (.nil 1)] (p5 [p4 3 0,p3 4 [.cv (.func 102 [] []),.cv (.av [] 0 .full),.m_ 3] (.call 0),p4 2 4] .ret)
theorem aeq:qu Go.Proofs.Tryz.prog US 85=some (Yr,5,[.tmp 2]):=by qb
noncomputable def ag6:gB :=
 p5 [p6 11 0,p4 12 4,p3 13 [.jm 11,.jm 12] (.call 1),p3 14 [.Bs 13] (.un .not)] (.cond (.m_ 14) .ret .skip)
noncomputable def ag7:gB :=
 .block 1 (p5 [p3 9 [.m_ 5,.m_ 7] (.kV 1),qm 10 9,p4 4 10] ag6)
noncomputable def Ys:gB :=
 p5 [qm 5 1,p3 6 [.m_ 5] .zJ,qh 7 0] (.block 0 (.loop (some (qd false [0,1,4,3,8])) (p5 [p3 8 [.m_ 7,.m_ 6] (.bin .lss)] (.seq (.cond (.m_ 8) .skip (.exit 0)) (.seq ag7 (qF [qW 15 7 1,p4 7 15]))))))
theorem aer:qu Go.Proofs.Tryz.prog UU 87=some (Ys,16,[]):=by qb
noncomputable def XJ:gB :=
 p5 [p3 2 [.jm 0] .box,p3 4 [.cv (.av [] 0 .full)] (.nil 1)] (.seq (p5 [p4 6 1] (.block 0 (.AM (.m_ 6) [7] (rD Go.Proofs.Tryz.prog 102 0) (rE Go.Proofs.Tryz.prog 102 0)))) (p5 [p3 12 [.Bs 2] .take,p4 4 12] .ret))
theorem ad_:qu Go.Proofs.Tryz.prog JQ 102=some (XJ,13,[.tmp 4]):=by qb
end Go.Proofs.YtkoioidpbbbaiaaGreat.Ab


namespace Go.Proofs.YtkoioidpbbbaiaaGreat.Ab
open Go
set_option maxRecDepth 20000
set_option maxHeartbeats 4000000
noncomputable def Yt:gB :=
 .ou false [p3 5 [.jm 7] .mR]
theorem aes:eu Tryz.prog JQ (rD Tryz.prog 102 0) 0=some Yt:=by qb
noncomputable def Yx:gB :=
 .block 1 (.ou false [p3 8 [.m_ 2] .take,p3 9 [.jm 5] .mR,p3 10 [.Bs 9] (.yB 1 1 [.int .i64 0] [0]),p3 11 [.jm 8,.jm 10] (.app 1 8),⟨none,[.jm 2,.jm 11],none,none,.Bk⟩])
theorem aew:eu Tryz.prog JQ (rE Tryz.prog 102 0) 0=some Yx:=by qb
def JE (l:List Int):I:=match l with | []=>.av [] 0 .full | _=>.raw (l.map hX) l.length 1
def OK (l:List Int):I:=match l with | []=>.av [] 0 .full | _=>.av (l.map hX) l.length (.uniq 1)
theorem abJ {l:List Int} {e:Int} {yh fx Gi Gj r3 I' HP u8 HQ HM HN HO:I} (ao:l.length≤1000) (Y:List ar) :
  ∃ qT,Sem Tryz.prog (.yield [ar.cells [JE l]].length) [hX e] (([ar.cells [JE l]]++[ar.loop .ready none 102 [yh,fx,.ptr 0 0,Gi,Gj,r3,I',HP,u8,HQ,HM,HN,HO] [7] (rD Tryz.prog 102 0) (rE Tryz.prog 102 0) JQ])++Y) 0 (.bool true) (([ar.cells [JE (l++[e])]]++[ar.loop .ready none 102 [yh,fx,.ptr 0 0,Gi,Gj,r3,I',HP,u8,HQ,HM,HN,HO] [7] (rD Tryz.prog 102 0) (rE Tryz.prog 102 0) JQ])++qT):=by
 refine ⟨Y,PB eD aes aew (IK _ _ _) rfl (IP (by simp)) ?_⟩;unfold Yt;conv=>whnf
 refine ⟨rfl,IK _ _ _,?_⟩;rw [JH];unfold Yx;cases l with
 | nil =>
   (conv=>whnf);refine ⟨rfl,by omega,?_⟩;(conv=>whnf);refine ⟨by decide,by decide,rfl,?_⟩;(conv=>whnf);refine ⟨rfl,by decide,Gn (by decide) ?_⟩;(conv=>whnf);show _∧(([ar.cells [JE ([]++[e])]]++[ar.loop .busy none 102 [yh,fx,.ptr 0 0,Gi,Gj,r3,I',HP,u8,HQ,HM,HN,HO] [7] (rD Tryz.prog 102 0) (rE Tryz.prog 102 0) JQ])++Y)[[ar.cells [JE ([]++[e])]].length]?=_∧lF ((([ar.cells [JE ([]++[e])]]++[ar.loop .busy none 102 [yh,fx,.ptr 0 0,Gi,Gj,r3,I',HP,u8,HQ,HM,HN,HO] [7] (rD Tryz.prog 102 0) (rE Tryz.prog 102 0) JQ])++Y).set [ar.cells [JE ([]++[e])]].length _) _;exact ⟨rfl,IK _ _ _,by rw [JH];exact lF.refl _⟩
 | cons a l =>
   (conv=>whnf);refine ⟨rfl,by omega,?_⟩;(conv=>whnf);refine ⟨rfl,by simp only [sO] at ao ⊢;omega,?_⟩;(conv=>whnf);refine ⟨?_,Nat.succ_ne_zero _,Gn (by simp) ?_⟩
   ·show ((a::l).map hX++[hX e]).all gY=true;rw [←List.map_singleton (f:=hX),←sR];exact ss.2 fun x aj=>by obtain ⟨y,_,rfl⟩:=sH.1 aj;rfl
   (conv=>whnf);have e1:I.raw ((a::l).map hX++[hX e]) ((a::l).length+1) 1=JE ((a::l)++[e]):=by
    show _=I.raw (((a::l)++[e]).map hX) ((a::l)++[e]).length 1;rw [sR,sD];rfl
   show _∧(([ar.cells [I.raw ((a::l).map hX++[hX e]) ((a::l).length+1) 1]]++[ar.loop .busy none 102 [yh,fx,.ptr 0 0,Gi,Gj,r3,I',HP,u8,HQ,HM,HN,HO] [7] (rD Tryz.prog 102 0) (rE Tryz.prog 102 0) JQ])++Y)[[ar.cells [I.raw ((a::l).map hX++[hX e]) ((a::l).length+1) 1]].length]?=_∧lF ((([ar.cells [I.raw ((a::l).map hX++[hX e]) ((a::l).length+1) 1]]++[ar.loop .busy none 102 [yh,fx,.ptr 0 0,Gi,Gj,r3,I',HP,u8,HQ,HM,HN,HO] [7] (rD Tryz.prog 102 0) (rE Tryz.prog 102 0) JQ])++Y).set [ar.cells [I.raw ((a::l).map hX++[hX e]) ((a::l).length+1) 1]].length _) _;rw [e1];exact ⟨rfl,IK _ _ _,by rw [JH];exact lF.refl _⟩
theorem Ma (l:List Int):cn 8 (OK l)=true:=by
 cases l with
 | nil=>rfl
 | cons a l=>exact rM (fun _=>rfl) _ _ _
theorem acq {k:FuncId} {cap:List I} {l:List Int} (IE:Seq Tryz.prog k cap (l.map hX)) (ao:l.length≤1000):qw 102 [.av [] 0 .full,.func k [] cap] (OK l):=by
 refine OS eD ad_ rfl (Ma l) fun Q bo=>?_;unfold XJ;obtain ⟨a7,cc⟩:∃ c,gB.AM (.m_ 6) [7] (rD Tryz.prog 102 0) (rE Tryz.prog 102 0)=c:=⟨_,rfl⟩;rw [cc];conv=>whnf
 subst cc;refine ahj (f:=hX) IE (fun i=>[ar.cells [JE (l.take i)]]) (by exact rfl) (by exact rfl) (fun _=>rfl) ?_ (rl:=none) (by exact rfl) (Hn:=[ar.cells [JE l]]) (by show [ar.cells [JE (l.take l.length)]]=_;rw [List.take_length]) ?_
 ·intro i hi Y;rw [show l.take (i+1)=l.take i++[l[i]] by rw [List.take_add_one,sm hi];rfl];exact abJ (l:=l.take i) (e:=l[i]) (by rw [s9];omega) Y
 ·intro qT;cases l with
  | nil =>
    (conv=>whnf);exact bo _ _ _ (Ke (.inr rfl) (Ma _) rfl)
  | cons a l =>
    (conv=>whnf);exact bo _ _ _ (Ke (.inr rfl) (Ma _) rfl)
theorem Ve {k:FuncId} {cap:List I} {l:List Int} (pv:cap.all (cn 7)=true) (IE:Seq Tryz.prog k cap (l.map hX)) (ao:l.length≤1000):qw 85 [.func k [] cap] (OK l):=by
 refine OS eD aeq rfl (Ma l) fun Q bo=>?_;unfold Yr;conv=>whnf
 refine ⟨_,_,Ng (p7 rfl (p7 (I8 rfl pv) rfl)) (acq IE ao) _ _,?_⟩;cases l with
 | nil =>
   (conv=>whnf);exact bo _ _ _ (Ke (.inr rfl) (Ma _) rfl)
 | cons a l =>
   (conv=>whnf);exact bo _ _ _ (Ke (.inr rfl) (Ma _) rfl)
end Go.Proofs.YtkoioidpbbbaiaaGreat.Ab


namespace Go.Proofs.YtkoioidpbbbaiaaGreat.Ab
open Go
def Q6:hB→hB→Bool
 | .shared,.shared=>true
 | .full,.full=>true
 | .own a,.own b=>Nat.beq a b
 | .uniq a,.uniq b=>Nat.beq a b
 | _,_=>false
theorem ab_:∀ {a b:hB},Q6 a b=true→a=b:=by
 intro a b h;cases a <;> cases b <;> simp only [Q6,ub] at h <;> first | rfl | (rw [sQ h])
def I6 (f:I→I→Bool):List I→List I→Bool
 | [],[]=>true
 | a::l,b::r=>match f a b with
   | true=>I6 f l r
   | false=>false
 | _,_=>false
theorem J_ {f:I→I→Bool} (aP:∀ a b,f a b=true→a=b):∀ {a b:List I},I6 f a b=true→a=b
 | [],[],_=>rfl
 | [],_::_,h=>by simp [I6] at h
 | _::_,[],h=>by simp [I6] at h
 | a::l,b::r,h=>by
   simp only [I6] at h;split at h
   ·rename_i jI;rw [aP a b jI,J_ aP h]
   ·cases h
def Jd:Nat→I→I→Bool
 | 0,_,_=>false
 | d+1,a,b=>match a,b with
   | .bool x,.bool y=>match x,y with | true,true=>true | false,false=>true | _,_=>false
   | .int k x,.int q y=>match decide (k=q),decide (x=y) with | true,true=>true | _,_=>false
   | .eF,.eF=>true
   | .bR x,.bR y=>I6 (Jd d) x y
   | .av x n c,.av y m e=>match I6 (Jd d) x y,Nat.beq n m,Q6 c e with | true,true,true=>true | _,_,_=>false
   | .func f x y,.func g z w=>match Nat.beq f g,I6 (Jd d) x z,I6 (Jd d) y w with | true,true,true=>true | _,_,_=>false
   | .agg x,.agg y=>I6 (Jd d) x y
   | .tuple x,.tuple y=>I6 (Jd d) x y
   | _,_=>false
theorem OG:∀ (d:Nat) (a b:I),Jd d a b=true→a=b
 | 0,_,_,h=>by simp [Jd] at h
 | d+1,a,b,h=>by
   have a8:=OG d;unfold Jd at h;split at h
   ·split at h <;> first | rfl | cases h
   ·rename_i k x q y;split at h
    ·rename_i ab ae;rw [of_decide_eq_true ab,of_decide_eq_true ae]
    ·cases h
   ·rfl
   ·rw [J_ a8 h]
   ·split at h
    ·rename_i ab ae aF;rw [J_ a8 ab,sQ ae,ab_ aF]
    ·cases h
   ·split at h
    ·rename_i ab ae aF;rw [sQ ab,J_ a8 ae,J_ a8 aF]
    ·cases h
   ·rw [J_ a8 h]
   ·rw [J_ a8 h]
   ·cases h
inductive K4 where
 | pure (k:Nat) (args:List I) (v:I)
 | map (k:Nat) (args:List I) (es:List (Nat×I×I)) (clock:Nat)
def Q_ (P:Program):K4→Prop
 | .pure k args v=>nj P k args v
 | .map k args es clock=>∀ H,Sem P (.fn k) args H H.length (.map H.length) (H++[.map es clock])
def look (k:Nat) (args:List I) (H:List ar) (lo:Nat):List K4→Option (I×List ar)
 | []=>none
 | .pure q bs v::r=>match Nat.beq k q with
   | true=>match I6 (Jd 20) args bs with
     | true=>match H with
       | []=>some (v,[])
       | _=>look k args H lo r
     | false=>look k args H lo r
   | false=>look k args H lo r
 | .map q bs es clock::r=>match Nat.beq k q with
   | true=>match I6 (Jd 20) args bs with
     | true=>match Nat.beq lo H.length with
       | true=>some (.map H.length,H++[.map es clock])
       | false=>look k args H lo r
     | false=>look k args H lo r
   | false=>look k args H lo r
def PF (l:List K4):b6:=fun bX args H lo=>match bX with
 | .fn k=>look k args H lo l
 | _=>none
theorem Sem.aeA {P:Program} {bX:e'} {args:List I} {r:I} {H':List ar} (h:Sem P bX args [] 0 r H') (lo:Nat):Sem P bX args [] lo r H' :=
 ⟨⟨h.1.1,fun _ _ h=>by simp at h⟩,h.2⟩
theorem look_ok {P:Program} {k:Nat} {args:List I} {H:List ar} {lo:Nat} {r:I} {H':List ar}:∀ {l:List K4},(∀ e∈l,Q_ P e)→look k args H lo l=some (r,H')→Sem P (.fn k) args H lo r H'
 | [],_,h=>by simp [look] at h
 | .pure q bs v::l,ao,h=>by
   have Lj:=look_ok (k:=k) (args:=args) (H:=H) (lo:=lo) (r:=r) (H':=H') fun e he=>ao e (ue _ he);unfold look at h;split at h
   ·rename_i ab;split at h
    ·rename_i ae;split at h
     ·cases h;have:=ao (.pure q bs r) tV;rw [sQ ab,J_ (OG 20) ae];exact this.1.aeA lo
     ·exact Lj h
    ·exact Lj h
   ·exact Lj h
 | .map q bs es clock::l,ao,h=>by
   have Lj:=look_ok (k:=k) (args:=args) (H:=H) (lo:=lo) (r:=r) (H':=H') fun e he=>ao e (ue _ he);unfold look at h;split at h
   ·rename_i ab;split at h
    ·rename_i ae;split at h
     ·rename_i aF;cases h;have:=ao (.map q bs es clock) tV;rw [sQ ab,J_ (OG 20) ae,sQ aF];exact this H
     ·exact Lj h
    ·exact Lj h
   ·exact Lj h
theorem Y8 {P:Program} {l:List K4} (ao:∀ e∈l,Q_ P e):c3 P (PF l):=o6 fun bX args H lo r H' h=>by
 cases bX with
 | fn k=>exact look_ok ao h
 | yield i=>simp [PF] at h
def KG (A:FuncId→dt):Nat→List Func→Bool
 | _,[]=>true
 | k,f::r=>match (A k).bad with
   | true=>KG A (k+1) r
   | false=>match f.body with
     | some c => match codeOk (A k) c, f.name == "runtime.NumGoroutine" with
       | true,false=>KG A (k+1) r
       | _,_=>false
     | none=>KG A (k+1) r
theorem W8 {A : FuncId → dt} : ∀ {l : List Func} {k : Nat}, KG A k l = true → ∀ (i : Nat) (f : Func) (c : Code), (A (k + i)).bad = false → l[i]? = some f → f.body = some c → codeOk (A (k + i)) c = true ∧ f.name ≠ "runtime.NumGoroutine"
 | [],_,_,i,f,c,_,h,_=>by simp at h
 | g::r,k,h,i,f,c,nD,aP,ak=>by
   unfold KG at h;cases i with
   | zero =>
     simp at aP;subst aP;rw [Nat.add_zero] at nD;rw [nD,ak] at h;simp only at h;split at h
     ·rename_i ab ae;exact ⟨ab,by simpa using ae⟩
     ·cases h
   | succ i =>
     have ai:KG A (k+1) r=true:=by
      split at h
      ·exact h
      ·split at h
       ·split at h
        ·exact h
        ·cases h
       ·exact h
     have:=W8 ai i f c (by rw [show k+1+i=k+(i+1) by omega];exact nD) (by simpa using aP) ak;rw [show k+(i+1)=k+1+i by omega];exact this
theorem W7 {P : Program} {A : FuncId → dt} (h : KG A 0 P.funcs.toList = true) (k : Nat) (f : Func) (c : Code) (af : (A k).bad = false) (aP : P.funcs[k]? = some f) (ak : f.body = some c) : codeOk (A k) c = true ∧ f.name ≠ "runtime.NumGoroutine" := by
 have:=W8 h k f c (by rw [sG];exact af) (by simpa using aP) ak
 rwa [sG] at this
theorem UX:KG jA 0 Go.Proofs.Tryz.prog.funcs.toList=true:=by qb
noncomputable def S2 (l:List K4) (k:Nat) (args:List I):Option I:=match fZ Go.Proofs.Tryz.prog jA (PF l) 300 (.fn k) args [] 0 with
 | some (r,H2)=>match bL H2 0 H2.length 0 8 r with
   | some v=>match cn 8 v.settle with
     | true=>some v.settle
     | false=>none
   | none=>none
 | none=>none
theorem ahm {l:List K4} (ao:∀ e∈l,Q_ Go.Proofs.Tryz.prog e) {k:Nat} {args:List I} {v:I} (h:S2 l k args=some v):nj Go.Proofs.Tryz.prog k args v:=by
 unfold S2 at h;split at h
 ·rename_i r H2 ak;split at h
  ·rename_i u aP;split at h
   ·rename_i aB;cases h;have ah:=(Cb eD jA (Y8 ao) (W7 UX) 300).Ha ak;refine ⟨⟨a'.refl _ _,ah.2.1,fun B aa J S w xs ag aI ad=>CallsIn.mono (ah.2.2 B aa J S w xs ag aI ad) fun e w' he=>?_⟩,aB⟩;cases e with
    | returned x =>
      have kN:=xG ag (fun id aE=>by simp at aE) aP he;show aZ B aa J S w [] u.settle x w';cases u with
      | av cells len ej =>
        cases ej with
        | uniq z=>exact kN.settle
        | _=>exact kN
      | _=>exact kN
    | panicked c=>exact he.elim
    | outgrown=>exact he.elim
   ·cases h
  ·cases h
 ·cases h
end Go.Proofs.YtkoioidpbbbaiaaGreat.Ab


namespace Go.Proofs.YtkoioidpbbbaiaaGreat.Ab
open Go
noncomputable def ag5:gB :=
 .ou false [p4 5 0,p6 6 2,p4 7 2,p3 8 [.Bs 7] (.conv .u64),p3 9 [.cv (.func 79 [] []),.m_ 8] (.call 3),p3 10 [.cv (.func 103 [] []),.jm 5,.cv (.int .i64 0),.jm 6,.jm 9] (.call 1)]
noncomputable def SW:gB :=
 p5 [p6 3 0,q2 4 3,p4 2 4] ag5
theorem WO:qu Go.Proofs.Tryz.prog UT 86=some (SW,11,[]):=by qb
noncomputable def NR:gB :=
 p5 [p4 24 0,p4 25 1,p4 26 2,p3 27 [.cv (.func 110 [] []),.jm 24,.jm 25,.jm 26] (.call 1)] .ret
noncomputable def agh:gB :=
 p5 [p4 30 0,p4 31 1,p4 32 2,p3 33 [.cv (.func 111 [] []),.jm 30,.jm 31,.jm 32] (.call 1)] .ret
noncomputable def agi:gB :=
 p5 [p6 36 0,p6 37 1,p6 38 2,p3 39 [.cv (.func 112 [] []),.jm 36,.jm 37,.jm 38] (.call 1)] (qF [p4 40 3,qv 41 40 1 .sub,p4 3 41])
noncomputable def agj:gB :=
 p5 [p6 55 2,qv 56 55 1 .sub,p4 57 11,p6 58 1,qq 59 57 58 .sub,qq 60 56 59 .sub,p4 11 60] (qF [qh 12 1])
noncomputable def agk:gB :=
 p5 [p6 51 0,p6 52 1,p6 53 2,p3 54 [.cv (.func 114 [] []),.jm 51,.jm 52,.jm 53] (.call 1)] agj
noncomputable def agl:gB :=
 p5 [p6 69 0,p6 70 1,p6 71 2,p3 72 [.cv (.func 115 [] []),.jm 69,.jm 70,.jm 71] (.call 1)] (.cond (.m_ 72) .ret .skip)
noncomputable def agm:gB :=
 p5 [p6 88 0,p4 89 1,p6 90 2,p4 91 11,p3 92 [.cv (.func 117 [] []),.jm 88,.jm 89,.jm 90,.jm 91] (.call 1),p4 13 92] (p5 [p4 93 13,p4 1 93] (.exit 1))
noncomputable def agn:gB :=
 p5 [p6 117 0,p4 118 1,p6 119 14,p6 120 3,p3 121 [.cv (.func 103 [] []),.jm 117,.jm 118,.jm 119,.jm 120] (.call 1)] (qF [p4 122 14,qW 123 122 1,p4 1 123])
noncomputable def ago:gB :=
 p5 [p4 114 16,p4 115 18,qq 116 114 115 .geq,p4 8 116] agn
noncomputable def af9:gB :=
 p5 [p6 127 0,p6 128 14,qW 129 128 1,p4 130 2,p6 131 3,p3 132 [.cv (.func 103 [] []),.jm 127,.jm 129,.jm 130,.jm 131] (.call 1)] (qF [p4 133 14,p4 2 133])
noncomputable def af_:gB :=
 p5 [p4 124 17,p4 125 18,qq 126 124 125 .geq,p4 8 126] af9
noncomputable def aga:gB :=
 p5 [p4 109 10,qv 110 109 8 .quo,p4 18 110] (p5 [p6 111 16,p6 112 17,qq 113 111 112 .lss] (.cond (.m_ 113) ago af_))
noncomputable def agb:gB :=
 p5 [p6 103 14,p6 104 1,qq 105 103 104 .sub,p6 106 2,p6 107 14,qq 108 106 107 .sub,p4 16 105,p4 17 108] aga
noncomputable def agc:gB :=
 p5 [p6 95 0,p6 96 1,p6 97 2,p4 98 11,p3 99 [.cv (.func 118 [] []),.jm 95,.jm 96,.jm 97,.jm 98] (.call 1),p4 94 99,qR 100 94 0,p3 101 [.Bs 94] (.ext 1),p4 14 100,p4 15 101] (p5 [p4 102 15,p4 9 102] agb)
noncomputable def agd:gB :=
 .seq (.seq (ri [p6 73 1,qv 74 73 0 .gtr,p4 75 74,ch 76 [.m_ 0] 75 true .mR,ch 77 [.m_ 1] 75 true .mR,ch 78 [.Bs 77,.cv (.int .i64 1)] 75 true (.bin .sub),ch 79 [.Bs 76,.Bs 78] 75 true (.kV 1),ch 80 [.Bs 79] 75 true (.zE .one),ch 81 [.m_ 0] 75 true .mR,ch 82 [.m_ 11] 75 true .mR,ch 83 [.Bs 81,.Bs 82] 75 true (.kV 1),ch 84 [.Bs 83] 75 true (.zE .one),⟨some 85,[.cv (.func 116 [] []),.m_ 80,.m_ 84],some (75,true),none,.call 3⟩,ch 86 [.Bs 85] 75 true (.un .not),p3 87 [.m_ 75,.Bs 86,.cv (.bool false)] .pick]) (.cond (.m_ 87) agm .skip)) agc
noncomputable def age:gB :=
 .seq (p5 [p6 61 8,p4 62 61,ch 63 [.m_ 9] 62 true .mR,p3 64 [.Bs 62,.Bs 63,.cv (.bool false)] .pick,p4 65 64,ch 66 [.jm 12] 65 true .mR,ch 67 [.Bs 66,.cv (.int .i64 1)] 65 true (.bin .eql),p3 68 [.Bs 65,.Bs 67,.cv (.bool false)] .pick] (.cond (.m_ 68) agl .skip)) agd
noncomputable def agf:gB :=
 p5 [p6 43 0,p6 44 1,p6 45 2,p3 46 [.cv (.func 113 [] []),.jm 43,.jm 44,.jm 45] (.call 1),p4 42 46,qR 47 42 0,p3 48 [.Bs 42] (.ext 1),p4 11 47,p4 12 48] (.seq (p5 [p6 49 12,qv 50 49 2 .eql] (.cond (.m_ 50) agk .skip)) age)
noncomputable def Sj:gB :=
 .seq (p5 [p6 28 3,qv 29 28 0 .eql] (.cond (.m_ 29) agh .skip)) (.seq (p5 [p6 34 8,p3 35 [.Bs 34] (.un .not)] (.cond (.m_ 35) agi .skip)) agf)
noncomputable def NS:gB :=
 .block 1 (p5 [p6 19 2,p6 20 1,qq 21 19 20 .sub,p4 10 21] (.seq (p5 [p6 22 10,qv 23 22 12 .leq] (.cond (.m_ 23) NR .skip)) Sj))
noncomputable def Si:gB :=
 p5 [p3 8 [.cv (.bool true)] .mR] (p5 [p3 9 [.cv (.bool true)] .mR] (.block 0 (.loop (some (qd false [0,4,4,2,124])) NS)))
theorem WI:qu Go.Proofs.Tryz.prog T_ 103=some (Si,134,[]):=by qb
noncomputable def agp:gB :=
 .block 3 (ri [p6 33 0,p6 34 7,p6 35 0,p6 36 7,qv 37 36 1 .sub,p6 38 0,p6 39 7,qv 40 39 1 .sub,rn 41 38 40 1,qm 42 41,p6 43 0,p6 44 7,rn 45 43 44 1,qm 46 45,rn 47 33 34 1,⟨none,[.jm 47,.jm 42],none,none,.st 1⟩,rn 48 35 37 1,⟨none,[.jm 48,.jm 46],none,none,.st 1⟩])
noncomputable def agq:gB :=
 .seq (.seq (ri [p6 16 7,p6 17 1,qq 18 16 17 .gtr,p4 19 18,ch 20 [.m_ 0] 19 true .mR,ch 21 [.m_ 7] 19 true .mR,ch 22 [.Bs 20,.Bs 21] 19 true (.kV 1),ch 23 [.Bs 22] 19 true (.zE .one),ch 24 [.m_ 0] 19 true .mR,ch 25 [.m_ 7] 19 true .mR,ch 26 [.Bs 25,.cv (.int .i64 1)] 19 true (.bin .sub),ch 27 [.Bs 24,.Bs 26] 19 true (.kV 1),ch 28 [.Bs 27] 19 true (.zE .one),⟨some 29,[.cv (.func 116 [] []),.m_ 23,.m_ 28],some (19,true),none,.call 3⟩,p3 30 [.m_ 19,.Bs 29,.cv (.bool false)] .pick]) (.cond (.m_ 30) .skip (.exit 2))) (.seq agp (qF [p4 31 7,qv 32 31 1 .sub,p4 7 32]))
noncomputable def agr:gB :=
 .block 1 (p5 [p6 15 6,p4 7 15] (.block 2 (.loop (some (qd false [0,3,3,2,41])) agq)))
noncomputable def ags:gB :=
 .seq (p5 [p6 10 6,p6 11 2,qq 12 10 11 .lss] (.cond (.m_ 12) .skip (.exit 0))) (.seq agr (qF [p4 13 6,qW 14 13 1,p4 6 14]))
noncomputable def Sk:gB :=
 p5 [p6 8 1,qW 9 8 1,p4 6 9] (.block 0 (.loop (some (qd false [0,3,3,1,42])) ags))
theorem WJ:qu Go.Proofs.Tryz.prog Ua 110=some (Sk,49,[]):=by qb
noncomputable def agt:gB :=
 p5 [p6 5 0,p3 6 [.cv (.func 123 [] []),.m_ 5] (.call 3),p4 7 6,ch 8 [.m_ 1] 7 true .mR,⟨some 9,[.cv (.func 123 [] []),.m_ 8],some (7,true),none,.call 3⟩,ch 10 [.Bs 9] 7 true (.un .not),p3 11 [.Bs 7,.Bs 10,.cv (.bool false)] .pick,p4 12 11,ch 13 [.jm 0] 12 false .mR,ch 14 [.jm 1] 12 false .mR,ch 15 [.Bs 13,.Bs 14] 12 false (.bin .lss),p3 16 [.Bs 12,.cv (.bool true),.Bs 15] .pick,p4 4 16] .ret
noncomputable def XK:gB :=
 p5 [p3 4 [.cv (.bool false)] .mR] agt
theorem aea:qu Go.Proofs.Tryz.prog Ub 116=some (XK,17,[.tmp 4]):=by qb
noncomputable def agu:gB :=
 p5 [p6 3 0,p4 4 0,qq 5 3 4 .neq,p4 2 5] .ret
noncomputable def XL:gB :=
 p5 [p3 2 [.cv (.bool false)] .mR] agu
theorem aeb:qu Go.Proofs.Tryz.prog Ud 123=some (XL,6,[.tmp 2]):=by qb
end Go.Proofs.YtkoioidpbbbaiaaGreat.Ab


namespace Go.Proofs.YtkoioidpbbbaiaaGreat.Ab
open Go
set_option maxRecDepth 20000
set_option maxHeartbeats 4000000
theorem adU (x:Int):qw 123 [hX x] (B false):=by
 refine Rg eD aeb rfl rfl ?_;unfold XL;conv=>whnf
 exact Ke (.inr rfl) rfl (by rw [decide_eq_false (show ¬ (x≠x) from fun h=>h rfl)];rfl)
theorem ad7 (x y:Int):qw 116 [hX x,hX y] (B (decide (x<y))):=by
 refine Rg eD aea rfl rfl ?_;unfold XK;conv=>whnf
 refine ⟨by first | rfl | simp only [tH,uj,Mr,Mz,Ms,Mu,Mt,Mv,MB,MA,Kb,Mw,Mx,My,tx,uh],_,adU x,?_⟩
 conv=>whnf
 exact Ke (.inr rfl) rfl rfl
def IJ (d:Array Int):ar:=.cells (d.toList.map hX)
def Ks (id n:Nat):I:=.ref id 0 n none 1
theorem aca (d:Array Int) (x:Nat) (h:x<d.size):(d.toList.map hX)[x]?=some (hX d[x]!):=by
 simp [h]
theorem acb (d:Array Int) (x:Nat) (v:Int):(d.toList.map hX).set x (hX v)=(d.setIfInBounds x v).toList.map hX:=by
 simp [List.map_set]
theorem swp_size (d:Array Int) (i j:Nat):(Sort.swp d i j).size=d.size:=by simp [Sort.swp]
theorem Py {d:Array Int} {n:Nat} (x:Nat) (e:n=x) (h:x<d.size) {K:I→Prop} (k:K (hX d[x]!)):eG (d.toList.map hX) n K:=by
 subst e;exact Ew (aca d n h) k
theorem Zt {d:Array Int} {n:Nat} {v:Int} (x:Nat) (e:n=x) (h:x<d.size) {K:List I→Prop} (k:K ((d.setIfInBounds x v).toList.map hX)):jq (d.toList.map hX) n (hX v) K:=by
 subst e;refine Gn (by simpa using h) ?_;rw [acb];exact k
section
variable {H:List ar} {id lo:Nat} (bC:lo≤id)
include bC
theorem adT (d:Array Int) (a b:Nat) (a1:d.size≤1000) (cq:a≤b) (af:b≤d.size) (ag:H[id]?=some (IJ d)) :
  Sem Go.Proofs.Tryz.prog (.fn 110) [Ks id d.size,hX a,hX b] H lo (.tuple []) (H.set id (IJ (Sort.insertionSort Sort.ltInt d a b))):=by
 have aE:=(sd.1 ag).1;refine Vn eD WJ rfl ⟨by simp,fun j ab ae=>by rw [sf (by omega)]⟩ ?_;unfold Sk;conv=>whnf
 have CI:Nat.ble lo id=true:=Nat.ble_eq_true_of_le bC;have gs:∀ c:ar,(H.set id c)[id]?=some c:=fun c=>by rw [List.getElem?_set_self aE]
 have J5:∀ c e:ar,((H.set id c).set id e)[id]?=some e:=fun c e=>by rw [s7,gs]
 rw [PL a (by omega)];refine .intro (fun m T H'=>∃ i g8,a+1≤i∧(i≤b∨i=a+1)∧m=b+1-i∧g8.size=d.size∧Sort.insOuter Sort.ltInt a b i g8=Sort.insertionSort Sort.ltInt d a b∧T=qg 49 [(0,Ks id d.size),(1,hX a),(2,hX b),(6,hX i)]∧H'=H.set id (IJ g8)) (b-a) ⟨a+1,d,by omega,.inr rfl,by omega,rfl,rfl,rfl,?_⟩ ?_
 ·obtain ⟨ab,ae⟩:=sd.1 ag;rw [←ae,List.set_getElem_self]
 rintro m T H' ⟨i,g8,adx,RJ,rfl,CT,he,rfl,rfl⟩;conv=>whnf
 refine HH (fun h=>?_) (fun h=>?_)
 ·conv=>whnf
  refine .intro (fun j T H'=>∃ IY:Array Int,j≤i∧IY.size=d.size∧Sort.insInner Sort.ltInt a j IY=Sort.insInner Sort.ltInt a i g8∧T=qg 49 [(0,Ks id d.size),(1,hX a),(2,hX b),(6,hX i),(7,hX j)]∧H'=H.set id (IJ IY)) i ⟨g8,se _,CT,rfl,rfl,rfl⟩ ?_;rintro j T H' ⟨IY,aw,RG,Lh,rfl,rfl⟩;conv=>whnf
  by_cases aF:(a:Int)<(j:Int)
  ·rw [decide_eq_true aF];obtain ⟨q,rfl⟩:∃ q,j=q+1:=⟨j-1,by omega⟩;(have hw:IntKind.i64.wrap (((q+1:Nat):Int)-1)=(q:Int):=by rw [HR _ (by omega) (by omega)];omega);(conv=>whnf);refine ⟨by omega,?_⟩;(conv=>whnf);refine Ew (by first | exact gs _ | exact J5 _ _ | assumption) ?_
   (conv=>whnf);refine Py (q+1) (by omega) (by omega) ?_;(conv=>whnf);rw [hw];refine ⟨by omega,?_⟩;(conv=>whnf);refine Ew (by first | exact gs _ | exact J5 _ _ | assumption) ?_
   (conv=>whnf);refine Py (q) (by omega) (by omega) ?_;(conv=>whnf);refine ⟨by first | rfl | simp only [tH,uj,Mr,Mz,Ms,Mu,Mt,Mv,MB,MA,Kb,Mw,Mx,My,tx,uh],_,ad7 IY[q+1]! IY[q]!,rC,?_⟩
   (conv=>whnf);by_cases ba:IY[q+1]!<IY[q]!
   ·rw [decide_eq_true ba];(conv=>whnf);rw [hw];refine ⟨by omega,?_⟩;(conv=>whnf);refine Ew (by first | exact gs _ | exact J5 _ _ | assumption) ?_
    (conv=>whnf);refine Py (q) (by omega) (by omega) ?_;(conv=>whnf);refine ⟨by omega,?_⟩;(conv=>whnf);refine Ew (by first | exact gs _ | exact J5 _ _ | assumption) ?_
    (conv=>whnf);refine Py (q+1) (by omega) (by omega) ?_;(conv=>whnf);refine ⟨by omega,?_⟩;(conv=>whnf);rw [CI];(conv=>whnf);refine Ew (by first | exact gs _ | exact J5 _ _ | assumption) ?_
    (conv=>whnf);refine Zt (q+1) (by omega) (by first | omega | (simp only [Array.size_setIfInBounds];omega)) ?_
    (conv=>whnf);refine ⟨by omega,?_⟩;(conv=>whnf);rw [CI];(conv=>whnf);refine Ew (by first | exact gs _ | exact J5 _ _ | assumption) ?_
    (conv=>whnf);refine Zt (q) (by omega) (by first | omega | (simp only [Array.size_setIfInBounds];omega)) ?_
    (conv=>whnf);refine ⟨q,by omega,Sort.swp IY (q+1) q,by omega,by rw [swp_size];exact RG,?_,?_,?_⟩
    ·rw [←Lh,Sort.insInner,if_pos (by simp only [Sort.ltInt,su,decide_eq_true_eq];exact ⟨by omega,ba⟩)]
    ·rw [hw];rfl
    ·simp only [s7];rfl
   ·rw [decide_eq_false ba];(conv=>whnf);have e:Sort.insInner Sort.ltInt a i g8=IY:=by
     rw [←Lh,Sort.insInner,if_neg (by simp only [Sort.ltInt,su,decide_eq_true_eq];exact fun bD=>ba bD.2)]
    exact ⟨b+1-(i+1),by omega,i+1,IY,by omega,by omega,rfl,RG,by rw [←he,Sort.insOuter.eq_1 _ a b i,if_pos (by omega),e],by rw [←PL i (by omega)];rfl,rfl⟩
  ·rw [decide_eq_false aF];(conv=>whnf);have e:Sort.insInner Sort.ltInt a i g8=IY:=by
    rw [←Lh];cases j with
    | zero=>rfl
    | succ q=>rw [Sort.insInner,if_neg (by simp only [su,decide_eq_true_eq];exact fun bD=>by omega)]
   exact ⟨b+1-(i+1),by omega,i+1,IY,by omega,by omega,rfl,RG,by rw [←he,Sort.insOuter.eq_1 _ a b i,if_pos (by omega),e],by rw [←PL i (by omega)];rfl,rfl⟩
 ·conv=>whnf
  have e:Sort.insertionSort Sort.ltInt d a b=g8:=by
   rw [←he];unfold Sort.insOuter;rw [if_neg (by omega)]
  rw [e];exact ⟨.inl rfl,⟨by simp,fun j o aw=>.inr aw⟩,rfl⟩
theorem afU (d:Array Int) (JC:Int) (a1:d.size≤12) (ag:H[id]?=some (IJ d)) :
  Sem Go.Proofs.Tryz.prog (.fn 103) [Ks id d.size,hX 0,hX d.size,hX JC] H lo (.tuple []) (H.set id (IJ (Sort.insertionSort Sort.ltInt d 0 d.size))):=by
 refine rL eD WI rfl ⟨by simp,fun j ab ae=>by rw [sf (by omega)]⟩ fun Q bo=>?_;unfold Si;obtain ⟨Q3,Jv⟩:∃ c,NS=c:=⟨_,rfl⟩;rw [Jv];conv=>whnf
 refine .intro (fun m T H'=>T=qg 134 [(0,Ks id d.size),(1,hX 0),(2,hX d.size),(3,hX JC),(8,B true),(9,B true)]∧H'=H) 0 ⟨rfl,rfl⟩ ?_;rintro m T H' ⟨rfl,rfl⟩;subst Jv;unfold NS;obtain ⟨a7,cc⟩:∃ c,NR=c:=⟨_,rfl⟩;obtain ⟨Q2,La⟩:∃ c,Sj=c:=⟨_,rfl⟩;rw [cc,La];conv=>whnf
 rw [show IntKind.i64.wrap ((d.size:Int)-0)=(d.size:Int) by rw [HR _ (by omega) (by omega)];omega,decide_eq_true (show (d.size:Int)≤12 by omega)];conv=>whnf
 subst cc;unfold NR;conv=>whnf
 refine ⟨_,_,rH (adT bC d 0 d.size (by omega) (sE _) (se _) ag),?_⟩;conv=>whnf
 exact bo _ _ _ ⟨.inr rfl,⟨rfl,fun j o aw=>.inr aw⟩,rfl⟩
end
theorem Zu (n:Int):IntKind.u64.wrap n=n % 18446744073709551616:=by simp [IntKind.wrap,IntKind.bits,IntKind.signed]
theorem ad6:((List.range 13).all fun n=>match S2 [] 79 [.int .u64 (n:Nat)] with | some v=>Jd 3 v (hX (Sort.bitsLen n)) | none=>false)=true:=by qb
theorem OH (n:Nat) (h:n≤12):qw 79 [.int .u64 n] (hX (Sort.bitsLen n)):=by
 have:=ss.1 ad6 n (sJ.2 (by omega));split at this
 ·rename_i v ad;rw [OG _ _ _ this] at ad;exact ahm (l:=[]) (by simp) ad
 ·cases this
theorem ahw {H:List ar} {id lo:Nat} (bC:lo≤id) (d:Array Int) (a1:d.size≤12) (ag:H[id]?=some (IJ d)) :
  Sem Go.Proofs.Tryz.prog (.fn 86) [Ks id d.size] H lo (.tuple []) (H.set id (IJ (Sort.insertionSort Sort.ltInt d 0 d.size))):=by
 refine rL eD WO rfl ⟨by simp,fun j ab ae=>by rw [sf (by omega)]⟩ fun Q bo=>?_;unfold SW;conv=>whnf
 rw [show IntKind.u64.wrap (d.size:Int)=(d.size:Int) by rw [Zu];omega];refine ⟨by first | rfl | simp only [tH,uj,Mr,Mz,Ms,Mu,Mt,Mv,MB,MA,Kb,Mw,Mx,My,tx,uh],_,OH d.size a1,?_⟩
 conv=>whnf
 refine ⟨_,_,rH (afU bC d (Sort.bitsLen d.size) a1 ag),?_⟩;conv=>whnf
 exact bo _ _ _ ⟨.inl rfl,⟨rfl,fun j o aw=>.inr aw⟩,rfl⟩
end Go.Proofs.YtkoioidpbbbaiaaGreat.Ab
