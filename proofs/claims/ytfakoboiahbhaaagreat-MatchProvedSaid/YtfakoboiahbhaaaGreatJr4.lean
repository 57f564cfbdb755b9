
import Derived.Test.YtfakoboiahbhaaaGreatJr1
import Derived.Test.YtfakoboiahbhaaaGreatJr3
import Derived.Test.YtfakoboiahbhaaaGreatProg
import Derived.KernelRfl
import Derived.IntWalk
import Derived.ProofKit
import Derived.Deep.Slices
import Derived.ChangeStays
import Derived.Below
import Derived.WalkKit
import Derived.Sort.AssemblyPlain
set_option linter.unusedSimpArgs false
set_option linter.unusedVariables false
set_option linter.unusedSectionVars false

open Array renaming length_toList→tU,size_setIfInBounds→uM
open Bool renaming and_eq_true→sM,and_self→uW,and_true→uj,false_eq_true→ub
open Classical renaming choose_spec→vS
open List renaming all_cons→tL,all_eq_true→sS,all_nil→ux,append_assoc→sD,append_nil→sU,drop_eq_getElem_cons→tf,drop_zero→tb,ext_getElem?→ud,filter_append→uy,flatMap_append→vh,flatMap_cons→uo,getElem?_append→su,getElem?_append_left→sR,getElem?_append_right→sZ,getElem?_drop→tq,getElem?_eq_getElem→sI,getElem?_eq_none→tQ,getElem?_eq_some_iff→ss,getElem?_map→sN,getElem?_set_ne→sG,getElem?_set_self→sE,getElem?_take→th,getElem_mem→sL,length_append→sA,length_drop→uq,length_map→tj,length_pos_iff→tT,length_take→ta,map_append→ti,map_congr_left→tY,map_cons→sy,map_id→vv,map_map→uD,map_set→u7,map_take→uI,mem_append_left→vz,mem_append_right→vV,mem_cons→sH,mem_cons_of_mem→uw,mem_cons_self→uK,mem_flatMap→vw,mem_iff_getElem?→tV,mem_map→sJ,mem_range→sX,range_succ→vA,set_getElem_self→uX,set_set→td,take_of_length_le→ui,take_succ_cons→vj,take_succ_eq_append_getElem→tH,take_zero→tu
open Nat renaming add_comm→tF,add_mul→tJ,ble_eq_true_of_le→uE,eq_of_beq_eq_true→tw,le_refl→sx,le_trans→sW,lt_or_ge→tg,min_eq_left→tK,mul_one→tS,one_mul→vU,zero_add→tc,zero_le→sK,zero_mul→vH
open Option renaming bind_some→sq,map_eq_some_iff→sr,map_some→sB
namespace Go.Proofs.YtfakoboiahbhaaaGreat.Ab
open Go
abbrev p3:b7:={ cC:=[true] }
abbrev p6:b7:={ cC:=[true,true] }
def p_ (l:List Nat):List b7:=l.map fun n=>match n with
 | 0=>{}
 | 1=>p3
 | _=>p6
def adR:c':={ ops:=[[{ mode:=3 }]] }
def adS:c':={ ops:=[[],[],[],[],[],[{},{ mode:=3 },{},{ mode:=3 },p6,p3,p3,p3,p6,{ cC:=[false,true] },p3,p3,p3,p6,{ cC:=[false,true] },p3,p3,p3,p6,{ cC:=[false,true] },p3,{},{},{ mode:=3 },{},{},{ mode:=3 },p6,{ cC:=[false,true] },p3,{ mode:=3 },{ cC:=[false,true] },p3]] }
def Sd:c':={ ops:=[[p3],[{},{ mode:=3 },p3,p3,{},p3,p3,{ cC:=[true,false,true] }],[{ mode:=3 },p3],[{},{ mode:=3 },p3,{},p3,p3,p3],[{},{ mode:=3 },p3,{},p3,p3,p3],[{},{ mode:=3 },p3,{},p3,p3,p3],[{},{},p3,{ mode:=3 },{ mode:=3 },p3,{},{},p3,p3],[p3,p3,p3,p3,p3,{ cC:=[true,false,true] },p3,p3,p3,{ cC:=[true,false,true] },p3,{},p3,p3,p3,{ cC:=[true,false,true] },p3,p3,p3,{ cC:=[true,false,true] },p3,p3,{},p6,{ cC:=[true,false,true] }],[],[],[],(p_ [0,0,1,2]),(p_ [1,1,1]),[{},{},{},p6,p3,{ mode:=3 },{ mode:=3 },p3,{},{},p3,p3],[p3,p3,p3,{},p3,p3,p3,{ cC:=[true,false,true] }],[],[p3,{},p3,p3,{ cC:=[false,true] },p6,p3,p3,p3,p6,p3,p3],[p3,p3,p6,p3,p3,p3,p3,p6,p6,p3,{ mode:=3 },p6,p3]],ig:=[(0,(ED false [2,1,2,1,1,1,1,1,3,3,105]))] }
def N8:c':={ ops:=[[p3],[{},{ mode:=3 },p3],[{ mode:=3 },p3],[{},{ mode:=3 },p3,{},p3,p3,p3],[{},{ mode:=3 },p3,{},p3,p3,p3],[{},{ mode:=3 },p3,{},p3,p3,p3],[{},{ mode:=3 },p3,{},p3,p3,p3],[p3,p3,p3,p3,p3,{ cC:=[true,false,true] },p3,{},p3,{},p3,p3,p6,{ cC:=[true,false,true] },p3,{},p3,{},p3,p3,p6,{ cC:=[true,false,true] }],[],(p_ [0,1,1,1]),[p3,p3,p3,p3,p3,p6,p3,p3,p3,p3,p6,p3,{ mode:=3 },p6,p3],(p_ [0,1,1,1,0,1,1,2,1,1,1,1,0,1,1,2,1,1]),[{},p3,{},p6,p3,{},p3,{},p6,{ cC:=[true,false,true] },p3,{},p3,p3,p3,p3,p6,{ cC:=[true,false,true] },p3,{},p3,p3,p3,p3,p6,{ cC:=[true,false,true] }],[],[{},p3,{},{},{ mode:=3 },p3,p3,{},p3,{ mode:=3 },p3,{ cC:=[true,false,true] },p6],[],[p3,p3],[{ mode:=3 },p3],[{},{},{ mode:=3 },p3,{},{},p3,p3,p3,p3],[p3,p3,p3,{ mode:=3 },{ mode:=3 },p3,{},{},p3,p3],[p3,p3,p3,p3,p3,{ cC:=[true,false,true] }],[],[p3],[p3,p3,p6,p3,{ mode:=3 },p6,p3],[{},{},p6,{},p3,p3,p6,p3,p3,p3,p6,p3,p3,p3,p6,p6,p3,{ mode:=3 },p6,p3]] }
def aec:c':={ ops:=[[],[],[],[],[],[],[],[],[],[],[],[{},p3,{},{},p3,p6,p6,{},{ cC:=[false,true] }],[],[],[],[],[{},{},{},p6,p3,{ mode:=3 },p3,{},{},{},p3,p3,p3],[{},{},{},p3,{},p3,p6,p6,p3,{ mode:=3 },p3,{},{},{},p3,p3,p3],[],[],(p_ [1,0,0,2,1,2,0,1,1,1,1,2,1])] }
def R6:c':={ ops:=[[p3],[{},{ mode:=3 },p3,p3,{},p3,p3,p3,{ cC:=[true,false,true] }],[{ mode:=3 },p3],[p3,p3,{},p3,p6,p3,p3,{},p3,p6,p6,{},{ cC:=[false,true] }],[{},p3,{},{},p3,p6,{},p3,p6,p6,{},{ cC:=[false,true] }],[{},{ mode:=3 },p3,{},p3,p3,p3],[{},{ mode:=3 },p3,{},p3,p3,p3],[{},{ mode:=3 },p3,{},p3,p3,p3],[p3,{ mode:=3 },p3,{},p3,p3,p3],[p3,p3,p3,p3,p3,{ cC:=[true,false,true] },p3,{},{},p3,p6,{ cC:=[true,false,true] },p3,p3,p3,p3,p6,{ cC:=[true,false,true] },p3,p3,p3,{ cC:=[true,false,true] },p3,p3,p3,{ cC:=[true,false,true] },p3,{},p3,{},p3,p3,p6,{ cC:=[true,false,true] },p3,{},p3,{},p3,p3,p6,{ cC:=[true,false,true] }],[],[],(p_ [0,0,1,2]),(p_ [1,1,1]),(p_ [0,0,1,2,0,0,1,2,2,1]),[{},{},{ mode:=3 },{},{},{ mode:=3 },p6,p3,p6],[],[{ mode:=3 },p3]],ig:=[(0,(ED false [3,1,3,1,5,1,1,1,1,1,119]))] }
def adr:c':={ ops:=[[],[],[],[],[],[],[],[],[],[],[],[],[],[],[],[],[],[],[],[],[],[],[],[],[{},p3,{ mode:=3 },{ mode:=3 },p3,{},{},{},p3,p3,p3]] }
def adv:c':={ two:=[(12,8)],ops:=[[{ cC:=[true],mode:=1 }],[{},{ mode:=3 },p3,p3,{},p3,p3,p3,{ cC:=[true,false,true] }],[{ mode:=3 },p3],[{},{ mode:=3 },p3,{},p3,p3,p3],[{},{ mode:=3 },p3,{},p3,p3,p3],(p_ [1,1,0,1,1,2,1]),[],[],(p_ [0,0,1,1,2]),(p_ [1,1,1]),(p_ [0,0,2]),(p_ [1,0,1,2,1]),[{},p3,{ mode:=3 },{},{ cC:=[true],mode:=3 },{},p6,{ cC:=[true],mode:=3 },{},{},{ cC:=[false,true] },{ cC:=[false,true] }],[{},{},p3,{},p3,{ mode:=3 },p3,{},p3,p3,p3],[p3,{ mode:=3 },p3,{},p3,p3,p3],[{},{ mode:=3 },p3,{},p3,p3,p3],[p3,p3,p3,p3,p3,p3,{},p3,p3,p6,{ cC:=[true,false,true] },p3,p3,p3,{ cC:=[true,false,true] },p3,p3,p3,{ cC:=[true,false,true] }],[],(p_ [0,1,0,1,2]),[p3,p3,p3,p3,p3,{ mode:=3 },p3,p6,p3,{ mode:=3 },p6,p3],[p3,p3,{ mode:=3 },{},p3,p6,p3,{},p3,p3,{},p3,p6,{ cC:=[true,false,true] }],[],[p3,p3],[p3,p3,{ mode:=3 },p3,{},{},p3,p3,p3,p3],[p3,p3,p3,p3,p3,p3,p3,p6,p6,p3,{ mode:=3 },p6,p3],[p3,{ mode:=3 },p3],[p3,p3,p3,p3,p6,p3,{},{},p3,p6,p3,p3,{ cC:=[true,false,true] },p3,p3,p3,p3,p6,p3,p3,{ cC:=[true,false,true] },p3,{ mode:=3 },p6,p3]],ig:=[(0,(ED false [2,1,2,2,1,4,175]))] }
def adC:c':={ ops:=[[],[],[],(p_ [1,1,0,1,2,1,1,0,1,2,1,1]),[],[],[],[],[],[{},p3,p6,p3,{},p3,p3,p3,p6,{ cC:=[false,false,true] },p3,{},p3,{},p3,p6,{ cC:=[false,false,true] },p3,{},p3,{},{},p6,p3,{},{},p6,p3,p6,p6,{ cC:=[false,false,true] }],[],[],[],[],[],[],[],[],[],[],[],[{},{},{},p6,p3,{ mode:=3 },p3]] }
def adG:c':={ ops:=[[],[],[],[{},p3,{},p3,p6,{},{},p3,p6,p6,{},{ cC:=[false,true] }],[],[],[],[{},{ cC:=[true],mode:=1 },{},p3,{},p6,p3,p3,{},p3,p6,{},p3,{},p6,p3,p3,{},p3,p6,p6,p3,p6,{},p6]] }
def adO:c':={ ops:=[[],[{ mode:=3 },{ mode:=3 },{ mode:=3 },{},{},{},{ cC:=[false,true] },{ cC:=[false,true] },{ cC:=[false,true] }],[{},{},{ mode:=3 },{ mode:=3 },p3,{},{},{},p3,p3,p3],[{},{},{ mode:=3 },{ mode:=3 },p3],[{},{ mode:=3 },p3,{},p3,p3,p3],[{},{ mode:=3 },p3,{},p3,p3,p3],[{},{ mode:=3 },p3,{},p3,p3,p3],[{},{ mode:=3 },p3,{},p3,p3,p3],[{},{ mode:=3 },p3,{},p3,p3,p3],[{},{ mode:=3 },p3,{},p3,p3,p3],[{},{ mode:=3 },p3,{},p3,p3,p3],[{},{ mode:=3 },p3,{},p3,p3,p3],[p3,{ mode:=3 },p3,{},p3,p3,p3],[p3,{ mode:=3 },p3,{},p3,p3,p3],[p3,p3,p3,p3,p3,p6,p3,p3,p3,p6,p3,p3,p3,p6,p3,p3,p3,p6,p3,p3,{},{ mode:=3 },{ mode:=3 },p6,p3,p3,p3,p6,p3,p3,{},{ mode:=3 },p3,{ mode:=3 },{ mode:=3 },p6,p3,p3,p3,p6,p3,p3,p3,p6,p3,p3,p3,p6,p3,p3,p3,p6,p3,p3,p3,p6,p3,p3,p3,p6,p3,p3,p3,p6,p3,p3,p3,p6,p3,p3,p3,p6,p3,p3,{},{ mode:=3 },{ mode:=3 },p6,p3,p3,p3,p6,p3,p3,{},{ mode:=3 },{ mode:=3 },p6,p3,p3,p3,p6,p3,p3,p3,p3,p6,p3,p3,p3,p6,p3,p3,{},{ mode:=3 },{ mode:=3 },p6,p3,p3,{ mode:=3 },p3,p6,p3,{ mode:=3 },p6,p3]] }
def WA:c':={ ops:=[[p3],(p_ [1,1,1,1,1])] }
def adQ:c':={ ops:=[[],[{ mode:=3 },{ mode:=3 },{ mode:=3 },{},{},{},{ cC:=[false,true] },{ cC:=[false,true] },{ cC:=[false,true] }],[{},{},{ mode:=3 },{ mode:=3 },p3,{},{},{},p3,p3,p3],[{},{},{ mode:=3 },{ mode:=3 },p3,{},{},{},p3,p3,p3],[{},{},{ mode:=3 },{ mode:=3 },p3,{},{},{},p3,p3,p3],[{},{},{ mode:=3 },{ mode:=3 },p3,{},{},{},p3,p3,p3],[{},{ mode:=3 },p3,{},{},p3,p3,p3,p3],[{},{},{ mode:=3 },{},{ mode:=3 },p6,{ mode:=3 },{ mode:=3 },p3,{},{},p3,p3],[{},{},{ mode:=3 },p3,{ mode:=3 },{ mode:=3 },p3,{},{},p3,p3],[{},{},{ mode:=3 },{},{ mode:=3 },p6,{ mode:=3 },{ mode:=3 },p3,{},{},p3,p3],[{},{},{ mode:=3 },{ mode:=3 },{},{},{ mode:=3 },{ mode:=3 },p3,p3],[{},{ mode:=3 },p3,{},p3,p3,p3],[{},{ mode:=3 },p3,{},p3,p3,p3],[{},{ mode:=3 },p3,{},p3,p3,p3],[{},{ mode:=3 },p3,{},p3,p3,p3],[{},{ mode:=3 },p3,{},p3,p3,p3],[{},{ mode:=3 },p3,{},p3,p3,p3],[{},{ mode:=3 },p3,{},p3,p3,p3],[{},{ mode:=3 },p3,{},p3,p3,p3],[{},{ mode:=3 },p3,{},p3,p3,p3],[{},{ mode:=3 },p3,{},p3,p3,p3],[{},{ mode:=3 },p3,{},p3,p3,p3],[p3,{ mode:=3 },p3,{},p3,p3,p3],[{},{ mode:=3 },p3,{},p3,p3,p3],[p3,p3,p3,p3,p3,{ cC:=[true,false,true] },p3,p3,p3,{ cC:=[true,false,true] },p3,p3,p3,{ cC:=[true,false,true] },p3,p3,p3,{ cC:=[true,false,true] },p3,p3,p3,{ cC:=[true,false,true] },p3,p3,p3,{ cC:=[true,false,true] },p3,p3,p3,{ cC:=[true,false,true] },p3,p3,p3,{ cC:=[true,false,true] },p3,p3,p3,{ cC:=[true,false,true] },p3,p3,p3,{ cC:=[true,false,true] },p3,p3,p3,{ cC:=[true,false,true] },p3,p3,p3,{ cC:=[true,false,true] },p3,p3,p3,{ cC:=[true,false,true] },p3,p3,p3,{ cC:=[true,false,true] },p3,p3,p3,{ cC:=[true,false,true] },p3,p3,p3,{ cC:=[true,false,true] },p3,p3,p3,{ cC:=[true,false,true] },p3,p3,p3,{ cC:=[true,false,true] },p3,p3,p3,{ cC:=[true,false,true] },p3,p3,p3,{ cC:=[true,false,true] },p3,p3,p3,{ cC:=[true,false,true] },p3,p3,p3,{ cC:=[true,false,true] }],[],[p3,p3,p3,p3,p3,{ cC:=[true,false,true] },p3,p3,p3,{ cC:=[true,false,true] },p3,p3,{},{ mode:=3 },{ mode:=3 },p3,{ cC:=[true,false,true] },p3,p3,{},{ mode:=3 },{},{ mode:=3 },{},{ mode:=3 },{ cC:=[true,true,true] },{ mode:=3 },{ mode:=3 },p3,{ cC:=[true,false,true] },p3,p3,p3,{ cC:=[true,false,true] },p3,p3,{},{ mode:=3 },{ mode:=3 },p3,{ cC:=[true,false,true] },p3,p3,p3,{ cC:=[true,false,true] },p3,p3,{},{ mode:=3 },{ mode:=3 },p3,{ cC:=[true,false,true] },p3,p3,{},{ mode:=3 },{ mode:=3 },p3,{ cC:=[true,false,true] }],[],[p3,p3,{ mode:=3 },p3,{},p3,p3,p3],[p3,p3,p3,p3,p3,p6,p3,p3,p3,{ mode:=3 },p3,p6,p3]] }
def N6:c':={ ops:=[[p3],[{},{ mode:=3 },p3,{},p3,p3,p3],[p3,p3],(p_ [0,1,1]),(p_ [1,0,0,1]),(p_ [0,1,1,1]),[],[{},p3,{ mode:=6 },p3],[],[],[{},p3],[],[],[{},p3,{},{ cC:=[false,true] }],[{},p3,{ cC:=[false,true] },p3,p3],[],[p3,p3,{ cC:=[false,true] },p3],[p3,p3],[{},{},p3,p3,{ mode:=3 },p3,{},p3,p3,p3],[{},p3],[p3],[],[{},p3,{},{ cC:=[false,true] }],[{},p3,{ mode:=3 },p3,{},p3,p3,p3],(p_ [1,1,2]),[],[p3,p3],[p3,p3],(p_ [1,1,1,1])],ig:=[(1,(ED false [1,1,5,1,2,1,28,3,40])),(3,(ED false [7,1,5,1,1,1,47,3,16]))] }
def N7:c':={ ops:=[[p3],[{},{ mode:=3 },p3],[p3,{ mode:=3 },{},{},p3],(p_ [0,1,1]),[{},p3],[],[],(p_ [0,0,2]),(p_ [1,1,1]),[{},{},p6,p3,p3,p3,p3,{},{},p6,p3,p3,{},p3,p3,p6,{ cC:=[false,false,true] },p3,{},{},p6,p3,p3,p3,{ cC:=[false,false,true] },p3,{},{},p6,p3,p3,p3,{ cC:=[false,false,true] }],[],[],(p_ [0,0,2]),(p_ [1,1,1]),[{},{},p6,{},{},p6,p3,p3,{ mode:=3 }],[],[],(p_ [0,0,2]),(p_ [1,1,1]),[{},{},{},p3,p6,p3,{ mode:=3 },{},{},{},p6,p3,{ mode:=3 },p6],[],[{},{},p3,p3,{ mode:=3 },{},{},p3,p3,p6,p3,{ mode:=3 },p3,p3]],ig:=[(0,(ED false [1,2,4,2,94])),(2,(ED false [1,2,4,1,1,1,93])),(4,(ED false [1,2,4,1,2,1,92]))] }
def WB:c':={ ops:=[[p3],[{},p3],[{},p3,p3,{ mode:=3 },p3,p3,{},p3,p3,p3,{ cC:=[true,false,true] },p3],[],[p3,p3,p3,{ mode:=6 },p3],[],[]] }
def R_:c':={ ops:=[[p3],[{},p3,p3,p3,{},p3,p3,{ cC:=[true,false,true] },p3,{},p3,p3,p3,{ cC:=[true,false,true] }],[],[],(p_ [0,0,1,1,2]),(p_ [1,1,1]),[{},p3,{},p6,p3,{},{ cC:=[false,true] }],[{},p3,p3,p3,{},p3,{},p3,p6,{ cC:=[true,false,true] },p3,{},p3,p3,{ cC:=[true,false,true] },p3,p3,p3,{},p3,p6,{ cC:=[true,false,true] }],[],[]],ig:=[(0,(ED false [1,1,1,1,49]))] }
def WC:c':={ ops:=[[p3],[{},{},{ mode:=3 },p3,{},{},p3,p3,p3,p3],(p_ [0,1,1]),[p3,p3],(p_ [1,1,1,1,1,2,1]),[],(p_ [1,1,2,1]),[],[]] }
def WD:c':={ ops:=[[p3],[{},{},{ mode:=3 },p3,{},{},p3,p3,p3,p3],[{},p3],[p3,p3],(p_ [1,1,1,1,1,2]),[],(p_ [1,1,2]),[],[]] }
def R':c':={ ops:=[[],(p_ [0,1,1]),[],(p_ [0,0,1,2]),(p_ [1,1,1]),(p_ [1,0,0,2,1,1,2,1]),(p_ [1,1,1])],ig:=[(0,(ED false [0,1,2,2,17]))] }
def WE:c':={ ops:=[[p3],[{},{ mode:=3 },p3],[{},p3],(p_ [1,0,1]),[],[],[],(p_ [0,1,1]),[{},{},{ mode:=3 },p3,{},{},p3,p3,p3,p3],[{},p3],(p_ [1,0,1]),[p3],[],[{},p3,{},{ cC:=[false,true] }],[{},{},p3,{},p3,{ cC:=[true,true,true] },p3,p3,p3,p6,p3],[p3,p3],[p3,p3],[{ cC:=[true],mode:=1 },{ cC:=[false,true],mode:=1 }],[{},{},{ cC:=[false,true],mode:=1 },p3,{},p3,p6,p3],[],(p_ [1,1,1,1,1,2,1]),[],(p_ [1,1,1])],ig:=[(0,(ED false [1,2,4,1,12,3,50])),(2,(ED false [1,2,4,1,12,3,13,3,34]))] }
def PA:c':={ ops:=[[p3],[{},{ mode:=3 },p3],[p3,{ mode:=3 },{},p3],[],[],(p_ [0,0,1,2]),(p_ [1,1,1]),[{},{},{},p6,p3,{ mode:=3 },p3,{},{},{},p3,p3,p3],[{},p3],(p_ [1,0,1]),(p_ [1,0,0,2,1,2,1]),[],(p_ [0,0,1,2]),(p_ [1,1,1]),[{},{},p6,{},{},p6,p3,p3,{ mode:=3 }],[],(p_ [1,1,1,1,1,2]),[],(p_ [1,1,1])],ig:=[(0,(ED false [1,2,3,2,57])),(2,(ED false [1,2,3,1,4,1,53]))] }
def WG:c':={ ops:=[[p3],[p3,{ mode:=3 },p3,{},p3,p3,p3],[{},p3],(p_ [1,0,1]),[{},p3,{ mode:=3 },{ mode:=3 },p3],[{},p3,{ cC:=[false,true] },p3],(p_ [0,1,2]),[p3,p3]] }
def WH:c':={ ops:=[[p3],[p3,{ mode:=3 },p3,{},p3,p3,p3],[{},p3],(p_ [1,0,1]),[{},p3,{ mode:=3 },{ mode:=3 },p3]] }
def adT:c':={ ops:=[[p3],[{},{ mode:=3 },p3,{},p3,p3,p3],[{},p3],(p_ [1,0,1]),[],[p3,p3],[],[{},{},p3,{},p3,{ cC:=[false,true] }],[{},{},p3,{},{ mode:=3 },{},{ cC:=[false,true] }],(p_ [1,1,2,1,1]),(p_ [1,1,1,2,1]),[p3,p3],[p3,p3]],ig:=[(0,(ED false [4,1,1,1,12,3,20]))] }
def adU:c':={ ops:=[[],(p_ [0,1,0,1,2]),[],[],(p_ [0,0,1,2]),(p_ [1,1,1]),(p_ [0,0,2,1,0,0,2,1,2]),[],[]],ig:=[(0,(ED false [0,2,3,1,20]))] }
def adV:c':={ ops:=[[],(p_ [0,1,0,1,2]),[],[],(p_ [0,0,1,2]),(p_ [1,1,1]),[{},{},p6,p3,{},{},p6,p3,{ mode:=3 },p3],[],[]],ig:=[(0,(ED false [0,2,3,1,21]))] }
def WI:c':={ ops:=[[p3],[p3,{ mode:=3 },p3,{},p3,p3,p3],[{},p3],(p_ [1,0,1]),[p3,{ mode:=3 },p3,p3]] }
def WJ:c':={ ops:=[[p3],[{},{ mode:=3 },p3,{},p3,p3,p3],(p_ [0,1,1]),(p_ [1,0,1]),(p_ [1,1,1,1,1]),[],[{},{ mode:=3 },p3,p3,p3],[],[p3,{ mode:=3 },p3]] }
def adW:c':={ ops:=[[],[],[],[],[],[],[],[],[],[],[],[],[],[],[],[],[],[],[],[{},p3,p3,p3,{},p3,p3,{},{},{},{ mode:=3 },p6,{ cC:=[false,false,true] },{ cC:=[false,true] },p3,{},{},{},p3,{ mode:=3 },{},{},{ mode:=3 },{ mode:=3 },{ cC:=[false,true] }],[],[],[],[p3,{},p3,p3,p3,p6,p3,{},p3,p3,p3,{ mode:=3 },{},{},p3,p3,{ mode:=3 },p3,p3,p3]] }
def adX:c':={ ops:=[[p3],[{},{ mode:=3 },p3,{},p3,p3,p3],[p3,p3],[],[p3,{ mode:=3 },{},p3,p3,p3]] }
def WK:c':={ ops:=[[p3],[p3,{ mode:=3 },p3,{},p3,p3,p3],[{},p3],(p_ [1,0,1]),[p3,{ mode:=3 },p3]] }
def WL:c':={ ops:=[[p3],[{},{ mode:=3 },p3,{},p3,p3,p3],[{},p3],(p_ [1,0,1]),[p3,{},{ mode:=3 },p3],[],[p3,p3]] }
def adY:c':={ ops:=[[],(p_ [0,1,0,1,2]),[],[],(p_ [0,0,1,2]),(p_ [1,1,1]),(p_ [0,0,2,1,0,0,2,1,2]),[],[]],ig:=[(0,(ED false [0,2,3,1,20]))] }
def adZ:c':={ ops:=[[p3,p3],[{},{ mode:=3 },p3,{},p3,{},{ cC:=[false,true] },p3],(p_ [0,1,1]),(p_ [1,0,1]),[p3,p3,p3,{},{},p6,{ mode:=3 },p3,p3,{},{},p6,{ cC:=[true,false,true] },p3],[],[{},{},{ mode:=3 },{},{ cC:=[false,true] }],[{},{ cC:=[false,true] },p3,p3],[],[{ mode:=1 }],(p_ [0,0,2]),[{},{},{ mode:=3 }],[{},{ cC:=[false,true] }],[p3,{},{ mode:=3 },p3,{},p3,p3,p3],[{},{ cC:=[false,true] },p3,{},{ cC:=[false,true] },p3,p3,p6],[{ mode:=1 },p3,p3,p6,p3,p6,p6],[p3,p3]],ig:=[(1,(ED false [2,1,1,1,3,1,1,2,60]))] }
def WM:c':={ ops:=[[p3],[{},{ mode:=3 },p3,p3,p3,{ mode:=3 },p3,p6,p3]] }
def WN:c':={ ops:=[[p3],[{},{ mode:=3 },p3,{},p3,p3,p3],[{},{ mode:=3 },p3,{},p3,p3,p3],[p3,p3,p3,p3,p3,{ cC:=[true,false,true] },p3,{},{ mode:=3 },{ cC:=[true,false,true] }],[p3,p3],[{},{},{ mode:=3 },p3,{},p3,p3,p3],[p3,p3,{ mode:=3 },p3,{},p3,p3,p3],(p_ [0,1,1,1,1,1,2,1,1,0,2,2,1,1,1,2,2,1,1])] }
def PB:c':={ ops:=[[p3],[{},{ mode:=3 },p3,{},p3,p3,p3],[p3,p3,p3,{},p3,{},p3,p3,p6,{ cC:=[true,false,true] }],[],[p3,p3,p3,{ cC:=[false,true] },p3],[],[],(p_ [0,0,1,2]),(p_ [1,1,1]),[],(p_ [0,0,0,2,1,1,2]),(p_ [1,1,1]),(p_ [0,0,2,1,0,2,1,1]),[{},p3,p3,{},{},p3,p6,{ cC:=[true,false,true] },p3,{},{},p6,p3,p3,{ cC:=[true,false,true] }],[],(p_ [0,1,2,1]),(p_ [1,1,1]),(p_ [0,0,2,1,1,1]),[],(p_ [1,1,1,1,2,1,1])],ig:=[(0,(ED false [4,1,1,3,74])),(2,(ED false [4,1,1,4,73]))] }
def HC:c':={ ops:=[[p3],[],[],[],(p_ [0,1,0,1,1,2]),[],[],[],(p_ [0,0,1,1,2]),(p_ [1,1,1]),[],[{},p3],(p_ [1,1,1]),[{},{},p6,{},{ cC:=[false,true] }],[{},{},{ mode:=3 },p3,p3,{},p3,p3,p3,{},{},{},p3,p3,p6,p3,{ mode:=3 },{},{},{ mode:=3 },p6,{ cC:=[false,false,true] },{ cC:=[false,true] }],(p_ [1,1,1,2,1]),(p_ [0,1,1]),[],(p_ [0,1,1]),(p_ [0,0,0,1,2,2,1,1,0,1,2,1]),(p_ [1,1,1]),(p_ [1,0,0,2,1,1,2,1,0,0,2,1,1,2,1,1]),(p_ [1,1,1,2,1]),[p3,p3]],ig:=[(0,(ED false [1,2,2,3,91])),(2,(ED false [1,2,2,4,90])),(4,(ED false [1,2,2,6,88])),(6,(ED false [1,2,2,7,87]))] }
def Sa:c':={ ops:=[[p3],[{},p3,p3,{},{ cC:=[false,true] }],[],(p_ [0,0,1,2]),(p_ [1,1,1]),[{},{ cC:=[true],mode:=1 },{},p3,{},{},p6,p3,p6,p3,p3,p6,{},p6],[p3,{ cC:=[false,true] }]],ig:=[(0,(ED false [1,2,1,3,23]))] }
def WO:c':={ ops:=[[],[p3,p3]] }
def Sb:c':={ ops:=[[],[],(p_ [0,0,1,2]),(p_ [1,1,1]),(p_ [0,0,2,1,0,2]),[],[]],ig:=[(0,(ED false [0,2,3,1,12]))] }
def ad0:c':={ ops:=[[],[],[],[],[],[p3,{},{},p6,p3,p3,{},{},p6,p3,p3,{ cC:=[false,true] },p6,p3,p6,p3]] }
def ad1:c':={ ops:=[[],[],[],[],[],[],[],[],[],[],[],[],(p_ [0,1,0,2,1,1,0,1,0,2,1,1,1,1]),[],(p_ [0,0,2,1,0,0,2,1,2,1])] }
def WQ:c':={ ops:=[[p3,p3],(p_ [0,1,1]),(p_ [1,1,1,1,2,1,1,1]),(p_ [1,1,1,1,2,1,1,1])] }
def ad2:c':={ ops:=[[],[{},{ mode:=3 },{ cC:=[false,true] }]] }
def ad3:c':={ ops:=[[],[{},{ mode:=3 },{ cC:=[false,true] }]] }
def ad4:c':={ ops:=[[],[{},{ mode:=3 },{ cC:=[false,true] }]] }
def ad5:c':={ ops:=[[],[],[],(p_ [0,1,0,1,2]),(p_ [1,1,1]),(p_ [1,0,0,2,1,0,0,1,2,1,2,1,2,1]),[p3,p3]],ig:=[(0,(ED false [0,1,2,2,21]))] }
def ad6:c':={ ops:=[[],[p3,p3]] }
def ad7:c':={ ops:=[[],[p3,p3]] }
def WR:c':={ ops:=[[p3],[{},{ mode:=3 },p3],[{},p3],(p_ [1,0,1]),[p3,p3,{ cC:=[true],mode:=1 },p3]] }
def WS:c':={ ops:=[[p3],[p3,p3,p3,p3,{},p3,p3,{ mode:=3 },p3,p3,p3,p3,p3,{ mode:=3 },p3,{ cC:=[true,false,true] },p3]] }
def WT:c':={ ops:=[[p3,p3],[p3,p6,{ mode:=6 },p3,p3]] }
def WU:c':={ ops:=[[],[p3,p3,{ mode:=6 },p3,p3]] }
def WV:c':={ ops:=[[p3],[p3,p3,p3,p3,p3,{},p3,p6,p3,{},{ cC:=[false,true] }],(p_ [1,1,1]),(p_ [0,1,0,1,1,1]),(p_ [0,1,0,1,1,1])] }
def Sc:c':={ ops:=[[],[],(p_ [0,0,1,2]),(p_ [1,1,1]),(p_ [0,0,2,1,1,0,2]),[],[]],ig:=[(0,(ED false [0,2,3,1,13]))] }
def WW:c':={ ops:=[[p3,p3],(p_ [0,1,1]),(p_ [1,1,1,1,2,1,1,1]),(p_ [1,1,1,1,2,1,1,1])] }
def WX:c':={ ops:=[[p3],[p3,p3,p3,{},p3,p3,p3,p6,{ mode:=3 },p3,p3]] }
def WY:c':={ ops:=[[],[p3,p3,{ mode:=6 },p3,p3]] }
def WZ:c':={ ops:=[(p_ [0,1,1]),[p3,{},p3,p3,{ mode:=3 },{ cC:=[false,true,false,true,true],mode:=1 }]] }
def Se:c':={ ops:=[[],[{ cC:=[true],mode:=1 },p3,p3],[p3,p3],[],(p_ [0,0,1,2]),(p_ [1,1,1]),(p_ [0,0,2,1,0,0,1,2,1,2]),(p_ [0,0,2,1]),[],(p_ [0,0,1,2]),(p_ [1,1,1]),(p_ [0,0,2,1,0,0,1,2,1,2]),(p_ [0,0,0,0,2,1,2,2]),(p_ [1,1,1]),(p_ [0,0,2,1]),(p_ [1,1,2,1]),[p3,p3]],ig:=[(0,(ED false [0,1,2,1,57])),(2,(ED false [0,1,2,3,55]))] }
def W0:c':={ ops:=[[],[{},p3],[],(p_ [0,1,2,1])] }
def PC:c':={ ops:=[[],[],[p3],[],(p_ [0,1,1]),[{},p3,p3,p3,p3,{},p6,p3,p3,{},p3,p3,{ cC:=[false,true] },p6],[{},p3,p3,p3,p3,p3,p6,p3,p3,{},p3,p3,{ cC:=[false,true] },p6],[p3,p3],(p_ [0,0,2]),[],[],[p3],[],(p_ [0,0,1,1]),(p_ [1,1,1]),[{},{},p3,p3,p3,{ cC:=[true,true,true] },p3,p3,p6,p3],[p3,p3],[p3,p3]],ig:=[(0,(ED false [0,1,4,1,5,3,52])),(2,(ED false [8,1,38,2,17]))] }
def Sf:c':={ ops:=[[],[],(p_ [1,1,1,1,1,1]),[],[{},p3],(p_ [1,1,1,2,1]),[p3,p3],[p3,p3]],ig:=[(0,(ED false [3,1,6,2,8]))] }
def MT:c':={ ops:=[[p3],[{ cC:=[true],mode:=1 }],[p3],[],[{},p3,{},{ cC:=[false,true] }],[{},p3],(p_ [1,1,1]),[],[],(p_ [0,1,1]),[{},{},{ mode:=6 }],(p_ [1,1,2,1]),[p3,p3],[{ cC:=[true],mode:=1 },{ cC:=[false,true],mode:=1 }],[p3,p3,{ cC:=[false,true,true],mode:=1 },{ cC:=[true],mode:=2 },p3,{ cC:=[true,true],mode:=1 },p3],[p3,p3],[{},{ cC:=[false,true],mode:=1 }],[{ cC:=[true],mode:=2 },p3]],ig:=[(0,(ED false [2,1,2,1,6,3,31])),(2,(ED false [2,1,2,1,2,2,2,3,6,3,22]))] }
def ad8:c':={ ops:=[[],[],[],[],[],[],[],[],[],[],[],(p_ [0,0,2,1,0,0,1,0,2,1,1,2,1,2])] }
def ad9:c':={ ops:=[[p3,p3],[],[],[],[{},p3],[p3,{ cC:=[false,true] },p3],[p3,p3],[{},{ cC:=[false,true] },p3],[p3,p3,{},{ cC:=[false,true] }],(p_ [0,1,1]),[{},p3,p3,{},{ cC:=[false,true] }],[{ mode:=1 },p3,{ cC:=[false,true] }],[{},{},{ mode:=3 }],[{},{ cC:=[false,true] }],[p3,{},{ mode:=3 },p3,{},p3,p3,p3],[p3,p3,p3,p6,p3,{},{ cC:=[false,true] },p3,p3,p6],[{},p3,{ cC:=[false,true] },p3,p3,p6,p6],[{ mode:=1 },p3,p3,p6,p6],[p3,{ cC:=[false,true] }]],ig:=[(0,(ED false [1,1,1,1,1,3,6,1,48])),(2,(ED false [3,1,1,3,1,1,53]))] }
def ad_:c':={ ops:=[[],[],(p_ [0,0,1,0,2,1,1,2,1,0,0,1,0,2,1,1,2,1,2,1])] }
def Lb:c':={ ops:=[[],[],[{},{},{ mode:=3 },{ mode:=3 }],[],[{},p3,{},{ cC:=[false,true] }],[{},p3,p3,p3,p3,p3,p3,{},{ cC:=[false,true] }],[],[],(p_ [0,1,1]),[{},p3,{ cC:=[true],mode:=1 },{},p3,p3,p3,p3,p3,p6,p3,p3,p6,{},p3,p6],[p3,p3],[{},{},{ mode:=3 },p3],[],(p_ [0,1,0,1,2]),(p_ [1,1,1]),[{},p3,{ cC:=[true],mode:=1 },{},{},p6,p3,{},{},p3,p6,p3,p6,p3,p6,{},p3,p6],[{ mode:=7 },p3],[{},{},{ mode:=6 },p3],[{},p3],[{},{},p3,p6,{},{},p3,p6,p6,{ mode:=3 },p3],[],[p3],[],[{},p3,{},{ cC:=[false,true] }],(p_ [0,1,0,1,2]),(p_ [1,0,0,1,2,1,0,1,2,1,2,1]),(p_ [1,1,1,2,1]),[p3,p3],(p_ [0,1,1]),(p_ [1,1,1,2,1]),[p3,p3],[p3,p3]],ig:=[(0,(ED false [0,1,2,1,15,3,111])),(2,(ED false [0,1,2,1,1,2,12,3,10,3,98])),(4,(ED false [0,1,2,1,1,2,2,2,8,3,111])),(6,(ED false [0,1,2,1,1,1,7,1,5,3,75,3,33]))] }
def aea:c':={ ops:=[[],[],[],[],[],[],[p3,{},{},{},p6,p3,{ mode:=3 },{ mode:=3 },p3,p3,{ cC:=[false,true] },p6,p3]] }
def aeb:c':={ ops:=[[],[],[{},{ mode:=3 },{ cC:=[true],mode:=1 }],[],(p_ [0,1,1]),[],[],[],[{},p3,{},{ cC:=[false,true] }],[{},{},{},{ cC:=[false,true,true],mode:=1 },{ cC:=[true],mode:=2 }],[],[],[{},p3],[{},p3,p6,{},{ cC:=[false,true] }],[{},{},{ mode:=3 },p3,{},p3,p3,p3],[{},p3,p3,p3,{},p6,{ cC:=[true,false,true] },p3,{},{},p3,{ mode:=3 },p6],(p_ [1,1,1,2,1]),[p3,p3],[p3,p3],(p_ [0,1,1]),[p3,p3],[p3,{ mode:=3 },{},{ cC:=[false,true] }],(p_ [1,0,1,2,1]),[p3,{},{ cC:=[false,true,true],mode:=1 },p3],[{},p3,{ mode:=3 },p3,{},p3,p3],[p3,p3]],ig:=[(0,(ED false [0,1,2,3,75])),(2,(ED false [0,1,2,4,13,3,58])),(4,(ED false [0,1,2,4,1,2,10,3,7,1,50]))] }
def W1:c':={ ops:=[[p3,p3],[p6,p3]] }
def aed:c':={ ops:=[[],[],[],[],[],[],[],[],[],[],[],[{},{},{},p6,{},p3,p6,{},{},{ mode:=3 },{},{},p3,{ mode:=3 },p3,{},{},p3,p3]] }
def aee:c':={ ops:=[[],[p3,p3,{},{ cC:=[false,true] }],[],(p_ [0,1,0,1,2]),(p_ [1,1,1]),[{},{ cC:=[true],mode:=1 },{},{},p6,p3,{},{},p3,p6,p3,p6,p3,p6,{},p6],[p3,{ cC:=[false,true] }]],ig:=[(0,(ED false [1,1,2,3,25]))] }
def W2:c':={ ops:=[[],[p3,p3,{ mode:=6 },p3,p3]] }
def W3:c':={ ops:=[[],[{},p3,p6,p3,p3,p3,p6,{ cC:=[true,false,true] },p3]] }
def Sh:c':={ ops:=[[],[{},p3],[],[{},p3],[{},{},{},p6,p3,{ mode:=6 }],[p3,p3],[p3,p3],[]],ig:=[(0,(ED false [0,2,5,2,10]))] }
def Si:c':={ ops:=[[],[{},p3],[],[{},p3],[{},{},{},p6,p3,{ mode:=6 }],[p3,p3],[p3,p3],[]],ig:=[(0,(ED false [0,2,5,2,10]))] }
def W4:c':={ ops:=[[],[],(p_ [0,0,2,1]),[{},p3],[p3,p3,p3,{ cC:=[false,true,true,true],mode:=1 }],[{},p3],[p3,p3,p3,{ cC:=[false,true,true,true],mode:=1 }],[{},p3],[{},{},{},{ cC:=[false,true,true,true],mode:=1 }],(p_ [1,1,1]),[{},{},{},{ cC:=[false,true,true,true],mode:=1 },p3,{},p3,p3,p3],[{},p3],[{},{},{},{ cC:=[false,true,true,true],mode:=1 }],(p_ [0,1,1,0,2,2,1]),[],(p_ [0,1,0,2,1,1,1,2]),[{},{},{},{ cC:=[false,true,true,true],mode:=1 }],[{},p3,p3,{},{},p3,p6,p3,{},{},p6,p3,{ mode:=3 },p3,{ cC:=[false,true] }],[{},p3,{},p3,{ cC:=[false,true,true,true,true],mode:=1 },p3],[p3,p3],[{},{},{},p3,{ cC:=[false,true,true,true,true],mode:=1 },p3,{},p3,p3,p3],[p3,p3],(p_ [0,0,2,0,0,2,1,1]),(p_ [1,1,1]),(p_ [0,0,2]),(p_ [1,1,2,1]),[{},p3,{},{},{ cC:=[false,true,true,true,true],mode:=1 }],(p_ [1,1,1]),(p_ [1,1,2,1]),[{},{},p3,p3,{},{ cC:=[false,true,true,true,true],mode:=1 }],[p3,p3]],ig:=[(0,(ED false [0,4,4,2,124]))] }
def aef:c':={ ops:=[[],[p3,p3,{ mode:=3 },p3],[p3,{ mode:=3 },p3]] }
def W5:c':={ ops:=[[],[p3,p6,{ mode:=6 },p3]] }
def W6:c':={ ops:=[[],[p3,p3,p3,{ mode:=3 },p3]] }
def Wh:c':={ bad:=true,ops:=[[],[{},p3,p3,p3,p3,p3,p6,p3,{},p3,p3,p3,{ cC:=[true],mode:=3 },p3,p6,{ cC:=[true],mode:=3 },{},{},{ cC:=[false,true] },{ cC:=[false,true] }],[{},p3,{},p3,p6,p3,{},p3,{},p3,p6,{ cC:=[true,false,true] },p3,{},p3,{},p3,p6,{ cC:=[true,false,true] },p3,p3,p3,p3,p3,p6,{ cC:=[true,false,true] },p3]] }
def adp:c':={ ops:=[[],(p_ [0,0,0,1]),[{},p3],[p3,{ cC:=[true],mode:=4 }],(p_ [0,1,1]),(p_ [0,0,1,2]),(p_ [1,1,1]),(p_ [0,0,2,1,1]),(p_ [0,0,0,1]),(p_ [0,0,1,2,2]),(p_ [1,1,1]),(p_ [0,0,2,1]),[p3,p3,p6,{ cC:=[true],mode:=4 }]],ig:=[(0,(ED false [0,2,3,2,35]))] }
def Wi:c':={ ops:=[(p_ [0,1,1]),[p3,{},p3,p3,{ mode:=3 },p3,{ cC:=[false,true,false,true,true,true],mode:=1 }]] }
def Wj:c':={ ops:=[[],(p_ [1,1,1,1,1,1,2,1])] }
def LL:c':={ ops:=[[p3],[{},{},{ cC:=[false,true] }],(p_ [0,1,1,1,1,1]),[],[{},p3],(p_ [0,0,1,0,0,1,2,2]),[p3,p3],[{ cC:=[true],mode:=1 }],[{},p3,p3,p3,p3,p3,p3,p3,{},{ cC:=[false,true] }],(p_ [0,1,1]),[{},{},{ mode:=3 }],[{},{ cC:=[false,true] }],(p_ [0,0,2,1]),(p_ [0,0,2]),[p3,{},p3,{},p3,{ cC:=[false,true] },p6,p6],[{ mode:=5 },{},p3,{ cC:=[true,true],mode:=1 },p6],[p3,p3,{ mode:=3 },p3,{},p3,p6],(p_ [0,1,1]),[{},{},p3,p3,p6,p3,{},{ cC:=[false,true] }],[{ mode:=5 },{},p3,p3,p6,{ cC:=[false,true] }],[p3,{},p3,{ cC:=[true,true],mode:=1 },p3],[{},p3,{ mode:=3 },p3,{},p3,{ cC:=[false,true] }],[{},{ cC:=[false,true],mode:=1 }],[{ cC:=[true],mode:=2 },p3]],ig:=[(0,(ED false [1,1,1,1,13,2,73])),(2,(ED false [1,1,1,1,1,4,83]))] }
def Wk:c':={ ops:=[[p3],(p_ [1,1,1,1,2,1])] }
def Pz:c':={ ops:=[[],[],[],[],(p_ [0,1,1]),(p_ [1,1,1,2,1]),[{},p3],[{},p3],[p3,p3],(p_ [1,0,1]),[p3],[],(p_ [0,1,1]),(p_ [1,1,2,1]),[p3,p3],[p3,p3]],ig:=[(0,(ED false [0,1,2,1,5,3,24])),(2,(ED false [6,1,18,3,8]))] }
def Wl:c':={ ops:=[[],[{ cC:=[true],mode:=1 },{},{ mode:=6 },p3],[{},p3],[p3,p3],(p_ [0,1,1]),(p_ [0,0,1,2]),(p_ [1,1,1]),(p_ [0,0,2,1,1]),[{},{},{ mode:=6 },p3],(p_ [0,0,1,2,2]),(p_ [1,1,1]),(p_ [0,0,2,1]),(p_ [1,1,2,1])],ig:=[(0,(ED false [0,2,3,2,35]))] }
def Wm:c':={ ops:=[[],(p_ [1,1,2,1])] }
def Wn:c':={ ops:=[[p3,p3],[{},p3],[{},{},{ mode:=3 },p3],(p_ [0,1,1,1]),[],[{},p3,p3,p3,{},p3,p3,p3,p3,p3,{ mode:=3 },p3,p6,{ cC:=[true,false,true] },p3,{},p3,{ mode:=6 },p3,{ cC:=[true,false,true] },p3],[],[p3,p3,{ mode:=3 },p3,p3,p3]] }
def R7:c':={ ops:=[[],[{},p3,p3,{},{ cC:=[false,true] }],[p3,p3],[],[{},p3,{},{ cC:=[false,true] }],[{},{},{},{ mode:=6 }],[p3,{ cC:=[false,true] }],[p3,p3],[p3,{ cC:=[false,true] }]],ig:=[(0,(ED false [1,1,2,2,6,3,10]))] }
def Wo:c':={ ops:=[[p3,p3],(p_ [1,1,1,1,2,1])] }
def Wp:c':={ ops:=[[],(p_ [1,1,1,2,1])] }
def Wq:c':={ ops:=[(p_ [0,1,1,1,1,1]),[],[{},p3],[],[],[{},p3],[{},p3,p6,{},{ cC:=[false,true] }],[{},{},{ mode:=3 },p3,{},p3,p3,p3],[p3,{},p6,p3,{},p3,{ cC:=[true,true],mode:=1 },p3,p6],[p3,p3],[p3,p3]],ig:=[(0,(ED false [0,3,11,2,25])),(2,(ED false [0,3,1,1,9,2,2,1,22]))] }
def R8:c':={ ops:=[[],[{},p3],[],[{},p3],[{},{},{},p6,p3,{ mode:=6 }],[p3,p3],[p3,p3],[]],ig:=[(0,(ED false [0,2,5,2,10]))] }
def Wr:c':={ ops:=[(p_ [0,1,1]),(p_ [0,0,2]),(p_ [1,1,1]),[{},p3],[{},{},p6,p3,{},{},p6,p3,{},{},p3,p6,p3,{ mode:=3 },{ cC:=[false,true] }],(p_ [1,1,1]),(p_ [0,0,0,0,1,0,0,1,2,1,0,0,2,1,2,2,2,2])],ig:=[(0,(ED false [0,3,3,1,42])),(2,(ED false [0,3,3,2,41]))] }
def ads:c':={ ops:=[[],[],[],[],[],[],[],[],[],[],(p_ [0,0,0,0,0,2,0,0,0,2,2,1,0,0,2,1,2,2,2,2])] }
def adt:c':={ ops:=[[],[],[],[],[],[],[],[],[],[],(p_ [0,0,0,0,0,2,0,0,0,2,2,1,0,0,2,1,2,2,2,2])] }
def adu:c':={ ops:=[[],[],[],(p_ [0,0,0,0,0,0,2,1,0,0,2,1,2,2,2,2])] }
def adw:c':={ ops:=[[],[],[],[],[],[{},{},p6,p3,{},{},p6,p3,{},{},p3,p6,p3,{ mode:=3 },p3,{ cC:=[false,true] }],[],[],[],[],[],(p_ [0,0,0,0,1,0,0,1,2,1,0,0,2,1,2,2,2,2]),[],[],[],[],[{},{},p6,p3,{},{},p3,p6,p3,{ mode:=3 },p3],(p_ [0,0,0,0,1,0,0,1,2,1,0,0,2,1,2,2,2,2]),[],[],[],[],[{},{},p6,p3,{},{},p3,p6,p3,{ mode:=3 },p3],(p_ [0,0,0,0,1,0,0,1,2,1,0,0,2,1,2,2,2,2])] }
def Ws:c':={ ops:=[[],[{},{ mode:=3 },p3,{},{ mode:=3 },p3,p6,p3,p3,p3,p6,{ cC:=[true,false,true] },p3]] }
def adx:c':={ ops:=[[],(p_ [0,0,0,0,0,0,2,1,0,0,2,1,2,2,2,2]),[],[{},{},p6,p3,{},{},p6,p3,{},{},p6,p3,{ mode:=3 },p3,{ cC:=[false,true] }],[],[{},{},p6,p3,{},{},p6,p3,{},{},p6,p3,{ mode:=3 },{ cC:=[false,true] }],[],[],(p_ [0,0,0,0,0,0,2,1,0,0,2,1,2,2,2,2])] }
def ady:c':={ ops:=[[],(p_ [0,0,0,0,0,0,2,1,0,0,2,1,2,2,2,2]),[],[{},{},p6,p3,{},{},p6,p3,{},{},p6,p3,{ mode:=3 },{ cC:=[false,true] }],[],[{},{},p6,p3,{},{},p6,p3,{},{},p6,p3,{ mode:=3 },p3,{ cC:=[false,true] }],[],[],(p_ [0,0,0,0,0,0,2,1,0,0,2,1,2,2,2,2]),[],(p_ [0,0,0,0,0,0,2,1,0,0,2,1,2,2,2,2]),[],[],[{},{},p6,p3,{},{},p6,p3,{},{},p6,p3,{ mode:=3 },{ cC:=[false,true] }],[],[{},{},p6,p3,{},{},p6,p3,{},{},p6,p3,{ mode:=3 },p3,{ cC:=[false,true] }],[],[],(p_ [0,0,0,0,0,0,2,1,0,0,2,1,2,2,2,2]),[],[],(p_ [0,0,0,0,0,0,2,1,0,0,2,1,2,2,2,2])] }
def adz:c':={ ops:=[[],[{},p3],(p_ [1,1,1]),[],[{},p3],(p_ [1,1,1]),(p_ [1,1,1]),[p3,p3,p3,{ cC:=[false,true] },p3,p6,p3]] }
def adA:c':={ ops:=[[],[{},p3],(p_ [1,1,1]),[],[{},p3],(p_ [1,1,1]),(p_ [1,1,1]),[{},p3],(p_ [1,1,1]),(p_ [1,1,1]),[p3,p3,p3,{ cC:=[false,true] },p3,p6,p3]] }
def Wt:c':={ ops:=[[],[{},p3],[],[{},p3],[{},{},{},p6,p3,{ mode:=6 }],[p3,p3],[p3,p3],[]],ig:=[(0,(ED false [0,2,5,2,10]))] }
def Wu:c':={ ops:=[[],[],(p_ [0,0,2,1]),[{},p3],[p3,p3,p3,p3,{ cC:=[false,true,true,true,true],mode:=1 }],[{},p3],[p3,p3,p3,p3,{ cC:=[false,true,true,true,true],mode:=1 }],[{},p3],[{},{},{},{},{ cC:=[false,true,true,true,true],mode:=1 }],(p_ [1,1,1]),[{},{},{},{},{ cC:=[false,true,true,true,true],mode:=1 },p3,{},p3,p3,p3],[{},p3],[{},{},{},{},{ cC:=[false,true,true,true,true],mode:=1 }],(p_ [0,1,1,0,2,2,1]),[],(p_ [0,1,0,2,1,1,1,2]),[{},{},{},{},{ cC:=[false,true,true,true,true],mode:=1 }],[{},p3,p3,{},{},{},p3,p6,p3,{},{},p6,p3,{ mode:=6 },p3,p3,{ cC:=[false,true] }],[{},p3,{},p3,{},{ cC:=[false,true,true,true,true,true],mode:=1 },p3],[p3,p3],[{},{},{},p3,{},{ cC:=[false,true,true,true,true,true],mode:=1 },p3,{},p3,p3,p3],[p3,p3],(p_ [0,0,2,0,0,2,1,1]),(p_ [1,1,1]),(p_ [0,0,2]),(p_ [1,1,2,1]),[{},p3,{},{},{},{ cC:=[false,true,true,true,true,true],mode:=1 }],(p_ [1,1,1]),(p_ [1,1,2,1]),[{},{},p3,p3,{},{},{ cC:=[false,true,true,true,true,true],mode:=1 }],[p3,p3]],ig:=[(0,(ED false [0,5,5,2,136]))] }
def Wv:c':={ ops:=[(p_ [0,1,1,0,1]),(p_ [0,0,2]),(p_ [1,1,1,1,1,1]),(p_ [0,0,0,0,0,0,2,1,0,0,2,1,2,2,2,2])],ig:=[(0,(ED false [0,1,1,2,24]))] }
def adB:c':={ ops:=[[],[{},p3],[{},p3],(p_ [1,0,1,0,1,2,2,1]),[{},p3],(p_ [0,0,1,2,1,2,1,1,2,1]),[p3,p3]] }
def Ww:c':={ ops:=[[],[{},p3,p3,p3,p3,{},p6,p3,p3,{},p6,p3,{},p3,p3,p3,p3,{},p6,p3,p3,{},p6,{ cC:=[false,false,true] },p3]] }
def Wx:c':={ ops:=[[],[p3,p3,{ mode:=3 },p3,p3]] }
def adD:c':={ ops:=[[],[],[],[{},p3,{},p6,p3,{},{},{},p6,p6,p3,{},{},{},p6,p3,p6,p3,{ mode:=3 },{ cC:=[false,true] }],[],[{},{},{},p6,p6,p3,{},{},{},p6,p6,p3,{ mode:=3 },p3],(p_ [0,0,0,2,0,0,0,2,0,0,0,2,2,1,0,0,0,2,2,1,2,2,2,2])] }
def adE:c':={ ops:=[[],(p_ [0,0,1,0,1,1,1,2,0,2]),(p_ [0,0,1,0,1,1,1,2,0,2]),(p_ [0,0,1,0,1,1,1,2,0,2])] }
def Wy:c':={ ops:=[[],(p_ [0,1,2,1])] }
def Wz:c':={ ops:=[(p_ [0,1,1]),(p_ [0,0,2]),(p_ [1,1,1]),[{},p3],[{},{},p6,p3,{},{},{},p6,p3,{},{},p3,p6,p3,{ mode:=6 },p3,{ cC:=[false,true] }],(p_ [1,1,1]),(p_ [0,0,0,0,1,0,0,1,2,1,0,0,2,1,2,2,2,2])],ig:=[(0,(ED false [0,4,4,1,44])),(2,(ED false [0,4,4,2,43]))] }
def adF:c':={ ops:=[[],[],[],[],[],[],[],[],[],[],(p_ [0,0,0,0,0,2,0,0,0,2,2,1,0,0,2,1,2,2,2,2])] }
def adH:c':={ ops:=[[],[],[],[],[],[],[],[],[],[],(p_ [0,0,0,0,0,2,0,0,0,2,2,1,0,0,2,1,2,2,2,2])] }
def adI:c':={ ops:=[[],[],[],(p_ [0,0,0,0,0,0,2,1,0,0,2,1,2,2,2,2])] }
def adJ:c':={ ops:=[[],[],[],[],[],[{},{},p6,p3,{},{},{},p6,p3,{},{},p3,p6,p3,{ mode:=6 },p3,p3,{ cC:=[false,true] }],[],[],[],[],[],(p_ [0,0,0,0,1,0,0,1,2,1,0,0,2,1,2,2,2,2]),[],[],[],[],[{},{},{},p6,p3,{},{},p3,p6,p3,{ mode:=6 },p3,p3],(p_ [0,0,0,0,1,0,0,1,2,1,0,0,2,1,2,2,2,2]),[],[],[],[],[{},{},{},p6,p3,{},{},p3,p6,p3,{ mode:=6 },p3,p3],(p_ [0,0,0,0,1,0,0,1,2,1,0,0,2,1,2,2,2,2])] }
def adK:c':={ ops:=[[],(p_ [0,0,0,0,0,0,2,1,0,0,2,1,2,2,2,2]),[],[{},{},p6,p3,{},{},{},p6,p3,{},{},p6,p3,{ mode:=6 },p3,p3,{ cC:=[false,true] }],[],[{},{},p6,p3,{},{},{},p6,p3,{},{},p6,p3,{ mode:=6 },p3,{ cC:=[false,true] }],[],[],(p_ [0,0,0,0,0,0,2,1,0,0,2,1,2,2,2,2])] }
def adL:c':={ ops:=[[],(p_ [0,0,0,0,0,0,2,1,0,0,2,1,2,2,2,2]),[],[{},{},p6,p3,{},{},{},p6,p3,{},{},p6,p3,{ mode:=6 },p3,{ cC:=[false,true] }],[],[{},{},p6,p3,{},{},{},p6,p3,{},{},p6,p3,{ mode:=6 },p3,p3,{ cC:=[false,true] }],[],[],(p_ [0,0,0,0,0,0,2,1,0,0,2,1,2,2,2,2]),[],(p_ [0,0,0,0,0,0,2,1,0,0,2,1,2,2,2,2]),[],[],[{},{},p6,p3,{},{},{},p6,p3,{},{},p6,p3,{ mode:=6 },p3,{ cC:=[false,true] }],[],[{},{},p6,p3,{},{},{},p6,p3,{},{},p6,p3,{ mode:=6 },p3,p3,{ cC:=[false,true] }],[],[],(p_ [0,0,0,0,0,0,2,1,0,0,2,1,2,2,2,2]),[],[],(p_ [0,0,0,0,0,0,2,1,0,0,2,1,2,2,2,2])] }
def R9:c':={ ops:=[[],[{},p3],[],[{},p3],(p_ [0,0,0,2,1,2]),[p3,p3],[p3,p3],[]],ig:=[(0,(ED false [0,2,5,2,10]))] }
def adM:c':={ ops:=[[],[{},{},p6,p3,{},{},p6,p3,{ mode:=3 }]] }
def adN:c':={ ops:=[[],[],[],[{},p3,{},p6,p3,{},{},{},{},p6,p6,p3,{},{},{},p6,p3,p6,p3,{ mode:=6 },p3,{ cC:=[false,true] }],[],[{},{},{},{},p6,p6,p3,{},{},{},p6,p6,p3,{ mode:=6 },p3,p3],(p_ [0,0,0,2,0,0,0,2,0,0,0,2,2,1,0,0,0,2,2,1,2,2,2,2])] }
def adP:c':={ ops:=[[],[p3,{},{},p6,p3,{},{},p6,p3,{ mode:=6 },p3]] }
def aeg:List c':=[{},{},adR,adS,{},{},{},Sd,N8,aec,R6,adr,adv,adC,adG,adO,WA,adQ,N6,N7,WB,R_,WC,WD,R',WE,PA,WG,{},WH,{},adT,{},adU,adV,WI,{},WJ,adW,adX,{},WK,WL,adY,{},adZ,{},WM,WN,PB,HC,Sa,WO,Sb,ad0,{},ad1,WQ,ad2,ad3,ad4,ad5,ad6,ad7,WR,WS,WT,WU,WV,Sc,WW,WX,WY,WZ,Se,W0,PC,Sf,{},MT,ad8,ad9,ad_,Lb,aea,aeb,{},{},{},W1,aed,aee,W2,W3,Sh,Si,W4,aef,W5,W6,Wh,adp,Wi,Wj,LL,Wk,Pz,Wl,Wm,Wn,R7,Wo,Wp,Wq,R8,Wr,ads,adt,{},adu,adw,Ws,adx,ady,adz,adA,Wt,Wu,Wv,adB,Ww,Wx,adD,{},adE,{},{},Wy,Wz,adF,adH,{},adI,adJ,adK,adL,R9,adM,adN,{},{},adP]
def jz (k:FuncId):c':=aeg.getD k {}
end Go.Proofs.YtfakoboiahbhaaaGreat.Ab


namespace Go.Proofs.YtfakoboiahbhaaaGreat.Ab
open Go
end Go.Proofs.YtfakoboiahbhaaaGreat.Ab


namespace Go.Proofs.YtfakoboiahbhaaaGreat.Ab
open Go
end Go.Proofs.YtfakoboiahbhaaaGreat.Ab


namespace Go.Proofs.YtfakoboiahbhaaaGreat.Ab
open Go
theorem dM:Go.Proofs.Tryz.prog.follows .mixedOrders=true:=by kernel_rfl
abbrev qD (k:FuncId) (args:List I) (v:I):Prop:=lv Go.Proofs.Tryz.prog k args v
abbrev hY (n:Int):I:=.int .i64 n
abbrev r9:I:=.junk
abbrev B (b:Bool):I:=.bool b
def js (l:List Int):I:=.ay (l.map hY) l.length .shared
def iD (l:List (List Int)):I:=.ay (l.map js) l.length .shared
theorem Ze (d:Nat) (l:List Int):(l.map hY).all (ct (d+1))=true:=by
 rw [sS];intro u hu;obtain ⟨x,_,rfl⟩:=sJ.1 hu;rfl
theorem Zd (d:Nat) (l:List Int):ct (d+2) (js l)=true:=Ze d l
theorem TZ (d:Nat) (l:List (List Int)):(l.map js).all (ct (d+2))=true:=by
 rw [sS];intro u hu;obtain ⟨x,_,rfl⟩:=sJ.1 hu;exact Zd d x
theorem aiN (d:Nat) (l:List (List Int)):ct (d+3) (iD l)=true:=TZ d l
theorem Ni (k:IntKind) (n:Int):ct 8 (.int k n)=true:=rfl
theorem Nq (b:Bool):ct 8 (.bool b)=true:=rfl
theorem Nj (l:List Int) (n:Nat) (c:iB):ct 8 (.ay (l.map hY) n c)=true:=Ze 6 l
theorem Nl (l:List (List Int)) (n:Nat) (c:iB):ct 8 (.ay (l.map js) n c)=true:=TZ 5 l
theorem Nk (l:List Int):ct 8 (js l)=true:=Zd 6 l
theorem Nm (l:List (List Int)):ct 8 (iD l)=true:=aiN 5 l
theorem Nr (k:FuncId):ct 8 (.func k [] [])=true:=rfl
theorem Ns (n:Nat) (c:iB):ct 8 (.ay [] n c)=true:=rfl
theorem KW (l:List (List Int)) (n:Nat) (c:iB):ct 8 (.agg [.ay (l.map js) n c])=true:=by
 show [I.ay (l.map js) n c].all (ct 7)=true;rw [tL,ux,uj];exact TZ 4 l
theorem Nn (l:List (List Int)):ct 8 (.agg [iD l])=true:=KW l _ _
theorem No (l:List (List Int)):ct 8 (.bW [iD l])=true:=KW l _ _
theorem Np (l:List (List Int)) (n:Nat) (c:iB):ct 8 (.bW [.ay (l.map js) n c])=true:=KW l _ _
theorem aic {α:Type} (f:α→I) (l:List α) (i:Nat) (h:i<l.length) {K:I→Prop} (k:K (f l[i])):eV ((l.map f).drop (i*1)) 0 K :=
 D1 (x:=f l[i]) (by simp [h]) k
theorem rJ (i:Nat) (h:i≤9223372036854775806):IntKind.i64.wrap ((i:Int)+1)=((i+1:Nat):Int):=by rw [IntKind.wrap_i64];omega
theorem I8 (n:Int) (ad:-9223372036854775808≤n) (af:n≤9223372036854775807):IntKind.i64.wrap n=n:=by rw [IntKind.wrap_i64];omega
theorem Zc:∀ {d:Nat} {v:I},ct d v=true→ct (d+1) v=true
 | 0,v,h=>by simp [ct] at h
 | d+1,v,h=>by
   have key:∀ {l:List I},l.all (ct d)=true→l.all (ct (d+1))=true:=fun h=>by
    rw [sS] at h ⊢;exact fun u hu=>Zc (h u hu)
   cases v <;> simp only [ct,sM,ub] at h ⊢ <;> first | trivial | exact key h | exact ⟨key h.1,key h.2⟩
theorem H6 {p:Prop} [Decidable p] {A C:Prop} (ad:p→A) (af:¬ p→C):(match decide p with | true=>A | false=>C):=by
 by_cases h:p
 ·simp only [h,decide_true];exact ad h
 ·simp only [h,decide_false];exact af h
theorem Hu {k:FuncId} {xs:List I} {v:I}:∀ p∈([]:dm),p.1=k→p.2.1=xs→p.2.2=v:=fun _ h=>by simp at h
theorem x9 {k k':FuncId} {xs ys:List I} {v bw:I} (h:k'=k→ys=xs→bw=v):∀ p∈([(k',ys,bw)]:dm),p.1=k→p.2.1=xs→p.2.2=v:=fun p aC=>by
 simp only [List.mem_singleton] at aC;subst aC;exact h
theorem HB {k:FuncId} {xs:List I} {v:I} {acc:dm} (h:acc.all (fun p=>p.1 != k)=true):∀ p∈acc,p.1=k→p.2.1=xs→p.2.2=v:=fun p aC e=>by
 have:=sS.1 h p aC;simp [e] at this
def GN (cap:List I):Prop:=cap.all (ct 7)=true∧∀ u∈cap,∃ cs,u=.bW cs
theorem GN.MS {cap:List I} (h:GN cap):cap.all (ct 8)=true:=by
 have ad:=h.1;rw [sS] at ad ⊢;exact fun u hu=>Zc (ad u hu)
theorem GN.iz {cap:List I} (h:GN cap) (H:List au):cap.map (iz H)=cap:=by
 conv=>rhs;rw [←vv cap]
 apply tY;intro u hu;obtain ⟨cs,rfl⟩:=h.2 u hu;rfl
theorem GN.hO {cap:List I} (h:GN cap) (H:List au):cap.map (hO H)=cap:=by
 conv=>rhs;rw [←vv cap]
 apply tY;intro u hu;obtain ⟨cs,rfl⟩:=h.2 u hu;rfl
theorem GN.cu {cap:List I} (h:GN cap):cap.map I.cu=cap:=by
 conv=>rhs;rw [←vv cap]
 apply tY;intro u hu;obtain ⟨cs,rfl⟩:=h.2 u hu;rfl
theorem GN.fn {cap:List I} (h:GN cap) (H:List au) (k:FuncId):Ab.iz H (.func k [] cap)=.func k [] cap:=by
 simp only [Ab.iz,h.hO,List.map_nil]
theorem GN.OQ {cap:List I} (h:GN cap) (k:FuncId):ct 8 (.func k [] cap)=true:=by
 show (([]:List I).all (ct 7) && cap.all (ct 7))=true;rw [h.1];rfl
theorem GN.nil:GN []:=⟨rfl,by simp⟩
section
variable {P:Program}
theorem call6 {k:FuncId} {xs bs:List I} {H:List au} {lo:Nat} {v:I} (ag:(xs.map (iz H)).map I.cu=bs) (aC:(xs.map (iz H)).all (ct 8)=true) (h:lv P k bs v) (ai:gl v=true):oz P 6 lo (.fn k) xs H v.cu H:=by
 subst ag;refine ⟨kZ (.fn k) ((xs.map (iz H)).map I.cu) [] 0 v [],D6 h.1,?_⟩;simp only [eZ,aC,D5,sq,o0 h.2,ai]
end
theorem XN {H:List au} {id d:Nat} {l:List I} (h:H[id]?=some (.cells l)) (aC:(l.map I.view).all (ct d)=true):bL H 0 H.length 0 (d+1) (.ptr id 0)=some (.bW (l.map I.view)):=by
 have ad:=(ss.1 h).1;have af:eh (bL H 0 H.length 0 d) (l.map I.view)=some (l.map I.view):=zz fun u hu=>o0 (by rw [sS] at aC;exact aC u hu);simp only [bL,Nat.not_lt_zero,if_false,h,tb,af,sB];rw [if_neg (by omega)]
def idxOf {α:Type} (p:α→Bool):List α→Nat→Int
 | [],_ => -1
 | x::l,i=>if p x=true then i else idxOf p l (i+1)
end Go.Proofs.YtfakoboiahbhaaaGreat.Ab


namespace Go.Proofs.YtfakoboiahbhaaaGreat.Ab
open Go
section
variable {P:Program}
theorem SK (dM:P.follows .mixedOrders=true) {k:Nat} {A:c'} {rc:eE} {n:Nat} {ts:List jt} (ak:zm P A k=some (rc,n,ts)) {lo:Nat} {args T:List I} {H H':List au} (bZ:args++List.replicate (n-args.length) .junk=T) {v:I} (pz:bd lo H H')
  (h:dG P A k lo none rc T H fun e fo H1=>(e=.normal∨e=.ret)∧jr H1 H'∧(j9 H1 fo ts).map hk=some v):Sem P (.fn k) args H lo v H':=by
 unfold zm at ak;split at ak
 ·rename_i f aQ;split at ak
  ·rename_i c ag;split at ak
   ·rename_i Gy FJ ad af aG a8;simp only [Option.some.injEq,Prod.mk.injEq] at ak;obtain ⟨rfl,rfl,rfl⟩:=ak;subst bZ;refine GG dM aQ ag (by simpa using af) ad pz (lk (fun e s a5=>?_) (xg aG h));obtain ⟨cd,b_,eb⟩:=a5;simp only [sr] at eb;obtain ⟨vs,eb,hy⟩:=eb;exact ⟨cd,b_,vs,by rw [xr _ _ a8,eb],hy⟩
   ·cases ak
  ·cases ak
 ·cases ak
end
theorem Hj {P:Program} (dM:P.follows .mixedOrders=true) {k:Nat} {A:c'} {rc:eE} {n:Nat} {ts:List jt} (ak:zm P A k=some (rc,n,ts)) {lo:Nat} {args T:List I} {H H':List au} (bZ:args++List.replicate (n-args.length) .junk=T) {v:I} (pz:bd lo H H')
  (h:∀ Q:cE→List I→List au→Prop,(∀ e fo H1,(e=.normal∨e=.ret)∧jr H1 H'∧(j9 H1 fo ts).map hk=some v→Q e fo H1)→dG P A k lo none rc T H Q):Sem P (.fn k) args H lo v H' :=
 SK dM ak bZ pz (h _ fun _ _ _ h=>h)
theorem IK {P:Program} {A:c'} {fn:FuncId} {lo:Nat} {rl:Option Nat} {c:eE} {T:List I} {H:List au} {K:cE→List I→List au→Prop} (h:∀ K':cE→List I→List au→Prop,(∀ e T H,K e T H→K' e T H)→dG P A fn lo rl c T H K'):dG P A fn lo rl c T H K:=h K fun _ _ _ h=>h
theorem Hv {P:Program} {lo:Nat} {b2:e'} {xs:List I} {H H':List au} {v:I} (h:Sem P b2 xs H lo v H'):oz P 1 lo b2 xs H v H' :=
 ⟨kZ b2 xs H lo v H',D6 h,by simp only [eZ,D5]⟩
theorem ZI {P:Program} {k:FuncId} {args:List I} {v:I} (cg:args.all (ct 8)=true) (h:lv P k args v) (H:List au):Sem P (.fn k) args H H.length v H:=by
 obtain ⟨⟨_,ad,af⟩,aC⟩:=h
 exact ⟨bd.refl _ _,ad,fun B U J S w vs ah aN ae=>CallsIn.mono (af B _ [] S w vs (y0 ah) (fun b i h=>by obtain ⟨_,_,h⟩:=lE h;cases h) (ae.pure cg)) fun e w' he=>by
  cases e with
  | returned v=>exact zR ah (o0 (n:=0) aC) he
  | panicked c=>exact he.elim
  | outgrown=>exact he.elim⟩
theorem aeB {P:Program} {k:FuncId} {args:List I} {v:I} (cg:args.all (ct 8)=true) (h:lv P k args v) (H:List au) (lo:Nat):oz P 0 lo (.fn k) args H v H :=
 ⟨_,D6 (ZI cg h H),by simp only [eZ,D5,sq,o0 h.2,sB]⟩
theorem q2 {X Z:List au} {j:Nat} {o:au} (h:X[j]?=some o):(X++Z)[j]?=some o:=by
 rw [sR (ss.1 h).1];exact h
theorem rE (X:List au) (c d_:au):(X++[c]).set X.length d_=X++[d_]:=by simp
theorem JA (X:List au) (c:au):(X++[c])[X.length]?=some c:=by simp
end Go.Proofs.YtfakoboiahbhaaaGreat.Ab


namespace Go.Proofs.YtfakoboiahbhaaaGreat.Ab
open Go
def qe:Nat:=18446744073709551616
theorem rR {n:Nat} (h:n≤9223372036854775808):n<qe:=by unfold qe;omega
def qh (p:Prop) [Decidable p] {aT:Type} (k:Option aT):Option aT:=if p then k else none
theorem qF {p:Prop} [Decidable p] {aT:Type} {k:Option aT} {v:aT} (h:qh p k=some v):p∧k=some v:=by
 unfold qh at h;split at h
 ·exact ⟨by assumption,h⟩
 ·cases h
theorem qx {p:Prop} [Decidable p] {aT:Type} {k:Option aT} (h:p):qh p k=k:=if_pos h
theorem qj {α aT:Type} {x:Option α} {f:α→Option aT} {v:aT} (h:x.bind f=some v):∃ a,x=some a∧f a=some v:=by
 cases x with
 | none=>cases h
 | some a=>exact ⟨a,rfl,h⟩
theorem rZ {b:Bool} {aT:Type} {x y:Option aT} {v:aT} (ag:b=true) (h:(if b=true then x else y)=some v):x=some v:=by
 rw [if_pos ag] at h;exact h
theorem r0 {b:Bool} {aT:Type} {x y:Option aT} {v:aT} (ag:b=false) (h:(if b=true then x else y)=some v):y=some v:=by
 rw [if_neg (by rw [ag];decide)] at h;exact h
theorem Ja (b:Bool):b=true∨b=false:=by cases b <;> simp
def ix {α:Type} [Inhabited α] (l:List α) (i:Int):α:=l.getD i.toNat default
theorem rm {α:Type} [Inhabited α] {l:List α} {k:Nat} (h:k<l.length):ix l (k:Int)=l[k]:=by
 simp [ix,h]
theorem Qb {α:Type} [Inhabited α] {l:List α} {i:Int} (h:0≤i∧i<(l.length:Int)):ix l i=l[i.toNat]'(by omega):=by
 have:i.toNat<l.length:=by omega
 simp [ix,this]
abbrev w (n:Int):Int:=IntKind.i64.wrap n
theorem aln {n:Int} (ad:-9223372036854775808≤n) (af:n≤9223372036854775807):w n=n:=I8 n ad af
theorem q_ {aT:Type} {v:aT} {G:Prop} (h:(none:Option aT)=some v):G:=by cases h
def adg {α:Type} (f:α→I) (l:List α):I:=.ay (l.map f) l.length .shared
def qv {α:Type} (f:α→List I) (l:List α):I:=.ay (l.flatMap f) l.length .shared
theorem rS {α:Type} [Inhabited α] (f:α→I) (l:List α) (n:Int) (h:0≤n∧n<(l.length:Int)):(l.map f).drop (n.toNat*1)=f (ix l n)::(l.drop (n.toNat+1)).map f:=by
 have aY:n.toNat<l.length:=by omega
 rw [tS,←List.map_drop,tf aY,sy,Qb h]
theorem qY {α:Type} [Inhabited α] (f:α→List I) (s:Nat) (ai:∀ x,(f x).length=s):∀ (l:List α) (n:Int),0≤n∧n<(l.length:Int)→(l.flatMap f).drop (n.toNat*s)=f (ix l n)++(l.drop (n.toNat+1)).flatMap f:=by
 have key:∀ (l:List α) (k:Nat) (h:k<l.length),(l.flatMap f).drop (k*s)=f l[k]++(l.drop (k+1)).flatMap f:=by
  intro l
  induction l with
  | nil=>intro k h;simp at h
  | cons x l bb =>
    intro k h;cases k with
    | zero=>simp
    | succ k =>
      (have av:k<l.length:=by simpa using h);(have e:(k+1)*s=(f x).length+k*s:=by rw [ai,tJ,vU,tF]);rw [uo,e,List.drop_length_add_append,bb k av];rfl
 intro l n h;rw [key l n.toNat (by omega),Qb h]
theorem ry {α:Type} (f:α→List I) (s:Nat) (ai:∀ x,(f x).length=s) (l:List α):(l.flatMap f).length=l.length*s:=by
 induction l with
 | nil=>simp
 | cons x l bb=>rw [uo,sA,bb,ai,List.length_cons,tJ,vU,tF]
theorem aej {α:Type} (f:α→I) (l m:List α) (c:iB):I.ay (l.map f++m.map f) (l.length+m.length) c=.ay ((l++m).map f) (l++m).length c:=by
 rw [ti,sA]
theorem J_ {α:Type} (f:α→I) (l:List α) (x:α) (c:iB):I.ay (l.map f++[f x]) (l.length+1) c=.ay ((l++[x]).map f) (l++[x]).length c:=by
 rw [ti,sA];rfl
theorem rI {α:Type} (f:α→List I) (l:List α) (x:α) (c:iB):I.ay (l.flatMap f++f x) (l.length+1) c=.ay ((l++[x]).flatMap f) (l++[x]).length c:=by
 simp [vh]
theorem Sj {α:Type} (f:α→List I) (l m:List α) (c:iB):I.ay (l.flatMap f++m.flatMap f) (l.length+m.length) c=.ay ((l++m).flatMap f) (l++m).length c:=by
 simp [vh]
theorem ZP {α:Type} (f:α→I) (l:List α) (n:Int) (h:0≤n∧n≤(l.length:Int)) (c:iB):I.ay ((l.map f).take (n.toNat*1)) n.toNat c=.ay ((l.take n.toNat).map f) (l.take n.toNat).length c:=by
 rw [tS,ta,←uI,tK (by omega)]
theorem O8 {α:Type} [Inhabited α] (f:α→I) (l:List α) (n:Int) (h:0≤n∧n<(l.length:Int)) {K:I→Prop} (k:K (f (ix l n))):eV (l.map f) (0+n.toNat*1) K:=by
 have aY:n.toNat<l.length:=by omega
 refine D1 (x:=f (ix l n)) ?_ k;rw [tc,tS,sN,sI aY,Qb h];rfl
theorem Pa {α:Type} (f:α→I) (l:List α) (n:Int) (x:α) (h:0≤n∧n<(l.length:Int)) {K:List I→Prop} (k:K ((l.set n.toNat x).map f)):jm (l.map f) (0+n.toNat*1) (f x) K:=by
 have aY:n.toNat<l.length:=by omega
 refine FO (by simpa using aY) ?_;rw [tc,tS,←u7];exact k
theorem Vc {α:Type} (f:α→I) (x:α):∀ n,e5 n [f x]=(List.replicate n x).map f
 | 0=>rfl
 | n+1=>by rw [e5,Vc f x n];rfl
theorem Wg {a b:Bool} (h:a=true) (k:b=true):(a && b)=true:=by rw [h,k];rfl
theorem p5 {α:Type} {f:α→Bool} {x:α} {l:List α} (h:f x=true) (k:l.all f=true):(x::l).all f=true:=Wg h k
theorem JD {cs:List I} {d:Nat} (h:cs.all (ct d)=true):ct (d+1) (.agg cs)=true:=h
theorem rj {cs:List I} {d:Nat} (h:cs.all (ct d)=true):ct (d+1) (.bW cs)=true:=h
theorem IX {cs:List I} {d:Nat} (h:cs.all (ct d)=true):ct (d+1) (.tuple cs)=true:=h
theorem JT {k:FuncId} {a b:List I} {d:Nat} (ad:a.all (ct d)=true) (af:b.all (ct d)=true):ct (d+1) (.func k a b)=true:=Wg ad af
theorem rO {α:Type} {f:α→I} {d:Nat} (h:∀ x,ct d (f x)=true) (l:List α) (n:Nat) (c:iB):ct (d+1) (.ay (l.map f) n c)=true:=by
 show (l.map f).all (ct d)=true;rw [sS];intro u hu;obtain ⟨x,_,rfl⟩:=sJ.1 hu;exact h x
theorem q7 {α:Type} {f:α→List I} {d:Nat} (h:∀ x,(f x).all (ct d)=true) (l:List α) (n:Nat) (c:iB):ct (d+1) (.ay (l.flatMap f) n c)=true:=by
 show (l.flatMap f).all (ct d)=true;rw [sS];intro u hu;obtain ⟨x,_,al⟩:=vw.1 hu;exact sS.1 (h x) u al
theorem Zb {α:Type} {f:α→I} {d:Nat} (h:∀ x,ct d (f x)=true) (l:List α):(l.map f).all (ct d)=true:=by
 rw [sS];intro u hu;obtain ⟨x,_,rfl⟩:=sJ.1 hu;exact h x
theorem lv.cu {P:Program} {k:FuncId} {args:List I} {v:I} (h:lv P k args v) (aC:ct 8 v.cu=true):lv P k args v.cu :=
 ⟨⟨h.1.1,h.1.2.1,fun B U J S w vs ah aN ae=>CallsIn.mono (h.1.2.2 B U J S w vs ah aN ae) fun e w' he=>by
   cases e with
   | returned x=>exact a3.cu he
   | panicked c=>exact he.elim
   | outgrown=>exact he.elim⟩,aC⟩
section
variable {P:Program} {B:Nat} {J:List Nat} {w:World} {U:Nat→Option aI} {S:Nat→Nat→Prop}
theorem a3.aa4 {H':List au} {r:I} {v:Value} {w':World} (h:a3 B U J S w H' r v w'):a3 B U J S w H' r.settle.view.cu v w':=by
 have ad:a3 B U J S w H' r.settle v w':=by
  cases r with
  | ay c n k=>cases k with
    | uniq z=>exact h.settle
    | _=>exact h
  | _=>exact h
 have af:r.settle.cW=true:=by
  cases r with
  | ay c n k=>cases k <;> rfl
  | _=>rfl
 obtain ⟨bq,cj,bJ,a,b,c,d,e⟩:=ad;exact a3.cu ⟨bq,cj,bJ,a,b,c,d.view af,aW.b5 (I.dk _)⟩
theorem aiQ (dM : P.follows .mixedOrders = true) {k : Nat} {f : Func} {c : Code} (aQ : P.funcs[k]? = some f) (ag : f.body = some c) (aN : f.name ≠ "runtime.NumGoroutine") {A : c'} (bQ : codeOk A c = true)
  {args:List I} {v:I} (aC:ct 8 v=true)
  (h:c6 P A k 0 none c 0 ⟨args++List.replicate (f.ntmps-args.length) .junk,[]⟩ fun e s=>(e=.normal∨e=.ret)∧∃ vs r,fl P s.H s.T f.results.toList=some vs∧bL s.H 0 s.H.length 0 8 (hk vs)=some r∧r.settle.view.cu=v):lv P k args v:=by
 refine ⟨⟨bd.refl _ _,⟨f,aQ,by simp [ag],aN⟩,fun B U J S w xs ah _ ae=>?_⟩,aC⟩;refine callsIn_of_wp_marks aQ ag trivial ?_;have aK:=xU ah ae f.ntmps;have de:=(oq ah).1;refine ov dM c 0 _ _ h bQ Fence.wide _ B w.heap.size J w (hR U) S _ (.inl ⟨rfl,rfl⟩) (fun l a w aO=>aO.elim) aK fun e s av aM w' ai=>?_;obtain ⟨he,vs,r,aj,Cx,eo⟩:=av;obtain ⟨b4,cT,a6,aJ,aP,cb⟩:=ai;have iS:LeavesInM Fence.wide 0 P f aM.tmps (fA B U J S w [] v) aM.defers .returning w':=by
  refine nN (U:=b4) (S:=a6) (J:=cT) (B:=B) (H:=s.H) (lu:=U) (S0:=S) (w0:=w) aM.defers w' cb.M.2.1 cb.M.2.2 (de.trans aP) cb.H fun bV dx dq mu mv=>?_
  have bZ:a' .slot b4 cT a6 bV s.T aM.tmps.toList:=⟨cb.T.len,fun i u v hu ae=>(cb.T.rel i u v hu ae).mono (Ext.refl _) (fun b o h=>⟨h,dq b o h⟩),fun i u v hu ae =>
   (cb.T.own i u v hu ae).mono (Ext.refl _) (fun b o h=>⟨h,dq b o h⟩) fun b ag=>⟨ag,dx b _ ag,fun _ h=>h⟩⟩
  obtain ⟨x,aV,aX⟩:=xy mv bZ aj;have nA:=xo ah (fun id aE=>by simp at aE) Cx (a3.after aJ mu aX);refine ⟨x,aV,?_⟩;rw [←eo];exact nA.aa4
 rcases he with rfl | rfl
 ·exact iS
 ·exact iS
end
inductive IP (rs:List jt) (v:I) (e:cE) (T:List I) (H:List au):Prop where
 | mk (he:e=.normal∨e=.ret) (vs:List I) (aj:j9 H T rs=some vs) (r:I) (aQ:bL H 0 H.length 0 8 (hk vs)=some r) (ae:r.settle.view.cu=v)
theorem qZ {P:Program} (dM:P.follows .mixedOrders=true) {k:Nat} {A:c'} {rc:eE} {n:Nat} {ts:List jt} (ak:zm P A k=some (rc,n,ts)) {args T:List I} (bZ:args++List.replicate (n-args.length) .junk=T) {v:I} (aC:ct 8 v=true)
  (h:∀ Q:cE→List I→List au→Prop,(∀ e T H,IP ts v e T H→Q e T H)→dG P A k 0 none rc T [] Q):lv P k args v:=by
 have h:=h _ fun _ _ _ h=>h;unfold zm at ak;split at ak
 ·rename_i f aQ;split at ak
  ·rename_i c ag;split at ak
   ·rename_i Gy FJ ad af aG a8;simp only [Option.some.injEq,Prod.mk.injEq] at ak;obtain ⟨rfl,rfl,rfl⟩:=ak;subst bZ;have a5:∀ e s,IP FJ v e (a7.T s) (a7.H s)→(e=.normal∨e=.ret)∧∃ vs r,fl P s.H s.T f.results.toList=some vs∧bL s.H 0 s.H.length 0 8 (hk vs)=some r∧r.settle.view.cu=v:=fun e s ⟨cd,vs,B3,r,b_,eb⟩=>by
     exact ⟨cd,vs,r,by rw [xr _ _ a8,B3],b_,eb⟩
    exact aiQ dM aQ ag (by simpa using af) ad aC (lk a5 (xg aG h))
   ·cases ak
  ·cases ak
 ·cases ak
theorem wp_loop {P:Program} {A:c'} {fn:FuncId} {lo:Nat} {rl:Option Nat} {cG:List Bool} {c:eE} {T Wb:List I} {H:List au} {Q:cE→List I→List au→Prop} (bZ:eX cG T=Wb)
  (h:Bo (fun T H Q=>nX T fun T=>dG P A fn lo rl c T H fun e a9 H'=>match e with
   | .normal=>p0 (some cG) a9 fun a9=>Q .normal a9 H'
   | e=>Q e a9 H') Wb H Q):dG P A fn lo rl (.loop (some cG) c) T H Q:=by
 show p0 (some cG) T _;rw [Dm];subst bZ;exact h
def Ql {α:Type} (f:α→List I):Option α→I
 | none=>.eH
 | some x=>.bW (f x)
theorem Za {α:Type} {f:α→List I} {d:Nat} (h:∀ x,(f x).all (ct d)=true) (x:Option α):ct (d+1) (Ql f x)=true:=by
 cases x with
 | none=>rfl
 | some x=>exact h x
abbrev qQ (n:Int):I:=.int .u8 n
theorem TM {f:I→Option I}:eh f []=some []:=rfl
theorem Qe {f:I→Option I} {x y:I} {l r:List I} (h:f x=some y) (k:eh f l=some r):eh f (x::l)=some (y::r):=by simp only [eh,h,k,sB]
theorem afw {H:List au} {lo i n d:Nat} {vs rs:List I} (h:eh (bL H lo i n d) vs=some rs):bL H lo i n (d+1) (.tuple vs)=some (.tuple rs):=by simp only [bL,h,sB]
theorem ajU {α:Type} {f:α→I} {H:List au} {id n:Nat} {l:List α} {cap:Option Nat} (ah:H[id]?=some (.cells (l.map f))) (aN:n=l.length) (ae:∀ x,(f x).view=f x):rowOf H (.ref id 0 n cap 1)=some (l.map f):=by
 subst aN;simp only [rowOf,ah,tc,tS,tj,sx,if_true,tb];rw [ui (by simp),uD];congr 1;exact tY fun x _=>ae x
theorem afv {α:Type} {f:α→I} {H:List au} {id n d:Nat} {l:List α} {cap:Option Nat} (ah:H[id]?=some (.cells (l.map f))) (aN:n=l.length) (aC:∀ x,ct d (f x)=true) (ae:∀ x,(f x).view=f x):bL H 0 H.length 0 (d+1) (.ref id 0 n cap 1)=some (.ay (l.map f) n (g2 cap n)):=by
 have ad:=(ss.1 ah).1;have af:eh (bL H 0 H.length 0 d) (l.map f)=some (l.map f):=zz fun u hu=>by
  obtain ⟨x,_,rfl⟩:=sJ.1 hu;exact o0 (aC x)
 simp only [bL,Nat.not_lt_zero,if_false,ajU ah aN ae,af,sB];rw [if_neg (by omega)]
theorem ae_ (cs:List I) (n m:Nat) (c:Option Nat):I.g0 (.ay cs n (g2 c m))=.ay cs n .shared:=by
 unfold g2;split
 ·split <;> rfl
 ·rfl
theorem IS {P:Program} {k:FuncId} {xs cs bs:List I} {H:List au} {lo:Nat} {v:I} (ai:xs.map (iz H)=cs) (ag:cs.map I.cu=bs) (aC:cs.all (ct 8)=true) (h:lv P k bs v) (ae:gl v=true):oz P 6 lo (.fn k) xs H v.cu H :=
 call6 (by rw [ai,ag]) (by rw [ai];exact aC) h ae
theorem rB {f:I→I} {x y:I} {l r:List I} (h:f x=y) (k:l.map f=r):(x::l).map f=y::r:=by rw [sy,h,k]
theorem r6 {f:I→I}:([]:List I).map f=[]:=rfl
theorem Kt {H:List au} {k:FuncId} {a b aM ar:List I} (ad:a.map (hO H)=aM) (af:b.map (hO H)=ar):iz H (.func k a b)=.func k aM ar:=by simp only [iz,ad,af]
theorem I3 {H:List au} {id off:Nat} {cs ds:List I} (ah:H[id]?=some (.cells cs)) (he:((cs.drop off).map I.view).map (kf H)=ds):hO H (.ptr id off)=.bW ds:=by simp only [hO,ah,he]
theorem aiq {P:Program} {C:b8} {lo mode:Nat} {o:Oper} {xs:Array Operand} {ts:Array TypeId} {vs:List I} {H:List au} (aq:o.op=.call { callee:=.builtin .copy,args:=xs,argTypes:=ts }):a_ P C lo o mode vs H=j3 P lo ts H vs:=by
 unfold a_;rw [aq];rfl
theorem aeY {α:Type} {P:Program} {f:α→I} {lo id n:Nat} {H:List au} {l m:List α} {cap:Option Nat} {c:iB} {e:TypeId} {ts:Array TypeId} (e1:(ts[0]?).bind P.underlying=some (.slice e)) (cm:bU P e=some 1) (bG:lo≤id)
  (ah:H[id]?=some (.cells (l.map f))) (aN:n=l.length) (hm:m.length=n):j3 P lo ts H [.ref id 0 n cap 1,.ay (m.map f) m.length c]=some (.int .i64 (m.length:Int),H.set id (.cells (m.map f))):=by
 have oQ:setCells 0 (m.map f) (l.map f)=m.map f:=by
  apply ud;intro j;rw [oe _ _ _ _ (by simp;omega)];by_cases aw:j<m.length
  ·rw [if_pos ⟨by omega,by simpa using aw⟩];simp
  ·rw [if_neg (by simp;omega),tQ (by simp;omega),tQ (by simpa using aw)]
 subst aN;unfold j3;simp only [e1,cm,lenOf,rowOf,hd,ah,if_pos bG];rw [if_pos ⟨trivial,by simp⟩,if_pos (by simp),hm,Nat.min_self,tS,ui (by simp;omega),oQ];rfl
def IC {α K6:Type} (g:K6→α→Option K6):List α→K6→Option K6
 | [],s=>some s
 | x::l,s=>(g s x).bind fun t=>IC g l t
theorem SL {α K6:Type} {g:K6→α→Option K6}:∀ {l:List α} {s t:K6},IC g l s=some t→∃ F:Nat→K6,F 0=s∧F l.length=t∧∀ (i:Nat) (h:i<l.length),g (F i) l[i]=some (F (i+1))
 | [],s,t,h=>⟨fun _=>s,rfl,Option.some.inj h,fun i hi=>absurd hi (by simp)⟩
 | x::l,s,t,h=>by
   obtain ⟨u,ad,af⟩:=qj h;obtain ⟨F,f1,f2,f3⟩:=SL af;refine ⟨fun i=>match i with | 0=>s | i+1=>F i,rfl,f2,fun i hi=>?_⟩;cases i with
   | zero=>show g s x=some (F 0);rw [f1,ad]
   | succ i=>exact f3 i (by simpa using hi)
def Seq (P:Program) (k:FuncId) (cap:List I) (E:List I):Prop :=
 ∀ (l N:Nat) (r3:Nat→List au),(∀ i,(r3 i).length=N)→l<N →
   (∀ (i:Nat) (h:i<E.length) (Y:List au),∃ rK,Sem P (.yield l) [E[i]] (r3 i++Y) 0 (.bool true) (r3 (i+1)++rK)) →
   ∀ Y,∃ rK,Sem P (.fn k) (.yield l::cap) (r3 0++Y) 0 (.tuple []) (r3 E.length++rK)
theorem Qd {H X:List au} (h:H.length≤X.length):bd 0 H X:=⟨h,fun _ h _=>absurd h (by omega)⟩
theorem ZL (X Y:List au) (c d:au):((X++[c])++Y).set X.length d=(X++[d])++Y:=by
 rw [sD,List.set_append_right _ _ (sx _)];simp
theorem PM (X Y:List au) (c:au):((X++[c])++Y)[X.length]?=some c:=by
 rw [sD,sZ (sx _)];simp
theorem ajM {α:Type} {P:Program} {A:c'} {fn:FuncId} {rl:Option Nat} {k:FuncId} {cap:List I} {bl:List Nat} {gB b0:Code} {T:List I} {H N3:List au} {Q:cE→List I→List au→Prop} {f:α→I} {L:List α} (OI:Seq P k cap (L.map f))
  (Obj:Nat→List au) (aS:Obj 0=H) (hlen:∀ i,(Obj i).length=H.length)
  (OH:∀ (i:Nat) (h:i<L.length) (Y:List au),∃ rK,Sem P (.yield H.length) [f L[i]] ((Obj i++[.loop .ready none fn (T.map I.view) bl gB b0 A])++Y) 0 (.bool true) ((Obj (i+1)++[.loop .ready none fn (T.map I.view) bl gB b0 A])++rK))
  (g6:inLoop H rl=true) (aN:Obj L.length=N3) (bo:∀ rK,Q .normal (T.map I.settle) ((N3++[.dead])++rK)):n' P A fn 0 rl (.func k [] cap) bl gB b0 T H Q:=by
 obtain ⟨rK,cp⟩:=OI H.length (H.length+1) (fun i=>Obj i++[.loop .ready none fn (T.map I.view) bl gB b0 A]) (fun i=>by simp [hlen]) (by omega) (fun i h Y=>by
  have aY:i<L.length:=by simpa using h
  obtain ⟨rK,aj⟩:=OH i aY Y
  exact ⟨rK,by rw [List.getElem_map];exact aj⟩) []
 subst aN;simp only [sU,tj,aS] at cp;have ak:(Obj L.length).length=H.length:=hlen _;refine ⟨g6,.tuple [],_,.ready,none,fn,T.map I.view,bl,gB,b0,A,cp,by rw [←ak];exact PM _ _ _,by decide,?_⟩;show Q .normal (T.map I.settle) (((Obj L.length++[au.loop .ready none fn (T.map I.view) bl gB b0 A])++rK).set H.length .dead);rw [←ak,ZL];exact bo rK
end Go.Proofs.YtfakoboiahbhaaaGreat.Ab


namespace Go.Proofs.YtfakoboiahbhaaaGreat.Ab
open Go
theorem afr {H:List au} {lo i n d:Nat} {k:FuncId} {a b aM ar:List I} (ad:eh (bL H lo i n d) a=some aM) (af:eh (bL H lo i n d) b=some ar):bL H lo i n (d+1) (.func k a b)=some (.func k aM ar):=by simp only [bL,ad,af]
theorem ajN {α:Type} {P:Program} {A:c'} {fn:FuncId} {rl:Option Nat} {k:FuncId} {cap:List I} {t:Nat} {bl:List Nat} {gB b0:Code} {T:List I} {H N3:List au} {Q:cE→List I→List au→Prop} {f:α→I} {L:List α} (OI:Seq P k cap (L.map f))
  (Obj:Nat→List au) (ax:c8 T t=.func k [] cap) (aS:Obj 0=H) (hlen:∀ i,(Obj i).length=H.length)
  (OH:∀ (i:Nat) (h:i<L.length) (Y:List au),∃ rK,Sem P (.yield H.length) [f L[i]] ((Obj i++[.loop .ready none fn (T.map I.view) bl gB b0 A])++Y) 0 (.bool true) ((Obj (i+1)++[.loop .ready none fn (T.map I.view) bl gB b0 A])++rK))
  (g6:inLoop H rl=true) (aN:Obj L.length=N3) (bo:∀ rK,Q .normal (T.map I.settle) ((N3++[.dead])++rK)):dG P A fn 0 rl (.Au (.sl t) bl gB b0) T H Q:=by
 show hz T t _;rw [iM,ax];exact ajM OI Obj aS hlen OH g6 aN bo
end Go.Proofs.YtfakoboiahbhaaaGreat.Ab


namespace Go.Proofs.YtfakoboiahbhaaaGreat.Ab
open Go
theorem afn {α:Type} [Inhabited α] (f:α→List I) (s:Nat) (ai:∀ x,(f x).length=s) (l:List α) (n:Int) (h:0≤n∧n<(l.length:Int)) (j:Nat) (aw:j<s):(l.flatMap f)[n.toNat*s+j]?=(f (ix l n))[j]?:=by
 have e:=qY f s ai l n h
 have:(l.flatMap f)[n.toNat*s+j]?=((l.flatMap f).drop (n.toNat*s))[j]?:=by rw [tq]
 rw [this,e,sR (by rw [ai];exact aw)]
theorem ajC {α:Type} [Inhabited α] (f:α→List I) (s:Nat) (ai:∀ x,(f x).length=s) (l:List α) (n:Int) (h:0≤n∧n<(l.length:Int)) (j:Nat) {v:I} (aw:(f (ix l n))[j]?=some v) {K:I→Prop} (k:K v):eV (l.flatMap f) (0+n.toNat*s+j) K:=by
 refine D1 (x:=v) ?_ k;rw [tc,afn f s ai l n h j (by have:=(ss.1 aw).1;rw [ai] at this;exact this),aw]
theorem ajD {α:Type} [Inhabited α] (f:α→List I) (s:Nat) (ai:∀ x,(f x).length=s) (l:List α) (n:Int) (h:0≤n∧n<(l.length:Int)) {v:I} (aw:(f (ix l n))[0]?=some v) {K:I→Prop} (k:K v):eV (l.flatMap f) (0+n.toNat*s) K :=
 ajC f s ai l n h 0 aw k
theorem afs {P:Program} {C:b8} {lo id n:Nat} {cap:Option Nat} {o:Oper} {x:Operand} {H:List au} {cs:List I} {sz:Nat} (aq:o.op=.move x) (bG:lo≤id) (ah:H[id]?=some (.cells cs)) (aN:cs.length=n*sz) (ae:∀ u∈cs,u.view=u) :
  a_ P C lo o 2 [.ref id 0 n cap sz] H=some (.ay cs n (g2 cap n),H.set id .dead):=by
 unfold a_;rw [aq];show eW P lo 2 o.type x H [.ref id 0 n cap sz]=_;unfold eW;simp only [bG,if_true,rowOf,ah,lenOf,tc];have e:cs.map I.view=cs:=(tY (g:=fun u=>u) ae).trans (List.map_id' cs);rw [if_pos (by omega),tb,ui (by omega),e];rfl
theorem aft {P:Program} {C:b8} {lo id n m:Nat} {cap:Option Nat} {o:Oper} {x:Operand} {H:List au} {cs:List I} {sz:Nat} (aq:o.op=.move x) (bG:lo≤id) (ah:H[id]?=some (.cells cs)) (CT:n=m) (aN:cs.length=m*sz) (ae:∀ u∈cs,u.view=u) :
  a_ P C lo o 2 [.ref id 0 n cap sz] H=some (.ay cs m (g2 cap m),H.set id .dead):=by
 subst CT;exact afs aq bG ah aN ae
theorem akX {α:Type} {f:α→I} (h:∀ x,(f x).view=f x) (l:List α):∀ u∈l.map f,u.view=u:=fun u hu=>by
 obtain ⟨x,_,rfl⟩:=sJ.1 hu;exact h x
end Go.Proofs.YtfakoboiahbhaaaGreat.Ab


namespace Go.Proofs.YtfakoboiahbhaaaGreat.Ab
open Go
theorem HF {n:Int} (h:-9223372036854775808≤n∧n≤9223372036854775807):w n=n:=aln h.1 h.2
theorem r4 (i:Nat) (h:i≤9223372036854775806):w ((i:Int)+1)=((i+1:Nat):Int):=rJ i h
theorem JC {i n:Nat} {aT:Type} {x y:Option aT} (h:i<n):(if (decide ((i:Int)<(n:Int)))=true then x else y)=x:=by rw [if_pos (decide_eq_true (by omega))]
theorem JB {i n:Nat} {aT:Type} {x y:Option aT} (h:¬ i<n):(if (decide ((i:Int)<(n:Int)))=true then x else y)=y:=by rw [if_neg (by rw [decide_eq_true_eq];omega)]
theorem HH {i n:Nat} {aT:Type} {x:Option aT} (h:i<n):qh (0≤(i:Int)∧(i:Int)<(n:Int)) x=x:=qx ⟨by omega,by omega⟩
end Go.Proofs.YtfakoboiahbhaaaGreat.Ab


namespace Go.Proofs.YtfakoboiahbhaaaGreat.Ab
open Go
def p4 (p:Int×Int):List I:=[hY p.1,hY p.2]
theorem qy (p:Int×Int):(p4 p).length=2:=rfl
theorem XG {α:Type} (f:α→List I) (s:Nat) (ai:∀ x,(f x).length=s):∀ (l:List α) (k:Nat),k≤l.length→(l.flatMap f).drop (k*s)=(l.drop k).flatMap f
 | l,0,_=>by rw [vH,tb,tb]
 | [],k+1,h=>absurd h (by simp)
 | x::l,k+1,h=>by
   (have e:(k+1)*s=(f x).length+k*s:=by rw [ai,tJ,vU,tF]);rw [uo,e,List.drop_length_add_append,XG f s ai l k (by simpa using h),List.drop_succ_cons]
theorem XI {α:Type} (f:α→List I) (s:Nat) (ai:∀ x,(f x).length=s):∀ (l:List α) (k:Nat),k≤l.length→(l.flatMap f).take (k*s)=(l.take k).flatMap f
 | l,0,_=>by rw [vH,tu,tu];rfl
 | [],k+1,h=>absurd h (by simp)
 | x::l,k+1,h=>by
   (have e:(k+1)*s=(f x).length+k*s:=by rw [ai,tJ,vU,tF]);rw [uo,e,List.take_length_add_append,XI f s ai l k (by simpa using h),vj,uo]
theorem Nz {α:Type} (f:α→List I) (s:Nat) (ai:∀ x,(f x).length=s) (l:List α) (n:Int) (h:0≤n∧n≤(l.length:Int)) (c:iB):I.ay ((l.flatMap f).take (n.toNat*s)) n.toNat c=.ay ((l.take n.toNat).flatMap f) (l.take n.toNat).length c:=by
 rw [XI f s ai l _ (by omega),ta,tK (by omega)]
theorem QM {α:Type} (f:α→List I) (s:Nat) (ai:∀ x,(f x).length=s) (l:List α) (n:Int) (h:0≤n∧n≤(l.length:Int)) (c:iB):I.ay (((l.flatMap f).drop (n.toNat*s)).take ((l.length-n.toNat)*s)) (l.length-n.toNat) c=.ay ((l.drop n.toNat).flatMap f) (l.drop n.toNat).length c:=by
 rw [XG f s ai l _ (by omega),uq,ui (by rw [ry f s ai,uq];exact sx _)]
theorem Xx (k:IntKind):∀ (xs ys:List Int),xs.length=ys.length→dP (xs.map (.int k)) (ys.map (.int k))=some (decide (xs=ys))
 | [],[],_=>rfl
 | x::xs,y::ys,h=>by
   simp only [sy,dP,if_true,Xx k xs ys (by simpa using h),sB];congr 1;by_cases al:x=y <;> by_cases ak:xs=ys <;> simp [al,ak]
 | [],y::ys,h=>by cases h
 | x::xs,[],h=>by cases h
theorem adj {P:Program} {t e:TypeId} {len:Nat} {kd:IntKind} (k:IntKind) (ad:P.underlying t=some (.array len e)) (af:P.underlying e=some (.int kd)) (aG:bU P e=some 1) (a8:P.eqGuardType P.depth t=false) {xs ys:List Int} (al:xs.length=len) (a2:ys.length=len) :
  fp P .eql t (.agg (xs.map (.int k))) (.agg (ys.map (.int k)))=some (.bool (decide (xs=ys))):=by
 unfold fp;simp only [ad,af,aG];rw [if_pos ⟨by simp [al],by simp [a2],a8⟩,Xx k xs ys (by rw [al,a2]),sB]
theorem aip {P:Program} {C:b8} {lo:Nat} {o:Oper} {op:BinOp} {t u:TypeId} {a b:Operand} {x y v:I} {H:List au} (aq:o.op=.binOp op t a b u) (aN:iY b=false) (h:fp P op t x y=some v):a_ P C lo o 0 [x,y] H=some (v,H):=by
 unfold a_;rw [aq];show (cA P o [x,y]).map _=_;unfold cA;rw [aq];simp only [aN];show (fp P op t x y).map _=_;rw [h];rfl
end Go.Proofs.YtfakoboiahbhaaaGreat.Ab


namespace Go.Proofs.YtfakoboiahbhaaaGreat.Ab
open Go
section
variable {P:Program} {B N:Nat} {J:List Nat} {w:World} {H:List au} {U:Nat→Option aI} {S:Nat→Nat→Prop}
theorem alq (dM:P.follows .mixedOrders=true) {l lo:Nat} {fn:FuncId} {T a9:List I} {bl:List Nat} {gB b0:Code} {an:c'} {args:List I} {H':List au} {id:Nat}
  (ak:H[l]?=some (.loop .ready none fn T bl gB b0 an)) (eo:hq bl args T=some a9) (pz:bd lo H H')
  (h:c6 P an fn lo (some l) gB 0 ⟨a9,H⟩ fun e s1=>e=.normal∧s1.H[l]?=some (.loop .ready none fn T bl gB b0 an) ∧
   c6 P an fn lo (some l) b0 0 ⟨s1.T,s1.H.set l (.loop .busy none fn T bl gB b0 an)⟩ fun e s2=>e=.exit id∧s2.H[l]?=some (.loop .busy none fn T bl gB b0 an)∧jr (s2.H.set l (.loop .done (some (.exit id)) fn T bl gB b0 an)) H') :
  Sem P (.yield l) args H lo (.bool false) H':=by
 refine ⟨pz,fun B U J S w xs b ah _ ae ag=>?_⟩;obtain ⟨bc,bn,ar,L,aB,aH,aR,bm,bf,bj,c4,dd,dI,fC,oD⟩:=ah.obj l _ ak;rw [ag] at aB;cases aB;have cM:=xQ bl args T a9 xs L.tmps.toList eo ae.len (by simpa using c4.symm);obtain ⟨cd,b_,eb,hy⟩:=cM;refine ⟨L,aR,by rw [←ae.len,←cd,←dI];simp,?_⟩;refine roundIn_of_wpIn trivial ?_;have mh:(hM L xs).toList=(bl.zip xs).foldl (fun (l:List Value) (p:Nat×Value)=>l.set p.1 p.2) L.tmps.toList:=by rw [Aw,dI]
 obtain ⟨de,fI⟩:=Ba bl ah;have aK:cv B w.heap.size (gT bl U) J S w ⟨a9,H⟩ { tmps:=hM L xs,defers:=[] }:=by
  refine ⟨?_,fI,sx _,fun d a1=>by simp at a1,List.Pairwise.nil⟩;simp only [mh];have key:∀ (i:Nat) (u:I) (x:Value),a9[i]?=some u→((bl.zip xs).foldl (fun (l:List Value) (p:Nat×Value)=>l.set p.1 p.2) L.tmps.toList)[i]?=some x →
    Rel J S w u x∧aW (gT bl U) J S w (.slot i) u x:=fun i u x hu al=>by
   rcases hy i u x hu al with ⟨aJ,aP⟩ | ⟨j,aJ,aP,cl⟩
   ·obtain ⟨bT,b6⟩:=dd i u x aJ (by simpa using aP);exact ⟨b6,aW.b5 bT⟩
   ·exact ⟨ae.rel j u x aP cl,(ae.own j u x aP cl).mono (Ext.refl J) (fun _ _ h=>⟨h,rfl⟩) fun b ag=>⟨by simp [gT,ag,aJ],rfl,fun _ h=>h⟩⟩
  exact ⟨by rw [b_,eb,←c4];simp,fun i u x hu al=>(key i u x hu al).1,fun i u x hu al=>(key i u x hu al).2⟩
 rw [fC,oD];refine ov dM gB 0 _ _ h bc _ _ B w.heap.size J w (gT bl U) S _ (.inr ⟨l,b,rfl,ag,rfl⟩) (fun l a w aO=>aO) aK fun e1 s1 av aB bF ai=>?_;obtain ⟨rfl,hG,af⟩:=av;obtain ⟨b4,cT,a6,aJ,aP,cb⟩:=ai;have e0:cT[l]?=some b:=aJ _ _ ag;obtain ⟨_,_,ar,js,d1,d2,d3,d4,d5,_⟩:=cb.H.obj l _ hG;rw [e0] at d1;cases d1;obtain ⟨ea,o4⟩:=cb.loop hG e0 d3 .busy none;have pa:(Instr.beginRound b).run P bF=.ok () (bF.putObj b (.loop { js with state:=.busy,pending:=none })):=by
  rw [run_beginRound d3 d4]
  have:({ js with state:=.busy,pending:=none }:Loop)={ js with state:=.busy }:=by rw [←d5]
  rw [this]
 refine ⟨_,pa,?_⟩;refine wpIn_mono (Q:=fun cP aM w'=>(∀ t,cP≠Exit.goto t)∧roundPost P b (fA B U J S w H' (.bool false)) cP aM w') ?_ (fun e a w h=>h.2);refine ov dM b0 0 _ _ af bn _ _ B w.heap.size cT _ b4 a6 _ (.inr ⟨l,b,rfl,e0,rfl⟩) (fun l a w aO=>aO.1 l rfl) o4 fun cm s2 av aH bV ai=>?_;obtain ⟨rfl,fg,kB⟩:=av;obtain ⟨bq,cj,bJ,cl,jW,lS⟩:=ai;have fs:cj[l]?=some b:=cl _ _ e0;obtain ⟨_,_,ar,iD,f1,f2,f3,f4,f5,_⟩:=lS.H.obj l _ fg;rw [fs] at f1;cases f1;have jE:bk U S w bq bJ bV:=((de.trans aP).trans ea).trans jW;refine ⟨fun t ax=>(by cases ax),?_⟩;refine ⟨_,_,run_endRound (some (.exit id)) f3,?_⟩;obtain ⟨oU,o5⟩:=lS.loop fg fs f3 .done (some (.exit id));exact a3.nk kB ⟨bq,cj,bJ,aJ.trans cl,jE.trans oU,o5.H,.bool _,aW.b5 rfl⟩
theorem aj3 (dM:P.follows .mixedOrders=true) {l lo:Nat} {fn:FuncId} {T a9:List I} {bl:List Nat} {gB b0:Code} {an:c'} {args:List I} {H':List au} {id:Nat} {zZ z2:eE}
  (cg:dX P an gB 0=some zZ) (ag:dX P an b0 0=some z2)
  (ak:H[l]?=some (.loop .ready none fn T bl gB b0 an)) (eo:hq bl args T=some a9) (pz:bd lo H H')
  (h:dG P an fn lo (some l) zZ a9 H fun e fo H1=>e=.normal∧H1[l]?=some (.loop .ready none fn T bl gB b0 an) ∧
   dG P an fn lo (some l) z2 fo (H1.set l (.loop .busy none fn T bl gB b0 an)) fun e dV a4=>e=.exit id∧a4[l]?=some (.loop .busy none fn T bl gB b0 an)∧jr (a4.set l (.loop .done (some (.exit id)) fn T bl gB b0 an)) H') :
  Sem P (.yield l) args H lo (.bool false) H' :=
 alq dM ak eo pz (lk (fun e s a5=>⟨a5.1,a5.2.1,xg ag a5.2.2⟩) (xg cg h))
end
theorem Vi (X Y:List au) (a b d:au):(((X++[a])++Y)++[b]).set X.length d=(((X++[d])++Y)++[b]):=by
 rw [List.set_append_left _ _ (by simp),ZL]
theorem PN (X Y:List au) (a b:au):(((X++[a])++Y)++[b])[X.length]?=some a:=by
 rw [sR (by simp),PM]
theorem afi (X:List au) (b:au):jr (X++[b]) (X++[.dead]):=by
 refine ⟨by simp,fun id o h=>?_⟩;rcases tg id X.length with ak | ak
 ·rw [sR ak] at h ⊢;exact .inr h
 ·rw [sZ ak] at h;cases av:id-X.length with
  | zero=>rw [av] at h;simp at h;exact .inl h.symm
  | succ k=>rw [av] at h;simp at h
theorem afj (X Y:List au) (a b:au):jr (((X++[a])++Y)++[b]) ((X++[a])++(Y++[.dead])):=by
 rw [←sD];exact afi _ b
end Go.Proofs.YtfakoboiahbhaaaGreat.Ab


namespace Go.Proofs.YtfakoboiahbhaaaGreat.Ab
open Go
theorem aaL {α:Type} {f:α→I} (h:∀ x,(f x).view=f x) (l:List α):(l.map f).map I.view=l.map f:=by rw [uD];exact tY fun x _=>h x
theorem Yr {α:Type} (f:α→I) (l:List α) {n:Nat} (aQ:∀ x,(f x).view=f x) (h:l.length=n):(((l.map f).drop 0).take n).map I.view=l.map f:=by
 rw [tb,ui (by simp [h]),aaL aQ]
theorem adk {P:Program} {t e:TypeId} {len:Nat} {kd k:IntKind} {xs:List Int} {n:Int} (ad:P.underlying t=some (.array len e)) (af:P.underlying e=some (.int kd)) (aG:bU P e=some 1) (a8:dN P e=false) (ak:xs.length=len) (aN:0≤n∧n<(len:Int)) :
  oE P t (.agg (xs.map hY)) (.int k n)=some (hY (ix xs n)):=by
 unfold oE;have bN:gY n len=some n.toNat:=by unfold gY;rw [if_pos aN]
 simp only [ad,aG,bN,sq,tS];unfold iH;simp only [af,a8];have aU:n.toNat<xs.length:=by omega
 rw [sN,sI aU,sB,Qb (by omega)]
theorem air {P:Program} {C:b8} {lo:Nat} {o:Oper} {t:TypeId} {a b:Operand} {x y v:I} {H:List au} (aq:o.op=.index t a b) (h:oE P t x y=some v) (ae:v.view=v:=by rfl):a_ P C lo o 0 [x,y] H=some (v,H):=by
 unfold a_;rw [aq];show (cA P o [x,y]).map _=_;unfold cA;rw [aq];show ((oE P t x y).map I.view).map _=_;rw [h,sB,sB,ae]
theorem Y0 {P:Program} {C:b8} {lo:Nat} {o:Oper} {t e:TypeId} {a:Operand} {id len:Nat} {H:List au} (aq:o.op=.slice t a none none none) (ad:P.underlying t=some (.array len e)) (af:bU P e=some 1) (aS:0<len):a_ P C lo o 0 [.ptr id 0] H=some (.ref id 0 len (some len) 1,H):=by
 unfold a_;rw [aq];show (cA P o [.ptr id 0]).map _=_;unfold cA;rw [aq];show (ep P t none none none [.ptr id 0]).map _=_;unfold ep;simp only [I.view,eY,ad,af,dr,cK,sq];rw [if_neg (by omega)];rfl
theorem ON {P:Program} {C:b8} {lo mode:Nat} {o:Oper} {xs:Array Operand} {ts:Array TypeId} {vs:List I} {H:List au} (aq:o.op=.call { callee:=.builtin .clear,args:=xs,argTypes:=ts }):a_ P C lo o mode vs H=k1 P lo ts H vs:=by
 unfold a_;rw [aq];rfl
theorem Zv (z:I):∀ n:Nat,e5 n [z]=List.replicate n z
 | 0=>rfl
 | n+1=>by rw [e5,Zv z n];rfl
theorem Xj {P:Program} {lo id n:Nat} {H:List au} {l:List Int} {cap:Option Nat} {e:TypeId} {ts:Array TypeId} (e1:(ts[0]?).bind P.underlying=some (.slice e)) (cm:bU P e=some 1) (dJ:zeroCells P e=some [.int .i64 0]) (bG:lo≤id)
  (ah:H[id]?=some (.cells (l.map hY))) (aN:l.length=n):k1 P lo ts H [.ref id 0 n cap 1]=some (.tuple [],H.set id (.cells ((List.replicate n (0:Int)).map hY))):=by
 have oQ:setCells 0 (e5 n [I.int .i64 0]) (l.map hY)=(List.replicate n (0:Int)).map hY:=by
  apply ud;intro j;rw [oe _ _ _ _ (by rw [iv];simp;omega),iv,Zv];simp only [List.length_singleton,tS,tc,Nat.sub_zero];by_cases aw:j<n
  ·rw [if_pos ⟨by omega,aw⟩];simp [aw]
  ·rw [if_neg (by omega),tQ (by simp;omega),tQ (by simp;omega)]
 unfold k1;simp only [e1,cm,dJ,hf,ah,sB,if_pos bG];rw [if_pos ⟨trivial,rfl,by decide⟩,if_pos (by simp;omega),oQ];rfl
end Go.Proofs.YtfakoboiahbhaaaGreat.Ab


namespace Go.Proofs.YtfakoboiahbhaaaGreat.Ab
open Go
def Lv:List I→Nat→List (Nat×I)→List I
 | [],_,_=>[]
 | x::T,_,[]=>x::T
 | x::T,i,(j,v)::r=>match Nat.beq i j with
   | true=>v::Lv T (i+1) r
   | false=>x::Lv T (i+1) ((j,v)::r)
def Iw (u:Nat→I):Nat→Nat→List (Nat×I)→List I
 | 0,_,_=>[]
 | n+1,i,[]=>u i::Iw u n (i+1) []
 | n+1,i,(j,v)::r=>match Nat.beq i j with
   | true=>v::Iw u n (i+1) r
   | false=>u i::Iw u n (i+1) ((j,v)::r)
def qO (n:Nat) (bl:List (Nat×I)) (T:List I):Prop:=T.length=n∧T=Lv T 0 bl
theorem QN {u bI:Nat→I}:∀ (n i:Nat) (bl:List (Nat×I)),(∀ k,i≤k→u k=bI k)→Iw u n i bl=Iw bI n i bl
 | 0,_,_,_=>rfl
 | n+1,i,[],h=>by
   rw [Iw,Iw,h i (sx _),QN n (i+1) [] fun k av=>h k (by omega)]
 | n+1,i,(j,v)::r,h=>by
   rw [Iw,Iw];cases Nat.beq i j with
   | true=>exact congrArg _ (QN n (i+1) r fun k av=>h k (by omega))
   | false=>show u i::_=bI i::_;rw [h i (sx _),QN n (i+1) _ fun k av=>h k (by omega)]
theorem ZQ:∀ (T:List I) (i:Nat) (bl:List (Nat×I)),Lv T i bl=Iw (fun k=>c8 T (k-i)) T.length i bl
 | [],_,_=>rfl
 | x::T,i,bl=>by
   have e:∀ bl,Iw (fun k=>c8 (x::T) (k-i)) T.length (i+1) bl=Lv T (i+1) bl:=fun bl=>by
    rw [ZQ T (i+1) bl];refine QN _ _ _ fun k av=>?_;show c8 (x::T) (k-i)=c8 T (k-(i+1));rw [show k-i=(k-(i+1))+1 by omega];rfl
   (have fY:c8 (x::T) (i-i)=x:=by rw [Nat.sub_self];rfl);(have afb:∀ (T:List I) i,Lv T i []=T:=fun T i=>by cases T <;> rfl);cases bl with
   | nil =>
     show x::T=Iw _ (T.length+1) i [];rw [Iw,fY,e,afb]
   | cons p r =>
     obtain ⟨j,v⟩:=p;show Lv (x::T) i ((j,v)::r)=Iw _ (T.length+1) i ((j,v)::r);rw [Lv,Iw];cases Nat.beq i j with
     | true=>exact congrArg _ (e r).symm
     | false=>show x::_=_::_;rw [fY,e]
theorem qO.ex {n:Nat} {bl:List (Nat×I)} {T:List I} (h:qO n bl T):∃ u,T=Iw u n 0 bl:=by
 obtain ⟨ad,af⟩:=h;subst ad;exact ⟨_,af.trans (ZQ T 0 bl)⟩
class HJ (d:Nat) (v:I):Prop where Qo:ct d v=true
class qt (d:Nat) (l:List I):Prop where pl:l.all (ct d)=true
instance {d:Nat}:qt d []:=⟨rfl⟩
instance {d:Nat} {v:I} {l:List I} [a:HJ d v] [b:qt d l]:qt d (v::l):=⟨p5 a.Qo b.pl⟩
instance {d:Nat} {a b:List I} [x:qt d a] [y:qt d b]:qt d (a++b):=⟨by rw [List.all_append,x.pl,y.pl];rfl⟩
instance {d:Nat} {α:Type} {f:α→I} {l:List α} [h:∀ x,HJ d (f x)]:qt d (l.map f):=⟨Zb (fun x=>(h x).Qo) l⟩
instance {d:Nat} {α:Type} {f:α→List I} {l:List α} [h:∀ x,qt d (f x)]:qt d (l.flatMap f):=⟨by
 rw [sS];intro u hu;obtain ⟨x,_,al⟩:=vw.1 hu
 exact sS.1 (h x).pl u al⟩
instance {d:Nat} {k:IntKind} {n:Int}:HJ (d+1) (.int k n):=⟨rfl⟩
instance {d:Nat} {b:Bool}:HJ (d+1) (.bool b):=⟨rfl⟩
instance {d:Nat} {b:ByteArray}:HJ (d+1) (.str b):=⟨rfl⟩
instance {d:Nat}:HJ (d+1) .eH:=⟨rfl⟩
instance {d n:Nat} {c:iB} {l:List I} [h:qt d l]:HJ (d+1) (.ay l n c):=⟨h.pl⟩
instance {d:Nat} {l:List I} [h:qt d l]:HJ (d+1) (.agg l):=⟨h.pl⟩
instance {d:Nat} {l:List I} [h:qt d l]:HJ (d+1) (.tuple l):=⟨h.pl⟩
instance {d:Nat} {l:List I} [h:qt d l]:HJ (d+1) (.bW l):=⟨h.pl⟩
instance {d:Nat} {α:Type} {f:α→I} {l:List α} [h:∀ x,HJ d (f x)]:HJ (d+1) (adg f l):=⟨Zb (fun x=>(h x).Qo) l⟩
instance {d:Nat} {α:Type} {f:α→List I} {l:List α} [h:∀ x,qt d (f x)]:HJ (d+1) (qv f l):=⟨(inferInstance:qt d (l.flatMap f)).pl⟩
instance {d:Nat} {l:List Int}:HJ (d+2) (js l):=⟨(inferInstance:qt (d+1) (l.map hY)).pl⟩
instance {d:Nat} {l:List (List Int)}:HJ (d+3) (iD l):=⟨(inferInstance:qt (d+2) (l.map js)).pl⟩
instance {d:Nat} {α:Type} {f:α→List I} {x:Option α} [h:∀ x,qt d (f x)]:HJ (d+1) (Ql f x):=⟨Za (fun x=>(h x).pl) x⟩
theorem qw {p Km:Prop} [Decidable p] {aT:Type} {k:Option aT} {v:aT} {K:Prop} (h:qh p k=some v) (f:p→Km) (g:p→k=some v→K):Km∧K :=
 ⟨f (qF h).1,g (qF h).1 (qF h).2⟩
theorem bs {b:Bool} {aT:Type} {x y:Option aT} {v:aT} {K:Prop} (h:(if b=true then x else y)=some v) (f:b=true→x=some v→K) (g:b=false→y=some v→K):K :=
 match b,h,f,g with
 | true,h,f,_=>f rfl (rZ rfl h)
 | false,h,_,g=>g rfl (r0 rfl h)
theorem aiM {d:Nat} {u:I} (h:ct d u.g0=true):ct d u=true:=by
 cases d with
 | zero=>simp [ct] at h
 | succ d=>cases u with
   | ay cs n c=>cases c <;> exact h
   | _=>exact h
theorem Y' {d:Nat} {l:List I} (h:(l.map I.g0).all (ct d)=true):l.all (ct d)=true:=by
 rw [sS] at h ⊢;exact fun u hu=>aiM (h _ (List.mem_map_of_mem hu))
theorem aiL {d:Nat} {r:I} (h:ct d r.settle.view.cu=true):ct d r=true:=by
 cases d with
 | zero=>simp [ct] at h
 | succ d=>cases r with
   | ay cs n c=>cases c <;> exact h
   | agg cs=>exact Y' (l:=cs) h
   | tuple cs=>exact Y' (l:=cs) h
   | raw=>exact absurd h (by simp [I.settle,I.view,I.cu,ct])
   | cn=>exact absurd h (by simp [I.settle,I.view,I.cu,ct])
   | _=>exact h
theorem Lt {rs:List jt} {v:I} {T:List I} {H:List au} {vs:List I} [h:HJ 8 v] (ad:j9 H T rs=some vs) (af:(hk vs).settle.view.cu=v):IP rs v .ret T H :=
 ⟨.inr rfl,vs,ad,_,o0 (aiL (af ▸ h.Qo)),af⟩
end Go.Proofs.YtfakoboiahbhaaaGreat.Ab


namespace Go.Proofs.YtfakoboiahbhaaaGreat.Ab
open Go
section
variable {P:Program} {A:c'} {fn:FuncId} {lo:Nat} {rl:Option Nat}
inductive am_ (P:Program) (A:c') (fn:FuncId) (lo:Nat) (rl:Option Nat) (rc:eE) (T:List I) (H:List au) (Q:cE→List I→List au→Prop):Prop where
 | mk (cG:List Bool) (c:eE) (he:rc=.loop (some cG) c) (hY:Nat→List I→List au→Prop) (m:Nat) (hm:m≤qe) (aS:hY m T H)
   (step:∀ (r9:List I→List au→Prop) m T H,hY m T H→(∀ hb a9 H',hb<m→hY hb a9 H'→r9 a9 H')→nX T fun T=>dG P A fn lo rl c T H fun e a9 H'=>match e with
    | .normal=>p0 (some cG) a9 fun a9=>r9 a9 H'
    | e=>Q e a9 H')
end
theorem alr {P:Program} {A:c'} {fn lo:Nat} {rl:Option Nat} {c:eE} {T:List I} {H:List au} {Q:cE→List I→List au→Prop} (h:dG P A fn lo rl c T (H++[]) Q):dG P A fn lo rl c T H Q:=by
 rw [sU] at h;exact h
theorem Qr {cs:List I} {n d:Nat} {c:iB} (h:cs.all (ct d)=true):ct (d+1) (.ay cs n c)=true:=h
theorem W7 (A Y C:List au):(A++Y)++C=A++(Y++C):=sD _ _ _
theorem M0 (X:List au) (a:au):(X++[a,.dead])[X.length]?=some a:=by simp
theorem ZK (X:List au) (a aM:au):(X++[a,.dead]).set X.length aM=X++[aM,.dead]:=by simp
theorem XM {P:Program} {C:b8} {lo id gid n z:Nat} {o:Oper} {x:Operand} {H:List au} {l:List I} {g cX:Nat} (aq:o.op=.move x) (bG:lo≤id) (ah:H[id]?=some (.grow l g cX)) (aN:l.length=n*z) :
  a_ P C lo o 2 [.cn id gid n z] H=some (.ay (l.map I.view) n .shared,H.set id .dead):=by
 unfold a_;rw [aq];show eW P lo 2 o.type x H [.cn id gid n z]=_;unfold eW;simp only [bG,if_true,ah];rw [if_pos aN]
def ajT (l:List Int):I:=.ay (l.map hY) l.length (if l.length=1 then .full else .shared)
theorem Rel.rows {J:List Nat} {S:Nat→Nat→Prop} {w:World} {cells:List I} {n:Nat} {v:Value} (h:Rel J S w (.ay cells n .shared) v):Rel J S w (.ay (cells.map I.g0) n .shared) v:=by
 cases h with
 | b3 _ a=>exact .b3 _ a
 | ay _ _ _ b o cap f ao hle hu k eS =>
   refine .ay _ _ _ b o cap f ao hle hu (fun j u aw=>?_) (fun j u aw=>?_)
   ·rw [sN] at aw;simp only [sr] at aw;obtain ⟨x,al,rfl⟩:=aw;obtain ⟨aB,aH,aR,bm⟩:=k j x al;exact ⟨aB,aH,ym aR,bm⟩
   ·rw [sN] at aw;simp only [sr] at aw;obtain ⟨x,al,rfl⟩:=aw;exact (eS j x al).g0
theorem lv.rows {P:Program} {k:FuncId} {args cells:List I} {n:Nat} (h:lv P k args (.ay cells n .shared)) (aC:ct 8 (.ay (cells.map I.g0) n .shared)=true):lv P k args (.ay (cells.map I.g0) n .shared) :=
 ⟨⟨h.1.1,h.1.2.1,fun B U J S w vs ah aN ae=>CallsIn.mono (h.1.2.2 B U J S w vs ah aN ae) fun e w' he=>by
   cases e with
   | returned x =>
     obtain ⟨bq,cj,bJ,a,b,c,d,e⟩:=he;exact ⟨bq,cj,bJ,a,b,c,d.rows,aW.b5 rfl⟩
   | panicked c=>exact he.elim
   | outgrown=>exact he.elim⟩,aC⟩
end Go.Proofs.YtfakoboiahbhaaaGreat.Ab


namespace Go.Proofs.YtfakoboiahbhaaaGreat.Ab
open Go
instance {d:Nat} {p:Int×Int}:qt (d+1) (p4 p):=⟨(inferInstance:qt (d+1) [hY p.1,hY p.2]).pl⟩
instance {d:Nat} {l:List Int}:HJ (d+2) (ajT l):=⟨(inferInstance:qt (d+1) (l.map hY)).pl⟩
end Go.Proofs.YtfakoboiahbhaaaGreat.Ab


namespace Go.Proofs.YtfakoboiahbhaaaGreat.Ab
open Go
abbrev ql:=List Int
abbrev p':=List (Int×Int)
abbrev GV:=List (List Int)
abbrev qq:=List (List (Int×Int))
abbrev qk:=Int×List (Int×Int)
abbrev q8:=cE→List I→List au→Prop
abbrev qG (l:List Int) (c:iB):I:=.ay (l.map hY) l.length c
abbrev p9 (l:List (Int×Int)) (c:iB):I:=.ay (l.flatMap p4) l.length c
abbrev aet (b:Int×List (Int×Int)):I:=.agg [hY b.1,.ay (b.2.flatMap p4) b.2.length .shared]
abbrev qI (b:Int×List (Int×Int)):au:=au.cells [hY b.1,.ay (b.2.flatMap p4) b.2.length .shared]
def qK {aT:Type} (rs:List jt) (Q:cE→List I→List au→Prop) (e:aT→I) (v:aT):Prop:=∀ T H,IP rs (e v) .ret T H→Q .ret T H
theorem qc {aT:Type} {x v:aT} {e:aT→I} {rs:List jt} {Q:cE→List I→List au→Prop} {T:List I} {H:List au} {vs:List I} (h:some x=some v) (jG:qK rs Q e v) [k:HJ 8 (e x)] (ad:j9 H T rs=some vs) (af:(hk vs).settle.view.cu=e x):Q .ret T H:=by
 obtain rfl:=Option.some.inj h;exact jG _ _ (Lt ad af)
class qz (H:List au) (i:Nat) (o:outParam au):Prop where h:H[i]?=some o
instance {H:List au} {o:au}:qz (H++[o]) H.length o:=⟨JA _ _⟩
instance {H:List au} {i:Nat} {o p:au} [k:qz H i o]:qz (H++[p]) i o:=⟨q2 k.h⟩
end Go.Proofs.YtfakoboiahbhaaaGreat.Ab


namespace Go.Proofs.YtfakoboiahbhaaaGreat.Ab
open Go Go.ChangeShapes Go.WideShapes Go.ChangeAt Go.RowKit
def S0 (w:World):Nat→Nat→Prop:=fun b o=>∃ v,w.cell? ⟨b,o,none⟩=some v
theorem me (w:World):aL w.heap.size (fun _=>none) [] (S0 w) w [] :=
 ⟨rfl,fun _ _ h=>by simp at h,fun _ _ h=>h,fun _ _ h=>by simp at h,sx _⟩
theorem akS {P:Program} {k:FuncId} {args:List I} {vs:List Value} {W:World} {b:Bool} (h:lv P k args (.bool b)) (ae:a' (fun i=>.arg i) (fun _=>none) [] (S0 W) W args vs) :
  Calls P k vs.toArray W fun e I'=>e=.returned (.bool b)∧Below W.heap.size W I':=by
 have ad:=h.1.2.2 W.heap.size (fun _=>none) [] (S0 W) W vs (me W) (fun _ _ h=>by simp at h) ae;refine (callsIn_wide.1 ad).mono fun e I' he=>?_;cases e with
 | returned v =>
   obtain ⟨az,b1,S',_,aA,_,aj,_⟩:=he;cases aj;exact ⟨rfl,aA.os,aA.tape,aA.output,aA.size,fun b ag=>aA.cG b ag rfl⟩
 | panicked c=>exact he.elim
 | outgrown=>exact he.elim
section
variable {H:Type} {enc:TypeId×Value→H} {P:Program} {w:World}
theorem Wf {W I':World} (K:Kids P (·<P.types.size)) (bR:∀ t e,t<P.types.size→P.underlying t=some (.slice e)→0<P.cellsOf e) (p7:Below W.heap.size W I') {sp:Nat→Bool} :
  ∀ {ts:List TypeId} {vs:List Value} {ds:List (DataW H)} {p:List MemPlace},(∀ t∈ts,t<P.types.size)→DataW.TrodAll enc P W 0 (fun _=>true) true ts vs ds p→(∀ x∈p,sp x.block=true)→(∀ x∈p,x.block<W.heap.size)→DataW.TrodAll enc P I' 0 sp true ts vs ds p
 | [],_,_,_,_,aK,_,_=>by obtain ⟨rfl,rfl,rfl⟩:=trodAll_nil aK;exact trodAll_mk0
 | t::ts,_,_,_,bZ,aK,M',aU=>by
   obtain ⟨v,vs,d,ds,a,b,rfl,rfl,rfl,⟨n,aN⟩,af⟩:=trodAll_cons aK;refine ⟨a,b,⟨n,?_⟩,Wf K bR p7 (fun t ax=>bZ t (uw _ ax)) af (fun x al=>M' x (vV _ al)) (fun x al=>aU x (vV _ al)),rfl⟩;exact DataW.trod_stays K (fun {t e} ax he=>bR t e ax he) (fun h=>by cases h) (bZ t uK) aN (fun x al=>p7.same (aU x (vz _ al))) fun x al=>M' x (vz _ al)
theorem aiJ {f:Func} {s:ChangeSpec} {again:Bool} {W I':World} {args:Array Value} {t:TypeId} {ds gs:List (DataW H)} {before:List MemPlace}
  (ak:laidOutB P=true) (hm:mapsRowed P=true) (bp:((List.range P.types.size).all fun t=>match P.underlying t with | some (.slice e)=>decide (0<P.cellsOf e) | _=>true)=true)
  (ax:f.resultTypes=#[t]) (Lk:P.underlying t=some .bool) (CX:f.params.toList.all (fun t=>decide (t<P.types.size))=true) (TA:s.vars=[])
  (lW:DataW.Whole enc P f.params.toList s.vars false W args.toList ds gs before) (p7:Below W.heap.size W I')
  (ai:s.fn H (ds++gs)={ results:=[.lit (.bool true)],args:=ds }):s.post enc P f false true false again W args (.bool true) I':=by
 have aU:=lW.lt;have afJ:=lW;obtain ⟨p,q,aK,jH,rfl,Cx,jQ⟩:=afJ;rw [TA] at jH;obtain ⟨rfl,rfl⟩:=trodVars_none jH;rw [sU] at *;have K:Kids P (·<P.types.size):=kids_rows ak hm;have bR:=slices_full_of P bp;have bZ:∀ t∈f.params.toList,t<P.types.size:=fun t h=>by
  have:=sS.1 CX t h;simpa using this
 have again:∀ sp:Nat→Bool,(∀ x∈p,sp x.block=true)→DataW.TrodAll enc P I' 0 sp true f.params.toList args.toList ds p:=fun sp M' =>
  Wf K bR p7 bZ aK M' aU
 have kK:∀ (b:Nat) (sp:Nat→Bool) (a1:Bool),DataW.TrodAll enc P I' b sp a1 f.resultTypes.toList ((Value.bool true).resultList f.resultTypes.size) (s.fn H ds).results []:=fun b sp a1=>by
  rw [ai,ax];exact trodAll_mk1 (shut_bool Lk true)
 have Ce:∀ sp:Nat→Bool,(∀ x∈p,sp x.block=true)→DataW.TrodAll enc P I' 0 sp true f.params.toList args.toList (s.fn H ds).args p:=fun sp M'=>by
  rw [ai];exact again sp M'
 have ae:∀ sp:Nat→Bool,DataW.TrodVars enc P I' sp s.vars (s.fn H ds).vars []:=fun sp=>by
  rw [ai,TA];rfl
 have hold:∀ x∈p,(fun b=>decide (b<W.heap.size)) x.block=true:=fun x al=>by simpa using aU x al
 refine ⟨ds,[],p,[],p,[],lW,by rw [sU];exact kK _ _ _,by rw [sU];exact Ce _ hold,by rw [sU];exact ae _,p7.frame _,fun _=>?_⟩;refine ⟨fun j u r hu aj=>?_,(s.fn H ds).results++(s.fn H ds).args,[],p,⟨p,[],?_,?_,by simp,?_,fun h=>by cases h⟩,fun x al _=>al⟩
 ·rw [ax] at hu aj;cases j with
  | zero=>simp [Value.resultList] at hu aj;subst hu;subst aj;exact okWide_bool_mk Lk true
  | succ j=>simp at hu
 ·have:=trodAll_append (Ce (fun _=>true) fun _ _=>rfl) (kK 0 (fun _=>true) true);simpa using this
 ·rw [TA];rfl
 ·intro b o ag;have:=aU _ ag;rw [p7.frozen (p:=⟨b,o,none⟩) this];exact Cx b o ag
theorem YH {α:Type} {f:α→I} {R:α→Prop}:∀ {l:List I},(∀ u∈l,∃ x,u=f x∧R x)→∃ gp:List α,l=gp.map f∧∀ x∈gp,R x
 | [],_=>⟨[],rfl,by simp⟩
 | u::l,h=>by
   obtain ⟨x,rfl,al⟩:=h u (by simp);obtain ⟨gp,rfl,bp⟩:=YH (l:=l) fun y a2=>h y (by simp [a2]);exact ⟨x::gp,rfl,by simpa using ⟨al,bp⟩⟩
abbrev KB (enc:TypeId×Value→H) (P:Program) (w:World) (e:TypeId) (Q:I→Prop):Prop :=
 ∀ n v y,DataW.trod enc P w 0 (fun _=>true) true n e [v]=some y→∃ u,u.plain=true∧v.oneCell'=true∧Rel [] (S0 w) w u v∧Q u
theorem Xg {e:TypeId} {k:IntKind} (ax:P.underlying e=some (.int k)):KB enc P w e fun u=>∃ x,u=.int k x∧(Lit.int k x).wf=true:=by
 intro n v y h;obtain ⟨x,al,_,hw⟩:=DataW.trod_int ax h;injection al with al _;subst al;exact ⟨.int k x,rfl,rfl,.int k x,x,rfl,hw⟩
instance:Inhabited I:=⟨.junk⟩
theorem aeH {t e:TypeId} (ax:P.underlying t=some (.slice e)) (ce:P.cellsOf e=1) {Q:I→Prop} (he:KB enc P w e Q) :
  KB enc P w t fun u=>∃ l:List I,u=.ay l l.length .shared∧l.length≤maxLen∧∀ u∈l,Q u:=by
 intro fuel v x h;rcases Deep.open_slice1 ax ce h with ⟨ae,_⟩ | ⟨a,len,cap,m,n,V,D,V9,ae,_,ak,hm,pC,_,al⟩
 ·injection ae with ae _;subst ae;exact ⟨_,rfl,rfl,.b3 _ _,[],rfl,sK _,by simp⟩
 ·injection ae with ae _;subst ae;have pC:m=cap:=pC;have al:∀ i,i<cap→w.cell? (a.add i)=some (V i)∧DataW.trod enc P w 0 (fun _=>true) true n e [V i]=some (D i,V9 i):=fun i hi=>al i (by omega);by_cases ao:cap=0
  ·(subst ao;obtain rfl:len=0:=by omega);exact ⟨_,rfl,rfl,.b3 _ _,[],rfl,sK _,by simp⟩
  ·obtain ⟨b,o,sp⟩:=a;have aS:=(al 0 (by omega)).1;(have ai:sp=none:=by simpa [Addr.add] using World.cell?_spot aS);subst ai;obtain ⟨Iz,JN⟩:=Deep.choose_lt (α:=I) (n:=len) (p:=fun i u=>u.plain=true∧(V i).oneCell'=true∧Rel [] (S0 w) w u (V i)∧Q u) fun i hi=>he n (V i) _ (al i (by omega)).2;refine ⟨.ay ((List.range len).map Iz) len .shared,rfl,rfl,.ay _ _ _ b o cap V (by simp) ak (by simp) (fun j u aw=>?_) (fun j u aw=>?_),(List.range len).map Iz,by simp,by simp;omega,fun u hu=>?_⟩
   ·(have l4:j<len:=by have:=(ss.1 aw).1;simpa using this);simp [l4] at aw;subst aw;(have bz:w.cell? ⟨b,o+j,none⟩=some (V j):=by have:=(al j (by omega)).1;rwa [add_lit] at this);exact ⟨⟨_,bz⟩,bz,(JN j l4).1,(JN j l4).2.1⟩
   ·(have l4:j<len:=by have:=(ss.1 aw).1;simpa using this);simp [l4] at aw;subst aw;exact (JN j l4).2.2.1
   ·obtain ⟨j,aw,rfl⟩:=sJ.1 hu;exact (JN j (sX.1 aw)).2.2.2
def J7 (x:Int):Prop := -9223372036854775808≤x∧x≤9223372036854775807
theorem wf_i64 {x:Int} (h:(Lit.int .i64 x).wf=true):J7 x:=by
 have ad:IntKind.i64.min=-9223372036854775808:=rfl;have af:IntKind.i64.max=9223372036854775807:=rfl;simp only [Lit.wf,sM,decide_eq_true_eq] at h;exact ⟨by omega,by omega⟩
theorem wf_u8 {x:Int} (h:(Lit.int .u8 x).wf=true):0≤x∧x≤255:=by
 have ad:IntKind.u8.min=0:=rfl;have af:IntKind.u8.max=255:=rfl;simp only [Lit.wf,sM,decide_eq_true_eq] at h;exact ⟨by omega,by omega⟩
structure adf (l:List Int):Prop where
 n:l.length≤9223372036854775807
 v:∀ x∈l,J7 x
structure am4 (l:List (List Int)):Prop where
 n:l.length≤9223372036854775807
 v:∀ r∈l,adf r
theorem YK {n:Nat} (h:n≤maxLen):n≤9223372036854775807:=by unfold maxLen at h;omega
def R3 (l:List Int):I:=.ay (l.map (.int .u8)) l.length .shared
structure V5 (l:List Int):Prop where
 n:l.length≤9223372036854775807
 v:∀ x∈l,0≤x∧x≤255
theorem aeG {t e:TypeId} (ax:P.underlying t=some (.slice e)) (ce:P.cellsOf e=1) (he:P.underlying e=some (.int .u8)):KB enc P w t fun u=>∃ l,u=R3 l∧V5 l:=by
 intro n v y h;obtain ⟨u,aB,aH,aR,l,rfl,bm,bf⟩:=aeH ax ce (Xg he) n v y h;obtain ⟨gp,rfl,bj⟩:=YH bf;exact ⟨_,aB,aH,aR,gp,by simp [R3],by simpa using YK bm,fun x al=>wf_u8 (bj x al)⟩
abbrev Arg (enc:TypeId×Value→H) (P:Program) (w:World) (base:Nat) (t:TypeId) (Q:I→Prop):Prop :=
 ∀ v d p,Value.okWide P w .any base t v→DataW.Trod enc P w 0 (fun _=>true) true t v d p→∃ u,u.plain=true∧Rel [] (S0 w) w u v∧Q u
theorem ael {base:Nat} {t:TypeId} {k:IntKind} (ax:P.underlying t=some (.int k)):Arg enc P w base t fun u=>∃ x,u=.int k x∧(Lit.int k x).wf=true:=by
 intro v d p ae a1;obtain ⟨x,rfl,_,_,hw⟩:=open_int ax ae a1;exact ⟨.int k x,rfl,.int k x,x,rfl,hw⟩
theorem aem {base:Nat} {t e:TypeId} (ax:P.underlying t=some (.slice e)) {Q:I→Prop} (ao:KB enc P w t Q):Arg enc P w base t Q:=by
 intro v d p ae ⟨n,a1⟩;obtain ⟨a,len,cap,rfl⟩:=okWide_slice ax ae;obtain ⟨u,aB,_,aR,bm⟩:=ao n _ _ a1;exact ⟨u,aB,aR,bm⟩
theorem Vw {us:List I} {vs:List Value} (h:us.length=vs.length) (aj:∀ (i:Nat) (u:I) (v:Value),us[i]?=some u→vs[i]?=some v→u.plain=true∧Rel [] (S0 w) w u v):a' (fun i=>.arg i) (fun _=>none) [] (S0 w) w us vs :=
 ⟨h,fun i u v hu ae=>(aj i u v hu ae).2,fun i u v hu ae=>aW.b5 (aj i u v hu ae).1⟩
theorem anR {x0:I} {v0:Value} (Kn:x0.plain=true) (hK:Rel [] (S0 w) w x0 v0):a' (fun i=>.arg i) (fun _=>none) [] (S0 w) w [x0] [v0] :=
 Vw rfl fun i u v hu ae=>by
  match i with
  | 0=>simp at hu ae;subst hu;subst ae;exact ⟨Kn,hK⟩
  | i+1=>simp at hu
theorem akY {x0 fy:I} {v0 v1:Value} (Kn:x0.plain=true) (hK:Rel [] (S0 w) w x0 v0) (bT:fy.plain=true) (r1:Rel [] (S0 w) w fy v1):a' (fun i=>.arg i) (fun _=>none) [] (S0 w) w [x0,fy] [v0,v1] :=
 Vw rfl fun i u v hu ae=>by
  match i with
  | 0=>simp at hu ae;subst hu;subst ae;exact ⟨Kn,hK⟩
  | 1=>simp at hu ae;subst hu;subst ae;exact ⟨bT,r1⟩
  | i+2=>simp at hu
theorem anS {x0 fy gn:I} {v0 v1 v2:Value} (Kn:x0.plain=true) (hK:Rel [] (S0 w) w x0 v0) (bT:fy.plain=true) (r1:Rel [] (S0 w) w fy v1) (b6:gn.plain=true) (r2:Rel [] (S0 w) w gn v2) :
  a' (fun i=>.arg i) (fun _=>none) [] (S0 w) w [x0,fy,gn] [v0,v1,v2] :=
 Vw rfl fun i u v hu ae=>by
  match i with
  | 0=>simp at hu ae;subst hu;subst ae;exact ⟨Kn,hK⟩
  | 1=>simp at hu ae;subst hu;subst ae;exact ⟨bT,r1⟩
  | 2=>simp at hu ae;subst hu;subst ae;exact ⟨b6,r2⟩
  | i+3=>simp at hu
end
end Go.Proofs.YtfakoboiahbhaaaGreat.Ab


namespace Go.Proofs.YtfakoboiahbhaaaGreat.Ab
open Go Go.ChangeShapes Go.WideShapes Go.ChangeAt Go.RowKit
section
variable {H:Type} {enc:TypeId×Value→H} {P:Program} {w:World}
theorem YI {α β:Type} {f:α→β} {R:α→Prop}:∀ {l:List β},(∀ u∈l,∃ x,u=f x∧R x)→∃ gp:List α,l=gp.map f∧∀ x∈gp,R x
 | [],_=>⟨[],rfl,by simp⟩
 | u::l,h=>by
   obtain ⟨x,rfl,al⟩:=h u (by simp);obtain ⟨gp,rfl,bp⟩:=YI (l:=l) fun y a2=>h y (by simp [a2]);exact ⟨x::gp,rfl,by simpa using ⟨al,bp⟩⟩
def Px (enc:TypeId×Value→H) (P:Program) (w:World) (bH:Array Field) (Qs:List (I→Prop)):Prop :=
 Qs.length=bH.size∧∀ (i:Nat) (f:Field) (q:I→Prop),bH[i]?=some f→Qs[i]?=some q→f.offset=i∧P.cellsOf f.type=1∧KB enc P w f.type q
def MO (Qs:List (I→Prop)) (us:List I):Prop:=us.length=Qs.length∧∀ (i:Nat) (u:I) (q:I→Prop),us[i]?=some u→Qs[i]?=some q→q u
theorem ZV {t:TypeId} {bH:Array Field} {Qs:List (I→Prop)} (ax:P.underlying t=some (.struct bH)) (ao:P.cellsOf t=bH.size) (aQ:Px enc P w bH Qs) {n:Nat} {cs:List Value} {y:DataW H×List MemPlace}
  (h:DataW.trod enc P w 0 (fun _=>true) true n t cs=some y):∃ us:List I,MO Qs us∧cs.length=us.length∧∀ (j:Nat) (u:I) (v:Value),us[j]?=some u→cs[j]?=some v→u.plain=true∧v.oneCell'=true∧Rel [] (S0 w) w u v:=by
 obtain ⟨xs,m,_,_,ak,anM,al⟩:=DataW.trod_struct ax h;rw [ao] at ak;have each:∀ i,i<bH.size→∃ u:I,(∀ v,cs[i]?=some v→u.plain=true∧v.oneCell'=true∧Rel [] (S0 w) w u v)∧∀ q,Qs[i]?=some q→q u:=fun i hi=>by
  have ad:bH[i]?=some bH[i]:=Array.getElem?_eq_getElem hi;have a5:i<Qs.length:=by rw [aQ.1];exact hi
  have af:Qs[i]?=some Qs[i]:=sI a5;obtain ⟨e1,cm,dJ⟩:=aQ.2 i _ _ ad af;have aG:=al i _ ad;rw [e1,cm] at aG;have X':i<cs.length:=by omega
  rw [tf X',sI (by omega)] at aG;simp only [vj,tu] at aG;obtain ⟨u,aB,aH,aR,bm⟩:=dJ _ _ _ aG;refine ⟨u,fun v ae=>?_,fun q CY=>?_⟩
  ·rw [sI X'] at ae;cases ae;exact ⟨aB,aH,aR⟩
  ·rw [af] at CY;cases CY;exact bm
 obtain ⟨Iz,JN⟩:=Deep.choose_lt (α:=I) (n:=bH.size) (p:=fun i u=>(∀ v,cs[i]?=some v→u.plain=true∧v.oneCell'=true∧Rel [] (S0 w) w u v)∧∀ q,Qs[i]?=some q→q u) each;have get:∀ (i:Nat) (u:I),((List.range bH.size).map Iz)[i]?=some u→i<bH.size∧u=Iz i:=fun i u hu=>by
  have hi:i<bH.size:=by have:=(ss.1 hu).1;simpa using this
  simp [hi] at hu;exact ⟨hi,hu.symm⟩
 refine ⟨(List.range bH.size).map Iz,⟨by simp [aQ.1],fun i u q hu a5=>?_⟩,by simp [ak],fun j u v hu ae=>?_⟩
 ·obtain ⟨hi,rfl⟩:=get i u hu;exact (JN i hi).2 q a5
 ·obtain ⟨hi,rfl⟩:=get j u hu;exact (JN j hi).1 v ae
theorem aen {base:Nat} {t:TypeId} {bH:Array Field} {Qs:List (I→Prop)} (ax:P.underlying t=some (.struct bH)) (ao:P.cellsOf t=bH.size) (aQ:Px enc P w bH Qs):Arg enc P w base t fun u=>∃ us,u=.agg us∧MO Qs us:=by
 intro v d p ae ⟨n,a1⟩;unfold Value.okWide at ae;rw [ax] at ae;obtain ⟨cs,rfl,bR,_⟩:=ae;obtain ⟨us,ad,af,aG⟩:=ZV ax ao aQ a1;have af:cs.toList.length=us.length:=af;refine ⟨.agg us,rfl,.agg us cs (by simpa using af) (fun u hu=>?_) (fun v ae=>?_) fun j u v hu ae=>?_,us,rfl,ad⟩
 ·obtain ⟨j,aw⟩:=tV.1 hu;have aU:j<cs.toList.length:=by rw [af];exact (ss.1 aw).1
  exact (aG j u _ aw (sI aU)).1
 ·obtain ⟨j,aw⟩:=tV.1 ae;have aU:j<us.length:=by rw [←af];exact (ss.1 aw).1
  exact (aG j _ v (sI aU) aw).2.1
 ·exact (aG j u v hu (by show cs.toList[j]?=some v;simpa using ae)).2.2
theorem XJ {s:Nat}:∀ {L:List (List I)} {j:Nat} {u:I},(∀ l∈L,l.length=s)→0<s→L.flatten[j]?=some u→∃ l,L[j / s]?=some l∧l[j % s]?=some u
 | [],j,u,_,_,h=>by simp at h
 | l::L,j,u,ak,ai,h=>by
   have aS:l.length=s:=ak l (by simp);rw [List.flatten_cons] at h;by_cases aw:j<s
   ·rw [sR (by omega)] at h;exact ⟨l,by rw [Nat.div_eq_of_lt aw];rfl,by rw [Nat.mod_eq_of_lt aw];exact h⟩
   ·rw [sZ (by omega),aS] at h;obtain ⟨k,a,b⟩:=XJ (s:=s) (fun x al=>ak x (by simp [al])) ai h;(have e1:j / s=(j-s) / s+1:=by rw [Nat.div_eq_sub_div ai (by omega)]);(have cm:j % s=(j-s) % s:=by rw [Nat.mod_eq_sub_mod (by omega)]);exact ⟨k,by rw [e1];simpa using a,by rw [cm];exact b⟩
theorem aeJ {t e:TypeId} {bH:Array Field} {Qs:List (I→Prop)} (ax:P.underlying t=some (.slice e)) (he:P.underlying e=some (.struct bH)) (ao:P.cellsOf e=bH.size) (aS:0<bH.size) (aQ:Px enc P w bH Qs) :
  KB enc P w t fun u=>∃ L:List (List I),u=.ay L.flatten L.length .shared∧L.length≤maxLen∧∀ us∈L,MO Qs us:=by
 intro fuel v x h;rcases Deep.open_slice ax h with ⟨ae,_⟩ | ⟨a,len,cap,m,n,D,V9,ae,_,ak,hm,pC,_,al⟩
 ·injection ae with ae _;subst ae;exact ⟨_,rfl,rfl,.b3 _ _,[],rfl,sK _,by simp⟩
 ·injection ae with ae _;subst ae;have pC:m=cap:=pC;by_cases Ch:cap=0
  ·(subst Ch;obtain rfl:len=0:=by omega);exact ⟨_,rfl,rfl,.b3 _ _,[],rfl,sK _,by simp⟩
  ·have each:∀ i,i<len→∃ q:List I×List Value,MO Qs q.1∧q.2.length=bH.size∧w.cells? 0 (a.add (i*bH.size)) bH.size=some q.2∧∀ (j:Nat) (u:I) (v:Value),q.1[j]?=some u→q.2[j]?=some v→u.plain=true∧v.oneCell'=true∧Rel [] (S0 w) w u v:=fun i hi=>by
    obtain ⟨da,ad,af⟩:=al i (by omega);rw [ao] at ad;obtain ⟨us,br,cL,eF⟩:=ZV he ao aQ af;exact ⟨(us,da),br,by have:=br.1;rw [cL,this,aQ.1],ad,eF⟩
   obtain ⟨q0,_,_,agv,_⟩:∃ q:List Value,True∧True∧w.cells? 0 (a.add (0*bH.size)) bH.size=some q∧True:=by
    obtain ⟨da,ad,_⟩:=al 0 (by omega);rw [ao] at ad;exact ⟨da,trivial,trivial,ad,trivial⟩
   obtain ⟨b,o,sp⟩:=a;have ai:sp=none:=by
    obtain ⟨_,hlen,bz⟩:=World.cells?_some agv;have:=bz 0 aS;rw [sI (by omega)] at this;simpa [Addr.add] using World.cell?_spot this
   subst ai;obtain ⟨Iz,JN⟩:=Deep.choose_lt (α:=List I×List Value) (n:=len) (p:=fun i q=>MO Qs q.1∧q.2.length=bH.size∧w.cells? 0 (Addr.add ⟨b,o,none⟩ (i*bH.size)) bH.size=some q.2∧∀ (j:Nat) (u:I) (v:Value),q.1[j]?=some u→q.2[j]?=some v→u.plain=true∧v.oneCell'=true∧Rel [] (S0 w) w u v) each;(have afH:∀ i,i<len→(Iz i).1.length=bH.size:=fun i hi=>by have:=(JN i hi).1.1;rw [this,aQ.1]);have db:∀ l∈((List.range len).map fun i=>(Iz i).1),l.length=bH.size:=fun l dE=>by
    obtain ⟨i,hi,rfl⟩:=sJ.1 dE;exact afH i (sX.1 hi)
   let V:Nat→Value:=fun j=>((Iz (j / bH.size)).2)[j % bH.size]!
   have key:∀ (j:Nat) (u:I),(((List.range len).map fun i=>(Iz i).1).flatten)[j]?=some u→w.cell? ⟨b,o+j,none⟩=some (V j)∧u.plain=true∧(V j).oneCell'=true∧Rel [] (S0 w) w u (V j):=fun j u aw=>by
    obtain ⟨l,cd,b_⟩:=XJ db aS aw;(have hi:j / bH.size<len:=by have:=(ss.1 cd).1;simpa using this);simp [hi] at cd;subst cd;obtain ⟨bc,bn,bu,b9⟩:=JN _ hi;have Tw:j % bH.size<bH.size:=Nat.mod_lt _ aS;have ae:(Iz (j / bH.size)).2[j % bH.size]?=some (V j):=by
     show _=some ((Iz (j / bH.size)).2[j % bH.size]!);rw [sI (by omega),getElem!_pos _ _ (by omega)]
    obtain ⟨_,_,bz⟩:=World.cells?_some bu;have OC:=bz (j % bH.size) Tw;rw [ae] at OC;have e:(Addr.add (Addr.add ⟨b,o,none⟩ (j / bH.size*bH.size)) (j % bH.size))=⟨b,o+j,none⟩:=by
     simp only [add_lit];congr 1;have:=Nat.div_add_mod' j bH.size;omega
    rw [e] at OC;exact ⟨OC,b9 _ _ _ b_ ae⟩
   refine ⟨.ay ((List.range len).map fun i=>(Iz i).1).flatten len .shared,rfl,rfl,.ay _ _ _ b o cap V (by simp) ak (by simp) (fun j u aw=>?_) (fun j u aw=>?_),(List.range len).map fun i=>(Iz i).1,by simp,by simp;omega,fun us hu=>?_⟩
   ·obtain ⟨aJ,aP,cl,_⟩:=key j u aw;exact ⟨⟨_,aJ⟩,aJ,aP,cl⟩
   ·exact (key j u aw).2.2.2
   ·obtain ⟨j,aw,rfl⟩:=sJ.1 hu;exact (JN j (sX.1 aw)).1
end
end Go.Proofs.YtfakoboiahbhaaaGreat.Ab


namespace Go.Proofs.YtfakoboiahbhaaaGreat.Ab
open Go
set_option maxRecDepth 20000
set_option maxHeartbeats 4000000
noncomputable def acX:eE :=
 GD [gV 3 [.hP 1] .box,Gr 4 0,Gr 5 0] (.seq (Gx [Gt 7 0,gV 8 [.hS 7] .zI,F_ 9 8 0,F_ 10 9 1,Gq 11 10,gV 12 [.sl 3] (.oY 0),Gq 13 12,Gl 14 11 13 2,gV 15 [.hS 14] (.p2 (.str 2)),gV 6 [] (.alloc [.int .i64 0,.int .i64 0]),⟨none,[.sl 6,.hP 15],none,none,.st 2⟩]) (.seq (GD [F_ 16 3 1,Gq 17 16,F4 18 17 0 .gtr] (.cond (.sl 18) (.seq (Gx [gV 19 [.sl 6] (.oY 1),Gq 20 19,gV 21 [.sl 6] (.oY 0),Gq 22 21,Gt 4 20,Gt 5 22]) .ret) .skip)) (.seq (Gx [gV 23 [.sl 6] (.oY 0),Gq 24 23,gV 25 [.sl 6] (.oY 1),Gq 26 25,Gt 4 24,Gt 5 26]) .ret)))
theorem ahQ:zm Tryz.prog WV 68=some (acX,27,[.tmp 4,.tmp 5]):=by kernel_rfl
def LD (t:qk) (p:(Int×Int)):Option (Int×Int) :=
 qh (0≤p.1∧p.1<(t.2.length:Int)) <|
 if (decide ((0:Int)<p.2))=true then
  some ((ix t.2 p.1).2,(ix t.2 p.1).1)
 else
  some ((ix t.2 p.1).1,(ix t.2 p.1).2)
theorem Kw {t:qk} {p:(Int×Int)} {v:(Int×Int)} (h:LD t p=some v):qD 68 [(.bW [(hY t.1),(.ay (t.2.flatMap p4) t.2.length .shared)]),(.agg [(hY p.1),(hY p.2)])] (.tuple [(hY v.1),(hY v.2)]):=by
 refine qZ dM ahQ rfl (IX (p5 rfl (p5 rfl rfl))) fun Q bo=>?_;have jG:qK [.tmp 4,.tmp 5] Q (fun v=>(.tuple [(hY v.1),(hY v.2)])) v:=fun T H bK=>bo _ T H bK;unfold LD at h;unfold acX;conv=>whnf
 refine qw h id fun e0 h=>?_;rw [qY p4 2 qy t.2 p.1 e0];conv=>whnf
 refine bs h (fun fs h=>?_) fun fs h=>?_
 ·rw [fs];conv=>whnf
  exact qc h jG rfl rfl
 ·rw [fs];conv=>whnf
  exact qc h jG rfl rfl
end Go.Proofs.YtfakoboiahbhaaaGreat.Ab


namespace Go.Proofs.YtfakoboiahbhaaaGreat.Ab
open Go
noncomputable def Um:eE :=
 GD [Gt 30 7,gV 31 [.sl 2] (.p2 .one),F5 32 30 31 .eql,Gt 33 32,cS 34 [.sl 0] 33 true .i_,cS 35 [.hS 6] 33 true (.p2 (.str 2)),cS 36 [.hP 34,.hP 35] 33 true (.call 1),cS 37 [.hS 36] 33 true (.un .not),gV 38 [.hS 33,.hS 37,.iK (.bool false)] .pick] (.cond (.sl 38) .ret .skip)
noncomputable def Un:eE :=
 GD [gV 25 [.sl 1] (.p2 .one),gV 26 [.sl 6] (.p2 (.str 2)),gV 27 [.iK (.func 68 [] []),.sl 25,.sl 26] (.call 3),Gt 24 27,GL 28 24 0,gV 29 [.hS 24] (.ext 1),Gt 7 28,Gt 8 29] Um
noncomputable def Uo:eE :=
 GD [Gs 21 4,Gt 22 5,gV 23 [.hS 21,.hS 22] (.build [.int .i64 0,.int .i64 0] [(0,1),(1,1)]),gV 6 [] (.alloc [.int .i64 0,.int .i64 0]),⟨none,[.sl 6,.hP 23],none,none,.st 2⟩] Un
noncomputable def Up:eE :=
 .block 3 (GD [Gs 20 18,Gt 5 20] Uo)
noncomputable def Uq:eE :=
 GD [Gr 18 0] (.block 2 (.loop (some (ED false [0,3,1,1,9,2,2,1,22])) (GD [gV 19 [.sl 18,.iK (.int .i64 2)] (.bin .lss)] (.seq (.cond (.sl 19) .skip (.exit 2)) (.seq Up (Gw [F3 39 18 1,Gt 18 39]))))))
noncomputable def Ur:eE :=
 .block 1 (GD [Gs 17 15,Gt 4 17] Uq)
noncomputable def Zj:eE :=
 GD [gV 9 [.sl 1] (.p2 .one),gV 10 [.hS 9] .zI,F_ 11 10 0,F_ 12 11 1,Gq 13 12,Gp 14 13,Gr 15 0] (.block 0 (.loop (some (ED false [0,3,11,2,25])) (GD [gV 16 [.sl 15,.sl 14] (.bin .lss)] (.seq (.cond (.sl 16) .skip (.exit 0)) (.seq Ur (Gw [F3 40 15 1,Gt 15 40]))))))
theorem ag4:zm Go.Proofs.Tryz.prog Wq 113=some (Zj,41,[]):=by kernel_rfl
end Go.Proofs.YtfakoboiahbhaaaGreat.Ab


namespace Go.Proofs.YtfakoboiahbhaaaGreat.Ab
open Go
set_option maxRecDepth 20000
set_option maxHeartbeats 4000000
abbrev qb:=Int×List (Int×Int)
def rF (r:Nat):Int×Int:=(((r / 2:Nat):Int),((r % 2:Nat):Int))
def qP (t:qb) (p:Int×Int):Int:=if 0<p.2 then (ix t.2 p.1).2 else (ix t.2 p.1).1
def fin (t:qb) (p:Int×Int):Int:=if 0<p.2 then (ix t.2 p.1).1 else (ix t.2 p.1).2
theorem J0 {t:qb} {p:Int×Int} (h:0≤p.1∧p.1<(t.2.length:Int)):LD t p=some (qP t p,fin t p):=by
 rw [LD,qx h];unfold qP fin;by_cases ad:0<p.2
 ·rw [if_pos (decide_eq_true ad),if_pos ad,if_pos ad]
 ·rw [if_neg (by simpa using ad),if_neg ad,if_neg ad]
def r_ (t:qb) (figure:Int) (r:Nat):Bool:=decide (qP t (rF r)=figure)
def G3 (t:qb) (figure:Int):List (Int×Int):=((List.range (2*t.2.length)).filter (r_ t figure)).map rF
theorem SH (p:Nat→Bool) {j:Nat} (aC:p j=true):∀ {n:Nat},j<n→((List.range n).filter p)[((List.range j).filter p).length]?=some j
 | 0,h=>absurd h (by omega)
 | n+1,h=>by
   rw [vA,uy];by_cases aw:j<n
   ·have:=SH p aC aw;rw [sR (ss.1 this).1,this]
   ·(obtain rfl:j=n:=by omega);rw [sZ (sx _)];simp [aC]
theorem PJ (p:Nat→Bool) (j:Nat):((List.range (j+1)).filter p).length=((List.range j).filter p).length+if p j=true then 1 else 0:=by
 rw [vA,uy,sA];by_cases h:p j=true
 ·rw [if_pos h];simp [h]
 ·rw [if_neg h];simp [h]
theorem aki {α:Type} (Y:α) (step:Nat→α→α):∃ Z:Nat→α,Z 0=Y∧∀ j,Z (j+1)=step j (Z j):=⟨fun n=>Nat.rec Y (fun j z=>step j z) n,rfl,fun _=>rfl⟩
theorem Qp {n i b:Nat} (hi:i<n) (ag:b<2):rF (2*i+b)=((i:Int),(b:Int)):=by
 unfold rF;rw [show (2*i+b) / 2=i by omega,show (2*i+b) % 2=b by omega]
theorem W' {t:qb} {figure:Int} (al:t.2.length≤1000) {L N:Nat} {r3:Nat→List au} (hlen:∀ i,(r3 i).length=N) {c:Nat→Nat} (ao:∀ j,c j=((List.range j).filter (r_ t figure)).length) {M:Nat} (B':M≤2*t.2.length) {Z:Nat→List au} {Py:List au}
  (bp:∀ r,r<M→if r_ t figure r=true then Sem Tryz.prog (.yield L) [.agg (p4 (rF r))] (r3 (c r)++(Z r++[au.cells (p4 (rF r))])) 0 (.bool true) (r3 (c (r+1))++Z (r+1)) else Z (r+1)=Z r++[au.cells (p4 (rF r))])
  (he:(M=2*t.2.length∧Py=r3 (c M)++Z M)∨(M<2*t.2.length∧r_ t figure M=true∧Sem Tryz.prog (.yield L) [.agg (p4 (rF M))] (r3 (c M)++(Z M++[au.cells (p4 (rF M))])) 0 (.bool false) Py)) (pz:bd 0 (r3 0++Z 0) Py) :
  Sem Tryz.prog (.fn 113) [.yield L,.bW [.bW [hY t.1,.ay (t.2.flatMap p4) t.2.length .shared]],.bW [hY figure]] (r3 0++Z 0) 0 (.tuple []) Py:=by
 obtain ⟨n,aN⟩:∃ n,n=t.2.length:=⟨_,rfl⟩;obtain ⟨p,aC⟩:∃ p,p=r_ t figure:=⟨_,rfl⟩;have jK:∀ j,c (j+1)=c j+if p j=true then 1 else 0:=fun j=>by rw [ao,ao,aC];exact PJ _ j
 rw [←aN] at B' he al;rw [←aC] at bp he;refine Hj dM ag4 rfl pz fun Q bo=>?_;unfold Zj;obtain ⟨fW,GX⟩:∃ c,Ur=c:=⟨_,rfl⟩;rw [GX];conv=>whnf
 rw [←aN];refine .intro (fun m T H=>∃ i:Nat,i≤n∧2*i≤M∧m=n-i∧T=GI 41 [(0,.yield L),(1,.bW [.bW [hY t.1,.ay (t.2.flatMap p4) n .shared]]),(2,.bW [hY figure]),(14,hY (n:Int)),(15,hY (i:Int))]∧H=r3 (c (2*i))++Z (2*i)) n ⟨0,sK _,sK _,rfl,rfl,by rw [ao];rfl⟩ ?_;rintro m T H ⟨i,hi,aga,rfl,rfl,rfl⟩;conv=>whnf
 refine H6 (fun OC=>?_) (fun OC=>?_)
 ·have aU:i<n:=by omega
  conv=>whnf
  refine IK fun m2 Hc=>?_;subst GX;unfold Ur;obtain ⟨d',B4⟩:∃ c,Uq=c:=⟨_,rfl⟩;rw [B4];conv=>whnf
  refine IK fun m3 Ke=>?_;subst B4;unfold Uq;obtain ⟨b9,hy⟩:∃ c,Up=c:=⟨_,rfl⟩;rw [hy];conv=>whnf
  refine .intro (fun m T H=>∃ b:Nat,b≤2∧2*i+b≤M∧m=2-b∧T=GI 41 [(0,.yield L),(1,.bW [.bW [hY t.1,.ay (t.2.flatMap p4) n .shared]]),(2,.bW [hY figure]),(4,hY (i:Int)),(14,hY (n:Int)),(15,hY (i:Int)),(18,hY (b:Int))]∧H=r3 (c (2*i+b))++Z (2*i+b)) 2 ⟨0,sK _,aga,rfl,rfl,rfl⟩ ?_;rintro m T H ⟨b,ag,Tj,rfl,rfl,rfl⟩;conv=>whnf
  refine H6 (fun bt=>?_) (fun bt=>?_)
  ·(have fs:b<2:=by omega);have Oj:rF (2*i+b)=((i:Int),(b:Int)):=Qp aU fs;have afB:LD t ((i:Int),(b:Int))=some (qP t ((i:Int),(b:Int)),fin t ((i:Int),(b:Int))):=J0 ⟨by omega,by omega⟩;have YR:=Kw afB;rw [←aN] at YR;(conv=>whnf);refine IK fun am6 S6=>?_;subst hy;unfold Up;obtain ⟨bu,eb⟩:∃ c,Uo=c:=⟨_,rfl⟩;rw [eb];(conv=>whnf);refine IK fun am7 S7=>?_;subst eb;unfold Uo;obtain ⟨bn,b_⟩:∃ c,Un=c:=⟨_,rfl⟩;rw [b_];(conv=>whnf);refine D1 (x:=au.cells [hY (0:Int),hY (0:Int)]) (by first | exact qz.h | rfl | (simp [su,I.settle];done)) ?_
   (conv=>whnf);rw [rE];refine IK fun am8 S8=>?_;subst b_;unfold Un;obtain ⟨bc,cd⟩:∃ c,Um=c:=⟨_,rfl⟩;rw [cd];(conv=>whnf);refine D1 (x:=au.cells [hY (i:Int),hY (b:Int)]) (by first | exact qz.h | rfl | (simp [su,I.settle];done)) ?_
   (conv=>whnf);refine ⟨(p5 (rj (p5 rfl (p5 (q7 (fun _=>(p5 rfl (p5 rfl rfl))) _ _ _) rfl))) (p5 (JD (p5 rfl (p5 rfl rfl))) rfl)),_,YR,?_⟩;(conv=>whnf);refine IK fun am9 S9=>?_;subst cd;unfold Um;(conv=>whnf);rcases Ja (decide (qP t ((i:Int),(b:Int))=figure)) with Lk | Lk
   ·(have Ki:p (2*i+b)=true:=by rw [aC];show decide (qP t (rF (2*i+b))=figure)=true;rw [Oj];exact Lk);rw [Lk];(conv=>whnf);refine D1 (x:=au.cells [hY (i:Int),hY (b:Int)]) (by first | exact qz.h | rfl | (simp [su,I.settle];done)) ?_
    (conv=>whnf);rw [sD];by_cases S_:2*i+b<M
    ·have aj:=bp _ S_;rw [if_pos Ki,Oj] at aj;refine ⟨_,_,Hv aj,?_⟩;(conv=>whnf);refine S9 _ _ _ ?_;(conv=>whnf);refine S8 _ _ _ ?_;(conv=>whnf);refine S7 _ _ _ ?_;(conv=>whnf);refine S6 _ _ _ ?_;(conv=>whnf);refine ⟨2-(b+1),by omega,b+1,by omega,by omega,rfl,?_,rfl⟩;rw [show IntKind.i64.wrap ((b:Int)+1)=((b+1:Nat):Int) by rw [I8 _ (by omega) (by omega)];omega];rfl
    ·(have afF:M=2*i+b:=by omega);rcases he with ⟨ad,_⟩ | ⟨_,_,aG⟩
     ·omega
     ·rw [afF,Oj] at aG;refine ⟨_,_,Hv aG,?_⟩;(conv=>whnf);refine S9 _ _ _ ?_;(conv=>whnf);refine S8 _ _ _ ?_;(conv=>whnf);refine S7 _ _ _ ?_;(conv=>whnf);refine S6 _ _ _ ?_;(conv=>whnf);refine Ke _ _ _ ?_;(conv=>whnf);refine Hc _ _ _ ?_;(conv=>whnf);exact bo _ _ _ ⟨.inr rfl,jr.refl _,rfl⟩
   ·(have Ki:¬ p (2*i+b)=true:=by rw [aC];show ¬ decide (qP t (rF (2*i+b))=figure)=true;rw [Oj,Lk];decide);have S_:2*i+b<M:=by
     rcases he with ⟨ad,_⟩ | ⟨_,af,_⟩
     ·omega
     ·rcases tg (2*i+b) M with h | h
      ·exact h
      ·rw [show M=2*i+b by omega] at af;exact absurd af Ki
    have aj:=bp _ S_;rw [if_neg Ki,Oj] at aj;rw [Lk];(conv=>whnf);refine S9 _ _ _ ?_;(conv=>whnf);refine S8 _ _ _ ?_;(conv=>whnf);refine S7 _ _ _ ?_;(conv=>whnf);refine S6 _ _ _ ?_;(conv=>whnf);refine ⟨2-(b+1),by omega,b+1,by omega,by omega,rfl,?_,?_⟩
    ·rw [show IntKind.i64.wrap ((b:Int)+1)=((b+1:Nat):Int) by rw [I8 _ (by omega) (by omega)];omega];rfl
    ·rw [show 2*i+(b+1)=2*i+b+1 by omega,aj,jK,if_neg Ki,sD];rfl
  ·(obtain rfl:b=2:=by omega);(conv=>whnf);refine Ke _ _ _ ?_;(conv=>whnf);refine Hc _ _ _ ?_;(conv=>whnf);refine ⟨n-(i+1),by omega,i+1,by omega,by omega,rfl,?_,rfl⟩;rw [show IntKind.i64.wrap ((i:Int)+1)=((i+1:Nat):Int) by rw [I8 _ (by omega) (by omega)];omega];rfl
 ·obtain rfl:i=n:=by omega
  conv=>whnf
  rcases he with ⟨ad,af⟩ | ⟨ad,_,_⟩
  ·subst af;rw [ad] at bo;exact bo _ _ _ ⟨.inl rfl,jr.refl _,rfl⟩
  ·omega
theorem W_ {t:qb} {figure:Int} {L N:Nat} {r3:Nat→List au} (hlen:∀ i,(r3 i).length=N) {c:Nat→Nat} (ao:∀ j,c j=((List.range j).filter (r_ t figure)).length) {M:Nat} (Y:List au)
  (aj:∀ r,r<M→r_ t figure r=true→∀ Y,∃ rK,Sem Tryz.prog (.yield L) [.agg (p4 (rF r))] (r3 (c r)++Y) 0 (.bool true) (r3 (c r+1)++rK)) :
  ∃ Z:Nat→List au,Z 0=Y∧(∀ r,r<M→if r_ t figure r=true then Sem Tryz.prog (.yield L) [.agg (p4 (rF r))] (r3 (c r)++(Z r++[au.cells (p4 (rF r))])) 0 (.bool true) (r3 (c (r+1))++Z (r+1)) else Z (r+1)=Z r++[au.cells (p4 (rF r))]) ∧
    ∀ r,r≤M→(r3 0++Y).length≤(r3 (c r)++Z r).length:=by
 have jK:∀ j,c (j+1)=c j+if r_ t figure j=true then 1 else 0:=fun j=>by rw [ao,ao];exact PJ _ j
 have yZ:∀ (j:Nat) (Y:List au),∃ rK,j<M→r_ t figure j=true→Sem Tryz.prog (.yield L) [.agg (p4 (rF j))] (r3 (c j)++Y) 0 (.bool true) (r3 (c (j+1))++rK):=fun j Y=>by
  by_cases aw:j<M∧r_ t figure j=true
  ·obtain ⟨rK,h⟩:=aj j aw.1 aw.2 Y;exact ⟨rK,fun _ _=>by rw [jK,if_pos aw.2];exact h⟩
  ·exact ⟨[],fun a b=>absurd ⟨a,b⟩ aw⟩
 obtain ⟨g,aO⟩:∃ g:Nat→List au→List au,∀ (j:Nat) (Y:List au),j<M→r_ t figure j=true→Sem Tryz.prog (.yield L) [.agg (p4 (rF j))] (r3 (c j)++Y) 0 (.bool true) (r3 (c (j+1))++g j Y) :=
  ⟨fun j Y=>Classical.choose (yZ j Y),fun j Y=>vS (yZ j Y)⟩
 clear yZ;obtain ⟨Z,Lj,Li⟩:=aki Y fun j Y=>if r_ t figure j=true then g j (Y++[au.cells (p4 (rF j))]) else Y++[au.cells (p4 (rF j))];refine ⟨Z,Lj,fun r P'=>?_,fun r=>?_⟩
 ·by_cases h:r_ t figure r=true
  ·rw [if_pos h,Li r,if_pos h];exact aO r _ P' h
  ·rw [if_neg h,Li r,if_neg h]
 ·induction r with
  | zero=>intro _;rw [Lj,sA,sA,hlen,hlen];exact sx _
  | succ j bb =>
    intro aw;refine sW (bb (by omega)) ?_;by_cases Ki:r_ t figure j=true
    ·have ad:=(aO j (Z j++[au.cells (p4 (rF j))]) (by omega) Ki).1.1;rw [Li j];simp only [if_pos Ki];refine sW ?_ ad;rw [←sD];simp
    ·rw [Li j,jK,if_neg Ki];simp only [if_neg Ki];rw [←sD];simp
theorem TT {t:qb} {figure:Int} {r:Nat} (aj:r<2*t.2.length) (ag:r_ t figure r=true):((G3 t figure).map fun p=>I.agg (p4 p))[((List.range r).filter (r_ t figure)).length]?=some (.agg (p4 (rF r))):=by
 rw [G3,uD,sN,SH _ ag aj];rfl
def Lu (t:qb) (figure:Int):Option (List (Int×Int)):=if t.2.length≤1000 then some (G3 t figure) else none
theorem ajZ {t:qb} {figure:Int} {v:List (Int×Int)} (h:Lu t figure=some v):Seq Tryz.prog 113 [.bW [.bW [hY t.1,.ay (t.2.flatMap p4) t.2.length .shared]],.bW [hY figure]] (v.map fun e1=>.agg [hY e1.1,hY e1.2]):=by
 unfold Lu at h;split at h
 ·rename_i al;obtain rfl:=Option.some.inj h;intro L N r3 hlen fr aj Y;have ao:∀ j,((List.range j).filter (r_ t figure)).length=((List.range j).filter (r_ t figure)).length:=fun _=>rfl;have HN:((G3 t figure).map fun e1=>I.agg [hY e1.1,hY e1.2]).length=((List.range (2*t.2.length)).filter (r_ t figure)).length:=by simp [G3]
  obtain ⟨Z,Lj,Li,hle⟩:=W_ (t:=t) (figure:=figure) (L:=L) hlen ao (M:=2*t.2.length) Y fun r P' ag Y=>by
   have aO:=TT P' ag;obtain ⟨ad,af⟩:=ss.1 aO;obtain ⟨rK,h⟩:=aj _ ad Y;refine ⟨rK,?_⟩;rw [←af];exact h
  refine ⟨Z (2*t.2.length),?_⟩;rw [HN,←Lj];exact W' al hlen ao (sx _) Li (.inl ⟨rfl,rfl⟩) (Qd (by rw [Lj];exact hle _ (sx _)))
 ·cases h
end Go.Proofs.YtfakoboiahbhaaaGreat.Ab


namespace Go.Proofs.YtfakoboiahbhaaaGreat.Ab
open Go Go.ChangeShapes Go.WideShapes Go.ChangeAt Go.RowKit
set_option maxRecDepth 100000
section
variable {H:Type} {enc:TypeId×Value→H} {w:World} {base:Nat}
def MQ:I→Prop:=fun u=>∃ x,u=hY x∧J7 x
theorem Sv:KB enc Tryz.prog w 3 MQ:=fun n v y h=>by
 obtain ⟨u,a,b,c,x,rfl,d⟩:=Xg (P:=Tryz.prog) Tryz.underlying3 n v y h;exact ⟨_,a,b,c,x,rfl,wf_i64 d⟩
theorem ait {us:List I} (h:MO [MQ,MQ] us):∃ p:Int×Int,us=p4 p∧J7 p.1∧J7 p.2:=by
 obtain ⟨ak,h⟩:=h
 match us,ak with
 | [a,b],_ =>
   obtain ⟨x,rfl,al⟩:=h 0 _ _ rfl rfl;obtain ⟨y,rfl,a2⟩:=h 1 _ _ rfl rfl;exact ⟨(x,y),rfl,al,a2⟩
def RV (bl:List (Int×Int)):Prop:=bl.length≤9223372036854775807∧∀ p∈bl,J7 p.1∧J7 p.2
abbrev R1 (bl:List (Int×Int)):I:=.ay (bl.flatMap p4) bl.length .shared
def V_:I→Prop:=fun u=>∃ bl,u=R1 bl∧RV bl
theorem afp : Px enc Tryz.prog w #[{ name := "Left", type := 3, offset := 0, embedded := false, tag := "", pkgPath := "", byteOffset := 0 }, { name := "Right", type := 3, offset := 1, embedded := false, tag := "", pkgPath := "", byteOffset := 8 }] [MQ, MQ] := ⟨rfl, fun i f q aQ a5 => by
 match i with
 | 0=>simp at aQ a5;subst aQ;subst a5;exact ⟨rfl,by kernel_rfl,Sv⟩
 | 1=>simp at aQ a5;subst aQ;subst a5;exact ⟨rfl,by kernel_rfl,Sv⟩
 | i+2=>simp at a5⟩
theorem aeI:KB enc Tryz.prog w 22 V_:=fun n v y h=>by
 obtain ⟨u,a,b,c,L,rfl,ak,fr⟩:=aeJ Tryz.underlying22 Tryz.underlying67 (by kernel_rfl) (by decide) afp n v y h;obtain ⟨bl,rfl,aC⟩:=YI (f:=p4) (R:=fun p:Int×Int=>J7 p.1∧J7 p.2) fun us hu=>by
  obtain ⟨p,e,ad,af⟩:=ait (fr us hu);exact ⟨p,e,ad,af⟩
 refine ⟨_,a,b,c,bl,?_,by have:=YK ak;simpa using this,aC⟩;simp [R1,List.flatMap_def]
structure ade (b:qb):Prop where
 f:J7 b.1
 l:RV b.2
theorem aek:Arg enc Tryz.prog w base 24 fun u=>∃ b:qb,u=.agg [hY b.1,R1 b.2]∧ade b:=by
 intro v d p ae a1
 obtain ⟨u,a,b,us,rfl,ak,hu⟩:=aen (P:=Tryz.prog) (enc:=enc) (w:=w) (base:=base) (Qs:=[MQ,V_]) Tryz.underlying24 (by kernel_rfl) ⟨rfl,fun i f q aQ a5=>by
  match i with
  | 0=>simp at aQ a5;subst aQ;subst a5;exact ⟨rfl,by kernel_rfl,Sv⟩
  | 1=>simp at aQ a5;subst aQ;subst a5;exact ⟨rfl,by kernel_rfl,aeI⟩
  | i+2=>simp at a5⟩ v d p ae a1
 match us,ak with
 | [jw,aB],_ =>
   obtain ⟨x,rfl,al⟩:=hu 0 _ _ rfl rfl;obtain ⟨y,rfl,a2⟩:=hu 1 _ _ rfl rfl;exact ⟨_,a,b,(x,y),rfl,al,a2⟩
end
end Go.Proofs.YtfakoboiahbhaaaGreat.Ab


namespace Go.Proofs.YtfakoboiahbhaaaGreat.Ab
open Go Go.ChangeShapes Go.WideShapes Go.ChangeAt Go.RowKit
set_option maxRecDepth 100000
section
variable {H:Type} {enc:TypeId×Value→H} {w:World} {base:Nat}
theorem anc:Arg enc Tryz.prog w base 5 fun u=>∃ x,u=.int .u8 x∧0≤x∧x≤255:=fun v d p ae a1=>by
 obtain ⟨u,a,b,x,rfl,h⟩:=ael (P:=Tryz.prog) (enc:=enc) (w:=w) (base:=base) Tryz.underlying5 v d p ae a1;exact ⟨_,a,b,x,rfl,wf_u8 h⟩
theorem aeo:Arg enc Tryz.prog w base 55 fun u=>∃ l,u=R3 l∧V5 l:=aem Tryz.underlying55 (aeG Tryz.underlying55 (by kernel_rfl) Tryz.underlying5)
structure am5 (l:List (List (Int×Int))):Prop where
 n:l.length≤9223372036854775807
 v:∀ r∈l,RV r
end
end Go.Proofs.YtfakoboiahbhaaaGreat.Ab


namespace Go.Proofs.YtfakoboiahbhaaaGreat.Ab
open Go
def Su:iB→iB→Bool
 | .shared,.shared=>true
 | .full,.full=>true
 | .own a,.own b=>Nat.beq a b
 | .uniq a,.uniq b=>Nat.beq a b
 | _,_=>false
theorem aeD:∀ {a b:iB},Su a b=true→a=b:=by
 intro a b h;cases a <;> cases b <;> simp only [Su,ub] at h <;> first | rfl | (rw [tw h])
def Jk (f:I→I→Bool):List I→List I→Bool
 | [],[]=>true
 | a::l,b::r=>match f a b with
   | true=>Jk f l r
   | false=>false
 | _,_=>false
theorem KR {f:I→I→Bool} (aQ:∀ a b,f a b=true→a=b):∀ {a b:List I},Jk f a b=true→a=b
 | [],[],_=>rfl
 | [],_::_,h=>by simp [Jk] at h
 | _::_,[],h=>by simp [Jk] at h
 | a::l,b::r,h=>by
   simp only [Jk] at h;split at h
   ·rename_i jI;rw [aQ a b jI,KR aQ h]
   ·cases h
def IQ:Nat→I→I→Bool
 | 0,_,_=>false
 | d+1,a,b=>match a,b with
   | .bool x,.bool y=>match x,y with | true,true=>true | false,false=>true | _,_=>false
   | .int k x,.int q y=>match decide (k=q),decide (x=y) with | true,true=>true | _,_=>false
   | .eH,.eH=>true
   | .bW x,.bW y=>Jk (IQ d) x y
   | .ay x n c,.ay y m e=>match Jk (IQ d) x y,Nat.beq n m,Su c e with | true,true,true=>true | _,_,_=>false
   | .func f x y,.func g z w=>match Nat.beq f g,Jk (IQ d) x z,Jk (IQ d) y w with | true,true,true=>true | _,_,_=>false
   | .agg x,.agg y=>Jk (IQ d) x y
   | .tuple x,.tuple y=>Jk (IQ d) x y
   | _,_=>false
theorem MU:∀ (d:Nat) (a b:I),IQ d a b=true→a=b
 | 0,_,_,h=>by simp [IQ] at h
 | d+1,a,b,h=>by
   have bb:=MU d;unfold IQ at h;split at h
   ·split at h <;> first | rfl | cases h
   ·rename_i k x q y;split at h
    ·rename_i ad af;rw [of_decide_eq_true ad,of_decide_eq_true af]
    ·cases h
   ·rfl
   ·rw [KR bb h]
   ·split at h
    ·rename_i ad af aG;rw [KR bb ad,tw af,aeD aG]
    ·cases h
   ·split at h
    ·rename_i ad af aG;rw [tw ad,KR bb af,KR bb aG]
    ·cases h
   ·rw [KR bb h]
   ·rw [KR bb h]
   ·cases h
inductive qR where
 | pure (k:Nat) (args:List I) (v:I)
 | map (k:Nat) (args:List I) (es:List (Nat×I×I)) (clock:Nat)
def q4 (P:Program):qR→Prop
 | .pure k args v=>lv P k args v
 | .map k args es clock=>∀ H,Sem P (.fn k) args H H.length (.map H.length) (H++[.map es clock])
def look (k:Nat) (args:List I) (H:List au) (lo:Nat):List qR→Option (I×List au)
 | []=>none
 | .pure q bs v::r=>match Nat.beq k q with
   | true=>match Jk (IQ 20) args bs with
     | true=>match H with
       | []=>some (v,[])
       | _=>look k args H lo r
     | false=>look k args H lo r
   | false=>look k args H lo r
 | .map q bs es clock::r=>match Nat.beq k q with
   | true=>match Jk (IQ 20) args bs with
     | true=>match Nat.beq lo H.length with
       | true=>some (.map H.length,H++[.map es clock])
       | false=>look k args H lo r
     | false=>look k args H lo r
   | false=>look k args H lo r
def Vm (l:List qR):b8:=fun b2 args H lo=>match b2 with
 | .fn k=>look k args H lo l
 | _=>none
theorem Sem.aha {P:Program} {b2:e'} {args:List I} {r:I} {H':List au} (h:Sem P b2 args [] 0 r H') (lo:Nat):Sem P b2 args [] lo r H' :=
 ⟨⟨h.1.1,fun _ _ h=>by simp at h⟩,h.2⟩
theorem look_ok {P:Program} {k:Nat} {args:List I} {H:List au} {lo:Nat} {r:I} {H':List au}:∀ {l:List qR},(∀ e∈l,q4 P e)→look k args H lo l=some (r,H')→Sem P (.fn k) args H lo r H'
 | [],_,h=>by simp [look] at h
 | .pure q bs v::l,ak,h=>by
   have Kk:=look_ok (k:=k) (args:=args) (H:=H) (lo:=lo) (r:=r) (H':=H') fun e he=>ak e (uw _ he);unfold look at h;split at h
   ·rename_i ad;split at h
    ·rename_i af;split at h
     ·cases h;have:=ak (.pure q bs r) uK;rw [tw ad,KR (MU 20) af];exact this.1.aha lo
     ·exact Kk h
    ·exact Kk h
   ·exact Kk h
 | .map q bs es clock::l,ak,h=>by
   have Kk:=look_ok (k:=k) (args:=args) (H:=H) (lo:=lo) (r:=r) (H':=H') fun e he=>ak e (uw _ he);unfold look at h;split at h
   ·rename_i ad;split at h
    ·rename_i af;split at h
     ·rename_i aG;cases h;have:=ak (.map q bs es clock) uK;rw [tw ad,KR (MU 20) af,tw aG];exact this H
     ·exact Kk h
    ·exact Kk h
   ·exact Kk h
theorem akD {P:Program} {l:List qR} (ak:∀ e∈l,q4 P e):dc P (Vm l):=oN fun b2 args H lo r H' h=>by
 cases b2 with
 | fn k=>exact look_ok ak h
 | yield i=>simp [Vm] at h
def Lr (A:FuncId→c'):Nat→List Func→Bool
 | _,[]=>true
 | k,f::r=>match (A k).bad with
   | true=>Lr A (k+1) r
   | false=>match f.body with
     | some c => match codeOk (A k) c, f.name == "runtime.NumGoroutine" with
       | true,false=>Lr A (k+1) r
       | _,_=>false
     | none=>Lr A (k+1) r
theorem YS {A : FuncId → c'} : ∀ {l : List Func} {k : Nat}, Lr A k l = true → ∀ (i : Nat) (f : Func) (c : Code), (A (k + i)).bad = false → l[i]? = some f → f.body = some c → codeOk (A (k + i)) c = true ∧ f.name ≠ "runtime.NumGoroutine"
 | [],_,_,i,f,c,_,h,_=>by simp at h
 | g::r,k,h,i,f,c,nn,aQ,ao=>by
   unfold Lr at h;cases i with
   | zero =>
     simp at aQ;subst aQ;rw [Nat.add_zero] at nn;rw [nn,ao] at h;simp only at h;split at h
     ·rename_i ad af;exact ⟨ad,by simpa using af⟩
     ·cases h
   | succ i =>
     have aj:Lr A (k+1) r=true:=by
      split at h
      ·exact h
      ·split at h
       ·split at h
        ·exact h
        ·cases h
       ·exact h
     have:=YS aj i f c (by rw [show k+1+i=k+(i+1) by omega];exact nn) (by simpa using aQ) ao;rw [show k+(i+1)=k+1+i by omega];exact this
theorem aij {P : Program} {A : FuncId → c'} (h : Lr A 0 P.funcs.toList = true) (k : Nat) (f : Func) (c : Code) (ag : (A k).bad = false) (aQ : P.funcs[k]? = some f) (ao : f.body = some c) : codeOk (A k) c = true ∧ f.name ≠ "runtime.NumGoroutine" := by
 have:=YS h k f c (by rw [tc];exact ag) (by simpa using aQ) ao
 rwa [tc] at this
theorem aeh:Lr jz 0 Go.Proofs.Tryz.prog.funcs.toList=true:=by kernel_rfl
noncomputable def QJ (l:List qR) (k:Nat) (args:List I):Option I:=match fX Go.Proofs.Tryz.prog jz (Vm l) 300 (.fn k) args [] 0 with
 | some (r,a4)=>match bL a4 0 a4.length 0 8 r with
   | some v=>match ct 8 v.settle with
     | true=>some v.settle
     | false=>none
   | none=>none
 | none=>none
theorem G5 {l:List qR} (ak:∀ e∈l,q4 Go.Proofs.Tryz.prog e) {k:Nat} {args:List I} {v:I} (h:QJ l k args=some v):lv Go.Proofs.Tryz.prog k args v:=by
 unfold QJ at h;split at h
 ·rename_i r a4 ao;split at h
  ·rename_i u aQ;split at h
   ·rename_i aC;cases h;have ai:=(BP dM jz (akD ak) (aij aeh) 300).GF ao;refine ⟨⟨bd.refl _ _,ai.2.1,fun B U J S w xs ah aN ae=>CallsIn.mono (ai.2.2 B U J S w xs ah aN ae) fun e w' he=>?_⟩,aC⟩;cases e with
    | returned x =>
      have nA:=xo ah (fun id aE=>by simp at aE) aQ he;show a3 B U J S w [] u.settle x w';cases u with
      | ay cells len gE =>
        cases gE with
        | uniq z=>exact nA.settle
        | _=>exact nA
      | _=>exact nA
    | panicked c=>exact he.elim
    | outgrown=>exact he.elim
   ·cases h
  ·cases h
 ·cases h
end Go.Proofs.YtfakoboiahbhaaaGreat.Ab


namespace Go.Proofs.YtfakoboiahbhaaaGreat.Ab
open Go
noncomputable def ajl:eE :=
 .j_ false [Gt 5 0,Gs 6 2,Gt 7 2,gV 8 [.hS 7] (.conv .u64),gV 9 [.iK (.func 97 [] []),.sl 8] (.call 3),gV 10 [.iK (.func 96 [] []),.hP 5,.iK (.int .i64 0),.hP 6,.hP 9] (.call 1)]
noncomputable def UJ:eE :=
 GD [Gs 3 0,Gp 4 3,Gt 2 4] ajl
theorem YC:zm Go.Proofs.Tryz.prog WZ 73=some (UJ,11,[]):=by kernel_rfl
noncomputable def O6:eE :=
 GD [Gt 24 0,Gt 25 1,Gt 26 2,gV 27 [.iK (.func 115 [] []),.hP 24,.hP 25,.hP 26] (.call 1)] .ret
noncomputable def aju:eE :=
 GD [Gt 30 0,Gt 31 1,Gt 32 2,gV 33 [.iK (.func 116 [] []),.hP 30,.hP 31,.hP 32] (.call 1)] .ret
noncomputable def ajv:eE :=
 GD [Gs 36 0,Gs 37 1,Gs 38 2,gV 39 [.iK (.func 117 [] []),.hP 36,.hP 37,.hP 38] (.call 1)] (Gw [Gt 40 3,F4 41 40 1 .sub,Gt 3 41])
noncomputable def ajw:eE :=
 GD [Gs 55 2,F4 56 55 1 .sub,Gt 57 11,Gs 58 1,F5 59 57 58 .sub,F5 60 56 59 .sub,Gt 11 60] (Gw [Gr 12 1])
noncomputable def ajx:eE :=
 GD [Gs 51 0,Gs 52 1,Gs 53 2,gV 54 [.iK (.func 119 [] []),.hP 51,.hP 52,.hP 53] (.call 1)] ajw
noncomputable def ajy:eE :=
 GD [Gs 69 0,Gs 70 1,Gs 71 2,gV 72 [.iK (.func 120 [] []),.hP 69,.hP 70,.hP 71] (.call 1)] (.cond (.sl 72) .ret .skip)
noncomputable def ajz:eE :=
 GD [Gs 88 0,Gt 89 1,Gs 90 2,Gt 91 11,gV 92 [.iK (.func 122 [] []),.hP 88,.hP 89,.hP 90,.hP 91] (.call 1),Gt 13 92] (GD [Gt 93 13,Gt 1 93] (.exit 1))
noncomputable def ajA:eE :=
 GD [Gs 117 0,Gt 118 1,Gs 119 14,Gs 120 3,gV 121 [.iK (.func 96 [] []),.hP 117,.hP 118,.hP 119,.hP 120] (.call 1)] (Gw [Gt 122 14,F3 123 122 1,Gt 1 123])
noncomputable def ajB:eE :=
 GD [Gt 114 16,Gt 115 18,F5 116 114 115 .geq,Gt 8 116] ajA
noncomputable def ajm:eE :=
 GD [Gs 127 0,Gs 128 14,F3 129 128 1,Gt 130 2,Gs 131 3,gV 132 [.iK (.func 96 [] []),.hP 127,.hP 129,.hP 130,.hP 131] (.call 1)] (Gw [Gt 133 14,Gt 2 133])
noncomputable def ajn:eE :=
 GD [Gt 124 17,Gt 125 18,F5 126 124 125 .geq,Gt 8 126] ajm
noncomputable def ajo:eE :=
 GD [Gt 109 10,F4 110 109 8 .quo,Gt 18 110] (GD [Gs 111 16,Gs 112 17,F5 113 111 112 .lss] (.cond (.sl 113) ajB ajn))
noncomputable def ajp:eE :=
 GD [Gs 103 14,Gs 104 1,F5 105 103 104 .sub,Gs 106 2,Gs 107 14,F5 108 106 107 .sub,Gt 16 105,Gt 17 108] ajo
noncomputable def ajq:eE :=
 GD [Gs 95 0,Gs 96 1,Gs 97 2,Gt 98 11,gV 99 [.iK (.func 123 [] []),.hP 95,.hP 96,.hP 97,.hP 98] (.call 1),Gt 94 99,GL 100 94 0,gV 101 [.hS 94] (.ext 1),Gt 14 100,Gt 15 101] (GD [Gt 102 15,Gt 9 102] ajp)
noncomputable def ajr:eE :=
 .seq (.seq (Gx [Gs 73 1,F4 74 73 0 .gtr,Gt 75 74,cS 76 [.sl 0] 75 true .i_,cS 77 [.sl 1] 75 true .i_,cS 78 [.hS 77,.iK (.int .i64 1)] 75 true (.bin .sub),cS 79 [.hS 76,.hS 78] 75 true (.pV 1),cS 80 [.hS 79] 75 true (.p2 .one),cS 81 [.sl 0] 75 true .i_,cS 82 [.sl 11] 75 true .i_,cS 83 [.hS 81,.hS 82] 75 true (.pV 1),cS 84 [.hS 83] 75 true (.p2 .one),⟨some 85,[.iK (.func 121 [] []),.sl 80,.sl 84],some (75,true),none,.call 3⟩,cS 86 [.hS 85] 75 true (.un .not),gV 87 [.sl 75,.hS 86,.iK (.bool false)] .pick]) (.cond (.sl 87) ajz .skip)) ajq
noncomputable def ajs:eE :=
 .seq (GD [Gs 61 8,Gt 62 61,cS 63 [.sl 9] 62 true .i_,gV 64 [.hS 62,.hS 63,.iK (.bool false)] .pick,Gt 65 64,cS 66 [.hP 12] 65 true .i_,cS 67 [.hS 66,.iK (.int .i64 1)] 65 true (.bin .eql),gV 68 [.hS 65,.hS 67,.iK (.bool false)] .pick] (.cond (.sl 68) ajy .skip)) ajr
noncomputable def ajt:eE :=
 GD [Gs 43 0,Gs 44 1,Gs 45 2,gV 46 [.iK (.func 118 [] []),.hP 43,.hP 44,.hP 45] (.call 1),Gt 42 46,GL 47 42 0,gV 48 [.hS 42] (.ext 1),Gt 11 47,Gt 12 48] (.seq (GD [Gs 49 12,F4 50 49 2 .eql] (.cond (.sl 50) ajx .skip)) ajs)
noncomputable def Vb:eE :=
 .seq (GD [Gs 28 3,F4 29 28 0 .eql] (.cond (.sl 29) aju .skip)) (.seq (GD [Gs 34 8,gV 35 [.hS 34] (.un .not)] (.cond (.sl 35) ajv .skip)) ajt)
noncomputable def O7:eE :=
 .block 1 (GD [Gs 19 2,Gs 20 1,F5 21 19 20 .sub,Gt 10 21] (.seq (GD [Gs 22 10,F4 23 22 12 .leq] (.cond (.sl 23) O6 .skip)) Vb))
noncomputable def Va:eE :=
 GD [gV 8 [.iK (.bool true)] .i_] (GD [gV 9 [.iK (.bool true)] .i_] (.block 0 (.loop (some (ED false [0,4,4,2,124])) O7)))
theorem YF:zm Go.Proofs.Tryz.prog W4 96=some (Va,134,[]):=by kernel_rfl
noncomputable def aiT:eE :=
 .block 3 (Gx [Gs 33 0,Gs 34 7,Gs 35 0,Gs 36 7,F4 37 36 1 .sub,Gs 38 0,Gs 39 7,F4 40 39 1 .sub,Gl 41 38 40 1,Gq 42 41,Gs 43 0,Gs 44 7,Gl 45 43 44 1,Gq 46 45,Gl 47 33 34 1,⟨none,[.hP 47,.hP 42],none,none,.st 1⟩,Gl 48 35 37 1,⟨none,[.hP 48,.hP 46],none,none,.st 1⟩])
noncomputable def aiU:eE :=
 .seq (.seq (Gx [Gs 16 7,Gs 17 1,F5 18 16 17 .gtr,Gt 19 18,cS 20 [.sl 0] 19 true .i_,cS 21 [.sl 7] 19 true .i_,cS 22 [.hS 20,.hS 21] 19 true (.pV 1),cS 23 [.hS 22] 19 true (.p2 .one),cS 24 [.sl 0] 19 true .i_,cS 25 [.sl 7] 19 true .i_,cS 26 [.hS 25,.iK (.int .i64 1)] 19 true (.bin .sub),cS 27 [.hS 24,.hS 26] 19 true (.pV 1),cS 28 [.hS 27] 19 true (.p2 .one),⟨some 29,[.iK (.func 121 [] []),.sl 23,.sl 28],some (19,true),none,.call 3⟩,gV 30 [.sl 19,.hS 29,.iK (.bool false)] .pick]) (.cond (.sl 30) .skip (.exit 2))) (.seq aiT (Gw [Gt 31 7,F4 32 31 1 .sub,Gt 7 32]))
noncomputable def aiV:eE :=
 .block 1 (GD [Gs 15 6,Gt 7 15] (.block 2 (.loop (some (ED false [0,3,3,2,41])) aiU)))
noncomputable def aiW:eE :=
 .seq (GD [Gs 10 6,Gs 11 2,F5 12 10 11 .lss] (.cond (.sl 12) .skip (.exit 0))) (.seq aiV (Gw [Gt 13 6,F3 14 13 1,Gt 6 14]))
noncomputable def Us:eE :=
 GD [Gs 8 1,F3 9 8 1,Gt 6 9] (.block 0 (.loop (some (ED false [0,3,3,1,42])) aiW))
theorem Yy:zm Go.Proofs.Tryz.prog Wr 115=some (Us,49,[]):=by kernel_rfl
noncomputable def aiX:eE :=
 GD [Gs 5 0,gV 6 [.iK (.func 137 [] []),.sl 5] (.call 3),Gt 7 6,cS 8 [.sl 1] 7 true .i_,⟨some 9,[.iK (.func 137 [] []),.sl 8],some (7,true),none,.call 3⟩,cS 10 [.hS 9] 7 true (.un .not),gV 11 [.hS 7,.hS 10,.iK (.bool false)] .pick,Gt 12 11,cS 13 [.hP 0] 12 false .i_,cS 14 [.hP 1] 12 false .i_,cS 15 [.hS 13,.hS 14] 12 false (.bin .lss),gV 16 [.hS 12,.iK (.bool true),.hS 15] .pick,Gt 4 16] .ret
noncomputable def Zk:eE :=
 GD [gV 4 [.iK (.bool false)] .i_] aiX
theorem ag5:zm Go.Proofs.Tryz.prog Ws 121=some (Zk,17,[.tmp 4]):=by kernel_rfl
noncomputable def ajg:eE :=
 GD [Gs 3 0,Gt 4 0,F5 5 3 4 .neq,Gt 2 5] .ret
noncomputable def Zm:eE :=
 GD [gV 2 [.iK (.bool false)] .i_] ajg
theorem ag7:zm Go.Proofs.Tryz.prog Wy 137=some (Zm,6,[.tmp 2]):=by kernel_rfl
end Go.Proofs.YtfakoboiahbhaaaGreat.Ab


namespace Go.Proofs.YtfakoboiahbhaaaGreat.Ab
open Go
set_option maxRecDepth 20000
set_option maxHeartbeats 4000000
theorem agX (x:Int):qD 137 [hY x] (B false):=by
 refine F' dM ag7 rfl rfl ?_;unfold Zm;conv=>whnf
 exact Gz (.inr rfl) rfl (by rw [decide_eq_false (show ¬ (x≠x) from fun h=>h rfl)];rfl)
theorem ag2 (x y:Int):qD 121 [hY x,hY y] (B (decide (x<y))):=by
 refine F' dM ag5 rfl rfl ?_;unfold Zk;conv=>whnf
 refine ⟨by first | rfl | simp only [tL,ux,Ni,Nq,Nj,Nl,Nk,Nm,Ns,Nr,KW,Nn,No,Np,uj,uW],_,agX x,?_⟩
 conv=>whnf
 exact Gz (.inr rfl) rfl rfl
def J5 (d:Array Int):au:=.cells (d.toList.map hY)
def IN (id n:Nat):I:=.ref id 0 n none 1
theorem aeE (d:Array Int) (x:Nat) (h:x<d.size):(d.toList.map hY)[x]?=some (hY d[x]!):=by
 simp [h]
theorem aeF (d:Array Int) (x:Nat) (v:Int):(d.toList.map hY).set x (hY v)=(d.setIfInBounds x v).toList.map hY:=by
 simp [u7]
theorem swp_size (d:Array Int) (i j:Nat):(Sort.swp d i j).size=d.size:=by simp [Sort.swp]
theorem QH {d:Array Int} {n:Nat} (x:Nat) (e:n=x) (h:x<d.size) {K:I→Prop} (k:K (hY d[x]!)):eV (d.toList.map hY) n K:=by
 subst e;exact D1 (aeE d n h) k
theorem aa7 {d:Array Int} {n:Nat} {v:Int} (x:Nat) (e:n=x) (h:x<d.size) {K:List I→Prop} (k:K ((d.setIfInBounds x v).toList.map hY)):jm (d.toList.map hY) n (hY v) K:=by
 subst e;refine FO (by simpa using h) ?_;rw [aeF];exact k
section
variable {H:List au} {id lo:Nat} (bG:lo≤id)
include bG
theorem agW (d:Array Int) (a b:Nat) (a1:d.size≤1000) (cg:a≤b) (ag:b≤d.size) (ah:H[id]?=some (J5 d)) :
  Sem Go.Proofs.Tryz.prog (.fn 115) [IN id d.size,hY a,hY b] H lo (.tuple []) (H.set id (J5 (Sort.insertionSort Sort.ltInt d a b))):=by
 have aE:=(ss.1 ah).1;refine SK dM Yy rfl ⟨by simp,fun j ad af=>by rw [sG (by omega)]⟩ ?_;unfold Us;conv=>whnf
 have Cf:Nat.ble lo id=true:=uE bG;have gs:∀ c:au,(H.set id c)[id]?=some c:=fun c=>by rw [sE aE]
 have IU:∀ c e:au,((H.set id c).set id e)[id]?=some e:=fun c e=>by rw [td,gs]
 rw [rJ a (by omega)];refine .intro (fun m T H'=>∃ i gZ,a+1≤i∧(i≤b∨i=a+1)∧m=b+1-i∧gZ.size=d.size∧Sort.insOuter Sort.ltInt a b i gZ=Sort.insertionSort Sort.ltInt d a b∧T=GI 49 [(0,IN id d.size),(1,hY a),(2,hY b),(6,hY i)]∧H'=H.set id (J5 gZ)) (b-a) ⟨a+1,d,by omega,.inr rfl,by omega,rfl,rfl,rfl,?_⟩ ?_
 ·obtain ⟨ad,af⟩:=ss.1 ah;rw [←af,uX]
 rintro m T H' ⟨i,gZ,af_,X9,rfl,Cp,he,rfl,rfl⟩;conv=>whnf
 refine H6 (fun h=>?_) (fun h=>?_)
 ·conv=>whnf
  refine .intro (fun j T H'=>∃ rP:Array Int,j≤i∧rP.size=d.size∧Sort.insInner Sort.ltInt a j rP=Sort.insInner Sort.ltInt a i gZ∧T=GI 49 [(0,IN id d.size),(1,hY a),(2,hY b),(6,hY i),(7,hY j)]∧H'=H.set id (J5 rP)) i ⟨gZ,sx _,Cp,rfl,rfl,rfl⟩ ?_;rintro j T H' ⟨rP,aw,L1,L2,rfl,rfl⟩;conv=>whnf
  by_cases aG:(a:Int)<(j:Int)
  ·rw [decide_eq_true aG];obtain ⟨q,rfl⟩:∃ q,j=q+1:=⟨j-1,by omega⟩;(have hw:IntKind.i64.wrap (((q+1:Nat):Int)-1)=(q:Int):=by rw [I8 _ (by omega) (by omega)];omega);(conv=>whnf);refine ⟨by omega,?_⟩;(conv=>whnf);refine D1 (by first | exact gs _ | exact IU _ _ | assumption) ?_
   (conv=>whnf);refine QH (q+1) (by omega) (by omega) ?_;(conv=>whnf);rw [hw];refine ⟨by omega,?_⟩;(conv=>whnf);refine D1 (by first | exact gs _ | exact IU _ _ | assumption) ?_
   (conv=>whnf);refine QH (q) (by omega) (by omega) ?_;(conv=>whnf);refine ⟨by first | rfl | simp only [tL,ux,Ni,Nq,Nj,Nl,Nk,Nm,Ns,Nr,KW,Nn,No,Np,uj,uW],_,ag2 rP[q+1]! rP[q]!,Hu,?_⟩
   (conv=>whnf);by_cases a8:rP[q+1]!<rP[q]!
   ·rw [decide_eq_true a8];(conv=>whnf);rw [hw];refine ⟨by omega,?_⟩;(conv=>whnf);refine D1 (by first | exact gs _ | exact IU _ _ | assumption) ?_
    (conv=>whnf);refine QH (q) (by omega) (by omega) ?_;(conv=>whnf);refine ⟨by omega,?_⟩;(conv=>whnf);refine D1 (by first | exact gs _ | exact IU _ _ | assumption) ?_
    (conv=>whnf);refine QH (q+1) (by omega) (by omega) ?_;(conv=>whnf);refine ⟨by omega,?_⟩;(conv=>whnf);rw [Cf];(conv=>whnf);refine D1 (by first | exact gs _ | exact IU _ _ | assumption) ?_
    (conv=>whnf);refine aa7 (q+1) (by omega) (by first | omega | (simp only [uM];omega)) ?_
    (conv=>whnf);refine ⟨by omega,?_⟩;(conv=>whnf);rw [Cf];(conv=>whnf);refine D1 (by first | exact gs _ | exact IU _ _ | assumption) ?_
    (conv=>whnf);refine aa7 (q) (by omega) (by first | omega | (simp only [uM];omega)) ?_
    (conv=>whnf);refine ⟨q,by omega,Sort.swp rP (q+1) q,by omega,by rw [swp_size];exact L1,?_,?_,?_⟩
    ·rw [←L2,Sort.insInner,if_pos (by simp only [Sort.ltInt,sM,decide_eq_true_eq];exact ⟨by omega,a8⟩)]
    ·rw [hw];rfl
    ·simp only [td];rfl
   ·rw [decide_eq_false a8];(conv=>whnf);have e:Sort.insInner Sort.ltInt a i gZ=rP:=by
     rw [←L2,Sort.insInner,if_neg (by simp only [Sort.ltInt,sM,decide_eq_true_eq];exact fun bK=>a8 bK.2)]
    exact ⟨b+1-(i+1),by omega,i+1,rP,by omega,by omega,rfl,L1,by rw [←he,Sort.insOuter.eq_1 _ a b i,if_pos (by omega),e],by rw [←rJ i (by omega)];rfl,rfl⟩
  ·rw [decide_eq_false aG];(conv=>whnf);have e:Sort.insInner Sort.ltInt a i gZ=rP:=by
    rw [←L2];cases j with
    | zero=>rfl
    | succ q=>rw [Sort.insInner,if_neg (by simp only [sM,decide_eq_true_eq];exact fun bK=>by omega)]
   exact ⟨b+1-(i+1),by omega,i+1,rP,by omega,by omega,rfl,L1,by rw [←he,Sort.insOuter.eq_1 _ a b i,if_pos (by omega),e],by rw [←rJ i (by omega)];rfl,rfl⟩
 ·conv=>whnf
  have e:Sort.insertionSort Sort.ltInt d a b=gZ:=by
   rw [←he];unfold Sort.insOuter;rw [if_neg (by omega)]
  rw [e];exact ⟨.inl rfl,⟨by simp,fun j o aw=>.inr aw⟩,rfl⟩
theorem aj7 {l:List au} {i:Nat} {x:au} (h:l[i]?=some x):l.set i x=l:=by
 obtain ⟨ad,af⟩:=ss.1 h;rw [←af,uX]
theorem aiE (d:Array Int) (JR:Int) (a1:d.size≤12) (ah:H[id]?=some (J5 d)) :
  Sem Go.Proofs.Tryz.prog (.fn 96) [IN id d.size,hY 0,hY d.size,hY JR] H lo (.tuple []) (H.set id (J5 (Sort.insertionSort Sort.ltInt d 0 d.size))):=by
 refine Hj dM YF rfl ⟨by simp,fun j ad af=>by rw [sG (by omega)]⟩ fun Q bo=>?_;unfold Va;obtain ⟨Sm,JJ⟩:∃ c,O7=c:=⟨_,rfl⟩;rw [JJ];conv=>whnf
 refine .intro (fun m T H'=>T=GI 134 [(0,IN id d.size),(1,hY 0),(2,hY d.size),(3,hY JR),(8,B true),(9,B true)]∧H'=H) 0 ⟨rfl,rfl⟩ ?_;rintro m T H' ⟨rfl,rfl⟩;subst JJ;unfold O7;obtain ⟨bc,cd⟩:∃ c,O6=c:=⟨_,rfl⟩;obtain ⟨Sl,LV⟩:∃ c,Vb=c:=⟨_,rfl⟩;rw [cd,LV];conv=>whnf
 rw [show IntKind.i64.wrap ((d.size:Int)-0)=(d.size:Int) by rw [I8 _ (by omega) (by omega)];omega,decide_eq_true (show (d.size:Int)≤12 by omega)];conv=>whnf
 subst cd;unfold O6;conv=>whnf
 refine ⟨_,_,Hv (agW bG d 0 d.size (by omega) (sK _) (sx _) ah),?_⟩;conv=>whnf
 exact bo _ _ _ ⟨.inr rfl,⟨rfl,fun j o aw=>.inr aw⟩,rfl⟩
end
theorem aa9 (n:Int):IntKind.u64.wrap n=n % 18446744073709551616:=by simp [IntKind.wrap,IntKind.bits,IntKind.signed]
theorem ag1:((List.range 13).all fun n=>match QJ [] 97 [.int .u64 (n:Nat)] with | some v=>IQ 3 v (hY (Sort.bitsLen n)) | none=>false)=true:=by kernel_rfl
theorem PF (n:Nat) (h:n≤12):qD 97 [.int .u64 n] (hY (Sort.bitsLen n)):=by
 have:=sS.1 ag1 n (sX.2 (by omega));split at this
 ·rename_i v ae;rw [MU _ _ _ this] at ae;exact G5 (l:=[]) (by simp) ae
 ·cases this
theorem aj8 {H:List au} {id lo:Nat} (bG:lo≤id) (d:Array Int) (a1:d.size≤12) (ah:H[id]?=some (J5 d)) :
  Sem Go.Proofs.Tryz.prog (.fn 73) [IN id d.size] H lo (.tuple []) (H.set id (J5 (Sort.insertionSort Sort.ltInt d 0 d.size))):=by
 refine Hj dM YC rfl ⟨by simp,fun j ad af=>by rw [sG (by omega)]⟩ fun Q bo=>?_;unfold UJ;conv=>whnf
 rw [show IntKind.u64.wrap (d.size:Int)=(d.size:Int) by rw [aa9];omega];refine ⟨by first | rfl | simp only [tL,ux,Ni,Nq,Nj,Nl,Nk,Nm,Ns,Nr,KW,Nn,No,Np,uj,uW],_,PF d.size a1,?_⟩
 conv=>whnf
 refine ⟨_,_,Hv (aiE bG d (Sort.bitsLen d.size) a1 ah),?_⟩;conv=>whnf
 exact bo _ _ _ ⟨.inl rfl,⟨rfl,fun j o aw=>.inr aw⟩,rfl⟩
end Go.Proofs.YtfakoboiahbhaaaGreat.Ab


namespace Go.Proofs.YtfakoboiahbhaaaGreat.Ab
open Go
noncomputable def aiS:eE :=
 .j_ false [Gt 7 0,Gs 8 4,Gt 9 4,gV 10 [.hS 9] (.conv .u64),gV 11 [.iK (.func 97 [] []),.sl 10] (.call 3),Gt 12 1,gV 13 [.iK (.func 127 [] []),.hP 7,.iK (.int .i64 0),.hP 8,.hP 11,.hP 12] (.call 1)]
noncomputable def T6:eE :=
 GD [Gs 5 0,Gp 6 5,Gt 4 6] aiS
theorem Yu:zm Go.Proofs.Tryz.prog Wi 102=some (T6,14,[]):=by kernel_rfl
noncomputable def O2:eE :=
 GD [Gt 26 0,Gt 27 1,Gt 28 2,Gt 29 4,gV 30 [.iK (.func 138 [] []),.hP 26,.hP 27,.hP 28,.hP 29] (.call 1)] .ret
noncomputable def ai9:eE :=
 GD [Gt 33 0,Gt 34 1,Gt 35 2,Gt 36 4,gV 37 [.iK (.func 139 [] []),.hP 33,.hP 34,.hP 35,.hP 36] (.call 1)] .ret
noncomputable def ai_:eE :=
 GD [Gs 40 0,Gs 41 1,Gs 42 2,Gs 43 4,gV 44 [.iK (.func 140 [] []),.hP 40,.hP 41,.hP 42,.hP 43] (.call 1)] (Gw [Gt 45 3,F4 46 45 1 .sub,Gt 3 46])
noncomputable def aja:eE :=
 GD [Gs 62 2,F4 63 62 1 .sub,Gt 64 13,Gs 65 1,F5 66 64 65 .sub,F5 67 63 66 .sub,Gt 13 67] (Gw [Gr 14 1])
noncomputable def ajb:eE :=
 GD [Gs 57 0,Gs 58 1,Gs 59 2,Gs 60 4,gV 61 [.iK (.func 142 [] []),.hP 57,.hP 58,.hP 59,.hP 60] (.call 1)] aja
noncomputable def ajc:eE :=
 GD [Gs 76 0,Gs 77 1,Gs 78 2,Gs 79 4,gV 80 [.iK (.func 143 [] []),.hP 76,.hP 77,.hP 78,.hP 79] (.call 1)] (.cond (.sl 80) .ret .skip)
noncomputable def ajd:eE :=
 GD [Gs 98 0,Gt 99 1,Gs 100 2,Gt 101 13,Gs 102 4,gV 103 [.iK (.func 144 [] []),.hP 98,.hP 99,.hP 100,.hP 101,.hP 102] (.call 1),Gt 15 103] (GD [Gt 104 15,Gt 1 104] (.exit 1))
noncomputable def aje:eE :=
 GD [Gs 129 0,Gt 130 1,Gs 131 16,Gs 132 3,Gs 133 4,gV 134 [.iK (.func 127 [] []),.hP 129,.hP 130,.hP 131,.hP 132,.hP 133] (.call 1)] (Gw [Gt 135 16,F3 136 135 1,Gt 1 136])
noncomputable def ajf:eE :=
 GD [Gt 126 18,Gt 127 20,F5 128 126 127 .geq,Gt 10 128] aje
noncomputable def ai1:eE :=
 GD [Gs 140 0,Gs 141 16,F3 142 141 1,Gt 143 2,Gs 144 3,Gs 145 4,gV 146 [.iK (.func 127 [] []),.hP 140,.hP 142,.hP 143,.hP 144,.hP 145] (.call 1)] (Gw [Gt 147 16,Gt 2 147])
noncomputable def ai2:eE :=
 GD [Gt 137 19,Gt 138 20,F5 139 137 138 .geq,Gt 10 139] ai1
noncomputable def ai3:eE :=
 GD [Gt 121 12,F4 122 121 8 .quo,Gt 20 122] (GD [Gs 123 18,Gs 124 19,F5 125 123 124 .lss] (.cond (.sl 125) ajf ai2))
noncomputable def ai4:eE :=
 GD [Gs 115 16,Gs 116 1,F5 117 115 116 .sub,Gs 118 2,Gs 119 16,F5 120 118 119 .sub,Gt 18 117,Gt 19 120] ai3
noncomputable def ai5:eE :=
 GD [Gs 106 0,Gs 107 1,Gs 108 2,Gt 109 13,Gs 110 4,gV 111 [.iK (.func 145 [] []),.hP 106,.hP 107,.hP 108,.hP 109,.hP 110] (.call 1),Gt 105 111,GL 112 105 0,gV 113 [.hS 105] (.ext 1),Gt 16 112,Gt 17 113] (GD [Gt 114 17,Gt 11 114] ai4)
noncomputable def ai6:eE :=
 .seq (.seq (Gx [Gs 81 1,F4 82 81 0 .gtr,Gt 83 82,cS 84 [.sl 4] 83 true .i_,cS 85 [.sl 0] 83 true .i_,cS 86 [.sl 1] 83 true .i_,cS 87 [.hS 86,.iK (.int .i64 1)] 83 true (.bin .sub),cS 88 [.hS 85,.hS 87] 83 true (.pV 1),cS 89 [.hS 88] 83 true (.p2 .one),cS 90 [.sl 0] 83 true .i_,cS 91 [.sl 13] 83 true .i_,cS 92 [.hS 90,.hS 91] 83 true (.pV 1),cS 93 [.hS 92] 83 true (.p2 .one),cS 94 [.sl 84,.sl 89,.sl 93] 83 true (.call 6),cS 95 [.hS 94,.iK (.int .i64 0)] 83 true (.bin .lss),cS 96 [.hS 95] 83 true (.un .not),gV 97 [.sl 83,.hS 96,.iK (.bool false)] .pick]) (.cond (.sl 97) ajd .skip)) ai5
noncomputable def ai7:eE :=
 .seq (GD [Gs 68 10,Gt 69 68,cS 70 [.sl 11] 69 true .i_,gV 71 [.hS 69,.hS 70,.iK (.bool false)] .pick,Gt 72 71,cS 73 [.hP 14] 72 true .i_,cS 74 [.hS 73,.iK (.int .i64 1)] 72 true (.bin .eql),gV 75 [.hS 72,.hS 74,.iK (.bool false)] .pick] (.cond (.sl 75) ajc .skip)) ai6
noncomputable def ai8:eE :=
 GD [Gs 48 0,Gs 49 1,Gs 50 2,Gs 51 4,gV 52 [.iK (.func 141 [] []),.hP 48,.hP 49,.hP 50,.hP 51] (.call 1),Gt 47 52,GL 53 47 0,gV 54 [.hS 47] (.ext 1),Gt 13 53,Gt 14 54] (.seq (GD [Gs 55 14,F4 56 55 2 .eql] (.cond (.sl 56) ajb .skip)) ai7)
noncomputable def Uv:eE :=
 .seq (GD [Gs 31 3,F4 32 31 0 .eql] (.cond (.sl 32) ai9 .skip)) (.seq (GD [Gs 38 10,gV 39 [.hS 38] (.un .not)] (.cond (.sl 39) ai_ .skip)) ai8)
noncomputable def O3:eE :=
 .block 1 (GD [Gs 21 2,Gs 22 1,F5 23 21 22 .sub,Gt 12 23] (.seq (GD [Gs 24 12,F4 25 24 12 .leq] (.cond (.sl 25) O2 .skip)) Uv))
noncomputable def Uu:eE :=
 GD [gV 10 [.iK (.bool true)] .i_] (GD [gV 11 [.iK (.bool true)] .i_] (.block 0 (.loop (some (ED false [0,5,5,2,136])) O3)))
theorem YA:zm Go.Proofs.Tryz.prog Wu 127=some (Uu,148,[]):=by kernel_rfl
noncomputable def ajh:eE :=
 .block 3 (Gx [Gs 37 0,Gs 38 9,Gs 39 0,Gs 40 9,F4 41 40 1 .sub,Gs 42 0,Gs 43 9,F4 44 43 1 .sub,Gl 45 42 44 1,Gq 46 45,Gs 47 0,Gs 48 9,Gl 49 47 48 1,Gq 50 49,Gl 51 37 38 1,⟨none,[.hP 51,.hP 46],none,none,.st 1⟩,Gl 52 39 41 1,⟨none,[.hP 52,.hP 50],none,none,.st 1⟩])
noncomputable def aji:eE :=
 .seq (.seq (Gx [Gs 18 9,Gs 19 1,F5 20 18 19 .gtr,Gt 21 20,cS 22 [.sl 3] 21 true .i_,cS 23 [.sl 0] 21 true .i_,cS 24 [.sl 9] 21 true .i_,cS 25 [.hS 23,.hS 24] 21 true (.pV 1),cS 26 [.hS 25] 21 true (.p2 .one),cS 27 [.sl 0] 21 true .i_,cS 28 [.sl 9] 21 true .i_,cS 29 [.hS 28,.iK (.int .i64 1)] 21 true (.bin .sub),cS 30 [.hS 27,.hS 29] 21 true (.pV 1),cS 31 [.hS 30] 21 true (.p2 .one),cS 32 [.sl 22,.sl 26,.sl 31] 21 true (.call 6),cS 33 [.hS 32,.iK (.int .i64 0)] 21 true (.bin .lss),gV 34 [.sl 21,.hS 33,.iK (.bool false)] .pick]) (.cond (.sl 34) .skip (.exit 2))) (.seq ajh (Gw [Gt 35 9,F4 36 35 1 .sub,Gt 9 36]))
noncomputable def ajj:eE :=
 .block 1 (GD [Gs 17 8,Gt 9 17] (.block 2 (.loop (some (ED false [0,4,4,2,43])) aji)))
noncomputable def ajk:eE :=
 .seq (GD [Gs 12 8,Gs 13 2,F5 14 12 13 .lss] (.cond (.sl 14) .skip (.exit 0))) (.seq ajj (Gw [Gt 15 8,F3 16 15 1,Gt 8 16]))
noncomputable def Uz:eE :=
 GD [Gs 10 1,F3 11 10 1,Gt 8 11] (.block 0 (.loop (some (ED false [0,4,4,1,44])) ajk))
theorem YB:zm Go.Proofs.Tryz.prog Wz 138=some (Uz,53,[]):=by kernel_rfl
noncomputable def aiY:eE :=
 GD [Gs 11 1,Gs 12 0,Gs 13 5,Gl 14 12 13 1,Gq 15 14,gV 16 [.sl 11,.sl 15] (.call 6)] (.cond (.sl 16) (GD [Gt 17 5,Gt 4 17] .ret) .skip)
noncomputable def aiZ:eE :=
 .block 1 (GD [Gs 10 8,Gt 5 10] aiY)
noncomputable def ai0:eE :=
 .seq (GD [Gs 6 0,Gp 7 6,Gr 8 0] (.block 0 (.loop (some (ED false [0,2,5,2,10])) (GD [gV 9 [.sl 8,.sl 7] (.bin .lss)] (.seq (.cond (.sl 9) .skip (.exit 0)) (.seq aiZ (Gw [F3 18 8 1,Gt 8 18]))))))) (GD [Gr 4 (-1)] .ret)
noncomputable def Ut:eE :=
 GD [Gr 4 0] ai0
theorem Yz:zm Go.Proofs.Tryz.prog Wt 126=some (Ut,19,[.tmp 4]):=by kernel_rfl
noncomputable def UL:eE :=
 GD [Gs 45 0,Gs 46 3,Gs 47 4,Gs 48 5,Gl 49 47 48 1,Gq 50 49,Gl 51 45 46 1,⟨none,[.hP 51,.hP 50],none,none,.st 1⟩] (Gw [Gt 52 3,F3 53 52 1,Gt 3 53])
noncomputable def Zo:eE :=
 .block 3 (.seq (Gx [Gs 35 4,Gs 36 5,Gl 37 35 36 1,Gq 38 37,Gs 39 4,Gs 40 5,F4 41 40 1 .sub,Gl 42 39 41 1,Gq 43 42,F5 44 38 43 .neq]) (.cond (.sl 44) UL .skip))
noncomputable def UM:eE :=
 .seq (GD [Gs 29 5,Gs 30 4,Gp 31 30,F5 32 29 31 .lss] (.cond (.sl 32) .skip (.exit 2))) (.seq Zo (Gw [Gt 33 5,F3 34 33 1,Gt 5 34]))
noncomputable def Zp:eE :=
 GD [Gt 57 0,Gt 58 3,gV 59 [.hP 57,.hP 58] (.A2 1 false true false),Gt 2 59] .ret
noncomputable def UN:eE :=
 GD [Gs 54 0, Gs 55 3, gV 56 [.hP 54, .hP 55] (.A2 1 true false false), ⟨none, [.hP 56], none, none, .other (Oper.mk none (Op.call (Call.mk (Callee.builtin Builtin.clear) (Array.mk [Operand.tmp 56]) (Array.mk [38]))) 0 "slices.go:385" (Array.mk [Edge.mk 2 Ground.data]) none) 0⟩] Zp
noncomputable def UO:eE :=
 GD [Gs 26 0,Gs 27 3,gV 28 [.hP 26,.hP 27] (.A2 1 true false false),Gt 4 28] (.seq (GD [Gr 5 1] (.block 2 (.loop (some (ED false [0,1,2,3,55])) UM))) UN)
noncomputable def Zq:eE :=
 .block 1 (.seq (Gx [Gs 16 0,Gs 17 3,Gl 18 16 17 1,Gq 19 18,Gs 20 0,Gs 21 3,F4 22 21 1 .sub,Gl 23 20 22 1,Gq 24 23,F5 25 19 24 .eql]) (.cond (.sl 25) UO .skip))
noncomputable def O5:eE :=
 .seq (GD [Gs 10 3,Gs 11 0,Gp 12 11,F5 13 10 12 .lss] (.cond (.sl 13) .skip (.exit 0))) (.seq Zq (Gw [Gt 14 3,F3 15 14 1,Gt 3 15]))
noncomputable def Nt:eE :=
 .seq (GD [⟨some 6,[.hP 0],none,some 0,.A'⟩,Gp 7 6,F4 8 7 2 .lss] (.cond (.sl 8) (GD [Gt 9 0,Gt 2 9] .ret) .skip)) (.seq (GD [Gr 3 1] (.block 0 (.loop (some (ED false [0,1,2,1,57])) O5))) (GD [Gt 60 0,Gt 2 60] .ret))
noncomputable def UK:eE :=
 GD [gV 2 [.iK (.ay [] 0 .full)] (.nil 1)] Nt
theorem YD:zm Go.Proofs.Tryz.prog Se 74=some (UK,61,[.tmp 2]):=by kernel_rfl
noncomputable def OW:eE :=
 GD [Gs 30 0,Gs 31 5,Gt 32 7,Gl 33 30 31 1,⟨none,[.hP 33,.hP 32],none,none,.st 1⟩] (Gw [Gt 34 5,F3 35 34 1,Gt 5 35])
noncomputable def OX:eE :=
 GD [Gs 26 1,Gs 27 7,gV 28 [.sl 26,.sl 27] (.call 6),gV 29 [.hS 28] (.un .not)] (.cond (.sl 29) OW .skip)
noncomputable def Uk:eE :=
 .block 1 (GD [Gs 22 0,Gs 23 6,Gl 24 22 23 1,Gq 25 24,Gt 7 25] OX)
noncomputable def OY:eE :=
 .seq (GD [Gs 16 6,Gs 17 0,Gp 18 17,F5 19 16 18 .lss] (.cond (.sl 19) .skip (.exit 0))) (.seq Uk (Gw [Gt 20 6,F3 21 20 1,Gt 6 21]))
noncomputable def OZ:eE :=
 GD [Gt 39 0,Gt 40 5,gV 41 [.hP 39,.hP 40] (.A2 1 false true false),Gt 4 41] .ret
noncomputable def O0:eE :=
 GD [Gs 36 0, Gs 37 5, gV 38 [.hP 36, .hP 37] (.A2 1 true false false), ⟨none, [.hP 38], none, none, .other (Oper.mk none (Op.call (Call.mk (Callee.builtin Builtin.clear) (Array.mk [Operand.tmp 38]) (Array.mk [38]))) 0 "slices.go:253" (Array.mk [Edge.mk 2 Ground.data]) none) 0⟩] OZ
noncomputable def O1:eE :=
 .seq (GD [Gs 11 5,F4 12 11 (-1) .eql] (.cond (.sl 12) (GD [Gt 13 0,Gt 4 13] .ret) .skip)) (.seq (GD [Gs 14 5,F3 15 14 1,Gt 6 15] (.block 0 (.loop (some (ED false [0,2,3,2,35])) OY))) O0)
noncomputable def Ul:eE :=
 GD [⟨some 8,[.hP 0],none,some 0,.A'⟩,Gs 9 1,gV 10 [.iK (.func 114 [] []),.sl 8,.sl 9] (.call 6),Gt 5 10] O1
noncomputable def Uj:eE :=
 GD [gV 4 [.iK (.ay [] 0 .full)] (.nil 1)] Ul
theorem Yx:zm Go.Proofs.Tryz.prog Wl 107=some (Uj,42,[.tmp 4]):=by kernel_rfl
end Go.Proofs.YtfakoboiahbhaaaGreat.Ab


namespace Go.Proofs.YtfakoboiahbhaaaGreat.Ab
open Go
set_option maxRecDepth 20000
set_option maxHeartbeats 4000000
noncomputable def aci:eE :=
 GD [Gr 4 0] (.seq (Gx [Gt 5 0,gV 6 [.hS 5,.iK (.int .i64 0)] (.pV 1),Gq 7 6,Gt 8 1,gV 9 [.hS 8,.iK (.int .i64 0)] (.pV 1),Gq 10 9,F5 11 7 10 .sub,Gt 4 11]) .ret)
theorem ahd:zm Tryz.prog Wj 103=some (aci,12,[.tmp 4]):=by kernel_rfl
def Vz (x y:ql):Option Int :=
 qh (0≤(0:Int)∧(0:Int)<(x.length:Int)) <|
 qh (0≤(0:Int)∧(0:Int)<(y.length:Int)) <|
 some (w ((ix x (0:Int))-(ix y (0:Int))))
theorem alu {x:ql} {y:ql} {v:Int} (h:Vz x y=some v):qD 103 [(.ay (x.map hY) x.length .shared),(.ay (y.map hY) y.length .shared)] (hY v):=by
 refine qZ dM ahd rfl rfl fun Q bo=>?_;have jG:qK [.tmp 4] Q (fun v=>(hY v)) v:=fun T H bK=>bo _ T H bK;unfold Vz at h;unfold aci;conv=>whnf
 refine qw h id fun e0 h=>?_;rw [rS hY x (0:Int) e0];conv=>whnf
 refine qw h id fun fs h=>?_;rw [rS hY y (0:Int) fs];conv=>whnf
 exact qc h jG rfl rfl

theorem akk (d:Array (List Int)) (i j:Nat):(Sort.swp d i j).size=d.size:=by simp [Sort.swp]
theorem swp_get (d:Array (List Int)) (i j x:Nat) (hi:i<d.size) (aw:j<d.size):∃ y,y<d.size∧(x<d.size→(Sort.swp d i j)[x]! = d[y]!):=by
 by_cases al:x<d.size
 ·by_cases af:x=j
  ·exact ⟨i,hi,fun _=>by subst af;simp [Sort.swp,aw]⟩
  ·by_cases ad:x=i
   ·exact ⟨j,aw,fun _=>by subst ad;simp [Sort.swp,hi,Array.getElem_setIfInBounds,Ne.symm af]⟩
   ·exact ⟨x,al,fun _=>by simp [Sort.swp,al,Array.getElem_setIfInBounds,Ne.symm ad,Ne.symm af]⟩
 ·exact ⟨i,hi,fun h=>absurd h al⟩
def J6 (g:Nat) (d:Array (List Int)):au:=.grow (d.toList.map js) g 1
theorem aeK (d:Array (List Int)) (x:Nat) (h:x<d.size):(d.toList.map js)[x]?=some (js d[x]!):=by
 simp [h]
theorem aeL (d:Array (List Int)) (x:Nat) (v:List Int):(d.toList.map js).set x (js v)=(d.setIfInBounds x v).toList.map js:=by
 simp [u7]
theorem QI {d:Array (List Int)} {n:Nat} (x:Nat) (e:n=x) (h:x<d.size) {K:I→Prop} (k:K (js d[x]!)):eV (d.toList.map js) n K:=by
 subst e;exact D1 (aeK d n h) k
theorem aa8 {d:Array (List Int)} {n:Nat} {v:List Int} (x:Nat) (e:n=x) (h:x<d.size) {K:List I→Prop} (k:K ((d.setIfInBounds x v).toList.map js)):jm (d.toList.map js) n (js v) K:=by
 subst e;refine FO (by simpa using h) ?_;rw [aeL];exact k
def K9 (l:List Int):Prop:=l≠[]∧0≤ix l 0∧ix l 0≤1000
def Ii (x y:List Int):Bool:=decide (ix x 0<ix y 0)
theorem aeR {x y:List Int} (al:K9 x) (a2:K9 y):∃ r:Int,qD 103 [js x,js y] (hY r)∧decide (r<0)=Ii x y:=by
 refine ⟨ix x 0-ix y 0,alu ?_,?_⟩
 ·have ad:=tT.2 al.1;have af:=tT.2 a2.1;rw [Vz,qx ⟨by omega,by omega⟩,qx ⟨by omega,by omega⟩,HF (by have:=al.2;have:=a2.2;omega)]
 ·unfold Ii;congr 1;exact propext (by omega)
section
variable {H:List au} {id lo g:Nat} (bG:lo≤id)
include bG
theorem agV (d:Array (List Int)) (a b:Nat) (a1:d.size≤1000) (cg:a≤b) (ag:b≤d.size) (ah:H[id]?=some (J6 g d)) (Ox:∀ x,x<d.size→K9 d[x]!) :
  Sem Go.Proofs.Tryz.prog (.fn 138) [IN id d.size,hY a,hY b,.func 103 [] []] H lo (.tuple []) (H.set id (J6 g (Sort.insertionSort Ii d a b))):=by
 have aE:=(ss.1 ah).1;refine SK dM YB rfl ⟨by simp,fun j ad af=>by rw [sG (by omega)]⟩ ?_;unfold Uz;conv=>whnf
 have Cf:Nat.ble lo id=true:=uE bG;have gs:∀ c:au,(H.set id c)[id]?=some c:=fun c=>by rw [sE aE]
 have IU:∀ c e:au,((H.set id c).set id e)[id]?=some e:=fun c e=>by rw [td,gs]
 rw [rJ a (by omega)];refine .intro (fun m T H'=>∃ i gZ,a+1≤i∧(i≤b∨i=a+1)∧m=b+1-i∧gZ.size=d.size∧(∀ x,x<d.size→K9 gZ[x]!)∧Sort.insOuter Ii a b i gZ=Sort.insertionSort Ii d a b∧T=GI 53 [(0,IN id d.size),(1,hY a),(2,hY b),(3,.func 103 [] []),(8,hY i)]∧H'=H.set id (J6 g gZ)) (b-a) ⟨a+1,d,by omega,.inr rfl,by omega,rfl,Ox,rfl,rfl,?_⟩ ?_
 ·obtain ⟨ad,af⟩:=ss.1 ah;rw [←af,uX]
 rintro m T H' ⟨i,gZ,af_,X9,rfl,Cp,Cb,he,rfl,rfl⟩;conv=>whnf
 refine H6 (fun h=>?_) (fun h=>?_)
 ·conv=>whnf
  refine .intro (fun j T H'=>∃ rP:Array (List Int),j≤i∧rP.size=d.size∧(∀ x,x<d.size→K9 rP[x]!)∧Sort.insInner Ii a j rP=Sort.insInner Ii a i gZ∧T=GI 53 [(0,IN id d.size),(1,hY a),(2,hY b),(3,.func 103 [] []),(8,hY i),(9,hY j)]∧H'=H.set id (J6 g rP)) i ⟨gZ,sx _,Cp,Cb,rfl,rfl,rfl⟩ ?_;rintro j T H' ⟨rP,aw,L1,Ow,L2,rfl,rfl⟩;conv=>whnf
  by_cases aG:(a:Int)<(j:Int)
  ·rw [decide_eq_true aG];obtain ⟨y,rfl⟩:∃ y,j=y+1:=⟨j-1,by omega⟩;(have hw:IntKind.i64.wrap (((y+1:Nat):Int)-1)=(y:Int):=by rw [I8 _ (by omega) (by omega)];omega);obtain ⟨r,aj,C6⟩:=aeR (Ow (y+1) (by omega)) (Ow y (by omega));(conv=>whnf);refine ⟨by omega,?_⟩;(conv=>whnf);refine D1 (by first | exact gs _ | exact IU _ _ | assumption) ?_
   (conv=>whnf);refine QI (y+1) (by omega) (by first | omega | (simp only [uM];omega)) ?_
   (conv=>whnf);rw [hw];refine ⟨by omega,?_⟩;(conv=>whnf);refine D1 (by first | exact gs _ | exact IU _ _ | assumption) ?_
   (conv=>whnf);refine QI (y) (by omega) (by first | omega | (simp only [uM];omega)) ?_
   (conv=>whnf);refine ⟨(p5 (rO (fun _=>rfl) _ _ _) (p5 (rO (fun _=>rfl) _ _ _) rfl)),[js rP[y+1]!,js rP[y]!],rfl,_,rfl,aj,Hu,?_⟩;(conv=>whnf);rw [C6];by_cases a8:Ii rP[y+1]! rP[y]! = true
   ·rw [a8];(conv=>whnf);rw [hw];refine ⟨by omega,?_⟩;(conv=>whnf);refine D1 (by first | exact gs _ | exact IU _ _ | assumption) ?_
    (conv=>whnf);refine QI (y) (by omega) (by first | omega | (simp only [uM];omega)) ?_
    (conv=>whnf);refine ⟨by omega,?_⟩;(conv=>whnf);refine D1 (by first | exact gs _ | exact IU _ _ | assumption) ?_
    (conv=>whnf);refine QI (y+1) (by omega) (by first | omega | (simp only [uM];omega)) ?_
    (conv=>whnf);refine ⟨by omega,?_⟩;(conv=>whnf);rw [Cf];(conv=>whnf);refine D1 (by first | exact gs _ | exact IU _ _ | assumption) ?_
    (conv=>whnf);refine aa8 (y+1) (by omega) (by first | omega | (simp only [uM];omega)) ?_
    (conv=>whnf);refine ⟨by omega,?_⟩;(conv=>whnf);rw [Cf];(conv=>whnf);refine D1 (by first | exact gs _ | exact IU _ _ | assumption) ?_
    (conv=>whnf);refine aa8 (y) (by omega) (by first | omega | (simp only [uM];omega)) ?_
    (conv=>whnf);refine ⟨y,by omega,Sort.swp rP (y+1) y,by omega,by rw [akk];exact L1,?_,?_,?_,?_⟩
    ·intro x al;obtain ⟨z,bp,bN⟩:=swp_get rP (y+1) y x (by omega) (by omega);rw [bN (by omega)];exact Ow z (by omega)
    ·rw [←L2,Sort.insInner,if_pos (by simp only [sM,decide_eq_true_eq];exact ⟨by omega,a8⟩)]
    ·rw [hw];rfl
    ·simp only [td];rfl
   ·rw [Bool.not_eq_true] at a8;rw [a8];(conv=>whnf);have e:Sort.insInner Ii a i gZ=rP:=by
     rw [←L2,Sort.insInner,if_neg (by simp only [sM,decide_eq_true_eq];exact fun bK=>by rw [a8] at bK;exact absurd bK.2 (by decide))]
    exact ⟨b+1-(i+1),by omega,i+1,rP,by omega,by omega,rfl,L1,Ow,by rw [←he,Sort.insOuter.eq_1 _ a b i,if_pos (by omega),e],by rw [←rJ i (by omega)];rfl,rfl⟩
  ·rw [decide_eq_false aG];(conv=>whnf);have e:Sort.insInner Ii a i gZ=rP:=by
    rw [←L2];cases j with
    | zero=>rfl
    | succ y=>rw [Sort.insInner,if_neg (by simp only [sM,decide_eq_true_eq];exact fun bK=>by omega)]
   exact ⟨b+1-(i+1),by omega,i+1,rP,by omega,by omega,rfl,L1,Ow,by rw [←he,Sort.insOuter.eq_1 _ a b i,if_pos (by omega),e],by rw [←rJ i (by omega)];rfl,rfl⟩
 ·conv=>whnf
  have e:Sort.insertionSort Ii d a b=gZ:=by
   rw [←he];unfold Sort.insOuter;rw [if_neg (by omega)]
  rw [e];exact ⟨.inl rfl,⟨by simp,fun j o aw=>.inr aw⟩,rfl⟩
theorem aiG (d:Array (List Int)) (JR:Int) (a1:d.size≤12) (ah:H[id]?=some (J6 g d)) (Ox:∀ x,x<d.size→K9 d[x]!) :
  Sem Go.Proofs.Tryz.prog (.fn 127) [IN id d.size,hY 0,hY d.size,hY JR,.func 103 [] []] H lo (.tuple []) (H.set id (J6 g (Sort.insertionSort Ii d 0 d.size))):=by
 refine Hj dM YA rfl ⟨by simp,fun j ad af=>by rw [sG (by omega)]⟩ fun Q bo=>?_;unfold Uu;obtain ⟨Sm,JJ⟩:∃ c,O3=c:=⟨_,rfl⟩;rw [JJ];conv=>whnf
 refine .intro (fun m T H'=>T=GI 148 [(0,IN id d.size),(1,hY 0),(2,hY d.size),(3,hY JR),(4,.func 103 [] []),(10,B true),(11,B true)]∧H'=H) 0 ⟨rfl,rfl⟩ ?_;rintro m T H' ⟨rfl,rfl⟩;subst JJ;unfold O3;obtain ⟨bc,cd⟩:∃ c,O2=c:=⟨_,rfl⟩;obtain ⟨Sl,LV⟩:∃ c,Uv=c:=⟨_,rfl⟩;rw [cd,LV];conv=>whnf
 rw [show IntKind.i64.wrap ((d.size:Int)-0)=(d.size:Int) by rw [I8 _ (by omega) (by omega)];omega,decide_eq_true (show (d.size:Int)≤12 by omega)];conv=>whnf
 subst cd;unfold O2;conv=>whnf
 refine ⟨_,_,Hv (agV bG d 0 d.size (by omega) (sK _) (sx _) ah Ox),?_⟩;conv=>whnf
 exact bo _ _ _ ⟨.inr rfl,⟨rfl,fun j o aw=>.inr aw⟩,rfl⟩
end
theorem akd {H:List au} {id lo g:Nat} (bG:lo≤id) (d:Array (List Int)) (a1:d.size≤12) (ah:H[id]?=some (J6 g d)) (Ox:∀ x,x<d.size→K9 d[x]!) :
  Sem Go.Proofs.Tryz.prog (.fn 102) [IN id d.size,.func 103 [] []] H lo (.tuple []) (H.set id (J6 g (Sort.insertionSort Ii d 0 d.size))):=by
 refine Hj dM Yu rfl ⟨by simp,fun j ad af=>by rw [sG (by omega)]⟩ fun Q bo=>?_;unfold T6;conv=>whnf
 rw [show IntKind.u64.wrap (d.size:Int)=(d.size:Int) by rw [aa9];omega];refine ⟨by first | rfl | simp only [tL,ux,Ni,Nq,Nj,Nl,Nk,Nm,Ns,Nr,KW,Nn,No,Np,uj,uW],_,PF d.size a1,?_⟩
 conv=>whnf
 refine ⟨_,_,Hv (aiG bG d (Sort.bitsLen d.size) a1 ah Ox),?_⟩;conv=>whnf
 exact bo _ _ _ ⟨.inl rfl,⟨rfl,fun j o aw=>.inr aw⟩,rfl⟩
end Go.Proofs.YtfakoboiahbhaaaGreat.Ab


namespace Go.Proofs.YtfakoboiahbhaaaGreat.Ab
open Go
def adq:c':={ ops:=[[],[{},{},{},{ cC:=[true] }],[{},{ cC:=[true] }],[{ cC:=[true] },{ cC:=[true],mode:=4 }],[{},{ cC:=[true] },{ cC:=[true] }],[{},{},{ cC:=[true] },{ cC:=[true,true] }],[{ cC:=[true] },{ cC:=[true] },{ cC:=[true] }],[{},{},{ cC:=[true,true] },{ cC:=[true] },{ cC:=[true] }],[{},{},{ mode:=6 },{ cC:=[true] }],[{},{},{ cC:=[true] },{ cC:=[true,true] },{ cC:=[true,true] }],[{ cC:=[true] },{ cC:=[true] },{ cC:=[true] }],[{},{},{ cC:=[true,true] },{ cC:=[true] }],[{ cC:=[true] },{ cC:=[true] },{ cC:=[true,true] },{ cC:=[true],mode:=4 }]],ig:=[(0,(ED false [0,2,3,2,35]))] }
noncomputable def T2:eE :=
 GD [Gs 30 0,Gs 31 5,Gt 32 7,Gl 33 30 31 1,⟨none,[.hP 33,.hP 32],none,none,.st 1⟩] (Gw [Gt 34 5,F3 35 34 1,Gt 5 35])
noncomputable def T3:eE :=
 GD [Gs 26 1,Gs 27 7,gV 28 [.sl 26,.sl 27] (.call 6),gV 29 [.hS 28] (.un .not)] (.cond (.sl 29) T2 .skip)
noncomputable def T4:eE :=
 .block 1 (GD [Gs 22 0,Gs 23 6,Gl 24 22 23 1,Gq 25 24,Gt 7 25] T3)
noncomputable def Qu:eE :=
 .seq (GD [Gs 16 6,Gs 17 0,Gp 18 17,F5 19 16 18 .lss] (.cond (.sl 19) .skip (.exit 0))) (.seq T4 (Gw [Gt 20 6,F3 21 20 1,Gt 6 21]))
noncomputable def T5:eE :=
 GD [Gt 39 0, Gt 40 5, gV 41 [.hP 39, .hP 40] (.A2 1 false true false), gV 4 [.hP 41] (.other (Oper.mk (some 4) (Op.assign (Operand.tmp 41)) 41 "slices.go:254" (Array.mk [Edge.mk 2 Ground.data, Edge.mk 0 Ground.phase, Edge.mk 1 Ground.phase, Edge.mk 2 Ground.phase]) none) 4)] .ret
noncomputable def Qv:eE :=
 GD [Gs 36 0, Gs 37 5, gV 38 [.hP 36, .hP 37] (.A2 1 true false false), ⟨none, [.hP 38], none, none, .other (Oper.mk none (Op.call (Call.mk (Callee.builtin Builtin.clear) (Array.mk [Operand.tmp 38]) (Array.mk [41]))) 0 "slices.go:253" (Array.mk [Edge.mk 2 Ground.data]) none) 0⟩] T5
noncomputable def OT:eE :=
 .seq (GD [Gs 11 5, F4 12 11 (-1) .eql] (.cond (.sl 12) (GD [Gt 13 0, gV 4 [.hP 13] (.other (Oper.mk (some 4) (Op.assign (Operand.tmp 13)) 41 "slices.go:244" (Array.mk [Edge.mk 0 Ground.data, Edge.mk 0 Ground.phase]) none) 4)] .ret) .skip)) (.seq (GD [Gs 14 5, F3 15 14 1, Gt 6 15] (.block 0 (.loop (some (ED false [0, 2, 3, 2, 35])) Qu))) Qv)
noncomputable def OU:eE :=
 GD [Gs 8 0,Gs 9 1,gV 10 [.iK (.func 126 [] []),.sl 8,.sl 9] (.call 0),Gt 5 10] OT
noncomputable def T1:eE :=
 GD [gV 4 [.iK (.ay [] 0 .full)] (.nil 1)] OU
theorem Yt:zm Go.Proofs.Tryz.prog adq 101=some (T1,42,[.tmp 4]):=by kernel_rfl
end Go.Proofs.YtfakoboiahbhaaaGreat.Ab


namespace Go.Proofs.YtfakoboiahbhaaaGreat.Ab
open Go
set_option maxRecDepth 20000
set_option maxHeartbeats 4000000
theorem MW {P:Program} {k:FuncId} {args:List I} {H H':List au} {lo:Nat} {v:I} (aC:ct 8 v=true) (h:Sem P (.fn k) args H H.length v H'):oz P 0 lo (.fn k) args H v H:=by
 refine ⟨_,D6 h,?_⟩;have cm:bL H' H.length H'.length 0 8 v=some v:=o0 aC;simp only [eZ,D5,sq,cm,sB]
theorem agQ {p:List Int→Bool}:∀ (l:List (List Int)) (i:Nat) (h:i<l.length),idxOf p (l.drop i) i=if p l[i]=true then (i:Int) else idxOf p (l.drop (i+1)) (i+1):=fun l i h=>by
 rw [tf h,idxOf]
theorem Ve (d:List (List Int)) {n:Int} {i:Nat} (aN:n=i) (h:i<d.length):(d.map js)[0+n.toNat*1]?=some (js d[i]):=by
 subst aN;simp [h]
section
variable {id lo g:Nat} {H:List au} {Hb:FuncId} {sj cs:List I} {p:List Int→Bool} {d:List (List Int)}
theorem agR (aQ:sj.map (iz H)=cs) (M6:cs.map I.cu=cs) (Cm:cs.all (ct 8)=true) (a1:d.length≤1000) (av:∀ r∈d,qD Hb (js r::cs) (B (p r))) (ah:H[id]?=some (.grow (d.map js) g 1)) :
  Sem Go.Proofs.Tryz.prog (.fn 126) [.ref id 0 d.length none 1,.func Hb [] sj] H lo (hY (idxOf p d 0)) H:=by
 refine Hj dM Yz rfl ⟨sx _,fun j _ _=>rfl⟩ fun Q bo=>?_;unfold Ut;conv=>whnf
 refine .intro (fun m T H'=>∃ i,i≤d.length∧m=d.length-i∧idxOf p d 0=idxOf p (d.drop i) i∧T=[.ref id 0 d.length none 1,.func Hb [] sj,r9,r9,r9,r9,r9,hY d.length,hY i,r9,r9,r9,r9,r9,r9,r9,r9,r9,r9]∧H'=H) d.length ⟨0,by omega,by omega,rfl,rfl,rfl⟩ ?_;rintro m T H' ⟨i,hi,rfl,he,rfl,rfl⟩;conv=>whnf
 refine H6 (fun h=>?_) (fun h=>?_)
 ·have aU:i<d.length:=by omega
  rw [agQ d i aU] at he;conv=>whnf
  refine ⟨by omega,?_⟩;conv=>whnf
  refine D1 ah ?_;conv=>whnf
  refine D1 (Ve d rfl aU) ?_;conv=>whnf
  refine ⟨_,_,call6 (bs:=js d[i]::cs) ?_ ?_ (av _ (sL aU)) rfl,?_⟩
  ·show (_::sj.map (iz H')).map I.cu=_;rw [aQ,sy,M6];rfl
  ·show (_::sj.map (iz H')).all (ct 8)=true;rw [aQ];exact p5 (rO (fun _=>rfl) _ _ _) Cm
  conv=>whnf
  cases aC:p d[i] with
  | true =>
    (conv=>whnf);rw [aC,if_pos rfl] at he;exact bo _ _ _ ⟨.inr rfl,⟨rfl,fun j o aw=>.inr aw⟩,by rw [he];rfl⟩
  | false =>
    (conv=>whnf);rw [aC,if_neg (by simp)] at he;exact ⟨d.length-(i+1),by omega,i+1,by omega,rfl,he,by rw [←rJ i (by omega)] <;> rfl,rfl⟩
 ·obtain rfl:i=d.length:=by omega
  rw [List.drop_length] at he;conv=>whnf
  exact bo _ _ _ ⟨.inr rfl,⟨rfl,fun j o aw=>.inr aw⟩,by rw [he];rfl⟩
end
theorem W8 {P:Program} {C:b8} {lo id gid n:Nat} {o:Oper} {x:Operand} {H:List au} {l:List I} (aq:o.op=.assign x) (bG:lo≤id) (ah:H[id]?=some (.grow l gid 1)) (aN:n≤l.length) (aC:(l.take n).all I.plain=true) :
  a_ P C lo o 4 [.cn id gid n 1] H=some (.ay (l.take n) n (.uniq 1),H.set id .dead):=by
 unfold a_;rw [aq];show eW P lo 4 o.type x H [.cn id gid n 1]=_;unfold eW;simp only [bG,if_true,ah];rw [if_pos ⟨trivial,trivial,by omega,by rw [tS];exact aC⟩,tS]
theorem ZB (l:List (List Int)) (n:Nat):((l.map js).take n).all I.plain=true:=by
 rw [sS];intro u hu;obtain ⟨x,_,rfl⟩:=sJ.1 (List.mem_of_mem_take hu);rfl
theorem aeO {P:Program} {lo id off len:Nat} {H:List au} {l:List I} {g:Nat} {cap:Option Nat} {e:TypeId} {ts:Array TypeId} (e1:(ts[0]?).bind P.underlying=some (.slice e)) (cm:bU P e=some 1) {z:I} (dJ:zeroCells P e=some [z]) (bG:lo≤id)
  (ah:H[id]?=some (.grow l g 1)) (aN:off+len≤l.length):k1 P lo ts H [.ref id off len cap 1]=some (.tuple [],H.set id (.grow (setCells off (e5 len [z]) l) g 1)):=by
 unfold k1;simp only [e1,cm,dJ,hf,ah,sB,if_pos bG];rw [if_pos ⟨trivial,rfl,by decide⟩,if_pos (by omega)];rfl
theorem Xk {off len:Nat} {l:List I} {z:I} (aN:off+len≤l.length):(setCells off (e5 len [z]) l).take off=l.take off:=by
 apply ud;intro j;rw [th,th];split
 ·rw [oe _ _ _ _ (by rw [iv];simp;omega),if_neg (by omega)]
 ·rfl
theorem aeP {off len:Nat} {l:List I} {z:I}:(setCells off (e5 len [z]) l).length=l.length:=mU _ _ _
theorem Yj {α:Type} (p:α→Bool):∀ (l:List α) (i:Nat),(idxOf p l i=-1∧∀ x∈l,p x=false)∨∃ k,∃ h:k<l.length,idxOf p l i=((i+k:Nat):Int)∧p l[k]=true∧∀ x∈l.take k,p x=false
 | [],i=>.inl ⟨rfl,fun x al=>absurd al (by simp)⟩
 | x::l,i=>by
   rw [idxOf];cases al:p x with
   | true=>rw [if_pos rfl];exact .inr ⟨0,by simp,by simp,al,fun y a2=>absurd a2 (by simp)⟩
   | false =>
     rw [if_neg (by simp)];rcases Yj p l (i+1) with ⟨ad,af⟩ | ⟨k,av,ad,af,aG⟩
     ·exact .inl ⟨ad,fun y a2=>by rcases sH.1 a2 with rfl | a2;exact al;exact af y a2⟩
     ·refine .inr ⟨k+1,by simp;omega,by rw [ad];omega,af,fun y a2=>?_⟩;rw [vj] at a2;rcases sH.1 a2 with rfl | a2
      ·exact al
      ·exact aG y a2
theorem XB {p:List Int→Bool} {l:List (List Int)} (h:∀ x∈l,p x=false):l.filter (fun r=>!p r)=l:=List.filter_eq_self.2 fun x al=>by rw [h x al];rfl
section
variable {id lo g:Nat} {H:List au} {Hb:FuncId} {sj cs:List I} {p:List Int→Bool} {d:List (List Int)}
theorem ae2 (bG:lo≤id) (aQ:∀ c:au,sj.map (iz (H.set id c))=cs) (M6:cs.map I.cu=cs) (Cm:cs.all (ct 8)=true) (a1:d.length≤1000) (av:∀ r∈d,qD Hb (js r::cs) (B (p r))) (ah:H[id]?=some (.grow (d.map js) g 1)) :
  Sem Go.Proofs.Tryz.prog (.fn 101) [.cn id g d.length 1,.func Hb [] sj] H lo (.ay ((d.filter fun r=>!p r).map js) (d.filter fun r=>!p r).length (.uniq 1)) (H.set id .dead):=by
 have aE:=(ss.1 ah).1;refine Hj dM Yt rfl ⟨by simp,fun j ad af=>by rw [sG (by omega)]⟩ fun Q bo=>?_;have gs:∀ c:au,(H.set id c)[id]?=some c:=fun c=>by rw [sE aE]
 obtain ⟨K8,fI⟩:∃ K8,K8=H:=⟨H,rfl⟩;rw [show H=K8.set id (.grow (d.map js) g 1) by rw [fI];exact (aj7 bG ah).symm];rw [←fI] at gs aQ bo;unfold T1;obtain ⟨m_,G0⟩:∃ c,OU=c:=⟨_,rfl⟩;rw [G0];conv=>whnf
 subst G0;unfold OU;obtain ⟨m9,Hk⟩:∃ c,OT=c:=⟨_,rfl⟩;rw [Hk];conv=>whnf
 refine ⟨_,_,MW rfl (agR (aQ _) M6 Cm a1 av (gs _)),?_⟩;conv=>whnf
 subst Hk;unfold OT;obtain ⟨fW,GX⟩:∃ c,Qv=c:=⟨_,rfl⟩;obtain ⟨b9,hy⟩:∃ c,Qu=c:=⟨_,rfl⟩;rw [GX,hy];rcases Yj p d 0 with ⟨hi,ga⟩ | ⟨k,CH,hi,agu,ga⟩
 ·rw [hi];conv=>whnf
  refine ⟨_,_,fun C=>W8 rfl bG (gs _) (by simp) (ZB _ _),?_⟩;rw [td];conv=>whnf
  refine bo _ _ _ ⟨.inr rfl,⟨rfl,fun j o aw=>.inr aw⟩,?_⟩;rw [XB ga];show some (I.ay ((d.map js).take d.length) d.length (.uniq 1))=_;rw [ui (by simp)]
 ·rw [hi];rw [tc];conv=>whnf
  rw [rJ k (by omega)];refine .intro (fun m T H'=>∃ (i j:Nat) (s:List (List Int)),i<j∧j≤d.length∧m=d.length-j∧s.length=d.length∧s.take i=(d.take j).filter (fun r=>!p r)∧s.drop j=d.drop j∧T=GI 42 [(0,.cn id g d.length 1),(1,.func Hb [] sj),(5,hY i),(6,hY j)]∧H'=K8.set id (.grow (s.map js) g 1)) (d.length-(k+1)) ⟨k,k+1,d,by omega,by omega,rfl,rfl,?_,rfl,rfl,rfl⟩ ?_
  ·rw [tH CH,uy,XB ga];simp [agu]
  rintro m T H' ⟨i,j,s,g5,aw,rfl,ai,ax,To,rfl,rfl⟩;subst hy;unfold Qu;obtain ⟨bu,eb⟩:∃ c,T4=c:=⟨_,rfl⟩;rw [eb];conv=>whnf
  refine H6 (fun h=>?_) (fun h=>?_)
  ·(have aU:j<d.length:=by omega);have M_:s[j]'(by omega)=d[j]:=by
    have:=congrArg (fun l=>l[0]?) To;simpa [tq,aU,ai] using this
   (conv=>whnf);subst eb;unfold T4;obtain ⟨bn,b_⟩:∃ c,T3=c:=⟨_,rfl⟩;rw [b_];(conv=>whnf);refine ⟨by omega,?_⟩;(conv=>whnf);refine D1 (gs _) ?_;(conv=>whnf);refine D1 (Ve s rfl (by omega)) ?_;rw [M_];(conv=>whnf);subst b_;unfold T3;obtain ⟨bc,cd⟩:∃ c,T2=c:=⟨_,rfl⟩;rw [cd];(conv=>whnf);refine ⟨_,_,call6 (bs:=js d[j]::cs) ?_ ?_ (av _ (sL aU)) rfl,?_⟩
   ·show (_::sj.map (iz _)).map I.cu=_;rw [aQ,sy,M6];rfl
   ·show (_::sj.map (iz _)).all (ct 8)=true;rw [aQ];exact p5 (rO (fun _=>rfl) _ _ _) Cm
   (conv=>whnf);have P2:(d.take (j+1)).filter (fun r=>!p r)=(d.take j).filter (fun r=>!p r)++[d[j]].filter (fun r=>!p r):=by
    rw [tH aU,uy]
   cases aC:p d[j] with
   | true =>
     (conv=>whnf);refine ⟨d.length-(j+1),by omega,i,j+1,s,by omega,by omega,rfl,ai,?_,?_,by rw [←rJ j (by omega)] <;> rfl,rfl⟩
     ·rw [P2,ax];simp [aC]
     ·have:=congrArg (List.drop 1) To;simpa [List.drop_drop,tF] using this
   | false =>
     (conv=>whnf);subst cd;unfold T2;refine IK fun m2 Hc=>?_;(conv=>whnf);refine ⟨by omega,?_⟩;(conv=>whnf);rw [show Nat.ble lo id=true from uE bG];(conv=>whnf);refine D1 (gs _) ?_;(conv=>whnf);refine FO (by simp;omega) ?_;(conv=>whnf);rw [td];refine Hc _ _ _ ?_;(conv=>whnf);refine ⟨d.length-(j+1),by omega,i+1,j+1,s.set i d[j],by omega,by omega,rfl,by simpa using ai,?_,?_,by rw [←rJ j (by omega),←rJ i (by omega)] <;> rfl,?_⟩
     ·rw [P2,←ax,tH (by rw [List.length_set];omega),List.getElem_set_self,List.take_set_of_le (sx _)];simp [aC]
     ·rw [List.drop_set_of_lt (by omega)];have:=congrArg (List.drop 1) To;simpa [List.drop_drop,tF] using this
     ·rw [show 0+(i:Int).toNat*1=i by simp,u7];rfl
  ·(obtain rfl:j=d.length:=by omega);rw [List.take_length] at ax;(have q':i=(d.filter fun r=>!p r).length:=by rw [←ax,ta];omega);(conv=>whnf);subst GX;unfold Qv;obtain ⟨d',B4⟩:∃ c,T5=c:=⟨_,rfl⟩;rw [B4];(conv=>whnf);refine ⟨rfl,⟨by omega,by omega⟩,fun aU=>?_,fun heq=>absurd heq (by omega)⟩;(conv=>whnf);refine ⟨_,_,fun C=>(ON rfl).trans (aeO (e:=38) (z:=.ay [] 0 .full) (by kernel_rfl) (by kernel_rfl) (by kernel_rfl) bG (gs _) (by simp;omega)),?_⟩;rw [td];(conv=>whnf);subst B4;unfold T5;(conv=>whnf);refine ⟨⟨by omega,by omega⟩,?_⟩;(conv=>whnf);refine ⟨_,_,fun C=>W8 rfl bG (gs _) ?_ ?_,?_⟩
   ·rw [aeP];simp;omega
   ·rw [show 0+(i:Int).toNat*1=(i:Int).toNat by omega,Xk (by simp;omega)];exact ZB _ _
   rw [td];(conv=>whnf);refine bo _ _ _ ⟨.inr rfl,⟨rfl,fun j o aw=>.inr aw⟩,?_⟩;show some (I.ay (List.take (i:Int).toNat _) (i:Int).toNat (.uniq 1))=_;rw [show 0+(i:Int).toNat*1=(i:Int).toNat by omega,Xk (by simp;omega),Int.toNat_natCast,←uI,ax,←q']
end

theorem Ym {α:Type} [Inhabited α] (lt:α→α→Bool) (d:Array α) (a b:Nat):(Sort.insertionSort lt d a b).size=d.size:=by
 have akj:∀ (d:Array α) (i j:Nat),(Sort.swp d i j).size=d.size:=fun d i j=>by simp [Sort.swp]
 have kv:∀ (j:Nat) (d:Array α),(Sort.insInner lt a j d).size=d.size:=fun j=>by
  induction j with
  | zero=>intro d;rfl
  | succ j bb =>
    intro d;rw [Sort.insInner];split
    ·rw [bb,akj]
    ·rfl
 show (Sort.insOuter lt a b (a+1) d).size=d.size
 have:∀ (n i:Nat) (d:Array α),b-i=n→(Sort.insOuter lt a b i d).size=d.size:=fun n=>by
  induction n with
  | zero=>intro i d h;rw [Sort.insOuter.eq_1,if_neg (by omega)]
  | succ n bb=>intro i d h;rw [Sort.insOuter.eq_1,if_pos (by omega),bb _ _ (by omega),kv]
 exact this _ _ d rfl
def G6 (l:List Int):List Int:=(Sort.insertionSort Sort.ltInt l.toArray 0 l.length).toList
theorem QP (l:List Int):(G6 l).length=l.length:=by
 unfold G6;rw [tU,Ym];simp
theorem ZT {H:List au} {id lo n:Nat} (l:List Int) (bG:lo≤id) (ak:l.length≤12) (aN:n=l.length) (ah:H[id]?=some (.cells (l.map hY))) :
  Sem Go.Proofs.Tryz.prog (.fn 73) [.ref id 0 n none 1] H lo (.tuple []) (H.set id (.cells ((G6 l).map hY))):=by
 subst aN;have:=aj8 bG l.toArray (by simpa using ak) (by simpa [J5] using ah);simpa [J5,IN,G6] using this
def I4 (l:List (List Int)):List (List Int):=(Sort.insertionSort Ii l.toArray 0 l.length).toList
theorem Vk (l:List (List Int)):(I4 l).length=l.length:=by
 unfold I4;rw [tU,Ym];simp
def Nw (l:List Int):Bool:=!l.isEmpty && decide (0≤ix l 0) && decide (ix l 0≤1000)
theorem ajS {l:List Int} (h:Nw l=true):K9 l:=by
 simp only [Nw,sM,decide_eq_true_eq] at h;exact ⟨by intro e;subst e;simp at h,h.1.2,h.2⟩
theorem akg {H:List au} {id lo n g:Nat} (l:List (List Int)) (bG:lo≤id) (ak:l.length≤12) (aj:l.all Nw=true) (aN:n=l.length) (ah:H[id]?=some (.grow (l.map js) g 1)) :
  Sem Go.Proofs.Tryz.prog (.fn 102) [.ref id 0 n none 1,.func 103 [] []] H lo (.tuple []) (H.set id (.grow ((I4 l).map js) g 1)):=by
 subst aN
 have:=akd bG l.toArray (by simpa using ak) (g:=g) (by simpa [J6] using ah) (fun x al=>by
  have al:x<l.length:=by simpa using al
  have:=sS.1 aj l[x] (sL al);have e:l.toArray[x]! = l[x]:=by simp [al]
  rw [e];exact ajS this)
 simpa [J6,IN,I4] using this
def LR (f:List Int→Option Bool):List (List Int)→Option (List (List Int))
 | []=>some []
 | r::l=>(f r).bind fun b=>(LR f l).bind fun l'=>some (if b=true then l' else r::l')
theorem Xp {f:List Int→Option Bool}:∀ {l R:List (List Int)},LR f l=some R→∃ p:List Int→Bool,(∀ r∈l,f r=some (p r))∧R=l.filter fun r=>!p r
 | l,R,h=>by
   refine ⟨fun r=>(f r).getD false,?_⟩
   induction l generalizing R with
   | nil=>exact ⟨fun r aj=>absurd aj (by simp),(Option.some.inj h).symm⟩
   | cons r l bb =>
     obtain ⟨b,ag,h⟩:=qj h;obtain ⟨l',dE,h⟩:=qj h;obtain rfl:=Option.some.inj h;obtain ⟨i1,i2⟩:=bb _ dE;refine ⟨fun x al=>?_,?_⟩
     ·rcases sH.1 al with rfl | al
      ·show f x=some ((f x).getD false);rw [ag];rfl
      ·exact i1 x al
     ·(have e:(f r).getD false=b:=by rw [ag];rfl);rw [List.filter_cons];show _=if (!(f r).getD false)=true then _ else _;rw [e,←i2];cases b <;> rfl
section
variable {id lo g n:Nat} {H:List au} {Hb:FuncId} {sj cs:List I} {f:List Int→Option Bool} {l R:List (List Int)}
theorem ae1 (h:LR f l=some R) (bG:lo≤id) (aQ:∀ c:au,sj.map (iz (H.set id c))=cs) (M6:cs.map I.cu=cs) (Cm:cs.all (ct 8)=true) (a1:l.length≤1000) (aN:n=l.length) (av:∀ r b,f r=some b→qD Hb (js r::cs) (B b)) (ah:H[id]?=some (.grow (l.map js) g 1)) :
  Sem Go.Proofs.Tryz.prog (.fn 101) [.cn id g n 1,.func Hb [] sj] H lo (.ay (R.map js) R.length (.uniq 1)) (H.set id .dead):=by
 subst aN;obtain ⟨p,aC,rfl⟩:=Xp h;exact ae2 bG aQ M6 Cm a1 (fun r aj=>av r _ (aC r aj)) ah
end
section
variable {H:List au} {lo:Nat}
theorem agU {F:I}:Sem Go.Proofs.Tryz.prog (.fn 138) [.ay [] 0 .full,hY 0,hY 0,F] H lo (.tuple []) H:=by
 refine Hj dM YB rfl (bd.refl _ _) fun Q bo=>?_;unfold Uz;conv=>whnf
 refine .intro (fun m T H'=>T=GI 53 [(0,.ay [] 0 .full),(1,hY 0),(2,hY 0),(3,F),(8,hY 1)]∧H=H') 0 ⟨rfl,rfl⟩ ?_;rintro m T H' ⟨rfl,rfl⟩;conv=>whnf
 exact bo _ _ _ ⟨.inl rfl,⟨by simp,fun j o aw=>.inr aw⟩,rfl⟩
theorem aiD {JR:Int} {k:FuncId} {cap:List I}:Sem Go.Proofs.Tryz.prog (.fn 127) [.ay [] 0 .full,hY 0,hY 0,hY JR,.func k [] cap] H lo (.tuple []) H:=by
 refine Hj dM YA rfl (bd.refl _ _) fun Q bo=>?_;unfold Uu;obtain ⟨Sm,JJ⟩:∃ c,O3=c:=⟨_,rfl⟩;rw [JJ];conv=>whnf
 refine .intro (fun m T H'=>T=GI 148 [(0,.ay [] 0 .full),(1,hY 0),(2,hY 0),(3,hY JR),(4,.func k [] cap),(10,B true),(11,B true)]∧H'=H) 0 ⟨rfl,rfl⟩ ?_;rintro m T H' ⟨rfl,rfl⟩;subst JJ;unfold O3;obtain ⟨bc,cd⟩:∃ c,O2=c:=⟨_,rfl⟩;obtain ⟨Sl,LV⟩:∃ c,Uv=c:=⟨_,rfl⟩;rw [cd,LV];conv=>whnf
 subst cd;unfold O2;conv=>whnf
 refine ⟨_,_,Hv agU,?_⟩;conv=>whnf
 exact bo _ _ _ ⟨.inr rfl,⟨rfl,fun j o aw=>.inr aw⟩,rfl⟩
theorem akc {k:FuncId} {cap:List I}:Sem Go.Proofs.Tryz.prog (.fn 102) [.ay [] 0 .full,.func k [] cap] H lo (.tuple []) H:=by
 refine Hj dM Yu rfl (bd.refl _ _) fun Q bo=>?_;unfold T6;conv=>whnf
 refine ⟨by first | rfl | simp only [tL,ux,Ni,Nq,Nj,Nl,Nk,Nm,Ns,Nr,KW,Nn,No,Np,uj,uW],_,PF 0 (by decide),?_⟩
 conv=>whnf
 refine ⟨_,_,Hv aiD,?_⟩;conv=>whnf
 exact bo _ _ _ ⟨.inl rfl,⟨by simp,fun j o aw=>.inr aw⟩,rfl⟩
theorem agP {k:FuncId} {cap:List I}:Sem Go.Proofs.Tryz.prog (.fn 126) [.ay [] 0 .full,.func k [] cap] H lo (hY (-1)) H:=by
 refine Hj dM Yz rfl (bd.refl _ _) fun Q bo=>?_;unfold Ut;conv=>whnf
 refine .intro (fun m T H'=>T=[.ay [] 0 .full,.func k [] cap,r9,r9,r9,r9,r9,hY 0,hY 0,r9,r9,r9,r9,r9,r9,r9,r9,r9,r9]∧H'=H) 0 ⟨rfl,rfl⟩ ?_;rintro m T H' ⟨rfl,rfl⟩;conv=>whnf
 exact bo _ _ _ ⟨.inr rfl,⟨rfl,fun j o aw=>.inr aw⟩,rfl⟩
theorem aeZ {k:FuncId} {cap:List I}:Sem Go.Proofs.Tryz.prog (.fn 101) [.ay [] 0 .full,.func k [] cap] H lo (.ay [] 0 .full) H:=by
 refine Hj dM Yt rfl (bd.refl _ _) fun Q bo=>?_;unfold T1;obtain ⟨m_,G0⟩:∃ c,OU=c:=⟨_,rfl⟩;rw [G0];conv=>whnf
 subst G0;unfold OU;obtain ⟨m9,Hk⟩:∃ c,OT=c:=⟨_,rfl⟩;rw [Hk];conv=>whnf
 refine ⟨_,_,MW rfl agP,?_⟩;conv=>whnf
 subst Hk;unfold OT;obtain ⟨fW,GX⟩:∃ c,Qv=c:=⟨_,rfl⟩;obtain ⟨b9,hy⟩:∃ c,Qu=c:=⟨_,rfl⟩;rw [GX,hy];conv=>whnf
 refine ⟨_,_,fun C=>rfl,?_⟩;conv=>whnf
 exact bo _ _ _ ⟨.inr rfl,⟨rfl,fun j o aw=>.inr aw⟩,rfl⟩
end
end Go.Proofs.YtfakoboiahbhaaaGreat.Ab
