
import Derived.Test.YtfakoboiahbhaaaGreatJa1
import Derived.Test.YtfakoboiahbhaaaGreatJa4
import Derived.Test.YtfakoboiahbhaaaGreatProg
import Derived.KernelRfl
import Derived.IntWalk
import Derived.ProofKit
import Derived.Deep.Slices
import Derived.ChangeStays
import Derived.Below
import Derived.WalkKit
import Derived.Sort.AssemblyPlain
set_option linter.unusedSimpArgs false
set_option linter.unusedVariables false
set_option linter.unusedSectionVars false

open Array renaming length_toList→tu,size_setIfInBounds→ur
open Bool renaming and_eq_true→sx,and_self→uD,and_true→uq,false_eq_true→tG
open Classical renaming choose_spec→vG
open List renaming all_cons→tF,all_eq_true→sv,all_nil→uE,append_assoc→sD,append_nil→sW,drop_eq_getElem_cons→sQ,drop_zero→sV,ext_getElem?→tH,filter_append→uG,flatMap_append→wg,flatMap_cons→ua,getElem?_append→se,getElem?_append_left→sy,getElem?_append_right→sJ,getElem?_drop→sZ,getElem?_eq_getElem→sm,getElem?_eq_none→tx,getElem?_eq_some_iff→sb,getElem?_map→ss,getElem?_set_ne→sj,getElem?_set_self→si,getElem?_take→sR,getElem_mem→sI,length_append→sr,length_drop→tE,length_map→sX,length_pos_iff→uH,length_take→ta,map_append→s_,map_congr_left→tz,map_cons→sG,map_drop→ug,map_id→vh,map_map→tp,map_set→uP,map_take→ue,mem_append_left→uW,mem_append_right→vL,mem_cons→sq,mem_cons_of_mem→tV,mem_cons_self→uo,mem_flatMap→vi,mem_iff_getElem?→tg,mem_map→sk,mem_range→sK,range_succ→vj,set_getElem_self→vk,set_set→sU,take_of_length_le→tT,take_succ_cons→wh,take_succ_eq_append_getElem→tO,take_zero→tj
open Nat renaming add_comm→tf,add_mul→tn,ble_eq_true_of_le→uj,eq_of_beq_eq_true→tb,le_refl→sd,le_trans→sL,lt_or_ge→sT,min_eq_left→tM,mul_one→tJ,one_mul→vK,sub_zero→vC,zero_add→sS,zero_le→sC,zero_mul→vt
open Option renaming bind_some→sc,map_eq_some_iff→sa,map_some→sf
namespace Go.Proofs.YtfakoboiahbhaaaGreat.Ab
open Go
abbrev pW:b2:={ takes:=[true] }
abbrev p0:b2:={ takes:=[true,true] }
def p4 (l:List Nat):List b2:=l.map fun n=>match n with
 | 0=>{}
 | 1=>pW
 | _=>p0
def aa9:db:={ ops:=[[{ mode:=3 }]] }
def abd:db:={ ops:=[[],[],[],[],[],[{},{ mode:=3 },{},{ mode:=3 },p0,pW,pW,pW,p0,{ takes:=[false,true] },pW,pW,pW,p0,{ takes:=[false,true] },pW,pW,pW,p0,{ takes:=[false,true] },pW,{},{},{ mode:=3 },{},{},{ mode:=3 },p0,{ takes:=[false,true] },pW,{ mode:=3 },{ takes:=[false,true] },pW]] }
def aby:db:={ ops:=[[],[],[],[],[],[],[{},{},pW,{ mode:=3 },{ mode:=3 },pW,{},{},pW,pW],[],[],[],[],[],[],[{},{},{},p0,pW,{ mode:=3 },{ mode:=3 },pW,{},{},pW,pW]] }
def abz:db:={ ops:=[[],[],[],[],[],[],[],[],[],[],[],[],[],[],[],[],[],[],[],[pW,pW,pW,{ mode:=3 },{ mode:=3 },pW,{},{},pW,pW]] }
def abE:db:={ ops:=[[],[],[],[],[],[],[],[],[],[],[],[{},pW,{},{},pW,p0,{ takes:=[true,true],mode:=2 },{},{ takes:=[false,true],mode:=2 }],[],[],[],[],[{},{},{},p0,pW,{ mode:=3 },pW,{},{},{},pW,pW,pW],[{},{},{},pW,{},pW,p0,p0,pW,{ mode:=3 },pW,{},{},{},pW,pW,pW],[],[],(p4 [1,0,0,2,1,2,0,1,1,1,1,2,1])] }
def aay:db:={ ops:=[[],[],[],[pW,pW,{},pW,p0,pW,pW,{},pW,p0,p0,{},{ takes:=[false,true] }],[{},pW,{},{},pW,p0,{},pW,p0,p0,{},{ takes:=[false,true] }]] }
def aaE:db:={ ops:=[[],[],[],[],[],[],[],[],[],[],[],[],[],[],[],[],[],[],[],[],[],[],[],[],[{},pW,{ mode:=3 },{ mode:=3 },pW,{},{},{},pW,pW,pW]] }
def aaL:db:={ two:=[(12,8)],ops:=[[{ takes:=[true],mode:=1 }],[{},{ mode:=3 },pW,pW,{},pW,pW,pW,{ takes:=[true,false,true] }],[{ mode:=3 },pW],[{},{ mode:=3 },pW,{},pW,pW,pW],[{},{ mode:=3 },pW,{},pW,pW,pW],(p4 [1,1,0,1,1,2,1]),[],[],(p4 [0,0,1,1,2]),(p4 [1,1,1]),(p4 [0,0,2]),(p4 [1,0,1,2,1]),[{},pW,{ mode:=3 },{},{ takes:=[true],mode:=3 },{},p0,{ takes:=[true],mode:=3 },{},{},{ takes:=[false,true] },{ takes:=[false,true] }],[{},{},pW,{},pW,{ mode:=3 },pW,{},pW,pW,pW],[pW,{ mode:=3 },pW,{},pW,pW,pW],[{},{ mode:=3 },pW,{},pW,pW,pW],[pW,pW,pW,pW,pW,pW,{},pW,pW,p0,{ takes:=[true,false,true] },pW,pW,pW,{ takes:=[true,false,true] },pW,pW,pW,{ takes:=[true,false,true] }],[],(p4 [0,1,0,1,2]),[pW,pW,pW,pW,pW,{ mode:=3 },pW,p0,pW,{ mode:=3 },p0,pW],[pW,pW,{ mode:=3 },{},pW,p0,pW,{},pW,pW,{},pW,p0,{ takes:=[true,false,true] }],[],[pW,pW],[pW,pW,{ mode:=3 },pW,{},{},pW,pW,pW,pW],[pW,pW,pW,pW,pW,pW,pW,p0,p0,pW,{ mode:=3 },p0,pW],[pW,{ mode:=3 },pW],[pW,pW,pW,pW,p0,pW,{},{},pW,p0,pW,pW,{ takes:=[true,false,true] },pW,pW,pW,pW,p0,pW,pW,{ takes:=[true,false,true] },pW,{ mode:=3 },p0,pW]],h_:=[(0,(p_ false [2,1,2,2,1,4,175]))] }
def aaS:db:={ ops:=[[],[],[],(p4 [1,1,0,1,2,1,1,0,1,2,1,1]),[],[],[],[],[],[{},pW,p0,pW,{},pW,pW,pW,p0,{ takes:=[false,false,true] },pW,{},pW,{},pW,p0,{ takes:=[false,false,true] },pW,{},pW,{},{},p0,pW,{},{},p0,pW,p0,p0,{ takes:=[false,false,true] }],[],[],[],[],[],[],[],[],[],[],[],[{},{},{},p0,pW,{ mode:=3 },pW]] }
def Rs:db:={ ops:=[[pW,pW],[{},{ mode:=3 },pW,pW,{},{ mode:=3 },pW,{ takes:=[true,false,true] },pW,{},pW,{},pW,p0,pW,{ takes:=[true,false,true] },pW,{},pW,pW,{},pW,pW,p0,pW,{ takes:=[true,false,true] }],[{ mode:=3 },pW],[{},pW,{},pW,p0,{},{},pW,p0,{ takes:=[true,true],mode:=2 },{},{ takes:=[false,true],mode:=2 }],[],(p4 [0,0,1,1,2]),(p4 [1,1,1]),[{},{ takes:=[true],mode:=1 },{},pW,{},p0,pW,pW,{},pW,p0,{},pW,{},p0,pW,pW,{},pW,p0,p0,pW,p0,{},p0],[{},{ mode:=3 },pW,{},pW,pW,pW],[{},{ mode:=3 },pW,{},pW,pW,pW],[{},{ mode:=3 },pW,{},pW,pW,pW],[{},{ mode:=3 },pW,{},pW,pW,pW],[{},{ mode:=3 },pW,{},pW,pW,pW],[{},{ mode:=3 },pW,{},pW,pW,pW],[pW,{ mode:=3 },pW,{},pW,pW,pW],[pW,{ mode:=3 },pW,{},pW,pW,pW],[pW,{ mode:=3 },pW,{},pW,pW,pW],[pW,pW,pW,p0,pW,pW,p0,pW,pW,pW,pW,p0,p0,p0,pW,pW,p0,pW,pW,p0,pW,pW,p0,pW,pW,pW,pW,pW,pW,pW,p0,p0,p0,pW,pW,pW,p0,pW,pW,pW,p0,pW,pW,pW,p0,pW,pW,pW,pW,pW,pW,pW,p0,p0,p0,pW,{ mode:=3 },p0,pW]],h_:=[(0,(p_ false [2,2,1,2,189]))] }
def aa6:db:={ ops:=[[],[{ mode:=3 },{ mode:=3 },{ mode:=3 },{},{},{},{ takes:=[false,true] },{ takes:=[false,true] },{ takes:=[false,true] }],[{},{},{ mode:=3 },{ mode:=3 },pW,{},{},{},pW,pW,pW],[{},{},{ mode:=3 },{ mode:=3 },pW],[{},{ mode:=3 },pW,{},pW,pW,pW],[{},{ mode:=3 },pW,{},pW,pW,pW],[{},{ mode:=3 },pW,{},pW,pW,pW],[{},{ mode:=3 },pW,{},pW,pW,pW],[{},{ mode:=3 },pW,{},pW,pW,pW],[{},{ mode:=3 },pW,{},pW,pW,pW],[{},{ mode:=3 },pW,{},pW,pW,pW],[{},{ mode:=3 },pW,{},pW,pW,pW],[pW,{ mode:=3 },pW,{},pW,pW,pW],[pW,{ mode:=3 },pW,{},pW,pW,pW],[pW,pW,pW,pW,pW,p0,pW,pW,pW,p0,pW,pW,pW,p0,pW,pW,pW,p0,pW,pW,{},{ mode:=3 },{ mode:=3 },p0,pW,pW,pW,p0,pW,pW,{},{ mode:=3 },pW,{ mode:=3 },{ mode:=3 },p0,pW,pW,pW,p0,pW,pW,pW,p0,pW,pW,pW,p0,pW,pW,pW,p0,pW,pW,pW,p0,pW,pW,pW,p0,pW,pW,pW,p0,pW,pW,pW,p0,pW,pW,pW,p0,pW,pW,{},{ mode:=3 },{ mode:=3 },p0,pW,pW,pW,p0,pW,pW,{},{ mode:=3 },{ mode:=3 },p0,pW,pW,pW,p0,pW,pW,pW,pW,p0,pW,pW,pW,p0,pW,pW,{},{ mode:=3 },{ mode:=3 },p0,pW,pW,{ mode:=3 },pW,p0,pW,{ mode:=3 },p0,pW]] }
def U1:db:={ ops:=[[pW],(p4 [1,1,1,1,1])] }
def aa8:db:={ ops:=[[],[{ mode:=3 },{ mode:=3 },{ mode:=3 },{},{},{},{ takes:=[false,true] },{ takes:=[false,true] },{ takes:=[false,true] }],[{},{},{ mode:=3 },{ mode:=3 },pW,{},{},{},pW,pW,pW],[{},{},{ mode:=3 },{ mode:=3 },pW,{},{},{},pW,pW,pW],[{},{},{ mode:=3 },{ mode:=3 },pW,{},{},{},pW,pW,pW],[{},{},{ mode:=3 },{ mode:=3 },pW,{},{},{},pW,pW,pW],[{},{ mode:=3 },pW,{},{},pW,pW,pW,pW],[{},{},{ mode:=3 },{},{ mode:=3 },p0,{ mode:=3 },{ mode:=3 },pW,{},{},pW,pW],[{},{},{ mode:=3 },pW,{ mode:=3 },{ mode:=3 },pW,{},{},pW,pW],[{},{},{ mode:=3 },{},{ mode:=3 },p0,{ mode:=3 },{ mode:=3 },pW,{},{},pW,pW],[{},{},{ mode:=3 },{ mode:=3 },{},{},{ mode:=3 },{ mode:=3 },pW,pW],[{},{ mode:=3 },pW,{},pW,pW,pW],[{},{ mode:=3 },pW,{},pW,pW,pW],[{},{ mode:=3 },pW,{},pW,pW,pW],[{},{ mode:=3 },pW,{},pW,pW,pW],[{},{ mode:=3 },pW,{},pW,pW,pW],[{},{ mode:=3 },pW,{},pW,pW,pW],[{},{ mode:=3 },pW,{},pW,pW,pW],[{},{ mode:=3 },pW,{},pW,pW,pW],[{},{ mode:=3 },pW,{},pW,pW,pW],[{},{ mode:=3 },pW,{},pW,pW,pW],[{},{ mode:=3 },pW,{},pW,pW,pW],[pW,{ mode:=3 },pW,{},pW,pW,pW],[{},{ mode:=3 },pW,{},pW,pW,pW],[pW,pW,pW,pW,pW,{ takes:=[true,false,true] },pW,pW,pW,{ takes:=[true,false,true] },pW,pW,pW,{ takes:=[true,false,true] },pW,pW,pW,{ takes:=[true,false,true] },pW,pW,pW,{ takes:=[true,false,true] },pW,pW,pW,{ takes:=[true,false,true] },pW,pW,pW,{ takes:=[true,false,true] },pW,pW,pW,{ takes:=[true,false,true] },pW,pW,pW,{ takes:=[true,false,true] },pW,pW,pW,{ takes:=[true,false,true] },pW,pW,pW,{ takes:=[true,false,true] },pW,pW,pW,{ takes:=[true,false,true] },pW,pW,pW,{ takes:=[true,false,true] },pW,pW,pW,{ takes:=[true,false,true] },pW,pW,pW,{ takes:=[true,false,true] },pW,pW,pW,{ takes:=[true,false,true] },pW,pW,pW,{ takes:=[true,false,true] },pW,pW,pW,{ takes:=[true,false,true] },pW,pW,pW,{ takes:=[true,false,true] },pW,pW,pW,{ takes:=[true,false,true] },pW,pW,pW,{ takes:=[true,false,true] },pW,pW,pW,{ takes:=[true,false,true] }],[],[pW,pW,pW,pW,pW,{ takes:=[true,false,true] },pW,pW,pW,{ takes:=[true,false,true] },pW,pW,{},{ mode:=3 },{ mode:=3 },pW,{ takes:=[true,false,true] },pW,pW,{},{ mode:=3 },{},{ mode:=3 },{},{ mode:=3 },{ takes:=[true,true,true] },{ mode:=3 },{ mode:=3 },pW,{ takes:=[true,false,true] },pW,pW,pW,{ takes:=[true,false,true] },pW,pW,{},{ mode:=3 },{ mode:=3 },pW,{ takes:=[true,false,true] },pW,pW,pW,{ takes:=[true,false,true] },pW,pW,{},{ mode:=3 },{ mode:=3 },pW,{ takes:=[true,false,true] },pW,pW,{},{ mode:=3 },{ mode:=3 },pW,{ takes:=[true,false,true] }],[],[pW,pW,{ mode:=3 },pW,{},pW,pW,pW],[pW,pW,pW,pW,pW,p0,pW,pW,pW,{ mode:=3 },pW,p0,pW]] }
def NU:db:={ ops:=[[pW],[{},{ mode:=3 },pW,{},pW,pW,pW],[pW,pW],(p4 [0,1,1]),(p4 [1,0,0,1]),(p4 [0,1,1,1]),[],[{},pW,{ mode:=6 },pW],[],[],[{},pW],[],[],[{},pW,{},{ takes:=[false,true] }],[{},pW,{ takes:=[false,true] },pW,pW],[],[pW,pW,{ takes:=[false,true] },pW],[pW,pW],[{},{},pW,pW,{ mode:=3 },pW,{},pW,pW,pW],[{},pW],[pW],[],[{},pW,{},{ takes:=[false,true] }],[{},pW,{ mode:=3 },pW,{},pW,pW,pW],(p4 [1,1,2]),[],[pW,pW],[pW,pW],(p4 [1,1,1,1])],h_:=[(1,(p_ false [1,1,5,1,2,1,28,3,40])),(3,(p_ false [7,1,5,1,1,1,47,3,16]))] }
def NV:db:={ ops:=[[pW],[{},{ mode:=3 },pW],[pW,{ mode:=3 },{},{},pW],(p4 [0,1,1]),[{},pW],[],[],(p4 [0,0,2]),(p4 [1,1,1]),[{},{},p0,pW,pW,pW,pW,{},{},p0,pW,pW,{},pW,pW,p0,{ takes:=[false,false,true] },pW,{},{},p0,pW,pW,pW,{ takes:=[false,false,true] },pW,{},{},p0,pW,pW,pW,{ takes:=[false,false,true] }],[],[],(p4 [0,0,2]),(p4 [1,1,1]),[{},{},p0,{},{},p0,pW,pW,{ mode:=3 }],[],[],(p4 [0,0,2]),(p4 [1,1,1]),[{},{},{},pW,p0,pW,{ mode:=3 },{},{},{},p0,pW,{ mode:=3 },p0],[],[{},{},pW,pW,{ mode:=3 },{},{},pW,pW,p0,pW,{ mode:=3 },pW,pW]],h_:=[(0,(p_ false [1,2,4,2,94])),(2,(p_ false [1,2,4,1,1,1,93])),(4,(p_ false [1,2,4,1,2,1,92]))] }
def U2:db:={ ops:=[[pW],[{},pW],[{},pW,pW,{ mode:=3 },pW,pW,{},pW,pW,pW,{ takes:=[true,false,true] },pW],[],[pW,pW,pW,{ mode:=6 },pW],[],[]] }
def Rt:db:={ ops:=[[pW],[{},pW,pW,pW,{},pW,pW,{ takes:=[true,false,true] },pW,{},pW,pW,pW,{ takes:=[true,false,true] }],[],[],(p4 [0,0,1,1,2]),(p4 [1,1,1]),[{},pW,{},p0,pW,{},{ takes:=[false,true] }],[{},pW,pW,pW,{},pW,{},pW,p0,{ takes:=[true,false,true] },pW,{},pW,pW,{ takes:=[true,false,true] },pW,pW,pW,{},pW,p0,{ takes:=[true,false,true] }],[],[]],h_:=[(0,(p_ false [1,1,1,1,49]))] }
def aa_:db:={ ops:=[[pW],[{},{},{ mode:=3 },pW,{},{},pW,pW,pW,pW],(p4 [0,1,1]),[pW,pW],(p4 [1,1,1,1,1,2,1]),[],(p4 [1,1,2,1]),[],[]] }
def aba:db:={ ops:=[[pW],[{},{},{ mode:=3 },pW,{},{},pW,pW,pW,pW],[{},pW],[pW,pW],(p4 [1,1,1,1,1,2]),[],(p4 [1,1,2]),[],[]] }
def Ru:db:={ ops:=[[],(p4 [0,1,1]),[],(p4 [0,0,1,2]),(p4 [1,1,1]),(p4 [1,0,0,2,1,1,2,1]),(p4 [1,1,1])],h_:=[(0,(p_ false [0,1,2,2,17]))] }
def U3:db:={ ops:=[[pW],[{},{ mode:=3 },pW],[{},pW],(p4 [1,0,1]),[],[],[],(p4 [0,1,1]),[{},{},{ mode:=3 },pW,{},{},pW,pW,pW,pW],[{},pW],(p4 [1,0,1]),[pW],[],[{},pW,{},{ takes:=[false,true] }],[{},{},pW,{},pW,{ takes:=[true,true,true] },pW,pW,pW,p0,pW],[pW,pW],[pW,pW],[{ takes:=[true],mode:=1 },{ takes:=[false,true],mode:=1 }],[{},{},{ takes:=[false,true],mode:=1 },pW,{},pW,p0,pW],[],(p4 [1,1,1,1,1,2,1]),[],(p4 [1,1,1])],h_:=[(0,(p_ false [1,2,4,1,12,3,50])),(2,(p_ false [1,2,4,1,12,3,13,3,34]))] }
def Pm:db:={ ops:=[[pW],[{},{ mode:=3 },pW],[pW,{ mode:=3 },{},pW],[],[],(p4 [0,0,1,2]),(p4 [1,1,1]),[{},{},{},p0,pW,{ mode:=3 },pW,{},{},{},pW,pW,pW],[{},pW],(p4 [1,0,1]),(p4 [1,0,0,2,1,2,1]),[],(p4 [0,0,1,2]),(p4 [1,1,1]),[{},{},p0,{},{},p0,pW,pW,{ mode:=3 }],[],(p4 [1,1,1,1,1,2]),[],(p4 [1,1,1])],h_:=[(0,(p_ false [1,2,3,2,57])),(2,(p_ false [1,2,3,1,4,1,53]))] }
def abb:db:={ ops:=[[pW],[pW,{ mode:=3 },pW,{},pW,pW,pW],[{},pW],(p4 [1,0,1]),[{},pW,{ mode:=3 },{ mode:=3 },pW],[{},pW,{ takes:=[false,true] },pW],(p4 [0,1,2]),[pW,pW]] }
def U4:db:={ ops:=[[pW],[pW,{ mode:=3 },pW,{},pW,pW,pW],[{},pW],(p4 [1,0,1]),[{},pW,{ mode:=3 },{ mode:=3 },pW]] }
def Pn:db:={ ops:=[[pW],[{},{ mode:=3 },pW,{},pW,pW,pW],[{},pW],(p4 [1,0,1]),[],[pW,pW],[],[{},{},pW,{},pW,{ takes:=[false,true] }],[{},{},pW,{},{ mode:=3 },{},{ takes:=[false,true] }],(p4 [1,1,2,1,1]),(p4 [1,1,1,2,1]),[pW,pW],[pW,pW]],h_:=[(0,(p_ false [4,1,1,1,12,3,20]))] }
def abe:db:={ ops:=[[],(p4 [0,1,0,1,2]),[],[],(p4 [0,0,1,2]),(p4 [1,1,1]),(p4 [0,0,2,1,0,0,2,1,2]),[],[]],h_:=[(0,(p_ false [0,2,3,1,20]))] }
def abf:db:={ ops:=[[],(p4 [0,1,0,1,2]),[],[],(p4 [0,0,1,2]),(p4 [1,1,1]),[{},{},p0,pW,{},{},p0,pW,{ mode:=3 },pW],[],[]],h_:=[(0,(p_ false [0,2,3,1,21]))] }
def U5:db:={ ops:=[[pW],[pW,{ mode:=3 },pW,{},pW,pW,pW],[{},pW],(p4 [1,0,1]),[pW,{ mode:=3 },pW,pW]] }
def abg:db:={ ops:=[[pW],[{},{ mode:=3 },pW,{},pW,pW,pW],(p4 [0,1,1]),(p4 [1,0,1]),(p4 [1,1,1,1,1]),[],[{},{ mode:=3 },pW,pW,pW],[],[pW,{ mode:=3 },pW]] }
def abh:db:={ ops:=[[],[],[],[],[],[],[],[],[],[],[],[],[],[],[],[],[],[],[],[{},pW,pW,pW,{},pW,pW,{},{},{},{ mode:=3 },p0,{ takes:=[false,false,true] },{ takes:=[false,true] },pW,{},{},{},pW,{ mode:=3 },{},{},{ mode:=3 },{ mode:=3 },{ takes:=[false,true] }],[],[],[],[pW,{},pW,pW,pW,p0,pW,{},pW,pW,pW,{ mode:=3 },{},{},pW,pW,{ mode:=3 },pW,pW,pW]] }
def abi:db:={ ops:=[[pW],[{},{ mode:=3 },pW,{},pW,pW,pW],[pW,pW],[],[pW,{ mode:=3 },{},pW,pW,pW]] }
def U6:db:={ ops:=[[pW],[pW,{ mode:=3 },pW,{},pW,pW,pW],[{},pW],(p4 [1,0,1]),[pW,{ mode:=3 },pW]] }
def abj:db:={ ops:=[[pW],[{},{ mode:=3 },pW,{},pW,pW,pW],[{},pW],(p4 [1,0,1]),[pW,{},{ mode:=3 },pW],[],[pW,pW]] }
def abk:db:={ ops:=[[],(p4 [0,1,0,1,2]),[],[],(p4 [0,0,1,2]),(p4 [1,1,1]),(p4 [0,0,2,1,0,0,2,1,2]),[],[]],h_:=[(0,(p_ false [0,2,3,1,20]))] }
def abl:db:={ ops:=[[pW,pW],[{},{ mode:=3 },pW,{},pW,{},{ takes:=[false,true] },pW],(p4 [0,1,1]),(p4 [1,0,1]),[pW,pW,pW,{},{},p0,{ mode:=3 },pW,pW,{},{},p0,{ takes:=[true,false,true] },pW],[],[{},{},{ mode:=3 },{},{ takes:=[false,true] }],[{},{ takes:=[false,true] },pW,pW],[],[{ mode:=1 }],(p4 [0,0,2]),[{},{},{ mode:=3 }],[{},{ takes:=[false,true] }],[pW,{},{ mode:=3 },pW,{},pW,pW,pW],[{},{ takes:=[false,true] },pW,{},{ takes:=[false,true] },pW,pW,p0],[{ mode:=1 },pW,pW,p0,pW,p0,p0],[pW,pW]],h_:=[(1,(p_ false [2,1,1,1,3,1,1,2,60]))] }
def U7:db:={ ops:=[[pW],[{},{ mode:=3 },pW,pW,pW,{ mode:=3 },pW,p0,pW]] }
def U8:db:={ ops:=[[pW],[{},{ mode:=3 },pW,{},pW,pW,pW],[{},{ mode:=3 },pW,{},pW,pW,pW],[pW,pW,pW,pW,pW,{ takes:=[true,false,true] },pW,{},{ mode:=3 },{ takes:=[true,false,true] }],[pW,pW],[{},{},{ mode:=3 },pW,{},pW,pW,pW],[pW,pW,{ mode:=3 },pW,{},pW,pW,pW],(p4 [0,1,1,1,1,1,2,1,1,0,2,2,1,1,1,2,2,1,1])] }
def Po:db:={ ops:=[[pW],[{},{ mode:=3 },pW,{},pW,pW,pW],[pW,pW,pW,{},pW,{},pW,pW,p0,{ takes:=[true,false,true] }],[],[pW,pW,pW,{ takes:=[false,true] },pW],[],[],(p4 [0,0,1,2]),(p4 [1,1,1]),[],(p4 [0,0,0,2,1,1,2]),(p4 [1,1,1]),(p4 [0,0,2,1,0,2,1,1]),[{},pW,pW,{},{},pW,p0,{ takes:=[true,false,true] },pW,{},{},p0,pW,pW,{ takes:=[true,false,true] }],[],(p4 [0,1,2,1]),(p4 [1,1,1]),(p4 [0,0,2,1,1,1]),[],(p4 [1,1,1,1,2,1,1])],h_:=[(0,(p_ false [4,1,1,3,74])),(2,(p_ false [4,1,1,4,73]))] }
def abm:db:={ ops:=[[],[],[],[],[],[],[],[],[],[],[],[],[],[],[{},{},{ mode:=3 },pW,pW,{},pW,pW,pW,{},{},{},pW,pW,p0,pW,{ mode:=3 },{},{},{ mode:=3 },p0,{ takes:=[false,false,true] },{ takes:=[false,true] }],[],[],[],[],[],[],(p4 [1,0,0,2,1,1,2,1,0,0,2,1,1,2,1,1])] }
def abn:db:={ ops:=[[],[],[],[],[],[{},{ takes:=[true],mode:=1 },{},pW,{},{},p0,pW,p0,pW,pW,p0,{},p0]] }
def abo:db:={ ops:=[[],[pW,pW]] }
def abp:db:={ ops:=[[],[],[],[],[],[pW,{},{},p0,pW,pW,{},{},p0,pW,pW,{ takes:=[false,true] },p0,pW,p0,pW]] }
def abq:db:={ ops:=[[],[],[],[],[],[],[],[],[],[],[],[],(p4 [0,1,0,2,1,1,0,1,0,2,1,1,1,1]),[],(p4 [0,0,2,1,0,0,2,1,2,1])] }
def U9:db:={ ops:=[[pW,pW],(p4 [0,1,1]),(p4 [1,1,1,1,2,1,1,1]),(p4 [1,1,1,1,2,1,1,1])] }
def abr:db:={ ops:=[[],[{},{ mode:=3 },{ takes:=[false,true] }]] }
def abt:db:={ ops:=[[],[{},{ mode:=3 },{ takes:=[false,true] }]] }
def abu:db:={ ops:=[[],[{},{ mode:=3 },{ takes:=[false,true] }]] }
def abv:db:={ ops:=[[],[],[],(p4 [0,1,0,1,2]),(p4 [1,1,1]),(p4 [1,0,0,2,1,0,0,1,2,1,2,1,2,1]),[pW,pW]],h_:=[(0,(p_ false [0,1,2,2,21]))] }
def abw:db:={ ops:=[[],[pW,pW]] }
def abx:db:={ ops:=[[],[pW,pW]] }
def U_:db:={ ops:=[[pW],[{},{ mode:=3 },pW],[{},pW],(p4 [1,0,1]),[pW,pW,{ takes:=[true],mode:=1 },pW]] }
def U':db:={ ops:=[[pW],[pW,pW,pW,pW,{},pW,pW,{ mode:=3 },pW,pW,pW,pW,pW,{ mode:=3 },pW,{ takes:=[true,false,true] },pW]] }
def Va:db:={ ops:=[[pW,pW],[pW,p0,{ mode:=6 },pW,pW]] }
def Vb:db:={ ops:=[[],[pW,pW,{ mode:=6 },pW,pW]] }
def Vc:db:={ ops:=[[pW],[pW,pW,pW,pW,pW,{},pW,p0,pW,{},{ takes:=[false,true] }],(p4 [1,1,1]),(p4 [0,1,0,1,1,1]),(p4 [0,1,0,1,1,1])] }
def Rv:db:={ ops:=[[],[],(p4 [0,0,1,2]),(p4 [1,1,1]),(p4 [0,0,2,1,1,0,2]),[],[]],h_:=[(0,(p_ false [0,2,3,1,13]))] }
def Vd:db:={ ops:=[[pW,pW],(p4 [0,1,1]),(p4 [1,1,1,1,2,1,1,1]),(p4 [1,1,1,1,2,1,1,1])] }
def Ve:db:={ ops:=[[pW],[pW,pW,pW,{},pW,pW,pW,p0,{ mode:=3 },pW,pW]] }
def Vf:db:={ ops:=[[],[pW,pW,{ mode:=6 },pW,pW]] }
def Vg:db:={ ops:=[(p4 [0,1,1]),[pW,{},pW,pW,{ mode:=3 },{ takes:=[false,true,false,true,true],mode:=1 }]] }
def Rw:db:={ ops:=[[],[{ takes:=[true],mode:=1 },pW,pW],[pW,pW],[],(p4 [0,0,1,2]),(p4 [1,1,1]),(p4 [0,0,2,1,0,0,1,2,1,2]),(p4 [0,0,2,1]),[],(p4 [0,0,1,2]),(p4 [1,1,1]),(p4 [0,0,2,1,0,0,1,2,1,2]),(p4 [0,0,0,0,2,1,2,2]),(p4 [1,1,1]),(p4 [0,0,2,1]),(p4 [1,1,2,1]),[pW,pW]],h_:=[(0,(p_ false [0,1,2,1,57])),(2,(p_ false [0,1,2,3,55]))] }
def Vh:db:={ ops:=[[],[{},pW],[],(p4 [0,1,2,1])] }
def Pp:db:={ ops:=[[],[],[pW],[],(p4 [0,1,1]),[{},pW,pW,pW,pW,{},p0,pW,pW,{},pW,pW,{ takes:=[false,true] },p0],[{},pW,pW,pW,pW,pW,p0,pW,pW,{},pW,pW,{ takes:=[false,true] },p0],[pW,pW],(p4 [0,0,2]),[],[],[pW],[],(p4 [0,0,1,1]),(p4 [1,1,1]),[{},{},pW,pW,pW,{ takes:=[true,true,true] },pW,pW,p0,pW],[pW,pW],[pW,pW]],h_:=[(0,(p_ false [0,1,4,1,5,3,52])),(2,(p_ false [8,1,38,2,17]))] }
def Rx:db:={ ops:=[[],[],(p4 [1,1,1,1,1,1]),[],[{},pW],(p4 [1,1,1,2,1]),[pW,pW],[pW,pW]],h_:=[(0,(p_ false [3,1,6,2,8]))] }
def MT:db:={ ops:=[[pW],[{ takes:=[true],mode:=1 }],[pW],[],[{},pW,{},{ takes:=[false,true] }],[{},pW],(p4 [1,1,1]),[],[],(p4 [0,1,1]),[{},{},{ mode:=6 }],(p4 [1,1,2,1]),[pW,pW],[{ takes:=[true],mode:=1 },{ takes:=[false,true],mode:=1 }],[pW,pW,{ takes:=[false,true,true],mode:=1 },{ takes:=[true],mode:=2 },pW,{ takes:=[true,true],mode:=1 },pW],[pW,pW],[{},{ takes:=[false,true],mode:=1 }],[{ takes:=[true],mode:=2 },pW]],h_:=[(0,(p_ false [2,1,2,1,6,3,31])),(2,(p_ false [2,1,2,1,2,2,2,3,6,3,22]))] }
def abA:db:={ ops:=[[],[],[],[],[],[],[],[],[],[],[],(p4 [0,0,2,1,0,0,1,0,2,1,1,2,1,2])] }
def Ij:db:={ ops:=[[pW,pW],[],[],[],[{},pW],[pW,{ takes:=[false,true] },pW],[pW,pW],[{},{ takes:=[false,true] },pW],[pW,pW,{},{ takes:=[false,true] }],(p4 [0,1,1]),[{},pW,pW,{},{ takes:=[false,true] }],[{ mode:=1 },pW,{ takes:=[false,true] }],[{},{},{ mode:=3 }],[{},{ takes:=[false,true] }],[pW,{},{ mode:=3 },pW,{},pW,pW,pW],[pW,pW,pW,p0,pW,{},{ takes:=[false,true] },pW,pW,p0],[{},pW,{ takes:=[false,true] },pW,pW,p0,p0],[{ mode:=1 },pW,pW,p0,p0],[pW,{ takes:=[false,true] }]],h_:=[(0,(p_ false [1,1,1,1,1,3,6,1,48])),(2,(p_ false [3,1,1,3,1,1,53]))] }
def abB:db:={ ops:=[[],[],(p4 [0,0,1,0,2,1,1,2,1,0,0,1,0,2,1,1,2,1,2,1])] }
def KC:db:={ ops:=[[],[],[{},{},{ mode:=3 },{ mode:=3 }],[],[{},pW,{},{ takes:=[false,true] }],[{},pW,pW,pW,pW,pW,pW,{},{ takes:=[false,true] }],[],[],(p4 [0,1,1]),[{},pW,{ takes:=[true],mode:=1 },{},pW,pW,pW,pW,pW,p0,pW,pW,p0,{},pW,p0],[pW,pW],[{},{},{ mode:=3 },pW],[],(p4 [0,1,0,1,2]),(p4 [1,1,1]),[{},pW,{ takes:=[true],mode:=1 },{},{},p0,pW,{},{},pW,p0,pW,p0,pW,p0,{},pW,p0],[{ mode:=7 },pW],[{},{},{ mode:=6 },pW],[{},pW],[{},{},pW,p0,{},{},pW,p0,p0,{ mode:=3 },pW],[],[pW],[],[{},pW,{},{ takes:=[false,true] }],(p4 [0,1,0,1,2]),(p4 [1,0,0,1,2,1,0,1,2,1,2,1]),(p4 [1,1,1,2,1]),[pW,pW],(p4 [0,1,1]),(p4 [1,1,1,2,1]),[pW,pW],[pW,pW]],h_:=[(0,(p_ false [0,1,2,1,15,3,111])),(2,(p_ false [0,1,2,1,1,2,12,3,10,3,98])),(4,(p_ false [0,1,2,1,1,2,2,2,8,3,111])),(6,(p_ false [0,1,2,1,1,1,7,1,5,3,75,3,33]))] }
def abC:db:={ ops:=[[],[],[],[],[],[],[pW,{},{},{},p0,pW,{ mode:=3 },{ mode:=3 },pW,pW,{ takes:=[false,true] },p0,pW]] }
def abD:db:={ ops:=[[],[],[{},{ mode:=3 },{ takes:=[true],mode:=1 }],[],(p4 [0,1,1]),[],[],[],[{},pW,{},{ takes:=[false,true] }],[{},{},{},{ takes:=[false,true,true],mode:=1 },{ takes:=[true],mode:=2 }],[],[],[{},pW],[{},pW,p0,{},{ takes:=[false,true] }],[{},{},{ mode:=3 },pW,{},pW,pW,pW],[{},pW,pW,pW,{},p0,{ takes:=[true,false,true] },pW,{},{},pW,{ mode:=3 },p0],(p4 [1,1,1,2,1]),[pW,pW],[pW,pW],(p4 [0,1,1]),[pW,pW],[pW,{ mode:=3 },{},{ takes:=[false,true] }],(p4 [1,0,1,2,1]),[pW,{},{ takes:=[false,true,true],mode:=1 },pW],[{},pW,{ mode:=3 },pW,{},pW,pW],[pW,pW]],h_:=[(0,(p_ false [0,1,2,3,75])),(2,(p_ false [0,1,2,4,13,3,58])),(4,(p_ false [0,1,2,4,1,2,10,3,7,1,50]))] }
def Vi:db:={ ops:=[[pW,pW],[p0,pW]] }
def abF:db:={ ops:=[[],[],[],[],[],[],[],[],[],[],[],[{},{},{},p0,{},pW,p0,{},{},{ mode:=3 },{},{},pW,{ mode:=3 },pW,{},{},pW,pW]] }
def abG:db:={ ops:=[[],[pW,pW,{},{ takes:=[false,true] }],[],(p4 [0,1,0,1,2]),(p4 [1,1,1]),[{},{ takes:=[true],mode:=1 },{},{},p0,pW,{},{},pW,p0,pW,p0,pW,p0,{},p0],[pW,{ takes:=[false,true] }]],h_:=[(0,(p_ false [1,1,2,3,25]))] }
def Vj:db:={ ops:=[[],[pW,pW,{ mode:=6 },pW,pW]] }
def Vk:db:={ ops:=[[],[{},pW,p0,pW,pW,pW,p0,{ takes:=[true,false,true] },pW]] }
def Ry:db:={ ops:=[[],[{},pW],[],[{},pW],[{},{},{},p0,pW,{ mode:=6 }],[pW,pW],[pW,pW],[]],h_:=[(0,(p_ false [0,2,5,2,10]))] }
def Rz:db:={ ops:=[[],[{},pW],[],[{},pW],[{},{},{},p0,pW,{ mode:=6 }],[pW,pW],[pW,pW],[]],h_:=[(0,(p_ false [0,2,5,2,10]))] }
def Vl:db:={ ops:=[[],[],(p4 [0,0,2,1]),[{},pW],[pW,pW,pW,{ takes:=[false,true,true,true],mode:=1 }],[{},pW],[pW,pW,pW,{ takes:=[false,true,true,true],mode:=1 }],[{},pW],[{},{},{},{ takes:=[false,true,true,true],mode:=1 }],(p4 [1,1,1]),[{},{},{},{ takes:=[false,true,true,true],mode:=1 },pW,{},pW,pW,pW],[{},pW],[{},{},{},{ takes:=[false,true,true,true],mode:=1 }],(p4 [0,1,1,0,2,2,1]),[],(p4 [0,1,0,2,1,1,1,2]),[{},{},{},{ takes:=[false,true,true,true],mode:=1 }],[{},pW,pW,{},{},pW,p0,pW,{},{},p0,pW,{ mode:=3 },pW,{ takes:=[false,true] }],[{},pW,{},pW,{ takes:=[false,true,true,true,true],mode:=1 },pW],[pW,pW],[{},{},{},pW,{ takes:=[false,true,true,true,true],mode:=1 },pW,{},pW,pW,pW],[pW,pW],(p4 [0,0,2,0,0,2,1,1]),(p4 [1,1,1]),(p4 [0,0,2]),(p4 [1,1,2,1]),[{},pW,{},{},{ takes:=[false,true,true,true,true],mode:=1 }],(p4 [1,1,1]),(p4 [1,1,2,1]),[{},{},pW,pW,{},{ takes:=[false,true,true,true,true],mode:=1 }],[pW,pW]],h_:=[(0,(p_ false [0,4,4,2,124]))] }
def abH:db:={ ops:=[[],[pW,pW,{ mode:=3 },pW],[pW,{ mode:=3 },pW]] }
def Vm:db:={ ops:=[[],[pW,p0,{ mode:=6 },pW]] }
def Vn:db:={ ops:=[[],[pW,pW,pW,{ mode:=3 },pW]] }
def UO:db:={ bad:=true,ops:=[[],[{},pW,pW,pW,pW,pW,p0,pW,{},pW,pW,pW,{ takes:=[true],mode:=3 },pW,p0,{ takes:=[true],mode:=3 },{},{},{ takes:=[false,true] },{ takes:=[false,true] }],[{},pW,{},pW,p0,pW,{},pW,{},pW,p0,{ takes:=[true,false,true] },pW,{},pW,{},pW,p0,{ takes:=[true,false,true] },pW,pW,pW,pW,pW,p0,{ takes:=[true,false,true] },pW]] }
def aaz:db:={ ops:=[[],(p4 [0,0,0,1]),[{},pW],[pW,{ takes:=[true],mode:=4 }],(p4 [0,1,1]),(p4 [0,0,1,2]),(p4 [1,1,1]),(p4 [0,0,2,1,1]),(p4 [0,0,0,1]),(p4 [0,0,1,2,2]),(p4 [1,1,1]),(p4 [0,0,2,1]),[pW,pW,p0,{ takes:=[true],mode:=4 }]],h_:=[(0,(p_ false [0,2,3,2,35]))] }
def UP:db:={ ops:=[(p4 [0,1,1]),[pW,{},pW,pW,{ mode:=3 },pW,{ takes:=[false,true,false,true,true,true],mode:=1 }]] }
def UQ:db:={ ops:=[[],(p4 [1,1,1,1,1,1,2,1])] }
def LU:db:={ ops:=[[pW],[{},{},{ takes:=[false,true] }],(p4 [0,1,1,1,1,1]),[],[{},pW],(p4 [0,0,1,0,0,1,2,2]),[pW,pW],[{ takes:=[true],mode:=1 }],[{},pW,pW,pW,pW,pW,pW,pW,{},{ takes:=[false,true] }],(p4 [0,1,1]),[{},{},{ mode:=3 }],[{},{ takes:=[false,true] }],(p4 [0,0,2,1]),(p4 [0,0,2]),[pW,{},pW,{},pW,{ takes:=[false,true] },p0,p0],[{ mode:=5 },{},pW,{ takes:=[true,true],mode:=1 },p0],[pW,pW,{ mode:=3 },pW,{},pW,p0],(p4 [0,1,1]),[{},{},pW,pW,p0,pW,{},{ takes:=[false,true] }],[{ mode:=5 },{},pW,pW,p0,{ takes:=[false,true] }],[pW,{},pW,{ takes:=[true,true],mode:=1 },pW],[{},pW,{ mode:=3 },pW,{},pW,{ takes:=[false,true] }],[{},{ takes:=[false,true],mode:=1 }],[{ takes:=[true],mode:=2 },pW]],h_:=[(0,(p_ false [1,1,1,1,13,2,73])),(2,(p_ false [1,1,1,1,1,4,83]))] }
def UR:db:={ ops:=[[pW],(p4 [1,1,1,1,2,1])] }
def Pl:db:={ ops:=[[],[],[],[],(p4 [0,1,1]),(p4 [1,1,1,2,1]),[{},pW],[{},pW],[pW,pW],(p4 [1,0,1]),[pW],[],(p4 [0,1,1]),(p4 [1,1,2,1]),[pW,pW],[pW,pW]],h_:=[(0,(p_ false [0,1,2,1,5,3,24])),(2,(p_ false [6,1,18,3,8]))] }
def aaB:db:={ ops:=[[],[{ takes:=[true],mode:=1 },{},{ mode:=6 },pW],[{},pW],[pW,pW],(p4 [0,1,1]),(p4 [0,0,1,2]),(p4 [1,1,1]),(p4 [0,0,2,1,1]),[{},{},{ mode:=6 },pW],(p4 [0,0,1,2,2]),(p4 [1,1,1]),(p4 [0,0,2,1]),(p4 [1,1,2,1])],h_:=[(0,(p_ false [0,2,3,2,35]))] }
def aaC:db:={ ops:=[[],(p4 [1,1,2,1])] }
def aaD:db:={ ops:=[[pW,pW],[{},pW],[{},{},{ mode:=3 },pW],(p4 [0,1,1,1]),[],[{},pW,pW,pW,{},pW,pW,pW,pW,pW,{ mode:=3 },pW,p0,{ takes:=[true,false,true] },pW,{},pW,{ mode:=6 },pW,{ takes:=[true,false,true] },pW],[],[pW,pW,{ mode:=3 },pW,pW,pW]] }
def aaF:db:={ ops:=[[],[{},pW,pW,{},{ takes:=[false,true] }],[pW,pW],[],[{},pW,{},{ takes:=[false,true] }],[{},{},{},{ mode:=6 }],[pW,{ takes:=[false,true] }],[pW,pW],[pW,{ takes:=[false,true] }]],h_:=[(0,(p_ false [1,1,2,2,6,3,10]))] }
def aaG:db:={ ops:=[[pW,pW],(p4 [1,1,1,1,2,1])] }
def aaH:db:={ ops:=[[],(p4 [1,1,1,2,1])] }
def US:db:={ ops:=[(p4 [0,1,1,1,1,1]),[],[{},pW],[],[],[{},pW],[{},pW,p0,{},{ takes:=[false,true] }],[{},{},{ mode:=3 },pW,{},pW,pW,pW],[pW,{},p0,pW,{},pW,{ takes:=[true,true],mode:=1 },pW,p0],[pW,pW],[pW,pW]],h_:=[(0,(p_ false [0,3,11,2,25])),(2,(p_ false [0,3,1,1,9,2,2,1,22]))] }
def Rr:db:={ ops:=[[],[{},pW],[],[{},pW],[{},{},{},p0,pW,{ mode:=6 }],[pW,pW],[pW,pW],[]],h_:=[(0,(p_ false [0,2,5,2,10]))] }
def UT:db:={ ops:=[(p4 [0,1,1]),(p4 [0,0,2]),(p4 [1,1,1]),[{},pW],[{},{},p0,pW,{},{},p0,pW,{},{},pW,p0,pW,{ mode:=3 },{ takes:=[false,true] }],(p4 [1,1,1]),(p4 [0,0,0,0,1,0,0,1,2,1,0,0,2,1,2,2,2,2])],h_:=[(0,(p_ false [0,3,3,1,42])),(2,(p_ false [0,3,3,2,41]))] }
def aaI:db:={ ops:=[[],[],[],[],[],[],[],[],[],[],(p4 [0,0,0,0,0,2,0,0,0,2,2,1,0,0,2,1,2,2,2,2])] }
def aaJ:db:={ ops:=[[],[],[],[],[],[],[],[],[],[],(p4 [0,0,0,0,0,2,0,0,0,2,2,1,0,0,2,1,2,2,2,2])] }
def aaK:db:={ ops:=[[],[],[],(p4 [0,0,0,0,0,0,2,1,0,0,2,1,2,2,2,2])] }
def aaM:db:={ ops:=[[],[],[],[],[],[{},{},p0,pW,{},{},p0,pW,{},{},pW,p0,pW,{ mode:=3 },pW,{ takes:=[false,true] }],[],[],[],[],[],(p4 [0,0,0,0,1,0,0,1,2,1,0,0,2,1,2,2,2,2]),[],[],[],[],[{},{},p0,pW,{},{},pW,p0,pW,{ mode:=3 },pW],(p4 [0,0,0,0,1,0,0,1,2,1,0,0,2,1,2,2,2,2]),[],[],[],[],[{},{},p0,pW,{},{},pW,p0,pW,{ mode:=3 },pW],(p4 [0,0,0,0,1,0,0,1,2,1,0,0,2,1,2,2,2,2])] }
def UU:db:={ ops:=[[],[{},{ mode:=3 },pW,{},{ mode:=3 },pW,p0,pW,pW,pW,p0,{ takes:=[true,false,true] },pW]] }
def aaN:db:={ ops:=[[],(p4 [0,0,0,0,0,0,2,1,0,0,2,1,2,2,2,2]),[],[{},{},p0,pW,{},{},p0,pW,{},{},p0,pW,{ mode:=3 },pW,{ takes:=[false,true] }],[],[{},{},p0,pW,{},{},p0,pW,{},{},p0,pW,{ mode:=3 },{ takes:=[false,true] }],[],[],(p4 [0,0,0,0,0,0,2,1,0,0,2,1,2,2,2,2])] }
def aaO:db:={ ops:=[[],(p4 [0,0,0,0,0,0,2,1,0,0,2,1,2,2,2,2]),[],[{},{},p0,pW,{},{},p0,pW,{},{},p0,pW,{ mode:=3 },{ takes:=[false,true] }],[],[{},{},p0,pW,{},{},p0,pW,{},{},p0,pW,{ mode:=3 },pW,{ takes:=[false,true] }],[],[],(p4 [0,0,0,0,0,0,2,1,0,0,2,1,2,2,2,2]),[],(p4 [0,0,0,0,0,0,2,1,0,0,2,1,2,2,2,2]),[],[],[{},{},p0,pW,{},{},p0,pW,{},{},p0,pW,{ mode:=3 },{ takes:=[false,true] }],[],[{},{},p0,pW,{},{},p0,pW,{},{},p0,pW,{ mode:=3 },pW,{ takes:=[false,true] }],[],[],(p4 [0,0,0,0,0,0,2,1,0,0,2,1,2,2,2,2]),[],[],(p4 [0,0,0,0,0,0,2,1,0,0,2,1,2,2,2,2])] }
def aaP:db:={ ops:=[[],[{},pW],(p4 [1,1,1]),[],[{},pW],(p4 [1,1,1]),(p4 [1,1,1]),[pW,pW,pW,{ takes:=[false,true] },pW,p0,pW]] }
def aaQ:db:={ ops:=[[],[{},pW],(p4 [1,1,1]),[],[{},pW],(p4 [1,1,1]),(p4 [1,1,1]),[{},pW],(p4 [1,1,1]),(p4 [1,1,1]),[pW,pW,pW,{ takes:=[false,true] },pW,p0,pW]] }
def UW:db:={ ops:=[[],[{},pW],[],[{},pW],[{},{},{},p0,pW,{ mode:=6 }],[pW,pW],[pW,pW],[]],h_:=[(0,(p_ false [0,2,5,2,10]))] }
def UX:db:={ ops:=[[],[],(p4 [0,0,2,1]),[{},pW],[pW,pW,pW,pW,{ takes:=[false,true,true,true,true],mode:=1 }],[{},pW],[pW,pW,pW,pW,{ takes:=[false,true,true,true,true],mode:=1 }],[{},pW],[{},{},{},{},{ takes:=[false,true,true,true,true],mode:=1 }],(p4 [1,1,1]),[{},{},{},{},{ takes:=[false,true,true,true,true],mode:=1 },pW,{},pW,pW,pW],[{},pW],[{},{},{},{},{ takes:=[false,true,true,true,true],mode:=1 }],(p4 [0,1,1,0,2,2,1]),[],(p4 [0,1,0,2,1,1,1,2]),[{},{},{},{},{ takes:=[false,true,true,true,true],mode:=1 }],[{},pW,pW,{},{},{},pW,p0,pW,{},{},p0,pW,{ mode:=6 },pW,pW,{ takes:=[false,true] }],[{},pW,{},pW,{},{ takes:=[false,true,true,true,true,true],mode:=1 },pW],[pW,pW],[{},{},{},pW,{},{ takes:=[false,true,true,true,true,true],mode:=1 },pW,{},pW,pW,pW],[pW,pW],(p4 [0,0,2,0,0,2,1,1]),(p4 [1,1,1]),(p4 [0,0,2]),(p4 [1,1,2,1]),[{},pW,{},{},{},{ takes:=[false,true,true,true,true,true],mode:=1 }],(p4 [1,1,1]),(p4 [1,1,2,1]),[{},{},pW,pW,{},{},{ takes:=[false,true,true,true,true,true],mode:=1 }],[pW,pW]],h_:=[(0,(p_ false [0,5,5,2,136]))] }
def UY:db:={ ops:=[(p4 [0,1,1,0,1]),(p4 [0,0,2]),(p4 [1,1,1,1,1,1]),(p4 [0,0,0,0,0,0,2,1,0,0,2,1,2,2,2,2])],h_:=[(0,(p_ false [0,1,1,2,24]))] }
def aaR:db:={ ops:=[[],[{},pW],[{},pW],(p4 [1,0,1,0,1,2,2,1]),[{},pW],(p4 [0,0,1,2,1,2,1,1,2,1]),[pW,pW]] }
def aaT:db:={ ops:=[[],[{},pW,pW,pW,pW,{},p0,pW,pW,{},p0,pW,{},pW,pW,pW,pW,{},p0,pW,pW,{},p0,{ takes:=[false,false,true] },pW]] }
def aaU:db:={ ops:=[[],[pW,pW,{ mode:=3 },pW,pW]] }
def aaV:db:={ ops:=[[],[],[],[{},pW,{},p0,pW,{},{},{},p0,p0,pW,{},{},{},p0,pW,p0,pW,{ mode:=3 },{ takes:=[false,true] }],[],[{},{},{},p0,p0,pW,{},{},{},p0,p0,pW,{ mode:=3 },pW],(p4 [0,0,0,2,0,0,0,2,0,0,0,2,2,1,0,0,0,2,2,1,2,2,2,2])] }
def aaW:db:={ ops:=[[],(p4 [0,0,1,0,1,1,1,2,0,2]),(p4 [0,0,1,0,1,1,1,2,0,2]),(p4 [0,0,1,0,1,1,1,2,0,2])] }
def UZ:db:={ ops:=[[],(p4 [0,1,2,1])] }
def U0:db:={ ops:=[(p4 [0,1,1]),(p4 [0,0,2]),(p4 [1,1,1]),[{},pW],[{},{},p0,pW,{},{},{},p0,pW,{},{},pW,p0,pW,{ mode:=6 },pW,{ takes:=[false,true] }],(p4 [1,1,1]),(p4 [0,0,0,0,1,0,0,1,2,1,0,0,2,1,2,2,2,2])],h_:=[(0,(p_ false [0,4,4,1,44])),(2,(p_ false [0,4,4,2,43]))] }
def aaX:db:={ ops:=[[],[],[],[],[],[],[],[],[],[],(p4 [0,0,0,0,0,2,0,0,0,2,2,1,0,0,2,1,2,2,2,2])] }
def aaY:db:={ ops:=[[],[],[],[],[],[],[],[],[],[],(p4 [0,0,0,0,0,2,0,0,0,2,2,1,0,0,2,1,2,2,2,2])] }
def aaZ:db:={ ops:=[[],[],[],(p4 [0,0,0,0,0,0,2,1,0,0,2,1,2,2,2,2])] }
def aa0:db:={ ops:=[[],[],[],[],[],[{},{},p0,pW,{},{},{},p0,pW,{},{},pW,p0,pW,{ mode:=6 },pW,pW,{ takes:=[false,true] }],[],[],[],[],[],(p4 [0,0,0,0,1,0,0,1,2,1,0,0,2,1,2,2,2,2]),[],[],[],[],[{},{},{},p0,pW,{},{},pW,p0,pW,{ mode:=6 },pW,pW],(p4 [0,0,0,0,1,0,0,1,2,1,0,0,2,1,2,2,2,2]),[],[],[],[],[{},{},{},p0,pW,{},{},pW,p0,pW,{ mode:=6 },pW,pW],(p4 [0,0,0,0,1,0,0,1,2,1,0,0,2,1,2,2,2,2])] }
def aa1:db:={ ops:=[[],(p4 [0,0,0,0,0,0,2,1,0,0,2,1,2,2,2,2]),[],[{},{},p0,pW,{},{},{},p0,pW,{},{},p0,pW,{ mode:=6 },pW,pW,{ takes:=[false,true] }],[],[{},{},p0,pW,{},{},{},p0,pW,{},{},p0,pW,{ mode:=6 },pW,{ takes:=[false,true] }],[],[],(p4 [0,0,0,0,0,0,2,1,0,0,2,1,2,2,2,2])] }
def aa2:db:={ ops:=[[],(p4 [0,0,0,0,0,0,2,1,0,0,2,1,2,2,2,2]),[],[{},{},p0,pW,{},{},{},p0,pW,{},{},p0,pW,{ mode:=6 },pW,{ takes:=[false,true] }],[],[{},{},p0,pW,{},{},{},p0,pW,{},{},p0,pW,{ mode:=6 },pW,pW,{ takes:=[false,true] }],[],[],(p4 [0,0,0,0,0,0,2,1,0,0,2,1,2,2,2,2]),[],(p4 [0,0,0,0,0,0,2,1,0,0,2,1,2,2,2,2]),[],[],[{},{},p0,pW,{},{},{},p0,pW,{},{},p0,pW,{ mode:=6 },pW,{ takes:=[false,true] }],[],[{},{},p0,pW,{},{},{},p0,pW,{},{},p0,pW,{ mode:=6 },pW,pW,{ takes:=[false,true] }],[],[],(p4 [0,0,0,0,0,0,2,1,0,0,2,1,2,2,2,2]),[],[],(p4 [0,0,0,0,0,0,2,1,0,0,2,1,2,2,2,2])] }
def aa3:db:={ ops:=[[],[{},pW],[],[{},pW],(p4 [0,0,0,2,1,2]),[pW,pW],[pW,pW],[]],h_:=[(0,(p_ false [0,2,5,2,10]))] }
def aa4:db:={ ops:=[[],[{},{},p0,pW,{},{},p0,pW,{ mode:=3 }]] }
def aa5:db:={ ops:=[[],[],[],[{},pW,{},p0,pW,{},{},{},{},p0,p0,pW,{},{},{},p0,pW,p0,pW,{ mode:=6 },pW,{ takes:=[false,true] }],[],[{},{},{},{},p0,p0,pW,{},{},{},p0,p0,pW,{ mode:=6 },pW,pW],(p4 [0,0,0,2,0,0,0,2,0,0,0,2,2,1,0,0,0,2,2,1,2,2,2,2])] }
def aa7:db:={ ops:=[[],[pW,{},{},p0,pW,{},{},p0,pW,{ mode:=6 },pW]] }
def abI:List db:=[{},{},aa9,abd,{},{},{},aby,abz,abE,aay,aaE,aaL,aaS,Rs,aa6,U1,aa8,NU,NV,U2,Rt,aa_,aba,Ru,U3,Pm,abb,{},U4,{},Pn,{},abe,abf,U5,{},abg,abh,abi,{},U6,abj,abk,{},abl,{},U7,U8,Po,abm,abn,abo,{},abp,{},abq,U9,abr,abt,abu,abv,abw,abx,U_,U',Va,Vb,Vc,Rv,Vd,Ve,Vf,Vg,Rw,Vh,Pp,Rx,{},MT,abA,Ij,abB,KC,abC,abD,{},{},{},Vi,abF,abG,Vj,Vk,Ry,Rz,Vl,abH,Vm,Vn,UO,aaz,UP,UQ,LU,UR,Pl,aaB,aaC,aaD,aaF,aaG,aaH,US,Rr,UT,aaI,aaJ,{},aaK,aaM,UU,aaN,aaO,aaP,aaQ,UW,UX,UY,aaR,aaT,aaU,aaV,{},aaW,{},{},UZ,U0,aaX,aaY,{},aaZ,aa0,aa1,aa2,aa3,aa4,aa5,{},{},aa7]
def jv (k:FuncId):db:=abI.getD k {}
end Go.Proofs.YtfakoboiahbhaaaGreat.Ab


namespace Go.Proofs.YtfakoboiahbhaaaGreat.Ab
open Go
end Go.Proofs.YtfakoboiahbhaaaGreat.Ab


namespace Go.Proofs.YtfakoboiahbhaaaGreat.Ab
open Go
end Go.Proofs.YtfakoboiahbhaaaGreat.Ab


namespace Go.Proofs.YtfakoboiahbhaaaGreat.Ab
open Go
theorem eo:Go.Proofs.Tryz.prog.follows .mixedOrders=true:=by kernel_rfl
abbrev qw (k:FuncId) (args:List I) (v:I):Prop:=lC Go.Proofs.Tryz.prog k args v
abbrev hU (n:Int):I:=.int .i64 n
abbrev rF:I:=.junk
abbrev B (b:Bool):I:=.bool b
def oL (l:List Int):I:=.ax (l.map hU) l.length .shared
def jm (l:List (List Int)):I:=.ax (l.map oL) l.length .shared
theorem Xh (d:Nat) (l:List Int):(l.map hU).all (ch (d+1))=true:=by
 rw [sv];intro u hu;obtain ⟨x,_,rfl⟩:=sk.1 hu;rfl
theorem Xg (d:Nat) (l:List Int):ch (d+2) (oL l)=true:=Xh d l
theorem SU (d:Nat) (l:List (List Int)):(l.map oL).all (ch (d+2))=true:=by
 rw [sv];intro u hu;obtain ⟨x,_,rfl⟩:=sk.1 hu;exact Xg d x
theorem afU (d:Nat) (l:List (List Int)):ch (d+3) (jm l)=true:=SU d l
theorem M_ (k:IntKind) (n:Int):ch 8 (.int k n)=true:=rfl
theorem Nh (b:Bool):ch 8 (.bool b)=true:=rfl
theorem M' (l:List Int) (n:Nat) (c:hs):ch 8 (.ax (l.map hU) n c)=true:=Xh 6 l
theorem Nb (l:List (List Int)) (n:Nat) (c:hs):ch 8 (.ax (l.map oL) n c)=true:=SU 5 l
theorem Na (l:List Int):ch 8 (oL l)=true:=Xg 6 l
theorem Nc (l:List (List Int)):ch 8 (jm l)=true:=afU 5 l
theorem Ni (k:FuncId):ch 8 (.func k [] [])=true:=rfl
theorem Nj (n:Nat) (c:hs):ch 8 (.ax [] n c)=true:=rfl
theorem Kk (l:List (List Int)) (n:Nat) (c:hs):ch 8 (.agg [.ax (l.map oL) n c])=true:=by
 show [I.ax (l.map oL) n c].all (ch 7)=true;rw [tF,uE,uq];exact SU 4 l
theorem Nd (l:List (List Int)):ch 8 (.agg [jm l])=true:=Kk l _ _
theorem Nf (l:List (List Int)):ch 8 (.bT [jm l])=true:=Kk l _ _
theorem Ng (l:List (List Int)) (n:Nat) (c:hs):ch 8 (.bT [.ax (l.map oL) n c])=true:=Kk l _ _
theorem afA {α:Type} (f:α→I) (l:List α) (i:Nat) (h:i<l.length) {K:I→Prop} (k:K (f l[i])):eH ((l.map f).drop (i*1)) 0 K :=
 Es (x:=f l[i]) (by simp [h]) k
theorem Ho (i:Nat) (h:i≤9223372036854775806):IntKind.i64.wrap ((i:Int)+1)=((i+1:Nat):Int):=by rw [IntKind.wrap_i64];omega
theorem IB (n:Int) (ad:-9223372036854775808≤n) (af:n≤9223372036854775807):IntKind.i64.wrap n=n:=by rw [IntKind.wrap_i64];omega
theorem Xf:∀ {d:Nat} {v:I},ch d v=true→ch (d+1) v=true
 | 0,v,h=>by simp [ch] at h
 | d+1,v,h=>by
   have key:∀ {l:List I},l.all (ch d)=true→l.all (ch (d+1))=true:=fun h=>by
    rw [sv] at h ⊢;exact fun u hu=>Xf (h u hu)
   cases v <;> simp only [ch,sx,tG] at h ⊢ <;> first | trivial | exact key h | exact ⟨key h.1,key h.2⟩
theorem I4 {p:Prop} [Decidable p] {A C:Prop} (ad:p→A) (af:¬ p→C):(match decide p with | true=>A | false=>C):=by
 by_cases h:p
 ·simp only [h,decide_true];exact ad h
 ·simp only [h,decide_false];exact af h
theorem Jo {k:FuncId} {xs:List I} {v:I}:∀ p∈([]:dh),p.1=k→p.2.1=xs→p.2.2=v:=fun _ h=>by simp at h
theorem yj {k k':FuncId} {xs ys:List I} {v bm:I} (h:k'=k→ys=xs→bm=v):∀ p∈([(k',ys,bm)]:dh),p.1=k→p.2.1=xs→p.2.2=v:=fun p aB=>by
 simp only [List.mem_singleton] at aB;subst aB;exact h
theorem UL {k:FuncId} {xs:List I} {v:I} {acc:dh} (h:acc.all (fun p=>p.1 != k)=true):∀ p∈acc,p.1=k→p.2.1=xs→p.2.2=v:=fun p aB e=>by
 have:=sv.1 h p aB;simp [e] at this
def Hp (cap:List I):Prop:=cap.all (ch 7)=true∧∀ u∈cap,∃ cs,u=.bT cs
theorem Hp.Rq {cap:List I} (h:Hp cap):cap.all (ch 8)=true:=by
 have ad:=h.1;rw [sv] at ad ⊢;exact fun u hu=>Xf (ad u hu)
theorem Hp.im {cap:List I} (h:Hp cap) (H:List ar):cap.map (im H)=cap:=by
 conv=>rhs;rw [←vh cap]
 apply tz;intro u hu;obtain ⟨cs,rfl⟩:=h.2 u hu;rfl
theorem Hp.hN {cap:List I} (h:Hp cap) (H:List ar):cap.map (hN H)=cap:=by
 conv=>rhs;rw [←vh cap]
 apply tz;intro u hu;obtain ⟨cs,rfl⟩:=h.2 u hu;rfl
theorem Hp.cq {cap:List I} (h:Hp cap):cap.map I.cq=cap:=by
 conv=>rhs;rw [←vh cap]
 apply tz;intro u hu;obtain ⟨cs,rfl⟩:=h.2 u hu;rfl
theorem Hp.fn {cap:List I} (h:Hp cap) (H:List ar) (k:FuncId):Ab.im H (.func k [] cap)=.func k [] cap:=by
 simp only [Ab.im,h.hN,List.map_nil]
theorem Hp.SM {cap:List I} (h:Hp cap) (k:FuncId):ch 8 (.func k [] cap)=true:=by
 show (([]:List I).all (ch 7) && cap.all (ch 7))=true;rw [h.1];rfl
theorem Hp.nil:Hp []:=⟨rfl,by simp⟩
section
variable {P:Program}
theorem call6 {k:FuncId} {xs bs:List I} {H:List ar} {lo:Nat} {v:I} (ag:(xs.map (im H)).map I.cq=bs) (aB:(xs.map (im H)).all (ch 8)=true) (h:lC P k bs v) (ai:fw v=true):oJ P 6 lo (.fn k) xs H v.cq H:=by
 subst ag;refine ⟨k1 (.fn k) ((xs.map (im H)).map I.cq) [] 0 v [],Ew h.1,?_⟩;simp only [eZ,aB,Ev,sc,o9 h.2,ai]
end
theorem V3 {H:List ar} {id d:Nat} {l:List I} (h:H[id]?=some (.cells l)) (aB:(l.map I.view).all (ch d)=true):bI H 0 H.length 0 (d+1) (.ptr id 0)=some (.bT (l.map I.view)):=by
 have ad:=(sb.1 h).1;have af:d' (bI H 0 H.length 0 d) (l.map I.view)=some (l.map I.view):=zO fun u hu=>o9 (by rw [sv] at aB;exact aB u hu);simp only [bI,Nat.not_lt_zero,if_false,h,sV,af,sf];rw [if_neg (by omega)]
def idxOf {α:Type} (p:α→Bool):List α→Nat→Int
 | [],_ => -1
 | x::l,i=>if p x=true then i else idxOf p l (i+1)
end Go.Proofs.YtfakoboiahbhaaaGreat.Ab


namespace Go.Proofs.YtfakoboiahbhaaaGreat.Ab
open Go
section
variable {P:Program}
theorem RQ (eo:P.follows .mixedOrders=true) {k:Nat} {A:db} {rc:fT} {n:Nat} {ts:List jo} (ao:zD P A k=some (rc,n,ts)) {lo:Nat} {args T:List I} {H H':List ar} (bW:args++List.replicate (n-args.length) .junk=T) {v:I} (It:bb lo H H')
  (h:dO P A k lo none rc T H fun e fU H1=>(e=.normal∨e=.ret)∧lB H1 H'∧(j9 H1 fU ts).map hj=some v):Sem P (.fn k) args H lo v H':=by
 unfold zD at ao;split at ao
 ·rename_i f aP;split at ao
  ·rename_i c ag;split at ao
   ·rename_i G7 Gh ad af aG a5;simp only [Option.some.injEq,Prod.mk.injEq] at ao;obtain ⟨rfl,rfl,rfl⟩:=ao;subst bW;refine Hb eo aP ag (by simpa using af) ad It (m8 (fun e s aZ=>?_) (DV aG h));obtain ⟨ca,b5,en⟩:=aZ;simp only [sa] at en;obtain ⟨vs,en,iD⟩:=en;exact ⟨ca,b5,vs,by rw [xC _ _ a5,en],iD⟩
   ·cases ao
  ·cases ao
 ·cases ao
end
theorem HC {P:Program} (eo:P.follows .mixedOrders=true) {k:Nat} {A:db} {rc:fT} {n:Nat} {ts:List jo} (ao:zD P A k=some (rc,n,ts)) {lo:Nat} {args T:List I} {H H':List ar} (bW:args++List.replicate (n-args.length) .junk=T) {v:I} (It:bb lo H H')
  (h:∀ Q:cz→List I→List ar→Prop,(∀ e fU H1,(e=.normal∨e=.ret)∧lB H1 H'∧(j9 H1 fU ts).map hj=some v→Q e fU H1)→dO P A k lo none rc T H Q):Sem P (.fn k) args H lo v H' :=
 RQ eo ao bW It (h _ fun _ _ _ h=>h)
theorem IW {P:Program} {A:db} {fn:FuncId} {lo:Nat} {rl:Option Nat} {c:fT} {T:List I} {H:List ar} {K:cz→List I→List ar→Prop} (h:∀ K':cz→List I→List ar→Prop,(∀ e T H,K e T H→K' e T H)→dO P A fn lo rl c T H K'):dO P A fn lo rl c T H K:=h K fun _ _ _ h=>h
theorem HB {P:Program} {lo:Nat} {bZ:e_} {xs:List I} {H H':List ar} {v:I} (h:Sem P bZ xs H lo v H'):oJ P 1 lo bZ xs H v H' :=
 ⟨k1 bZ xs H lo v H',Ew h,by simp only [eZ,Ev]⟩
theorem XK {P:Program} {k:FuncId} {args:List I} {v:I} (cb:args.all (ch 8)=true) (h:lC P k args v) (H:List ar):Sem P (.fn k) args H H.length v H:=by
 obtain ⟨⟨_,ad,af⟩,aB⟩:=h
 exact ⟨bb.refl _ _,ad,fun B U J S w vs ah aN ae=>CallsIn.mono (af B _ [] S w vs (ze ah) (fun b i h=>by obtain ⟨_,_,h⟩:=lK h;cases h) (ae.pure cb)) fun e w' he=>by
  cases e with
  | returned v=>exact z9 ah (o9 (n:=0) aB) he
  | panicked c=>exact he.elim
  | outgrown=>exact he.elim⟩
theorem ab1 {P:Program} {k:FuncId} {args:List I} {v:I} (cb:args.all (ch 8)=true) (h:lC P k args v) (H:List ar) (lo:Nat):oJ P 0 lo (.fn k) args H v H :=
 ⟨_,Ew (XK cb h H),by simp only [eZ,Ev,sc,o9 h.2,sf]⟩
theorem qU {X Z:List ar} {j:Nat} {o:ar} (h:X[j]?=some o):(X++Z)[j]?=some o:=by
 rw [sy (sb.1 h).1];exact h
theorem rK (X:List ar) (c dU:ar):(X++[c]).set X.length dU=X++[dU]:=by simp
theorem I7 (X:List ar) (c:ar):(X++[c])[X.length]?=some c:=by simp
end Go.Proofs.YtfakoboiahbhaaaGreat.Ab


namespace Go.Proofs.YtfakoboiahbhaaaGreat.Ab
open Go
def p':Nat:=18446744073709551616
theorem rL {n:Nat} (h:n≤9223372036854775808):n<p':=by unfold p';omega
def p9 (p:Prop) [Decidable p] {aT:Type} (k:Option aT):Option aT:=if p then k else none
theorem qB {p:Prop} [Decidable p] {aT:Type} {k:Option aT} {v:aT} (h:p9 p k=some v):p∧k=some v:=by
 unfold p9 at h;split at h
 ·exact ⟨by assumption,h⟩
 ·cases h
theorem qg {p:Prop} [Decidable p] {aT:Type} {k:Option aT} (h:p):p9 p k=k:=if_pos h
theorem qj {α aT:Type} {x:Option α} {f:α→Option aT} {v:aT} (h:x.bind f=some v):∃ a,x=some a∧f a=some v:=by
 cases x with
 | none=>cases h
 | some a=>exact ⟨a,rfl,h⟩
theorem HY {b:Bool} {aT:Type} {x y:Option aT} {v:aT} (ag:b=true) (h:(if b=true then x else y)=some v):x=some v:=by
 rw [if_pos ag] at h;exact h
theorem HX {b:Bool} {aT:Type} {x y:Option aT} {v:aT} (ag:b=false) (h:(if b=true then x else y)=some v):y=some v:=by
 rw [if_neg (by rw [ag];decide)] at h;exact h
theorem LX (b:Bool):b=true∨b=false:=by cases b <;> simp
def ix {α:Type} [Inhabited α] (l:List α) (i:Int):α:=l.getD i.toNat default
theorem q3 {α:Type} [Inhabited α] {l:List α} {k:Nat} (h:k<l.length):ix l (k:Int)=l[k]:=by
 simp [ix,h]
theorem P3 {α:Type} [Inhabited α] {l:List α} {i:Int} (h:0≤i∧i<(l.length:Int)):ix l i=l[i.toNat]'(by omega):=by
 have:i.toNat<l.length:=by omega
 simp [ix,this]
abbrev w (n:Int):Int:=IntKind.i64.wrap n
theorem air {n:Int} (ad:-9223372036854775808≤n) (af:n≤9223372036854775807):w n=n:=IB n ad af
theorem ri {aT:Type} {v:aT} {G:Prop} (h:(none:Option aT)=some v):G:=by cases h
def aau {α:Type} (f:α→I) (l:List α):I:=.ax (l.map f) l.length .shared
def qJ {α:Type} (f:α→List I) (l:List α):I:=.ax (l.flatMap f) l.length .shared
theorem Hh {α:Type} [Inhabited α] (f:α→I) (l:List α) (n:Int) (h:0≤n∧n<(l.length:Int)):(l.map f).drop (n.toNat*1)=f (ix l n)::(l.drop (n.toNat+1)).map f:=by
 have aX:n.toNat<l.length:=by omega
 rw [tJ,←ug,sQ aX,sG,P3 h]
theorem q' {α:Type} [Inhabited α] (f:α→List I) (s:Nat) (ai:∀ x,(f x).length=s):∀ (l:List α) (n:Int),0≤n∧n<(l.length:Int)→(l.flatMap f).drop (n.toNat*s)=f (ix l n)++(l.drop (n.toNat+1)).flatMap f:=by
 have key:∀ (l:List α) (k:Nat) (h:k<l.length),(l.flatMap f).drop (k*s)=f l[k]++(l.drop (k+1)).flatMap f:=by
  intro l
  induction l with
  | nil=>intro k h;simp at h
  | cons x l a9 =>
    intro k h;cases k with
    | zero=>simp
    | succ k =>
      (have av:k<l.length:=by simpa using h);(have e:(k+1)*s=(f x).length+k*s:=by rw [ai,tn,vK,tf]);rw [ua,e,List.drop_length_add_append,a9 k av];rfl
 intro l n h;rw [key l n.toNat (by omega),P3 h]
theorem Im {α:Type} (f:α→List I) (s:Nat) (ai:∀ x,(f x).length=s) (l:List α):(l.flatMap f).length=l.length*s:=by
 induction l with
 | nil=>simp
 | cons x l a9=>rw [ua,sr,a9,ai,List.length_cons,tn,vK,tf]
theorem abL {α:Type} (f:α→I) (l m:List α) (c:hs):I.ax (l.map f++m.map f) (l.length+m.length) c=.ax ((l++m).map f) (l++m).length c:=by
 rw [s_,sr]
theorem LV {α:Type} (f:α→I) (l:List α) (x:α) (c:hs):I.ax (l.map f++[f x]) (l.length+1) c=.ax ((l++[x]).map f) (l++[x]).length c:=by
 rw [s_,sr];rfl
theorem LW {α:Type} (f:α→List I) (l:List α) (x:α) (c:hs):I.ax (l.flatMap f++f x) (l.length+1) c=.ax ((l++[x]).flatMap f) (l++[x]).length c:=by
 simp [wg]
theorem RA {α:Type} (f:α→List I) (l m:List α) (c:hs):I.ax (l.flatMap f++m.flatMap f) (l.length+m.length) c=.ax ((l++m).flatMap f) (l++m).length c:=by
 simp [wg]
theorem XO {α:Type} (f:α→I) (l:List α) (n:Int) (h:0≤n∧n≤(l.length:Int)) (c:hs):I.ax ((l.map f).take (n.toNat*1)) n.toNat c=.ax ((l.take n.toNat).map f) (l.take n.toNat).length c:=by
 rw [tJ,ta,←ue,tM (by omega)]
theorem KW {α:Type} [Inhabited α] (f:α→I) (l:List α) (n:Int) (h:0≤n∧n<(l.length:Int)) {K:I→Prop} (k:K (f (ix l n))):eH (l.map f) (0+n.toNat*1) K:=by
 have aX:n.toNat<l.length:=by omega
 refine Es (x:=f (ix l n)) ?_ k;rw [sS,tJ,ss,sm aX,P3 h];rfl
theorem LH {α:Type} (f:α→I) (l:List α) (n:Int) (x:α) (h:0≤n∧n<(l.length:Int)) {K:List I→Prop} (k:K ((l.set n.toNat x).map f)):ji (l.map f) (0+n.toNat*1) (f x) K:=by
 have aX:n.toNat<l.length:=by omega
 refine Bu (by simpa using aX) ?_;rw [sS,tJ,←uP];exact k
theorem Xw {α:Type} (f:α→I) (x:α):∀ n,e5 n [f x]=(List.replicate n x).map f
 | 0=>rfl
 | n+1=>by rw [e5,Xw f x n];rfl
theorem UN {a b:Bool} (h:a=true) (k:b=true):(a && b)=true:=by rw [h,k];rfl
theorem p1 {α:Type} {f:α→Bool} {x:α} {l:List α} (h:f x=true) (k:l.all f=true):(x::l).all f=true:=UN h k
theorem JY {cs:List I} {d:Nat} (h:cs.all (ch d)=true):ch (d+1) (.agg cs)=true:=h
theorem rj {cs:List I} {d:Nat} (h:cs.all (ch d)=true):ch (d+1) (.bT cs)=true:=h
theorem Jb {cs:List I} {d:Nat} (h:cs.all (ch d)=true):ch (d+1) (.tuple cs)=true:=h
theorem Kl {k:FuncId} {a b:List I} {d:Nat} (ad:a.all (ch d)=true) (af:b.all (ch d)=true):ch (d+1) (.func k a b)=true:=UN ad af
theorem rX {α:Type} {f:α→I} {d:Nat} (h:∀ x,ch d (f x)=true) (l:List α) (n:Nat) (c:hs):ch (d+1) (.ax (l.map f) n c)=true:=by
 show (l.map f).all (ch d)=true;rw [sv];intro u hu;obtain ⟨x,_,rfl⟩:=sk.1 hu;exact h x
theorem q8 {α:Type} {f:α→List I} {d:Nat} (h:∀ x,(f x).all (ch d)=true) (l:List α) (n:Nat) (c:hs):ch (d+1) (.ax (l.flatMap f) n c)=true:=by
 show (l.flatMap f).all (ch d)=true;rw [sv];intro u hu;obtain ⟨x,_,ak⟩:=vi.1 hu;exact sv.1 (h x) u ak
theorem Qb {α:Type} {f:α→I} {d:Nat} (h:∀ x,ch d (f x)=true) (l:List α):(l.map f).all (ch d)=true:=by
 rw [sv];intro u hu;obtain ⟨x,_,rfl⟩:=sk.1 hu;exact h x
theorem lC.cq {P:Program} {k:FuncId} {args:List I} {v:I} (h:lC P k args v) (aB:ch 8 v.cq=true):lC P k args v.cq :=
 ⟨⟨h.1.1,h.1.2.1,fun B U J S w vs ah aN ae=>CallsIn.mono (h.1.2.2 B U J S w vs ah aN ae) fun e w' he=>by
   cases e with
   | returned x=>exact a0.cq he
   | panicked c=>exact he.elim
   | outgrown=>exact he.elim⟩,aB⟩
section
variable {P:Program} {B:Nat} {J:List Nat} {w:World} {U:Nat→Option aH} {S:Nat→Nat→Prop}
theorem a0.YR {H':List ar} {r:I} {v:Value} {w':World} (h:a0 B U J S w H' r v w'):a0 B U J S w H' r.settle.view.cq v w':=by
 have ad:a0 B U J S w H' r.settle v w':=by
  cases r with
  | ax c n k=>cases k with
    | uniq z=>exact h.settle
    | _=>exact h
  | _=>exact h
 have af:r.settle.cQ=true:=by
  cases r with
  | ax c n k=>cases k <;> rfl
  | _=>rfl
 obtain ⟨bq,cj,bK,a,b,c,d,e⟩:=ad;exact a0.cq ⟨bq,cj,bK,a,b,c,d.view af,aV.b3 (I.dg _)⟩
theorem afX (eo : P.follows .mixedOrders = true) {k : Nat} {f : Func} {c : Code} (aP : P.funcs[k]? = some f) (ag : f.body = some c) (aN : f.name ≠ "runtime.NumGoroutine") {A : db} (bP : codeOk A c = true)
  {args:List I} {v:I} (aB:ch 8 v=true)
  (h:c8 P A k 0 none c 0 ⟨args++List.replicate (f.ntmps-args.length) .junk,[]⟩ fun e s=>(e=.normal∨e=.ret)∧∃ vs r,fk P s.H s.T f.results.toList=some vs∧bI s.H 0 s.H.length 0 8 (hj vs)=some r∧r.settle.view.cq=v):lC P k args v:=by
 refine ⟨⟨bb.refl _ _,⟨f,aP,by simp [ag],aN⟩,fun B U J S w xs ah _ ae=>?_⟩,aB⟩;refine callsIn_of_wp_marks aP ag trivial ?_;have aL:=x5 ah ae f.ntmps;have dv:=(oE ah).1;refine By eo c 0 _ _ h bP Fence.wide _ B w.heap.size J w (hP U) S _ (.inl ⟨rfl,rfl⟩) (fun l a w aO=>aO.elim) aL fun e s av aM w' ai=>?_;obtain ⟨he,vs,r,aj,C0,eD⟩:=av;obtain ⟨b4,c0,a7,aJ,aQ,cf⟩:=ai;have iK:LeavesInM Fence.wide 0 P f aM.tmps (fS B U J S w [] v) aM.defers .returning w':=by
  refine nW (U:=b4) (S:=a7) (J:=c0) (B:=B) (H:=s.H) (lA:=U) (S0:=S) (w0:=w) aM.defers w' cf.M.2.1 cf.M.2.2 (dv.trans aQ) cf.H fun bX dy dm mB mC=>?_
  have bW:a8 .slot b4 c0 a7 bX s.T aM.tmps.toList:=⟨cf.T.len,fun i u v hu ae=>(cf.T.rel i u v hu ae).mono (Ext.refl _) (fun b o h=>⟨h,dm b o h⟩),fun i u v hu ae =>
   (cf.T.own i u v hu ae).mono (Ext.refl _) (fun b o h=>⟨h,dm b o h⟩) fun b ag=>⟨ag,dy b _ ag,fun _ h=>h⟩⟩
  obtain ⟨x,q1,aW⟩:=xI mC bW aj;have kI:=xz ah (fun id aE=>by simp at aE) C0 (a0.after aJ mB aW);refine ⟨x,q1,?_⟩;rw [←eD];exact kI.YR
 rcases he with rfl | rfl
 ·exact iK
 ·exact iK
end
inductive ID (rs:List jo) (v:I) (e:cz) (T:List I) (H:List ar):Prop where
 | mk (he:e=.normal∨e=.ret) (vs:List I) (aj:j9 H T rs=some vs) (r:I) (aP:bI H 0 H.length 0 8 (hj vs)=some r) (ae:r.settle.view.cq=v)
theorem q7 {P:Program} (eo:P.follows .mixedOrders=true) {k:Nat} {A:db} {rc:fT} {n:Nat} {ts:List jo} (ao:zD P A k=some (rc,n,ts)) {args T:List I} (bW:args++List.replicate (n-args.length) .junk=T) {v:I} (aB:ch 8 v=true)
  (h:∀ Q:cz→List I→List ar→Prop,(∀ e T H,ID ts v e T H→Q e T H)→dO P A k 0 none rc T [] Q):lC P k args v:=by
 have h:=h _ fun _ _ _ h=>h;unfold zD at ao;split at ao
 ·rename_i f aP;split at ao
  ·rename_i c ag;split at ao
   ·rename_i G7 Gh ad af aG a5;simp only [Option.some.injEq,Prod.mk.injEq] at ao;obtain ⟨rfl,rfl,rfl⟩:=ao;subst bW;have aZ:∀ e s,ID Gh v e (a6.T s) (a6.H s)→(e=.normal∨e=.ret)∧∃ vs r,fk P s.H s.T f.results.toList=some vs∧bI s.H 0 s.H.length 0 8 (hj vs)=some r∧r.settle.view.cq=v:=fun e s ⟨ca,vs,Cr,r,b5,en⟩=>by
     exact ⟨ca,vs,r,by rw [xC _ _ a5,Cr],b5,en⟩
    exact afX eo aP ag (by simpa using af) ad aB (m8 aZ (DV aG h))
   ·cases ao
  ·cases ao
 ·cases ao
theorem wp_loop {P:Program} {A:db} {fn:FuncId} {lo:Nat} {rl:Option Nat} {cC:List Bool} {c:fT} {T UH:List I} {H:List ar} {Q:cz→List I→List ar→Prop} (bW:eX cC T=UH)
  (h:BH (fun T H Q=>n6 T fun T=>dO P A fn lo rl c T H fun e a' H'=>match e with
   | .normal=>xl (some cC) a' fun a'=>Q .normal a' H'
   | e=>Q e a' H') UH H Q):dO P A fn lo rl (.loop (some cC) c) T H Q:=by
 show xl (some cC) T _;rw [DP];subst bW;exact h
def P8 {α:Type} (f:α→List I):Option α→I
 | none=>.eG
 | some x=>.bT (f x)
theorem Xe {α:Type} {f:α→List I} {d:Nat} (h:∀ x,(f x).all (ch d)=true) (x:Option α):ch (d+1) (P8 f x)=true:=by
 cases x with
 | none=>rfl
 | some x=>exact h x
theorem WV {f:I→Option I}:d' f []=some []:=rfl
theorem WU {f:I→Option I} {x y:I} {l r:List I} (h:f x=some y) (k:d' f l=some r):d' f (x::l)=some (y::r):=by simp only [d',h,k,sf]
theorem I2 {P:Program} {k:FuncId} {xs cs bs:List I} {H:List ar} {lo:Nat} {v:I} (ai:xs.map (im H)=cs) (ag:cs.map I.cq=bs) (aB:cs.all (ch 8)=true) (h:lC P k bs v) (ae:fw v=true):oJ P 6 lo (.fn k) xs H v.cq H :=
 call6 (by rw [ai,ag]) (by rw [ai];exact aB) h ae
theorem ru {f:I→I} {x y:I} {l r:List I} (h:f x=y) (k:l.map f=r):(x::l).map f=y::r:=by rw [sG,h,k]
theorem rY {f:I→I}:([]:List I).map f=[]:=rfl
theorem K0 {H:List ar} {k:FuncId} {a b aM au:List I} (ad:a.map (hN H)=aM) (af:b.map (hN H)=au):im H (.func k a b)=.func k aM au:=by simp only [im,ad,af]
theorem J3 {H:List ar} {id off:Nat} {cs ds:List I} (ah:H[id]?=some (.cells cs)) (he:((cs.drop off).map I.view).map (kb H)=ds):hN H (.ptr id off)=.bT ds:=by simp only [hN,ah,he]
def H9 {α Kx:Type} (g:Kx→α→Option Kx):List α→Kx→Option Kx
 | [],s=>some s
 | x::l,s=>(g s x).bind fun t=>H9 g l t
theorem PF {α Kx:Type} {g:Kx→α→Option Kx}:∀ {l:List α} {s t:Kx},H9 g l s=some t→∃ F:Nat→Kx,F 0=s∧F l.length=t∧∀ (i:Nat) (h:i<l.length),g (F i) l[i]=some (F (i+1))
 | [],s,t,h=>⟨fun _=>s,rfl,Option.some.inj h,fun i hi=>absurd hi (by simp)⟩
 | x::l,s,t,h=>by
   obtain ⟨u,ad,af⟩:=qj h;obtain ⟨F,f1,f2,f3⟩:=PF af;refine ⟨fun i=>match i with | 0=>s | i+1=>F i,rfl,f2,fun i hi=>?_⟩;cases i with
   | zero=>show g s x=some (F 0);rw [f1,ad]
   | succ i=>exact f3 i (by simpa using hi)
def Seq (P:Program) (k:FuncId) (cap:List I) (E:List I):Prop :=
 ∀ (l N:Nat) (rv:Nat→List ar),(∀ i,(rv i).length=N)→l<N →
   (∀ (i:Nat) (h:i<E.length) (Y:List ar),∃ re,Sem P (.yield l) [E[i]] (rv i++Y) 0 (.bool true) (rv (i+1)++re)) →
   ∀ Y,∃ re,Sem P (.fn k) (.yield l::cap) (rv 0++Y) 0 (.tuple []) (rv E.length++re)
theorem Oz {H X:List ar} (h:H.length≤X.length):bb 0 H X:=⟨h,fun _ h _=>absurd h (by omega)⟩
theorem XN (X Y:List ar) (c d:ar):((X++[c])++Y).set X.length d=(X++[d])++Y:=by
 rw [sD,List.set_append_right _ _ (sd _)];simp
theorem N' (X Y:List ar) (c:ar):((X++[c])++Y)[X.length]?=some c:=by
 rw [sD,sJ (sd _)];simp
theorem agS {α:Type} {P:Program} {A:db} {fn:FuncId} {rl:Option Nat} {k:FuncId} {cap:List I} {bn:List Nat} {gy cp:Code} {T:List I} {H Hn:List ar} {Q:cz→List I→List ar→Prop} {f:α→I} {L:List α} (Ot:Seq P k cap (L.map f))
  (Obj:Nat→List ar) (aU:Obj 0=H) (hlen:∀ i,(Obj i).length=H.length)
  (Oq:∀ (i:Nat) (h:i<L.length) (Y:List ar),∃ re,Sem P (.yield H.length) [f L[i]] ((Obj i++[.loop .ready none fn (T.map I.view) bn gy cp A])++Y) 0 (.bool true) ((Obj (i+1)++[.loop .ready none fn (T.map I.view) bn gy cp A])++re))
  (g4:inLoop H rl=true) (aN:Obj L.length=Hn) (bo:∀ re,Q .normal (T.map I.settle) ((Hn++[.dead])++re)):ot P A fn 0 rl (.func k [] cap) bn gy cp T H Q:=by
 obtain ⟨re,cl⟩:=Ot H.length (H.length+1) (fun i=>Obj i++[.loop .ready none fn (T.map I.view) bn gy cp A]) (fun i=>by simp [hlen]) (by omega) (fun i h Y=>by
  have aX:i<L.length:=by simpa using h
  obtain ⟨re,aj⟩:=Oq i aX Y
  exact ⟨re,by rw [List.getElem_map];exact aj⟩) []
 subst aN;simp only [sW,sX,aU] at cl;have ao:(Obj L.length).length=H.length:=hlen _;refine ⟨g4,.tuple [],_,.ready,none,fn,T.map I.view,bn,gy,cp,A,cl,by rw [←ao];exact N' _ _ _,by decide,?_⟩;show Q .normal (T.map I.settle) (((Obj L.length++[ar.loop .ready none fn (T.map I.view) bn gy cp A])++re).set H.length .dead);rw [←ao,XN];exact bo re
end Go.Proofs.YtfakoboiahbhaaaGreat.Ab


namespace Go.Proofs.YtfakoboiahbhaaaGreat.Ab
open Go
theorem acV {H:List ar} {lo i n d:Nat} {k:FuncId} {a b aM au:List I} (ad:d' (bI H lo i n d) a=some aM) (af:d' (bI H lo i n d) b=some au):bI H lo i n (d+1) (.func k a b)=some (.func k aM au):=by simp only [bI,ad,af]
theorem Xz {α:Type} {P:Program} {A:db} {fn:FuncId} {rl:Option Nat} {k:FuncId} {cap:List I} {t:Nat} {bn:List Nat} {gy cp:Code} {T:List I} {H Hn:List ar} {Q:cz→List I→List ar→Prop} {f:α→I} {L:List α} (Ot:Seq P k cap (L.map f))
  (Obj:Nat→List ar) (ay:c3 T t=.func k [] cap) (aU:Obj 0=H) (hlen:∀ i,(Obj i).length=H.length)
  (Oq:∀ (i:Nat) (h:i<L.length) (Y:List ar),∃ re,Sem P (.yield H.length) [f L[i]] ((Obj i++[.loop .ready none fn (T.map I.view) bn gy cp A])++Y) 0 (.bool true) ((Obj (i+1)++[.loop .ready none fn (T.map I.view) bn gy cp A])++re))
  (g4:inLoop H rl=true) (aN:Obj L.length=Hn) (bo:∀ re,Q .normal (T.map I.settle) ((Hn++[.dead])++re)):dO P A fn 0 rl (.AL (.sl t) bn gy cp) T H Q:=by
 show hy T t _;rw [iE,ay];exact agS Ot Obj aU hlen Oq g4 aN bo
end Go.Proofs.YtfakoboiahbhaaaGreat.Ab


namespace Go.Proofs.YtfakoboiahbhaaaGreat.Ab
open Go
theorem acR {α:Type} [Inhabited α] (f:α→List I) (s:Nat) (ai:∀ x,(f x).length=s) (l:List α) (n:Int) (h:0≤n∧n<(l.length:Int)) (j:Nat) (aw:j<s):(l.flatMap f)[n.toNat*s+j]?=(f (ix l n))[j]?:=by
 have e:=q' f s ai l n h
 have:(l.flatMap f)[n.toNat*s+j]?=((l.flatMap f).drop (n.toNat*s))[j]?:=by rw [sZ]
 rw [this,e,sy (by rw [ai];exact aw)]
theorem agJ {α:Type} [Inhabited α] (f:α→List I) (s:Nat) (ai:∀ x,(f x).length=s) (l:List α) (n:Int) (h:0≤n∧n<(l.length:Int)) (j:Nat) {v:I} (aw:(f (ix l n))[j]?=some v) {K:I→Prop} (k:K v):eH (l.flatMap f) (0+n.toNat*s+j) K:=by
 refine Es (x:=v) ?_ k;rw [sS,acR f s ai l n h j (by have:=(sb.1 aw).1;rw [ai] at this;exact this),aw]
theorem agK {α:Type} [Inhabited α] (f:α→List I) (s:Nat) (ai:∀ x,(f x).length=s) (l:List α) (n:Int) (h:0≤n∧n<(l.length:Int)) {v:I} (aw:(f (ix l n))[0]?=some v) {K:I→Prop} (k:K v):eH (l.flatMap f) (0+n.toNat*s) K :=
 agJ f s ai l n h 0 aw k
theorem acW {P:Program} {C:b7} {lo id n:Nat} {cap:Option Nat} {o:Oper} {x:Operand} {H:List ar} {cs:List I} {sz:Nat} (aq:o.op=.move x) (bB:lo≤id) (ah:H[id]?=some (.cells cs)) (aN:cs.length=n*sz) (ae:∀ u∈cs,u.view=u) :
  a4 P C lo o 2 [.ref id 0 n cap sz] H=some (.ax cs n (g0 cap n),H.set id .dead):=by
 unfold a4;rw [aq];show eV P lo 2 o.type x H [.ref id 0 n cap sz]=_;unfold eV;simp only [bB,if_true,rowOf,ah,lenOf,sS];have e:cs.map I.view=cs:=(tz (g:=fun u=>u) ae).trans (List.map_id' cs);rw [if_pos (by omega),sV,tT (by omega),e];rfl
theorem acX {P:Program} {C:b7} {lo id n m:Nat} {cap:Option Nat} {o:Oper} {x:Operand} {H:List ar} {cs:List I} {sz:Nat} (aq:o.op=.move x) (bB:lo≤id) (ah:H[id]?=some (.cells cs)) (Dj:n=m) (aN:cs.length=m*sz) (ae:∀ u∈cs,u.view=u) :
  a4 P C lo o 2 [.ref id 0 n cap sz] H=some (.ax cs m (g0 cap m),H.set id .dead):=by
 subst Dj;exact acW aq bB ah aN ae
theorem ah1 {α:Type} {f:α→I} (h:∀ x,(f x).view=f x) (l:List α):∀ u∈l.map f,u.view=u:=fun u hu=>by
 obtain ⟨x,_,rfl⟩:=sk.1 hu;exact h x
end Go.Proofs.YtfakoboiahbhaaaGreat.Ab


namespace Go.Proofs.YtfakoboiahbhaaaGreat.Ab
open Go
theorem HT {n:Int} (h:-9223372036854775808≤n∧n≤9223372036854775807):w n=n:=air h.1 h.2
theorem rG (i:Nat) (h:i≤9223372036854775806):w ((i:Int)+1)=((i+1:Nat):Int):=Ho i h
theorem I' {i n:Nat} {aT:Type} {x y:Option aT} (h:i<n):(if (decide ((i:Int)<(n:Int)))=true then x else y)=x:=by rw [if_pos (decide_eq_true (by omega))]
theorem I_ {i n:Nat} {aT:Type} {x y:Option aT} (h:¬ i<n):(if (decide ((i:Int)<(n:Int)))=true then x else y)=y:=by rw [if_neg (by rw [decide_eq_true_eq];omega)]
theorem Hy {i n:Nat} {aT:Type} {x:Option aT} (h:i<n):p9 (0≤(i:Int)∧(i:Int)<(n:Int)) x=x:=qg ⟨by omega,by omega⟩
end Go.Proofs.YtfakoboiahbhaaaGreat.Ab


namespace Go.Proofs.YtfakoboiahbhaaaGreat.Ab
open Go
def p2 (p:Int×Int):List I:=[hU p.1,hU p.2]
theorem qy (p:Int×Int):(p2 p).length=2:=rfl
theorem VW {α:Type} (f:α→List I) (s:Nat) (ai:∀ x,(f x).length=s):∀ (l:List α) (k:Nat),k≤l.length→(l.flatMap f).drop (k*s)=(l.drop k).flatMap f
 | l,0,_=>by rw [vt,sV,sV]
 | [],k+1,h=>absurd h (by simp)
 | x::l,k+1,h=>by
   (have e:(k+1)*s=(f x).length+k*s:=by rw [ai,tn,vK,tf]);rw [ua,e,List.drop_length_add_append,VW f s ai l k (by simpa using h),List.drop_succ_cons]
theorem VY {α:Type} (f:α→List I) (s:Nat) (ai:∀ x,(f x).length=s):∀ (l:List α) (k:Nat),k≤l.length→(l.flatMap f).take (k*s)=(l.take k).flatMap f
 | l,0,_=>by rw [vt,tj,tj];rfl
 | [],k+1,h=>absurd h (by simp)
 | x::l,k+1,h=>by
   (have e:(k+1)*s=(f x).length+k*s:=by rw [ai,tn,vK,tf]);rw [ua,e,List.take_length_add_append,VY f s ai l k (by simpa using h),wh,ua]
theorem Nr {α:Type} (f:α→List I) (s:Nat) (ai:∀ x,(f x).length=s) (l:List α) (n:Int) (h:0≤n∧n≤(l.length:Int)) (c:hs):I.ax ((l.flatMap f).take (n.toNat*s)) n.toNat c=.ax ((l.take n.toNat).flatMap f) (l.take n.toNat).length c:=by
 rw [VY f s ai l _ (by omega),ta,tM (by omega)]
theorem TZ {α:Type} (f:α→List I) (s:Nat) (ai:∀ x,(f x).length=s) (l:List α) (n:Int) (h:0≤n∧n≤(l.length:Int)) (c:hs):I.ax (((l.flatMap f).drop (n.toNat*s)).take ((l.length-n.toNat)*s)) (l.length-n.toNat) c=.ax ((l.drop n.toNat).flatMap f) (l.drop n.toNat).length c:=by
 rw [VW f s ai l _ (by omega),tE,tT (by rw [Im f s ai,tE];exact sd _)]
theorem aha {α:Type} (f:α→I) (l:List α) (n:Int) (h:0≤n∧n≤(l.length:Int)) (c:hs):I.ax ((l.map f).drop (n.toNat*1)) (l.length-n.toNat) c=.ax ((l.drop n.toNat).map f) (l.drop n.toNat).length c:=by
 rw [tJ,tE,←ug]
theorem VO (k:IntKind):∀ (xs ys:List Int),xs.length=ys.length→dJ (xs.map (.int k)) (ys.map (.int k))=some (decide (xs=ys))
 | [],[],_=>rfl
 | x::xs,y::ys,h=>by
   simp only [sG,dJ,if_true,VO k xs ys (by simpa using h),sf];congr 1;by_cases ak:x=y <;> by_cases ao:xs=ys <;> simp [ak,ao]
 | [],y::ys,h=>by cases h
 | x::xs,[],h=>by cases h
theorem aaw {P:Program} {t e:TypeId} {len:Nat} {kd:IntKind} (k:IntKind) (ad:P.underlying t=some (.array len e)) (af:P.underlying e=some (.int kd)) (aG:bC P e=some 1) (a5:P.eqGuardType P.depth t=false) {xs ys:List Int} (ak:xs.length=len) (aY:ys.length=len) :
  fm P .eql t (.agg (xs.map (.int k))) (.agg (ys.map (.int k)))=some (.bool (decide (xs=ys))):=by
 unfold fm;simp only [ad,af,aG];rw [if_pos ⟨by simp [ak],by simp [aY],a5⟩,VO k xs ys (by rw [ak,aY]),sf]
theorem afC {P:Program} {C:b7} {lo:Nat} {o:Oper} {op:BinOp} {t u:TypeId} {a b:Operand} {x y v:I} {H:List ar} (aq:o.op=.binOp op t a b u) (aN:iP b=false) (h:fm P op t x y=some v):a4 P C lo o 0 [x,y] H=some (v,H):=by
 unfold a4;rw [aq];show (cw P o [x,y]).map _=_;unfold cw;rw [aq];simp only [aN];show (fm P op t x y).map _=_;rw [h];rfl
end Go.Proofs.YtfakoboiahbhaaaGreat.Ab


namespace Go.Proofs.YtfakoboiahbhaaaGreat.Ab
open Go
section
variable {P:Program} {B N:Nat} {J:List Nat} {w:World} {H:List ar} {U:Nat→Option aH} {S:Nat→Nat→Prop}
theorem aiw (eo:P.follows .mixedOrders=true) {l lo:Nat} {fn:FuncId} {T a':List I} {bn:List Nat} {gy cp:Code} {an:db} {args:List I} {H':List ar} {id:Nat}
  (ao:H[l]?=some (.loop .ready none fn T bn gy cp an)) (eD:il bn args T=some a') (It:bb lo H H')
  (h:c8 P an fn lo (some l) gy 0 ⟨a',H⟩ fun e s1=>e=.normal∧s1.H[l]?=some (.loop .ready none fn T bn gy cp an) ∧
   c8 P an fn lo (some l) cp 0 ⟨s1.T,s1.H.set l (.loop .busy none fn T bn gy cp an)⟩ fun e s2=>e=.exit id∧s2.H[l]?=some (.loop .busy none fn T bn gy cp an)∧lB (s2.H.set l (.loop .done (some (.exit id)) fn T bn gy cp an)) H') :
  Sem P (.yield l) args H lo (.bool false) H':=by
 refine ⟨It,fun B U J S w xs b ah _ ae ag=>?_⟩;obtain ⟨a_,ba,au,L,aC,aI,aR,bk,bc,bf,c9,dr,dS,gw,BK⟩:=ah.obj l _ ao;rw [ag] at aC;cases aC;have cB:=A7 bn args T a' xs L.tmps.toList eD ae.len (by simpa using c9.symm);obtain ⟨ca,b5,en,iD⟩:=cB;refine ⟨L,aR,by rw [←ae.len,←ca,←dS];simp,?_⟩;refine roundIn_of_wpIn trivial ?_;have xa:(iY L xs).toList=(bn.zip xs).foldl (fun (l:List Value) (p:Nat×Value)=>l.set p.1 p.2) L.tmps.toList:=by rw [E_,dS]
 obtain ⟨dv,gC⟩:=Gg bn ah;have aL:cv B w.heap.size (jg bn U) J S w ⟨a',H⟩ { tmps:=iY L xs,defers:=[] }:=by
  refine ⟨?_,gC,sd _,fun d a2=>by simp at a2,List.Pairwise.nil⟩;simp only [xa];have key:∀ (i:Nat) (u:I) (x:Value),a'[i]?=some u→((bn.zip xs).foldl (fun (l:List Value) (p:Nat×Value)=>l.set p.1 p.2) L.tmps.toList)[i]?=some x →
    Rel J S w u x∧aV (jg bn U) J S w (.slot i) u x:=fun i u x hu ak=>by
   rcases iD i u x hu ak with ⟨aJ,aQ⟩ | ⟨j,aJ,aQ,cn⟩
   ·obtain ⟨bR,bY⟩:=dr i u x aJ (by simpa using aQ);exact ⟨bY,aV.b3 bR⟩
   ·exact ⟨ae.rel j u x aQ cn,(ae.own j u x aQ cn).mono (Ext.refl J) (fun _ _ h=>⟨h,rfl⟩) fun b ag=>⟨by simp [jg,ag,aJ],rfl,fun _ h=>h⟩⟩
  exact ⟨by rw [b5,en,←c9];simp,fun i u x hu ak=>(key i u x hu ak).1,fun i u x hu ak=>(key i u x hu ak).2⟩
 rw [gw,BK];refine By eo gy 0 _ _ h a_ _ _ B w.heap.size J w (jg bn U) S _ (.inr ⟨l,b,rfl,ag,rfl⟩) (fun l a w aO=>aO) aL fun e1 s1 av aC bG ai=>?_;obtain ⟨rfl,jM,af⟩:=av;obtain ⟨b4,c0,a7,aJ,aQ,cf⟩:=ai;have gD:c0[l]?=some b:=aJ _ _ ag;obtain ⟨_,_,au,oL,d1,d2,d3,d4,d5,_⟩:=cf.H.obj l _ jM;rw [gD] at d1;cases d1;obtain ⟨ek,Cx⟩:=cf.loop jM gD d3 .busy none;have CK:(Instr.beginRound b).run P bG=.ok () (bG.putObj b (.loop { oL with state:=.busy,pending:=none })):=by
  rw [run_beginRound d3 d4]
  have:({ oL with state:=.busy,pending:=none }:Loop)={ oL with state:=.busy }:=by rw [←d5]
  rw [this]
 refine ⟨_,CK,?_⟩;refine wpIn_mono (Q:=fun cW aM w'=>(∀ t,cW≠Exit.goto t)∧roundPost P b (fS B U J S w H' (.bool false)) cW aM w') ?_ (fun e a w h=>h.2);refine By eo cp 0 _ _ af ba _ _ B w.heap.size c0 _ b4 a7 _ (.inr ⟨l,b,rfl,gD,rfl⟩) (fun l a w aO=>aO.1 l rfl) Cx fun b' s2 av aI bX ai=>?_;obtain ⟨rfl,gb,nC⟩:=av;obtain ⟨bq,cj,bK,cn,mD,yQ⟩:=ai;have gE:cj[l]?=some b:=cn _ _ gD;obtain ⟨_,_,au,jm,f1,f2,f3,f4,f5,_⟩:=yQ.H.obj l _ gb;rw [gE] at f1;cases f1;have lW:bh U S w bq bK bX:=((dv.trans aQ).trans ek).trans mD;refine ⟨fun t ay=>(by cases ay),?_⟩;refine ⟨_,_,run_endRound (some (.exit id)) f3,?_⟩;obtain ⟨Ck,Cy⟩:=yQ.loop gb gE f3 .done (some (.exit id));exact a0.o6 nC ⟨bq,cj,bK,aJ.trans cn,lW.trans Ck,Cy.H,.bool _,aV.b3 rfl⟩
theorem ag7 (eo:P.follows .mixedOrders=true) {l lo:Nat} {fn:FuncId} {T a':List I} {bn:List Nat} {gy cp:Code} {an:db} {args:List I} {H':List ar} {id:Nat} {oc od:fT}
  (cb:eg P an gy 0=some oc) (ag:eg P an cp 0=some od)
  (ao:H[l]?=some (.loop .ready none fn T bn gy cp an)) (eD:il bn args T=some a') (It:bb lo H H')
  (h:dO P an fn lo (some l) oc a' H fun e fU H1=>e=.normal∧H1[l]?=some (.loop .ready none fn T bn gy cp an) ∧
   dO P an fn lo (some l) od fU (H1.set l (.loop .busy none fn T bn gy cp an)) fun e dR a3=>e=.exit id∧a3[l]?=some (.loop .busy none fn T bn gy cp an)∧lB (a3.set l (.loop .done (some (.exit id)) fn T bn gy cp an)) H') :
  Sem P (.yield l) args H lo (.bool false) H' :=
 aiw eo ao eD It (m8 (fun e s aZ=>⟨aZ.1,aZ.2.1,DV ag aZ.2.2⟩) (DV cb h))
end
theorem Mk (X Y:List ar) (a b d:ar):(((X++[a])++Y)++[b]).set X.length d=(((X++[d])++Y)++[b]):=by
 rw [List.set_append_left _ _ (by simp),XN]
theorem KG (X Y:List ar) (a b:ar):(((X++[a])++Y)++[b])[X.length]?=some a:=by
 rw [sy (by simp),N']
theorem acO (X:List ar) (b:ar):lB (X++[b]) (X++[.dead]):=by
 refine ⟨by simp,fun id o h=>?_⟩;rcases sT id X.length with ao | ao
 ·rw [sy ao] at h ⊢;exact .inr h
 ·rw [sJ ao] at h;cases av:id-X.length with
  | zero=>rw [av] at h;simp at h;exact .inl h.symm
  | succ k=>rw [av] at h;simp at h
theorem PB (X Y:List ar) (a b:ar):lB (((X++[a])++Y)++[b]) ((X++[a])++(Y++[.dead])):=by
 rw [←sD];exact acO _ b
end Go.Proofs.YtfakoboiahbhaaaGreat.Ab


namespace Go.Proofs.YtfakoboiahbhaaaGreat.Ab
open Go
theorem T8 {α:Type} {f:α→I} (h:∀ x,(f x).view=f x) (l:List α):(l.map f).map I.view=l.map f:=by rw [tp];exact tz fun x _=>h x
theorem Sz {α:Type} (f:α→I) (l:List α) {n:Nat} (aP:∀ x,(f x).view=f x) (h:l.length=n):(((l.map f).drop 0).take n).map I.view=l.map f:=by
 rw [sV,tT (by simp [h]),T8 aP]
theorem aax {P:Program} {t e:TypeId} {len:Nat} {kd k:IntKind} {xs:List Int} {n:Int} (ad:P.underlying t=some (.array len e)) (af:P.underlying e=some (.int kd)) (aG:bC P e=some 1) (a5:dG P e=false) (ao:xs.length=len) (aN:0≤n∧n<(len:Int)) :
  oO P t (.agg (xs.map hU)) (.int k n)=some (hU (ix xs n)):=by
 unfold oO;have bL:gW n len=some n.toNat:=by unfold gW;rw [if_pos aN]
 simp only [ad,aG,bL,sc,tJ];unfold iy;simp only [af,a5];have aS:n.toNat<xs.length:=by omega
 rw [ss,sm aS,sf,P3 (by omega)]
theorem afD {P:Program} {C:b7} {lo:Nat} {o:Oper} {t:TypeId} {a b:Operand} {x y v:I} {H:List ar} (aq:o.op=.index t a b) (h:oO P t x y=some v) (ae:v.view=v:=by rfl):a4 P C lo o 0 [x,y] H=some (v,H):=by
 unfold a4;rw [aq];show (cw P o [x,y]).map _=_;unfold cw;rw [aq];show ((oO P t x y).map I.view).map _=_;rw [h,sf,sf,ae]
theorem W3 {P:Program} {C:b7} {lo:Nat} {o:Oper} {t e:TypeId} {a:Operand} {id len:Nat} {H:List ar} (aq:o.op=.slice t a none none none) (ad:P.underlying t=some (.array len e)) (af:bC P e=some 1) (aU:0<len):a4 P C lo o 0 [.ptr id 0] H=some (.ref id 0 len (some len) 1,H):=by
 unfold a4;rw [aq];show (cw P o [.ptr id 0]).map _=_;unfold cw;rw [aq];show (eh P t none none none [.ptr id 0]).map _=_;unfold eh;simp only [I.view,eY,ad,af,dn,cG,sc];rw [if_neg (by omega)];rfl
theorem SJ {P:Program} {C:b7} {lo mode:Nat} {o:Oper} {xs:Array Operand} {ts:Array TypeId} {vs:List I} {H:List ar} (aq:o.op=.call { callee:=.builtin .clear,args:=xs,argTypes:=ts }):a4 P C lo o mode vs H=k3 P lo ts H vs:=by
 unfold a4;rw [aq];rfl
theorem Xx (z:I):∀ n:Nat,e5 n [z]=List.replicate n z
 | 0=>rfl
 | n+1=>by rw [e5,Xx z n];rfl
theorem VA {P:Program} {lo id n:Nat} {H:List ar} {l:List Int} {cap:Option Nat} {e:TypeId} {ts:Array TypeId} (e1:(ts[0]?).bind P.underlying=some (.slice e)) (b':bC P e=some 1) (du:zeroCells P e=some [.int .i64 0]) (bB:lo≤id)
  (ah:H[id]?=some (.cells (l.map hU))) (aN:l.length=n):k3 P lo ts H [.ref id 0 n cap 1]=some (.tuple [],H.set id (.cells ((List.replicate n (0:Int)).map hU))):=by
 have lT:setCells 0 (e5 n [I.int .i64 0]) (l.map hU)=(List.replicate n (0:Int)).map hU:=by
  apply tH;intro j;rw [m3 _ _ _ _ (by rw [ih];simp;omega),ih,Xx];simp only [List.length_singleton,tJ,sS,vC];by_cases aw:j<n
  ·rw [if_pos ⟨by omega,aw⟩];simp [aw]
  ·rw [if_neg (by omega),tx (by simp;omega),tx (by simp;omega)]
 unfold k3;simp only [e1,b',du,hd,ah,sf,if_pos bB];rw [if_pos ⟨trivial,rfl,by decide⟩,if_pos (by simp;omega),lT];rfl
theorem T5 {α:Type} (f:α→I) (l m:List α) (aP:∀ x,(f x).settle=f x) (h:m.length=l.length) {K:List I→Prop} (k:K (m.map f)):kg (l.map f) 0 ((m.map f).map I.settle) K:=by
 have ai:(m.map f).map I.settle=m.map f:=by rw [tp];exact tz fun x _=>aP x
 rw [ai];refine Gm (by simp [h]) ?_;have lT:setCells 0 (m.map f) (l.map f)=m.map f:=by
  apply tH;intro j;rw [m3 _ _ _ _ (by simp;omega)];by_cases aw:j<m.length
  ·rw [if_pos ⟨by omega,by simpa using aw⟩,vC]
  ·rw [if_neg (by simp;omega),tx (by simp;omega),tx (by simp;omega)]
 rw [lT];exact k
theorem XU {α:Type} (f:α→I) (m:List α) {n id lo:Nat} {H:List ar} {l:List α} (bB:lo≤id) (aP:∀ x,(f x).settle=f x) (ah:H[id]?=some (.cells (l.map f))) (h:m.length=n) (af:l.length=n) (aU:0<n) {K:I→List ar→Prop} (k:K .junk (H.set id (.cells (m.map f)))):xQ lo n (.ptr id 0) (.agg (m.map f)) H K:=by
 show (match Nat.ble lo id with | true=>_ | false=>_);rw [show Nat.ble lo id=true from uj bB];refine Es ah ?_;show (match Nat.beq (m.map f).length n,Nat.blt 0 n with | true,true=>_ | _,_=>_);rw [show Nat.beq (m.map f).length n=true from by rw [sX,h];exact Nat.beq_refl n,show Nat.blt 0 n=true from by rw [Nat.blt_eq];exact aU];exact T5 f l m aP (by omega) k
theorem agM {H:List ar} {T:List I} {a id n:Nat} {l:List Int} (bW:c3 T a=.ptr id 0) (ah:H[id]?=some (.cells (l.map hU))) (h:l.length=n):j9 H T [.cell a (.arr n)]=some [.agg (l.map hU)]:=by
 have e:kV (.arr n) (l.map hU) 0=some (.agg (l.map hU)):=by
  show (if 0+n≤(l.map hU).length then _ else _)=_;rw [if_pos (by simp [h]),sV,tT (by simp [h]),T8 (fun _=>rfl)]
 simp only [j9,oT,bW,ah,e]
end Go.Proofs.YtfakoboiahbhaaaGreat.Ab


namespace Go.Proofs.YtfakoboiahbhaaaGreat.Ab
open Go
def K1:List I→Nat→List (Nat×I)→List I
 | [],_,_=>[]
 | x::T,_,[]=>x::T
 | x::T,i,(j,v)::r=>match Nat.beq i j with
   | true=>v::K1 T (i+1) r
   | false=>x::K1 T (i+1) ((j,v)::r)
def H3 (u:Nat→I):Nat→Nat→List (Nat×I)→List I
 | 0,_,_=>[]
 | n+1,i,[]=>u i::H3 u n (i+1) []
 | n+1,i,(j,v)::r=>match Nat.beq i j with
   | true=>v::H3 u n (i+1) r
   | false=>u i::H3 u n (i+1) ((j,v)::r)
def rn (n:Nat) (bn:List (Nat×I)) (T:List I):Prop:=T.length=n∧T=K1 T 0 bn
theorem Qr {u bF:Nat→I}:∀ (n i:Nat) (bn:List (Nat×I)),(∀ k,i≤k→u k=bF k)→H3 u n i bn=H3 bF n i bn
 | 0,_,_,_=>rfl
 | n+1,i,[],h=>by
   rw [H3,H3,h i (sd _),Qr n (i+1) [] fun k av=>h k (by omega)]
 | n+1,i,(j,v)::r,h=>by
   rw [H3,H3];cases Nat.beq i j with
   | true=>exact congrArg _ (Qr n (i+1) r fun k av=>h k (by omega))
   | false=>show u i::_=bF i::_;rw [h i (sd _),Qr n (i+1) _ fun k av=>h k (by omega)]
theorem XP:∀ (T:List I) (i:Nat) (bn:List (Nat×I)),K1 T i bn=H3 (fun k=>c3 T (k-i)) T.length i bn
 | [],_,_=>rfl
 | x::T,i,bn=>by
   have e:∀ bn,H3 (fun k=>c3 (x::T) (k-i)) T.length (i+1) bn=K1 T (i+1) bn:=fun bn=>by
    rw [XP T (i+1) bn];refine Qr _ _ _ fun k av=>?_;show c3 (x::T) (k-i)=c3 T (k-(i+1));rw [show k-i=(k-(i+1))+1 by omega];rfl
   (have fY:c3 (x::T) (i-i)=x:=by rw [Nat.sub_self];rfl);(have acG:∀ (T:List I) i,K1 T i []=T:=fun T i=>by cases T <;> rfl);cases bn with
   | nil =>
     show x::T=H3 _ (T.length+1) i [];rw [H3,fY,e,acG]
   | cons p r =>
     obtain ⟨j,v⟩:=p;show K1 (x::T) i ((j,v)::r)=H3 _ (T.length+1) i ((j,v)::r);rw [K1,H3];cases Nat.beq i j with
     | true=>exact congrArg _ (e r).symm
     | false=>show x::_=_::_;rw [fY,e]
theorem rn.ex {n:Nat} {bn:List (Nat×I)} {T:List I} (h:rn n bn T):∃ u,T=H3 u n 0 bn:=by
 obtain ⟨ad,af⟩:=h;subst ad;exact ⟨_,af.trans (XP T 0 bn)⟩
class HD (d:Nat) (v:I):Prop where P_:ch d v=true
class ql (d:Nat) (l:List I):Prop where pl:l.all (ch d)=true
instance {d:Nat}:ql d []:=⟨rfl⟩
instance {d:Nat} {v:I} {l:List I} [a:HD d v] [b:ql d l]:ql d (v::l):=⟨p1 a.P_ b.pl⟩
instance {d:Nat} {a b:List I} [x:ql d a] [y:ql d b]:ql d (a++b):=⟨by rw [List.all_append,x.pl,y.pl];rfl⟩
instance {d:Nat} {α:Type} {f:α→I} {l:List α} [h:∀ x,HD d (f x)]:ql d (l.map f):=⟨Qb (fun x=>(h x).P_) l⟩
instance {d:Nat} {α:Type} {f:α→List I} {l:List α} [h:∀ x,ql d (f x)]:ql d (l.flatMap f):=⟨by
 rw [sv];intro u hu;obtain ⟨x,_,ak⟩:=vi.1 hu
 exact sv.1 (h x).pl u ak⟩
instance {d:Nat} {k:IntKind} {n:Int}:HD (d+1) (.int k n):=⟨rfl⟩
instance {d:Nat} {b:Bool}:HD (d+1) (.bool b):=⟨rfl⟩
instance {d:Nat} {b:ByteArray}:HD (d+1) (.str b):=⟨rfl⟩
instance {d:Nat}:HD (d+1) .eG:=⟨rfl⟩
instance {d n:Nat} {c:hs} {l:List I} [h:ql d l]:HD (d+1) (.ax l n c):=⟨h.pl⟩
instance {d:Nat} {l:List I} [h:ql d l]:HD (d+1) (.agg l):=⟨h.pl⟩
instance {d:Nat} {l:List I} [h:ql d l]:HD (d+1) (.tuple l):=⟨h.pl⟩
instance {d:Nat} {l:List I} [h:ql d l]:HD (d+1) (.bT l):=⟨h.pl⟩
instance {d:Nat} {α:Type} {f:α→I} {l:List α} [h:∀ x,HD d (f x)]:HD (d+1) (aau f l):=⟨Qb (fun x=>(h x).P_) l⟩
instance {d:Nat} {α:Type} {f:α→List I} {l:List α} [h:∀ x,ql d (f x)]:HD (d+1) (qJ f l):=⟨(inferInstance:ql d (l.flatMap f)).pl⟩
instance {d:Nat} {l:List Int}:HD (d+2) (oL l):=⟨(inferInstance:ql (d+1) (l.map hU)).pl⟩
instance {d:Nat} {l:List (List Int)}:HD (d+3) (jm l):=⟨(inferInstance:ql (d+2) (l.map oL)).pl⟩
instance {d:Nat} {α:Type} {f:α→List I} {x:Option α} [h:∀ x,ql d (f x)]:HD (d+1) (P8 f x):=⟨Xe (fun x=>(h x).pl) x⟩
theorem qs {p W6:Prop} [Decidable p] {aT:Type} {k:Option aT} {v:aT} {K:Prop} (h:p9 p k=some v) (f:p→W6) (g:p→k=some v→K):W6∧K :=
 ⟨f (qB h).1,g (qB h).1 (qB h).2⟩
theorem bs {b:Bool} {aT:Type} {x y:Option aT} {v:aT} {K:Prop} (h:(if b=true then x else y)=some v) (f:b=true→x=some v→K) (g:b=false→y=some v→K):K :=
 match b,h,f,g with
 | true,h,f,_=>f rfl (HY rfl h)
 | false,h,_,g=>g rfl (HX rfl h)
theorem afT {d:Nat} {u:I} (h:ch d u.gY=true):ch d u=true:=by
 cases d with
 | zero=>simp [ch] at h
 | succ d=>cases u with
   | ax cs n c=>cases c <;> exact h
   | _=>exact h
theorem Xd {d:Nat} {l:List I} (h:(l.map I.gY).all (ch d)=true):l.all (ch d)=true:=by
 rw [sv] at h ⊢;exact fun u hu=>afT (h _ (List.mem_map_of_mem hu))
theorem afS {d:Nat} {r:I} (h:ch d r.settle.view.cq=true):ch d r=true:=by
 cases d with
 | zero=>simp [ch] at h
 | succ d=>cases r with
   | ax cs n c=>cases c <;> exact h
   | agg cs=>exact Xd (l:=cs) h
   | tuple cs=>exact Xd (l:=cs) h
   | raw=>exact absurd h (by simp [I.settle,I.view,I.cq,ch])
   | ck=>exact absurd h (by simp [I.settle,I.view,I.cq,ch])
   | _=>exact h
theorem KY {rs:List jo} {v:I} {T:List I} {H:List ar} {vs:List I} [h:HD 8 v] (ad:j9 H T rs=some vs) (af:(hj vs).settle.view.cq=v):ID rs v .ret T H :=
 ⟨.inr rfl,vs,ad,_,o9 (afS (af ▸ h.P_)),af⟩
end Go.Proofs.YtfakoboiahbhaaaGreat.Ab


namespace Go.Proofs.YtfakoboiahbhaaaGreat.Ab
open Go
section
variable {P:Program} {A:db} {fn:FuncId} {lo:Nat} {rl:Option Nat}
inductive ajT (P:Program) (A:db) (fn:FuncId) (lo:Nat) (rl:Option Nat) (rc:fT) (T:List I) (H:List ar) (Q:cz→List I→List ar→Prop):Prop where
 | mk (cC:List Bool) (c:fT) (he:rc=.loop (some cC) c) (hU:Nat→List I→List ar→Prop) (m:Nat) (hm:m≤p') (aU:hU m T H)
   (step:∀ (rF:List I→List ar→Prop) m T H,hU m T H→(∀ hb a' H',hb<m→hU hb a' H'→rF a' H')→n6 T fun T=>dO P A fn lo rl c T H fun e a' H'=>match e with
    | .normal=>xl (some cC) a' fun a'=>rF a' H'
    | e=>Q e a' H')
end
theorem aix {P:Program} {A:db} {fn lo:Nat} {rl:Option Nat} {c:fT} {T:List I} {H:List ar} {Q:cz→List I→List ar→Prop} (h:dO P A fn lo rl c T (H++[]) Q):dO P A fn lo rl c T H Q:=by
 rw [sW] at h;exact h
theorem SS {cs:List I} {n d:Nat} {c:hs} (h:cs.all (ch d)=true):ch (d+1) (.ax cs n c)=true:=h
theorem Vo (A Y C:List ar):(A++Y)++C=A++(Y++C):=sD _ _ _
theorem MX (X:List ar) (a:ar):(X++[a,.dead])[X.length]?=some a:=by simp
theorem XM (X:List ar) (a aM:ar):(X++[a,.dead]).set X.length aM=X++[aM,.dead]:=by simp
theorem V2 {P:Program} {C:b7} {lo id gid n z:Nat} {o:Oper} {x:Operand} {H:List ar} {l:List I} {g cS:Nat} (aq:o.op=.move x) (bB:lo≤id) (ah:H[id]?=some (.grow l g cS)) (aN:l.length=n*z) :
  a4 P C lo o 2 [.ck id gid n z] H=some (.ax (l.map I.view) n .shared,H.set id .dead):=by
 unfold a4;rw [aq];show eV P lo 2 o.type x H [.ck id gid n z]=_;unfold eV;simp only [bB,if_true,ah];rw [if_pos aN]
def agY (l:List Int):I:=.ax (l.map hU) l.length (if l.length=1 then .full else .shared)
theorem Rel.rows {J:List Nat} {S:Nat→Nat→Prop} {w:World} {cells:List I} {n:Nat} {v:Value} (h:Rel J S w (.ax cells n .shared) v):Rel J S w (.ax (cells.map I.gY) n .shared) v:=by
 cases h with
 | b1 _ a=>exact .b1 _ a
 | ax _ _ _ b o cap f al hle hu k eU =>
   refine .ax _ _ _ b o cap f al hle hu (fun j u aw=>?_) (fun j u aw=>?_)
   ·rw [ss] at aw;simp only [sa] at aw;obtain ⟨x,ak,rfl⟩:=aw;obtain ⟨aC,aI,aR,bk⟩:=k j x ak;exact ⟨aC,aI,yz aR,bk⟩
   ·rw [ss] at aw;simp only [sa] at aw;obtain ⟨x,ak,rfl⟩:=aw;exact (eU j x ak).gY
theorem lC.rows {P:Program} {k:FuncId} {args cells:List I} {n:Nat} (h:lC P k args (.ax cells n .shared)) (aB:ch 8 (.ax (cells.map I.gY) n .shared)=true):lC P k args (.ax (cells.map I.gY) n .shared) :=
 ⟨⟨h.1.1,h.1.2.1,fun B U J S w vs ah aN ae=>CallsIn.mono (h.1.2.2 B U J S w vs ah aN ae) fun e w' he=>by
   cases e with
   | returned x =>
     obtain ⟨bq,cj,bK,a,b,c,d,e⟩:=he;exact ⟨bq,cj,bK,a,b,c,d.rows,aV.b3 rfl⟩
   | panicked c=>exact he.elim
   | outgrown=>exact he.elim⟩,aB⟩
end Go.Proofs.YtfakoboiahbhaaaGreat.Ab


namespace Go.Proofs.YtfakoboiahbhaaaGreat.Ab
open Go
instance {d:Nat} {p:Int×Int}:ql (d+1) (p2 p):=⟨(inferInstance:ql (d+1) [hU p.1,hU p.2]).pl⟩
instance {d:Nat} {l:List Int}:HD (d+2) (agY l):=⟨(inferInstance:ql (d+1) (l.map hU)).pl⟩
end Go.Proofs.YtfakoboiahbhaaaGreat.Ab


namespace Go.Proofs.YtfakoboiahbhaaaGreat.Ab
open Go
abbrev p7:=List Int
abbrev qk:=List (Int×Int)
abbrev r7:=List (List Int)
abbrev qz:=List (List (Int×Int))
abbrev qe:=Int×List (Int×Int)
abbrev rM:=cz→List I→List ar→Prop
abbrev qi (l:List Int) (c:hs):I:=.ax (l.map hU) l.length c
abbrev p6 (l:List (Int×Int)) (c:hs):I:=.ax (l.flatMap p2) l.length c
abbrev ajX (b:Int×List (Int×Int)):I:=.agg [hU b.1,.ax (b.2.flatMap p2) b.2.length .shared]
abbrev Hq (b:Int×List (Int×Int)):ar:=ar.cells [hU b.1,.ax (b.2.flatMap p2) b.2.length .shared]
def qK {aT:Type} (rs:List jo) (Q:cz→List I→List ar→Prop) (e:aT→I) (v:aT):Prop:=∀ T H,ID rs (e v) .ret T H→Q .ret T H
theorem qd {aT:Type} {x v:aT} {e:aT→I} {rs:List jo} {Q:cz→List I→List ar→Prop} {T:List I} {H:List ar} {vs:List I} (h:some x=some v) (jB:qK rs Q e v) [k:HD 8 (e x)] (ad:j9 H T rs=some vs) (af:(hj vs).settle.view.cq=e x):Q .ret T H:=by
 obtain rfl:=Option.some.inj h;exact jB _ _ (KY ad af)
class qn (H:List ar) (i:Nat) (o:outParam ar):Prop where h:H[i]?=some o
instance {H:List ar} {o:ar}:qn (H++[o]) H.length o:=⟨I7 _ _⟩
instance {H:List ar} {i:Nat} {o p:ar} [k:qn H i o]:qn (H++[p]) i o:=⟨qU k.h⟩
end Go.Proofs.YtfakoboiahbhaaaGreat.Ab


namespace Go.Proofs.YtfakoboiahbhaaaGreat.Ab
open Go Go.ChangeShapes Go.WideShapes Go.ChangeAt Go.RowKit
def S0 (w:World):Nat→Nat→Prop:=fun b o=>∃ v,w.cell? ⟨b,o,none⟩=some v
theorem mn (w:World):aK w.heap.size (fun _=>none) [] (S0 w) w [] :=
 ⟨rfl,fun _ _ h=>by simp at h,fun _ _ h=>h,fun _ _ h=>by simp at h,sd _⟩
theorem ahW {P:Program} {k:FuncId} {args:List I} {vs:List Value} {W:World} {b:Bool} (h:lC P k args (.bool b)) (ae:a8 (fun i=>.arg i) (fun _=>none) [] (S0 W) W args vs) :
  Calls P k vs.toArray W fun e IF=>e=.returned (.bool b)∧Below W.heap.size W IF:=by
 have ad:=h.1.2.2 W.heap.size (fun _=>none) [] (S0 W) W vs (mn W) (fun _ _ h=>by simp at h) ae;refine (callsIn_wide.1 ad).mono fun e IF he=>?_;cases e with
 | returned v =>
   obtain ⟨az,bU,S',_,aA,_,aj,_⟩:=he;cases aj;exact ⟨rfl,aA.os,aA.tape,aA.output,aA.size,fun b ag=>aA.cC b ag rfl⟩
 | panicked c=>exact he.elim
 | outgrown=>exact he.elim
section
variable {H:Type} {enc:TypeId×Value→H} {P:Program} {w:World}
theorem UM {W IF:World} (K:Kids P (·<P.types.size)) (bO:∀ t e,t<P.types.size→P.underlying t=some (.slice e)→0<P.cellsOf e) (p3:Below W.heap.size W IF) {sp:Nat→Bool} :
  ∀ {ts:List TypeId} {vs:List Value} {ds:List (DataW H)} {p:List MemPlace},(∀ t∈ts,t<P.types.size)→DataW.TrodAll enc P W 0 (fun _=>true) true ts vs ds p→(∀ x∈p,sp x.block=true)→(∀ x∈p,x.block<W.heap.size)→DataW.TrodAll enc P IF 0 sp true ts vs ds p
 | [],_,_,_,_,aL,_,_=>by obtain ⟨rfl,rfl,rfl⟩:=trodAll_nil aL;exact trodAll_mk0
 | t::ts,_,_,_,bW,aL,M5,aS=>by
   obtain ⟨v,vs,d,ds,a,b,rfl,rfl,rfl,⟨n,aN⟩,af⟩:=trodAll_cons aL;refine ⟨a,b,⟨n,?_⟩,UM K bO p3 (fun t ay=>bW t (tV _ ay)) af (fun x ak=>M5 x (vL _ ak)) (fun x ak=>aS x (vL _ ak)),rfl⟩;exact DataW.trod_stays K (fun {t e} ay he=>bO t e ay he) (fun h=>by cases h) (bW t uo) aN (fun x ak=>p3.same (aS x (uW _ ak))) fun x ak=>M5 x (uW _ ak)
theorem afQ {f:Func} {s:ChangeSpec} {again:Bool} {W IF:World} {args:Array Value} {t:TypeId} {ds gs:List (DataW H)} {before:List MemPlace}
  (ao:laidOutB P=true) (hm:mapsRowed P=true) (bj:((List.range P.types.size).all fun t=>match P.underlying t with | some (.slice e)=>decide (0<P.cellsOf e) | _=>true)=true)
  (ay:f.resultTypes=#[t]) (KM:P.underlying t=some .bool) (kJ:f.params.toList.all (fun t=>decide (t<P.types.size))=true) (Su:s.vars=[])
  (l4:DataW.Whole enc P f.params.toList s.vars false W args.toList ds gs before) (p3:Below W.heap.size W IF)
  (ai:s.fn H (ds++gs)={ results:=[.lit (.bool true)],args:=ds }):s.post enc P f false true false again W args (.bool true) IF:=by
 have aS:=l4.lt;have adb:=l4;obtain ⟨p,q,aL,jC,rfl,C0,jP⟩:=adb;rw [Su] at jC;obtain ⟨rfl,rfl⟩:=trodVars_none jC;rw [sW] at *;have K:Kids P (·<P.types.size):=kids_rows ao hm;have bO:=slices_full_of P bj;have bW:∀ t∈f.params.toList,t<P.types.size:=fun t h=>by
  have:=sv.1 kJ t h;simpa using this
 have again:∀ sp:Nat→Bool,(∀ x∈p,sp x.block=true)→DataW.TrodAll enc P IF 0 sp true f.params.toList args.toList ds p:=fun sp M5 =>
  UM K bO p3 bW aL M5 aS
 have kL:∀ (b:Nat) (sp:Nat→Bool) (a2:Bool),DataW.TrodAll enc P IF b sp a2 f.resultTypes.toList ((Value.bool true).resultList f.resultTypes.size) (s.fn H ds).results []:=fun b sp a2=>by
  rw [ai,ay];exact trodAll_mk1 (shut_bool KM true)
 have CH:∀ sp:Nat→Bool,(∀ x∈p,sp x.block=true)→DataW.TrodAll enc P IF 0 sp true f.params.toList args.toList (s.fn H ds).args p:=fun sp M5=>by
  rw [ai];exact again sp M5
 have ae:∀ sp:Nat→Bool,DataW.TrodVars enc P IF sp s.vars (s.fn H ds).vars []:=fun sp=>by
  rw [ai,Su];rfl
 have hold:∀ x∈p,(fun b=>decide (b<W.heap.size)) x.block=true:=fun x ak=>by simpa using aS x ak
 refine ⟨ds,[],p,[],p,[],l4,by rw [sW];exact kL _ _ _,by rw [sW];exact CH _ hold,by rw [sW];exact ae _,p3.frame _,fun _=>?_⟩;refine ⟨fun j u r hu aj=>?_,(s.fn H ds).results++(s.fn H ds).args,[],p,⟨p,[],?_,?_,by simp,?_,fun h=>by cases h⟩,fun x ak _=>ak⟩
 ·rw [ay] at hu aj;cases j with
  | zero=>simp [Value.resultList] at hu aj;subst hu;subst aj;exact okWide_bool_mk KM true
  | succ j=>simp at hu
 ·have:=trodAll_append (CH (fun _=>true) fun _ _=>rfl) (kL 0 (fun _=>true) true);simpa using this
 ·rw [Su];rfl
 ·intro b o ag;have:=aS _ ag;rw [p3.frozen (p:=⟨b,o,none⟩) this];exact C0 b o ag
abbrev NN (enc:TypeId×Value→H) (P:Program) (w:World) (e:TypeId) (Q:I→Prop):Prop :=
 ∀ n v y,DataW.trod enc P w 0 (fun _=>true) true n e [v]=some y→∃ u,u.plain=true∧v.oneCell'=true∧Rel [] (S0 w) w u v∧Q u
theorem ab5 {e:TypeId} {k:IntKind} (ay:P.underlying e=some (.int k)):NN enc P w e fun u=>∃ x,u=.int k x∧(Lit.int k x).wf=true:=by
 intro n v y h;obtain ⟨x,ak,_,hw⟩:=DataW.trod_int ay h;injection ak with ak _;subst ak;exact ⟨.int k x,rfl,rfl,.int k x,x,rfl,hw⟩
instance:Inhabited I:=⟨.junk⟩
def JG (x:Int):Prop := -9223372036854775808≤x∧x≤9223372036854775807
theorem wf_i64 {x:Int} (h:(Lit.int .i64 x).wf=true):JG x:=by
 have ad:IntKind.i64.min=-9223372036854775808:=rfl;have af:IntKind.i64.max=9223372036854775807:=rfl;simp only [Lit.wf,sx,decide_eq_true_eq] at h;exact ⟨by omega,by omega⟩
structure aat (l:List Int):Prop where
 n:l.length≤9223372036854775807
 v:∀ x∈l,JG x
structure ajM (l:List (List Int)):Prop where
 n:l.length≤9223372036854775807
 v:∀ r∈l,aat r
theorem afr {n:Nat} (h:n≤maxLen):n≤9223372036854775807:=by unfold maxLen at h;omega
structure ajO (l:List Int):Prop where
 n:l.length≤9223372036854775807
 v:∀ x∈l,0≤x∧x≤255
abbrev Arg (enc:TypeId×Value→H) (P:Program) (w:World) (base:Nat) (t:TypeId) (Q:I→Prop):Prop :=
 ∀ v d p,Value.okWide P w .any base t v→DataW.Trod enc P w 0 (fun _=>true) true t v d p→∃ u,u.plain=true∧Rel [] (S0 w) w u v∧Q u
theorem ah2 {us:List I} {vs:List Value} (h:us.length=vs.length) (aj:∀ (i:Nat) (u:I) (v:Value),us[i]?=some u→vs[i]?=some v→u.plain=true∧Rel [] (S0 w) w u v):a8 (fun i=>.arg i) (fun _=>none) [] (S0 w) w us vs :=
 ⟨h,fun i u v hu ae=>(aj i u v hu ae).2,fun i u v hu ae=>aV.b3 (aj i u v hu ae).1⟩
theorem ah3 {x' fx:I} {v0 v1:Value} (SK:x'.plain=true) (hK:Rel [] (S0 w) w x' v0) (bR:fx.plain=true) (r1:Rel [] (S0 w) w fx v1):a8 (fun i=>.arg i) (fun _=>none) [] (S0 w) w [x',fx] [v0,v1] :=
 ah2 rfl fun i u v hu ae=>by
  match i with
  | 0=>simp at hu ae;subst hu;subst ae;exact ⟨SK,hK⟩
  | 1=>simp at hu ae;subst hu;subst ae;exact ⟨bR,r1⟩
  | i+2=>simp at hu
end
end Go.Proofs.YtfakoboiahbhaaaGreat.Ab


namespace Go.Proofs.YtfakoboiahbhaaaGreat.Ab
open Go Go.ChangeShapes Go.WideShapes Go.ChangeAt Go.RowKit
section
variable {H:Type} {enc:TypeId×Value→H} {P:Program} {w:World}
theorem WW {α β:Type} {f:α→β} {R:α→Prop}:∀ {l:List β},(∀ u∈l,∃ x,u=f x∧R x)→∃ gm:List α,l=gm.map f∧∀ x∈gm,R x
 | [],_=>⟨[],rfl,by simp⟩
 | u::l,h=>by
   obtain ⟨x,rfl,ak⟩:=h u (by simp);obtain ⟨gm,rfl,bj⟩:=WW (l:=l) fun y aY=>h y (by simp [aY]);exact ⟨x::gm,rfl,by simpa using ⟨ak,bj⟩⟩
def Pg (enc:TypeId×Value→H) (P:Program) (w:World) (bl:Array Field) (Qs:List (I→Prop)):Prop :=
 Qs.length=bl.size∧∀ (i:Nat) (f:Field) (q:I→Prop),bl[i]?=some f→Qs[i]?=some q→f.offset=i∧P.cellsOf f.type=1∧NN enc P w f.type q
def MN (Qs:List (I→Prop)) (us:List I):Prop:=us.length=Qs.length∧∀ (i:Nat) (u:I) (q:I→Prop),us[i]?=some u→Qs[i]?=some q→q u
theorem XV {t:TypeId} {bl:Array Field} {Qs:List (I→Prop)} (ay:P.underlying t=some (.struct bl)) (al:P.cellsOf t=bl.size) (aP:Pg enc P w bl Qs) {n:Nat} {cs:List Value} {y:DataW H×List MemPlace}
  (h:DataW.trod enc P w 0 (fun _=>true) true n t cs=some y):∃ us:List I,MN Qs us∧cs.length=us.length∧∀ (j:Nat) (u:I) (v:Value),us[j]?=some u→cs[j]?=some v→u.plain=true∧v.oneCell'=true∧Rel [] (S0 w) w u v:=by
 obtain ⟨xs,m,_,_,ao,ako,ak⟩:=DataW.trod_struct ay h;rw [al] at ao;have each:∀ i,i<bl.size→∃ u:I,(∀ v,cs[i]?=some v→u.plain=true∧v.oneCell'=true∧Rel [] (S0 w) w u v)∧∀ q,Qs[i]?=some q→q u:=fun i hi=>by
  have ad:bl[i]?=some bl[i]:=Array.getElem?_eq_getElem hi;have aZ:i<Qs.length:=by rw [aP.1];exact hi
  have af:Qs[i]?=some Qs[i]:=sm aZ;obtain ⟨e1,b',du⟩:=aP.2 i _ _ ad af;have aG:=ak i _ ad;rw [e1,b'] at aG;have Wn:i<cs.length:=by omega
  rw [sQ Wn,sm (by omega)] at aG;simp only [wh,tj] at aG;obtain ⟨u,aC,aI,aR,bk⟩:=du _ _ _ aG;refine ⟨u,fun v ae=>?_,fun q Dn=>?_⟩
  ·rw [sm Wn] at ae;cases ae;exact ⟨aC,aI,aR⟩
  ·rw [af] at Dn;cases Dn;exact bk
 obtain ⟨I1,M0⟩:=Deep.choose_lt (α:=I) (n:=bl.size) (p:=fun i u=>(∀ v,cs[i]?=some v→u.plain=true∧v.oneCell'=true∧Rel [] (S0 w) w u v)∧∀ q,Qs[i]?=some q→q u) each;have get:∀ (i:Nat) (u:I),((List.range bl.size).map I1)[i]?=some u→i<bl.size∧u=I1 i:=fun i u hu=>by
  have hi:i<bl.size:=by have:=(sb.1 hu).1;simpa using this
  simp [hi] at hu;exact ⟨hi,hu.symm⟩
 refine ⟨(List.range bl.size).map I1,⟨by simp [aP.1],fun i u q hu aZ=>?_⟩,by simp [ao],fun j u v hu ae=>?_⟩
 ·obtain ⟨hi,rfl⟩:=get i u hu;exact (M0 i hi).2 q aZ
 ·obtain ⟨hi,rfl⟩:=get j u hu;exact (M0 j hi).1 v ae
theorem abN {base:Nat} {t:TypeId} {bl:Array Field} {Qs:List (I→Prop)} (ay:P.underlying t=some (.struct bl)) (al:P.cellsOf t=bl.size) (aP:Pg enc P w bl Qs):Arg enc P w base t fun u=>∃ us,u=.agg us∧MN Qs us:=by
 intro v d p ae ⟨n,a2⟩;unfold Value.okWide at ae;rw [ay] at ae;obtain ⟨cs,rfl,bO,_⟩:=ae;obtain ⟨us,ad,af,aG⟩:=XV ay al aP a2;have af:cs.toList.length=us.length:=af;refine ⟨.agg us,rfl,.agg us cs (by simpa using af) (fun u hu=>?_) (fun v ae=>?_) fun j u v hu ae=>?_,us,rfl,ad⟩
 ·obtain ⟨j,aw⟩:=tg.1 hu;have aS:j<cs.toList.length:=by rw [af];exact (sb.1 aw).1
  exact (aG j u _ aw (sm aS)).1
 ·obtain ⟨j,aw⟩:=tg.1 ae;have aS:j<us.length:=by rw [←af];exact (sb.1 aw).1
  exact (aG j _ v (sm aS) aw).2.1
 ·exact (aG j u v hu (by show cs.toList[j]?=some v;simpa using ae)).2.2
theorem VZ {s:Nat}:∀ {L:List (List I)} {j:Nat} {u:I},(∀ l∈L,l.length=s)→0<s→L.flatten[j]?=some u→∃ l,L[j / s]?=some l∧l[j % s]?=some u
 | [],j,u,_,_,h=>by simp at h
 | l::L,j,u,ao,ai,h=>by
   have aU:l.length=s:=ao l (by simp);rw [List.flatten_cons] at h;by_cases aw:j<s
   ·rw [sy (by omega)] at h;exact ⟨l,by rw [Nat.div_eq_of_lt aw];rfl,by rw [Nat.mod_eq_of_lt aw];exact h⟩
   ·rw [sJ (by omega),aU] at h;obtain ⟨k,a,b⟩:=VZ (s:=s) (fun x ak=>ao x (by simp [ak])) ai h;(have e1:j / s=(j-s) / s+1:=by rw [Nat.div_eq_sub_div ai (by omega)]);(have b':j % s=(j-s) % s:=by rw [Nat.mod_eq_sub_mod (by omega)]);exact ⟨k,by rw [e1];simpa using a,by rw [b'];exact b⟩
theorem ab7 {t e:TypeId} {bl:Array Field} {Qs:List (I→Prop)} (ay:P.underlying t=some (.slice e)) (he:P.underlying e=some (.struct bl)) (al:P.cellsOf e=bl.size) (aU:0<bl.size) (aP:Pg enc P w bl Qs) :
  NN enc P w t fun u=>∃ L:List (List I),u=.ax L.flatten L.length .shared∧L.length≤maxLen∧∀ us∈L,MN Qs us:=by
 intro fuel v x h;rcases Deep.open_slice ay h with ⟨ae,_⟩ | ⟨a,len,cap,m,n,D,ajV,ae,_,ao,hm,pI,_,ak⟩
 ·injection ae with ae _;subst ae;exact ⟨_,rfl,rfl,.b1 _ _,[],rfl,sC _,by simp⟩
 ·injection ae with ae _;subst ae;have pI:m=cap:=pI;by_cases CL:cap=0
  ·(subst CL;obtain rfl:len=0:=by omega);exact ⟨_,rfl,rfl,.b1 _ _,[],rfl,sC _,by simp⟩
  ·have each:∀ i,i<len→∃ q:List I×List Value,MN Qs q.1∧q.2.length=bl.size∧w.cells? 0 (a.add (i*bl.size)) bl.size=some q.2∧∀ (j:Nat) (u:I) (v:Value),q.1[j]?=some u→q.2[j]?=some v→u.plain=true∧v.oneCell'=true∧Rel [] (S0 w) w u v:=fun i hi=>by
    obtain ⟨c6,ad,af⟩:=ak i (by omega);rw [al] at ad;obtain ⟨us,bp,cH,eB⟩:=XV he al aP af;exact ⟨(us,c6),bp,by have:=bp.1;rw [cH,this,aP.1],ad,eB⟩
   obtain ⟨q0,_,_,ad6,_⟩:∃ q:List Value,True∧True∧w.cells? 0 (a.add (0*bl.size)) bl.size=some q∧True:=by
    obtain ⟨c6,ad,_⟩:=ak 0 (by omega);rw [al] at ad;exact ⟨c6,trivial,trivial,ad,trivial⟩
   obtain ⟨b,o,sp⟩:=a;have ai:sp=none:=by
    obtain ⟨_,hlen,bw⟩:=World.cells?_some ad6;have:=bw 0 aU;rw [sm (by omega)] at this;simpa [Addr.add] using World.cell?_spot this
   subst ai;obtain ⟨I1,M0⟩:=Deep.choose_lt (α:=List I×List Value) (n:=len) (p:=fun i q=>MN Qs q.1∧q.2.length=bl.size∧w.cells? 0 (Addr.add ⟨b,o,none⟩ (i*bl.size)) bl.size=some q.2∧∀ (j:Nat) (u:I) (v:Value),q.1[j]?=some u→q.2[j]?=some v→u.plain=true∧v.oneCell'=true∧Rel [] (S0 w) w u v) each;(have ac_:∀ i,i<len→(I1 i).1.length=bl.size:=fun i hi=>by have:=(M0 i hi).1.1;rw [this,aP.1]);have cT:∀ l∈((List.range len).map fun i=>(I1 i).1),l.length=bl.size:=fun l c7=>by
    obtain ⟨i,hi,rfl⟩:=sk.1 c7;exact ac_ i (sK.1 hi)
   let V:Nat→Value:=fun j=>((I1 (j / bl.size)).2)[j % bl.size]!
   have key:∀ (j:Nat) (u:I),(((List.range len).map fun i=>(I1 i).1).flatten)[j]?=some u→w.cell? ⟨b,o+j,none⟩=some (V j)∧u.plain=true∧(V j).oneCell'=true∧Rel [] (S0 w) w u (V j):=fun j u aw=>by
    obtain ⟨l,ca,b5⟩:=VZ cT aU aw;(have hi:j / bl.size<len:=by have:=(sb.1 ca).1;simpa using this);simp [hi] at ca;subst ca;obtain ⟨a_,ba,br,b8⟩:=M0 _ hi;have adW:j % bl.size<bl.size:=Nat.mod_lt _ aU;have ae:(I1 (j / bl.size)).2[j % bl.size]?=some (V j):=by
     show _=some ((I1 (j / bl.size)).2[j % bl.size]!);rw [sm (by omega),getElem!_pos _ _ (by omega)]
    obtain ⟨_,_,bw⟩:=World.cells?_some br;have Ol:=bw (j % bl.size) adW;rw [ae] at Ol;have e:(Addr.add (Addr.add ⟨b,o,none⟩ (j / bl.size*bl.size)) (j % bl.size))=⟨b,o+j,none⟩:=by
     simp only [add_lit];congr 1;have:=Nat.div_add_mod' j bl.size;omega
    rw [e] at Ol;exact ⟨Ol,b8 _ _ _ b5 ae⟩
   refine ⟨.ax ((List.range len).map fun i=>(I1 i).1).flatten len .shared,rfl,rfl,.ax _ _ _ b o cap V (by simp) ao (by simp) (fun j u aw=>?_) (fun j u aw=>?_),(List.range len).map fun i=>(I1 i).1,by simp,by simp;omega,fun us hu=>?_⟩
   ·obtain ⟨aJ,aQ,cn,_⟩:=key j u aw;exact ⟨⟨_,aJ⟩,aJ,aQ,cn⟩
   ·exact (key j u aw).2.2.2
   ·obtain ⟨j,aw,rfl⟩:=sk.1 hu;exact (M0 j (sK.1 aw)).1
end
end Go.Proofs.YtfakoboiahbhaaaGreat.Ab


namespace Go.Proofs.YtfakoboiahbhaaaGreat.Ab
open Go
set_option maxRecDepth 20000
set_option maxHeartbeats 4000000
noncomputable def Z':fT :=
 pY [GC 3 [.jf 1] .box,qa 4 0,qa 5 0] (.seq (Hi [pX 7 0,GC 8 [.Bs 7] .zX,qF 9 8 0,qF 10 9 1,qc 11 10,GC 12 [.sl 3] (.yG 0),qc 13 12,qL 14 11 13 2,GC 15 [.Bs 14] (.zx (.str 2)),GC 6 [] (.alloc [.int .i64 0,.int .i64 0]),⟨none,[.sl 6,.jf 15],none,none,.st 2⟩]) (.seq (pY [qF 16 3 1,qc 17 16,qq 18 17 0 .gtr] (.cond (.sl 18) (.seq (Hi [GC 19 [.sl 6] (.yG 1),qc 20 19,GC 21 [.sl 6] (.yG 0),qc 22 21,pX 4 20,pX 5 22]) .ret) .skip)) (.seq (Hi [GC 23 [.sl 6] (.yG 0),qc 24 23,GC 25 [.sl 6] (.yG 1),qc 26 25,pX 4 24,pX 5 26]) .ret)))
theorem ae9:zD Tryz.prog Vc 68=some (Z',27,[.tmp 4,.tmp 5]):=by kernel_rfl
def LN (t:qe) (p:(Int×Int)):Option (Int×Int) :=
 p9 (0≤p.1∧p.1<(t.2.length:Int)) <|
 if (decide ((0:Int)<p.2))=true then
  some ((ix t.2 p.1).2,(ix t.2 p.1).1)
 else
  some ((ix t.2 p.1).1,(ix t.2 p.1).2)
theorem Ks {t:qe} {p:(Int×Int)} {v:(Int×Int)} (h:LN t p=some v):qw 68 [(.bT [(hU t.1),(.ax (t.2.flatMap p2) t.2.length .shared)]),(.agg [(hU p.1),(hU p.2)])] (.tuple [(hU v.1),(hU v.2)]):=by
 refine q7 eo ae9 rfl (Jb (p1 rfl (p1 rfl rfl))) fun Q bo=>?_;have jB:qK [.tmp 4,.tmp 5] Q (fun v=>(.tuple [(hU v.1),(hU v.2)])) v:=fun T H bH=>bo _ T H bH;unfold LN at h;unfold Z';conv=>whnf
 refine qs h id fun gD h=>?_;rw [q' p2 2 qy t.2 p.1 gD];conv=>whnf
 refine bs h (fun gE h=>?_) fun gE h=>?_
 ·rw [gE];conv=>whnf
  exact qd h jB rfl rfl
 ·rw [gE];conv=>whnf
  exact qd h jB rfl rfl
end Go.Proofs.YtfakoboiahbhaaaGreat.Ab


namespace Go.Proofs.YtfakoboiahbhaaaGreat.Ab
open Go
noncomputable def Tf:fT :=
 pY [pX 30 7,GC 31 [.sl 2] (.zx .one),qI 32 30 31 .eql,pX 33 32,cR 34 [.sl 0] 33 true .mN,cR 35 [.Bs 6] 33 true (.zx (.str 2)),cR 36 [.jf 34,.jf 35] 33 true (.call 1),cR 37 [.Bs 36] 33 true (.un .not),GC 38 [.Bs 33,.Bs 37,.lR (.bool false)] .pick] (.cond (.sl 38) .ret .skip)
noncomputable def Tg:fT :=
 pY [GC 25 [.sl 1] (.zx .one),GC 26 [.sl 6] (.zx (.str 2)),GC 27 [.lR (.func 68 [] []),.sl 25,.sl 26] (.call 3),pX 24 27,rA 28 24 0,GC 29 [.Bs 24] (.ext 1),pX 7 28,pX 8 29] Tf
noncomputable def Th:fT :=
 pY [pZ 21 4,pX 22 5,GC 23 [.Bs 21,.Bs 22] (.build [.int .i64 0,.int .i64 0] [(0,1),(1,1)]),GC 6 [] (.alloc [.int .i64 0,.int .i64 0]),⟨none,[.sl 6,.jf 23],none,none,.st 2⟩] Tg
noncomputable def Ti:fT :=
 .block 3 (pY [pZ 20 18,pX 5 20] Th)
noncomputable def Tj:fT :=
 pY [qa 18 0] (.block 2 (.loop (some (p_ false [0,3,1,1,9,2,2,1,22])) (pY [GC 19 [.sl 18,.lR (.int .i64 2)] (.bin .lss)] (.seq (.cond (.sl 19) .skip (.exit 2)) (.seq Ti (qv [qE 39 18 1,pX 18 39]))))))
noncomputable def Tk:fT :=
 .block 1 (pY [pZ 17 15,pX 4 17] Tj)
noncomputable def Xm:fT :=
 pY [GC 9 [.sl 1] (.zx .one),GC 10 [.Bs 9] .zX,qF 11 10 0,qF 12 11 1,qc 13 12,qM 14 13,qa 15 0] (.block 0 (.loop (some (p_ false [0,3,11,2,25])) (pY [GC 16 [.sl 15,.sl 14] (.bin .lss)] (.seq (.cond (.sl 16) .skip (.exit 0)) (.seq Tk (qv [qE 40 15 1,pX 15 40]))))))
theorem aeD:zD Go.Proofs.Tryz.prog US 113=some (Xm,41,[]):=by kernel_rfl
end Go.Proofs.YtfakoboiahbhaaaGreat.Ab


namespace Go.Proofs.YtfakoboiahbhaaaGreat.Ab
open Go
set_option maxRecDepth 20000
set_option maxHeartbeats 4000000
abbrev p5:=Int×List (Int×Int)
def q9 (r:Nat):Int×Int:=(((r / 2:Nat):Int),((r % 2:Nat):Int))
def qx (t:p5) (p:Int×Int):Int:=if 0<p.2 then (ix t.2 p.1).2 else (ix t.2 p.1).1
def fin (t:p5) (p:Int×Int):Int:=if 0<p.2 then (ix t.2 p.1).1 else (ix t.2 p.1).2
theorem Kr {t:p5} {p:Int×Int} (h:0≤p.1∧p.1<(t.2.length:Int)):LN t p=some (qx t p,fin t p):=by
 rw [LN,qg h];unfold qx fin;by_cases ad:0<p.2
 ·rw [if_pos (decide_eq_true ad),if_pos ad,if_pos ad]
 ·rw [if_neg (by simpa using ad),if_neg ad,if_neg ad]
def rH (t:p5) (figure:Int) (r:Nat):Bool:=decide (qx t (q9 r)=figure)
def places (t:p5) (figure:Int):List (Int×Int):=((List.range (2*t.2.length)).filter (rH t figure)).map q9
theorem RO (p:Nat→Bool) {j:Nat} (aB:p j=true):∀ {n:Nat},j<n→((List.range n).filter p)[((List.range j).filter p).length]?=some j
 | 0,h=>absurd h (by omega)
 | n+1,h=>by
   rw [vj,uG];by_cases aw:j<n
   ·have:=RO p aB aw;rw [sy (sb.1 this).1,this]
   ·(obtain rfl:j=n:=by omega);rw [sJ (sd _)];simp [aB]
theorem PC (p:Nat→Bool) (j:Nat):((List.range (j+1)).filter p).length=((List.range j).filter p).length+if p j=true then 1 else 0:=by
 rw [vj,uG,sr];by_cases h:p j=true
 ·rw [if_pos h];simp [h]
 ·rw [if_neg h];simp [h]
theorem ahm {α:Type} (Y:α) (step:Nat→α→α):∃ Z:Nat→α,Z 0=Y∧∀ j,Z (j+1)=step j (Z j):=⟨fun n=>Nat.rec Y (fun j z=>step j z) n,rfl,fun _=>rfl⟩
theorem P' {n i b:Nat} (hi:i<n) (ag:b<2):q9 (2*i+b)=((i:Int),(b:Int)):=by
 unfold q9;rw [show (2*i+b) / 2=i by omega,show (2*i+b) % 2=b by omega]
theorem Vs {t:p5} {figure:Int} (ak:t.2.length≤1000) {L N:Nat} {rv:Nat→List ar} (hlen:∀ i,(rv i).length=N) {c:Nat→Nat} (al:∀ j,c j=((List.range j).filter (rH t figure)).length) {M:Nat} (CB:M≤2*t.2.length) {Z:Nat→List ar} {Pj:List ar}
  (bj:∀ r,r<M→if rH t figure r=true then Sem Tryz.prog (.yield L) [.agg (p2 (q9 r))] (rv (c r)++(Z r++[ar.cells (p2 (q9 r))])) 0 (.bool true) (rv (c (r+1))++Z (r+1)) else Z (r+1)=Z r++[ar.cells (p2 (q9 r))])
  (he:(M=2*t.2.length∧Pj=rv (c M)++Z M)∨(M<2*t.2.length∧rH t figure M=true∧Sem Tryz.prog (.yield L) [.agg (p2 (q9 M))] (rv (c M)++(Z M++[ar.cells (p2 (q9 M))])) 0 (.bool false) Pj)) (It:bb 0 (rv 0++Z 0) Pj) :
  Sem Tryz.prog (.fn 113) [.yield L,.bT [.bT [hU t.1,.ax (t.2.flatMap p2) t.2.length .shared]],.bT [hU figure]] (rv 0++Z 0) 0 (.tuple []) Pj:=by
 obtain ⟨n,aN⟩:∃ n,n=t.2.length:=⟨_,rfl⟩;obtain ⟨p,aB⟩:∃ p,p=rH t figure:=⟨_,rfl⟩;have jF:∀ j,c (j+1)=c j+if p j=true then 1 else 0:=fun j=>by rw [al,al,aB];exact PC _ j
 rw [←aN] at CB he ak;rw [←aB] at bj he;refine HC eo aeD rfl It fun Q bo=>?_;unfold Xm;obtain ⟨fW,HF⟩:∃ c,Tk=c:=⟨_,rfl⟩;rw [HF];conv=>whnf
 rw [←aN];refine .intro (fun m T H=>∃ i:Nat,i≤n∧2*i≤M∧m=n-i∧T=Hc 41 [(0,.yield L),(1,.bT [.bT [hU t.1,.ax (t.2.flatMap p2) n .shared]]),(2,.bT [hU figure]),(14,hU (n:Int)),(15,hU (i:Int))]∧H=rv (c (2*i))++Z (2*i)) n ⟨0,sC _,sC _,rfl,rfl,by rw [al];rfl⟩ ?_;rintro m T H ⟨i,hi,adJ,rfl,rfl,rfl⟩;conv=>whnf
 refine I4 (fun Ol=>?_) (fun Ol=>?_)
 ·have aS:i<n:=by omega
  conv=>whnf
  refine IW fun m' Hv=>?_;subst HF;unfold Tk;obtain ⟨dV,Cs⟩:∃ c,Tj=c:=⟨_,rfl⟩;rw [Cs];conv=>whnf
  refine IW fun na Wd=>?_;subst Cs;unfold Tj;obtain ⟨b8,iD⟩:∃ c,Ti=c:=⟨_,rfl⟩;rw [iD];conv=>whnf
  refine .intro (fun m T H=>∃ b:Nat,b≤2∧2*i+b≤M∧m=2-b∧T=Hc 41 [(0,.yield L),(1,.bT [.bT [hU t.1,.ax (t.2.flatMap p2) n .shared]]),(2,.bT [hU figure]),(4,hU (i:Int)),(14,hU (n:Int)),(15,hU (i:Int)),(18,hU (b:Int))]∧H=rv (c (2*i+b))++Z (2*i+b)) 2 ⟨0,sC _,adJ,rfl,rfl,rfl⟩ ?_;rintro m T H ⟨b,ag,Sf,rfl,rfl,rfl⟩;conv=>whnf
  refine I4 (fun bt=>?_) (fun bt=>?_)
  ·(have gE:b<2:=by omega);have N0:q9 (2*i+b)=((i:Int),(b:Int)):=P' aS gE;have ac3:LN t ((i:Int),(b:Int))=some (qx t ((i:Int),(b:Int)),fin t ((i:Int),(b:Int))):=Kr ⟨by omega,by omega⟩;have W1:=Ks ac3;rw [←aN] at W1;(conv=>whnf);refine IW fun ajP R6=>?_;subst iD;unfold Ti;obtain ⟨br,en⟩:∃ c,Th=c:=⟨_,rfl⟩;rw [en];(conv=>whnf);refine IW fun ajQ R7=>?_;subst en;unfold Th;obtain ⟨ba,b5⟩:∃ c,Tg=c:=⟨_,rfl⟩;rw [b5];(conv=>whnf);refine Es (x:=ar.cells [hU (0:Int),hU (0:Int)]) (by first | exact qn.h | rfl | (simp [se,I.settle];done)) ?_
   (conv=>whnf);rw [rK];refine IW fun ajR R8=>?_;subst b5;unfold Tg;obtain ⟨a_,ca⟩:∃ c,Tf=c:=⟨_,rfl⟩;rw [ca];(conv=>whnf);refine Es (x:=ar.cells [hU (i:Int),hU (b:Int)]) (by first | exact qn.h | rfl | (simp [se,I.settle];done)) ?_
   (conv=>whnf);refine ⟨(p1 (rj (p1 rfl (p1 (q8 (fun _=>(p1 rfl (p1 rfl rfl))) _ _ _) rfl))) (p1 (JY (p1 rfl (p1 rfl rfl))) rfl)),_,W1,?_⟩;(conv=>whnf);refine IW fun ajS R9=>?_;subst ca;unfold Tf;(conv=>whnf);rcases LX (decide (qx t ((i:Int),(b:Int))=figure)) with KM | KM
   ·(have JT:p (2*i+b)=true:=by rw [aB];show decide (qx t (q9 (2*i+b))=figure)=true;rw [N0];exact KM);rw [KM];(conv=>whnf);refine Es (x:=ar.cells [hU (i:Int),hU (b:Int)]) (by first | exact qn.h | rfl | (simp [se,I.settle];done)) ?_
    (conv=>whnf);rw [sD];by_cases R_:2*i+b<M
    ·have aj:=bj _ R_;rw [if_pos JT,N0] at aj;refine ⟨_,_,HB aj,?_⟩;(conv=>whnf);refine R9 _ _ _ ?_;(conv=>whnf);refine R8 _ _ _ ?_;(conv=>whnf);refine R7 _ _ _ ?_;(conv=>whnf);refine R6 _ _ _ ?_;(conv=>whnf);refine ⟨2-(b+1),by omega,b+1,by omega,by omega,rfl,?_,rfl⟩;rw [show IntKind.i64.wrap ((b:Int)+1)=((b+1:Nat):Int) by rw [IB _ (by omega) (by omega)];omega];rfl
    ·(have ac6:M=2*i+b:=by omega);rcases he with ⟨ad,_⟩ | ⟨_,_,aG⟩
     ·omega
     ·rw [ac6,N0] at aG;refine ⟨_,_,HB aG,?_⟩;(conv=>whnf);refine R9 _ _ _ ?_;(conv=>whnf);refine R8 _ _ _ ?_;(conv=>whnf);refine R7 _ _ _ ?_;(conv=>whnf);refine R6 _ _ _ ?_;(conv=>whnf);refine Wd _ _ _ ?_;(conv=>whnf);refine Hv _ _ _ ?_;(conv=>whnf);exact bo _ _ _ ⟨.inr rfl,lB.refl _,rfl⟩
   ·(have JT:¬ p (2*i+b)=true:=by rw [aB];show ¬ decide (qx t (q9 (2*i+b))=figure)=true;rw [N0,KM];decide);have R_:2*i+b<M:=by
     rcases he with ⟨ad,_⟩ | ⟨_,af,_⟩
     ·omega
     ·rcases sT (2*i+b) M with h | h
      ·exact h
      ·rw [show M=2*i+b by omega] at af;exact absurd af JT
    have aj:=bj _ R_;rw [if_neg JT,N0] at aj;rw [KM];(conv=>whnf);refine R9 _ _ _ ?_;(conv=>whnf);refine R8 _ _ _ ?_;(conv=>whnf);refine R7 _ _ _ ?_;(conv=>whnf);refine R6 _ _ _ ?_;(conv=>whnf);refine ⟨2-(b+1),by omega,b+1,by omega,by omega,rfl,?_,?_⟩
    ·rw [show IntKind.i64.wrap ((b:Int)+1)=((b+1:Nat):Int) by rw [IB _ (by omega) (by omega)];omega];rfl
    ·rw [show 2*i+(b+1)=2*i+b+1 by omega,aj,jF,if_neg JT,sD];rfl
  ·(obtain rfl:b=2:=by omega);(conv=>whnf);refine Wd _ _ _ ?_;(conv=>whnf);refine Hv _ _ _ ?_;(conv=>whnf);refine ⟨n-(i+1),by omega,i+1,by omega,by omega,rfl,?_,rfl⟩;rw [show IntKind.i64.wrap ((i:Int)+1)=((i+1:Nat):Int) by rw [IB _ (by omega) (by omega)];omega];rfl
 ·obtain rfl:i=n:=by omega
  conv=>whnf
  rcases he with ⟨ad,af⟩ | ⟨ad,_,_⟩
  ·subst af;rw [ad] at bo;exact bo _ _ _ ⟨.inl rfl,lB.refl _,rfl⟩
  ·omega
theorem Vr {t:p5} {figure:Int} {L N:Nat} {rv:Nat→List ar} (hlen:∀ i,(rv i).length=N) {c:Nat→Nat} (al:∀ j,c j=((List.range j).filter (rH t figure)).length) {M:Nat} (Y:List ar)
  (aj:∀ r,r<M→rH t figure r=true→∀ Y,∃ re,Sem Tryz.prog (.yield L) [.agg (p2 (q9 r))] (rv (c r)++Y) 0 (.bool true) (rv (c r+1)++re)) :
  ∃ Z:Nat→List ar,Z 0=Y∧(∀ r,r<M→if rH t figure r=true then Sem Tryz.prog (.yield L) [.agg (p2 (q9 r))] (rv (c r)++(Z r++[ar.cells (p2 (q9 r))])) 0 (.bool true) (rv (c (r+1))++Z (r+1)) else Z (r+1)=Z r++[ar.cells (p2 (q9 r))]) ∧
    ∀ r,r≤M→(rv 0++Y).length≤(rv (c r)++Z r).length:=by
 have jF:∀ j,c (j+1)=c j+if rH t figure j=true then 1 else 0:=fun j=>by rw [al,al];exact PC _ j
 have nJ:∀ (j:Nat) (Y:List ar),∃ re,j<M→rH t figure j=true→Sem Tryz.prog (.yield L) [.agg (p2 (q9 j))] (rv (c j)++Y) 0 (.bool true) (rv (c (j+1))++re):=fun j Y=>by
  by_cases aw:j<M∧rH t figure j=true
  ·obtain ⟨re,h⟩:=aj j aw.1 aw.2 Y;exact ⟨re,fun _ _=>by rw [jF,if_pos aw.2];exact h⟩
  ·exact ⟨[],fun a b=>absurd ⟨a,b⟩ aw⟩
 obtain ⟨g,aO⟩:∃ g:Nat→List ar→List ar,∀ (j:Nat) (Y:List ar),j<M→rH t figure j=true→Sem Tryz.prog (.yield L) [.agg (p2 (q9 j))] (rv (c j)++Y) 0 (.bool true) (rv (c (j+1))++g j Y) :=
  ⟨fun j Y=>Classical.choose (nJ j Y),fun j Y=>vG (nJ j Y)⟩
 clear nJ;obtain ⟨Z,KK,KJ⟩:=ahm Y fun j Y=>if rH t figure j=true then g j (Y++[ar.cells (p2 (q9 j))]) else Y++[ar.cells (p2 (q9 j))];refine ⟨Z,KK,fun r P0=>?_,fun r=>?_⟩
 ·by_cases h:rH t figure r=true
  ·rw [if_pos h,KJ r,if_pos h];exact aO r _ P0 h
  ·rw [if_neg h,KJ r,if_neg h]
 ·induction r with
  | zero=>intro _;rw [KK,sr,sr,hlen,hlen];exact sd _
  | succ j a9 =>
    intro aw;refine sL (a9 (by omega)) ?_;by_cases JT:rH t figure j=true
    ·have ad:=(aO j (Z j++[ar.cells (p2 (q9 j))]) (by omega) JT).1.1;rw [KJ j];simp only [if_pos JT];refine sL ?_ ad;rw [←sD];simp
    ·rw [KJ j,jF,if_neg JT];simp only [if_neg JT];rw [←sD];simp
theorem SN {t:p5} {figure:Int} {r:Nat} (aj:r<2*t.2.length) (ag:rH t figure r=true):((places t figure).map fun p=>I.agg (p2 p))[((List.range r).filter (rH t figure)).length]?=some (.agg (p2 (q9 r))):=by
 rw [places,tp,ss,RO _ ag aj];rfl
def KZ (t:p5) (figure:Int):Option (List (Int×Int)):=if t.2.length≤1000 then some (places t figure) else none
theorem XJ {t:p5} {figure:Int} {v:List (Int×Int)} (h:KZ t figure=some v):Seq Tryz.prog 113 [.bT [.bT [hU t.1,.ax (t.2.flatMap p2) t.2.length .shared]],.bT [hU figure]] (v.map fun e1=>.agg [hU e1.1,hU e1.2]):=by
 unfold KZ at h;split at h
 ·rename_i ak;obtain rfl:=Option.some.inj h;intro L N rv hlen fp aj Y;have al:∀ j,((List.range j).filter (rH t figure)).length=((List.range j).filter (rH t figure)).length:=fun _=>rfl;have HG:((places t figure).map fun e1=>I.agg [hU e1.1,hU e1.2]).length=((List.range (2*t.2.length)).filter (rH t figure)).length:=by simp [places]
  obtain ⟨Z,KK,KJ,hle⟩:=Vr (t:=t) (figure:=figure) (L:=L) hlen al (M:=2*t.2.length) Y fun r P0 ag Y=>by
   have aO:=SN P0 ag;obtain ⟨ad,af⟩:=sb.1 aO;obtain ⟨re,h⟩:=aj _ ad Y;refine ⟨re,?_⟩;rw [←af];exact h
  refine ⟨Z (2*t.2.length),?_⟩;rw [HG,←KK];exact Vs ak hlen al (sd _) KJ (.inl ⟨rfl,rfl⟩) (Oz (by rw [KK];exact hle _ (sd _)))
 ·cases h
end Go.Proofs.YtfakoboiahbhaaaGreat.Ab


namespace Go.Proofs.YtfakoboiahbhaaaGreat.Ab
open Go Go.ChangeShapes Go.WideShapes Go.ChangeAt Go.RowKit
set_option maxRecDepth 100000
section
variable {H:Type} {enc:TypeId×Value→H} {w:World} {base:Nat}
def MR:I→Prop:=fun u=>∃ x,u=hU x∧JG x
theorem RI:NN enc Tryz.prog w 3 MR:=fun n v y h=>by
 obtain ⟨u,a,b,c,x,rfl,d⟩:=ab5 (P:=Tryz.prog) Tryz.underlying3 n v y h;exact ⟨_,a,b,c,x,rfl,wf_i64 d⟩
theorem afF {us:List I} (h:MN [MR,MR] us):∃ p:Int×Int,us=p2 p∧JG p.1∧JG p.2:=by
 obtain ⟨ao,h⟩:=h
 match us,ao with
 | [a,b],_ =>
   obtain ⟨x,rfl,ak⟩:=h 0 _ _ rfl rfl;obtain ⟨y,rfl,aY⟩:=h 1 _ _ rfl rfl;exact ⟨(x,y),rfl,ak,aY⟩
def Rm (bn:List (Int×Int)):Prop:=bn.length≤9223372036854775807∧∀ p∈bn,JG p.1∧JG p.2
abbrev Rp (bn:List (Int×Int)):I:=.ax (bn.flatMap p2) bn.length .shared
def UD:I→Prop:=fun u=>∃ bn,u=Rp bn∧Rm bn
theorem acT : Pg enc Tryz.prog w #[{ name := "Left", type := 3, offset := 0, embedded := false, tag := "", pkgPath := "", byteOffset := 0 }, { name := "Right", type := 3, offset := 1, embedded := false, tag := "", pkgPath := "", byteOffset := 8 }] [MR, MR] := ⟨rfl, fun i f q aP aZ => by
 match i with
 | 0=>simp at aP aZ;subst aP;subst aZ;exact ⟨rfl,by kernel_rfl,RI⟩
 | 1=>simp at aP aZ;subst aP;subst aZ;exact ⟨rfl,by kernel_rfl,RI⟩
 | i+2=>simp at aZ⟩
theorem ab6:NN enc Tryz.prog w 22 UD:=fun n v y h=>by
 obtain ⟨u,a,b,c,L,rfl,ao,fp⟩:=ab7 Tryz.underlying22 Tryz.underlying67 (by kernel_rfl) (by decide) acT n v y h;obtain ⟨bn,rfl,aB⟩:=WW (f:=p2) (R:=fun p:Int×Int=>JG p.1∧JG p.2) fun us hu=>by
  obtain ⟨p,e,ad,af⟩:=afF (fp us hu);exact ⟨p,e,ad,af⟩
 refine ⟨_,a,b,c,bn,?_,by have:=afr ao;simpa using this,aB⟩;simp [Rp,List.flatMap_def]
structure aas (b:p5):Prop where
 f:JG b.1
 l:Rm b.2
theorem Vp:Arg enc Tryz.prog w base 24 fun u=>∃ b:p5,u=.agg [hU b.1,Rp b.2]∧aas b:=by
 intro v d p ae a2
 obtain ⟨u,a,b,us,rfl,ao,hu⟩:=abN (P:=Tryz.prog) (enc:=enc) (w:=w) (base:=base) (Qs:=[MR,UD]) Tryz.underlying24 (by kernel_rfl) ⟨rfl,fun i f q aP aZ=>by
  match i with
  | 0=>simp at aP aZ;subst aP;subst aZ;exact ⟨rfl,by kernel_rfl,RI⟩
  | 1=>simp at aP aZ;subst aP;subst aZ;exact ⟨rfl,by kernel_rfl,ab6⟩
  | i+2=>simp at aZ⟩ v d p ae a2
 match us,ao with
 | [js,aC],_ =>
   obtain ⟨x,rfl,ak⟩:=hu 0 _ _ rfl rfl;obtain ⟨y,rfl,aY⟩:=hu 1 _ _ rfl rfl;exact ⟨_,a,b,(x,y),rfl,ak,aY⟩
end
end Go.Proofs.YtfakoboiahbhaaaGreat.Ab


namespace Go.Proofs.YtfakoboiahbhaaaGreat.Ab
open Go Go.ChangeShapes Go.WideShapes Go.ChangeAt Go.RowKit
set_option maxRecDepth 100000
section
variable {H:Type} {enc:TypeId×Value→H} {w:World} {base:Nat}
structure ajN (l:List (List (Int×Int))):Prop where
 n:l.length≤9223372036854775807
 v:∀ r∈l,Rm r
end
end Go.Proofs.YtfakoboiahbhaaaGreat.Ab


namespace Go.Proofs.YtfakoboiahbhaaaGreat.Ab
open Go
def RG:hs→hs→Bool
 | .shared,.shared=>true
 | .full,.full=>true
 | .own a,.own b=>Nat.beq a b
 | .uniq a,.uniq b=>Nat.beq a b
 | _,_=>false
theorem ab2:∀ {a b:hs},RG a b=true→a=b:=by
 intro a b h;cases a <;> cases b <;> simp only [RG,tG] at h <;> first | rfl | (rw [tb h])
def IQ (f:I→I→Bool):List I→List I→Bool
 | [],[]=>true
 | a::l,b::r=>match f a b with
   | true=>IQ f l r
   | false=>false
 | _,_=>false
theorem Kf {f:I→I→Bool} (aP:∀ a b,f a b=true→a=b):∀ {a b:List I},IQ f a b=true→a=b
 | [],[],_=>rfl
 | [],_::_,h=>by simp [IQ] at h
 | _::_,[],h=>by simp [IQ] at h
 | a::l,b::r,h=>by
   simp only [IQ] at h;split at h
   ·rename_i jD;rw [aP a b jD,Kf aP h]
   ·cases h
def Ik:Nat→I→I→Bool
 | 0,_,_=>false
 | d+1,a,b=>match a,b with
   | .bool x,.bool y=>match x,y with | true,true=>true | false,false=>true | _,_=>false
   | .int k x,.int q y=>match decide (k=q),decide (x=y) with | true,true=>true | _,_=>false
   | .eG,.eG=>true
   | .bT x,.bT y=>IQ (Ik d) x y
   | .ax x n c,.ax y m e=>match IQ (Ik d) x y,Nat.beq n m,RG c e with | true,true,true=>true | _,_,_=>false
   | .func f x y,.func g z w=>match Nat.beq f g,IQ (Ik d) x z,IQ (Ik d) y w with | true,true,true=>true | _,_,_=>false
   | .agg x,.agg y=>IQ (Ik d) x y
   | .tuple x,.tuple y=>IQ (Ik d) x y
   | _,_=>false
theorem MU:∀ (d:Nat) (a b:I),Ik d a b=true→a=b
 | 0,_,_,h=>by simp [Ik] at h
 | d+1,a,b,h=>by
   have a9:=MU d;unfold Ik at h;split at h
   ·split at h <;> first | rfl | cases h
   ·rename_i k x q y;split at h
    ·rename_i ad af;rw [of_decide_eq_true ad,of_decide_eq_true af]
    ·cases h
   ·rfl
   ·rw [Kf a9 h]
   ·split at h
    ·rename_i ad af aG;rw [Kf a9 ad,tb af,ab2 aG]
    ·cases h
   ·split at h
    ·rename_i ad af aG;rw [tb ad,Kf a9 af,Kf a9 aG]
    ·cases h
   ·rw [Kf a9 h]
   ·rw [Kf a9 h]
   ·cases h
inductive qu where
 | pure (k:Nat) (args:List I) (v:I)
 | map (k:Nat) (args:List I) (es:List (Nat×I×I)) (clock:Nat)
def qG (P:Program):qu→Prop
 | .pure k args v=>lC P k args v
 | .map k args es clock=>∀ H,Sem P (.fn k) args H H.length (.map H.length) (H++[.map es clock])
def look (k:Nat) (args:List I) (H:List ar) (lo:Nat):List qu→Option (I×List ar)
 | []=>none
 | .pure q bs v::r=>match Nat.beq k q with
   | true=>match IQ (Ik 20) args bs with
     | true=>match H with
       | []=>some (v,[])
       | _=>look k args H lo r
     | false=>look k args H lo r
   | false=>look k args H lo r
 | .map q bs es clock::r=>match Nat.beq k q with
   | true=>match IQ (Ik 20) args bs with
     | true=>match Nat.beq lo H.length with
       | true=>some (.map H.length,H++[.map es clock])
       | false=>look k args H lo r
     | false=>look k args H lo r
   | false=>look k args H lo r
def T2 (l:List qu):b7:=fun bZ args H lo=>match bZ with
 | .fn k=>look k args H lo l
 | _=>none
theorem Sem.aeJ {P:Program} {bZ:e_} {args:List I} {r:I} {H':List ar} (h:Sem P bZ args [] 0 r H') (lo:Nat):Sem P bZ args [] lo r H' :=
 ⟨⟨h.1.1,fun _ _ h=>by simp at h⟩,h.2⟩
theorem look_ok {P:Program} {k:Nat} {args:List I} {H:List ar} {lo:Nat} {r:I} {H':List ar}:∀ {l:List qu},(∀ e∈l,qG P e)→look k args H lo l=some (r,H')→Sem P (.fn k) args H lo r H'
 | [],_,h=>by simp [look] at h
 | .pure q bs v::l,ao,h=>by
   have JU:=look_ok (k:=k) (args:=args) (H:=H) (lo:=lo) (r:=r) (H':=H') fun e he=>ao e (tV _ he);unfold look at h;split at h
   ·rename_i ad;split at h
    ·rename_i af;split at h
     ·cases h;have:=ao (.pure q bs r) uo;rw [tb ad,Kf (MU 20) af];exact this.1.aeJ lo
     ·exact JU h
    ·exact JU h
   ·exact JU h
 | .map q bs es clock::l,ao,h=>by
   have JU:=look_ok (k:=k) (args:=args) (H:=H) (lo:=lo) (r:=r) (H':=H') fun e he=>ao e (tV _ he);unfold look at h;split at h
   ·rename_i ad;split at h
    ·rename_i af;split at h
     ·rename_i aG;cases h;have:=ao (.map q bs es clock) uo;rw [tb ad,Kf (MU 20) af,tb aG];exact this H
     ·exact JU h
    ·exact JU h
   ·exact JU h
theorem ahI {P:Program} {l:List qu} (ao:∀ e∈l,qG P e):da P (T2 l):=oY fun bZ args H lo r H' h=>by
 cases bZ with
 | fn k=>exact look_ok ao h
 | yield i=>simp [T2] at h
def KU (A:FuncId→db):Nat→List Func→Bool
 | _,[]=>true
 | k,f::r=>match (A k).bad with
   | true=>KU A (k+1) r
   | false=>match f.body with
     | some c => match codeOk (A k) c, f.name == "runtime.NumGoroutine" with
       | true,false=>KU A (k+1) r
       | _,_=>false
     | none=>KU A (k+1) r
theorem W2 {A : FuncId → db} : ∀ {l : List Func} {k : Nat}, KU A k l = true → ∀ (i : Nat) (f : Func) (c : Code), (A (k + i)).bad = false → l[i]? = some f → f.body = some c → codeOk (A (k + i)) c = true ∧ f.name ≠ "runtime.NumGoroutine"
 | [],_,_,i,f,c,_,h,_=>by simp at h
 | g::r,k,h,i,f,c,nw,aP,al=>by
   unfold KU at h;cases i with
   | zero =>
     simp at aP;subst aP;rw [Nat.add_zero] at nw;rw [nw,al] at h;simp only at h;split at h
     ·rename_i ad af;exact ⟨ad,by simpa using af⟩
     ·cases h
   | succ i =>
     have aj:KU A (k+1) r=true:=by
      split at h
      ·exact h
      ·split at h
       ·split at h
        ·exact h
        ·cases h
       ·exact h
     have:=W2 aj i f c (by rw [show k+1+i=k+(i+1) by omega];exact nw) (by simpa using aP) al;rw [show k+(i+1)=k+1+i by omega];exact this
theorem afB {P : Program} {A : FuncId → db} (h : KU A 0 P.funcs.toList = true) (k : Nat) (f : Func) (c : Code) (ag : (A k).bad = false) (aP : P.funcs[k]? = some f) (al : f.body = some c) : codeOk (A k) c = true ∧ f.name ≠ "runtime.NumGoroutine" := by
 have:=W2 h k f c (by rw [sS];exact ag) (by simpa using aP) al
 rwa [sS] at this
theorem abJ:KU jv 0 Go.Proofs.Tryz.prog.funcs.toList=true:=by kernel_rfl
noncomputable def Qq (l:List qu) (k:Nat) (args:List I):Option I:=match fX Go.Proofs.Tryz.prog jv (T2 l) 300 (.fn k) args [] 0 with
 | some (r,a3)=>match bI a3 0 a3.length 0 8 r with
   | some v=>match ch 8 v.settle with
     | true=>some v.settle
     | false=>none
   | none=>none
 | none=>none
theorem r8 {l:List qu} (ao:∀ e∈l,qG Go.Proofs.Tryz.prog e) {k:Nat} {args:List I} {v:I} (h:Qq l k args=some v):lC Go.Proofs.Tryz.prog k args v:=by
 unfold Qq at h;split at h
 ·rename_i r a3 al;split at h
  ·rename_i u aP;split at h
   ·rename_i aB;cases h;have ai:=(Ca eo jv (ahI ao) (afB abJ) 300).Ha al;refine ⟨⟨bb.refl _ _,ai.2.1,fun B U J S w xs ah aN ae=>CallsIn.mono (ai.2.2 B U J S w xs ah aN ae) fun e w' he=>?_⟩,aB⟩;cases e with
    | returned x =>
      have kI:=xz ah (fun id aE=>by simp at aE) aP he;show a0 B U J S w [] u.settle x w';cases u with
      | ax cells len ej =>
        cases ej with
        | uniq z=>exact kI.settle
        | _=>exact kI
      | _=>exact kI
    | panicked c=>exact he.elim
    | outgrown=>exact he.elim
   ·cases h
  ·cases h
 ·cases h
end Go.Proofs.YtfakoboiahbhaaaGreat.Ab


namespace Go.Proofs.YtfakoboiahbhaaaGreat.Ab
open Go
noncomputable def ags:fT :=
 .oh false [pX 5 0,pZ 6 2,pX 7 2,GC 8 [.Bs 7] (.conv .u64),GC 9 [.lR (.func 97 [] []),.sl 8] (.call 3),GC 10 [.lR (.func 96 [] []),.jf 5,.lR (.int .i64 0),.jf 6,.jf 9] (.call 1)]
noncomputable def TD:fT :=
 pY [pZ 3 0,qM 4 3,pX 2 4] ags
theorem WQ:zD Go.Proofs.Tryz.prog Vg 73=some (TD,11,[]):=by kernel_rfl
noncomputable def OM:fT :=
 pY [pX 24 0,pX 25 1,pX 26 2,GC 27 [.lR (.func 115 [] []),.jf 24,.jf 25,.jf 26] (.call 1)] .ret
noncomputable def agB:fT :=
 pY [pX 30 0,pX 31 1,pX 32 2,GC 33 [.lR (.func 116 [] []),.jf 30,.jf 31,.jf 32] (.call 1)] .ret
noncomputable def agC:fT :=
 pY [pZ 36 0,pZ 37 1,pZ 38 2,GC 39 [.lR (.func 117 [] []),.jf 36,.jf 37,.jf 38] (.call 1)] (qv [pX 40 3,qq 41 40 1 .sub,pX 3 41])
noncomputable def agD:fT :=
 pY [pZ 55 2,qq 56 55 1 .sub,pX 57 11,pZ 58 1,qI 59 57 58 .sub,qI 60 56 59 .sub,pX 11 60] (qv [qa 12 1])
noncomputable def agE:fT :=
 pY [pZ 51 0,pZ 52 1,pZ 53 2,GC 54 [.lR (.func 119 [] []),.jf 51,.jf 52,.jf 53] (.call 1)] agD
noncomputable def agF:fT :=
 pY [pZ 69 0,pZ 70 1,pZ 71 2,GC 72 [.lR (.func 120 [] []),.jf 69,.jf 70,.jf 71] (.call 1)] (.cond (.sl 72) .ret .skip)
noncomputable def agG:fT :=
 pY [pZ 88 0,pX 89 1,pZ 90 2,pX 91 11,GC 92 [.lR (.func 122 [] []),.jf 88,.jf 89,.jf 90,.jf 91] (.call 1),pX 13 92] (pY [pX 93 13,pX 1 93] (.exit 1))
noncomputable def agH:fT :=
 pY [pZ 117 0,pX 118 1,pZ 119 14,pZ 120 3,GC 121 [.lR (.func 96 [] []),.jf 117,.jf 118,.jf 119,.jf 120] (.call 1)] (qv [pX 122 14,qE 123 122 1,pX 1 123])
noncomputable def agI:fT :=
 pY [pX 114 16,pX 115 18,qI 116 114 115 .geq,pX 8 116] agH
noncomputable def agt:fT :=
 pY [pZ 127 0,pZ 128 14,qE 129 128 1,pX 130 2,pZ 131 3,GC 132 [.lR (.func 96 [] []),.jf 127,.jf 129,.jf 130,.jf 131] (.call 1)] (qv [pX 133 14,pX 2 133])
noncomputable def agu:fT :=
 pY [pX 124 17,pX 125 18,qI 126 124 125 .geq,pX 8 126] agt
noncomputable def agv:fT :=
 pY [pX 109 10,qq 110 109 8 .quo,pX 18 110] (pY [pZ 111 16,pZ 112 17,qI 113 111 112 .lss] (.cond (.sl 113) agI agu))
noncomputable def agw:fT :=
 pY [pZ 103 14,pZ 104 1,qI 105 103 104 .sub,pZ 106 2,pZ 107 14,qI 108 106 107 .sub,pX 16 105,pX 17 108] agv
noncomputable def agx:fT :=
 pY [pZ 95 0,pZ 96 1,pZ 97 2,pX 98 11,GC 99 [.lR (.func 123 [] []),.jf 95,.jf 96,.jf 97,.jf 98] (.call 1),pX 94 99,rA 100 94 0,GC 101 [.Bs 94] (.ext 1),pX 14 100,pX 15 101] (pY [pX 102 15,pX 9 102] agw)
noncomputable def agy:fT :=
 .seq (.seq (Hi [pZ 73 1,qq 74 73 0 .gtr,pX 75 74,cR 76 [.sl 0] 75 true .mN,cR 77 [.sl 1] 75 true .mN,cR 78 [.Bs 77,.lR (.int .i64 1)] 75 true (.bin .sub),cR 79 [.Bs 76,.Bs 78] 75 true (.kQ 1),cR 80 [.Bs 79] 75 true (.zx .one),cR 81 [.sl 0] 75 true .mN,cR 82 [.sl 11] 75 true .mN,cR 83 [.Bs 81,.Bs 82] 75 true (.kQ 1),cR 84 [.Bs 83] 75 true (.zx .one),⟨some 85,[.lR (.func 121 [] []),.sl 80,.sl 84],some (75,true),none,.call 3⟩,cR 86 [.Bs 85] 75 true (.un .not),GC 87 [.sl 75,.Bs 86,.lR (.bool false)] .pick]) (.cond (.sl 87) agG .skip)) agx
noncomputable def agz:fT :=
 .seq (pY [pZ 61 8,pX 62 61,cR 63 [.sl 9] 62 true .mN,GC 64 [.Bs 62,.Bs 63,.lR (.bool false)] .pick,pX 65 64,cR 66 [.jf 12] 65 true .mN,cR 67 [.Bs 66,.lR (.int .i64 1)] 65 true (.bin .eql),GC 68 [.Bs 65,.Bs 67,.lR (.bool false)] .pick] (.cond (.sl 68) agF .skip)) agy
noncomputable def agA:fT :=
 pY [pZ 43 0,pZ 44 1,pZ 45 2,GC 46 [.lR (.func 118 [] []),.jf 43,.jf 44,.jf 45] (.call 1),pX 42 46,rA 47 42 0,GC 48 [.Bs 42] (.ext 1),pX 11 47,pX 12 48] (.seq (pY [pZ 49 12,qq 50 49 2 .eql] (.cond (.sl 50) agE .skip)) agz)
noncomputable def TU:fT :=
 .seq (pY [pZ 28 3,qq 29 28 0 .eql] (.cond (.sl 29) agB .skip)) (.seq (pY [pZ 34 8,GC 35 [.Bs 34] (.un .not)] (.cond (.sl 35) agC .skip)) agA)
noncomputable def ON:fT :=
 .block 1 (pY [pZ 19 2,pZ 20 1,qI 21 19 20 .sub,pX 10 21] (.seq (pY [pZ 22 10,qq 23 22 12 .leq] (.cond (.sl 23) OM .skip)) TU))
noncomputable def TT:fT :=
 pY [GC 8 [.lR (.bool true)] .mN] (pY [GC 9 [.lR (.bool true)] .mN] (.block 0 (.loop (some (p_ false [0,4,4,2,124])) ON)))
theorem WT:zD Go.Proofs.Tryz.prog Vl 96=some (TT,134,[]):=by kernel_rfl
noncomputable def afZ:fT :=
 .block 3 (Hi [pZ 33 0,pZ 34 7,pZ 35 0,pZ 36 7,qq 37 36 1 .sub,pZ 38 0,pZ 39 7,qq 40 39 1 .sub,qL 41 38 40 1,qc 42 41,pZ 43 0,pZ 44 7,qL 45 43 44 1,qc 46 45,qL 47 33 34 1,⟨none,[.jf 47,.jf 42],none,none,.st 1⟩,qL 48 35 37 1,⟨none,[.jf 48,.jf 46],none,none,.st 1⟩])
noncomputable def af0:fT :=
 .seq (.seq (Hi [pZ 16 7,pZ 17 1,qI 18 16 17 .gtr,pX 19 18,cR 20 [.sl 0] 19 true .mN,cR 21 [.sl 7] 19 true .mN,cR 22 [.Bs 20,.Bs 21] 19 true (.kQ 1),cR 23 [.Bs 22] 19 true (.zx .one),cR 24 [.sl 0] 19 true .mN,cR 25 [.sl 7] 19 true .mN,cR 26 [.Bs 25,.lR (.int .i64 1)] 19 true (.bin .sub),cR 27 [.Bs 24,.Bs 26] 19 true (.kQ 1),cR 28 [.Bs 27] 19 true (.zx .one),⟨some 29,[.lR (.func 121 [] []),.sl 23,.sl 28],some (19,true),none,.call 3⟩,GC 30 [.sl 19,.Bs 29,.lR (.bool false)] .pick]) (.cond (.sl 30) .skip (.exit 2))) (.seq afZ (qv [pX 31 7,qq 32 31 1 .sub,pX 7 32]))
noncomputable def af1:fT :=
 .block 1 (pY [pZ 15 6,pX 7 15] (.block 2 (.loop (some (p_ false [0,3,3,2,41])) af0)))
noncomputable def af2:fT :=
 .seq (pY [pZ 10 6,pZ 11 2,qI 12 10 11 .lss] (.cond (.sl 12) .skip (.exit 0))) (.seq af1 (qv [pX 13 6,qE 14 13 1,pX 6 14]))
noncomputable def Tl:fT :=
 pY [pZ 8 1,qE 9 8 1,pX 6 9] (.block 0 (.loop (some (p_ false [0,3,3,1,42])) af2))
theorem WL:zD Go.Proofs.Tryz.prog UT 115=some (Tl,49,[]):=by kernel_rfl
noncomputable def af3:fT :=
 pY [pZ 5 0,GC 6 [.lR (.func 137 [] []),.sl 5] (.call 3),pX 7 6,cR 8 [.sl 1] 7 true .mN,⟨some 9,[.lR (.func 137 [] []),.sl 8],some (7,true),none,.call 3⟩,cR 10 [.Bs 9] 7 true (.un .not),GC 11 [.Bs 7,.Bs 10,.lR (.bool false)] .pick,pX 12 11,cR 13 [.jf 0] 12 false .mN,cR 14 [.jf 1] 12 false .mN,cR 15 [.Bs 13,.Bs 14] 12 false (.bin .lss),GC 16 [.Bs 12,.lR (.bool true),.Bs 15] .pick,pX 4 16] .ret
noncomputable def Xn:fT :=
 pY [GC 4 [.lR (.bool false)] .mN] af3
theorem aeE:zD Go.Proofs.Tryz.prog UU 121=some (Xn,17,[.tmp 4]):=by kernel_rfl
noncomputable def agn:fT :=
 pY [pZ 3 0,pX 4 0,qI 5 3 4 .neq,pX 2 5] .ret
noncomputable def Xp:fT :=
 pY [GC 2 [.lR (.bool false)] .mN] agn
theorem aeG:zD Go.Proofs.Tryz.prog UZ 137=some (Xp,6,[.tmp 2]):=by kernel_rfl
end Go.Proofs.YtfakoboiahbhaaaGreat.Ab


namespace Go.Proofs.YtfakoboiahbhaaaGreat.Ab
open Go
set_option maxRecDepth 20000
set_option maxHeartbeats 4000000
theorem aes (x:Int):qw 137 [hU x] (B false):=by
 refine GI eo aeG rfl rfl ?_;unfold Xp;conv=>whnf
 exact G8 (.inr rfl) rfl (by rw [decide_eq_false (show ¬ (x≠x) from fun h=>h rfl)];rfl)
theorem aeB (x y:Int):qw 121 [hU x,hU y] (B (decide (x<y))):=by
 refine GI eo aeE rfl rfl ?_;unfold Xn;conv=>whnf
 refine ⟨by first | rfl | simp only [tF,uE,M_,Nh,M',Nb,Na,Nc,Nj,Ni,Kk,Nd,Nf,Ng,uq,uD],_,aes x,?_⟩
 conv=>whnf
 exact G8 (.inr rfl) rfl rfl
def JE (d:Array Int):ar:=.cells (d.toList.map hU)
def Ii (id n:Nat):I:=.ref id 0 n none 1
theorem ab3 (d:Array Int) (x:Nat) (h:x<d.size):(d.toList.map hU)[x]?=some (hU d[x]!):=by
 simp [h]
theorem ab4 (d:Array Int) (x:Nat) (v:Int):(d.toList.map hU).set x (hU v)=(d.setIfInBounds x v).toList.map hU:=by
 simp [uP]
theorem swp_size (d:Array Int) (i j:Nat):(Sort.swp d i j).size=d.size:=by simp [Sort.swp]
theorem Qo {d:Array Int} {n:Nat} (x:Nat) (e:n=x) (h:x<d.size) {K:I→Prop} (k:K (hU d[x]!)):eH (d.toList.map hU) n K:=by
 subst e;exact Es (ab3 d n h) k
theorem YV {d:Array Int} {n:Nat} {v:Int} (x:Nat) (e:n=x) (h:x<d.size) {K:List I→Prop} (k:K ((d.setIfInBounds x v).toList.map hU)):ji (d.toList.map hU) n (hU v) K:=by
 subst e;refine Bu (by simpa using h) ?_;rw [ab4];exact k
section
variable {H:List ar} {id lo:Nat} (bB:lo≤id)
include bB
theorem aer (d:Array Int) (a b:Nat) (a2:d.size≤1000) (cb:a≤b) (ag:b≤d.size) (ah:H[id]?=some (JE d)) :
  Sem Go.Proofs.Tryz.prog (.fn 115) [Ii id d.size,hU a,hU b] H lo (.tuple []) (H.set id (JE (Sort.insertionSort Sort.ltInt d a b))):=by
 have aE:=(sb.1 ah).1;refine RQ eo WL rfl ⟨by simp,fun j ad af=>by rw [sj (by omega)]⟩ ?_;unfold Tl;conv=>whnf
 have CI:Nat.ble lo id=true:=uj bB;have gs:∀ c:ar,(H.set id c)[id]?=some c:=fun c=>by rw [si aE]
 have Iq:∀ c e:ar,((H.set id c).set id e)[id]?=some e:=fun c e=>by rw [sU,gs]
 rw [Ho a (by omega)];refine .intro (fun m T H'=>∃ i gX,a+1≤i∧(i≤b∨i=a+1)∧m=b+1-i∧gX.size=d.size∧Sort.insOuter Sort.ltInt a b i gX=Sort.insertionSort Sort.ltInt d a b∧T=Hc 49 [(0,Ii id d.size),(1,hU a),(2,hU b),(6,hU i)]∧H'=H.set id (JE gX)) (b-a) ⟨a+1,d,by omega,.inr rfl,by omega,rfl,rfl,rfl,?_⟩ ?_
 ·obtain ⟨ad,af⟩:=sb.1 ah;rw [←af,vk]
 rintro m T H' ⟨i,gX,adI,Wl,rfl,CT,he,rfl,rfl⟩;conv=>whnf
 refine I4 (fun h=>?_) (fun h=>?_)
 ·conv=>whnf
  refine .intro (fun j T H'=>∃ rk:Array Int,j≤i∧rk.size=d.size∧Sort.insInner Sort.ltInt a j rk=Sort.insInner Sort.ltInt a i gX∧T=Hc 49 [(0,Ii id d.size),(1,hU a),(2,hU b),(6,hU i),(7,hU j)]∧H'=H.set id (JE rk)) i ⟨gX,sd _,CT,rfl,rfl,rfl⟩ ?_;rintro j T H' ⟨rk,aw,L9,L_,rfl,rfl⟩;conv=>whnf
  by_cases aG:(a:Int)<(j:Int)
  ·rw [decide_eq_true aG];obtain ⟨q,rfl⟩:∃ q,j=q+1:=⟨j-1,by omega⟩;(have hw:IntKind.i64.wrap (((q+1:Nat):Int)-1)=(q:Int):=by rw [IB _ (by omega) (by omega)];omega);(conv=>whnf);refine ⟨by omega,?_⟩;(conv=>whnf);refine Es (by first | exact gs _ | exact Iq _ _ | assumption) ?_
   (conv=>whnf);refine Qo (q+1) (by omega) (by omega) ?_;(conv=>whnf);rw [hw];refine ⟨by omega,?_⟩;(conv=>whnf);refine Es (by first | exact gs _ | exact Iq _ _ | assumption) ?_
   (conv=>whnf);refine Qo (q) (by omega) (by omega) ?_;(conv=>whnf);refine ⟨by first | rfl | simp only [tF,uE,M_,Nh,M',Nb,Na,Nc,Nj,Ni,Kk,Nd,Nf,Ng,uq,uD],_,aeB rk[q+1]! rk[q]!,Jo,?_⟩
   (conv=>whnf);by_cases a5:rk[q+1]!<rk[q]!
   ·rw [decide_eq_true a5];(conv=>whnf);rw [hw];refine ⟨by omega,?_⟩;(conv=>whnf);refine Es (by first | exact gs _ | exact Iq _ _ | assumption) ?_
    (conv=>whnf);refine Qo (q) (by omega) (by omega) ?_;(conv=>whnf);refine ⟨by omega,?_⟩;(conv=>whnf);refine Es (by first | exact gs _ | exact Iq _ _ | assumption) ?_
    (conv=>whnf);refine Qo (q+1) (by omega) (by omega) ?_;(conv=>whnf);refine ⟨by omega,?_⟩;(conv=>whnf);rw [CI];(conv=>whnf);refine Es (by first | exact gs _ | exact Iq _ _ | assumption) ?_
    (conv=>whnf);refine YV (q+1) (by omega) (by first | omega | (simp only [ur];omega)) ?_
    (conv=>whnf);refine ⟨by omega,?_⟩;(conv=>whnf);rw [CI];(conv=>whnf);refine Es (by first | exact gs _ | exact Iq _ _ | assumption) ?_
    (conv=>whnf);refine YV (q) (by omega) (by first | omega | (simp only [ur];omega)) ?_
    (conv=>whnf);refine ⟨q,by omega,Sort.swp rk (q+1) q,by omega,by rw [swp_size];exact L9,?_,?_,?_⟩
    ·rw [←L_,Sort.insInner,if_pos (by simp only [Sort.ltInt,sx,decide_eq_true_eq];exact ⟨by omega,a5⟩)]
    ·rw [hw];rfl
    ·simp only [sU];rfl
   ·rw [decide_eq_false a5];(conv=>whnf);have e:Sort.insInner Sort.ltInt a i gX=rk:=by
     rw [←L_,Sort.insInner,if_neg (by simp only [Sort.ltInt,sx,decide_eq_true_eq];exact fun bH=>a5 bH.2)]
    exact ⟨b+1-(i+1),by omega,i+1,rk,by omega,by omega,rfl,L9,by rw [←he,Sort.insOuter.eq_1 _ a b i,if_pos (by omega),e],by rw [←Ho i (by omega)];rfl,rfl⟩
  ·rw [decide_eq_false aG];(conv=>whnf);have e:Sort.insInner Sort.ltInt a i gX=rk:=by
    rw [←L_];cases j with
    | zero=>rfl
    | succ q=>rw [Sort.insInner,if_neg (by simp only [sx,decide_eq_true_eq];exact fun bH=>by omega)]
   exact ⟨b+1-(i+1),by omega,i+1,rk,by omega,by omega,rfl,L9,by rw [←he,Sort.insOuter.eq_1 _ a b i,if_pos (by omega),e],by rw [←Ho i (by omega)];rfl,rfl⟩
 ·conv=>whnf
  have e:Sort.insertionSort Sort.ltInt d a b=gX:=by
   rw [←he];unfold Sort.insOuter;rw [if_neg (by omega)]
  rw [e];exact ⟨.inl rfl,⟨by simp,fun j o aw=>.inr aw⟩,rfl⟩
theorem ag_ {l:List ar} {i:Nat} {x:ar} (h:l[i]?=some x):l.set i x=l:=by
 obtain ⟨ad,af⟩:=sb.1 h;rw [←af,vk]
theorem afL (d:Array Int) (Jx:Int) (a2:d.size≤12) (ah:H[id]?=some (JE d)) :
  Sem Go.Proofs.Tryz.prog (.fn 96) [Ii id d.size,hU 0,hU d.size,hU Jx] H lo (.tuple []) (H.set id (JE (Sort.insertionSort Sort.ltInt d 0 d.size))):=by
 refine HC eo WT rfl ⟨by simp,fun j ad af=>by rw [sj (by omega)]⟩ fun Q bo=>?_;unfold TT;obtain ⟨RD,Js⟩:∃ c,ON=c:=⟨_,rfl⟩;rw [Js];conv=>whnf
 refine .intro (fun m T H'=>T=Hc 134 [(0,Ii id d.size),(1,hU 0),(2,hU d.size),(3,hU Jx),(8,B true),(9,B true)]∧H'=H) 0 ⟨rfl,rfl⟩ ?_;rintro m T H' ⟨rfl,rfl⟩;subst Js;unfold ON;obtain ⟨a_,ca⟩:∃ c,OM=c:=⟨_,rfl⟩;obtain ⟨RC,L3⟩:∃ c,TU=c:=⟨_,rfl⟩;rw [ca,L3];conv=>whnf
 rw [show IntKind.i64.wrap ((d.size:Int)-0)=(d.size:Int) by rw [IB _ (by omega) (by omega)];omega,decide_eq_true (show (d.size:Int)≤12 by omega)];conv=>whnf
 subst ca;unfold OM;conv=>whnf
 refine ⟨_,_,HB (aer bB d 0 d.size (by omega) (sC _) (sd _) ah),?_⟩;conv=>whnf
 exact bo _ _ _ ⟨.inr rfl,⟨rfl,fun j o aw=>.inr aw⟩,rfl⟩
end
theorem YX (n:Int):IntKind.u64.wrap n=n % 18446744073709551616:=by simp [IntKind.wrap,IntKind.bits,IntKind.signed]
theorem aeA:((List.range 13).all fun n=>match Qq [] 97 [.int .u64 (n:Nat)] with | some v=>Ik 3 v (hU (Sort.bitsLen n)) | none=>false)=true:=by kernel_rfl
theorem Pq (n:Nat) (h:n≤12):qw 97 [.int .u64 n] (hU (Sort.bitsLen n)):=by
 have:=sv.1 aeA n (sK.2 (by omega));split at this
 ·rename_i v ae;rw [MU _ _ _ this] at ae;exact r8 (l:=[]) (by simp) ae
 ·cases this
theorem ahb {H:List ar} {id lo:Nat} (bB:lo≤id) (d:Array Int) (a2:d.size≤12) (ah:H[id]?=some (JE d)) :
  Sem Go.Proofs.Tryz.prog (.fn 73) [Ii id d.size] H lo (.tuple []) (H.set id (JE (Sort.insertionSort Sort.ltInt d 0 d.size))):=by
 refine HC eo WQ rfl ⟨by simp,fun j ad af=>by rw [sj (by omega)]⟩ fun Q bo=>?_;unfold TD;conv=>whnf
 rw [show IntKind.u64.wrap (d.size:Int)=(d.size:Int) by rw [YX];omega];refine ⟨by first | rfl | simp only [tF,uE,M_,Nh,M',Nb,Na,Nc,Nj,Ni,Kk,Nd,Nf,Ng,uq,uD],_,Pq d.size a2,?_⟩
 conv=>whnf
 refine ⟨_,_,HB (afL bB d (Sort.bitsLen d.size) a2 ah),?_⟩;conv=>whnf
 exact bo _ _ _ ⟨.inl rfl,⟨rfl,fun j o aw=>.inr aw⟩,rfl⟩
end Go.Proofs.YtfakoboiahbhaaaGreat.Ab


namespace Go.Proofs.YtfakoboiahbhaaaGreat.Ab
open Go
noncomputable def afY:fT :=
 .oh false [pX 7 0,pZ 8 4,pX 9 4,GC 10 [.Bs 9] (.conv .u64),GC 11 [.lR (.func 97 [] []),.sl 10] (.call 3),pX 12 1,GC 13 [.lR (.func 127 [] []),.jf 7,.lR (.int .i64 0),.jf 8,.jf 11,.jf 12] (.call 1)]
noncomputable def S1:fT :=
 pY [pZ 5 0,qM 6 5,pX 4 6] afY
theorem WI:zD Go.Proofs.Tryz.prog UP 102=some (S1,14,[]):=by kernel_rfl
noncomputable def OI:fT :=
 pY [pX 26 0,pX 27 1,pX 28 2,pX 29 4,GC 30 [.lR (.func 138 [] []),.jf 26,.jf 27,.jf 28,.jf 29] (.call 1)] .ret
noncomputable def age:fT :=
 pY [pX 33 0,pX 34 1,pX 35 2,pX 36 4,GC 37 [.lR (.func 139 [] []),.jf 33,.jf 34,.jf 35,.jf 36] (.call 1)] .ret
noncomputable def agf:fT :=
 pY [pZ 40 0,pZ 41 1,pZ 42 2,pZ 43 4,GC 44 [.lR (.func 140 [] []),.jf 40,.jf 41,.jf 42,.jf 43] (.call 1)] (qv [pX 45 3,qq 46 45 1 .sub,pX 3 46])
noncomputable def agh:fT :=
 pY [pZ 62 2,qq 63 62 1 .sub,pX 64 13,pZ 65 1,qI 66 64 65 .sub,qI 67 63 66 .sub,pX 13 67] (qv [qa 14 1])
noncomputable def agi:fT :=
 pY [pZ 57 0,pZ 58 1,pZ 59 2,pZ 60 4,GC 61 [.lR (.func 142 [] []),.jf 57,.jf 58,.jf 59,.jf 60] (.call 1)] agh
noncomputable def agj:fT :=
 pY [pZ 76 0,pZ 77 1,pZ 78 2,pZ 79 4,GC 80 [.lR (.func 143 [] []),.jf 76,.jf 77,.jf 78,.jf 79] (.call 1)] (.cond (.sl 80) .ret .skip)
noncomputable def agk:fT :=
 pY [pZ 98 0,pX 99 1,pZ 100 2,pX 101 13,pZ 102 4,GC 103 [.lR (.func 144 [] []),.jf 98,.jf 99,.jf 100,.jf 101,.jf 102] (.call 1),pX 15 103] (pY [pX 104 15,pX 1 104] (.exit 1))
noncomputable def agl:fT :=
 pY [pZ 129 0,pX 130 1,pZ 131 16,pZ 132 3,pZ 133 4,GC 134 [.lR (.func 127 [] []),.jf 129,.jf 130,.jf 131,.jf 132,.jf 133] (.call 1)] (qv [pX 135 16,qE 136 135 1,pX 1 136])
noncomputable def agm:fT :=
 pY [pX 126 18,pX 127 20,qI 128 126 127 .geq,pX 10 128] agl
noncomputable def af7:fT :=
 pY [pZ 140 0,pZ 141 16,qE 142 141 1,pX 143 2,pZ 144 3,pZ 145 4,GC 146 [.lR (.func 127 [] []),.jf 140,.jf 142,.jf 143,.jf 144,.jf 145] (.call 1)] (qv [pX 147 16,pX 2 147])
noncomputable def af8:fT :=
 pY [pX 137 19,pX 138 20,qI 139 137 138 .geq,pX 10 139] af7
noncomputable def af9:fT :=
 pY [pX 121 12,qq 122 121 8 .quo,pX 20 122] (pY [pZ 123 18,pZ 124 19,qI 125 123 124 .lss] (.cond (.sl 125) agm af8))
noncomputable def af_:fT :=
 pY [pZ 115 16,pZ 116 1,qI 117 115 116 .sub,pZ 118 2,pZ 119 16,qI 120 118 119 .sub,pX 18 117,pX 19 120] af9
noncomputable def aga:fT :=
 pY [pZ 106 0,pZ 107 1,pZ 108 2,pX 109 13,pZ 110 4,GC 111 [.lR (.func 145 [] []),.jf 106,.jf 107,.jf 108,.jf 109,.jf 110] (.call 1),pX 105 111,rA 112 105 0,GC 113 [.Bs 105] (.ext 1),pX 16 112,pX 17 113] (pY [pX 114 17,pX 11 114] af_)
noncomputable def agb:fT :=
 .seq (.seq (Hi [pZ 81 1,qq 82 81 0 .gtr,pX 83 82,cR 84 [.sl 4] 83 true .mN,cR 85 [.sl 0] 83 true .mN,cR 86 [.sl 1] 83 true .mN,cR 87 [.Bs 86,.lR (.int .i64 1)] 83 true (.bin .sub),cR 88 [.Bs 85,.Bs 87] 83 true (.kQ 1),cR 89 [.Bs 88] 83 true (.zx .one),cR 90 [.sl 0] 83 true .mN,cR 91 [.sl 13] 83 true .mN,cR 92 [.Bs 90,.Bs 91] 83 true (.kQ 1),cR 93 [.Bs 92] 83 true (.zx .one),cR 94 [.sl 84,.sl 89,.sl 93] 83 true (.call 6),cR 95 [.Bs 94,.lR (.int .i64 0)] 83 true (.bin .lss),cR 96 [.Bs 95] 83 true (.un .not),GC 97 [.sl 83,.Bs 96,.lR (.bool false)] .pick]) (.cond (.sl 97) agk .skip)) aga
noncomputable def agc:fT :=
 .seq (pY [pZ 68 10,pX 69 68,cR 70 [.sl 11] 69 true .mN,GC 71 [.Bs 69,.Bs 70,.lR (.bool false)] .pick,pX 72 71,cR 73 [.jf 14] 72 true .mN,cR 74 [.Bs 73,.lR (.int .i64 1)] 72 true (.bin .eql),GC 75 [.Bs 72,.Bs 74,.lR (.bool false)] .pick] (.cond (.sl 75) agj .skip)) agb
noncomputable def agd:fT :=
 pY [pZ 48 0,pZ 49 1,pZ 50 2,pZ 51 4,GC 52 [.lR (.func 141 [] []),.jf 48,.jf 49,.jf 50,.jf 51] (.call 1),pX 47 52,rA 53 47 0,GC 54 [.Bs 47] (.ext 1),pX 13 53,pX 14 54] (.seq (pY [pZ 55 14,qq 56 55 2 .eql] (.cond (.sl 56) agi .skip)) agc)
noncomputable def Tp:fT :=
 .seq (pY [pZ 31 3,qq 32 31 0 .eql] (.cond (.sl 32) age .skip)) (.seq (pY [pZ 38 10,GC 39 [.Bs 38] (.un .not)] (.cond (.sl 39) agf .skip)) agd)
noncomputable def OJ:fT :=
 .block 1 (pY [pZ 21 2,pZ 22 1,qI 23 21 22 .sub,pX 12 23] (.seq (pY [pZ 24 12,qq 25 24 12 .leq] (.cond (.sl 25) OI .skip)) Tp))
noncomputable def Tn:fT :=
 pY [GC 10 [.lR (.bool true)] .mN] (pY [GC 11 [.lR (.bool true)] .mN] (.block 0 (.loop (some (p_ false [0,5,5,2,136])) OJ)))
theorem WN:zD Go.Proofs.Tryz.prog UX 127=some (Tn,148,[]):=by kernel_rfl
noncomputable def ago:fT :=
 .block 3 (Hi [pZ 37 0,pZ 38 9,pZ 39 0,pZ 40 9,qq 41 40 1 .sub,pZ 42 0,pZ 43 9,qq 44 43 1 .sub,qL 45 42 44 1,qc 46 45,pZ 47 0,pZ 48 9,qL 49 47 48 1,qc 50 49,qL 51 37 38 1,⟨none,[.jf 51,.jf 46],none,none,.st 1⟩,qL 52 39 41 1,⟨none,[.jf 52,.jf 50],none,none,.st 1⟩])
noncomputable def agp:fT :=
 .seq (.seq (Hi [pZ 18 9,pZ 19 1,qI 20 18 19 .gtr,pX 21 20,cR 22 [.sl 3] 21 true .mN,cR 23 [.sl 0] 21 true .mN,cR 24 [.sl 9] 21 true .mN,cR 25 [.Bs 23,.Bs 24] 21 true (.kQ 1),cR 26 [.Bs 25] 21 true (.zx .one),cR 27 [.sl 0] 21 true .mN,cR 28 [.sl 9] 21 true .mN,cR 29 [.Bs 28,.lR (.int .i64 1)] 21 true (.bin .sub),cR 30 [.Bs 27,.Bs 29] 21 true (.kQ 1),cR 31 [.Bs 30] 21 true (.zx .one),cR 32 [.sl 22,.sl 26,.sl 31] 21 true (.call 6),cR 33 [.Bs 32,.lR (.int .i64 0)] 21 true (.bin .lss),GC 34 [.sl 21,.Bs 33,.lR (.bool false)] .pick]) (.cond (.sl 34) .skip (.exit 2))) (.seq ago (qv [pX 35 9,qq 36 35 1 .sub,pX 9 36]))
noncomputable def agq:fT :=
 .block 1 (pY [pZ 17 8,pX 9 17] (.block 2 (.loop (some (p_ false [0,4,4,2,43])) agp)))
noncomputable def agr:fT :=
 .seq (pY [pZ 12 8,pZ 13 2,qI 14 12 13 .lss] (.cond (.sl 14) .skip (.exit 0))) (.seq agq (qv [pX 15 8,qE 16 15 1,pX 8 16]))
noncomputable def Tt:fT :=
 pY [pZ 10 1,qE 11 10 1,pX 8 11] (.block 0 (.loop (some (p_ false [0,4,4,1,44])) agr))
theorem WO:zD Go.Proofs.Tryz.prog U0 138=some (Tt,53,[]):=by kernel_rfl
noncomputable def af4:fT :=
 pY [pZ 11 1,pZ 12 0,pZ 13 5,qL 14 12 13 1,qc 15 14,GC 16 [.sl 11,.sl 15] (.call 6)] (.cond (.sl 16) (pY [pX 17 5,pX 4 17] .ret) .skip)
noncomputable def af5:fT :=
 .block 1 (pY [pZ 10 8,pX 5 10] af4)
noncomputable def af6:fT :=
 .seq (pY [pZ 6 0,qM 7 6,qa 8 0] (.block 0 (.loop (some (p_ false [0,2,5,2,10])) (pY [GC 9 [.sl 8,.sl 7] (.bin .lss)] (.seq (.cond (.sl 9) .skip (.exit 0)) (.seq af5 (qv [qE 18 8 1,pX 8 18]))))))) (pY [qa 4 (-1)] .ret)
noncomputable def Tm:fT :=
 pY [qa 4 0] af6
theorem WM:zD Go.Proofs.Tryz.prog UW 126=some (Tm,19,[.tmp 4]):=by kernel_rfl
noncomputable def TF:fT :=
 pY [pZ 45 0,pZ 46 3,pZ 47 4,pZ 48 5,qL 49 47 48 1,qc 50 49,qL 51 45 46 1,⟨none,[.jf 51,.jf 50],none,none,.st 1⟩] (qv [pX 52 3,qE 53 52 1,pX 3 53])
noncomputable def Xr:fT :=
 .block 3 (.seq (Hi [pZ 35 4,pZ 36 5,qL 37 35 36 1,qc 38 37,pZ 39 4,pZ 40 5,qq 41 40 1 .sub,qL 42 39 41 1,qc 43 42,qI 44 38 43 .neq]) (.cond (.sl 44) TF .skip))
noncomputable def TG:fT :=
 .seq (pY [pZ 29 5,pZ 30 4,qM 31 30,qI 32 29 31 .lss] (.cond (.sl 32) .skip (.exit 2))) (.seq Xr (qv [pX 33 5,qE 34 33 1,pX 5 34]))
noncomputable def Xs:fT :=
 pY [pX 57 0,pX 58 3,GC 59 [.jf 57,.jf 58] (.Bg 1 false true false),pX 2 59] .ret
noncomputable def TH:fT :=
 pY [pZ 54 0, pZ 55 3, GC 56 [.jf 54, .jf 55] (.Bg 1 true false false), ⟨none, [.jf 56], none, none, .other (Oper.mk none (Op.call (Call.mk (Callee.builtin Builtin.clear) (Array.mk [Operand.tmp 56]) (Array.mk [38]))) 0 "slices.go:385" (Array.mk [Edge.mk 2 Ground.data]) none) 0⟩] Xs
noncomputable def TI:fT :=
 pY [pZ 26 0,pZ 27 3,GC 28 [.jf 26,.jf 27] (.Bg 1 true false false),pX 4 28] (.seq (pY [qa 5 1] (.block 2 (.loop (some (p_ false [0,1,2,3,55])) TG))) TH)
noncomputable def Xt:fT :=
 .block 1 (.seq (Hi [pZ 16 0,pZ 17 3,qL 18 16 17 1,qc 19 18,pZ 20 0,pZ 21 3,qq 22 21 1 .sub,qL 23 20 22 1,qc 24 23,qI 25 19 24 .eql]) (.cond (.sl 25) TI .skip))
noncomputable def OL:fT :=
 .seq (pY [pZ 10 3,pZ 11 0,qM 12 11,qI 13 10 12 .lss] (.cond (.sl 13) .skip (.exit 0))) (.seq Xt (qv [pX 14 3,qE 15 14 1,pX 3 15]))
noncomputable def Nk:fT :=
 .seq (pY [⟨some 6,[.jf 0],none,some 0,.Bq⟩,qM 7 6,qq 8 7 2 .lss] (.cond (.sl 8) (pY [pX 9 0,pX 2 9] .ret) .skip)) (.seq (pY [qa 3 1] (.block 0 (.loop (some (p_ false [0,1,2,1,57])) OL))) (pY [pX 60 0,pX 2 60] .ret))
noncomputable def TE:fT :=
 pY [GC 2 [.lR (.ax [] 0 .full)] (.nil 1)] Nk
theorem WR:zD Go.Proofs.Tryz.prog Rw 74=some (TE,61,[.tmp 2]):=by kernel_rfl
end Go.Proofs.YtfakoboiahbhaaaGreat.Ab


namespace Go.Proofs.YtfakoboiahbhaaaGreat.Ab
open Go
set_option maxRecDepth 20000
set_option maxHeartbeats 4000000
noncomputable def ZN:fT :=
 pY [qa 4 0] (.seq (Hi [pX 5 0,GC 6 [.Bs 5,.lR (.int .i64 0)] (.kQ 1),qc 7 6,pX 8 1,GC 9 [.Bs 8,.lR (.int .i64 0)] (.kQ 1),qc 10 9,qI 11 7 10 .sub,pX 4 11]) .ret)
theorem aeL:zD Tryz.prog UQ 103=some (ZN,12,[.tmp 4]):=by kernel_rfl
def T' (x y:p7):Option Int :=
 p9 (0≤(0:Int)∧(0:Int)<(x.length:Int)) <|
 p9 (0≤(0:Int)∧(0:Int)<(y.length:Int)) <|
 some (w ((ix x (0:Int))-(ix y (0:Int))))
theorem aiz {x:p7} {y:p7} {v:Int} (h:T' x y=some v):qw 103 [(.ax (x.map hU) x.length .shared),(.ax (y.map hU) y.length .shared)] (hU v):=by
 refine q7 eo aeL rfl rfl fun Q bo=>?_;have jB:qK [.tmp 4] Q (fun v=>(hU v)) v:=fun T H bH=>bo _ T H bH;unfold T' at h;unfold ZN;conv=>whnf
 refine qs h id fun gD h=>?_;rw [Hh hU x (0:Int) gD];conv=>whnf
 refine qs h id fun gE h=>?_;rw [Hh hU y (0:Int) gE];conv=>whnf
 exact qd h jB rfl rfl

theorem ahp (d:Array (List Int)) (i j:Nat):(Sort.swp d i j).size=d.size:=by simp [Sort.swp]
theorem swp_get (d:Array (List Int)) (i j x:Nat) (hi:i<d.size) (aw:j<d.size):∃ y,y<d.size∧(x<d.size→(Sort.swp d i j)[x]! = d[y]!):=by
 by_cases ak:x<d.size
 ·by_cases af:x=j
  ·exact ⟨i,hi,fun _=>by subst af;simp [Sort.swp,aw]⟩
  ·by_cases ad:x=i
   ·exact ⟨j,aw,fun _=>by subst ad;simp [Sort.swp,hi,Array.getElem_setIfInBounds,Ne.symm af]⟩
   ·exact ⟨x,ak,fun _=>by simp [Sort.swp,ak,Array.getElem_setIfInBounds,Ne.symm ad,Ne.symm af]⟩
 ·exact ⟨i,hi,fun h=>absurd h ak⟩
def JF (g:Nat) (d:Array (List Int)):ar:=.grow (d.toList.map oL) g 1
theorem ab8 (d:Array (List Int)) (x:Nat) (h:x<d.size):(d.toList.map oL)[x]?=some (oL d[x]!):=by
 simp [h]
theorem ab9 (d:Array (List Int)) (x:Nat) (v:List Int):(d.toList.map oL).set x (oL v)=(d.setIfInBounds x v).toList.map oL:=by
 simp [uP]
theorem Qp {d:Array (List Int)} {n:Nat} (x:Nat) (e:n=x) (h:x<d.size) {K:I→Prop} (k:K (oL d[x]!)):eH (d.toList.map oL) n K:=by
 subst e;exact Es (ab8 d n h) k
theorem YW {d:Array (List Int)} {n:Nat} {v:List Int} (x:Nat) (e:n=x) (h:x<d.size) {K:List I→Prop} (k:K ((d.setIfInBounds x v).toList.map oL)):ji (d.toList.map oL) n (oL v) K:=by
 subst e;refine Bu (by simpa using h) ?_;rw [ab9];exact k
def KA (l:List Int):Prop:=l≠[]∧0≤ix l 0∧ix l 0≤1000
def HQ (x y:List Int):Bool:=decide (ix x 0<ix y 0)
theorem ack {x y:List Int} (ak:KA x) (aY:KA y):∃ r:Int,qw 103 [oL x,oL y] (hU r)∧decide (r<0)=HQ x y:=by
 refine ⟨ix x 0-ix y 0,aiz ?_,?_⟩
 ·have ad:=uH.2 ak.1;have af:=uH.2 aY.1;rw [T',qg ⟨by omega,by omega⟩,qg ⟨by omega,by omega⟩,HT (by have:=ak.2;have:=aY.2;omega)]
 ·unfold HQ;congr 1;exact propext (by omega)
section
variable {H:List ar} {id lo g:Nat} (bB:lo≤id)
include bB
theorem aeq (d:Array (List Int)) (a b:Nat) (a2:d.size≤1000) (cb:a≤b) (ag:b≤d.size) (ah:H[id]?=some (JF g d)) (Oe:∀ x,x<d.size→KA d[x]!) :
  Sem Go.Proofs.Tryz.prog (.fn 138) [Ii id d.size,hU a,hU b,.func 103 [] []] H lo (.tuple []) (H.set id (JF g (Sort.insertionSort HQ d a b))):=by
 have aE:=(sb.1 ah).1;refine RQ eo WO rfl ⟨by simp,fun j ad af=>by rw [sj (by omega)]⟩ ?_;unfold Tt;conv=>whnf
 have CI:Nat.ble lo id=true:=uj bB;have gs:∀ c:ar,(H.set id c)[id]?=some c:=fun c=>by rw [si aE]
 have Iq:∀ c e:ar,((H.set id c).set id e)[id]?=some e:=fun c e=>by rw [sU,gs]
 rw [Ho a (by omega)];refine .intro (fun m T H'=>∃ i gX,a+1≤i∧(i≤b∨i=a+1)∧m=b+1-i∧gX.size=d.size∧(∀ x,x<d.size→KA gX[x]!)∧Sort.insOuter HQ a b i gX=Sort.insertionSort HQ d a b∧T=Hc 53 [(0,Ii id d.size),(1,hU a),(2,hU b),(3,.func 103 [] []),(8,hU i)]∧H'=H.set id (JF g gX)) (b-a) ⟨a+1,d,by omega,.inr rfl,by omega,rfl,Oe,rfl,rfl,?_⟩ ?_
 ·obtain ⟨ad,af⟩:=sb.1 ah;rw [←af,vk]
 rintro m T H' ⟨i,gX,adI,Wl,rfl,CT,CD,he,rfl,rfl⟩;conv=>whnf
 refine I4 (fun h=>?_) (fun h=>?_)
 ·conv=>whnf
  refine .intro (fun j T H'=>∃ rk:Array (List Int),j≤i∧rk.size=d.size∧(∀ x,x<d.size→KA rk[x]!)∧Sort.insInner HQ a j rk=Sort.insInner HQ a i gX∧T=Hc 53 [(0,Ii id d.size),(1,hU a),(2,hU b),(3,.func 103 [] []),(8,hU i),(9,hU j)]∧H'=H.set id (JF g rk)) i ⟨gX,sd _,CT,CD,rfl,rfl,rfl⟩ ?_;rintro j T H' ⟨rk,aw,L9,Od,L_,rfl,rfl⟩;conv=>whnf
  by_cases aG:(a:Int)<(j:Int)
  ·rw [decide_eq_true aG];obtain ⟨y,rfl⟩:∃ y,j=y+1:=⟨j-1,by omega⟩;(have hw:IntKind.i64.wrap (((y+1:Nat):Int)-1)=(y:Int):=by rw [IB _ (by omega) (by omega)];omega);obtain ⟨r,aj,Dw⟩:=ack (Od (y+1) (by omega)) (Od y (by omega));(conv=>whnf);refine ⟨by omega,?_⟩;(conv=>whnf);refine Es (by first | exact gs _ | exact Iq _ _ | assumption) ?_
   (conv=>whnf);refine Qp (y+1) (by omega) (by first | omega | (simp only [ur];omega)) ?_
   (conv=>whnf);rw [hw];refine ⟨by omega,?_⟩;(conv=>whnf);refine Es (by first | exact gs _ | exact Iq _ _ | assumption) ?_
   (conv=>whnf);refine Qp (y) (by omega) (by first | omega | (simp only [ur];omega)) ?_
   (conv=>whnf);refine ⟨(p1 (rX (fun _=>rfl) _ _ _) (p1 (rX (fun _=>rfl) _ _ _) rfl)),[oL rk[y+1]!,oL rk[y]!],rfl,_,rfl,aj,Jo,?_⟩;(conv=>whnf);rw [Dw];by_cases a5:HQ rk[y+1]! rk[y]! = true
   ·rw [a5];(conv=>whnf);rw [hw];refine ⟨by omega,?_⟩;(conv=>whnf);refine Es (by first | exact gs _ | exact Iq _ _ | assumption) ?_
    (conv=>whnf);refine Qp (y) (by omega) (by first | omega | (simp only [ur];omega)) ?_
    (conv=>whnf);refine ⟨by omega,?_⟩;(conv=>whnf);refine Es (by first | exact gs _ | exact Iq _ _ | assumption) ?_
    (conv=>whnf);refine Qp (y+1) (by omega) (by first | omega | (simp only [ur];omega)) ?_
    (conv=>whnf);refine ⟨by omega,?_⟩;(conv=>whnf);rw [CI];(conv=>whnf);refine Es (by first | exact gs _ | exact Iq _ _ | assumption) ?_
    (conv=>whnf);refine YW (y+1) (by omega) (by first | omega | (simp only [ur];omega)) ?_
    (conv=>whnf);refine ⟨by omega,?_⟩;(conv=>whnf);rw [CI];(conv=>whnf);refine Es (by first | exact gs _ | exact Iq _ _ | assumption) ?_
    (conv=>whnf);refine YW (y) (by omega) (by first | omega | (simp only [ur];omega)) ?_
    (conv=>whnf);refine ⟨y,by omega,Sort.swp rk (y+1) y,by omega,by rw [ahp];exact L9,?_,?_,?_,?_⟩
    ·intro x ak;obtain ⟨z,bj,bL⟩:=swp_get rk (y+1) y x (by omega) (by omega);rw [bL (by omega)];exact Od z (by omega)
    ·rw [←L_,Sort.insInner,if_pos (by simp only [sx,decide_eq_true_eq];exact ⟨by omega,a5⟩)]
    ·rw [hw];rfl
    ·simp only [sU];rfl
   ·rw [Bool.not_eq_true] at a5;rw [a5];(conv=>whnf);have e:Sort.insInner HQ a i gX=rk:=by
     rw [←L_,Sort.insInner,if_neg (by simp only [sx,decide_eq_true_eq];exact fun bH=>by rw [a5] at bH;exact absurd bH.2 (by decide))]
    exact ⟨b+1-(i+1),by omega,i+1,rk,by omega,by omega,rfl,L9,Od,by rw [←he,Sort.insOuter.eq_1 _ a b i,if_pos (by omega),e],by rw [←Ho i (by omega)];rfl,rfl⟩
  ·rw [decide_eq_false aG];(conv=>whnf);have e:Sort.insInner HQ a i gX=rk:=by
    rw [←L_];cases j with
    | zero=>rfl
    | succ y=>rw [Sort.insInner,if_neg (by simp only [sx,decide_eq_true_eq];exact fun bH=>by omega)]
   exact ⟨b+1-(i+1),by omega,i+1,rk,by omega,by omega,rfl,L9,Od,by rw [←he,Sort.insOuter.eq_1 _ a b i,if_pos (by omega),e],by rw [←Ho i (by omega)];rfl,rfl⟩
 ·conv=>whnf
  have e:Sort.insertionSort HQ d a b=gX:=by
   rw [←he];unfold Sort.insOuter;rw [if_neg (by omega)]
  rw [e];exact ⟨.inl rfl,⟨by simp,fun j o aw=>.inr aw⟩,rfl⟩
theorem afN (d:Array (List Int)) (Jx:Int) (a2:d.size≤12) (ah:H[id]?=some (JF g d)) (Oe:∀ x,x<d.size→KA d[x]!) :
  Sem Go.Proofs.Tryz.prog (.fn 127) [Ii id d.size,hU 0,hU d.size,hU Jx,.func 103 [] []] H lo (.tuple []) (H.set id (JF g (Sort.insertionSort HQ d 0 d.size))):=by
 refine HC eo WN rfl ⟨by simp,fun j ad af=>by rw [sj (by omega)]⟩ fun Q bo=>?_;unfold Tn;obtain ⟨RD,Js⟩:∃ c,OJ=c:=⟨_,rfl⟩;rw [Js];conv=>whnf
 refine .intro (fun m T H'=>T=Hc 148 [(0,Ii id d.size),(1,hU 0),(2,hU d.size),(3,hU Jx),(4,.func 103 [] []),(10,B true),(11,B true)]∧H'=H) 0 ⟨rfl,rfl⟩ ?_;rintro m T H' ⟨rfl,rfl⟩;subst Js;unfold OJ;obtain ⟨a_,ca⟩:∃ c,OI=c:=⟨_,rfl⟩;obtain ⟨RC,L3⟩:∃ c,Tp=c:=⟨_,rfl⟩;rw [ca,L3];conv=>whnf
 rw [show IntKind.i64.wrap ((d.size:Int)-0)=(d.size:Int) by rw [IB _ (by omega) (by omega)];omega,decide_eq_true (show (d.size:Int)≤12 by omega)];conv=>whnf
 subst ca;unfold OI;conv=>whnf
 refine ⟨_,_,HB (aeq bB d 0 d.size (by omega) (sC _) (sd _) ah Oe),?_⟩;conv=>whnf
 exact bo _ _ _ ⟨.inr rfl,⟨rfl,fun j o aw=>.inr aw⟩,rfl⟩
end
theorem ahh {H:List ar} {id lo g:Nat} (bB:lo≤id) (d:Array (List Int)) (a2:d.size≤12) (ah:H[id]?=some (JF g d)) (Oe:∀ x,x<d.size→KA d[x]!) :
  Sem Go.Proofs.Tryz.prog (.fn 102) [Ii id d.size,.func 103 [] []] H lo (.tuple []) (H.set id (JF g (Sort.insertionSort HQ d 0 d.size))):=by
 refine HC eo WI rfl ⟨by simp,fun j ad af=>by rw [sj (by omega)]⟩ fun Q bo=>?_;unfold S1;conv=>whnf
 rw [show IntKind.u64.wrap (d.size:Int)=(d.size:Int) by rw [YX];omega];refine ⟨by first | rfl | simp only [tF,uE,M_,Nh,M',Nb,Na,Nc,Nj,Ni,Kk,Nd,Nf,Ng,uq,uD],_,Pq d.size a2,?_⟩
 conv=>whnf
 refine ⟨_,_,HB (afN bB d (Sort.bitsLen d.size) a2 ah Oe),?_⟩;conv=>whnf
 exact bo _ _ _ ⟨.inl rfl,⟨rfl,fun j o aw=>.inr aw⟩,rfl⟩
end Go.Proofs.YtfakoboiahbhaaaGreat.Ab


namespace Go.Proofs.YtfakoboiahbhaaaGreat.Ab
open Go
def aaA:db:={ ops:=[[],[{},{},{},{ takes:=[true] }],[{},{ takes:=[true] }],[{ takes:=[true] },{ takes:=[true],mode:=4 }],[{},{ takes:=[true] },{ takes:=[true] }],[{},{},{ takes:=[true] },{ takes:=[true,true] }],[{ takes:=[true] },{ takes:=[true] },{ takes:=[true] }],[{},{},{ takes:=[true,true] },{ takes:=[true] },{ takes:=[true] }],[{},{},{ mode:=6 },{ takes:=[true] }],[{},{},{ takes:=[true] },{ takes:=[true,true] },{ takes:=[true,true] }],[{ takes:=[true] },{ takes:=[true] },{ takes:=[true] }],[{},{},{ takes:=[true,true] },{ takes:=[true] }],[{ takes:=[true] },{ takes:=[true] },{ takes:=[true,true] },{ takes:=[true],mode:=4 }]],h_:=[(0,(p_ false [0,2,3,2,35]))] }
noncomputable def SW:fT :=
 pY [pZ 30 0,pZ 31 5,pX 32 7,qL 33 30 31 1,⟨none,[.jf 33,.jf 32],none,none,.st 1⟩] (qv [pX 34 5,qE 35 34 1,pX 5 35])
noncomputable def SX:fT :=
 pY [pZ 26 1,pZ 27 7,GC 28 [.sl 26,.sl 27] (.call 6),GC 29 [.Bs 28] (.un .not)] (.cond (.sl 29) SW .skip)
noncomputable def SY:fT :=
 .block 1 (pY [pZ 22 0,pZ 23 6,qL 24 22 23 1,qc 25 24,pX 7 25] SX)
noncomputable def Qd:fT :=
 .seq (pY [pZ 16 6,pZ 17 0,qM 18 17,qI 19 16 18 .lss] (.cond (.sl 19) .skip (.exit 0))) (.seq SY (qv [pX 20 6,qE 21 20 1,pX 6 21]))
noncomputable def SZ:fT :=
 pY [pX 39 0, pX 40 5, GC 41 [.jf 39, .jf 40] (.Bg 1 false true false), GC 4 [.jf 41] (.other (Oper.mk (some 4) (Op.assign (Operand.tmp 41)) 41 "slices.go:254" (Array.mk [Edge.mk 2 Ground.data, Edge.mk 0 Ground.phase, Edge.mk 1 Ground.phase, Edge.mk 2 Ground.phase]) none) 4)] .ret
noncomputable def Qe:fT :=
 pY [pZ 36 0, pZ 37 5, GC 38 [.jf 36, .jf 37] (.Bg 1 true false false), ⟨none, [.jf 38], none, none, .other (Oper.mk none (Op.call (Call.mk (Callee.builtin Builtin.clear) (Array.mk [Operand.tmp 38]) (Array.mk [41]))) 0 "slices.go:253" (Array.mk [Edge.mk 2 Ground.data]) none) 0⟩] SZ
noncomputable def OE:fT :=
 .seq (pY [pZ 11 5, qq 12 11 (-1) .eql] (.cond (.sl 12) (pY [pX 13 0, GC 4 [.jf 13] (.other (Oper.mk (some 4) (Op.assign (Operand.tmp 13)) 41 "slices.go:244" (Array.mk [Edge.mk 0 Ground.data, Edge.mk 0 Ground.phase]) none) 4)] .ret) .skip)) (.seq (pY [pZ 14 5, qE 15 14 1, pX 6 15] (.block 0 (.loop (some (p_ false [0, 2, 3, 2, 35])) Qd))) Qe)
noncomputable def OG:fT :=
 pY [pZ 8 0,pZ 9 1,GC 10 [.lR (.func 126 [] []),.sl 8,.sl 9] (.call 0),pX 5 10] OE
noncomputable def SV:fT :=
 pY [GC 4 [.lR (.ax [] 0 .full)] (.nil 1)] OG
theorem WH:zD Go.Proofs.Tryz.prog aaA 101=some (SV,42,[.tmp 4]):=by kernel_rfl
end Go.Proofs.YtfakoboiahbhaaaGreat.Ab


namespace Go.Proofs.YtfakoboiahbhaaaGreat.Ab
open Go
set_option maxRecDepth 20000
set_option maxHeartbeats 4000000
theorem Pt {P:Program} {k:FuncId} {args:List I} {H H':List ar} {lo:Nat} {v:I} (aB:ch 8 v=true) (h:Sem P (.fn k) args H H.length v H'):oJ P 0 lo (.fn k) args H v H:=by
 refine ⟨_,Ew h,?_⟩;have b':bI H' H.length H'.length 0 8 v=some v:=o9 aB;simp only [eZ,Ev,sc,b',sf]
theorem ael {p:List Int→Bool}:∀ (l:List (List Int)) (i:Nat) (h:i<l.length),idxOf p (l.drop i) i=if p l[i]=true then (i:Int) else idxOf p (l.drop (i+1)) (i+1):=fun l i h=>by
 rw [sQ h,idxOf]
theorem TV (d:List (List Int)) {n:Int} {i:Nat} (aN:n=i) (h:i<d.length):(d.map oL)[0+n.toNat*1]?=some (oL d[i]):=by
 subst aN;simp [h]
section
variable {id lo g:Nat} {H:List ar} {Jr:FuncId} {H6 cs:List I} {p:List Int→Bool} {d:List (List Int)}
theorem aem (aP:H6.map (im H)=cs) (M1:cs.map I.cq=cs) (CQ:cs.all (ch 8)=true) (a2:d.length≤1000) (av:∀ r∈d,qw Jr (oL r::cs) (B (p r))) (ah:H[id]?=some (.grow (d.map oL) g 1)) :
  Sem Go.Proofs.Tryz.prog (.fn 126) [.ref id 0 d.length none 1,.func Jr [] H6] H lo (hU (idxOf p d 0)) H:=by
 refine HC eo WM rfl ⟨sd _,fun j _ _=>rfl⟩ fun Q bo=>?_;unfold Tm;conv=>whnf
 refine .intro (fun m T H'=>∃ i,i≤d.length∧m=d.length-i∧idxOf p d 0=idxOf p (d.drop i) i∧T=[.ref id 0 d.length none 1,.func Jr [] H6,rF,rF,rF,rF,rF,hU d.length,hU i,rF,rF,rF,rF,rF,rF,rF,rF,rF,rF]∧H'=H) d.length ⟨0,by omega,by omega,rfl,rfl,rfl⟩ ?_;rintro m T H' ⟨i,hi,rfl,he,rfl,rfl⟩;conv=>whnf
 refine I4 (fun h=>?_) (fun h=>?_)
 ·have aS:i<d.length:=by omega
  rw [ael d i aS] at he;conv=>whnf
  refine ⟨by omega,?_⟩;conv=>whnf
  refine Es ah ?_;conv=>whnf
  refine Es (TV d rfl aS) ?_;conv=>whnf
  refine ⟨_,_,call6 (bs:=oL d[i]::cs) ?_ ?_ (av _ (sI aS)) rfl,?_⟩
  ·show (_::H6.map (im H')).map I.cq=_;rw [aP,sG,M1];rfl
  ·show (_::H6.map (im H')).all (ch 8)=true;rw [aP];exact p1 (rX (fun _=>rfl) _ _ _) CQ
  conv=>whnf
  cases aB:p d[i] with
  | true =>
    (conv=>whnf);rw [aB,if_pos rfl] at he;exact bo _ _ _ ⟨.inr rfl,⟨rfl,fun j o aw=>.inr aw⟩,by rw [he];rfl⟩
  | false =>
    (conv=>whnf);rw [aB,if_neg (by simp)] at he;exact ⟨d.length-(i+1),by omega,i+1,by omega,rfl,he,by rw [←Ho i (by omega)] <;> rfl,rfl⟩
 ·obtain rfl:i=d.length:=by omega
  rw [List.drop_length] at he;conv=>whnf
  exact bo _ _ _ ⟨.inr rfl,⟨rfl,fun j o aw=>.inr aw⟩,by rw [he];rfl⟩
end
theorem Vq {P:Program} {C:b7} {lo id gid n:Nat} {o:Oper} {x:Operand} {H:List ar} {l:List I} (aq:o.op=.assign x) (bB:lo≤id) (ah:H[id]?=some (.grow l gid 1)) (aN:n≤l.length) (aB:(l.take n).all I.plain=true) :
  a4 P C lo o 4 [.ck id gid n 1] H=some (.ax (l.take n) n (.uniq 1),H.set id .dead):=by
 unfold a4;rw [aq];show eV P lo 4 o.type x H [.ck id gid n 1]=_;unfold eV;simp only [bB,if_true,ah];rw [if_pos ⟨trivial,trivial,by omega,by rw [tJ];exact aB⟩,tJ]
theorem XC (l:List (List Int)) (n:Nat):((l.map oL).take n).all I.plain=true:=by
 rw [sv];intro u hu;obtain ⟨x,_,rfl⟩:=sk.1 (List.mem_of_mem_take hu);rfl
theorem acg {P:Program} {lo id off len:Nat} {H:List ar} {l:List I} {g:Nat} {cap:Option Nat} {e:TypeId} {ts:Array TypeId} (e1:(ts[0]?).bind P.underlying=some (.slice e)) (b':bC P e=some 1) {z:I} (du:zeroCells P e=some [z]) (bB:lo≤id)
  (ah:H[id]?=some (.grow l g 1)) (aN:off+len≤l.length):k3 P lo ts H [.ref id off len cap 1]=some (.tuple [],H.set id (.grow (setCells off (e5 len [z]) l) g 1)):=by
 unfold k3;simp only [e1,b',du,hd,ah,sf,if_pos bB];rw [if_pos ⟨trivial,rfl,by decide⟩,if_pos (by omega)];rfl
theorem VB {off len:Nat} {l:List I} {z:I} (aN:off+len≤l.length):(setCells off (e5 len [z]) l).take off=l.take off:=by
 apply tH;intro j;rw [sR,sR];split
 ·rw [m3 _ _ _ _ (by rw [ih];simp;omega),if_neg (by omega)]
 ·rfl
theorem ach {off len:Nat} {l:List I} {z:I}:(setCells off (e5 len [z]) l).length=l.length:=lk _ _ _
theorem Wx {α:Type} (p:α→Bool):∀ (l:List α) (i:Nat),(idxOf p l i=-1∧∀ x∈l,p x=false)∨∃ k,∃ h:k<l.length,idxOf p l i=((i+k:Nat):Int)∧p l[k]=true∧∀ x∈l.take k,p x=false
 | [],i=>.inl ⟨rfl,fun x ak=>absurd ak (by simp)⟩
 | x::l,i=>by
   rw [idxOf];cases ak:p x with
   | true=>rw [if_pos rfl];exact .inr ⟨0,by simp,by simp,ak,fun y aY=>absurd aY (by simp)⟩
   | false =>
     rw [if_neg (by simp)];rcases Wx p l (i+1) with ⟨ad,af⟩ | ⟨k,av,ad,af,aG⟩
     ·exact .inl ⟨ad,fun y aY=>by rcases sq.1 aY with rfl | aY;exact ak;exact af y aY⟩
     ·refine .inr ⟨k+1,by simp;omega,by rw [ad];omega,af,fun y aY=>?_⟩;rw [wh] at aY;rcases sq.1 aY with rfl | aY
      ·exact ak
      ·exact aG y aY
theorem VR {p:List Int→Bool} {l:List (List Int)} (h:∀ x∈l,p x=false):l.filter (fun r=>!p r)=l:=List.filter_eq_self.2 fun x ak=>by rw [h x ak];rfl
section
variable {id lo g:Nat} {H:List ar} {Jr:FuncId} {H6 cs:List I} {p:List Int→Bool} {d:List (List Int)}
theorem acx (bB:lo≤id) (aP:∀ c:ar,H6.map (im (H.set id c))=cs) (M1:cs.map I.cq=cs) (CQ:cs.all (ch 8)=true) (a2:d.length≤1000) (av:∀ r∈d,qw Jr (oL r::cs) (B (p r))) (ah:H[id]?=some (.grow (d.map oL) g 1)) :
  Sem Go.Proofs.Tryz.prog (.fn 101) [.ck id g d.length 1,.func Jr [] H6] H lo (.ax ((d.filter fun r=>!p r).map oL) (d.filter fun r=>!p r).length (.uniq 1)) (H.set id .dead):=by
 have aE:=(sb.1 ah).1;refine HC eo WH rfl ⟨by simp,fun j ad af=>by rw [sj (by omega)]⟩ fun Q bo=>?_;have gs:∀ c:ar,(H.set id c)[id]?=some c:=fun c=>by rw [si aE]
 obtain ⟨Ph,gC⟩:∃ Ph,Ph=H:=⟨H,rfl⟩;rw [show H=Ph.set id (.grow (d.map oL) g 1) by rw [gC];exact (ag_ bB ah).symm];rw [←gC] at gs aP bo;unfold SV;obtain ⟨nj,Hl⟩:∃ c,OG=c:=⟨_,rfl⟩;rw [Hl];conv=>whnf
 subst Hl;unfold OG;obtain ⟨ni,Io⟩:∃ c,OE=c:=⟨_,rfl⟩;rw [Io];conv=>whnf
 refine ⟨_,_,Pt rfl (aem (aP _) M1 CQ a2 av (gs _)),?_⟩;conv=>whnf
 subst Io;unfold OE;obtain ⟨fW,HF⟩:∃ c,Qe=c:=⟨_,rfl⟩;obtain ⟨b8,iD⟩:∃ c,Qd=c:=⟨_,rfl⟩;rw [HF,iD];rcases Wx p d 0 with ⟨hi,eS⟩ | ⟨k,C_,hi,ad5,eS⟩
 ·rw [hi];conv=>whnf
  refine ⟨_,_,fun C=>Vq rfl bB (gs _) (by simp) (XC _ _),?_⟩;rw [sU];conv=>whnf
  refine bo _ _ _ ⟨.inr rfl,⟨rfl,fun j o aw=>.inr aw⟩,?_⟩;rw [VR eS];show some (I.ax ((d.map oL).take d.length) d.length (.uniq 1))=_;rw [tT (by simp)]
 ·rw [hi];rw [sS];conv=>whnf
  rw [Ho k (by omega)];refine .intro (fun m T H'=>∃ (i j:Nat) (s:List (List Int)),i<j∧j≤d.length∧m=d.length-j∧s.length=d.length∧s.take i=(d.take j).filter (fun r=>!p r)∧s.drop j=d.drop j∧T=Hc 42 [(0,.ck id g d.length 1),(1,.func Jr [] H6),(5,hU i),(6,hU j)]∧H'=Ph.set id (.grow (s.map oL) g 1)) (d.length-(k+1)) ⟨k,k+1,d,by omega,by omega,rfl,rfl,?_,rfl,rfl,rfl⟩ ?_
  ·rw [tO C_,uG,VR eS];simp [ad5]
  rintro m T H' ⟨i,j,s,g3,aw,rfl,ai,ay,Sk,rfl,rfl⟩;subst iD;unfold Qd;obtain ⟨br,en⟩:∃ c,SY=c:=⟨_,rfl⟩;rw [en];conv=>whnf
  refine I4 (fun h=>?_) (fun h=>?_)
  ·(have aS:j<d.length:=by omega);have M4:s[j]'(by omega)=d[j]:=by
    have:=congrArg (fun l=>l[0]?) Sk;simpa [sZ,aS,ai] using this
   (conv=>whnf);subst en;unfold SY;obtain ⟨ba,b5⟩:∃ c,SX=c:=⟨_,rfl⟩;rw [b5];(conv=>whnf);refine ⟨by omega,?_⟩;(conv=>whnf);refine Es (gs _) ?_;(conv=>whnf);refine Es (TV s rfl (by omega)) ?_;rw [M4];(conv=>whnf);subst b5;unfold SX;obtain ⟨a_,ca⟩:∃ c,SW=c:=⟨_,rfl⟩;rw [ca];(conv=>whnf);refine ⟨_,_,call6 (bs:=oL d[j]::cs) ?_ ?_ (av _ (sI aS)) rfl,?_⟩
   ·show (_::H6.map (im _)).map I.cq=_;rw [aP,sG,M1];rfl
   ·show (_::H6.map (im _)).all (ch 8)=true;rw [aP];exact p1 (rX (fun _=>rfl) _ _ _) CQ
   (conv=>whnf);have PU:(d.take (j+1)).filter (fun r=>!p r)=(d.take j).filter (fun r=>!p r)++[d[j]].filter (fun r=>!p r):=by
    rw [tO aS,uG]
   cases aB:p d[j] with
   | true =>
     (conv=>whnf);refine ⟨d.length-(j+1),by omega,i,j+1,s,by omega,by omega,rfl,ai,?_,?_,by rw [←Ho j (by omega)] <;> rfl,rfl⟩
     ·rw [PU,ay];simp [aB]
     ·have:=congrArg (List.drop 1) Sk;simpa [List.drop_drop,tf] using this
   | false =>
     (conv=>whnf);subst ca;unfold SW;refine IW fun m' Hv=>?_;(conv=>whnf);refine ⟨by omega,?_⟩;(conv=>whnf);rw [show Nat.ble lo id=true from uj bB];(conv=>whnf);refine Es (gs _) ?_;(conv=>whnf);refine Bu (by simp;omega) ?_;(conv=>whnf);rw [sU];refine Hv _ _ _ ?_;(conv=>whnf);refine ⟨d.length-(j+1),by omega,i+1,j+1,s.set i d[j],by omega,by omega,rfl,by simpa using ai,?_,?_,by rw [←Ho j (by omega),←Ho i (by omega)] <;> rfl,?_⟩
     ·rw [PU,←ay,tO (by rw [List.length_set];omega),List.getElem_set_self,List.take_set_of_le (sd _)];simp [aB]
     ·rw [List.drop_set_of_lt (by omega)];have:=congrArg (List.drop 1) Sk;simpa [List.drop_drop,tf] using this
     ·rw [show 0+(i:Int).toNat*1=i by simp,uP];rfl
  ·(obtain rfl:j=d.length:=by omega);rw [List.take_length] at ay;(have qX:i=(d.filter fun r=>!p r).length:=by rw [←ay,ta];omega);(conv=>whnf);subst HF;unfold Qe;obtain ⟨dV,Cs⟩:∃ c,SZ=c:=⟨_,rfl⟩;rw [Cs];(conv=>whnf);refine ⟨rfl,⟨by omega,by omega⟩,fun aS=>?_,fun heq=>absurd heq (by omega)⟩;(conv=>whnf);refine ⟨_,_,fun C=>(SJ rfl).trans (acg (e:=38) (z:=.ax [] 0 .full) (by kernel_rfl) (by kernel_rfl) (by kernel_rfl) bB (gs _) (by simp;omega)),?_⟩;rw [sU];(conv=>whnf);subst Cs;unfold SZ;(conv=>whnf);refine ⟨⟨by omega,by omega⟩,?_⟩;(conv=>whnf);refine ⟨_,_,fun C=>Vq rfl bB (gs _) ?_ ?_,?_⟩
   ·rw [ach];simp;omega
   ·rw [show 0+(i:Int).toNat*1=(i:Int).toNat by omega,VB (by simp;omega)];exact XC _ _
   rw [sU];(conv=>whnf);refine bo _ _ _ ⟨.inr rfl,⟨rfl,fun j o aw=>.inr aw⟩,?_⟩;show some (I.ax (List.take (i:Int).toNat _) (i:Int).toNat (.uniq 1))=_;rw [show 0+(i:Int).toNat*1=(i:Int).toNat by omega,VB (by simp;omega),Int.toNat_natCast,←ue,ay,←qX]
end

theorem Wz {α:Type} [Inhabited α] (lt:α→α→Bool) (d:Array α) (a b:Nat):(Sort.insertionSort lt d a b).size=d.size:=by
 have aho:∀ (d:Array α) (i j:Nat),(Sort.swp d i j).size=d.size:=fun d i j=>by simp [Sort.swp]
 have kv:∀ (j:Nat) (d:Array α),(Sort.insInner lt a j d).size=d.size:=fun j=>by
  induction j with
  | zero=>intro d;rfl
  | succ j a9 =>
    intro d;rw [Sort.insInner];split
    ·rw [a9,aho]
    ·rfl
 show (Sort.insOuter lt a b (a+1) d).size=d.size
 have:∀ (n i:Nat) (d:Array α),b-i=n→(Sort.insOuter lt a b i d).size=d.size:=fun n=>by
  induction n with
  | zero=>intro i d h;rw [Sort.insOuter.eq_1,if_neg (by omega)]
  | succ n a9=>intro i d h;rw [Sort.insOuter.eq_1,if_pos (by omega),a9 _ _ (by omega),kv]
 exact this _ _ d rfl
def r9 (l:List Int):List Int:=(Sort.insertionSort Sort.ltInt l.toArray 0 l.length).toList
theorem Qu (l:List Int):(r9 l).length=l.length:=by
 unfold r9;rw [tu,Wz];simp
theorem XS {H:List ar} {id lo n:Nat} (l:List Int) (bB:lo≤id) (ao:l.length≤12) (aN:n=l.length) (ah:H[id]?=some (.cells (l.map hU))) :
  Sem Go.Proofs.Tryz.prog (.fn 73) [.ref id 0 n none 1] H lo (.tuple []) (H.set id (.cells ((r9 l).map hU))):=by
 subst aN;have:=ahb bB l.toArray (by simpa using ao) (by simpa [JE] using ah);simpa [JE,Ii,r9] using this
def Iy (l:List (List Int)):List (List Int):=(Sort.insertionSort HQ l.toArray 0 l.length).toList
theorem T0 (l:List (List Int)):(Iy l).length=l.length:=by
 unfold Iy;rw [tu,Wz];simp
def Nn (l:List Int):Bool:=!l.isEmpty && decide (0≤ix l 0) && decide (ix l 0≤1000)
theorem agX {l:List Int} (h:Nn l=true):KA l:=by
 simp only [Nn,sx,decide_eq_true_eq] at h;exact ⟨by intro e;subst e;simp at h,h.1.2,h.2⟩
theorem ahk {H:List ar} {id lo n g:Nat} (l:List (List Int)) (bB:lo≤id) (ao:l.length≤12) (aj:l.all Nn=true) (aN:n=l.length) (ah:H[id]?=some (.grow (l.map oL) g 1)) :
  Sem Go.Proofs.Tryz.prog (.fn 102) [.ref id 0 n none 1,.func 103 [] []] H lo (.tuple []) (H.set id (.grow ((Iy l).map oL) g 1)):=by
 subst aN
 have:=ahh bB l.toArray (by simpa using ao) (g:=g) (by simpa [JF] using ah) (fun x ak=>by
  have ak:x<l.length:=by simpa using ak
  have:=sv.1 aj l[x] (sI ak);have e:l.toArray[x]! = l[x]:=by simp [ak]
  rw [e];exact agX this)
 simpa [JF,Ii,Iy] using this
def L0 (f:List Int→Option Bool):List (List Int)→Option (List (List Int))
 | []=>some []
 | r::l=>(f r).bind fun b=>(L0 f l).bind fun l'=>some (if b=true then l' else r::l')
theorem VI {f:List Int→Option Bool}:∀ {l R:List (List Int)},L0 f l=some R→∃ p:List Int→Bool,(∀ r∈l,f r=some (p r))∧R=l.filter fun r=>!p r
 | l,R,h=>by
   refine ⟨fun r=>(f r).getD false,?_⟩
   induction l generalizing R with
   | nil=>exact ⟨fun r aj=>absurd aj (by simp),(Option.some.inj h).symm⟩
   | cons r l a9 =>
     obtain ⟨b,ag,h⟩:=qj h;obtain ⟨l',c7,h⟩:=qj h;obtain rfl:=Option.some.inj h;obtain ⟨i1,i2⟩:=a9 _ c7;refine ⟨fun x ak=>?_,?_⟩
     ·rcases sq.1 ak with rfl | ak
      ·show f x=some ((f x).getD false);rw [ag];rfl
      ·exact i1 x ak
     ·(have e:(f r).getD false=b:=by rw [ag];rfl);rw [List.filter_cons];show _=if (!(f r).getD false)=true then _ else _;rw [e,←i2];cases b <;> rfl
section
variable {id lo g n:Nat} {H:List ar} {Jr:FuncId} {H6 cs:List I} {f:List Int→Option Bool} {l R:List (List Int)}
theorem acw (h:L0 f l=some R) (bB:lo≤id) (aP:∀ c:ar,H6.map (im (H.set id c))=cs) (M1:cs.map I.cq=cs) (CQ:cs.all (ch 8)=true) (a2:l.length≤1000) (aN:n=l.length) (av:∀ r b,f r=some b→qw Jr (oL r::cs) (B b)) (ah:H[id]?=some (.grow (l.map oL) g 1)) :
  Sem Go.Proofs.Tryz.prog (.fn 101) [.ck id g n 1,.func Jr [] H6] H lo (.ax (R.map oL) R.length (.uniq 1)) (H.set id .dead):=by
 subst aN;obtain ⟨p,aB,rfl⟩:=VI h;exact acx bB aP M1 CQ a2 (fun r aj=>av r _ (aB r aj)) ah
end
section
variable {H:List ar} {lo:Nat}
theorem aep {F:I}:Sem Go.Proofs.Tryz.prog (.fn 138) [.ax [] 0 .full,hU 0,hU 0,F] H lo (.tuple []) H:=by
 refine HC eo WO rfl (bb.refl _ _) fun Q bo=>?_;unfold Tt;conv=>whnf
 refine .intro (fun m T H'=>T=Hc 53 [(0,.ax [] 0 .full),(1,hU 0),(2,hU 0),(3,F),(8,hU 1)]∧H=H') 0 ⟨rfl,rfl⟩ ?_;rintro m T H' ⟨rfl,rfl⟩;conv=>whnf
 exact bo _ _ _ ⟨.inl rfl,⟨by simp,fun j o aw=>.inr aw⟩,rfl⟩
theorem afK {Jx:Int} {k:FuncId} {cap:List I}:Sem Go.Proofs.Tryz.prog (.fn 127) [.ax [] 0 .full,hU 0,hU 0,hU Jx,.func k [] cap] H lo (.tuple []) H:=by
 refine HC eo WN rfl (bb.refl _ _) fun Q bo=>?_;unfold Tn;obtain ⟨RD,Js⟩:∃ c,OJ=c:=⟨_,rfl⟩;rw [Js];conv=>whnf
 refine .intro (fun m T H'=>T=Hc 148 [(0,.ax [] 0 .full),(1,hU 0),(2,hU 0),(3,hU Jx),(4,.func k [] cap),(10,B true),(11,B true)]∧H'=H) 0 ⟨rfl,rfl⟩ ?_;rintro m T H' ⟨rfl,rfl⟩;subst Js;unfold OJ;obtain ⟨a_,ca⟩:∃ c,OI=c:=⟨_,rfl⟩;obtain ⟨RC,L3⟩:∃ c,Tp=c:=⟨_,rfl⟩;rw [ca,L3];conv=>whnf
 subst ca;unfold OI;conv=>whnf
 refine ⟨_,_,HB aep,?_⟩;conv=>whnf
 exact bo _ _ _ ⟨.inr rfl,⟨rfl,fun j o aw=>.inr aw⟩,rfl⟩
theorem ahg {k:FuncId} {cap:List I}:Sem Go.Proofs.Tryz.prog (.fn 102) [.ax [] 0 .full,.func k [] cap] H lo (.tuple []) H:=by
 refine HC eo WI rfl (bb.refl _ _) fun Q bo=>?_;unfold S1;conv=>whnf
 refine ⟨by first | rfl | simp only [tF,uE,M_,Nh,M',Nb,Na,Nc,Nj,Ni,Kk,Nd,Nf,Ng,uq,uD],_,Pq 0 (by decide),?_⟩
 conv=>whnf
 refine ⟨_,_,HB afK,?_⟩;conv=>whnf
 exact bo _ _ _ ⟨.inl rfl,⟨by simp,fun j o aw=>.inr aw⟩,rfl⟩
theorem aek {k:FuncId} {cap:List I}:Sem Go.Proofs.Tryz.prog (.fn 126) [.ax [] 0 .full,.func k [] cap] H lo (hU (-1)) H:=by
 refine HC eo WM rfl (bb.refl _ _) fun Q bo=>?_;unfold Tm;conv=>whnf
 refine .intro (fun m T H'=>T=[.ax [] 0 .full,.func k [] cap,rF,rF,rF,rF,rF,hU 0,hU 0,rF,rF,rF,rF,rF,rF,rF,rF,rF,rF]∧H'=H) 0 ⟨rfl,rfl⟩ ?_;rintro m T H' ⟨rfl,rfl⟩;conv=>whnf
 exact bo _ _ _ ⟨.inr rfl,⟨rfl,fun j o aw=>.inr aw⟩,rfl⟩
theorem acv {k:FuncId} {cap:List I}:Sem Go.Proofs.Tryz.prog (.fn 101) [.ax [] 0 .full,.func k [] cap] H lo (.ax [] 0 .full) H:=by
 refine HC eo WH rfl (bb.refl _ _) fun Q bo=>?_;unfold SV;obtain ⟨nj,Hl⟩:∃ c,OG=c:=⟨_,rfl⟩;rw [Hl];conv=>whnf
 subst Hl;unfold OG;obtain ⟨ni,Io⟩:∃ c,OE=c:=⟨_,rfl⟩;rw [Io];conv=>whnf
 refine ⟨_,_,Pt rfl aek,?_⟩;conv=>whnf
 subst Io;unfold OE;obtain ⟨fW,HF⟩:∃ c,Qe=c:=⟨_,rfl⟩;obtain ⟨b8,iD⟩:∃ c,Qd=c:=⟨_,rfl⟩;rw [HF,iD];conv=>whnf
 refine ⟨_,_,fun C=>rfl,?_⟩;conv=>whnf
 exact bo _ _ _ ⟨.inr rfl,⟨rfl,fun j o aw=>.inr aw⟩,rfl⟩
end
end Go.Proofs.YtfakoboiahbhaaaGreat.Ab


namespace Go.Proofs.YtfakoboiahbhaaaGreat.Ab
open Go
noncomputable def TL:fT :=
 .oh false [pX 30 9,pX 31 11,GC 32 [.jf 30,.jf 31] (.app 1 8),pX 9 32]
noncomputable def Ql:fT :=
 .block 3 (pY [GC 25 [.sl 21,.sl 23] (.kQ 1),qc 26 25,pX 11 26] (pY [pZ 27 8,pZ 28 11,GC 29 [.sl 27,.sl 28] (.call 6)] (.cond (.sl 29) TL .skip)))
noncomputable def TM:fT :=
 .oh false [pX 36 5, pX 37 8, GC 38 [.lR (.func 101 [] []), .jf 36, .jf 37] (.call 1), ⟨some 39, [.jf 9], none, some 9, .other (Oper.mk (some 39) (Op.move (Operand.tmp 9)) 38 "table.go:86" (Array.mk []) none) 2⟩, GC 40 [.Bs 39] (.yu 1 1 [.ax [] 0 .full] [0]), GC 41 [.jf 38, .jf 40] (.yk 1 24), pX 5 41]
noncomputable def Nl:fT :=
 .loop (some (p_ false [2,1,2,1,2,2,2,3,6,3,22])) (pY [GC 24 [.sl 23,.sl 22] (.bin .lss)] (.seq (.cond (.sl 24) .skip (.exit 2)) (.seq Ql (qv [qE 33 23 1,pX 23 33]))))
noncomputable def Qn:fT :=
 pY [⟨some 34,[.jf 9],none,some 9,.Bq⟩,GC 35 [.lR (.func 73 [] []),.jf 34] (.call 1)] TM
noncomputable def TN:fT :=
 .seq (pY [pZ 21 5,GC 22 [.sl 21] .zC,qa 23 0] (.block 2 Nl)) Qn
noncomputable def TP:fT :=
 pY [GC 18 [.sl 2,.sl 7] (.zR 98 0 2),pX 8 18] (pY [qc 19 7,GC 20 [.Bs 19] (.yu 1 1 [.int .i64 0] [0]),pX 9 20] TN)
noncomputable def TQ:fT :=
 .block 1 (pY [GC 16 [.sl 12,.sl 14] (.kQ 1),qc 17 16,GC 7 [] (.alloc [.int .i64 0]),⟨none,[.sl 7,.jf 17],none,none,.st 1⟩] TP)
noncomputable def TR:fT :=
 pY [pZ 43 5, GC 44 [.lR (.func 102 [] []), .jf 43, .lR (.func 103 [] [])] (.call 1)] (pY [⟨some 45, [.jf 5], none, some 5, .other (Oper.mk (some 45) (Op.move (Operand.tmp 5)) 41 "table.go:89" (Array.mk []) none) 2⟩, pX 4 45] .ret)
noncomputable def Qm:fT :=
 .loop (some (p_ false [2,1,2,1,6,3,31])) (pY [GC 15 [.sl 14,.sl 13] (.bin .lss)] (.seq (.cond (.sl 15) .skip (.exit 0)) (.seq TQ (qv [qE 42 14 1,pX 14 42]))))
noncomputable def TS:fT :=
 .seq (pY [pX 12 1,GC 13 [.sl 12] .zC,qa 14 0] (.block 0 Qm)) TR
noncomputable def Xu:fT :=
 pY [GC 2 [.jf 0] .box,GC 4 [.lR (.ax [] 0 .full)] (.nil 1)] (pY [GC 5 [.lR (.ax [] 0 .full)] .Bq] TS)
theorem aeI:zD Go.Proofs.Tryz.prog MT 79=some (Xu,46,[.tmp 4]):=by kernel_rfl
end Go.Proofs.YtfakoboiahbhaaaGreat.Ab
