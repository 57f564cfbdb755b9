
import Derived.Test.YtfakoboiahbhaaaGreatJj1
import Derived.Test.YtfakoboiahbhaaaGreatJj3
import Derived.Test.YtfakoboiahbhaaaGreatProg
import Derived.KernelRfl
import Derived.IntWalk
import Derived.ProofKit
import Derived.Deep.Slices
import Derived.ChangeStays
import Derived.Below
import Derived.WalkKit
import Derived.Sort.AssemblyPlain
set_option linter.unusedSimpArgs false
set_option linter.unusedVariables false
set_option linter.unusedSectionVars false

open Array renaming length_toList→tD,size_setIfInBounds→ur
open Bool renaming and_eq_true→sy,and_self→uO,and_true→tU,false_eq_true→tH
open Classical renaming choose_spec→vB
open List renaming all_cons→tt,all_eq_true→sC,all_nil→ua,append_assoc→sj,append_nil→sP,drop_eq_getElem_cons→sW,drop_zero→sQ,ext_getElem?→tI,filter_append→tW,flatMap_append→vE,flatMap_cons→tV,getElem?_append→sc,getElem?_append_left→sB,getElem?_append_right→sM,getElem?_drop→sY,getElem?_eq_getElem→sq,getElem?_eq_none→tw,getElem?_eq_some_iff→sa,getElem?_map→sA,getElem?_set_ne→sg,getElem?_set_self→si,getElem?_take→sT,getElem_map→ub,getElem_mem→sD,length_append→su,length_drop→tN,length_map→sZ,length_pos_iff→uc,length_take→sV,map_append→td,map_congr_left→tT,map_cons→ss,map_drop→uj,map_id→vb,map_map→tx,map_set→uM,map_take→ui,mem_append_left→vg,mem_append_right→wh,mem_cons→sk,mem_cons_of_mem→uo,mem_cons_self→uH,mem_flatMap→vd,mem_iff_getElem?→tE,mem_map→sv,mem_range→sJ,range_succ→vh,set_getElem_self→uS,set_set→sR,take_of_length_le→tO,take_succ_cons→ve,take_succ_eq_append_getElem→tX,take_zero→tg
open Nat renaming add_comm→te,add_mul→th,ble_eq_true_of_le→t_,eq_of_beq_eq_true→s_,le_refl→sd,le_trans→sH,lt_or_ge→sU,lt_trans→uR,min_eq_left→tF,mul_one→tA,one_mul→vD,sub_zero→vA,zero_add→sO,zero_le→sr,zero_mul→vp
open Option renaming bind_some→sb,map_some→sf
namespace Go.Proofs.YtfakoboiahbhaaaGreat.Ab
open Go
abbrev pX:b5:={ takes:=[true] }
abbrev p0:b5:={ takes:=[true,true] }
def p2 (l:List Nat):List b5:=l.map fun n=>match n with
 | 0=>{}
 | 1=>pX
 | _=>p0
def ack:c8:={ ops:=[[{ mode:=3 }]] }
def acq:c8:={ ops:=[[],[],[],[],[],[{},{ mode:=3 },{},{ mode:=3 },p0,pX,pX,pX,p0,{ takes:=[false,true] },pX,pX,pX,p0,{ takes:=[false,true] },pX,pX,pX,p0,{ takes:=[false,true] },pX,{},{},{ mode:=3 },{},{},{ mode:=3 },p0,{ takes:=[false,true] },pX,{ mode:=3 },{ takes:=[false,true] },pX]] }
def acJ:c8:={ ops:=[[],[],[],[],[],[],[{},{},pX,{ mode:=3 },{ mode:=3 },pX,{},{},pX,pX],[],[],[],[],[],[],[{},{},{},p0,pX,{ mode:=3 },{ mode:=3 },pX,{},{},pX,pX]] }
def acL:c8:={ ops:=[[],[],[],[],[],[],[],[],[],[],[],[],[],[],[],[],[],[],[],[pX,pX,pX,{ mode:=3 },{ mode:=3 },pX,{},{},pX,pX]] }
def acQ:c8:={ ops:=[[],[],[],[],[],[],[],[],[],[],[],[{},pX,{},{},pX,p0,p0,{},{ takes:=[false,true] }],[],[],[],[],[{},{},{},p0,pX,{ mode:=3 },pX,{},{},{},pX,pX,pX],[{},{},{},pX,{},pX,p0,p0,pX,{ mode:=3 },pX,{},{},{},pX,pX,pX],[],[],(p2 [1,0,0,2,1,2,0,1,1,1,1,2,1])] }
def abS:c8:={ ops:=[[],[],[],[pX,pX,{},pX,p0,pX,pX,{},pX,p0,p0,{},{ takes:=[false,true] }],[{},pX,{},{},pX,p0,{},pX,p0,p0,{},{ takes:=[false,true] }]] }
def abV:c8:={ ops:=[[],[],[],[],[],[],[],[],[],[],[],[],[],[],[],[],[],[],[],[],[],[],[],[],[{},pX,{ mode:=3 },{ mode:=3 },pX,{},{},{},pX,pX,pX]] }
def LU:c8:={ two:=[(12,8)],ops:=[[{ takes:=[true],mode:=1 }],[{},{ mode:=3 },pX,pX,{},pX,pX,pX,{ takes:=[true,false,true] }],[{ mode:=3 },pX],[{},{ mode:=3 },pX,{},pX,pX,pX],[{},{ mode:=3 },pX,{},pX,pX,pX],(p2 [1,1,0,1,1,2,1]),[],[],(p2 [0,0,1,1,2]),(p2 [1,1,1]),(p2 [0,0,2]),(p2 [1,0,1,2,1]),[{},pX,{ mode:=3 },{},{ takes:=[true],mode:=3 },{},p0,{ takes:=[true],mode:=3 },{},{},{ takes:=[false,true] },{ takes:=[false,true] }],[{},{},pX,{},pX,{ mode:=3 },pX,{},pX,pX,pX],[pX,{ mode:=3 },pX,{},pX,pX,pX],[{},{ mode:=3 },pX,{},pX,pX,pX],[pX,pX,pX,pX,pX,pX,{},pX,pX,p0,{ takes:=[true,false,true] },pX,pX,pX,{ takes:=[true,false,true] },pX,pX,pX,{ takes:=[true,false,true] }],[],(p2 [0,1,0,1,2]),[pX,pX,pX,pX,pX,{ mode:=3 },pX,p0,pX,{ mode:=3 },p0,pX],[pX,pX,{ mode:=3 },{},pX,p0,pX,{},pX,pX,{},pX,p0,{ takes:=[true,false,true] }],[],[pX,pX],[pX,pX,{ mode:=3 },pX,{},{},pX,pX,pX,pX],[pX,pX,pX,pX,pX,pX,pX,p0,p0,pX,{ mode:=3 },p0,pX],[pX,{ mode:=3 },pX],[pX,pX,pX,pX,p0,pX,{},{},pX,p0,pX,pX,{ takes:=[true,false,true] },pX,pX,pX,pX,p0,pX,pX,{ takes:=[true,false,true] },pX,{ mode:=3 },p0,pX]],h7:=[(0,(Ez false [2,1,2,2,1,4,175]))] }
def ab5:c8:={ ops:=[[],[],[],(p2 [1,1,0,1,2,1,1,0,1,2,1,1]),[],[],[],[],[],[{},pX,p0,pX,{},pX,pX,pX,p0,{ takes:=[false,false,true] },pX,{},pX,{},pX,p0,{ takes:=[false,false,true] },pX,{},pX,{},{},p0,pX,{},{},p0,pX,p0,p0,{ takes:=[false,false,true] }],[],[],[],[],[],[],[],[],[],[],[],[{},{},{},p0,pX,{ mode:=3 },pX]] }
def ab9:c8:={ ops:=[[],[],[],[{},pX,{},pX,p0,{},{},pX,p0,p0,{},{ takes:=[false,true] }],[],[],[],[{},{ takes:=[true],mode:=1 },{},pX,{},p0,pX,pX,{},pX,p0,{},pX,{},p0,pX,pX,{},pX,p0,p0,pX,p0,{},p0]] }
def ach:c8:={ ops:=[[],[{ mode:=3 },{ mode:=3 },{ mode:=3 },{},{},{},{ takes:=[false,true] },{ takes:=[false,true] },{ takes:=[false,true] }],[{},{},{ mode:=3 },{ mode:=3 },pX,{},{},{},pX,pX,pX],[{},{},{ mode:=3 },{ mode:=3 },pX],[{},{ mode:=3 },pX,{},pX,pX,pX],[{},{ mode:=3 },pX,{},pX,pX,pX],[{},{ mode:=3 },pX,{},pX,pX,pX],[{},{ mode:=3 },pX,{},pX,pX,pX],[{},{ mode:=3 },pX,{},pX,pX,pX],[{},{ mode:=3 },pX,{},pX,pX,pX],[{},{ mode:=3 },pX,{},pX,pX,pX],[{},{ mode:=3 },pX,{},pX,pX,pX],[pX,{ mode:=3 },pX,{},pX,pX,pX],[pX,{ mode:=3 },pX,{},pX,pX,pX],[pX,pX,pX,pX,pX,p0,pX,pX,pX,p0,pX,pX,pX,p0,pX,pX,pX,p0,pX,pX,{},{ mode:=3 },{ mode:=3 },p0,pX,pX,pX,p0,pX,pX,{},{ mode:=3 },pX,{ mode:=3 },{ mode:=3 },p0,pX,pX,pX,p0,pX,pX,pX,p0,pX,pX,pX,p0,pX,pX,pX,p0,pX,pX,pX,p0,pX,pX,pX,p0,pX,pX,pX,p0,pX,pX,pX,p0,pX,pX,pX,p0,pX,pX,{},{ mode:=3 },{ mode:=3 },p0,pX,pX,pX,p0,pX,pX,{},{ mode:=3 },{ mode:=3 },p0,pX,pX,pX,p0,pX,pX,pX,pX,p0,pX,pX,pX,p0,pX,pX,{},{ mode:=3 },{ mode:=3 },p0,pX,pX,{ mode:=3 },pX,p0,pX,{ mode:=3 },p0,pX]] }
def VO:c8:={ ops:=[[pX],(p2 [1,1,1,1,1])] }
def acj:c8:={ ops:=[[],[{ mode:=3 },{ mode:=3 },{ mode:=3 },{},{},{},{ takes:=[false,true] },{ takes:=[false,true] },{ takes:=[false,true] }],[{},{},{ mode:=3 },{ mode:=3 },pX,{},{},{},pX,pX,pX],[{},{},{ mode:=3 },{ mode:=3 },pX,{},{},{},pX,pX,pX],[{},{},{ mode:=3 },{ mode:=3 },pX,{},{},{},pX,pX,pX],[{},{},{ mode:=3 },{ mode:=3 },pX,{},{},{},pX,pX,pX],[{},{ mode:=3 },pX,{},{},pX,pX,pX,pX],[{},{},{ mode:=3 },{},{ mode:=3 },p0,{ mode:=3 },{ mode:=3 },pX,{},{},pX,pX],[{},{},{ mode:=3 },pX,{ mode:=3 },{ mode:=3 },pX,{},{},pX,pX],[{},{},{ mode:=3 },{},{ mode:=3 },p0,{ mode:=3 },{ mode:=3 },pX,{},{},pX,pX],[{},{},{ mode:=3 },{ mode:=3 },{},{},{ mode:=3 },{ mode:=3 },pX,pX],[{},{ mode:=3 },pX,{},pX,pX,pX],[{},{ mode:=3 },pX,{},pX,pX,pX],[{},{ mode:=3 },pX,{},pX,pX,pX],[{},{ mode:=3 },pX,{},pX,pX,pX],[{},{ mode:=3 },pX,{},pX,pX,pX],[{},{ mode:=3 },pX,{},pX,pX,pX],[{},{ mode:=3 },pX,{},pX,pX,pX],[{},{ mode:=3 },pX,{},pX,pX,pX],[{},{ mode:=3 },pX,{},pX,pX,pX],[{},{ mode:=3 },pX,{},pX,pX,pX],[{},{ mode:=3 },pX,{},pX,pX,pX],[pX,{ mode:=3 },pX,{},pX,pX,pX],[{},{ mode:=3 },pX,{},pX,pX,pX],[pX,pX,pX,pX,pX,{ takes:=[true,false,true] },pX,pX,pX,{ takes:=[true,false,true] },pX,pX,pX,{ takes:=[true,false,true] },pX,pX,pX,{ takes:=[true,false,true] },pX,pX,pX,{ takes:=[true,false,true] },pX,pX,pX,{ takes:=[true,false,true] },pX,pX,pX,{ takes:=[true,false,true] },pX,pX,pX,{ takes:=[true,false,true] },pX,pX,pX,{ takes:=[true,false,true] },pX,pX,pX,{ takes:=[true,false,true] },pX,pX,pX,{ takes:=[true,false,true] },pX,pX,pX,{ takes:=[true,false,true] },pX,pX,pX,{ takes:=[true,false,true] },pX,pX,pX,{ takes:=[true,false,true] },pX,pX,pX,{ takes:=[true,false,true] },pX,pX,pX,{ takes:=[true,false,true] },pX,pX,pX,{ takes:=[true,false,true] },pX,pX,pX,{ takes:=[true,false,true] },pX,pX,pX,{ takes:=[true,false,true] },pX,pX,pX,{ takes:=[true,false,true] },pX,pX,pX,{ takes:=[true,false,true] },pX,pX,pX,{ takes:=[true,false,true] }],[],[pX,pX,pX,pX,pX,{ takes:=[true,false,true] },pX,pX,pX,{ takes:=[true,false,true] },pX,pX,{},{ mode:=3 },{ mode:=3 },pX,{ takes:=[true,false,true] },pX,pX,{},{ mode:=3 },{},{ mode:=3 },{},{ mode:=3 },{ takes:=[true,true,true] },{ mode:=3 },{ mode:=3 },pX,{ takes:=[true,false,true] },pX,pX,pX,{ takes:=[true,false,true] },pX,pX,{},{ mode:=3 },{ mode:=3 },pX,{ takes:=[true,false,true] },pX,pX,pX,{ takes:=[true,false,true] },pX,pX,{},{ mode:=3 },{ mode:=3 },pX,{ takes:=[true,false,true] },pX,pX,{},{ mode:=3 },{ mode:=3 },pX,{ takes:=[true,false,true] }],[],[pX,pX,{ mode:=3 },pX,{},pX,pX,pX],[pX,pX,pX,pX,pX,p0,pX,pX,pX,{ mode:=3 },pX,p0,pX]] }
def NW:c8:={ ops:=[[pX],[{},{ mode:=3 },pX,{},pX,pX,pX],[pX,pX],(p2 [0,1,1]),(p2 [1,0,0,1]),(p2 [0,1,1,1]),[],[{},pX,{ mode:=6 },pX],[],[],[{},pX],[],[],[{},pX,{},{ takes:=[false,true] }],[{},pX,{ takes:=[false,true] },pX,pX],[],[pX,pX,{ takes:=[false,true] },pX],[pX,pX],[{},{},pX,pX,{ mode:=3 },pX,{},pX,pX,pX],[{},pX],[pX],[],[{},pX,{},{ takes:=[false,true] }],[{},pX,{ mode:=3 },pX,{},pX,pX,pX],(p2 [1,1,2]),[],[pX,pX],[pX,pX],(p2 [1,1,1,1])],h7:=[(1,(Ez false [1,1,5,1,2,1,28,3,40])),(3,(Ez false [7,1,5,1,1,1,47,3,16]))] }
def NY:c8:={ ops:=[[pX],[{},{ mode:=3 },pX],[pX,{ mode:=3 },{},{},pX],(p2 [0,1,1]),[{},pX],[],[],(p2 [0,0,2]),(p2 [1,1,1]),[{},{},p0,pX,pX,pX,pX,{},{},p0,pX,pX,{},pX,pX,p0,{ takes:=[false,false,true] },pX,{},{},p0,pX,pX,pX,{ takes:=[false,false,true] },pX,{},{},p0,pX,pX,pX,{ takes:=[false,false,true] }],[],[],(p2 [0,0,2]),(p2 [1,1,1]),[{},{},p0,{},{},p0,pX,pX,{ mode:=3 }],[],[],(p2 [0,0,2]),(p2 [1,1,1]),[{},{},{},pX,p0,pX,{ mode:=3 },{},{},{},p0,pX,{ mode:=3 },p0],[],[{},{},pX,pX,{ mode:=3 },{},{},pX,pX,p0,pX,{ mode:=3 },pX,pX]],h7:=[(0,(Ez false [1,2,4,2,94])),(2,(Ez false [1,2,4,1,1,1,93])),(4,(Ez false [1,2,4,1,2,1,92]))] }
def VP:c8:={ ops:=[[pX],[{},pX],[{},pX,pX,{ mode:=3 },pX,pX,{},pX,pX,pX,{ takes:=[true,false,true] },pX],[],[pX,pX,pX,{ mode:=6 },pX],[],[]] }
def RZ:c8:={ ops:=[[pX],[{},pX,pX,pX,{},pX,pX,{ takes:=[true,false,true] },pX,{},pX,pX,pX,{ takes:=[true,false,true] }],[],[],(p2 [0,0,1,1,2]),(p2 [1,1,1]),[{},pX,{},p0,pX,{},{ takes:=[false,true] }],[{},pX,pX,pX,{},pX,{},pX,p0,{ takes:=[true,false,true] },pX,{},pX,pX,{ takes:=[true,false,true] },pX,pX,pX,{},pX,p0,{ takes:=[true,false,true] }],[],[]],h7:=[(0,(Ez false [1,1,1,1,49]))] }
def VQ:c8:={ ops:=[[pX],[{},{},{ mode:=3 },pX,{},{},pX,pX,pX,pX],(p2 [0,1,1]),[pX,pX],(p2 [1,1,1,1,1,2,1]),[],(p2 [1,1,2,1]),[],[]] }
def acm:c8:={ ops:=[[pX],[{},{},{ mode:=3 },pX,{},{},pX,pX,pX,pX],[{},pX],[pX,pX],(p2 [1,1,1,1,1,2]),[],(p2 [1,1,2]),[],[]] }
def acn:c8:={ ops:=[[pX],[{},{ mode:=3 },pX],[{},pX],(p2 [1,0,1]),[],[],[],(p2 [0,1,1]),[{},{},{ mode:=3 },pX,{},{},pX,pX,pX,pX],[{},pX],(p2 [1,0,1]),[pX],[],[{},pX,{},{ takes:=[false,true] }],[{},{},pX,{},pX,{ takes:=[true,true,true] },pX,pX,pX,p0,pX],[pX,pX],[pX,pX],[{ takes:=[true],mode:=1 },{ takes:=[false,true],mode:=1 }],[{},{},{ takes:=[false,true],mode:=1 },pX,{},pX,p0,pX],[],(p2 [1,1,1,1,1,2,1]),[],(p2 [1,1,1])],h7:=[(0,(Ez false [1,2,4,1,12,3,50])),(2,(Ez false [1,2,4,1,12,3,13,3,34]))] }
def aco:c8:={ ops:=[[pX],[{},{ mode:=3 },pX],[pX,{ mode:=3 },{},pX],[],[],(p2 [0,0,1,2]),(p2 [1,1,1]),[{},{},{},p0,pX,{ mode:=3 },pX,{},{},{},pX,pX,pX],[{},pX],(p2 [1,0,1]),(p2 [1,0,0,2,1,2,1]),[],(p2 [0,0,1,2]),(p2 [1,1,1]),[{},{},p0,{},{},p0,pX,pX,{ mode:=3 }],[],(p2 [1,1,1,1,1,2]),[],(p2 [1,1,1])],h7:=[(0,(Ez false [1,2,3,2,57])),(2,(Ez false [1,2,3,1,4,1,53]))] }
def acp:c8:={ ops:=[[pX],[pX,{ mode:=3 },pX,{},pX,pX,pX],[{},pX],(p2 [1,0,1]),[{},pX,{ mode:=3 },{ mode:=3 },pX],[{},pX,{ takes:=[false,true] },pX],(p2 [0,1,2]),[pX,pX]] }
def VR:c8:={ ops:=[[pX],[pX,{ mode:=3 },pX,{},pX,pX,pX],[{},pX],(p2 [1,0,1]),[{},pX,{ mode:=3 },{ mode:=3 },pX]] }
def PN:c8:={ ops:=[[pX],[{},{ mode:=3 },pX,{},pX,pX,pX],[{},pX],(p2 [1,0,1]),[],[pX,pX],[],[{},{},pX,{},pX,{ takes:=[false,true] }],[{},{},pX,{},{ mode:=3 },{},{ takes:=[false,true] }],(p2 [1,1,2,1,1]),(p2 [1,1,1,2,1]),[pX,pX],[pX,pX]],h7:=[(0,(Ez false [4,1,1,1,12,3,20]))] }
def acr:c8:={ ops:=[[],(p2 [0,1,0,1,2]),[],[],(p2 [0,0,1,2]),(p2 [1,1,1]),(p2 [0,0,2,1,0,0,2,1,2]),[],[]],h7:=[(0,(Ez false [0,2,3,1,20]))] }
def acs:c8:={ ops:=[[],(p2 [0,1,0,1,2]),[],[],(p2 [0,0,1,2]),(p2 [1,1,1]),[{},{},p0,pX,{},{},p0,pX,{ mode:=3 },pX],[],[]],h7:=[(0,(Ez false [0,2,3,1,21]))] }
def acu:c8:={ ops:=[[pX],[pX,{ mode:=3 },pX,{},pX,pX,pX],[{},pX],(p2 [1,0,1]),[pX,{ mode:=3 },pX,pX]] }
def VS:c8:={ ops:=[[pX],[{},{ mode:=3 },pX,{},pX,pX,pX],(p2 [0,1,1]),(p2 [1,0,1]),(p2 [1,1,1,1,1]),[],[{},{ mode:=3 },pX,pX,pX],[],[pX,{ mode:=3 },pX]] }
def acv:c8:={ ops:=[[],[],[],[],[],[],[],[],[],[],[],[],[],[],[],[],[],[],[],[{},pX,pX,pX,{},pX,pX,{},{},{},{ mode:=3 },p0,{ takes:=[false,false,true] },{ takes:=[false,true] },pX,{},{},{},pX,{ mode:=3 },{},{},{ mode:=3 },{ mode:=3 },{ takes:=[false,true] }],[],[],[],[pX,{},pX,pX,pX,p0,pX,{},pX,pX,pX,{ mode:=3 },{},{},pX,pX,{ mode:=3 },pX,pX,pX]] }
def acw:c8:={ ops:=[[pX],[{},{ mode:=3 },pX,{},pX,pX,pX],[pX,pX],[],[pX,{ mode:=3 },{},pX,pX,pX]] }
def acx:c8:={ ops:=[[pX],[pX,{ mode:=3 },pX,{},pX,pX,pX],[{},pX],(p2 [1,0,1]),[pX,{ mode:=3 },pX]] }
def VT:c8:={ ops:=[[pX],[{},{ mode:=3 },pX,{},pX,pX,pX],[{},pX],(p2 [1,0,1]),[pX,{},{ mode:=3 },pX],[],[pX,pX]] }
def acy:c8:={ ops:=[[],(p2 [0,1,0,1,2]),[],[],(p2 [0,0,1,2]),(p2 [1,1,1]),(p2 [0,0,2,1,0,0,2,1,2]),[],[]],h7:=[(0,(Ez false [0,2,3,1,20]))] }
def Jc:c8:={ ops:=[[pX,pX],[{},{ mode:=3 },pX,{},pX,{},{ takes:=[false,true] },pX],(p2 [0,1,1]),(p2 [1,0,1]),[pX,pX,pX,{},{},p0,{ mode:=3 },pX,pX,{},{},p0,{ takes:=[true,false,true] },pX],[],[{},{},{ mode:=3 },{},{ takes:=[false,true] }],[{},{ takes:=[false,true] },pX,pX],[],[{ mode:=1 }],(p2 [0,0,2]),[{},{},{ mode:=3 }],[{},{ takes:=[false,true] }],[pX,{},{ mode:=3 },pX,{},pX,pX,pX],[{},{ takes:=[false,true] },pX,{},{ takes:=[false,true] },pX,pX,p0],[{ mode:=1 },pX,pX,p0,pX,p0,p0],[pX,pX]],h7:=[(1,(Ez false [2,1,1,1,3,1,1,2,60]))] }
def VU:c8:={ ops:=[[pX],[{},{ mode:=3 },pX,pX,pX,{ mode:=3 },pX,p0,pX]] }
def PO:c8:={ ops:=[[pX],[{},{ mode:=3 },pX,{},pX,pX,pX],[pX,pX,pX,{},pX,{},pX,pX,p0,{ takes:=[true,false,true] }],[],[pX,pX,pX,{ takes:=[false,true] },pX],[],[],(p2 [0,0,1,2]),(p2 [1,1,1]),[],(p2 [0,0,0,2,1,1,2]),(p2 [1,1,1]),(p2 [0,0,2,1,0,2,1,1]),[{},pX,pX,{},{},pX,p0,{ takes:=[true,false,true] },pX,{},{},p0,pX,pX,{ takes:=[true,false,true] }],[],(p2 [0,1,2,1]),(p2 [1,1,1]),(p2 [0,0,2,1,1,1]),[],(p2 [1,1,1,1,2,1,1])],h7:=[(0,(Ez false [4,1,1,3,74])),(2,(Ez false [4,1,1,4,73]))] }
def acz:c8:={ ops:=[[],[],[],[],[],[],[],[],[],[],[],[],[],[],[{},{},{ mode:=3 },pX,pX,{},pX,pX,pX,{},{},{},pX,pX,p0,pX,{ mode:=3 },{},{},{ mode:=3 },p0,{ takes:=[false,false,true] },{ takes:=[false,true] }],[],[],[],[],[],[],(p2 [1,0,0,2,1,1,2,1,0,0,2,1,1,2,1,1])] }
def R0:c8:={ ops:=[[pX],[{},pX,pX,{},{ takes:=[false,true] }],[],(p2 [0,0,1,2]),(p2 [1,1,1]),[{},{ takes:=[true],mode:=1 },{},pX,{},{},p0,pX,p0,pX,pX,p0,{},p0],[pX,{ takes:=[false,true] }]],h7:=[(0,(Ez false [1,2,1,3,23]))] }
def acA:c8:={ ops:=[[],[pX,pX]] }
def R1:c8:={ ops:=[[],[],(p2 [0,0,1,2]),(p2 [1,1,1]),(p2 [0,0,2,1,0,2]),[],[]],h7:=[(0,(Ez false [0,2,3,1,12]))] }
def acB:c8:={ ops:=[[],[],[],[],[],[pX,{},{},p0,pX,pX,{},{},p0,pX,pX,{ takes:=[false,true] },p0,pX,p0,pX]] }
def R2:c8:={ ops:=[[pX],[{},pX,{ takes:=[false,true] },pX],[],(p2 [0,0,1,1,2]),(p2 [1,1,1]),(p2 [0,0,1,0,2,1,1,0,1,1,2,2]),(p2 [0,0,1,0,2,1,1,0,1,1,2,2]),[pX,pX]],h7:=[(0,(Ez false [1,1,1,2,33]))] }
def acC:c8:={ ops:=[[],[],[],[],[],[],[],[],[],[],[],[],(p2 [0,1,0,2,1,1,0,1,0,2,1,1,1,1]),[],(p2 [0,0,2,1,0,0,2,1,2,1])] }
def VV:c8:={ ops:=[[pX,pX],(p2 [0,1,1]),(p2 [1,1,1,1,2,1,1,1]),(p2 [1,1,1,1,2,1,1,1])] }
def acD:c8:={ ops:=[[],[{},{ mode:=3 },{ takes:=[false,true] }]] }
def acE:c8:={ ops:=[[],[{},{ mode:=3 },{ takes:=[false,true] }]] }
def acF:c8:={ ops:=[[],[{},{ mode:=3 },{ takes:=[false,true] }]] }
def acG:c8:={ ops:=[[],[],[],(p2 [0,1,0,1,2]),(p2 [1,1,1]),(p2 [1,0,0,2,1,0,0,1,2,1,2,1,2,1]),[pX,pX]],h7:=[(0,(Ez false [0,1,2,2,21]))] }
def acH:c8:={ ops:=[[],[pX,pX]] }
def acI:c8:={ ops:=[[],[pX,pX]] }
def VW:c8:={ ops:=[[pX],[{},{ mode:=3 },pX],[{},pX],(p2 [1,0,1]),[pX,pX,{ takes:=[true],mode:=1 },pX]] }
def VX:c8:={ ops:=[[pX],[pX,pX,pX,pX,{},pX,pX,{ mode:=3 },pX,pX,pX,pX,pX,{ mode:=3 },pX,{ takes:=[true,false,true] },pX]] }
def VY:c8:={ ops:=[[pX,pX],[pX,p0,{ mode:=6 },pX,pX]] }
def VZ:c8:={ ops:=[[],[pX,pX,{ mode:=6 },pX,pX]] }
def V0:c8:={ ops:=[[pX],[pX,pX,pX,pX,pX,{},pX,p0,pX,{},{ takes:=[false,true] }],(p2 [1,1,1]),(p2 [0,1,0,1,1,1]),(p2 [0,1,0,1,1,1])] }
def R3:c8:={ ops:=[[],[],(p2 [0,0,1,2]),(p2 [1,1,1]),(p2 [0,0,2,1,1,0,2]),[],[]],h7:=[(0,(Ez false [0,2,3,1,13]))] }
def V1:c8:={ ops:=[[pX,pX],(p2 [0,1,1]),(p2 [1,1,1,1,2,1,1,1]),(p2 [1,1,1,1,2,1,1,1])] }
def V2:c8:={ ops:=[[pX],[pX,pX,pX,{},pX,pX,pX,p0,{ mode:=3 },pX,pX]] }
def V3:c8:={ ops:=[[],[pX,pX,{ mode:=6 },pX,pX]] }
def V4:c8:={ ops:=[(p2 [0,1,1]),[pX,{},pX,pX,{ mode:=3 },{ takes:=[false,true,false,true,true],mode:=1 }]] }
def acK:c8:={ ops:=[[],[{ takes:=[true],mode:=1 },pX,pX],[pX,pX],[],(p2 [0,0,1,2]),(p2 [1,1,1]),(p2 [0,0,2,1,0,0,1,2,1,2]),(p2 [0,0,2,1]),[],(p2 [0,0,1,2]),(p2 [1,1,1]),(p2 [0,0,2,1,0,0,1,2,1,2]),(p2 [0,0,0,0,2,1,2,2]),(p2 [1,1,1]),(p2 [0,0,2,1]),(p2 [1,1,2,1]),[pX,pX]],h7:=[(0,(Ez false [0,1,2,1,57])),(2,(Ez false [0,1,2,3,55]))] }
def V5:c8:={ ops:=[[],[{},pX],[],(p2 [0,1,2,1])] }
def PQ:c8:={ ops:=[[],[],[pX],[],(p2 [0,1,1]),[{},pX,pX,pX,pX,{},p0,pX,pX,{},pX,pX,{ takes:=[false,true] },p0],[{},pX,pX,pX,pX,pX,p0,pX,pX,{},pX,pX,{ takes:=[false,true] },p0],[pX,pX],(p2 [0,0,2]),[],[],[pX],[],(p2 [0,0,1,1]),(p2 [1,1,1]),[{},{},pX,pX,pX,{ takes:=[true,true,true] },pX,pX,p0,pX],[pX,pX],[pX,pX]],h7:=[(0,(Ez false [0,1,4,1,5,3,52])),(2,(Ez false [8,1,38,2,17]))] }
def R4:c8:={ ops:=[[],[],(p2 [1,1,1,1,1,1]),[],[{},pX],(p2 [1,1,1,2,1]),[pX,pX],[pX,pX]],h7:=[(0,(Ez false [3,1,6,2,8]))] }
def MP:c8:={ ops:=[[pX],[{ takes:=[true],mode:=1 }],[pX],[],[{},pX,{},{ takes:=[false,true] }],[{},pX],(p2 [1,1,1]),[],[],(p2 [0,1,1]),[{},{},{ mode:=6 }],(p2 [1,1,2,1]),[pX,pX],[{ takes:=[true],mode:=1 },{ takes:=[false,true],mode:=1 }],[pX,pX,{ takes:=[false,true,true],mode:=1 },{ takes:=[true],mode:=2 },pX,{ takes:=[true,true],mode:=1 },pX],[pX,pX],[{},{ takes:=[false,true],mode:=1 }],[{ takes:=[true],mode:=2 },pX]],h7:=[(0,(Ez false [2,1,2,1,6,3,31])),(2,(Ez false [2,1,2,1,2,2,2,3,6,3,22]))] }
def acM:c8:={ ops:=[[],[],[],[],[],[],[],[],[],[],[],(p2 [0,0,2,1,0,0,1,0,2,1,1,2,1,2])] }
def IP:c8:={ ops:=[[pX,pX],[],[],[],[{},pX],[pX,{ takes:=[false,true] },pX],[pX,pX],[{},{ takes:=[false,true] },pX],[pX,pX,{},{ takes:=[false,true] }],(p2 [0,1,1]),[{},pX,pX,{},{ takes:=[false,true] }],[{ mode:=1 },pX,{ takes:=[false,true] }],[{},{},{ mode:=3 }],[{},{ takes:=[false,true] }],[pX,{},{ mode:=3 },pX,{},pX,pX,pX],[pX,pX,pX,p0,pX,{},{ takes:=[false,true] },pX,pX,p0],[{},pX,{ takes:=[false,true] },pX,pX,p0,p0],[{ mode:=1 },pX,pX,p0,p0],[pX,{ takes:=[false,true] }]],h7:=[(0,(Ez false [1,1,1,1,1,3,6,1,48])),(2,(Ez false [3,1,1,3,1,1,53]))] }
def acN:c8:={ ops:=[[],[],(p2 [0,0,1,0,2,1,1,2,1,0,0,1,0,2,1,1,2,1,2,1])] }
def La:c8:={ ops:=[[],[],[{},{},{ mode:=3 },{ mode:=3 }],[],[{},pX,{},{ takes:=[false,true] }],[{},pX,pX,pX,pX,pX,pX,{},{ takes:=[false,true] }],[],[],(p2 [0,1,1]),[{},pX,{ takes:=[true],mode:=1 },{},pX,pX,pX,pX,pX,p0,pX,pX,p0,{},pX,p0],[pX,pX],[{},{},{ mode:=3 },pX],[],(p2 [0,1,0,1,2]),(p2 [1,1,1]),[{},pX,{ takes:=[true],mode:=1 },{},{},p0,pX,{},{},pX,p0,pX,p0,pX,p0,{},pX,p0],[{ mode:=7 },pX],[{},{},{ mode:=6 },pX],[{},pX],[{},{},pX,p0,{},{},pX,p0,p0,{ mode:=3 },pX],[],[pX],[],[{},pX,{},{ takes:=[false,true] }],(p2 [0,1,0,1,2]),(p2 [1,0,0,1,2,1,0,1,2,1,2,1]),(p2 [1,1,1,2,1]),[pX,pX],(p2 [0,1,1]),(p2 [1,1,1,2,1]),[pX,pX],[pX,pX]],h7:=[(0,(Ez false [0,1,2,1,15,3,111])),(2,(Ez false [0,1,2,1,1,2,12,3,10,3,98])),(4,(Ez false [0,1,2,1,1,2,2,2,8,3,111])),(6,(Ez false [0,1,2,1,1,1,7,1,5,3,75,3,33]))] }
def acO:c8:={ ops:=[[],[],[],[],[],[],[pX,{},{},{},p0,pX,{ mode:=3 },{ mode:=3 },pX,pX,{ takes:=[false,true] },p0,pX]] }
def acP:c8:={ ops:=[[],[],[{},{ mode:=3 },{ takes:=[true],mode:=1 }],[],(p2 [0,1,1]),[],[],[],[{},pX,{},{ takes:=[false,true] }],[{},{},{},{ takes:=[false,true,true],mode:=1 },{ takes:=[true],mode:=2 }],[],[],[{},pX],[{},pX,p0,{},{ takes:=[false,true] }],[{},{},{ mode:=3 },pX,{},pX,pX,pX],[{},pX,pX,pX,{},p0,{ takes:=[true,false,true] },pX,{},{},pX,{ mode:=3 },p0],(p2 [1,1,1,2,1]),[pX,pX],[pX,pX],(p2 [0,1,1]),[pX,pX],[pX,{ mode:=3 },{},{ takes:=[false,true] }],(p2 [1,0,1,2,1]),[pX,{},{ takes:=[false,true,true],mode:=1 },pX],[{},pX,{ mode:=3 },pX,{},pX,pX],[pX,pX]],h7:=[(0,(Ez false [0,1,2,3,75])),(2,(Ez false [0,1,2,4,13,3,58])),(4,(Ez false [0,1,2,4,1,2,10,3,7,1,50]))] }
def V6:c8:={ ops:=[[pX,pX],[p0,pX]] }
def acR:c8:={ ops:=[[],[],[],[],[],[],[],[],[],[],[],[{},{},{},p0,{},pX,p0,{},{},{ mode:=3 },{},{},pX,{ mode:=3 },pX,{},{},pX,pX]] }
def acS:c8:={ ops:=[[],[pX,pX,{},{ takes:=[false,true] }],[],(p2 [0,1,0,1,2]),(p2 [1,1,1]),[{},{ takes:=[true],mode:=1 },{},{},p0,pX,{},{},pX,p0,pX,p0,pX,p0,{},p0],[pX,{ takes:=[false,true] }]],h7:=[(0,(Ez false [1,1,2,3,25]))] }
def V7:c8:={ ops:=[[],[pX,pX,{ mode:=6 },pX,pX]] }
def V8:c8:={ ops:=[[],[{},pX,p0,pX,pX,pX,p0,{ takes:=[true,false,true] },pX]] }
def R6:c8:={ ops:=[[],[{},pX],[],[{},pX],[{},{},{},p0,pX,{ mode:=6 }],[pX,pX],[pX,pX],[]],h7:=[(0,(Ez false [0,2,5,2,10]))] }
def R7:c8:={ ops:=[[],[{},pX],[],[{},pX],[{},{},{},p0,pX,{ mode:=6 }],[pX,pX],[pX,pX],[]],h7:=[(0,(Ez false [0,2,5,2,10]))] }
def V9:c8:={ ops:=[[],[],(p2 [0,0,2,1]),[{},pX],[pX,pX,pX,{ takes:=[false,true,true,true],mode:=1 }],[{},pX],[pX,pX,pX,{ takes:=[false,true,true,true],mode:=1 }],[{},pX],[{},{},{},{ takes:=[false,true,true,true],mode:=1 }],(p2 [1,1,1]),[{},{},{},{ takes:=[false,true,true,true],mode:=1 },pX,{},pX,pX,pX],[{},pX],[{},{},{},{ takes:=[false,true,true,true],mode:=1 }],(p2 [0,1,1,0,2,2,1]),[],(p2 [0,1,0,2,1,1,1,2]),[{},{},{},{ takes:=[false,true,true,true],mode:=1 }],[{},pX,pX,{},{},pX,p0,pX,{},{},p0,pX,{ mode:=3 },pX,{ takes:=[false,true] }],[{},pX,{},pX,{ takes:=[false,true,true,true,true],mode:=1 },pX],[pX,pX],[{},{},{},pX,{ takes:=[false,true,true,true,true],mode:=1 },pX,{},pX,pX,pX],[pX,pX],(p2 [0,0,2,0,0,2,1,1]),(p2 [1,1,1]),(p2 [0,0,2]),(p2 [1,1,2,1]),[{},pX,{},{},{ takes:=[false,true,true,true,true],mode:=1 }],(p2 [1,1,1]),(p2 [1,1,2,1]),[{},{},pX,pX,{},{ takes:=[false,true,true,true,true],mode:=1 }],[pX,pX]],h7:=[(0,(Ez false [0,4,4,2,124]))] }
def acT:c8:={ ops:=[[],[pX,pX,{ mode:=3 },pX],[pX,{ mode:=3 },pX]] }
def V_:c8:={ ops:=[[],[pX,p0,{ mode:=6 },pX]] }
def V':c8:={ ops:=[[],[pX,pX,pX,{ mode:=3 },pX]] }
def Vv:c8:={ bad:=true,ops:=[[],[{},pX,pX,pX,pX,pX,p0,pX,{},pX,pX,pX,{ takes:=[true],mode:=3 },pX,p0,{ takes:=[true],mode:=3 },{},{},{ takes:=[false,true] },{ takes:=[false,true] }],[{},pX,{},pX,p0,pX,{},pX,{},pX,p0,{ takes:=[true,false,true] },pX,{},pX,{},pX,p0,{ takes:=[true,false,true] },pX,pX,pX,pX,pX,p0,{ takes:=[true,false,true] },pX]] }
def abT:c8:={ ops:=[[],(p2 [0,0,0,1]),[{},pX],[pX,{ takes:=[true],mode:=4 }],(p2 [0,1,1]),(p2 [0,0,1,2]),(p2 [1,1,1]),(p2 [0,0,2,1,1]),(p2 [0,0,0,1]),(p2 [0,0,1,2,2]),(p2 [1,1,1]),(p2 [0,0,2,1]),[pX,pX,p0,{ takes:=[true],mode:=4 }]],h7:=[(0,(Ez false [0,2,3,2,35]))] }
def Vw:c8:={ ops:=[(p2 [0,1,1]),[pX,{},pX,pX,{ mode:=3 },pX,{ takes:=[false,true,false,true,true,true],mode:=1 }]] }
def Vx:c8:={ ops:=[[],(p2 [1,1,1,1,1,1,2,1])] }
def LS:c8:={ ops:=[[pX],[{},{},{ takes:=[false,true] }],(p2 [0,1,1,1,1,1]),[],[{},pX],(p2 [0,0,1,0,0,1,2,2]),[pX,pX],[{ takes:=[true],mode:=1 }],[{},pX,pX,pX,pX,pX,pX,pX,{},{ takes:=[false,true] }],(p2 [0,1,1]),[{},{},{ mode:=3 }],[{},{ takes:=[false,true] }],(p2 [0,0,2,1]),(p2 [0,0,2]),[pX,{},pX,{},pX,{ takes:=[false,true] },p0,p0],[{ mode:=5 },{},pX,{ takes:=[true,true],mode:=1 },p0],[pX,pX,{ mode:=3 },pX,{},pX,p0],(p2 [0,1,1]),[{},{},pX,pX,p0,pX,{},{ takes:=[false,true] }],[{ mode:=5 },{},pX,pX,p0,{ takes:=[false,true] }],[pX,{},pX,{ takes:=[true,true],mode:=1 },pX],[{},pX,{ mode:=3 },pX,{},pX,{ takes:=[false,true] }],[{},{ takes:=[false,true],mode:=1 }],[{ takes:=[true],mode:=2 },pX]],h7:=[(0,(Ez false [1,1,1,1,13,2,73])),(2,(Ez false [1,1,1,1,1,4,83]))] }
def Vy:c8:={ ops:=[[pX],(p2 [1,1,1,1,2,1])] }
def PM:c8:={ ops:=[[],[],[],[],(p2 [0,1,1]),(p2 [1,1,1,2,1]),[{},pX],[{},pX],[pX,pX],(p2 [1,0,1]),[pX],[],(p2 [0,1,1]),(p2 [1,1,2,1]),[pX,pX],[pX,pX]],h7:=[(0,(Ez false [0,1,2,1,5,3,24])),(2,(Ez false [6,1,18,3,8]))] }
def Vz:c8:={ ops:=[[],[{ takes:=[true],mode:=1 },{},{ mode:=6 },pX],[{},pX],[pX,pX],(p2 [0,1,1]),(p2 [0,0,1,2]),(p2 [1,1,1]),(p2 [0,0,2,1,1]),[{},{},{ mode:=6 },pX],(p2 [0,0,1,2,2]),(p2 [1,1,1]),(p2 [0,0,2,1]),(p2 [1,1,2,1])],h7:=[(0,(Ez false [0,2,3,2,35]))] }
def VA:c8:={ ops:=[[],(p2 [1,1,2,1])] }
def VB:c8:={ ops:=[[pX,pX],[{},pX],[{},{},{ mode:=3 },pX],(p2 [0,1,1,1]),[],[{},pX,pX,pX,{},pX,pX,pX,pX,pX,{ mode:=3 },pX,p0,{ takes:=[true,false,true] },pX,{},pX,{ mode:=6 },pX,{ takes:=[true,false,true] },pX],[],[pX,pX,{ mode:=3 },pX,pX,pX]] }
def RW:c8:={ ops:=[[],[{},pX,pX,{},{ takes:=[false,true] }],[pX,pX],[],[{},pX,{},{ takes:=[false,true] }],[{},{},{},{ mode:=6 }],[pX,{ takes:=[false,true] }],[pX,pX],[pX,{ takes:=[false,true] }]],h7:=[(0,(Ez false [1,1,2,2,6,3,10]))] }
def VC:c8:={ ops:=[[pX,pX],(p2 [1,1,1,1,2,1])] }
def VD:c8:={ ops:=[[],(p2 [1,1,1,2,1])] }
def VE:c8:={ ops:=[(p2 [0,1,1,1,1,1]),[],[{},pX],[],[],[{},pX],[{},pX,p0,{},{ takes:=[false,true] }],[{},{},{ mode:=3 },pX,{},pX,pX,pX],[pX,{},p0,pX,{},pX,{ takes:=[true,true],mode:=1 },pX,p0],[pX,pX],[pX,pX]],h7:=[(0,(Ez false [0,3,11,2,25])),(2,(Ez false [0,3,1,1,9,2,2,1,22]))] }
def RX:c8:={ ops:=[[],[{},pX],[],[{},pX],[{},{},{},p0,pX,{ mode:=6 }],[pX,pX],[pX,pX],[]],h7:=[(0,(Ez false [0,2,5,2,10]))] }
def VF:c8:={ ops:=[(p2 [0,1,1]),(p2 [0,0,2]),(p2 [1,1,1]),[{},pX],[{},{},p0,pX,{},{},p0,pX,{},{},pX,p0,pX,{ mode:=3 },{ takes:=[false,true] }],(p2 [1,1,1]),(p2 [0,0,0,0,1,0,0,1,2,1,0,0,2,1,2,2,2,2])],h7:=[(0,(Ez false [0,3,3,1,42])),(2,(Ez false [0,3,3,2,41]))] }
def abW:c8:={ ops:=[[],[],[],[],[],[],[],[],[],[],(p2 [0,0,0,0,0,2,0,0,0,2,2,1,0,0,2,1,2,2,2,2])] }
def abX:c8:={ ops:=[[],[],[],[],[],[],[],[],[],[],(p2 [0,0,0,0,0,2,0,0,0,2,2,1,0,0,2,1,2,2,2,2])] }
def abY:c8:={ ops:=[[],[],[],(p2 [0,0,0,0,0,0,2,1,0,0,2,1,2,2,2,2])] }
def abZ:c8:={ ops:=[[],[],[],[],[],[{},{},p0,pX,{},{},p0,pX,{},{},pX,p0,pX,{ mode:=3 },pX,{ takes:=[false,true] }],[],[],[],[],[],(p2 [0,0,0,0,1,0,0,1,2,1,0,0,2,1,2,2,2,2]),[],[],[],[],[{},{},p0,pX,{},{},pX,p0,pX,{ mode:=3 },pX],(p2 [0,0,0,0,1,0,0,1,2,1,0,0,2,1,2,2,2,2]),[],[],[],[],[{},{},p0,pX,{},{},pX,p0,pX,{ mode:=3 },pX],(p2 [0,0,0,0,1,0,0,1,2,1,0,0,2,1,2,2,2,2])] }
def VG:c8:={ ops:=[[],[{},{ mode:=3 },pX,{},{ mode:=3 },pX,p0,pX,pX,pX,p0,{ takes:=[true,false,true] },pX]] }
def ab0:c8:={ ops:=[[],(p2 [0,0,0,0,0,0,2,1,0,0,2,1,2,2,2,2]),[],[{},{},p0,pX,{},{},p0,pX,{},{},p0,pX,{ mode:=3 },pX,{ takes:=[false,true] }],[],[{},{},p0,pX,{},{},p0,pX,{},{},p0,pX,{ mode:=3 },{ takes:=[false,true] }],[],[],(p2 [0,0,0,0,0,0,2,1,0,0,2,1,2,2,2,2])] }
def ab1:c8:={ ops:=[[],(p2 [0,0,0,0,0,0,2,1,0,0,2,1,2,2,2,2]),[],[{},{},p0,pX,{},{},p0,pX,{},{},p0,pX,{ mode:=3 },{ takes:=[false,true] }],[],[{},{},p0,pX,{},{},p0,pX,{},{},p0,pX,{ mode:=3 },pX,{ takes:=[false,true] }],[],[],(p2 [0,0,0,0,0,0,2,1,0,0,2,1,2,2,2,2]),[],(p2 [0,0,0,0,0,0,2,1,0,0,2,1,2,2,2,2]),[],[],[{},{},p0,pX,{},{},p0,pX,{},{},p0,pX,{ mode:=3 },{ takes:=[false,true] }],[],[{},{},p0,pX,{},{},p0,pX,{},{},p0,pX,{ mode:=3 },pX,{ takes:=[false,true] }],[],[],(p2 [0,0,0,0,0,0,2,1,0,0,2,1,2,2,2,2]),[],[],(p2 [0,0,0,0,0,0,2,1,0,0,2,1,2,2,2,2])] }
def ab2:c8:={ ops:=[[],[{},pX],(p2 [1,1,1]),[],[{},pX],(p2 [1,1,1]),(p2 [1,1,1]),[pX,pX,pX,{ takes:=[false,true] },pX,p0,pX]] }
def ab3:c8:={ ops:=[[],[{},pX],(p2 [1,1,1]),[],[{},pX],(p2 [1,1,1]),(p2 [1,1,1]),[{},pX],(p2 [1,1,1]),(p2 [1,1,1]),[pX,pX,pX,{ takes:=[false,true] },pX,p0,pX]] }
def VH:c8:={ ops:=[[],[{},pX],[],[{},pX],[{},{},{},p0,pX,{ mode:=6 }],[pX,pX],[pX,pX],[]],h7:=[(0,(Ez false [0,2,5,2,10]))] }
def VI:c8:={ ops:=[[],[],(p2 [0,0,2,1]),[{},pX],[pX,pX,pX,pX,{ takes:=[false,true,true,true,true],mode:=1 }],[{},pX],[pX,pX,pX,pX,{ takes:=[false,true,true,true,true],mode:=1 }],[{},pX],[{},{},{},{},{ takes:=[false,true,true,true,true],mode:=1 }],(p2 [1,1,1]),[{},{},{},{},{ takes:=[false,true,true,true,true],mode:=1 },pX,{},pX,pX,pX],[{},pX],[{},{},{},{},{ takes:=[false,true,true,true,true],mode:=1 }],(p2 [0,1,1,0,2,2,1]),[],(p2 [0,1,0,2,1,1,1,2]),[{},{},{},{},{ takes:=[false,true,true,true,true],mode:=1 }],[{},pX,pX,{},{},{},pX,p0,pX,{},{},p0,pX,{ mode:=6 },pX,pX,{ takes:=[false,true] }],[{},pX,{},pX,{},{ takes:=[false,true,true,true,true,true],mode:=1 },pX],[pX,pX],[{},{},{},pX,{},{ takes:=[false,true,true,true,true,true],mode:=1 },pX,{},pX,pX,pX],[pX,pX],(p2 [0,0,2,0,0,2,1,1]),(p2 [1,1,1]),(p2 [0,0,2]),(p2 [1,1,2,1]),[{},pX,{},{},{},{ takes:=[false,true,true,true,true,true],mode:=1 }],(p2 [1,1,1]),(p2 [1,1,2,1]),[{},{},pX,pX,{},{},{ takes:=[false,true,true,true,true,true],mode:=1 }],[pX,pX]],h7:=[(0,(Ez false [0,5,5,2,136]))] }
def VJ:c8:={ ops:=[(p2 [0,1,1,0,1]),(p2 [0,0,2]),(p2 [1,1,1,1,1,1]),(p2 [0,0,0,0,0,0,2,1,0,0,2,1,2,2,2,2])],h7:=[(0,(Ez false [0,1,1,2,24]))] }
def ab4:c8:={ ops:=[[],[{},pX],[{},pX],(p2 [1,0,1,0,1,2,2,1]),[{},pX],(p2 [0,0,1,2,1,2,1,1,2,1]),[pX,pX]] }
def VK:c8:={ ops:=[[],[{},pX,pX,pX,pX,{},p0,pX,pX,{},p0,pX,{},pX,pX,pX,pX,{},p0,pX,pX,{},p0,{ takes:=[false,false,true] },pX]] }
def VL:c8:={ ops:=[[],[pX,pX,{ mode:=3 },pX,pX]] }
def ab6:c8:={ ops:=[[],[],[],[{},pX,{},p0,pX,{},{},{},p0,p0,pX,{},{},{},p0,pX,p0,pX,{ mode:=3 },{ takes:=[false,true] }],[],[{},{},{},p0,p0,pX,{},{},{},p0,p0,pX,{ mode:=3 },pX],(p2 [0,0,0,2,0,0,0,2,0,0,0,2,2,1,0,0,0,2,2,1,2,2,2,2])] }
def ab7:c8:={ ops:=[[],(p2 [0,0,1,0,1,1,1,2,0,2]),(p2 [0,0,1,0,1,1,1,2,0,2]),(p2 [0,0,1,0,1,1,1,2,0,2])] }
def VM:c8:={ ops:=[[],(p2 [0,1,2,1])] }
def VN:c8:={ ops:=[(p2 [0,1,1]),(p2 [0,0,2]),(p2 [1,1,1]),[{},pX],[{},{},p0,pX,{},{},{},p0,pX,{},{},pX,p0,pX,{ mode:=6 },pX,{ takes:=[false,true] }],(p2 [1,1,1]),(p2 [0,0,0,0,1,0,0,1,2,1,0,0,2,1,2,2,2,2])],h7:=[(0,(Ez false [0,4,4,1,44])),(2,(Ez false [0,4,4,2,43]))] }
def ab8:c8:={ ops:=[[],[],[],[],[],[],[],[],[],[],(p2 [0,0,0,0,0,2,0,0,0,2,2,1,0,0,2,1,2,2,2,2])] }
def ab_:c8:={ ops:=[[],[],[],[],[],[],[],[],[],[],(p2 [0,0,0,0,0,2,0,0,0,2,2,1,0,0,2,1,2,2,2,2])] }
def aca:c8:={ ops:=[[],[],[],(p2 [0,0,0,0,0,0,2,1,0,0,2,1,2,2,2,2])] }
def acb:c8:={ ops:=[[],[],[],[],[],[{},{},p0,pX,{},{},{},p0,pX,{},{},pX,p0,pX,{ mode:=6 },pX,pX,{ takes:=[false,true] }],[],[],[],[],[],(p2 [0,0,0,0,1,0,0,1,2,1,0,0,2,1,2,2,2,2]),[],[],[],[],[{},{},{},p0,pX,{},{},pX,p0,pX,{ mode:=6 },pX,pX],(p2 [0,0,0,0,1,0,0,1,2,1,0,0,2,1,2,2,2,2]),[],[],[],[],[{},{},{},p0,pX,{},{},pX,p0,pX,{ mode:=6 },pX,pX],(p2 [0,0,0,0,1,0,0,1,2,1,0,0,2,1,2,2,2,2])] }
def acd:c8:={ ops:=[[],(p2 [0,0,0,0,0,0,2,1,0,0,2,1,2,2,2,2]),[],[{},{},p0,pX,{},{},{},p0,pX,{},{},p0,pX,{ mode:=6 },pX,pX,{ takes:=[false,true] }],[],[{},{},p0,pX,{},{},{},p0,pX,{},{},p0,pX,{ mode:=6 },pX,{ takes:=[false,true] }],[],[],(p2 [0,0,0,0,0,0,2,1,0,0,2,1,2,2,2,2])] }
def ace:c8:={ ops:=[[],(p2 [0,0,0,0,0,0,2,1,0,0,2,1,2,2,2,2]),[],[{},{},p0,pX,{},{},{},p0,pX,{},{},p0,pX,{ mode:=6 },pX,{ takes:=[false,true] }],[],[{},{},p0,pX,{},{},{},p0,pX,{},{},p0,pX,{ mode:=6 },pX,pX,{ takes:=[false,true] }],[],[],(p2 [0,0,0,0,0,0,2,1,0,0,2,1,2,2,2,2]),[],(p2 [0,0,0,0,0,0,2,1,0,0,2,1,2,2,2,2]),[],[],[{},{},p0,pX,{},{},{},p0,pX,{},{},p0,pX,{ mode:=6 },pX,{ takes:=[false,true] }],[],[{},{},p0,pX,{},{},{},p0,pX,{},{},p0,pX,{ mode:=6 },pX,pX,{ takes:=[false,true] }],[],[],(p2 [0,0,0,0,0,0,2,1,0,0,2,1,2,2,2,2]),[],[],(p2 [0,0,0,0,0,0,2,1,0,0,2,1,2,2,2,2])] }
def RY:c8:={ ops:=[[],[{},pX],[],[{},pX],(p2 [0,0,0,2,1,2]),[pX,pX],[pX,pX],[]],h7:=[(0,(Ez false [0,2,5,2,10]))] }
def acf:c8:={ ops:=[[],[{},{},p0,pX,{},{},p0,pX,{ mode:=3 }]] }
def acg:c8:={ ops:=[[],[],[],[{},pX,{},p0,pX,{},{},{},{},p0,p0,pX,{},{},{},p0,pX,p0,pX,{ mode:=6 },pX,{ takes:=[false,true] }],[],[{},{},{},{},p0,p0,pX,{},{},{},p0,p0,pX,{ mode:=6 },pX,pX],(p2 [0,0,0,2,0,0,0,2,0,0,0,2,2,1,0,0,0,2,2,1,2,2,2,2])] }
def aci:c8:={ ops:=[[],[pX,{},{},p0,pX,{},{},p0,pX,{ mode:=6 },pX]] }
def acU:List c8:=[{},{},ack,acq,{},{},{},acJ,acL,acQ,abS,abV,LU,ab5,ab9,ach,VO,acj,NW,NY,VP,RZ,VQ,acm,{},acn,aco,acp,{},VR,{},PN,{},acr,acs,acu,{},VS,acv,acw,{},acx,VT,acy,{},Jc,{},VU,{},PO,acz,R0,acA,R1,acB,R2,acC,VV,acD,acE,acF,acG,acH,acI,VW,VX,VY,VZ,V0,R3,V1,V2,V3,V4,acK,V5,PQ,R4,{},MP,acM,IP,acN,La,acO,acP,{},{},{},V6,acR,acS,V7,V8,R6,R7,V9,acT,V_,V',Vv,abT,Vw,Vx,LS,Vy,PM,Vz,VA,VB,RW,VC,VD,VE,RX,VF,abW,abX,{},abY,abZ,VG,ab0,ab1,ab2,ab3,VH,VI,VJ,ab4,VK,VL,ab6,{},ab7,{},{},VM,VN,ab8,ab_,{},aca,acb,acd,ace,RY,acf,acg,{},{},aci]
def jo (k:FuncId):c8:=acU.getD k {}
end Go.Proofs.YtfakoboiahbhaaaGreat.Ab


namespace Go.Proofs.YtfakoboiahbhaaaGreat.Ab
open Go
end Go.Proofs.YtfakoboiahbhaaaGreat.Ab


namespace Go.Proofs.YtfakoboiahbhaaaGreat.Ab
open Go
end Go.Proofs.YtfakoboiahbhaaaGreat.Ab


namespace Go.Proofs.YtfakoboiahbhaaaGreat.Ab
open Go
theorem dI:Go.Proofs.Tryz.prog.follows .mixedOrders=true:=by kernel_rfl
abbrev ql (k:FuncId) (args:List I) (v:I):Prop:=lg Go.Proofs.Tryz.prog k args v
abbrev hP (n:Int):I:=.int .i64 n
abbrev rC:I:=.junk
abbrev B (b:Bool):I:=.bool b
def jh (l:List Int):I:=.ay (l.map hP) l.length .shared
def iq (l:List (List Int)):I:=.ay (l.map jh) l.length .shared
theorem Ye (d:Nat) (l:List Int):(l.map hP).all (cq (d+1))=true:=by
 rw [sC];intro u hu;obtain ⟨x,_,rfl⟩:=sv.1 hu;rfl
theorem Yd (d:Nat) (l:List Int):cq (d+2) (jh l)=true:=Ye d l
theorem Tz (d:Nat) (l:List (List Int)):(l.map jh).all (cq (d+2))=true:=by
 rw [sC];intro u hu;obtain ⟨x,_,rfl⟩:=sv.1 hu;exact Yd d x
theorem ahk (d:Nat) (l:List (List Int)):cq (d+3) (iq l)=true:=Tz d l
theorem OL (k:IntKind) (n:Int):cq 8 (.int k n)=true:=rfl
theorem OU (b:Bool):cq 8 (.bool b)=true:=rfl
theorem OM (l:List Int) (n:Nat) (c:il):cq 8 (.ay (l.map hP) n c)=true:=Ye 6 l
theorem OO (l:List (List Int)) (n:Nat) (c:il):cq 8 (.ay (l.map jh) n c)=true:=Tz 5 l
theorem ON (l:List Int):cq 8 (jh l)=true:=Yd 6 l
theorem OP (l:List (List Int)):cq 8 (iq l)=true:=ahk 5 l
theorem OV (k:FuncId):cq 8 (.func k [] [])=true:=rfl
theorem OW (n:Nat) (c:il):cq 8 (.ay [] n c)=true:=rfl
theorem Lv (l:List (List Int)) (n:Nat) (c:il):cq 8 (.agg [.ay (l.map jh) n c])=true:=by
 show [I.ay (l.map jh) n c].all (cq 7)=true;rw [tt,ua,tU];exact Tz 4 l
theorem OQ (l:List (List Int)):cq 8 (.agg [iq l])=true:=Lv l _ _
theorem OS (l:List (List Int)):cq 8 (.bU [iq l])=true:=Lv l _ _
theorem OT (l:List (List Int)) (n:Nat) (c:il):cq 8 (.bU [.ay (l.map jh) n c])=true:=Lv l _ _
theorem agM {α:Type} (f:α→I) (l:List α) (i:Nat) (h:i<l.length) {K:I→Prop} (k:K (f l[i])):eP ((l.map f).drop (i*1)) 0 K :=
 DW (x:=f l[i]) (by simp [h]) k
theorem rD (i:Nat) (h:i≤9223372036854775806):IntKind.i64.wrap ((i:Int)+1)=((i+1:Nat):Int):=by rw [IntKind.wrap_i64];omega
theorem JI (n:Int) (ad:-9223372036854775808≤n) (af:n≤9223372036854775807):IntKind.i64.wrap n=n:=by rw [IntKind.wrap_i64];omega
theorem Yc:∀ {d:Nat} {v:I},cq d v=true→cq (d+1) v=true
 | 0,v,h=>by simp [cq] at h
 | d+1,v,h=>by
   have key:∀ {l:List I},l.all (cq d)=true→l.all (cq (d+1))=true:=fun h=>by
    rw [sC] at h ⊢;exact fun u hu=>Yc (h u hu)
   cases v <;> simp only [cq,sy,tH] at h ⊢ <;> first | trivial | exact key h | exact ⟨key h.1,key h.2⟩
theorem IG {p:Prop} [Decidable p] {A C:Prop} (ad:p→A) (af:¬ p→C):(match decide p with | true=>A | false=>C):=by
 by_cases h:p
 ·simp only [h,decide_true];exact ad h
 ·simp only [h,decide_false];exact af h
theorem Kz {k:FuncId} {xs:List I} {v:I}:∀ p∈([]:dh),p.1=k→p.2.1=xs→p.2.2=v:=fun _ h=>by simp at h
theorem x2 {k k':FuncId} {xs ys:List I} {v br:I} (h:k'=k→ys=xs→br=v):∀ p∈([(k',ys,br)]:dh),p.1=k→p.2.1=xs→p.2.2=v:=fun p aC=>by
 simp only [List.mem_singleton] at aC;subst aC;exact h
theorem Vs {k:FuncId} {xs:List I} {v:I} {acc:dh} (h:acc.all (fun p=>p.1 != k)=true):∀ p∈acc,p.1=k→p.2.1=xs→p.2.2=v:=fun p aC e=>by
 have:=sC.1 h p aC;simp [e] at this
def rS (cap:List I):Prop:=cap.all (cq 7)=true∧∀ u∈cap,∃ cs,u=.bU cs
theorem rS.MO {cap:List I} (h:rS cap):cap.all (cq 8)=true:=by
 have ad:=h.1;rw [sC] at ad ⊢;exact fun u hu=>Yc (ad u hu)
theorem rS.ij {cap:List I} (h:rS cap) (H:List au):cap.map (ij H)=cap:=by
 conv=>rhs;rw [←vb cap]
 apply tT;intro u hu;obtain ⟨cs,rfl⟩:=h.2 u hu;rfl
theorem rS.hF {cap:List I} (h:rS cap) (H:List au):cap.map (hF H)=cap:=by
 conv=>rhs;rw [←vb cap]
 apply tT;intro u hu;obtain ⟨cs,rfl⟩:=h.2 u hu;rfl
theorem rS.cr {cap:List I} (h:rS cap):cap.map I.cr=cap:=by
 conv=>rhs;rw [←vb cap]
 apply tT;intro u hu;obtain ⟨cs,rfl⟩:=h.2 u hu;rfl
theorem rS.fn {cap:List I} (h:rS cap) (H:List au) (k:FuncId):Ab.ij H (.func k [] cap)=.func k [] cap:=by
 simp only [Ab.ij,h.hF,List.map_nil]
theorem rS.OH {cap:List I} (h:rS cap) (k:FuncId):cq 8 (.func k [] cap)=true:=by
 show (([]:List I).all (cq 7) && cap.all (cq 7))=true;rw [h.1];rfl
theorem rS.nil:rS []:=⟨rfl,by simp⟩
section
variable {P:Program}
theorem call6 {k:FuncId} {xs bs:List I} {H:List au} {lo:Nat} {v:I} (ag:(xs.map (ij H)).map I.cr=bs) (aC:(xs.map (ij H)).all (cq 8)=true) (h:lg P k bs v) (ai:gd v=true):om P 6 lo (.fn k) xs H v.cr H:=by
 subst ag;refine ⟨kP (.fn k) ((xs.map (ij H)).map I.cr) [] 0 v [],D2 h.1,?_⟩;simp only [eT,aC,D1,sb,oR h.2,ai]
end
theorem WX {H:List au} {id d:Nat} {l:List I} (h:H[id]?=some (.cells l)) (aC:(l.map I.view).all (cq d)=true):bJ H 0 H.length 0 (d+1) (.ptr id 0)=some (.bU (l.map I.view)):=by
 have ad:=(sa.1 h).1;have af:ec (bJ H 0 H.length 0 d) (l.map I.view)=some (l.map I.view):=zs fun u hu=>oR (by rw [sC] at aC;exact aC u hu);simp only [bJ,Nat.not_lt_zero,if_false,h,sQ,af,sf];rw [if_neg (by omega)]
def idxOf {α:Type} (p:α→Bool):List α→Nat→Int
 | [],_ => -1
 | x::l,i=>if p x=true then i else idxOf p l (i+1)
end Go.Proofs.YtfakoboiahbhaaaGreat.Ab


namespace Go.Proofs.YtfakoboiahbhaaaGreat.Ab
open Go
section
variable {P:Program}
theorem Sh (dI:P.follows .mixedOrders=true) {k:Nat} {A:c8} {rc:ez} {n:Nat} {ts:List ji} (ak:zf P A k=some (rc,n,ts)) {lo:Nat} {args T:List I} {H H':List au} (bX:args++List.replicate (n-args.length) .junk=T) {v:I} (po:ba lo H H')
  (h:dC P A k lo none rc T H fun e fg H1=>(e=.normal∨e=.ret)∧jg H1 H'∧(jZ H1 fg ts).map g'=some v):Sem P (.fn k) args H lo v H':=by
 unfold zf at ak;split at ak
 ·rename_i f aQ;split at ak
  ·rename_i c ag;split at ak
   ·rename_i Gu FF ad af aG a6;simp only [Option.some.injEq,Prod.mk.injEq] at ak;obtain ⟨rfl,rfl,rfl⟩:=ak;subst bX;refine GD dI aQ ag (by simpa using af) ad po (k9 (fun e s a3=>?_) (xa aG h));obtain ⟨cb,b8,dZ⟩:=a3;simp only [Option.map_eq_some_iff] at dZ;obtain ⟨vs,dZ,hn⟩:=dZ;exact ⟨cb,b8,vs,by rw [xl _ _ a6,dZ],hn⟩
   ·cases ak
  ·cases ak
 ·cases ak
end
theorem Ig {P:Program} (dI:P.follows .mixedOrders=true) {k:Nat} {A:c8} {rc:ez} {n:Nat} {ts:List ji} (ak:zf P A k=some (rc,n,ts)) {lo:Nat} {args T:List I} {H H':List au} (bX:args++List.replicate (n-args.length) .junk=T) {v:I} (po:ba lo H H')
  (h:∀ Q:cB→List I→List au→Prop,(∀ e fg H1,(e=.normal∨e=.ret)∧jg H1 H'∧(jZ H1 fg ts).map g'=some v→Q e fg H1)→dC P A k lo none rc T H Q):Sem P (.fn k) args H lo v H' :=
 Sh dI ak bX po (h _ fun _ _ _ h=>h)
theorem I9 {P:Program} {A:c8} {fn:FuncId} {lo:Nat} {rl:Option Nat} {c:ez} {T:List I} {H:List au} {K:cB→List I→List au→Prop} (h:∀ K':cB→List I→List au→Prop,(∀ e T H,K e T H→K' e T H)→dC P A fn lo rl c T H K'):dC P A fn lo rl c T H K:=h K fun _ _ _ h=>h
theorem Is {P:Program} {lo:Nat} {b0:e4} {xs:List I} {H H':List au} {v:I} (h:Sem P b0 xs H lo v H'):om P 1 lo b0 xs H v H' :=
 ⟨kP b0 xs H lo v H',D2 h,by simp only [eT,D1]⟩
theorem YI {P:Program} {k:FuncId} {args:List I} {v:I} (cd:args.all (cq 8)=true) (h:lg P k args v) (H:List au):Sem P (.fn k) args H H.length v H:=by
 obtain ⟨⟨_,ad,af⟩,aC⟩:=h
 exact ⟨ba.refl _ _,ad,fun B U J S w vs ah aN ae=>CallsIn.mono (af B _ [] S w vs (yT ah) (fun b i h=>by obtain ⟨_,_,h⟩:=lu h;cases h) (ae.pure cd)) fun e w' he=>by
  cases e with
  | returned v=>exact zK ah (oR (n:=0) aC) he
  | panicked c=>exact he.elim
  | outgrown=>exact he.elim⟩
theorem adj {P:Program} {k:FuncId} {args:List I} {v:I} (cd:args.all (cq 8)=true) (h:lg P k args v) (H:List au) (lo:Nat):om P 0 lo (.fn k) args H v H :=
 ⟨_,D2 (YI cd h H),by simp only [eT,D1,sb,oR h.2,sf]⟩
theorem qF {X Z:List au} {j:Nat} {o:au} (h:X[j]?=some o):(X++Z)[j]?=some o:=by
 rw [sB (sa.1 h).1];exact h
theorem rk (X:List au) (c dW:au):(X++[c]).set X.length dW=X++[dW]:=by simp
theorem J' (X:List au) (c:au):(X++[c])[X.length]?=some c:=by simp
end Go.Proofs.YtfakoboiahbhaaaGreat.Ab


namespace Go.Proofs.YtfakoboiahbhaaaGreat.Ab
open Go
def p_:Nat:=18446744073709551616
theorem rn {n:Nat} (h:n≤9223372036854775808):n<p_:=by unfold p_;omega
def p8 (p:Prop) [Decidable p] {aT:Type} (k:Option aT):Option aT:=if p then k else none
theorem qn {p:Prop} [Decidable p] {aT:Type} {k:Option aT} {v:aT} (h:p8 p k=some v):p∧k=some v:=by
 unfold p8 at h;split at h
 ·exact ⟨by assumption,h⟩
 ·cases h
theorem qc {p:Prop} [Decidable p] {aT:Type} {k:Option aT} (h:p):p8 p k=k:=if_pos h
theorem qd {α aT:Type} {x:Option α} {f:α→Option aT} {v:aT} (h:x.bind f=some v):∃ a,x=some a∧f a=some v:=by
 cases x with
 | none=>cases h
 | some a=>exact ⟨a,rfl,h⟩
theorem Hg {b:Bool} {aT:Type} {x y:Option aT} {v:aT} (ag:b=true) (h:(if b=true then x else y)=some v):x=some v:=by
 rw [if_pos ag] at h;exact h
theorem Hf {b:Bool} {aT:Type} {x y:Option aT} {v:aT} (ag:b=false) (h:(if b=true then x else y)=some v):y=some v:=by
 rw [if_neg (by rw [ag];decide)] at h;exact h
theorem Je (b:Bool):b=true∨b=false:=by cases b <;> simp
def ix {α:Type} [Inhabited α] (l:List α) (i:Int):α:=l.getD i.toNat default
theorem re {α:Type} [Inhabited α] {l:List α} {k:Nat} (h:k<l.length):ix l (k:Int)=l[k]:=by
 simp [ix,h]
theorem Qj {α:Type} [Inhabited α] {l:List α} {i:Int} (h:0≤i∧i<(l.length:Int)):ix l i=l[i.toNat]'(by omega):=by
 have:i.toNat<l.length:=by omega
 simp [ix,this]
abbrev w (n:Int):Int:=IntKind.i64.wrap n
theorem ajU {n:Int} (ad:-9223372036854775808≤n) (af:n≤9223372036854775807):w n=n:=JI n ad af
theorem q7 {aT:Type} {v:aT} {G:Prop} (h:(none:Option aT)=some v):G:=by cases h
def abN {α:Type} (f:α→I) (l:List α):I:=.ay (l.map f) l.length .shared
def rv {α:Type} (f:α→List I) (l:List α):I:=.ay (l.flatMap f) l.length .shared
theorem rT {α:Type} [Inhabited α] (f:α→I) (l:List α) (n:Int) (h:0≤n∧n<(l.length:Int)):(l.map f).drop (n.toNat*1)=f (ix l n)::(l.drop (n.toNat+1)).map f:=by
 have aX:n.toNat<l.length:=by omega
 rw [tA,←uj,sW aX,ss,Qj h]
theorem qW {α:Type} [Inhabited α] (f:α→List I) (s:Nat) (ai:∀ x,(f x).length=s):∀ (l:List α) (n:Int),0≤n∧n<(l.length:Int)→(l.flatMap f).drop (n.toNat*s)=f (ix l n)++(l.drop (n.toNat+1)).flatMap f:=by
 have key:∀ (l:List α) (k:Nat) (h:k<l.length),(l.flatMap f).drop (k*s)=f l[k]++(l.drop (k+1)).flatMap f:=by
  intro l
  induction l with
  | nil=>intro k h;simp at h
  | cons x l a_ =>
    intro k h;cases k with
    | zero=>simp
    | succ k =>
      (have av:k<l.length:=by simpa using h);(have e:(k+1)*s=(f x).length+k*s:=by rw [ai,th,vD,te]);rw [tV,e,List.drop_length_add_append,a_ k av];rfl
 intro l n h;rw [key l n.toNat (by omega),Qj h]
theorem Iv {α:Type} (f:α→List I) (s:Nat) (ai:∀ x,(f x).length=s) (l:List α):(l.flatMap f).length=l.length*s:=by
 induction l with
 | nil=>simp
 | cons x l a_=>rw [tV,su,a_,ai,List.length_cons,th,vD,te]
theorem acX {α:Type} (f:α→I) (l m:List α) (c:il):I.ay (l.map f++m.map f) (l.length+m.length) c=.ay ((l++m).map f) (l++m).length c:=by
 rw [td,su]
theorem Lb {α:Type} (f:α→I) (l:List α) (x:α) (c:il):I.ay (l.map f++[f x]) (l.length+1) c=.ay ((l++[x]).map f) (l++[x]).length c:=by
 rw [td,su];rfl
theorem Jd {α:Type} (f:α→List I) (l:List α) (x:α) (c:il):I.ay (l.flatMap f++f x) (l.length+1) c=.ay ((l++[x]).flatMap f) (l++[x]).length c:=by
 simp [vE]
theorem acY {α:Type} (f:α→List I) (l m:List α) (c:il):I.ay (l.flatMap f++m.flatMap f) (l.length+m.length) c=.ay ((l++m).flatMap f) (l++m).length c:=by
 simp [vE]
theorem aiG {α:Type} (f:α→I) (l:List α) (n:Int) (h:0≤n∧n≤(l.length:Int)) (c:il):I.ay ((l.map f).take (n.toNat*1)) n.toNat c=.ay ((l.take n.toNat).map f) (l.take n.toNat).length c:=by
 rw [tA,sV,←ui,tF (by omega)]
theorem IL {α:Type} [Inhabited α] (f:α→I) (l:List α) (n:Int) (h:0≤n∧n<(l.length:Int)) {K:I→Prop} (k:K (f (ix l n))):eP (l.map f) (0+n.toNat*1) K:=by
 have aX:n.toNat<l.length:=by omega
 refine DW (x:=f (ix l n)) ?_ k;rw [sO,tA,sA,sq aX,Qj h];rfl
theorem Kq {α:Type} (f:α→I) (l:List α) (n:Int) (x:α) (h:0≤n∧n<(l.length:Int)) {K:List I→Prop} (k:K ((l.set n.toNat x).map f)):jc (l.map f) (0+n.toNat*1) (f x) K:=by
 have aX:n.toNat<l.length:=by omega
 refine A_ (by simpa using aX) ?_;rw [sO,tA,←uM];exact k
theorem Uy {α:Type} (f:α→I) (x:α):∀ n,eY n [f x]=(List.replicate n x).map f
 | 0=>rfl
 | n+1=>by rw [eY,Uy f x n];rfl
theorem Vu {a b:Bool} (h:a=true) (k:b=true):(a && b)=true:=by rw [h,k];rfl
theorem pY {α:Type} {f:α→Bool} {x:α} {l:List α} (h:f x=true) (k:l.all f=true):(x::l).all f=true:=Vu h k
theorem I1 {cs:List I} {d:Nat} (h:cs.all (cq d)=true):cq (d+1) (.agg cs)=true:=h
theorem qO {cs:List I} {d:Nat} (h:cs.all (cq d)=true):cq (d+1) (.bU cs)=true:=h
theorem Kl {cs:List I} {d:Nat} (h:cs.all (cq d)=true):cq (d+1) (.tuple cs)=true:=h
theorem JX {k:FuncId} {a b:List I} {d:Nat} (ad:a.all (cq d)=true) (af:b.all (cq d)=true):cq (d+1) (.func k a b)=true:=Vu ad af
theorem rp {α:Type} {f:α→I} {d:Nat} (h:∀ x,cq d (f x)=true) (l:List α) (n:Nat) (c:il):cq (d+1) (.ay (l.map f) n c)=true:=by
 show (l.map f).all (cq d)=true;rw [sC];intro u hu;obtain ⟨x,_,rfl⟩:=sv.1 hu;exact h x
theorem qL {α:Type} {f:α→List I} {d:Nat} (h:∀ x,(f x).all (cq d)=true) (l:List α) (n:Nat) (c:il):cq (d+1) (.ay (l.flatMap f) n c)=true:=by
 show (l.flatMap f).all (cq d)=true;rw [sC];intro u hu;obtain ⟨x,_,al⟩:=vd.1 hu;exact sC.1 (h x) u al
theorem Qv {α:Type} {f:α→I} {d:Nat} (h:∀ x,cq d (f x)=true) (l:List α):(l.map f).all (cq d)=true:=by
 rw [sC];intro u hu;obtain ⟨x,_,rfl⟩:=sv.1 hu;exact h x
theorem lg.cr {P:Program} {k:FuncId} {args:List I} {v:I} (h:lg P k args v) (aC:cq 8 v.cr=true):lg P k args v.cr :=
 ⟨⟨h.1.1,h.1.2.1,fun B U J S w vs ah aN ae=>CallsIn.mono (h.1.2.2 B U J S w vs ah aN ae) fun e w' he=>by
   cases e with
   | returned x=>exact a1.cr he
   | panicked c=>exact he.elim
   | outgrown=>exact he.elim⟩,aC⟩
section
variable {P:Program} {B:Nat} {J:List Nat} {w:World} {U:Nat→Option aI} {S:Nat→Nat→Prop}
theorem a1.ZS {H':List au} {r:I} {v:Value} {w':World} (h:a1 B U J S w H' r v w'):a1 B U J S w H' r.settle.view.cr v w':=by
 have ad:a1 B U J S w H' r.settle v w':=by
  cases r with
  | ay c n k=>cases k with
    | uniq z=>exact h.settle
    | _=>exact h
  | _=>exact h
 have af:r.settle.cT=true:=by
  cases r with
  | ay c n k=>cases k <;> rfl
  | _=>rfl
 obtain ⟨bn,cg,bH,a,b,c,d,e⟩:=ad;exact a1.cr ⟨bn,cg,bH,a,b,c,d.view af,aV.b3 (I.dg _)⟩
theorem ahn (dI : P.follows .mixedOrders = true) {k : Nat} {f : Func} {c : Code} (aQ : P.funcs[k]? = some f) (ag : f.body = some c) (aN : f.name ≠ "runtime.NumGoroutine") {A : c8} (bO : codeOk A c = true)
  {args:List I} {v:I} (aC:cq 8 v=true)
  (h:c3 P A k 0 none c 0 ⟨args++List.replicate (f.ntmps-args.length) .junk,[]⟩ fun e s=>(e=.normal∨e=.ret)∧∃ vs r,fe P s.H s.T f.results.toList=some vs∧bJ s.H 0 s.H.length 0 8 (g' vs)=some r∧r.settle.view.cr=v):lg P k args v:=by
 refine ⟨⟨ba.refl _ _,⟨f,aQ,by simp [ag],aN⟩,fun B U J S w xs ah _ ae=>?_⟩,aC⟩;refine callsIn_of_wp_marks aQ ag trivial ?_;have aK:=xN ah ae f.ntmps;have db:=(oc ah).1;refine og dI c 0 _ _ h bO Fence.wide _ B w.heap.size J w (hI U) S _ (.inl ⟨rfl,rfl⟩) (fun l a w aO=>aO.elim) aK fun e s av aM w' ai=>?_;obtain ⟨he,vs,r,aj,Cu,eh⟩:=av;obtain ⟨b2,cQ,a4,aJ,aP,b'⟩:=ai;have iI:LeavesInM Fence.wide 0 P f aM.tmps (ft B U J S w [] v) aM.defers .returning w':=by
  refine nE (U:=b2) (S:=a4) (J:=cQ) (B:=B) (H:=s.H) (lf:=U) (S0:=S) (w0:=w) aM.defers w' b'.M.2.1 b'.M.2.2 (db.trans aP) b'.H fun bT dt dk mh mi=>?_
  have bX:a9 .slot b2 cQ a4 bT s.T aM.tmps.toList:=⟨b'.T.len,fun i u v hu ae=>(b'.T.rel i u v hu ae).mono (Ext.refl _) (fun b o h=>⟨h,dk b o h⟩),fun i u v hu ae =>
   (b'.T.own i u v hu ae).mono (Ext.refl _) (fun b o h=>⟨h,dk b o h⟩) fun b ag=>⟨ag,dt b _ ag,fun _ h=>h⟩⟩
  obtain ⟨x,q1,aW⟩:=xr mi bX aj;have nr:=xi ah (fun id aE=>by simp at aE) Cu (a1.after aJ mh aW);refine ⟨x,q1,?_⟩;rw [←eh];exact nr.ZS
 rcases he with rfl | rfl
 ·exact iI
 ·exact iI
end
inductive Jx (rs:List ji) (v:I) (e:cB) (T:List I) (H:List au):Prop where
 | mk (he:e=.normal∨e=.ret) (vs:List I) (aj:jZ H T rs=some vs) (r:I) (aQ:bJ H 0 H.length 0 8 (g' vs)=some r) (ae:r.settle.view.cr=v)
theorem qM {P:Program} (dI:P.follows .mixedOrders=true) {k:Nat} {A:c8} {rc:ez} {n:Nat} {ts:List ji} (ak:zf P A k=some (rc,n,ts)) {args T:List I} (bX:args++List.replicate (n-args.length) .junk=T) {v:I} (aC:cq 8 v=true)
  (h:∀ Q:cB→List I→List au→Prop,(∀ e T H,Jx ts v e T H→Q e T H)→dC P A k 0 none rc T [] Q):lg P k args v:=by
 have h:=h _ fun _ _ _ h=>h;unfold zf at ak;split at ak
 ·rename_i f aQ;split at ak
  ·rename_i c ag;split at ak
   ·rename_i Gu FF ad af aG a6;simp only [Option.some.injEq,Prod.mk.injEq] at ak;obtain ⟨rfl,rfl,rfl⟩:=ak;subst bX;have a3:∀ e s,Jx FF v e (a5.T s) (a5.H s)→(e=.normal∨e=.ret)∧∃ vs r,fe P s.H s.T f.results.toList=some vs∧bJ s.H 0 s.H.length 0 8 (g' vs)=some r∧r.settle.view.cr=v:=fun e s ⟨cb,vs,B0,r,b8,dZ⟩=>by
     exact ⟨cb,vs,r,by rw [xl _ _ a6,B0],b8,dZ⟩
    exact ahn dI aQ ag (by simpa using af) ad aC (k9 a3 (xa aG h))
   ·cases ak
  ·cases ak
 ·cases ak
theorem wp_loop {P:Program} {A:c8} {fn:FuncId} {lo:Nat} {rl:Option Nat} {cD:List Bool} {c:ez} {T Vl:List I} {H:List au} {Q:cB→List I→List au→Prop} (bX:eR cD T=Vl)
  (h:Bk (fun T H Q=>nO T fun T=>dC P A fn lo rl c T H fun e a7 H'=>match e with
   | .normal=>pR (some cD) a7 fun a7=>Q .normal a7 H'
   | e=>Q e a7 H') Vl H Q):dC P A fn lo rl (.loop (some cD) c) T H Q:=by
 show pR (some cD) T _;rw [Dj];subst bX;exact h
def Qp {α:Type} (f:α→List I):Option α→I
 | none=>.eC
 | some x=>.bU (f x)
theorem Yb {α:Type} {f:α→List I} {d:Nat} (h:∀ x,(f x).all (cq d)=true) (x:Option α):cq (d+1) (Qp f x)=true:=by
 cases x with
 | none=>rfl
 | some x=>exact h x
abbrev Vm (n:Int):I:=.int .u8 n
theorem XS {f:I→Option I}:ec f []=some []:=rfl
theorem XR {f:I→Option I} {x y:I} {l r:List I} (h:f x=some y) (k:ec f l=some r):ec f (x::l)=some (y::r):=by simp only [ec,h,k,sf]
theorem aiv {α:Type} {f:α→I} {H:List au} {id n:Nat} {l:List α} {cap:Option Nat} (ah:H[id]?=some (.cells (l.map f))) (aN:n=l.length) (ae:∀ x,(f x).view=f x):rowOf H (.ref id 0 n cap 1)=some (l.map f):=by
 subst aN;simp only [rowOf,ah,sO,tA,sZ,sd,if_true,sQ];rw [tO (by simp),tx];congr 1;exact tT fun x _=>ae x
theorem ad3 {α:Type} {f:α→I} {H:List au} {id n d:Nat} {l:List α} {cap:Option Nat} (ah:H[id]?=some (.cells (l.map f))) (aN:n=l.length) (aC:∀ x,cq d (f x)=true) (ae:∀ x,(f x).view=f x):bJ H 0 H.length 0 (d+1) (.ref id 0 n cap 1)=some (.ay (l.map f) n (gT cap n)):=by
 have ad:=(sa.1 ah).1;have af:ec (bJ H 0 H.length 0 d) (l.map f)=some (l.map f):=zs fun u hu=>by
  obtain ⟨x,_,rfl⟩:=sv.1 hu;exact oR (aC x)
 simp only [bJ,Nat.not_lt_zero,if_false,aiv ah aN ae,af,sf];rw [if_neg (by omega)]
theorem ajV (cs:List I) (n m:Nat) (c:Option Nat):(I.ay cs n (gT c m)).settle.view.cr=.ay cs n .shared:=by
 unfold gT;split
 ·split <;> rfl
 ·rfl
theorem IU {P:Program} {k:FuncId} {xs cs bs:List I} {H:List au} {lo:Nat} {v:I} (ai:xs.map (ij H)=cs) (ag:cs.map I.cr=bs) (aC:cs.all (cq 8)=true) (h:lg P k bs v) (ae:gd v=true):om P 6 lo (.fn k) xs H v.cr H :=
 call6 (by rw [ai,ag]) (by rw [ai];exact aC) h ae
theorem qX {f:I→I} {x y:I} {l r:List I} (h:f x=y) (k:l.map f=r):(x::l).map f=y::r:=by rw [ss,h,k]
theorem ry {f:I→I}:([]:List I).map f=[]:=rfl
theorem Kp {H:List au} {k:FuncId} {a b aM ar:List I} (ad:a.map (hF H)=aM) (af:b.map (hF H)=ar):ij H (.func k a b)=.func k aM ar:=by simp only [ij,ad,af]
theorem I5 {H:List au} {id off:Nat} {cs ds:List I} (ah:H[id]?=some (.cells cs)) (he:((cs.drop off).map I.view).map (j6 H)=ds):hF H (.ptr id off)=.bU ds:=by simp only [hF,ah,he]
def II {α Hm:Type} (g:Hm→α→Option Hm):List α→Hm→Option Hm
 | [],s=>some s
 | x::l,s=>(g s x).bind fun t=>II g l t
theorem PZ {α Hm:Type} {g:Hm→α→Option Hm}:∀ {l:List α} {s t:Hm},II g l s=some t→∃ F:Nat→Hm,F 0=s∧F l.length=t∧∀ (i:Nat) (h:i<l.length),g (F i) l[i]=some (F (i+1))
 | [],s,t,h=>⟨fun _=>s,rfl,Option.some.inj h,fun i hi=>absurd hi (by simp)⟩
 | x::l,s,t,h=>by
   obtain ⟨u,ad,af⟩:=qd h;obtain ⟨F,f1,f2,f3⟩:=PZ af;refine ⟨fun i=>match i with | 0=>s | i+1=>F i,rfl,f2,fun i hi=>?_⟩;cases i with
   | zero=>show g s x=some (F 0);rw [f1,ad]
   | succ i=>exact f3 i (by simpa using hi)
def Seq (P:Program) (k:FuncId) (cap:List I) (E:List I):Prop :=
 ∀ (l N:Nat) (q3:Nat→List au),(∀ i,(q3 i).length=N)→l<N →
   (∀ (i:Nat) (h:i<E.length) (Y:List au),∃ qq,Sem P (.yield l) [E[i]] (q3 i++Y) 0 (.bool true) (q3 (i+1)++qq)) →
   ∀ Y,∃ qq,Sem P (.fn k) (.yield l::cap) (q3 0++Y) 0 (.tuple []) (q3 E.length++qq)
theorem Lo {H X:List au} (h:H.length≤X.length):ba 0 H X:=⟨h,fun _ h _=>absurd h (by omega)⟩
theorem UG (X Y:List au) (c d:au):((X++[c])++Y).set X.length d=(X++[d])++Y:=by
 rw [sj,List.set_append_right _ _ (sd _)];simp
theorem Lh (X Y:List au) (c:au):((X++[c])++Y)[X.length]?=some c:=by
 rw [sj,sM (sd _)];simp
theorem aio {α:Type} {P:Program} {A:c8} {fn:FuncId} {rl:Option Nat} {k:FuncId} {cap:List I} {bh:List Nat} {gq bY:Code} {T:List I} {H Hn:List au} {Q:cB→List I→List au→Prop} {f:α→I} {L:List α} (KJ:Seq P k cap (L.map f))
  (Obj:Nat→List au) (aS:Obj 0=H) (hlen:∀ i,(Obj i).length=H.length)
  (KI:∀ (i:Nat) (h:i<L.length) (Y:List au),∃ qq,Sem P (.yield H.length) [f L[i]] ((Obj i++[.loop .ready none fn (T.map I.view) bh gq bY A])++Y) 0 (.bool true) ((Obj (i+1)++[.loop .ready none fn (T.map I.view) bh gq bY A])++qq))
  (gX:inLoop H rl=true) (aN:Obj L.length=Hn) (bl:∀ qq,Q .normal (T.map I.settle) ((Hn++[.dead])++qq)):n2 P A fn 0 rl (.func k [] cap) bh gq bY T H Q:=by
 obtain ⟨qq,cm⟩:=KJ H.length (H.length+1) (fun i=>Obj i++[.loop .ready none fn (T.map I.view) bh gq bY A]) (fun i=>by simp [hlen]) (by omega) (fun i h Y=>by
  have aX:i<L.length:=by simpa using h
  obtain ⟨qq,aj⟩:=KI i aX Y
  exact ⟨qq,by rw [ub];exact aj⟩) []
 subst aN;simp only [sP,sZ,aS] at cm;have ak:(Obj L.length).length=H.length:=hlen _;refine ⟨gX,.tuple [],_,.ready,none,fn,T.map I.view,bh,gq,bY,A,cm,by rw [←ak];exact Lh _ _ _,by decide,?_⟩;show Q .normal (T.map I.settle) (((Obj L.length++[au.loop .ready none fn (T.map I.view) bh gq bY A])++qq).set H.length .dead);rw [←ak,UG];exact bl qq
end Go.Proofs.YtfakoboiahbhaaaGreat.Ab


namespace Go.Proofs.YtfakoboiahbhaaaGreat.Ab
open Go
theorem adZ {H:List au} {lo i n d:Nat} {k:FuncId} {a b aM ar:List I} (ad:ec (bJ H lo i n d) a=some aM) (af:ec (bJ H lo i n d) b=some ar):bJ H lo i n (d+1) (.func k a b)=some (.func k aM ar):=by simp only [bJ,ad,af]
theorem UA {α:Type} {P:Program} {A:c8} {fn:FuncId} {rl:Option Nat} {k:FuncId} {cap:List I} {t:Nat} {bh:List Nat} {gq bY:Code} {T:List I} {H Hn:List au} {Q:cB→List I→List au→Prop} {f:α→I} {L:List α} (KJ:Seq P k cap (L.map f))
  (Obj:Nat→List au) (ax:c5 T t=.func k [] cap) (aS:Obj 0=H) (hlen:∀ i,(Obj i).length=H.length)
  (KI:∀ (i:Nat) (h:i<L.length) (Y:List au),∃ qq,Sem P (.yield H.length) [f L[i]] ((Obj i++[.loop .ready none fn (T.map I.view) bh gq bY A])++Y) 0 (.bool true) ((Obj (i+1)++[.loop .ready none fn (T.map I.view) bh gq bY A])++qq))
  (gX:inLoop H rl=true) (aN:Obj L.length=Hn) (bl:∀ qq,Q .normal (T.map I.settle) ((Hn++[.dead])++qq)):dC P A fn 0 rl (.An (.sl t) bh gq bY) T H Q:=by
 show ho T t _;rw [iC,ax];exact aio KJ Obj aS hlen KI gX aN bl
end Go.Proofs.YtfakoboiahbhaaaGreat.Ab


namespace Go.Proofs.YtfakoboiahbhaaaGreat.Ab
open Go
theorem adW {α:Type} [Inhabited α] (f:α→List I) (s:Nat) (ai:∀ x,(f x).length=s) (l:List α) (n:Int) (h:0≤n∧n<(l.length:Int)) (j:Nat) (aw:j<s):(l.flatMap f)[n.toNat*s+j]?=(f (ix l n))[j]?:=by
 have e:=qW f s ai l n h
 have:(l.flatMap f)[n.toNat*s+j]?=((l.flatMap f).drop (n.toNat*s))[j]?:=by rw [sY]
 rw [this,e,sB (by rw [ai];exact aw)]
theorem ah9 {α:Type} [Inhabited α] (f:α→List I) (s:Nat) (ai:∀ x,(f x).length=s) (l:List α) (n:Int) (h:0≤n∧n<(l.length:Int)) (j:Nat) {v:I} (aw:(f (ix l n))[j]?=some v) {K:I→Prop} (k:K v):eP (l.flatMap f) (0+n.toNat*s+j) K:=by
 refine DW (x:=v) ?_ k;rw [sO,adW f s ai l n h j (by have:=(sa.1 aw).1;rw [ai] at this;exact this),aw]
theorem ah_ {α:Type} [Inhabited α] (f:α→List I) (s:Nat) (ai:∀ x,(f x).length=s) (l:List α) (n:Int) (h:0≤n∧n<(l.length:Int)) {v:I} (aw:(f (ix l n))[0]?=some v) {K:I→Prop} (k:K v):eP (l.flatMap f) (0+n.toNat*s) K :=
 ah9 f s ai l n h 0 aw k
theorem ad0 {P:Program} {C:b6} {lo id n:Nat} {cap:Option Nat} {o:Oper} {x:Operand} {H:List au} {cs:List I} {sz:Nat} (aq:o.op=.move x) (bD:lo≤id) (ah:H[id]?=some (.cells cs)) (aN:cs.length=n*sz) (ae:∀ u∈cs,u.view=u) :
  a8 P C lo o 2 [.ref id 0 n cap sz] H=some (.ay cs n (gT cap n),H.set id .dead):=by
 unfold a8;rw [aq];show eQ P lo 2 o.type x H [.ref id 0 n cap sz]=_;unfold eQ;simp only [bD,if_true,rowOf,ah,lenOf,sO];have e:cs.map I.view=cs:=(tT (g:=fun u=>u) ae).trans (List.map_id' cs);rw [if_pos (by omega),sQ,tO (by omega),e];rfl
theorem ad1 {P:Program} {C:b6} {lo id n m:Nat} {cap:Option Nat} {o:Oper} {x:Operand} {H:List au} {cs:List I} {sz:Nat} (aq:o.op=.move x) (bD:lo≤id) (ah:H[id]?=some (.cells cs)) (CQ:n=m) (aN:cs.length=m*sz) (ae:∀ u∈cs,u.view=u) :
  a8 P C lo o 2 [.ref id 0 n cap sz] H=some (.ay cs m (gT cap m),H.set id .dead):=by
 subst CQ;exact ad0 aq bD ah aN ae
theorem ajt {α:Type} {f:α→I} (h:∀ x,(f x).view=f x) (l:List α):∀ u∈l.map f,u.view=u:=fun u hu=>by
 obtain ⟨x,_,rfl⟩:=sv.1 hu;exact h x
end Go.Proofs.YtfakoboiahbhaaaGreat.Ab


namespace Go.Proofs.YtfakoboiahbhaaaGreat.Ab
open Go
theorem I8 {n:Int} (h:-9223372036854775808≤n∧n≤9223372036854775807):w n=n:=ajU h.1 h.2
theorem rz (i:Nat) (h:i≤9223372036854775806):w ((i:Int)+1)=((i+1:Nat):Int):=rD i h
theorem Jp {i n:Nat} {aT:Type} {x y:Option aT} (h:i<n):(if (decide ((i:Int)<(n:Int)))=true then x else y)=x:=by rw [if_pos (decide_eq_true (by omega))]
theorem Jo {i n:Nat} {aT:Type} {x y:Option aT} (h:¬ i<n):(if (decide ((i:Int)<(n:Int)))=true then x else y)=y:=by rw [if_neg (by rw [decide_eq_true_eq];omega)]
theorem G6 {i n:Nat} {aT:Type} {x:Option aT} (h:i<n):p8 (0≤(i:Int)∧(i:Int)<(n:Int)) x=x:=qc ⟨by omega,by omega⟩
end Go.Proofs.YtfakoboiahbhaaaGreat.Ab


namespace Go.Proofs.YtfakoboiahbhaaaGreat.Ab
open Go
def p1 (p:Int×Int):List I:=[hP p.1,hP p.2]
theorem qw (p:Int×Int):(p1 p).length=2:=rfl
theorem WN {α:Type} (f:α→List I) (s:Nat) (ai:∀ x,(f x).length=s):∀ (l:List α) (k:Nat),k≤l.length→(l.flatMap f).drop (k*s)=(l.drop k).flatMap f
 | l,0,_=>by rw [vp,sQ,sQ]
 | [],k+1,h=>absurd h (by simp)
 | x::l,k+1,h=>by
   (have e:(k+1)*s=(f x).length+k*s:=by rw [ai,th,vD,te]);rw [tV,e,List.drop_length_add_append,WN f s ai l k (by simpa using h),List.drop_succ_cons]
theorem WQ {α:Type} (f:α→List I) (s:Nat) (ai:∀ x,(f x).length=s):∀ (l:List α) (k:Nat),k≤l.length→(l.flatMap f).take (k*s)=(l.take k).flatMap f
 | l,0,_=>by rw [vp,tg,tg];rfl
 | [],k+1,h=>absurd h (by simp)
 | x::l,k+1,h=>by
   (have e:(k+1)*s=(f x).length+k*s:=by rw [ai,th,vD,te]);rw [tV,e,List.take_length_add_append,WQ f s ai l k (by simpa using h),ve,tV]
theorem QP {α:Type} (f:α→List I) (s:Nat) (ai:∀ x,(f x).length=s) (l:List α) (n:Int) (h:0≤n∧n≤(l.length:Int)) (c:il):I.ay ((l.flatMap f).take (n.toNat*s)) n.toNat c=.ay ((l.take n.toNat).flatMap f) (l.take n.toNat).length c:=by
 rw [WQ f s ai l _ (by omega),sV,tF (by omega)]
theorem QQ {α:Type} (f:α→List I) (s:Nat) (ai:∀ x,(f x).length=s) (l:List α) (n:Int) (h:0≤n∧n≤(l.length:Int)) (c:il):I.ay (((l.flatMap f).drop (n.toNat*s)).take ((l.length-n.toNat)*s)) (l.length-n.toNat) c=.ay ((l.drop n.toNat).flatMap f) (l.drop n.toNat).length c:=by
 rw [WN f s ai l _ (by omega),tN,tO (by rw [Iv f s ai,tN];exact sd _)]
theorem aiH {α:Type} (f:α→I) (l:List α) (n:Int) (h:0≤n∧n≤(l.length:Int)) (c:il):I.ay ((l.map f).drop (n.toNat*1)) (l.length-n.toNat) c=.ay ((l.drop n.toNat).map f) (l.drop n.toNat).length c:=by
 rw [tA,tN,←uj]
theorem WC (k:IntKind):∀ (xs ys:List Int),xs.length=ys.length→dL (xs.map (.int k)) (ys.map (.int k))=some (decide (xs=ys))
 | [],[],_=>rfl
 | x::xs,y::ys,h=>by
   simp only [ss,dL,if_true,WC k xs ys (by simpa using h),sf];congr 1;by_cases al:x=y <;> by_cases ak:xs=ys <;> simp [al,ak]
 | [],y::ys,h=>by cases h
 | x::xs,[],h=>by cases h
theorem abP {P:Program} {t e:TypeId} {len:Nat} {kd:IntKind} (k:IntKind) (ad:P.underlying t=some (.array len e)) (af:P.underlying e=some (.int kd)) (aG:bS P e=some 1) (a6:P.eqGuardType P.depth t=false) {xs ys:List Int} (al:xs.length=len) (a0:ys.length=len) :
  fh P .eql t (.agg (xs.map (.int k))) (.agg (ys.map (.int k)))=some (.bool (decide (xs=ys))):=by
 unfold fh;simp only [ad,af,aG];rw [if_pos ⟨by simp [al],by simp [a0],a6⟩,WC k xs ys (by rw [al,a0]),sf]
theorem agX {P:Program} {C:b6} {lo:Nat} {o:Oper} {op:BinOp} {t u:TypeId} {a b:Operand} {x y v:I} {H:List au} (aq:o.op=.binOp op t a b u) (aN:iO b=false) (h:fh P op t x y=some v):a8 P C lo o 0 [x,y] H=some (v,H):=by
 unfold a8;rw [aq];show (cy P o [x,y]).map _=_;unfold cy;rw [aq];simp only [aN];show (fh P op t x y).map _=_;rw [h];rfl
end Go.Proofs.YtfakoboiahbhaaaGreat.Ab


namespace Go.Proofs.YtfakoboiahbhaaaGreat.Ab
open Go
section
variable {P:Program} {B N:Nat} {J:List Nat} {w:World} {H:List au} {U:Nat→Option aI} {S:Nat→Nat→Prop}
theorem ajY (dI:P.follows .mixedOrders=true) {l lo:Nat} {fn:FuncId} {T a7:List I} {bh:List Nat} {gq bY:Code} {an:c8} {args:List I} {H':List au} {id:Nat}
  (ak:H[l]?=some (.loop .ready none fn T bh gq bY an)) (eh:hf bh args T=some a7) (po:ba lo H H')
  (h:c3 P an fn lo (some l) gq 0 ⟨a7,H⟩ fun e s1=>e=.normal∧s1.H[l]?=some (.loop .ready none fn T bh gq bY an) ∧
   c3 P an fn lo (some l) bY 0 ⟨s1.T,s1.H.set l (.loop .busy none fn T bh gq bY an)⟩ fun e s2=>e=.exit id∧s2.H[l]?=some (.loop .busy none fn T bh gq bY an)∧jg (s2.H.set l (.loop .done (some (.exit id)) fn T bh gq bY an)) H') :
  Sem P (.yield l) args H lo (.bool false) H':=by
 refine ⟨po,fun B U J S w xs b ah _ ae ag=>?_⟩;obtain ⟨a',bk,ar,L,aB,aH,aR,bj,bb,bf,c1,da,dE,fv,ou⟩:=ah.obj l _ ak;rw [ag] at aB;cases aB;have cJ:=xJ bh args T a7 xs L.tmps.toList eh ae.len (by simpa using c1.symm);obtain ⟨cb,b8,dZ,hn⟩:=cJ;refine ⟨L,aR,by rw [←ae.len,←cb,←dE];simp,?_⟩;refine roundIn_of_wpIn trivial ?_;have l8:(hD L xs).toList=(bh.zip xs).foldl (fun (l:List Value) (p:Nat×Value)=>l.set p.1 p.2) L.tmps.toList:=by rw [Ap,dE]
 obtain ⟨db,fB⟩:=A7 bh ah;have aK:ct B w.heap.size (gK bh U) J S w ⟨a7,H⟩ { tmps:=hD L xs,defers:=[] }:=by
  refine ⟨?_,fB,sd _,fun d aZ=>by simp at aZ,List.Pairwise.nil⟩;simp only [l8];have key:∀ (i:Nat) (u:I) (x:Value),a7[i]?=some u→((bh.zip xs).foldl (fun (l:List Value) (p:Nat×Value)=>l.set p.1 p.2) L.tmps.toList)[i]?=some x →
    Rel J S w u x∧aV (gK bh U) J S w (.slot i) u x:=fun i u x hu al=>by
   rcases hn i u x hu al with ⟨aJ,aP⟩ | ⟨j,aJ,aP,cj⟩
   ·obtain ⟨bR,b4⟩:=da i u x aJ (by simpa using aP);exact ⟨b4,aV.b3 bR⟩
   ·exact ⟨ae.rel j u x aP cj,(ae.own j u x aP cj).mono (Ext.refl J) (fun _ _ h=>⟨h,rfl⟩) fun b ag=>⟨by simp [gK,ag,aJ],rfl,fun _ h=>h⟩⟩
  exact ⟨by rw [b8,dZ,←c1];simp,fun i u x hu al=>(key i u x hu al).1,fun i u x hu al=>(key i u x hu al).2⟩
 rw [fv,ou];refine og dI gq 0 _ _ h a' _ _ B w.heap.size J w (gK bh U) S _ (.inr ⟨l,b,rfl,ag,rfl⟩) (fun l a w aO=>aO) aK fun e1 s1 av aB bC ai=>?_;obtain ⟨rfl,hx,af⟩:=av;obtain ⟨b2,cQ,a4,aJ,aP,b'⟩:=ai;have eU:cQ[l]?=some b:=aJ _ _ ag;obtain ⟨_,_,ar,jh,d1,d2,d3,d4,d5,_⟩:=b'.H.obj l _ hx;rw [eU] at d1;cases d1;obtain ⟨dY,oV⟩:=b'.loop hx eU d3 .busy none;have o3:(Instr.beginRound b).run P bC=.ok () (bC.putObj b (.loop { jh with state:=.busy,pending:=none })):=by
  rw [run_beginRound d3 d4]
  have:({ jh with state:=.busy,pending:=none }:Loop)={ jh with state:=.busy }:=by rw [←d5]
  rw [this]
 refine ⟨_,o3,?_⟩;refine wpIn_mono (Q:=fun cM aM w'=>(∀ t,cM≠Exit.goto t)∧roundPost P b (ft B U J S w H' (.bool false)) cM aM w') ?_ (fun e a w h=>h.2);refine og dI bY 0 _ _ af bk _ _ B w.heap.size cQ _ b2 a4 _ (.inr ⟨l,b,rfl,eU,rfl⟩) (fun l a w aO=>aO.1 l rfl) oV fun ck s2 av aH bT ai=>?_;obtain ⟨rfl,e_,kq⟩:=av;obtain ⟨bn,cg,bH,cj,jM,lJ⟩:=ai;have fk:cg[l]?=some b:=cj _ _ eU;obtain ⟨_,_,ar,iq,f1,f2,f3,f4,f5,_⟩:=lJ.H.obj l _ e_;rw [fk] at f1;cases f1;have ju:bg U S w bn bH bT:=((db.trans aP).trans dY).trans jM;refine ⟨fun t ax=>(by cases ax),?_⟩;refine ⟨_,_,run_endRound (some (.exit id)) f3,?_⟩;obtain ⟨oL,oW⟩:=lJ.loop e_ fk f3 .done (some (.exit id));exact a1.m' kq ⟨bn,cg,bH,aJ.trans cj,ju.trans oL,oW.H,.bool _,aV.b3 rfl⟩
theorem YJ (dI:P.follows .mixedOrders=true) {l lo:Nat} {fn:FuncId} {T a7:List I} {bh:List Nat} {gq bY:Code} {an:c8} {args:List I} {H':List au} {id:Nat} {zS zV:ez}
  (cd:dT P an gq 0=some zS) (ag:dT P an bY 0=some zV)
  (ak:H[l]?=some (.loop .ready none fn T bh gq bY an)) (eh:hf bh args T=some a7) (po:ba lo H H')
  (h:dC P an fn lo (some l) zS a7 H fun e fg H1=>e=.normal∧H1[l]?=some (.loop .ready none fn T bh gq bY an) ∧
   dC P an fn lo (some l) zV fg (H1.set l (.loop .busy none fn T bh gq bY an)) fun e dR a2=>e=.exit id∧a2[l]?=some (.loop .busy none fn T bh gq bY an)∧jg (a2.set l (.loop .done (some (.exit id)) fn T bh gq bY an)) H') :
  Sem P (.yield l) args H lo (.bool false) H' :=
 ajY dI ak eh po (k9 (fun e s a3=>⟨a3.1,a3.2.1,xa ag a3.2.2⟩) (xa cd h))
end
def RU (P:Program) (k:FuncId) (cap:List I) (E:List I):Prop :=
 ∀ (l N:Nat) (q3:Nat→List au) (a1:List au) (n:Nat),(∀ i,(q3 i).length=N)→l<N→a1.length=N→(aN:n<E.length) →
   (∀ (i:Nat) (h:i<n) (Y:List au),∃ qq,Sem P (.yield l) [E[i]'(uR h aN)] (q3 i++Y) 0 (.bool true) (q3 (i+1)++qq)) →
   (∀ Y:List au,∃ qq,Sem P (.yield l) [E[n]] (q3 n++Y) 0 (.bool false) (a1++qq)) →
   ∀ Y,∃ qq,Sem P (.fn k) (.yield l::cap) (q3 0++Y) 0 (.tuple []) (a1++qq)
theorem ail {α:Type} {P:Program} {A:c8} {fn:FuncId} {rl:Option Nat} {k:FuncId} {cap:List I} {bh:List Nat} {gq bY:Code} {T:List I} {H Hn:List au} {Q:cB→List I→List au→Prop} {f:α→I} {L:List α} {id n:Nat} (KJ:RU P k cap (L.map f)) (aN:n<L.length)
  (Obj:Nat→List au) (aS:Obj 0=H) (hlen:∀ i,(Obj i).length=H.length) (Oq:Hn.length=H.length)
  (KI:∀ (i:Nat) (h:i<n) (Y:List au),∃ qq,Sem P (.yield H.length) [f (L[i]'(uR h aN))] ((Obj i++[.loop .ready none fn (T.map I.view) bh gq bY A])++Y) 0 (.bool true) ((Obj (i+1)++[.loop .ready none fn (T.map I.view) bh gq bY A])++qq))
  (JS:∀ (Y:List au),∃ qq,Sem P (.yield H.length) [f L[n]] ((Obj n++[.loop .ready none fn (T.map I.view) bh gq bY A])++Y) 0 (.bool false) ((Hn++[.loop .done (some (.exit id)) fn (T.map I.view) bh gq bY A])++qq))
  (gX:inLoop H rl=true) (bl:∀ qq,Q (.exit id) (T.map I.settle) ((Hn++[.dead])++qq)):n2 P A fn 0 rl (.func k [] cap) bh gq bY T H Q:=by
 obtain ⟨qq,cm⟩:=KJ H.length (H.length+1) (fun i=>Obj i++[.loop .ready none fn (T.map I.view) bh gq bY A]) (Hn++[.loop .done (some (.exit id)) fn (T.map I.view) bh gq bY A]) n (fun i=>by simp [hlen]) (by omega) (by simp [Oq]) (by simpa using aN) (fun i h Y=>by
  obtain ⟨qq,aj⟩:=KI i h Y;exact ⟨qq,by rw [ub];exact aj⟩) (fun Y=>by
  obtain ⟨qq,aj⟩:=JS Y
  exact ⟨qq,by rw [ub];exact aj⟩) []
 simp only [sP,aS] at cm;refine ⟨gX,.tuple [],_,.done,some (.exit id),fn,T.map I.view,bh,gq,bY,A,cm,by rw [←Oq];exact Lh _ _ _,by decide,?_⟩;show Q (.exit id) (T.map I.settle) (((Hn++[au.loop .done (some (.exit id)) fn (T.map I.view) bh gq bY A])++qq).set H.length .dead);rw [←Oq,UG];exact bl qq
theorem aim {α:Type} {P:Program} {A:c8} {fn:FuncId} {rl:Option Nat} {k:FuncId} {cap:List I} {t:Nat} {bh:List Nat} {gq bY:Code} {T:List I} {H Hn:List au} {Q:cB→List I→List au→Prop} {f:α→I} {L:List α} {id n:Nat} (KJ:RU P k cap (L.map f)) (aN:n<L.length)
  (Obj:Nat→List au) (ax:c5 T t=.func k [] cap) (aS:Obj 0=H) (hlen:∀ i,(Obj i).length=H.length) (Oq:Hn.length=H.length)
  (KI:∀ (i:Nat) (h:i<n) (Y:List au),∃ qq,Sem P (.yield H.length) [f (L[i]'(uR h aN))] ((Obj i++[.loop .ready none fn (T.map I.view) bh gq bY A])++Y) 0 (.bool true) ((Obj (i+1)++[.loop .ready none fn (T.map I.view) bh gq bY A])++qq))
  (JS:∀ (Y:List au),∃ qq,Sem P (.yield H.length) [f L[n]] ((Obj n++[.loop .ready none fn (T.map I.view) bh gq bY A])++Y) 0 (.bool false) ((Hn++[.loop .done (some (.exit id)) fn (T.map I.view) bh gq bY A])++qq))
  (gX:inLoop H rl=true) (bl:∀ qq,Q (.exit id) (T.map I.settle) ((Hn++[.dead])++qq)):dC P A fn 0 rl (.An (.sl t) bh gq bY) T H Q:=by
 show ho T t _;rw [iC,ax];exact ail KJ aN Obj aS hlen Oq KI JS gX bl
def L1 {Hm α:Type} (f:Hm→α→Option (Hm×Bool)):List α→Hm→Option (Hm×Bool)
 | [],s=>some (s,false)
 | a::r,s=>(f s a).bind fun q=>if q.2=true then some q else L1 f r q.1
theorem WT {Hm α:Type} {f:Hm→α→Option (Hm×Bool)}:∀ {L:List α} {s:Hm} {v:Hm×Bool},L1 f L s=some v →
  (v.2=false∧∃ F:Nat→Hm,F 0=s∧F L.length=v.1∧∀ (i:Nat) (h:i<L.length),f (F i) L[i]=some (F (i+1),false)) ∨
  (v.2=true∧∃ (n:Nat) (aN:n<L.length) (F:Nat→Hm),F 0=s∧(∀ (i:Nat) (h:i<n),f (F i) (L[i]'(uR h aN))=some (F (i+1),false))∧f (F n) L[n]=some (v.1,true))
 | [],s,v,h=>by
   simp only [L1,Option.some.injEq] at h;subst h;exact .inl ⟨rfl,fun _=>s,rfl,rfl,fun i h=>absurd h (by simp)⟩
 | a::r,s,v,h=>by
   simp only [L1,Option.bind_eq_some_iff] at h;obtain ⟨q,a3,h⟩:=h;cases ag:q.2 with
   | true =>
     rw [ag,if_pos rfl,Option.some.injEq] at h;subst h;refine .inr ⟨ag,0,by simp,fun _=>s,rfl,fun i h=>absurd h (by omega),?_⟩;rw [List.getElem_cons_zero,a3,←ag]
   | false =>
     rw [ag,if_neg (by decide)] at h;(have CV:f s a=some (q.1,false):=by rw [a3,←ag]);rcases WT h with ⟨ad,F,af,aG,a6⟩ | ⟨ad,n,aN,F,af,aG,a6⟩
     ·refine .inl ⟨ad,fun i=>if i=0 then s else F (i-1),rfl,by simpa using aG,fun i hi=>?_⟩;cases i with
      | zero=>simpa [af] using CV
      | succ i=>simpa using a6 i (by simpa using hi)
     ·refine .inr ⟨ad,n+1,by simpa using aN,fun i=>if i=0 then s else F (i-1),rfl,fun i hi=>?_,by simpa using a6⟩;cases i with
      | zero=>simpa [af] using CV
      | succ i=>simpa using aG i (by omega)
theorem J0 (X Y:List au) (a b d:au):(((X++[a])++Y)++[b]).set X.length d=(((X++[d])++Y)++[b]):=by
 rw [List.set_append_left _ _ (by simp),UG]
theorem JB (X Y:List au) (a b:au):(((X++[a])++Y)++[b])[X.length]?=some a:=by
 rw [sB (by simp),Lh]
theorem adT (X:List au) (b:au):jg (X++[b]) (X++[.dead]):=by
 refine ⟨by simp,fun id o h=>?_⟩;rcases sU id X.length with ak | ak
 ·rw [sB ak] at h ⊢;exact .inr h
 ·rw [sM ak] at h;cases av:id-X.length with
  | zero=>rw [av] at h;simp at h;exact .inl h.symm
  | succ k=>rw [av] at h;simp at h
theorem MT (X Y:List au) (a b:au):jg (((X++[a])++Y)++[b]) ((X++[a])++(Y++[.dead])):=by
 rw [←sj];exact adT _ b
end Go.Proofs.YtfakoboiahbhaaaGreat.Ab


namespace Go.Proofs.YtfakoboiahbhaaaGreat.Ab
open Go
theorem UN {α:Type} {f:α→I} (h:∀ x,(f x).view=f x) (l:List α):(l.map f).map I.view=l.map f:=by rw [tx];exact tT fun x _=>h x
theorem Td {α:Type} (f:α→I) (l:List α) {n:Nat} (aQ:∀ x,(f x).view=f x) (h:l.length=n):(((l.map f).drop 0).take n).map I.view=l.map f:=by
 rw [sQ,tO (by simp [h]),UN aQ]
theorem abQ {P:Program} {t e:TypeId} {len:Nat} {kd k:IntKind} {xs:List Int} {n:Int} (ad:P.underlying t=some (.array len e)) (af:P.underlying e=some (.int kd)) (aG:bS P e=some 1) (a6:dJ P e=false) (ak:xs.length=len) (aN:0≤n∧n<(len:Int)) :
  ov P t (.agg (xs.map hP)) (.int k n)=some (hP (ix xs n)):=by
 unfold ov;have bL:gP n len=some n.toNat:=by unfold gP;rw [if_pos aN]
 simp only [ad,aG,bL,sb,tA];unfold iw;simp only [af,a6];have aU:n.toNat<xs.length:=by omega
 rw [sA,sq aU,sf,Qj (by omega)]
theorem agY {P:Program} {C:b6} {lo:Nat} {o:Oper} {t:TypeId} {a b:Operand} {x y v:I} {H:List au} (aq:o.op=.index t a b) (h:ov P t x y=some v) (ae:v.view=v:=by rfl):a8 P C lo o 0 [x,y] H=some (v,H):=by
 unfold a8;rw [aq];show (cy P o [x,y]).map _=_;unfold cy;rw [aq];show ((ov P t x y).map I.view).map _=_;rw [h,sf,sf,ae]
theorem X1 {P:Program} {C:b6} {lo:Nat} {o:Oper} {t e:TypeId} {a:Operand} {id len:Nat} {H:List au} (aq:o.op=.slice t a none none none) (ad:P.underlying t=some (.array len e)) (af:bS P e=some 1) (aS:0<len):a8 P C lo o 0 [.ptr id 0] H=some (.ref id 0 len (some len) 1,H):=by
 unfold a8;rw [aq];show (cy P o [.ptr id 0]).map _=_;unfold cy;rw [aq];show (ei P t none none none [.ptr id 0]).map _=_;unfold ei;simp only [I.view,eS,ad,af,dm,cH,sb];rw [if_neg (by omega)];rfl
theorem OB {P:Program} {C:b6} {lo mode:Nat} {o:Oper} {xs:Array Operand} {ts:Array TypeId} {vs:List I} {H:List au} (aq:o.op=.call { callee:=.builtin .clear,args:=xs,argTypes:=ts }):a8 P C lo o mode vs H=kR P lo ts H vs:=by
 unfold a8;rw [aq];rfl
theorem Yw (z:I):∀ n:Nat,eY n [z]=List.replicate n z
 | 0=>rfl
 | n+1=>by rw [eY,Yw z n];rfl
theorem Wp {P:Program} {lo id n:Nat} {H:List au} {l:List Int} {cap:Option Nat} {e:TypeId} {ts:Array TypeId} (e1:(ts[0]?).bind P.underlying=some (.slice e)) (ck:bS P e=some 1) (dF:zeroCells P e=some [.int .i64 0]) (bD:lo≤id)
  (ah:H[id]?=some (.cells (l.map hP))) (aN:l.length=n):kR P lo ts H [.ref id 0 n cap 1]=some (.tuple [],H.set id (.cells ((List.replicate n (0:Int)).map hP))):=by
 have oH:setCells 0 (eY n [I.int .i64 0]) (l.map hP)=(List.replicate n (0:Int)).map hP:=by
  apply tI;intro j;rw [n7 _ _ _ _ (by rw [ie];simp;omega),ie,Yw];simp only [List.length_singleton,tA,sO,vA];by_cases aw:j<n
  ·rw [if_pos ⟨by omega,aw⟩];simp [aw]
  ·rw [if_neg (by omega),tw (by simp;omega),tw (by simp;omega)]
 unfold kR;simp only [e1,ck,dF,g7,ah,sf,if_pos bD];rw [if_pos ⟨trivial,rfl,by decide⟩,if_pos (by simp;omega),oH];rfl
theorem QZ {α:Type} (f:α→I) (l m:List α) (aQ:∀ x,(f x).settle=f x) (h:m.length=l.length) {K:List I→Prop} (k:K (m.map f)):k6 (l.map f) 0 ((m.map f).map I.settle) K:=by
 have ai:(m.map f).map I.settle=m.map f:=by rw [tx];exact tT fun x _=>aQ x
 rw [ai];refine FK (by simp [h]) ?_;have oH:setCells 0 (m.map f) (l.map f)=m.map f:=by
  apply tI;intro j;rw [n7 _ _ _ _ (by simp;omega)];by_cases aw:j<m.length
  ·rw [if_pos ⟨by omega,by simpa using aw⟩,vA]
  ·rw [if_neg (by simp;omega),tw (by simp;omega),tw (by simp;omega)]
 rw [oH];exact k
theorem UJ {α:Type} (f:α→I) (m:List α) {n id lo:Nat} {H:List au} {l:List α} (bD:lo≤id) (aQ:∀ x,(f x).settle=f x) (ah:H[id]?=some (.cells (l.map f))) (h:m.length=n) (af:l.length=n) (aS:0<n) {K:I→List au→Prop} (k:K .junk (H.set id (.cells (m.map f)))):xz lo n (.ptr id 0) (.agg (m.map f)) H K:=by
 show (match Nat.ble lo id with | true=>_ | false=>_);rw [show Nat.ble lo id=true from t_ bD];refine DW ah ?_;show (match Nat.beq (m.map f).length n,Nat.blt 0 n with | true,true=>_ | _,_=>_);rw [show Nat.beq (m.map f).length n=true from by rw [sZ,h];exact Nat.beq_refl n,show Nat.blt 0 n=true from by rw [Nat.blt_eq];exact aS];exact QZ f l m aQ (by omega) k
theorem aib {H:List au} {T:List I} {a id n:Nat} {l:List Int} (bX:c5 T a=.ptr id 0) (ah:H[id]?=some (.cells (l.map hP))) (h:l.length=n):jZ H T [.cell a (.arr n)]=some [.agg (l.map hP)]:=by
 have e:kJ (.arr n) (l.map hP) 0=some (.agg (l.map hP)):=by
  show (if 0+n≤(l.map hP).length then _ else _)=_;rw [if_pos (by simp [h]),sQ,tO (by simp [h]),UN (fun _=>rfl)]
 simp only [jZ,oA,bX,ah,e]
end Go.Proofs.YtfakoboiahbhaaaGreat.Ab


namespace Go.Proofs.YtfakoboiahbhaaaGreat.Ab
open Go
def LA:List I→Nat→List (Nat×I)→List I
 | [],_,_=>[]
 | x::T,_,[]=>x::T
 | x::T,i,(j,v)::r=>match Nat.beq i j with
   | true=>v::LA T (i+1) r
   | false=>x::LA T (i+1) ((j,v)::r)
def IA (u:Nat→I):Nat→Nat→List (Nat×I)→List I
 | 0,_,_=>[]
 | n+1,i,[]=>u i::IA u n (i+1) []
 | n+1,i,(j,v)::r=>match Nat.beq i j with
   | true=>v::IA u n (i+1) r
   | false=>u i::IA u n (i+1) ((j,v)::r)
def qU (n:Nat) (bh:List (Nat×I)) (T:List I):Prop:=T.length=n∧T=LA T 0 bh
theorem QR {u bG:Nat→I}:∀ (n i:Nat) (bh:List (Nat×I)),(∀ k,i≤k→u k=bG k)→IA u n i bh=IA bG n i bh
 | 0,_,_,_=>rfl
 | n+1,i,[],h=>by
   rw [IA,IA,h i (sd _),QR n (i+1) [] fun k av=>h k (by omega)]
 | n+1,i,(j,v)::r,h=>by
   rw [IA,IA];cases Nat.beq i j with
   | true=>exact congrArg _ (QR n (i+1) r fun k av=>h k (by omega))
   | false=>show u i::_=bG i::_;rw [h i (sd _),QR n (i+1) _ fun k av=>h k (by omega)]
theorem YO:∀ (T:List I) (i:Nat) (bh:List (Nat×I)),LA T i bh=IA (fun k=>c5 T (k-i)) T.length i bh
 | [],_,_=>rfl
 | x::T,i,bh=>by
   have e:∀ bh,IA (fun k=>c5 (x::T) (k-i)) T.length (i+1) bh=LA T (i+1) bh:=fun bh=>by
    rw [YO T (i+1) bh];refine QR _ _ _ fun k av=>?_;show c5 (x::T) (k-i)=c5 T (k-(i+1));rw [show k-i=(k-(i+1))+1 by omega];rfl
   (have fR:c5 (x::T) (i-i)=x:=by rw [Nat.sub_self];rfl);(have adN:∀ (T:List I) i,LA T i []=T:=fun T i=>by cases T <;> rfl);cases bh with
   | nil =>
     show x::T=IA _ (T.length+1) i [];rw [IA,fR,e,adN]
   | cons p r =>
     obtain ⟨j,v⟩:=p;show LA (x::T) i ((j,v)::r)=IA _ (T.length+1) i ((j,v)::r);rw [LA,IA];cases Nat.beq i j with
     | true=>exact congrArg _ (e r).symm
     | false=>show x::_=_::_;rw [fR,e]
theorem qU.ex {n:Nat} {bh:List (Nat×I)} {T:List I} (h:qU n bh T):∃ u,T=IA u n 0 bh:=by
 obtain ⟨ad,af⟩:=h;subst ad;exact ⟨_,af.trans (YO T 0 bh)⟩
class Hu (d:Nat) (v:I):Prop where Qr:cq d v=true
class qj (d:Nat) (l:List I):Prop where pl:l.all (cq d)=true
instance {d:Nat}:qj d []:=⟨rfl⟩
instance {d:Nat} {v:I} {l:List I} [a:Hu d v] [b:qj d l]:qj d (v::l):=⟨pY a.Qr b.pl⟩
instance {d:Nat} {a b:List I} [x:qj d a] [y:qj d b]:qj d (a++b):=⟨by rw [List.all_append,x.pl,y.pl];rfl⟩
instance {d:Nat} {α:Type} {f:α→I} {l:List α} [h:∀ x,Hu d (f x)]:qj d (l.map f):=⟨Qv (fun x=>(h x).Qr) l⟩
instance {d:Nat} {α:Type} {f:α→List I} {l:List α} [h:∀ x,qj d (f x)]:qj d (l.flatMap f):=⟨by
 rw [sC];intro u hu;obtain ⟨x,_,al⟩:=vd.1 hu
 exact sC.1 (h x).pl u al⟩
instance {d:Nat} {k:IntKind} {n:Int}:Hu (d+1) (.int k n):=⟨rfl⟩
instance {d:Nat} {b:Bool}:Hu (d+1) (.bool b):=⟨rfl⟩
instance {d:Nat} {b:ByteArray}:Hu (d+1) (.str b):=⟨rfl⟩
instance {d:Nat}:Hu (d+1) .eC:=⟨rfl⟩
instance {d n:Nat} {c:il} {l:List I} [h:qj d l]:Hu (d+1) (.ay l n c):=⟨h.pl⟩
instance {d:Nat} {l:List I} [h:qj d l]:Hu (d+1) (.agg l):=⟨h.pl⟩
instance {d:Nat} {l:List I} [h:qj d l]:Hu (d+1) (.tuple l):=⟨h.pl⟩
instance {d:Nat} {l:List I} [h:qj d l]:Hu (d+1) (.bU l):=⟨h.pl⟩
instance {d:Nat} {α:Type} {f:α→I} {l:List α} [h:∀ x,Hu d (f x)]:Hu (d+1) (abN f l):=⟨Qv (fun x=>(h x).Qr) l⟩
instance {d:Nat} {α:Type} {f:α→List I} {l:List α} [h:∀ x,qj d (f x)]:Hu (d+1) (rv f l):=⟨(inferInstance:qj d (l.flatMap f)).pl⟩
instance {d:Nat} {l:List Int}:Hu (d+2) (jh l):=⟨(inferInstance:qj (d+1) (l.map hP)).pl⟩
instance {d:Nat} {l:List (List Int)}:Hu (d+3) (iq l):=⟨(inferInstance:qj (d+2) (l.map jh)).pl⟩
instance {d:Nat} {α:Type} {f:α→List I} {x:Option α} [h:∀ x,qj d (f x)]:Hu (d+1) (Qp f x):=⟨Yb (fun x=>(h x).pl) x⟩
theorem qk {p X4:Prop} [Decidable p] {aT:Type} {k:Option aT} {v:aT} {K:Prop} (h:p8 p k=some v) (f:p→X4) (g:p→k=some v→K):X4∧K :=
 ⟨f (qn h).1,g (qn h).1 (qn h).2⟩
theorem bs {b:Bool} {aT:Type} {x y:Option aT} {v:aT} {K:Prop} (h:(if b=true then x else y)=some v) (f:b=true→x=some v→K) (g:b=false→y=some v→K):K :=
 match b,h,f,g with
 | true,h,f,_=>f rfl (Hg rfl h)
 | false,h,_,g=>g rfl (Hf rfl h)
theorem ahj {d:Nat} {u:I} (h:cq d u.gR=true):cq d u=true:=by
 cases d with
 | zero=>simp [cq] at h
 | succ d=>cases u with
   | ay cs n c=>cases c <;> exact h
   | _=>exact h
theorem Ya {d:Nat} {l:List I} (h:(l.map I.gR).all (cq d)=true):l.all (cq d)=true:=by
 rw [sC] at h ⊢;exact fun u hu=>ahj (h _ (List.mem_map_of_mem hu))
theorem ahi {d:Nat} {r:I} (h:cq d r.settle.view.cr=true):cq d r=true:=by
 cases d with
 | zero=>simp [cq] at h
 | succ d=>cases r with
   | ay cs n c=>cases c <;> exact h
   | agg cs=>exact Ya (l:=cs) h
   | tuple cs=>exact Ya (l:=cs) h
   | raw=>exact absurd h (by simp [I.settle,I.view,I.cr,cq])
   | cl=>exact absurd h (by simp [I.settle,I.view,I.cr,cq])
   | _=>exact h
theorem aix {rs:List ji} {v:I} {T:List I} {H:List au} {vs:List I} [h:Hu 8 v] (ad:jZ H T rs=some vs) (af:(g' vs).settle.view.cr=v):Jx rs v .ret T H :=
 ⟨.inr rfl,vs,ad,_,oR (ahi (af ▸ h.Qr)),af⟩
end Go.Proofs.YtfakoboiahbhaaaGreat.Ab


namespace Go.Proofs.YtfakoboiahbhaaaGreat.Ab
open Go
section
variable {P:Program} {A:c8} {fn:FuncId} {lo:Nat} {rl:Option Nat}
inductive alB (P:Program) (A:c8) (fn:FuncId) (lo:Nat) (rl:Option Nat) (rc:ez) (T:List I) (H:List au) (Q:cB→List I→List au→Prop):Prop where
 | mk (cD:List Bool) (c:ez) (he:rc=.loop (some cD) c) (hP:Nat→List I→List au→Prop) (m:Nat) (hm:m≤p_) (aS:hP m T H)
   (step:∀ (rC:List I→List au→Prop) m T H,hP m T H→(∀ g4 a7 H',g4<m→hP g4 a7 H'→rC a7 H')→nO T fun T=>dC P A fn lo rl c T H fun e a7 H'=>match e with
    | .normal=>pR (some cD) a7 fun a7=>rC a7 H'
    | e=>Q e a7 H')
end
theorem ajZ {P:Program} {A:c8} {fn lo:Nat} {rl:Option Nat} {c:ez} {T:List I} {H:List au} {Q:cB→List I→List au→Prop} (h:dC P A fn lo rl c T (H++[]) Q):dC P A fn lo rl c T H Q:=by
 rw [sP] at h;exact h
theorem Ty {cs:List I} {n d:Nat} {c:il} (h:cs.all (cq d)=true):cq (d+1) (.ay cs n c)=true:=h
theorem Wa (A Y C:List au):(A++Y)++C=A++(Y++C):=sj _ _ _
theorem MV (X:List au) (a:au):(X++[a,.dead])[X.length]?=some a:=by simp
theorem YL (X:List au) (a aM:au):(X++[a,.dead]).set X.length aM=X++[aM,.dead]:=by simp
theorem WW {P:Program} {C:b6} {lo id gid n z:Nat} {o:Oper} {x:Operand} {H:List au} {l:List I} {g cU:Nat} (aq:o.op=.move x) (bD:lo≤id) (ah:H[id]?=some (.grow l g cU)) (aN:l.length=n*z) :
  a8 P C lo o 2 [.cl id gid n z] H=some (.ay (l.map I.view) n .shared,H.set id .dead):=by
 unfold a8;rw [aq];show eQ P lo 2 o.type x H [.cl id gid n z]=_;unfold eQ;simp only [bD,if_true,ah];rw [if_pos aN]
def aiu (l:List Int):I:=.ay (l.map hP) l.length (if l.length=1 then .full else .shared)
end Go.Proofs.YtfakoboiahbhaaaGreat.Ab


namespace Go.Proofs.YtfakoboiahbhaaaGreat.Ab
open Go
instance {d:Nat} {p:Int×Int}:qj (d+1) (p1 p):=⟨(inferInstance:qj (d+1) [hP p.1,hP p.2]).pl⟩
instance {d:Nat} {l:List Int}:Hu (d+2) (aiu l):=⟨(inferInstance:qj (d+1) (l.map hP)).pl⟩
end Go.Proofs.YtfakoboiahbhaaaGreat.Ab


namespace Go.Proofs.YtfakoboiahbhaaaGreat.Ab
open Go
abbrev p5:=List Int
abbrev qb:=List (Int×Int)
abbrev rf:=List (List Int)
abbrev qP:=List (List (Int×Int))
abbrev qa:=Int×List (Int×Int)
abbrev q':=cB→List I→List au→Prop
abbrev qe (l:List Int) (c:il):I:=.ay (l.map hP) l.length c
abbrev p3 (l:List (Int×Int)) (c:il):I:=.ay (l.flatMap p1) l.length c
abbrev ac7 (b:Int×List (Int×Int)):I:=.agg [hP b.1,.ay (b.2.flatMap p1) b.2.length .shared]
abbrev Hv (b:Int×List (Int×Int)):au:=au.cells [hP b.1,.ay (b.2.flatMap p1) b.2.length .shared]
def qu {aT:Type} (rs:List ji) (Q:cB→List I→List au→Prop) (e:aT→I) (v:aT):Prop:=∀ T H,Jx rs (e v) .ret T H→Q .ret T H
theorem p7 {aT:Type} {x v:aT} {e:aT→I} {rs:List ji} {Q:cB→List I→List au→Prop} {T:List I} {H:List au} {vs:List I} (h:some x=some v) (jw:qu rs Q e v) [k:Hu 8 (e x)] (ad:jZ H T rs=some vs) (af:(g' vs).settle.view.cr=e x):Q .ret T H:=by
 obtain rfl:=Option.some.inj h;exact jw _ _ (aix ad af)
class qi (H:List au) (i:Nat) (o:outParam au):Prop where h:H[i]?=some o
instance {H:List au} {o:au}:qi (H++[o]) H.length o:=⟨J' _ _⟩
instance {H:List au} {i:Nat} {o p:au} [k:qi H i o]:qi (H++[p]) i o:=⟨qF k.h⟩
end Go.Proofs.YtfakoboiahbhaaaGreat.Ab


namespace Go.Proofs.YtfakoboiahbhaaaGreat.Ab
open Go Go.ChangeShapes Go.WideShapes Go.ChangeAt Go.RowKit
def S0 (w:World):Nat→Nat→Prop:=fun b o=>∃ v,w.cell? ⟨b,o,none⟩=some v
theorem l5 (w:World):aL w.heap.size (fun _=>none) [] (S0 w) w [] :=
 ⟨rfl,fun _ _ h=>by simp at h,fun _ _ h=>h,fun _ _ h=>by simp at h,sd _⟩
theorem ajq {P:Program} {k:FuncId} {args:List I} {vs:List Value} {W:World} {b:Bool} (h:lg P k args (.bool b)) (ae:a9 (fun i=>.arg i) (fun _=>none) [] (S0 W) W args vs) :
  Calls P k vs.toArray W fun e Jb=>e=.returned (.bool b)∧Below W.heap.size W Jb:=by
 have ad:=h.1.2.2 W.heap.size (fun _=>none) [] (S0 W) W vs (l5 W) (fun _ _ h=>by simp at h) ae;refine (callsIn_wide.1 ad).mono fun e Jb he=>?_;cases e with
 | returned v =>
   obtain ⟨az,bZ,S',_,aA,_,aj,_⟩:=he;cases aj;exact ⟨rfl,aA.os,aA.tape,aA.output,aA.size,fun b ag=>aA.cD b ag rfl⟩
 | panicked c=>exact he.elim
 | outgrown=>exact he.elim
section
variable {H:Type} {enc:TypeId×Value→H} {P:Program} {w:World}
theorem Vt {W Jb:World} (K:Kids P (·<P.types.size)) (bP:∀ t e,t<P.types.size→P.underlying t=some (.slice e)→0<P.cellsOf e) (pZ:Below W.heap.size W Jb) {sp:Nat→Bool} :
  ∀ {ts:List TypeId} {vs:List Value} {ds:List (DataW H)} {p:List MemPlace},(∀ t∈ts,t<P.types.size)→DataW.TrodAll enc P W 0 (fun _=>true) true ts vs ds p→(∀ x∈p,sp x.block=true)→(∀ x∈p,x.block<W.heap.size)→DataW.TrodAll enc P Jb 0 sp true ts vs ds p
 | [],_,_,_,_,aK,_,_=>by obtain ⟨rfl,rfl,rfl⟩:=trodAll_nil aK;exact trodAll_mk0
 | t::ts,_,_,_,bX,aK,M7,aU=>by
   obtain ⟨v,vs,d,ds,a,b,rfl,rfl,rfl,⟨n,aN⟩,af⟩:=trodAll_cons aK;refine ⟨a,b,⟨n,?_⟩,Vt K bP pZ (fun t ax=>bX t (uo _ ax)) af (fun x al=>M7 x (wh _ al)) (fun x al=>aU x (wh _ al)),rfl⟩;exact DataW.trod_stays K (fun {t e} ax he=>bP t e ax he) (fun h=>by cases h) (bX t uH) aN (fun x al=>pZ.same (aU x (vg _ al))) fun x al=>M7 x (vg _ al)
theorem ahg {f:Func} {s:ChangeSpec} {again:Bool} {W Jb:World} {args:Array Value} {t:TypeId} {ds gs:List (DataW H)} {before:List MemPlace}
  (ak:laidOutB P=true) (hm:mapsRowed P=true) (bm:((List.range P.types.size).all fun t=>match P.underlying t with | some (.slice e)=>decide (0<P.cellsOf e) | _=>true)=true)
  (ax:f.resultTypes=#[t]) (Ll:P.underlying t=some .bool) (CU:f.params.toList.all (fun t=>decide (t<P.types.size))=true) (S8:s.vars=[])
  (lN:DataW.Whole enc P f.params.toList s.vars false W args.toList ds gs before) (pZ:Below W.heap.size W Jb)
  (ai:s.fn H (ds++gs)={ results:=[.lit (.bool true)],args:=ds }):s.post enc P f false true false again W args (.bool true) Jb:=by
 have aU:=lN.lt;have aei:=lN;obtain ⟨p,q,aK,jx,rfl,Cu,jG⟩:=aei;rw [S8] at jx;obtain ⟨rfl,rfl⟩:=trodVars_none jx;rw [sP] at *;have K:Kids P (·<P.types.size):=kids_rows ak hm;have bP:=slices_full_of P bm;have bX:∀ t∈f.params.toList,t<P.types.size:=fun t h=>by
  have:=sC.1 CU t h;simpa using this
 have again:∀ sp:Nat→Bool,(∀ x∈p,sp x.block=true)→DataW.TrodAll enc P Jb 0 sp true f.params.toList args.toList ds p:=fun sp M7 =>
  Vt K bP pZ bX aK M7 aU
 have kA:∀ (b:Nat) (sp:Nat→Bool) (aZ:Bool),DataW.TrodAll enc P Jb b sp aZ f.resultTypes.toList ((Value.bool true).resultList f.resultTypes.size) (s.fn H ds).results []:=fun b sp aZ=>by
  rw [ai,ax];exact trodAll_mk1 (shut_bool Ll true)
 have Cb:∀ sp:Nat→Bool,(∀ x∈p,sp x.block=true)→DataW.TrodAll enc P Jb 0 sp true f.params.toList args.toList (s.fn H ds).args p:=fun sp M7=>by
  rw [ai];exact again sp M7
 have ae:∀ sp:Nat→Bool,DataW.TrodVars enc P Jb sp s.vars (s.fn H ds).vars []:=fun sp=>by
  rw [ai,S8];rfl
 have hold:∀ x∈p,(fun b=>decide (b<W.heap.size)) x.block=true:=fun x al=>by simpa using aU x al
 refine ⟨ds,[],p,[],p,[],lN,by rw [sP];exact kA _ _ _,by rw [sP];exact Cb _ hold,by rw [sP];exact ae _,pZ.frame _,fun _=>?_⟩;refine ⟨fun j u r hu aj=>?_,(s.fn H ds).results++(s.fn H ds).args,[],p,⟨p,[],?_,?_,by simp,?_,fun h=>by cases h⟩,fun x al _=>al⟩
 ·rw [ax] at hu aj;cases j with
  | zero=>simp [Value.resultList] at hu aj;subst hu;subst aj;exact okWide_bool_mk Ll true
  | succ j=>simp at hu
 ·have:=trodAll_append (Cb (fun _=>true) fun _ _=>rfl) (kA 0 (fun _=>true) true);simpa using this
 ·rw [S8];rfl
 ·intro b o ag;have:=aU _ ag;rw [pZ.frozen (p:=⟨b,o,none⟩) this];exact Cu b o ag
abbrev NQ (enc:TypeId×Value→H) (P:Program) (w:World) (e:TypeId) (Q:I→Prop):Prop :=
 ∀ n v y,DataW.trod enc P w 0 (fun _=>true) true n e [v]=some y→∃ u,u.plain=true∧v.oneCell'=true∧Rel [] (S0 w) w u v∧Q u
theorem ado {e:TypeId} {k:IntKind} (ax:P.underlying e=some (.int k)):NQ enc P w e fun u=>∃ x,u=.int k x∧(Lit.int k x).wf=true:=by
 intro n v y h;obtain ⟨x,al,_,hw⟩:=DataW.trod_int ax h;injection al with al _;subst al;exact ⟨.int k x,rfl,rfl,.int k x,x,rfl,hw⟩
instance:Inhabited I:=⟨.junk⟩
def J6 (x:Int):Prop := -9223372036854775808≤x∧x≤9223372036854775807
theorem wf_i64 {x:Int} (h:(Lit.int .i64 x).wf=true):J6 x:=by
 have ad:IntKind.i64.min=-9223372036854775808:=rfl;have af:IntKind.i64.max=9223372036854775807:=rfl;simp only [Lit.wf,sy,decide_eq_true_eq] at h;exact ⟨by omega,by omega⟩
theorem wf_u8 {x:Int} (h:(Lit.int .u8 x).wf=true):0≤x∧x≤255:=by
 have ad:IntKind.u8.min=0:=rfl;have af:IntKind.u8.max=255:=rfl;simp only [Lit.wf,sy,decide_eq_true_eq] at h;exact ⟨by omega,by omega⟩
structure abM (l:List Int):Prop where
 n:l.length≤9223372036854775807
 v:∀ x∈l,J6 x
structure alu (l:List (List Int)):Prop where
 n:l.length≤9223372036854775807
 v:∀ r∈l,abM r
theorem agG {n:Nat} (h:n≤maxLen):n≤9223372036854775807:=by unfold maxLen at h;omega
structure alw (l:List Int):Prop where
 n:l.length≤9223372036854775807
 v:∀ x∈l,0≤x∧x≤255
abbrev Arg (enc:TypeId×Value→H) (P:Program) (w:World) (base:Nat) (t:TypeId) (Q:I→Prop):Prop :=
 ∀ v d p,Value.okWide P w .any base t v→DataW.Trod enc P w 0 (fun _=>true) true t v d p→∃ u,u.plain=true∧Rel [] (S0 w) w u v∧Q u
theorem ac0 {base:Nat} {t:TypeId} {k:IntKind} (ax:P.underlying t=some (.int k)):Arg enc P w base t fun u=>∃ x,u=.int k x∧(Lit.int k x).wf=true:=by
 intro v d p ae aZ;obtain ⟨x,rfl,_,_,hw⟩:=open_int ax ae aZ;exact ⟨.int k x,rfl,.int k x,x,rfl,hw⟩
theorem aju {us:List I} {vs:List Value} (h:us.length=vs.length) (aj:∀ (i:Nat) (u:I) (v:Value),us[i]?=some u→vs[i]?=some v→u.plain=true∧Rel [] (S0 w) w u v):a9 (fun i=>.arg i) (fun _=>none) [] (S0 w) w us vs :=
 ⟨h,fun i u v hu ae=>(aj i u v hu ae).2,fun i u v hu ae=>aV.b3 (aj i u v hu ae).1⟩
theorem ajv {xT fr:I} {v0 v1:Value} (Tr:xT.plain=true) (hB:Rel [] (S0 w) w xT v0) (bR:fr.plain=true) (r1:Rel [] (S0 w) w fr v1):a9 (fun i=>.arg i) (fun _=>none) [] (S0 w) w [xT,fr] [v0,v1] :=
 aju rfl fun i u v hu ae=>by
  match i with
  | 0=>simp at hu ae;subst hu;subst ae;exact ⟨Tr,hB⟩
  | 1=>simp at hu ae;subst hu;subst ae;exact ⟨bR,r1⟩
  | i+2=>simp at hu
end
end Go.Proofs.YtfakoboiahbhaaaGreat.Ab


namespace Go.Proofs.YtfakoboiahbhaaaGreat.Ab
open Go Go.ChangeShapes Go.WideShapes Go.ChangeAt Go.RowKit
section
variable {H:Type} {enc:TypeId×Value→H} {P:Program} {w:World}
theorem XT {α β:Type} {f:α→β} {R:α→Prop}:∀ {l:List β},(∀ u∈l,∃ x,u=f x∧R x)→∃ gh:List α,l=gh.map f∧∀ x∈gh,R x
 | [],_=>⟨[],rfl,by simp⟩
 | u::l,h=>by
   obtain ⟨x,rfl,al⟩:=h u (by simp);obtain ⟨gh,rfl,bm⟩:=XT (l:=l) fun y a0=>h y (by simp [a0]);exact ⟨x::gh,rfl,by simpa using ⟨al,bm⟩⟩
def PJ (enc:TypeId×Value→H) (P:Program) (w:World) (bE:Array Field) (Qs:List (I→Prop)):Prop :=
 Qs.length=bE.size∧∀ (i:Nat) (f:Field) (q:I→Prop),bE[i]?=some f→Qs[i]?=some q→f.offset=i∧P.cellsOf f.type=1∧NQ enc P w f.type q
def ML (Qs:List (I→Prop)) (us:List I):Prop:=us.length=Qs.length∧∀ (i:Nat) (u:I) (q:I→Prop),us[i]?=some u→Qs[i]?=some q→q u
theorem YS {t:TypeId} {bE:Array Field} {Qs:List (I→Prop)} (ax:P.underlying t=some (.struct bE)) (ao:P.cellsOf t=bE.size) (aQ:PJ enc P w bE Qs) {n:Nat} {cs:List Value} {y:DataW H×List MemPlace}
  (h:DataW.trod enc P w 0 (fun _=>true) true n t cs=some y):∃ us:List I,ML Qs us∧cs.length=us.length∧∀ (j:Nat) (u:I) (v:Value),us[j]?=some u→cs[j]?=some v→u.plain=true∧v.oneCell'=true∧Rel [] (S0 w) w u v:=by
 obtain ⟨xs,m,_,_,ak,al4,al⟩:=DataW.trod_struct ax h;rw [ao] at ak;have each:∀ i,i<bE.size→∃ u:I,(∀ v,cs[i]?=some v→u.plain=true∧v.oneCell'=true∧Rel [] (S0 w) w u v)∧∀ q,Qs[i]?=some q→q u:=fun i hi=>by
  have ad:bE[i]?=some bE[i]:=Array.getElem?_eq_getElem hi;have a3:i<Qs.length:=by rw [aQ.1];exact hi
  have af:Qs[i]?=some Qs[i]:=sq a3;obtain ⟨e1,ck,dF⟩:=aQ.2 i _ _ ad af;have aG:=al i _ ad;rw [e1,ck] at aG;have Xk:i<cs.length:=by omega
  rw [sW Xk,sq (by omega)] at aG;simp only [ve,tg] at aG;obtain ⟨u,aB,aH,aR,bj⟩:=dF _ _ _ aG;refine ⟨u,fun v ae=>?_,fun q CV=>?_⟩
  ·rw [sq Xk] at ae;cases ae;exact ⟨aB,aH,aR⟩
  ·rw [af] at CV;cases CV;exact bj
 obtain ⟨Jy,MY⟩:=Deep.choose_lt (α:=I) (n:=bE.size) (p:=fun i u=>(∀ v,cs[i]?=some v→u.plain=true∧v.oneCell'=true∧Rel [] (S0 w) w u v)∧∀ q,Qs[i]?=some q→q u) each;have get:∀ (i:Nat) (u:I),((List.range bE.size).map Jy)[i]?=some u→i<bE.size∧u=Jy i:=fun i u hu=>by
  have hi:i<bE.size:=by have:=(sa.1 hu).1;simpa using this
  simp [hi] at hu;exact ⟨hi,hu.symm⟩
 refine ⟨(List.range bE.size).map Jy,⟨by simp [aQ.1],fun i u q hu a3=>?_⟩,by simp [ak],fun j u v hu ae=>?_⟩
 ·obtain ⟨hi,rfl⟩:=get i u hu;exact (MY i hi).2 q a3
 ·obtain ⟨hi,rfl⟩:=get j u hu;exact (MY j hi).1 v ae
theorem ac1 {base:Nat} {t:TypeId} {bE:Array Field} {Qs:List (I→Prop)} (ax:P.underlying t=some (.struct bE)) (ao:P.cellsOf t=bE.size) (aQ:PJ enc P w bE Qs):Arg enc P w base t fun u=>∃ us,u=.agg us∧ML Qs us:=by
 intro v d p ae ⟨n,aZ⟩;unfold Value.okWide at ae;rw [ax] at ae;obtain ⟨cs,rfl,bP,_⟩:=ae;obtain ⟨us,ad,af,aG⟩:=YS ax ao aQ aZ;have af:cs.toList.length=us.length:=af;refine ⟨.agg us,rfl,.agg us cs (by simpa using af) (fun u hu=>?_) (fun v ae=>?_) fun j u v hu ae=>?_,us,rfl,ad⟩
 ·obtain ⟨j,aw⟩:=tE.1 hu;have aU:j<cs.toList.length:=by rw [af];exact (sa.1 aw).1
  exact (aG j u _ aw (sq aU)).1
 ·obtain ⟨j,aw⟩:=tE.1 ae;have aU:j<us.length:=by rw [←af];exact (sa.1 aw).1
  exact (aG j _ v (sq aU) aw).2.1
 ·exact (aG j u v hu (by show cs.toList[j]?=some v;simpa using ae)).2.2
theorem WR {s:Nat}:∀ {L:List (List I)} {j:Nat} {u:I},(∀ l∈L,l.length=s)→0<s→L.flatten[j]?=some u→∃ l,L[j / s]?=some l∧l[j % s]?=some u
 | [],j,u,_,_,h=>by simp at h
 | l::L,j,u,ak,ai,h=>by
   have aS:l.length=s:=ak l (by simp);rw [List.flatten_cons] at h;by_cases aw:j<s
   ·rw [sB (by omega)] at h;exact ⟨l,by rw [Nat.div_eq_of_lt aw];rfl,by rw [Nat.mod_eq_of_lt aw];exact h⟩
   ·rw [sM (by omega),aS] at h;obtain ⟨k,a,b⟩:=WR (s:=s) (fun x al=>ak x (by simp [al])) ai h;(have e1:j / s=(j-s) / s+1:=by rw [Nat.div_eq_sub_div ai (by omega)]);(have ck:j % s=(j-s) % s:=by rw [Nat.mod_eq_sub_mod (by omega)]);exact ⟨k,by rw [e1];simpa using a,by rw [ck];exact b⟩
theorem adq {t e:TypeId} {bE:Array Field} {Qs:List (I→Prop)} (ax:P.underlying t=some (.slice e)) (he:P.underlying e=some (.struct bE)) (ao:P.cellsOf e=bE.size) (aS:0<bE.size) (aQ:PJ enc P w bE Qs) :
  NQ enc P w t fun u=>∃ L:List (List I),u=.ay L.flatten L.length .shared∧L.length≤maxLen∧∀ us∈L,ML Qs us:=by
 intro fuel v x h;rcases Deep.open_slice ax h with ⟨ae,_⟩ | ⟨a,len,cap,m,n,D,alD,ae,_,ak,hm,ps,_,al⟩
 ·injection ae with ae _;subst ae;exact ⟨_,rfl,rfl,.b1 _ _,[],rfl,sr _,by simp⟩
 ·injection ae with ae _;subst ae;have ps:m=cap:=ps;by_cases Ce:cap=0
  ·(subst Ce;obtain rfl:len=0:=by omega);exact ⟨_,rfl,rfl,.b1 _ _,[],rfl,sr _,by simp⟩
  ·have each:∀ i,i<len→∃ q:List I×List Value,ML Qs q.1∧q.2.length=bE.size∧w.cells? 0 (a.add (i*bE.size)) bE.size=some q.2∧∀ (j:Nat) (u:I) (v:Value),q.1[j]?=some u→q.2[j]?=some v→u.plain=true∧v.oneCell'=true∧Rel [] (S0 w) w u v:=fun i hi=>by
    obtain ⟨c9,ad,af⟩:=al i (by omega);rw [ao] at ad;obtain ⟨us,bo,cI,eA⟩:=YS he ao aQ af;exact ⟨(us,c9),bo,by have:=bo.1;rw [cI,this,aQ.1],ad,eA⟩
   obtain ⟨q0,_,_,ae8,_⟩:∃ q:List Value,True∧True∧w.cells? 0 (a.add (0*bE.size)) bE.size=some q∧True:=by
    obtain ⟨c9,ad,_⟩:=al 0 (by omega);rw [ao] at ad;exact ⟨c9,trivial,trivial,ad,trivial⟩
   obtain ⟨b,o,sp⟩:=a;have ai:sp=none:=by
    obtain ⟨_,hlen,bu⟩:=World.cells?_some ae8;have:=bu 0 aS;rw [sq (by omega)] at this;simpa [Addr.add] using World.cell?_spot this
   subst ai;obtain ⟨Jy,MY⟩:=Deep.choose_lt (α:=List I×List Value) (n:=len) (p:=fun i q=>ML Qs q.1∧q.2.length=bE.size∧w.cells? 0 (Addr.add ⟨b,o,none⟩ (i*bE.size)) bE.size=some q.2∧∀ (j:Nat) (u:I) (v:Value),q.1[j]?=some u→q.2[j]?=some v→u.plain=true∧v.oneCell'=true∧Rel [] (S0 w) w u v) each;(have aeg:∀ i,i<len→(Jy i).1.length=bE.size:=fun i hi=>by have:=(MY i hi).1.1;rw [this,aQ.1]);have c_:∀ l∈((List.range len).map fun i=>(Jy i).1),l.length=bE.size:=fun l dA=>by
    obtain ⟨i,hi,rfl⟩:=sv.1 dA;exact aeg i (sJ.1 hi)
   let V:Nat→Value:=fun j=>((Jy (j / bE.size)).2)[j % bE.size]!
   have key:∀ (j:Nat) (u:I),(((List.range len).map fun i=>(Jy i).1).flatten)[j]?=some u→w.cell? ⟨b,o+j,none⟩=some (V j)∧u.plain=true∧(V j).oneCell'=true∧Rel [] (S0 w) w u (V j):=fun j u aw=>by
    obtain ⟨l,cb,b8⟩:=WR c_ aS aw;(have hi:j / bE.size<len:=by have:=(sa.1 cb).1;simpa using this);simp [hi] at cb;subst cb;obtain ⟨a',bk,bq,b7⟩:=MY _ hi;have aeY:j % bE.size<bE.size:=Nat.mod_lt _ aS;have ae:(Jy (j / bE.size)).2[j % bE.size]?=some (V j):=by
     show _=some ((Jy (j / bE.size)).2[j % bE.size]!);rw [sq (by omega),getElem!_pos _ _ (by omega)]
    obtain ⟨_,_,bu⟩:=World.cells?_some bq;have On:=bu (j % bE.size) aeY;rw [ae] at On;have e:(Addr.add (Addr.add ⟨b,o,none⟩ (j / bE.size*bE.size)) (j % bE.size))=⟨b,o+j,none⟩:=by
     simp only [add_lit];congr 1;have:=Nat.div_add_mod' j bE.size;omega
    rw [e] at On;exact ⟨On,b7 _ _ _ b8 ae⟩
   refine ⟨.ay ((List.range len).map fun i=>(Jy i).1).flatten len .shared,rfl,rfl,.ay _ _ _ b o cap V (by simp) ak (by simp) (fun j u aw=>?_) (fun j u aw=>?_),(List.range len).map fun i=>(Jy i).1,by simp,by simp;omega,fun us hu=>?_⟩
   ·obtain ⟨aJ,aP,cj,_⟩:=key j u aw;exact ⟨⟨_,aJ⟩,aJ,aP,cj⟩
   ·exact (key j u aw).2.2.2
   ·obtain ⟨j,aw,rfl⟩:=sv.1 hu;exact (MY j (sJ.1 aw)).1
end
end Go.Proofs.YtfakoboiahbhaaaGreat.Ab


namespace Go.Proofs.YtfakoboiahbhaaaGreat.Ab
open Go
set_option maxRecDepth 20000
set_option maxHeartbeats 4000000
noncomputable def abu:ez :=
 Gz [gM 3 [.hG 1] .box,Gm 4 0,Gm 5 0] (.seq (Gt [Gp 7 0,gM 8 [.hJ 7] .zB,F6 9 8 0,F6 10 9 1,Gl 11 10,gM 12 [.sl 3] (.oP 0),Gl 13 12,Gh 14 11 13 2,gM 15 [.hJ 14] (.pT (.str 2)),gM 6 [] (.alloc [.int .i64 0,.int .i64 0]),⟨none,[.sl 6,.hG 15],none,none,.st 2⟩]) (.seq (Gz [F6 16 3 1,Gl 17 16,F0 18 17 0 .gtr] (.cond (.sl 18) (.seq (Gt [gM 19 [.sl 6] (.oP 1),Gl 20 19,gM 21 [.sl 6] (.oP 0),Gl 22 21,Gp 4 20,Gp 5 22]) .ret) .skip)) (.seq (Gt [gM 23 [.sl 6] (.oP 0),Gl 24 23,gM 25 [.sl 6] (.oP 1),Gl 26 25,Gp 4 24,Gp 5 26]) .ret)))
theorem ago:zf Tryz.prog V0 68=some (abu,27,[.tmp 4,.tmp 5]):=by kernel_rfl
def K3 (t:qa) (p:(Int×Int)):Option (Int×Int) :=
 p8 (0≤p.1∧p.1<(t.2.length:Int)) <|
 if (decide ((0:Int)<p.2))=true then
  some ((ix t.2 p.1).2,(ix t.2 p.1).1)
 else
  some ((ix t.2 p.1).1,(ix t.2 p.1).2)
theorem Jv {t:qa} {p:(Int×Int)} {v:(Int×Int)} (h:K3 t p=some v):ql 68 [(.bU [(hP t.1),(.ay (t.2.flatMap p1) t.2.length .shared)]),(.agg [(hP p.1),(hP p.2)])] (.tuple [(hP v.1),(hP v.2)]):=by
 refine qM dI ago rfl (Kl (pY rfl (pY rfl rfl))) fun Q bl=>?_;have jw:qu [.tmp 4,.tmp 5] Q (fun v=>(.tuple [(hP v.1),(hP v.2)])) v:=fun T H bI=>bl _ T H bI;unfold K3 at h;unfold abu;conv=>whnf
 refine qk h id fun eU h=>?_;rw [qW p1 2 qw t.2 p.1 eU];conv=>whnf
 refine bs h (fun fk h=>?_) fun fk h=>?_
 ·rw [fk];conv=>whnf
  exact p7 h jw rfl rfl
 ·rw [fk];conv=>whnf
  exact p7 h jw rfl rfl
end Go.Proofs.YtfakoboiahbhaaaGreat.Ab


namespace Go.Proofs.YtfakoboiahbhaaaGreat.Ab
open Go
noncomputable def T1:ez :=
 Gz [Gp 30 7,gM 31 [.sl 2] (.pT .one),F1 32 30 31 .eql,Gp 33 32,cP 34 [.sl 0] 33 true .iQ,cP 35 [.hJ 6] 33 true (.pT (.str 2)),cP 36 [.hG 34,.hG 35] 33 true (.call 1),cP 37 [.hJ 36] 33 true (.un .not),gM 38 [.hJ 33,.hJ 37,.iA (.bool false)] .pick] (.cond (.sl 38) .ret .skip)
noncomputable def T2:ez :=
 Gz [gM 25 [.sl 1] (.pT .one),gM 26 [.sl 6] (.pT (.str 2)),gM 27 [.iA (.func 68 [] []),.sl 25,.sl 26] (.call 3),Gp 24 27,GJ 28 24 0,gM 29 [.hJ 24] (.ext 1),Gp 7 28,Gp 8 29] T1
noncomputable def T3:ez :=
 Gz [Gn 21 4,Gp 22 5,gM 23 [.hJ 21,.hJ 22] (.build [.int .i64 0,.int .i64 0] [(0,1),(1,1)]),gM 6 [] (.alloc [.int .i64 0,.int .i64 0]),⟨none,[.sl 6,.hG 23],none,none,.st 2⟩] T2
noncomputable def T4:ez :=
 .block 3 (Gz [Gn 20 18,Gp 5 20] T3)
noncomputable def T5:ez :=
 Gz [Gm 18 0] (.block 2 (.loop (some (Ez false [0,3,1,1,9,2,2,1,22])) (Gz [gM 19 [.sl 18,.iA (.int .i64 2)] (.bin .lss)] (.seq (.cond (.sl 19) .skip (.exit 2)) (.seq T4 (Gs [FZ 39 18 1,Gp 18 39]))))))
noncomputable def T6:ez :=
 .block 1 (Gz [Gn 17 15,Gp 4 17] T5)
noncomputable def Yi:ez :=
 Gz [gM 9 [.sl 1] (.pT .one),gM 10 [.hJ 9] .zB,F6 11 10 0,F6 12 11 1,Gl 13 12,Gk 14 13,Gm 15 0] (.block 0 (.loop (some (Ez false [0,3,11,2,25])) (Gz [gM 16 [.sl 15,.sl 14] (.bin .lss)] (.seq (.cond (.sl 16) .skip (.exit 0)) (.seq T6 (Gs [FZ 40 15 1,Gp 15 40]))))))
theorem afE:zf Go.Proofs.Tryz.prog VE 113=some (Yi,41,[]):=by kernel_rfl
end Go.Proofs.YtfakoboiahbhaaaGreat.Ab


namespace Go.Proofs.YtfakoboiahbhaaaGreat.Ab
open Go
set_option maxRecDepth 20000
set_option maxHeartbeats 4000000
abbrev p4:=Int×List (Int×Int)
def q4 (r:Nat):Int×Int:=(((r / 2:Nat):Int),((r % 2:Nat):Int))
def qy (t:p4) (p:Int×Int):Int:=if 0<p.2 then (ix t.2 p.1).2 else (ix t.2 p.1).1
def fin (t:p4) (p:Int×Int):Int:=if 0<p.2 then (ix t.2 p.1).1 else (ix t.2 p.1).2
theorem JL {t:p4} {p:Int×Int} (h:0≤p.1∧p.1<(t.2.length:Int)):K3 t p=some (qy t p,fin t p):=by
 rw [K3,qc h];unfold qy fin;by_cases ad:0<p.2
 ·rw [if_pos (decide_eq_true ad),if_pos ad,if_pos ad]
 ·rw [if_neg (by simpa using ad),if_neg ad,if_neg ad]
def qY (t:p4) (figure:Int) (r:Nat):Bool:=decide (qy t (q4 r)=figure)
def places (t:p4) (figure:Int):List (Int×Int):=((List.range (2*t.2.length)).filter (qY t figure)).map q4
theorem PX (p:Nat→Bool) {j:Nat} (aC:p j=true):∀ {n:Nat},j<n→((List.range n).filter p)[((List.range j).filter p).length]?=some j
 | 0,h=>absurd h (by omega)
 | n+1,h=>by
   rw [vh,tW];by_cases aw:j<n
   ·have:=PX p aC aw;rw [sB (sa.1 this).1,this]
   ·(obtain rfl:j=n:=by omega);rw [sM (sd _)];simp [aC]
theorem MU (p:Nat→Bool) (j:Nat):((List.range (j+1)).filter p).length=((List.range j).filter p).length+if p j=true then 1 else 0:=by
 rw [vh,tW,su];by_cases h:p j=true
 ·rw [if_pos h];simp [h]
 ·rw [if_neg h];simp [h]
theorem aiR {α:Type} (Y:α) (step:Nat→α→α):∃ Z:Nat→α,Z 0=Y∧∀ j,Z (j+1)=step j (Z j):=⟨fun n=>Nat.rec Y (fun j z=>step j z) n,rfl,fun _=>rfl⟩
theorem Qt {n i b:Nat} (hi:i<n) (ag:b<2):q4 (2*i+b)=((i:Int),(b:Int)):=by
 unfold q4;rw [show (2*i+b) / 2=i by omega,show (2*i+b) % 2=b by omega]
theorem R9 {t:p4} {figure:Int} (al:t.2.length≤1000) {L N:Nat} {q3:Nat→List au} (hlen:∀ i,(q3 i).length=N) {c:Nat→Nat} (ao:∀ j,c j=((List.range j).filter (qY t figure)).length) {M:Nat} (B8:M≤2*t.2.length) {Z:Nat→List au} {PK:List au}
  (bm:∀ r,r<M→if qY t figure r=true then Sem Tryz.prog (.yield L) [.agg (p1 (q4 r))] (q3 (c r)++(Z r++[au.cells (p1 (q4 r))])) 0 (.bool true) (q3 (c (r+1))++Z (r+1)) else Z (r+1)=Z r++[au.cells (p1 (q4 r))])
  (he:(M=2*t.2.length∧PK=q3 (c M)++Z M)∨(M<2*t.2.length∧qY t figure M=true∧Sem Tryz.prog (.yield L) [.agg (p1 (q4 M))] (q3 (c M)++(Z M++[au.cells (p1 (q4 M))])) 0 (.bool false) PK)) (po:ba 0 (q3 0++Z 0) PK) :
  Sem Tryz.prog (.fn 113) [.yield L,.bU [.bU [hP t.1,.ay (t.2.flatMap p1) t.2.length .shared]],.bU [hP figure]] (q3 0++Z 0) 0 (.tuple []) PK:=by
 obtain ⟨n,aN⟩:∃ n,n=t.2.length:=⟨_,rfl⟩;obtain ⟨p,aC⟩:∃ p,p=qY t figure:=⟨_,rfl⟩;have jA:∀ j,c (j+1)=c j+if p j=true then 1 else 0:=fun j=>by rw [ao,ao,aC];exact MU _ j
 rw [←aN] at B8 he al;rw [←aC] at bm he;refine Ig dI afE rfl po fun Q bl=>?_;unfold Yi;obtain ⟨fP,G5⟩:∃ c,T6=c:=⟨_,rfl⟩;rw [G5];conv=>whnf
 rw [←aN];refine .intro (fun m T H=>∃ i:Nat,i≤n∧2*i≤M∧m=n-i∧T=GG 41 [(0,.yield L),(1,.bU [.bU [hP t.1,.ay (t.2.flatMap p1) n .shared]]),(2,.bU [hP figure]),(14,hP (n:Int)),(15,hP (i:Int))]∧H=q3 (c (2*i))++Z (2*i)) n ⟨0,sr _,sr _,rfl,rfl,by rw [ao];rfl⟩ ?_;rintro m T H ⟨i,hi,aeJ,rfl,rfl,rfl⟩;conv=>whnf
 refine IG (fun On=>?_) (fun On=>?_)
 ·have aU:i<n:=by omega
  conv=>whnf
  refine I9 fun mS G8=>?_;subst G5;unfold T6;obtain ⟨dX,B1⟩:∃ c,T5=c:=⟨_,rfl⟩;rw [B1];conv=>whnf
  refine I9 fun mT Kb=>?_;subst B1;unfold T5;obtain ⟨b7,hn⟩:∃ c,T4=c:=⟨_,rfl⟩;rw [hn];conv=>whnf
  refine .intro (fun m T H=>∃ b:Nat,b≤2∧2*i+b≤M∧m=2-b∧T=GG 41 [(0,.yield L),(1,.bU [.bU [hP t.1,.ay (t.2.flatMap p1) n .shared]]),(2,.bU [hP figure]),(4,hP (i:Int)),(14,hP (n:Int)),(15,hP (i:Int)),(18,hP (b:Int))]∧H=q3 (c (2*i+b))++Z (2*i+b)) 2 ⟨0,sr _,aeJ,rfl,rfl,rfl⟩ ?_;rintro m T H ⟨b,ag,MZ,rfl,rfl,rfl⟩;conv=>whnf
  refine IG (fun bp=>?_) (fun bp=>?_)
  ·(have fk:b<2:=by omega);have N2:q4 (2*i+b)=((i:Int),(b:Int)):=Qt aU fk;have ad8:K3 t ((i:Int),(b:Int))=some (qy t ((i:Int),(b:Int)),fin t ((i:Int),(b:Int))):=JL ⟨by omega,by omega⟩;have XX:=Jv ad8;rw [←aN] at XX;(conv=>whnf);refine I9 fun alx Sy=>?_;subst hn;unfold T4;obtain ⟨bq,dZ⟩:∃ c,T3=c:=⟨_,rfl⟩;rw [dZ];(conv=>whnf);refine I9 fun aly Sz=>?_;subst dZ;unfold T3;obtain ⟨bk,b8⟩:∃ c,T2=c:=⟨_,rfl⟩;rw [b8];(conv=>whnf);refine DW (x:=au.cells [hP (0:Int),hP (0:Int)]) (by first | exact qi.h | rfl | (simp [sc,I.settle];done)) ?_
   (conv=>whnf);rw [rk];refine I9 fun alz SA=>?_;subst b8;unfold T2;obtain ⟨a',cb⟩:∃ c,T1=c:=⟨_,rfl⟩;rw [cb];(conv=>whnf);refine DW (x:=au.cells [hP (i:Int),hP (b:Int)]) (by first | exact qi.h | rfl | (simp [sc,I.settle];done)) ?_
   (conv=>whnf);refine ⟨(pY (qO (pY rfl (pY (qL (fun _=>(pY rfl (pY rfl rfl))) _ _ _) rfl))) (pY (I1 (pY rfl (pY rfl rfl))) rfl)),_,XX,?_⟩;(conv=>whnf);refine I9 fun alA SB=>?_;subst cb;unfold T1;(conv=>whnf);rcases Je (decide (qy t ((i:Int),(b:Int))=figure)) with Ll | Ll
   ·(have Ki:p (2*i+b)=true:=by rw [aC];show decide (qy t (q4 (2*i+b))=figure)=true;rw [N2];exact Ll);rw [Ll];(conv=>whnf);refine DW (x:=au.cells [hP (i:Int),hP (b:Int)]) (by first | exact qi.h | rfl | (simp [sc,I.settle];done)) ?_
    (conv=>whnf);rw [sj];by_cases SC:2*i+b<M
    ·have aj:=bm _ SC;rw [if_pos Ki,N2] at aj;refine ⟨_,_,Is aj,?_⟩;(conv=>whnf);refine SB _ _ _ ?_;(conv=>whnf);refine SA _ _ _ ?_;(conv=>whnf);refine Sz _ _ _ ?_;(conv=>whnf);refine Sy _ _ _ ?_;(conv=>whnf);refine ⟨2-(b+1),by omega,b+1,by omega,by omega,rfl,?_,rfl⟩;rw [show IntKind.i64.wrap ((b:Int)+1)=((b+1:Nat):Int) by rw [JI _ (by omega) (by omega)];omega];rfl
    ·(have aec:M=2*i+b:=by omega);rcases he with ⟨ad,_⟩ | ⟨_,_,aG⟩
     ·omega
     ·rw [aec,N2] at aG;refine ⟨_,_,Is aG,?_⟩;(conv=>whnf);refine SB _ _ _ ?_;(conv=>whnf);refine SA _ _ _ ?_;(conv=>whnf);refine Sz _ _ _ ?_;(conv=>whnf);refine Sy _ _ _ ?_;(conv=>whnf);refine Kb _ _ _ ?_;(conv=>whnf);refine G8 _ _ _ ?_;(conv=>whnf);exact bl _ _ _ ⟨.inr rfl,jg.refl _,rfl⟩
   ·(have Ki:¬ p (2*i+b)=true:=by rw [aC];show ¬ decide (qy t (q4 (2*i+b))=figure)=true;rw [N2,Ll];decide);have SC:2*i+b<M:=by
     rcases he with ⟨ad,_⟩ | ⟨_,af,_⟩
     ·omega
     ·rcases sU (2*i+b) M with h | h
      ·exact h
      ·rw [show M=2*i+b by omega] at af;exact absurd af Ki
    have aj:=bm _ SC;rw [if_neg Ki,N2] at aj;rw [Ll];(conv=>whnf);refine SB _ _ _ ?_;(conv=>whnf);refine SA _ _ _ ?_;(conv=>whnf);refine Sz _ _ _ ?_;(conv=>whnf);refine Sy _ _ _ ?_;(conv=>whnf);refine ⟨2-(b+1),by omega,b+1,by omega,by omega,rfl,?_,?_⟩
    ·rw [show IntKind.i64.wrap ((b:Int)+1)=((b+1:Nat):Int) by rw [JI _ (by omega) (by omega)];omega];rfl
    ·rw [show 2*i+(b+1)=2*i+b+1 by omega,aj,jA,if_neg Ki,sj];rfl
  ·(obtain rfl:b=2:=by omega);(conv=>whnf);refine Kb _ _ _ ?_;(conv=>whnf);refine G8 _ _ _ ?_;(conv=>whnf);refine ⟨n-(i+1),by omega,i+1,by omega,by omega,rfl,?_,rfl⟩;rw [show IntKind.i64.wrap ((i:Int)+1)=((i+1:Nat):Int) by rw [JI _ (by omega) (by omega)];omega];rfl
 ·obtain rfl:i=n:=by omega
  conv=>whnf
  rcases he with ⟨ad,af⟩ | ⟨ad,_,_⟩
  ·subst af;rw [ad] at bl;exact bl _ _ _ ⟨.inl rfl,jg.refl _,rfl⟩
  ·omega
theorem R8 {t:p4} {figure:Int} {L N:Nat} {q3:Nat→List au} (hlen:∀ i,(q3 i).length=N) {c:Nat→Nat} (ao:∀ j,c j=((List.range j).filter (qY t figure)).length) {M:Nat} (Y:List au)
  (aj:∀ r,r<M→qY t figure r=true→∀ Y,∃ qq,Sem Tryz.prog (.yield L) [.agg (p1 (q4 r))] (q3 (c r)++Y) 0 (.bool true) (q3 (c r+1)++qq)) :
  ∃ Z:Nat→List au,Z 0=Y∧(∀ r,r<M→if qY t figure r=true then Sem Tryz.prog (.yield L) [.agg (p1 (q4 r))] (q3 (c r)++(Z r++[au.cells (p1 (q4 r))])) 0 (.bool true) (q3 (c (r+1))++Z (r+1)) else Z (r+1)=Z r++[au.cells (p1 (q4 r))]) ∧
    ∀ r,r≤M→(q3 0++Y).length≤(q3 (c r)++Z r).length:=by
 have jA:∀ j,c (j+1)=c j+if qY t figure j=true then 1 else 0:=fun j=>by rw [ao,ao];exact MU _ j
 have yS:∀ (j:Nat) (Y:List au),∃ qq,j<M→qY t figure j=true→Sem Tryz.prog (.yield L) [.agg (p1 (q4 j))] (q3 (c j)++Y) 0 (.bool true) (q3 (c (j+1))++qq):=fun j Y=>by
  by_cases aw:j<M∧qY t figure j=true
  ·obtain ⟨qq,h⟩:=aj j aw.1 aw.2 Y;exact ⟨qq,fun _ _=>by rw [jA,if_pos aw.2];exact h⟩
  ·exact ⟨[],fun a b=>absurd ⟨a,b⟩ aw⟩
 obtain ⟨g,aO⟩:∃ g:Nat→List au→List au,∀ (j:Nat) (Y:List au),j<M→qY t figure j=true→Sem Tryz.prog (.yield L) [.agg (p1 (q4 j))] (q3 (c j)++Y) 0 (.bool true) (q3 (c (j+1))++g j Y) :=
  ⟨fun j Y=>Classical.choose (yS j Y),fun j Y=>vB (yS j Y)⟩
 clear yS;obtain ⟨Z,JO,Ke⟩:=aiR Y fun j Y=>if qY t figure j=true then g j (Y++[au.cells (p1 (q4 j))]) else Y++[au.cells (p1 (q4 j))];refine ⟨Z,JO,fun r Ot=>?_,fun r=>?_⟩
 ·by_cases h:qY t figure r=true
  ·rw [if_pos h,Ke r,if_pos h];exact aO r _ Ot h
  ·rw [if_neg h,Ke r,if_neg h]
 ·induction r with
  | zero=>intro _;rw [JO,su,su,hlen,hlen];exact sd _
  | succ j a_ =>
    intro aw;refine sH (a_ (by omega)) ?_;by_cases Ki:qY t figure j=true
    ·have ad:=(aO j (Z j++[au.cells (p1 (q4 j))]) (by omega) Ki).1.1;rw [Ke j];simp only [if_pos Ki];refine sH ?_ ad;rw [←sj];simp
    ·rw [Ke j,jA,if_neg Ki];simp only [if_neg Ki];rw [←sj];simp
theorem OI {t:p4} {figure:Int} {r:Nat} (aj:r<2*t.2.length) (ag:qY t figure r=true):((places t figure).map fun p=>I.agg (p1 p))[((List.range r).filter (qY t figure)).length]?=some (.agg (p1 (q4 r))):=by
 rw [places,tx,sA,PX _ ag aj];rfl
def JD (t:p4) (figure:Int):Option (List (Int×Int)):=if t.2.length≤1000 then some (places t figure) else none
theorem UE {t:p4} {figure:Int} {v:List (Int×Int)} (h:JD t figure=some v):Seq Tryz.prog 113 [.bU [.bU [hP t.1,.ay (t.2.flatMap p1) t.2.length .shared]],.bU [hP figure]] (v.map fun e1=>.agg [hP e1.1,hP e1.2]):=by
 unfold JD at h;split at h
 ·rename_i al;obtain rfl:=Option.some.inj h;intro L N q3 hlen fj aj Y;have ao:∀ j,((List.range j).filter (qY t figure)).length=((List.range j).filter (qY t figure)).length:=fun _=>rfl;have GL:((places t figure).map fun e1=>I.agg [hP e1.1,hP e1.2]).length=((List.range (2*t.2.length)).filter (qY t figure)).length:=by simp [places]
  obtain ⟨Z,JO,Ke,hle⟩:=R8 (t:=t) (figure:=figure) (L:=L) hlen ao (M:=2*t.2.length) Y fun r Ot ag Y=>by
   have aO:=OI Ot ag;obtain ⟨ad,af⟩:=sa.1 aO;obtain ⟨qq,h⟩:=aj _ ad Y;refine ⟨qq,?_⟩;rw [←af];exact h
  refine ⟨Z (2*t.2.length),?_⟩;rw [GL,←JO];exact R9 al hlen ao (sd _) Ke (.inl ⟨rfl,rfl⟩) (Lo (by rw [JO];exact hle _ (sd _)))
 ·cases h
theorem aiz {t:p4} {figure:Int} {v:List (Int×Int)} (h:JD t figure=some v):RU Tryz.prog 113 [.bU [.bU [hP t.1,.ay (t.2.flatMap p1) t.2.length .shared]],.bU [hP figure]] (v.map fun e1=>.agg [hP e1.1,hP e1.2]):=by
 unfold JD at h;split at h
 ·rename_i al;obtain rfl:=Option.some.inj h;intro L N q3 a1 n hlen fj aeU aN aj JS Y;have ao:∀ j,((List.range j).filter (qY t figure)).length=((List.range j).filter (qY t figure)).length:=fun _=>rfl;have SZ:n<((List.range (2*t.2.length)).filter (qY t figure)).length:=by simpa [places] using aN
  obtain ⟨M,B8,MZ,KH⟩:∃ M,M<2*t.2.length∧qY t figure M=true∧((List.range M).filter (qY t figure)).length=n:=by
   have hm:=sD SZ;obtain ⟨ad,af⟩:=List.mem_filter.1 hm;(have ad:((List.range (2*t.2.length)).filter (qY t figure))[n]<2*t.2.length:=by simpa using ad);refine ⟨_,ad,af,?_⟩;have aO:=PX _ af ad;have jG:((List.range (2*t.2.length)).filter (qY t figure)).Nodup:=List.nodup_range.filter _;obtain ⟨aG,a6⟩:=sa.1 aO;exact (List.getElem_inj jG).1 a6
  have CK:∀ a b,a≤b→((List.range a).filter (qY t figure)).length≤((List.range b).filter (qY t figure)).length:=fun a b jy=>by
   obtain ⟨d,rfl⟩:=Nat.exists_eq_add_of_le jy
   induction d with
   | zero=>exact sd _
   | succ d a_=>rw [←Nat.add_assoc,MU];exact sH (a_ (by omega)) (Nat.le_add_right _ _)
  obtain ⟨Z,JO,Ke,hle⟩:=R8 (t:=t) (figure:=figure) (L:=L) hlen ao (M:=M) Y fun r Ot ag Y=>by
   have aO:=OI (show r<2*t.2.length by omega) ag;obtain ⟨ad,af⟩:=sa.1 aO;have aU:((List.range r).filter (qY t figure)).length<n:=by
    have:=CK (r+1) M (by omega);rw [MU,if_pos ag,KH] at this;omega
   obtain ⟨qq,h⟩:=aj _ aU Y;refine ⟨qq,?_⟩;rw [←af];exact h
  obtain ⟨qq,ak⟩:=JS (Z M++[au.cells (p1 (q4 M))]);have aO:=OI B8 MZ;rw [KH] at aO;obtain ⟨ad,af⟩:=sa.1 aO;refine ⟨qq,?_⟩;rw [←JO];refine R9 al hlen ao (M:=M) (by omega) Ke (.inr ⟨B8,MZ,?_⟩) (Lo ?_)
  ·rw [KH,←af];exact ak
  ·have e1:=hle M (sd _);have ck:=ak.1.1;rw [KH] at e1;rw [JO];refine sH e1 (sH ?_ ck);rw [←sj];simp
 ·cases h
end Go.Proofs.YtfakoboiahbhaaaGreat.Ab


namespace Go.Proofs.YtfakoboiahbhaaaGreat.Ab
open Go Go.ChangeShapes Go.WideShapes Go.ChangeAt Go.RowKit
set_option maxRecDepth 100000
section
variable {H:Type} {enc:TypeId×Value→H} {w:World} {base:Nat}
def MN:I→Prop:=fun u=>∃ x,u=hP x∧J6 x
theorem Sc:NQ enc Tryz.prog w 3 MN:=fun n v y h=>by
 obtain ⟨u,a,b,c,x,rfl,d⟩:=ado (P:=Tryz.prog) Tryz.underlying3 n v y h;exact ⟨_,a,b,c,x,rfl,wf_i64 d⟩
theorem ag1 {us:List I} (h:ML [MN,MN] us):∃ p:Int×Int,us=p1 p∧J6 p.1∧J6 p.2:=by
 obtain ⟨ak,h⟩:=h
 match us,ak with
 | [a,b],_ =>
   obtain ⟨x,rfl,al⟩:=h 0 _ _ rfl rfl;obtain ⟨y,rfl,a0⟩:=h 1 _ _ rfl rfl;exact ⟨(x,y),rfl,al,a0⟩
def RO (bh:List (Int×Int)):Prop:=bh.length≤9223372036854775807∧∀ p∈bh,J6 p.1∧J6 p.2
abbrev RS (bh:List (Int×Int)):I:=.ay (bh.flatMap p1) bh.length .shared
def Vi:I→Prop:=fun u=>∃ bh,u=RS bh∧RO bh
theorem adX : PJ enc Tryz.prog w #[{ name := "Left", type := 3, offset := 0, embedded := false, tag := "", pkgPath := "", byteOffset := 0 }, { name := "Right", type := 3, offset := 1, embedded := false, tag := "", pkgPath := "", byteOffset := 8 }] [MN, MN] := ⟨rfl, fun i f q aQ a3 => by
 match i with
 | 0=>simp at aQ a3;subst aQ;subst a3;exact ⟨rfl,by kernel_rfl,Sc⟩
 | 1=>simp at aQ a3;subst aQ;subst a3;exact ⟨rfl,by kernel_rfl,Sc⟩
 | i+2=>simp at a3⟩
theorem adp:NQ enc Tryz.prog w 22 Vi:=fun n v y h=>by
 obtain ⟨u,a,b,c,L,rfl,ak,fj⟩:=adq Tryz.underlying22 Tryz.underlying67 (by kernel_rfl) (by decide) adX n v y h;obtain ⟨bh,rfl,aC⟩:=XT (f:=p1) (R:=fun p:Int×Int=>J6 p.1∧J6 p.2) fun us hu=>by
  obtain ⟨p,e,ad,af⟩:=ag1 (fj us hu);exact ⟨p,e,ad,af⟩
 refine ⟨_,a,b,c,bh,?_,by have:=agG ak;simpa using this,aC⟩;simp [RS,List.flatMap_def]
structure abL (b:p4):Prop where
 f:J6 b.1
 l:RO b.2
theorem acZ:Arg enc Tryz.prog w base 24 fun u=>∃ b:p4,u=.agg [hP b.1,RS b.2]∧abL b:=by
 intro v d p ae aZ
 obtain ⟨u,a,b,us,rfl,ak,hu⟩:=ac1 (P:=Tryz.prog) (enc:=enc) (w:=w) (base:=base) (Qs:=[MN,Vi]) Tryz.underlying24 (by kernel_rfl) ⟨rfl,fun i f q aQ a3=>by
  match i with
  | 0=>simp at aQ a3;subst aQ;subst a3;exact ⟨rfl,by kernel_rfl,Sc⟩
  | 1=>simp at aQ a3;subst aQ;subst a3;exact ⟨rfl,by kernel_rfl,adp⟩
  | i+2=>simp at a3⟩ v d p ae aZ
 match us,ak with
 | [jl,aB],_ =>
   obtain ⟨x,rfl,al⟩:=hu 0 _ _ rfl rfl;obtain ⟨y,rfl,a0⟩:=hu 1 _ _ rfl rfl;exact ⟨_,a,b,(x,y),rfl,al,a0⟩
end
end Go.Proofs.YtfakoboiahbhaaaGreat.Ab


namespace Go.Proofs.YtfakoboiahbhaaaGreat.Ab
open Go Go.ChangeShapes Go.WideShapes Go.ChangeAt Go.RowKit
set_option maxRecDepth 100000
section
variable {H:Type} {enc:TypeId×Value→H} {w:World} {base:Nat}
theorem ac2:Arg enc Tryz.prog w base 5 fun u=>∃ x,u=.int .u8 x∧0≤x∧x≤255:=fun v d p ae aZ=>by
 obtain ⟨u,a,b,x,rfl,h⟩:=ac0 (P:=Tryz.prog) (enc:=enc) (w:=w) (base:=base) Tryz.underlying5 v d p ae aZ;exact ⟨_,a,b,x,rfl,wf_u8 h⟩
structure alv (l:List (List (Int×Int))):Prop where
 n:l.length≤9223372036854775807
 v:∀ r∈l,RO r
end
end Go.Proofs.YtfakoboiahbhaaaGreat.Ab


namespace Go.Proofs.YtfakoboiahbhaaaGreat.Ab
open Go
def Sb:il→il→Bool
 | .shared,.shared=>true
 | .full,.full=>true
 | .own a,.own b=>Nat.beq a b
 | .uniq a,.uniq b=>Nat.beq a b
 | _,_=>false
theorem adl:∀ {a b:il},Sb a b=true→a=b:=by
 intro a b h;cases a <;> cases b <;> simp only [Sb,tH] at h <;> first | rfl | (rw [s_ h])
def Jq (f:I→I→Bool):List I→List I→Bool
 | [],[]=>true
 | a::l,b::r=>match f a b with
   | true=>Jq f l r
   | false=>false
 | _,_=>false
theorem KL {f:I→I→Bool} (aQ:∀ a b,f a b=true→a=b):∀ {a b:List I},Jq f a b=true→a=b
 | [],[],_=>rfl
 | [],_::_,h=>by simp [Jq] at h
 | _::_,[],h=>by simp [Jq] at h
 | a::l,b::r,h=>by
   simp only [Jq] at h;split at h
   ·rename_i jy;rw [aQ a b jy,KL aQ h]
   ·cases h
def IQ:Nat→I→I→Bool
 | 0,_,_=>false
 | d+1,a,b=>match a,b with
   | .bool x,.bool y=>match x,y with | true,true=>true | false,false=>true | _,_=>false
   | .int k x,.int q y=>match decide (k=q),decide (x=y) with | true,true=>true | _,_=>false
   | .eC,.eC=>true
   | .bU x,.bU y=>Jq (IQ d) x y
   | .ay x n c,.ay y m e=>match Jq (IQ d) x y,Nat.beq n m,Sb c e with | true,true,true=>true | _,_,_=>false
   | .func f x y,.func g z w=>match Nat.beq f g,Jq (IQ d) x z,Jq (IQ d) y w with | true,true,true=>true | _,_,_=>false
   | .agg x,.agg y=>Jq (IQ d) x y
   | .tuple x,.tuple y=>Jq (IQ d) x y
   | _,_=>false
theorem MQ:∀ (d:Nat) (a b:I),IQ d a b=true→a=b
 | 0,_,_,h=>by simp [IQ] at h
 | d+1,a,b,h=>by
   have a_:=MQ d;unfold IQ at h;split at h
   ·split at h <;> first | rfl | cases h
   ·rename_i k x q y;split at h
    ·rename_i ad af;rw [of_decide_eq_true ad,of_decide_eq_true af]
    ·cases h
   ·rfl
   ·rw [KL a_ h]
   ·split at h
    ·rename_i ad af aG;rw [KL a_ ad,s_ af,adl aG]
    ·cases h
   ·split at h
    ·rename_i ad af aG;rw [s_ ad,KL a_ af,KL a_ aG]
    ·cases h
   ·rw [KL a_ h]
   ·rw [KL a_ h]
   ·cases h
inductive qx where
 | pure (k:Nat) (args:List I) (v:I)
 | map (k:Nat) (args:List I) (es:List (Nat×I×I)) (clock:Nat)
def qI (P:Program):qx→Prop
 | .pure k args v=>lg P k args v
 | .map k args es clock=>∀ H,Sem P (.fn k) args H H.length (.map H.length) (H++[.map es clock])
def look (k:Nat) (args:List I) (H:List au) (lo:Nat):List qx→Option (I×List au)
 | []=>none
 | .pure q bs v::r=>match Nat.beq k q with
   | true=>match Jq (IQ 20) args bs with
     | true=>match H with
       | []=>some (v,[])
       | _=>look k args H lo r
     | false=>look k args H lo r
   | false=>look k args H lo r
 | .map q bs es clock::r=>match Nat.beq k q with
   | true=>match Jq (IQ 20) args bs with
     | true=>match Nat.beq lo H.length with
       | true=>some (.map H.length,H++[.map es clock])
       | false=>look k args H lo r
     | false=>look k args H lo r
   | false=>look k args H lo r
def UL (l:List qx):b6:=fun b0 args H lo=>match b0 with
 | .fn k=>look k args H lo l
 | _=>none
theorem Sem.afO {P:Program} {b0:e4} {args:List I} {r:I} {H':List au} (h:Sem P b0 args [] 0 r H') (lo:Nat):Sem P b0 args [] lo r H' :=
 ⟨⟨h.1.1,fun _ _ h=>by simp at h⟩,h.2⟩
theorem look_ok {P:Program} {k:Nat} {args:List I} {H:List au} {lo:Nat} {r:I} {H':List au}:∀ {l:List qx},(∀ e∈l,qI P e)→look k args H lo l=some (r,H')→Sem P (.fn k) args H lo r H'
 | [],_,h=>by simp [look] at h
 | .pure q bs v::l,ak,h=>by
   have Kj:=look_ok (k:=k) (args:=args) (H:=H) (lo:=lo) (r:=r) (H':=H') fun e he=>ak e (uo _ he);unfold look at h;split at h
   ·rename_i ad;split at h
    ·rename_i af;split at h
     ·cases h;have:=ak (.pure q bs r) uH;rw [s_ ad,KL (MQ 20) af];exact this.1.afO lo
     ·exact Kj h
    ·exact Kj h
   ·exact Kj h
 | .map q bs es clock::l,ak,h=>by
   have Kj:=look_ok (k:=k) (args:=args) (H:=H) (lo:=lo) (r:=r) (H':=H') fun e he=>ak e (uo _ he);unfold look at h;split at h
   ·rename_i ad;split at h
    ·rename_i af;split at h
     ·rename_i aG;cases h;have:=ak (.map q bs es clock) uH;rw [s_ ad,KL (MQ 20) af,s_ aG];exact this H
     ·exact Kj h
    ·exact Kj h
   ·exact Kj h
theorem ajc {P:Program} {l:List qx} (ak:∀ e∈l,qI P e):c' P (UL l):=oE fun b0 args H lo r H' h=>by
 cases b0 with
 | fn k=>exact look_ok ak h
 | yield i=>simp [UL] at h
def Lt (A:FuncId→c8):Nat→List Func→Bool
 | _,[]=>true
 | k,f::r=>match (A k).bad with
   | true=>Lt A (k+1) r
   | false=>match f.body with
     | some c => match codeOk (A k) c, f.name == "runtime.NumGoroutine" with
       | true,false=>Lt A (k+1) r
       | _,_=>false
     | none=>Lt A (k+1) r
theorem XY {A : FuncId → c8} : ∀ {l : List Func} {k : Nat}, Lt A k l = true → ∀ (i : Nat) (f : Func) (c : Code), (A (k + i)).bad = false → l[i]? = some f → f.body = some c → codeOk (A (k + i)) c = true ∧ f.name ≠ "runtime.NumGoroutine"
 | [],_,_,i,f,c,_,h,_=>by simp at h
 | g::r,k,h,i,f,c,nc,aQ,ao=>by
   unfold Lt at h;cases i with
   | zero =>
     simp at aQ;subst aQ;rw [Nat.add_zero] at nc;rw [nc,ao] at h;simp only at h;split at h
     ·rename_i ad af;exact ⟨ad,by simpa using af⟩
     ·cases h
   | succ i =>
     have aj:Lt A (k+1) r=true:=by
      split at h
      ·exact h
      ·split at h
       ·split at h
        ·exact h
        ·cases h
       ·exact h
     have:=XY aj i f c (by rw [show k+1+i=k+(i+1) by omega];exact nc) (by simpa using aQ) ao;rw [show k+(i+1)=k+1+i by omega];exact this
theorem agO {P : Program} {A : FuncId → c8} (h : Lt A 0 P.funcs.toList = true) (k : Nat) (f : Func) (c : Code) (ag : (A k).bad = false) (aQ : P.funcs[k]? = some f) (ao : f.body = some c) : codeOk (A k) c = true ∧ f.name ≠ "runtime.NumGoroutine" := by
 have:=XY h k f c (by rw [sO];exact ag) (by simpa using aQ) ao
 rwa [sO] at this
theorem acV:Lt jo 0 Go.Proofs.Tryz.prog.funcs.toList=true:=by kernel_rfl
noncomputable def QM (l:List qx) (k:Nat) (args:List I):Option I:=match fQ Go.Proofs.Tryz.prog jo (UL l) 300 (.fn k) args [] 0 with
 | some (r,a2)=>match bJ a2 0 a2.length 0 8 r with
   | some v=>match cq 8 v.settle with
     | true=>some v.settle
     | false=>none
   | none=>none
 | none=>none
theorem GO {l:List qx} (ak:∀ e∈l,qI Go.Proofs.Tryz.prog e) {k:Nat} {args:List I} {v:I} (h:QM l k args=some v):lg Go.Proofs.Tryz.prog k args v:=by
 unfold QM at h;split at h
 ·rename_i r a2 ao;split at h
  ·rename_i u aQ;split at h
   ·rename_i aC;cases h;have ai:=(BL dI jo (ajc ak) (agO acV) 300).GC ao;refine ⟨⟨ba.refl _ _,ai.2.1,fun B U J S w xs ah aN ae=>CallsIn.mono (ai.2.2 B U J S w xs ah aN ae) fun e w' he=>?_⟩,aC⟩;cases e with
    | returned x =>
      have nr:=xi ah (fun id aE=>by simp at aE) aQ he;show a1 B U J S w [] u.settle x w';cases u with
      | ay cells len gv =>
        cases gv with
        | uniq z=>exact nr.settle
        | _=>exact nr
      | _=>exact nr
    | panicked c=>exact he.elim
    | outgrown=>exact he.elim
   ·cases h
  ·cases h
 ·cases h
end Go.Proofs.YtfakoboiahbhaaaGreat.Ab


namespace Go.Proofs.YtfakoboiahbhaaaGreat.Ab
open Go
noncomputable def ahS:ez :=
 .j0 false [Gp 5 0,Gn 6 2,Gp 7 2,gM 8 [.hJ 7] (.conv .u64),gM 9 [.iA (.func 97 [] []),.sl 8] (.call 3),gM 10 [.iA (.func 96 [] []),.hG 5,.iA (.int .i64 0),.hG 6,.hG 9] (.call 1)]
noncomputable def Yn:ez :=
 Gz [Gn 3 0,Gk 4 3,Gp 2 4] ahS
theorem afJ:zf Go.Proofs.Tryz.prog V4 73=some (Yn,11,[]):=by kernel_rfl
noncomputable def Uw:ez :=
 Gz [Gp 24 0,Gp 25 1,Gp 26 2,gM 27 [.iA (.func 115 [] []),.hG 24,.hG 25,.hG 26] (.call 1)] .ret
noncomputable def ah1:ez :=
 Gz [Gp 30 0,Gp 31 1,Gp 32 2,gM 33 [.iA (.func 116 [] []),.hG 30,.hG 31,.hG 32] (.call 1)] .ret
noncomputable def ah2:ez :=
 Gz [Gn 36 0,Gn 37 1,Gn 38 2,gM 39 [.iA (.func 117 [] []),.hG 36,.hG 37,.hG 38] (.call 1)] (Gs [Gp 40 3,F0 41 40 1 .sub,Gp 3 41])
noncomputable def ah3:ez :=
 Gz [Gn 55 2,F0 56 55 1 .sub,Gp 57 11,Gn 58 1,F1 59 57 58 .sub,F1 60 56 59 .sub,Gp 11 60] (Gs [Gm 12 1])
noncomputable def ah4:ez :=
 Gz [Gn 51 0,Gn 52 1,Gn 53 2,gM 54 [.iA (.func 119 [] []),.hG 51,.hG 52,.hG 53] (.call 1)] ah3
noncomputable def ah5:ez :=
 Gz [Gn 69 0,Gn 70 1,Gn 71 2,gM 72 [.iA (.func 120 [] []),.hG 69,.hG 70,.hG 71] (.call 1)] (.cond (.sl 72) .ret .skip)
noncomputable def ah6:ez :=
 Gz [Gn 88 0,Gp 89 1,Gn 90 2,Gp 91 11,gM 92 [.iA (.func 122 [] []),.hG 88,.hG 89,.hG 90,.hG 91] (.call 1),Gp 13 92] (Gz [Gp 93 13,Gp 1 93] (.exit 1))
noncomputable def ah7:ez :=
 Gz [Gn 117 0,Gp 118 1,Gn 119 14,Gn 120 3,gM 121 [.iA (.func 96 [] []),.hG 117,.hG 118,.hG 119,.hG 120] (.call 1)] (Gs [Gp 122 14,FZ 123 122 1,Gp 1 123])
noncomputable def ah8:ez :=
 Gz [Gp 114 16,Gp 115 18,F1 116 114 115 .geq,Gp 8 116] ah7
noncomputable def ahT:ez :=
 Gz [Gn 127 0,Gn 128 14,FZ 129 128 1,Gp 130 2,Gn 131 3,gM 132 [.iA (.func 96 [] []),.hG 127,.hG 129,.hG 130,.hG 131] (.call 1)] (Gs [Gp 133 14,Gp 2 133])
noncomputable def ahU:ez :=
 Gz [Gp 124 17,Gp 125 18,F1 126 124 125 .geq,Gp 8 126] ahT
noncomputable def ahV:ez :=
 Gz [Gp 109 10,F0 110 109 8 .quo,Gp 18 110] (Gz [Gn 111 16,Gn 112 17,F1 113 111 112 .lss] (.cond (.sl 113) ah8 ahU))
noncomputable def ahW:ez :=
 Gz [Gn 103 14,Gn 104 1,F1 105 103 104 .sub,Gn 106 2,Gn 107 14,F1 108 106 107 .sub,Gp 16 105,Gp 17 108] ahV
noncomputable def ahX:ez :=
 Gz [Gn 95 0,Gn 96 1,Gn 97 2,Gp 98 11,gM 99 [.iA (.func 123 [] []),.hG 95,.hG 96,.hG 97,.hG 98] (.call 1),Gp 94 99,GJ 100 94 0,gM 101 [.hJ 94] (.ext 1),Gp 14 100,Gp 15 101] (Gz [Gp 102 15,Gp 9 102] ahW)
noncomputable def ahY:ez :=
 .seq (.seq (Gt [Gn 73 1,F0 74 73 0 .gtr,Gp 75 74,cP 76 [.sl 0] 75 true .iQ,cP 77 [.sl 1] 75 true .iQ,cP 78 [.hJ 77,.iA (.int .i64 1)] 75 true (.bin .sub),cP 79 [.hJ 76,.hJ 78] 75 true (.pM 1),cP 80 [.hJ 79] 75 true (.pT .one),cP 81 [.sl 0] 75 true .iQ,cP 82 [.sl 11] 75 true .iQ,cP 83 [.hJ 81,.hJ 82] 75 true (.pM 1),cP 84 [.hJ 83] 75 true (.pT .one),⟨some 85,[.iA (.func 121 [] []),.sl 80,.sl 84],some (75,true),none,.call 3⟩,cP 86 [.hJ 85] 75 true (.un .not),gM 87 [.sl 75,.hJ 86,.iA (.bool false)] .pick]) (.cond (.sl 87) ah6 .skip)) ahX
noncomputable def ahZ:ez :=
 .seq (Gz [Gn 61 8,Gp 62 61,cP 63 [.sl 9] 62 true .iQ,gM 64 [.hJ 62,.hJ 63,.iA (.bool false)] .pick,Gp 65 64,cP 66 [.hG 12] 65 true .iQ,cP 67 [.hJ 66,.iA (.int .i64 1)] 65 true (.bin .eql),gM 68 [.hJ 65,.hJ 67,.iA (.bool false)] .pick] (.cond (.sl 68) ah5 .skip)) ahY
noncomputable def ah0:ez :=
 Gz [Gn 43 0,Gn 44 1,Gn 45 2,gM 46 [.iA (.func 118 [] []),.hG 43,.hG 44,.hG 45] (.call 1),Gp 42 46,GJ 47 42 0,gM 48 [.hJ 42] (.ext 1),Gp 11 47,Gp 12 48] (.seq (Gz [Gn 49 12,F0 50 49 2 .eql] (.cond (.sl 50) ah4 .skip)) ahZ)
noncomputable def Yu:ez :=
 .seq (Gz [Gn 28 3,F0 29 28 0 .eql] (.cond (.sl 29) ah1 .skip)) (.seq (Gz [Gn 34 8,gM 35 [.hJ 34] (.un .not)] (.cond (.sl 35) ah2 .skip)) ah0)
noncomputable def Ux:ez :=
 .block 1 (Gz [Gn 19 2,Gn 20 1,F1 21 19 20 .sub,Gp 10 21] (.seq (Gz [Gn 22 10,F0 23 22 12 .leq] (.cond (.sl 23) Uw .skip)) Yu))
noncomputable def Yt:ez :=
 Gz [gM 8 [.iA (.bool true)] .iQ] (Gz [gM 9 [.iA (.bool true)] .iQ] (.block 0 (.loop (some (Ez false [0,4,4,2,124])) Ux)))
theorem afN:zf Go.Proofs.Tryz.prog V9 96=some (Yt,134,[]):=by kernel_rfl
noncomputable def ahp:ez :=
 .block 3 (Gt [Gn 33 0,Gn 34 7,Gn 35 0,Gn 36 7,F0 37 36 1 .sub,Gn 38 0,Gn 39 7,F0 40 39 1 .sub,Gh 41 38 40 1,Gl 42 41,Gn 43 0,Gn 44 7,Gh 45 43 44 1,Gl 46 45,Gh 47 33 34 1,⟨none,[.hG 47,.hG 42],none,none,.st 1⟩,Gh 48 35 37 1,⟨none,[.hG 48,.hG 46],none,none,.st 1⟩])
noncomputable def ahq:ez :=
 .seq (.seq (Gt [Gn 16 7,Gn 17 1,F1 18 16 17 .gtr,Gp 19 18,cP 20 [.sl 0] 19 true .iQ,cP 21 [.sl 7] 19 true .iQ,cP 22 [.hJ 20,.hJ 21] 19 true (.pM 1),cP 23 [.hJ 22] 19 true (.pT .one),cP 24 [.sl 0] 19 true .iQ,cP 25 [.sl 7] 19 true .iQ,cP 26 [.hJ 25,.iA (.int .i64 1)] 19 true (.bin .sub),cP 27 [.hJ 24,.hJ 26] 19 true (.pM 1),cP 28 [.hJ 27] 19 true (.pT .one),⟨some 29,[.iA (.func 121 [] []),.sl 23,.sl 28],some (19,true),none,.call 3⟩,gM 30 [.sl 19,.hJ 29,.iA (.bool false)] .pick]) (.cond (.sl 30) .skip (.exit 2))) (.seq ahp (Gs [Gp 31 7,F0 32 31 1 .sub,Gp 7 32]))
noncomputable def ahr:ez :=
 .block 1 (Gz [Gn 15 6,Gp 7 15] (.block 2 (.loop (some (Ez false [0,3,3,2,41])) ahq)))
noncomputable def ahs:ez :=
 .seq (Gz [Gn 10 6,Gn 11 2,F1 12 10 11 .lss] (.cond (.sl 12) .skip (.exit 0))) (.seq ahr (Gs [Gp 13 6,FZ 14 13 1,Gp 6 14]))
noncomputable def Yj:ez :=
 Gz [Gn 8 1,FZ 9 8 1,Gp 6 9] (.block 0 (.loop (some (Ez false [0,3,3,1,42])) ahs))
theorem afF:zf Go.Proofs.Tryz.prog VF 115=some (Yj,49,[]):=by kernel_rfl
noncomputable def aht:ez :=
 Gz [Gn 5 0,gM 6 [.iA (.func 137 [] []),.sl 5] (.call 3),Gp 7 6,cP 8 [.sl 1] 7 true .iQ,⟨some 9,[.iA (.func 137 [] []),.sl 8],some (7,true),none,.call 3⟩,cP 10 [.hJ 9] 7 true (.un .not),gM 11 [.hJ 7,.hJ 10,.iA (.bool false)] .pick,Gp 12 11,cP 13 [.hG 0] 12 false .iQ,cP 14 [.hG 1] 12 false .iQ,cP 15 [.hJ 13,.hJ 14] 12 false (.bin .lss),gM 16 [.hJ 12,.iA (.bool true),.hJ 15] .pick,Gp 4 16] .ret
noncomputable def Yk:ez :=
 Gz [gM 4 [.iA (.bool false)] .iQ] aht
theorem afG:zf Go.Proofs.Tryz.prog VG 121=some (Yk,17,[.tmp 4]):=by kernel_rfl
noncomputable def ahN:ez :=
 Gz [Gn 3 0,Gp 4 0,F1 5 3 4 .neq,Gp 2 5] .ret
noncomputable def Ym:ez :=
 Gz [gM 2 [.iA (.bool false)] .iQ] ahN
theorem afI:zf Go.Proofs.Tryz.prog VM 137=some (Ym,6,[.tmp 2]):=by kernel_rfl
end Go.Proofs.YtfakoboiahbhaaaGreat.Ab


namespace Go.Proofs.YtfakoboiahbhaaaGreat.Ab
open Go
set_option maxRecDepth 20000
set_option maxHeartbeats 4000000
theorem afv (x:Int):ql 137 [hP x] (B false):=by
 refine F7 dI afI rfl rfl ?_;unfold Ym;conv=>whnf
 exact Gv (.inr rfl) rfl (by rw [decide_eq_false (show ¬ (x≠x) from fun h=>h rfl)];rfl)
theorem afC (x y:Int):ql 121 [hP x,hP y] (B (decide (x<y))):=by
 refine F7 dI afG rfl rfl ?_;unfold Yk;conv=>whnf
 refine ⟨by first | rfl | simp only [tt,ua,OL,OU,OM,OO,ON,OP,OW,OV,Lv,OQ,OS,OT,tU,uO],_,afv x,?_⟩
 conv=>whnf
 exact Gv (.inr rfl) rfl rfl
def J4 (d:Array Int):au:=.cells (d.toList.map hP)
def IM (id n:Nat):I:=.ref id 0 n none 1
theorem adm (d:Array Int) (x:Nat) (h:x<d.size):(d.toList.map hP)[x]?=some (hP d[x]!):=by
 simp [h]
theorem adn (d:Array Int) (x:Nat) (v:Int):(d.toList.map hP).set x (hP v)=(d.setIfInBounds x v).toList.map hP:=by
 simp [uM]
theorem swp_size (d:Array Int) (i j:Nat):(Sort.swp d i j).size=d.size:=by simp [Sort.swp]
theorem QJ {d:Array Int} {n:Nat} (x:Nat) (e:n=x) (h:x<d.size) {K:I→Prop} (k:K (hP d[x]!)):eP (d.toList.map hP) n K:=by
 subst e;exact DW (adm d n h) k
theorem ZV {d:Array Int} {n:Nat} {v:Int} (x:Nat) (e:n=x) (h:x<d.size) {K:List I→Prop} (k:K ((d.setIfInBounds x v).toList.map hP)):jc (d.toList.map hP) n (hP v) K:=by
 subst e;refine A_ (by simpa using h) ?_;rw [adn];exact k
section
variable {H:List au} {id lo:Nat} (bD:lo≤id)
include bD
theorem afu (d:Array Int) (a b:Nat) (aZ:d.size≤1000) (cd:a≤b) (ag:b≤d.size) (ah:H[id]?=some (J4 d)) :
  Sem Go.Proofs.Tryz.prog (.fn 115) [IM id d.size,hP a,hP b] H lo (.tuple []) (H.set id (J4 (Sort.insertionSort Sort.ltInt d a b))):=by
 have aE:=(sa.1 ah).1;refine Sh dI afF rfl ⟨by simp,fun j ad af=>by rw [sg (by omega)]⟩ ?_;unfold Yj;conv=>whnf
 have Cc:Nat.ble lo id=true:=t_ bD;have gs:∀ c:au,(H.set id c)[id]?=some c:=fun c=>by rw [si aE]
 have Ji:∀ c e:au,((H.set id c).set id e)[id]?=some e:=fun c e=>by rw [sR,gs]
 rw [rD a (by omega)];refine .intro (fun m T H'=>∃ i gQ,a+1≤i∧(i≤b∨i=a+1)∧m=b+1-i∧gQ.size=d.size∧Sort.insOuter Sort.ltInt a b i gQ=Sort.insertionSort Sort.ltInt d a b∧T=GG 49 [(0,IM id d.size),(1,hP a),(2,hP b),(6,hP i)]∧H'=H.set id (J4 gQ)) (b-a) ⟨a+1,d,by omega,.inr rfl,by omega,rfl,rfl,rfl,?_⟩ ?_
 ·obtain ⟨ad,af⟩:=sa.1 ah;rw [←af,uS]
 rintro m T H' ⟨i,gQ,aeH,aeI,rfl,Cm,he,rfl,rfl⟩;conv=>whnf
 refine IG (fun h=>?_) (fun h=>?_)
 ·conv=>whnf
  refine .intro (fun j T H'=>∃ ri:Array Int,j≤i∧ri.size=d.size∧Sort.insInner Sort.ltInt a j ri=Sort.insInner Sort.ltInt a i gQ∧T=GG 49 [(0,IM id d.size),(1,hP a),(2,hP b),(6,hP i),(7,hP j)]∧H'=H.set id (J4 ri)) i ⟨gQ,sd _,Cm,rfl,rfl,rfl⟩ ?_;rintro j T H' ⟨ri,aw,L7,L8,rfl,rfl⟩;conv=>whnf
  by_cases aG:(a:Int)<(j:Int)
  ·rw [decide_eq_true aG];obtain ⟨q,rfl⟩:∃ q,j=q+1:=⟨j-1,by omega⟩;(have hw:IntKind.i64.wrap (((q+1:Nat):Int)-1)=(q:Int):=by rw [JI _ (by omega) (by omega)];omega);(conv=>whnf);refine ⟨by omega,?_⟩;(conv=>whnf);refine DW (by first | exact gs _ | exact Ji _ _ | assumption) ?_
   (conv=>whnf);refine QJ (q+1) (by omega) (by omega) ?_;(conv=>whnf);rw [hw];refine ⟨by omega,?_⟩;(conv=>whnf);refine DW (by first | exact gs _ | exact Ji _ _ | assumption) ?_
   (conv=>whnf);refine QJ (q) (by omega) (by omega) ?_;(conv=>whnf);refine ⟨by first | rfl | simp only [tt,ua,OL,OU,OM,OO,ON,OP,OW,OV,Lv,OQ,OS,OT,tU,uO],_,afC ri[q+1]! ri[q]!,Kz,?_⟩
   (conv=>whnf);by_cases a6:ri[q+1]!<ri[q]!
   ·rw [decide_eq_true a6];(conv=>whnf);rw [hw];refine ⟨by omega,?_⟩;(conv=>whnf);refine DW (by first | exact gs _ | exact Ji _ _ | assumption) ?_
    (conv=>whnf);refine QJ (q) (by omega) (by omega) ?_;(conv=>whnf);refine ⟨by omega,?_⟩;(conv=>whnf);refine DW (by first | exact gs _ | exact Ji _ _ | assumption) ?_
    (conv=>whnf);refine QJ (q+1) (by omega) (by omega) ?_;(conv=>whnf);refine ⟨by omega,?_⟩;(conv=>whnf);rw [Cc];(conv=>whnf);refine DW (by first | exact gs _ | exact Ji _ _ | assumption) ?_
    (conv=>whnf);refine ZV (q+1) (by omega) (by first | omega | (simp only [ur];omega)) ?_
    (conv=>whnf);refine ⟨by omega,?_⟩;(conv=>whnf);rw [Cc];(conv=>whnf);refine DW (by first | exact gs _ | exact Ji _ _ | assumption) ?_
    (conv=>whnf);refine ZV (q) (by omega) (by first | omega | (simp only [ur];omega)) ?_
    (conv=>whnf);refine ⟨q,by omega,Sort.swp ri (q+1) q,by omega,by rw [swp_size];exact L7,?_,?_,?_⟩
    ·rw [←L8,Sort.insInner,if_pos (by simp only [Sort.ltInt,sy,decide_eq_true_eq];exact ⟨by omega,a6⟩)]
    ·rw [hw];rfl
    ·simp only [sR];rfl
   ·rw [decide_eq_false a6];(conv=>whnf);have e:Sort.insInner Sort.ltInt a i gQ=ri:=by
     rw [←L8,Sort.insInner,if_neg (by simp only [Sort.ltInt,sy,decide_eq_true_eq];exact fun bI=>a6 bI.2)]
    exact ⟨b+1-(i+1),by omega,i+1,ri,by omega,by omega,rfl,L7,by rw [←he,Sort.insOuter.eq_1 _ a b i,if_pos (by omega),e],by rw [←rD i (by omega)];rfl,rfl⟩
  ·rw [decide_eq_false aG];(conv=>whnf);have e:Sort.insInner Sort.ltInt a i gQ=ri:=by
    rw [←L8];cases j with
    | zero=>rfl
    | succ q=>rw [Sort.insInner,if_neg (by simp only [sy,decide_eq_true_eq];exact fun bI=>by omega)]
   exact ⟨b+1-(i+1),by omega,i+1,ri,by omega,by omega,rfl,L7,by rw [←he,Sort.insOuter.eq_1 _ a b i,if_pos (by omega),e],by rw [←rD i (by omega)];rfl,rfl⟩
 ·conv=>whnf
  have e:Sort.insertionSort Sort.ltInt d a b=gQ:=by
   rw [←he];unfold Sort.insOuter;rw [if_neg (by omega)]
  rw [e];exact ⟨.inl rfl,⟨by simp,fun j o aw=>.inr aw⟩,rfl⟩
theorem aiF {l:List au} {i:Nat} {x:au} (h:l[i]?=some x):l.set i x=l:=by
 obtain ⟨ad,af⟩:=sa.1 h;rw [←af,uS]
theorem ahc (d:Array Int) (Ln:Int) (aZ:d.size≤12) (ah:H[id]?=some (J4 d)) :
  Sem Go.Proofs.Tryz.prog (.fn 96) [IM id d.size,hP 0,hP d.size,hP Ln] H lo (.tuple []) (H.set id (J4 (Sort.insertionSort Sort.ltInt d 0 d.size))):=by
 refine Ig dI afN rfl ⟨by simp,fun j ad af=>by rw [sg (by omega)]⟩ fun Q bl=>?_;unfold Yt;obtain ⟨Wi,Lf⟩:∃ c,Ux=c:=⟨_,rfl⟩;rw [Lf];conv=>whnf
 refine .intro (fun m T H'=>T=GG 134 [(0,IM id d.size),(1,hP 0),(2,hP d.size),(3,hP Ln),(8,B true),(9,B true)]∧H'=H) 0 ⟨rfl,rfl⟩ ?_;rintro m T H' ⟨rfl,rfl⟩;subst Lf;unfold Ux;obtain ⟨a',cb⟩:∃ c,Uw=c:=⟨_,rfl⟩;obtain ⟨Wh,N6⟩:∃ c,Yu=c:=⟨_,rfl⟩;rw [cb,N6];conv=>whnf
 rw [show IntKind.i64.wrap ((d.size:Int)-0)=(d.size:Int) by rw [JI _ (by omega) (by omega)];omega,decide_eq_true (show (d.size:Int)≤12 by omega)];conv=>whnf
 subst cb;unfold Uw;conv=>whnf
 refine ⟨_,_,Is (afu bD d 0 d.size (by omega) (sr _) (sd _) ah),?_⟩;conv=>whnf
 exact bl _ _ _ ⟨.inr rfl,⟨rfl,fun j o aw=>.inr aw⟩,rfl⟩
end
theorem ZX (n:Int):IntKind.u64.wrap n=n % 18446744073709551616:=by simp [IntKind.wrap,IntKind.bits,IntKind.signed]
theorem afB:((List.range 13).all fun n=>match QM [] 97 [.int .u64 (n:Nat)] with | some v=>IQ 3 v (hP (Sort.bitsLen n)) | none=>false)=true:=by kernel_rfl
theorem R_ (n:Nat) (h:n≤12):ql 97 [.int .u64 n] (hP (Sort.bitsLen n)):=by
 have:=sC.1 afB n (sJ.2 (by omega));split at this
 ·rename_i v ae;rw [MQ _ _ _ this] at ae;exact GO (l:=[]) (by simp) ae
 ·cases this
theorem aiI {H:List au} {id lo:Nat} (bD:lo≤id) (d:Array Int) (aZ:d.size≤12) (ah:H[id]?=some (J4 d)) :
  Sem Go.Proofs.Tryz.prog (.fn 73) [IM id d.size] H lo (.tuple []) (H.set id (J4 (Sort.insertionSort Sort.ltInt d 0 d.size))):=by
 refine Ig dI afJ rfl ⟨by simp,fun j ad af=>by rw [sg (by omega)]⟩ fun Q bl=>?_;unfold Yn;conv=>whnf
 rw [show IntKind.u64.wrap (d.size:Int)=(d.size:Int) by rw [ZX];omega];refine ⟨by first | rfl | simp only [tt,ua,OL,OU,OM,OO,ON,OP,OW,OV,Lv,OQ,OS,OT,tU,uO],_,R_ d.size aZ,?_⟩
 conv=>whnf
 refine ⟨_,_,Is (ahc bD d (Sort.bitsLen d.size) aZ ah),?_⟩;conv=>whnf
 exact bl _ _ _ ⟨.inl rfl,⟨rfl,fun j o aw=>.inr aw⟩,rfl⟩
end Go.Proofs.YtfakoboiahbhaaaGreat.Ab


namespace Go.Proofs.YtfakoboiahbhaaaGreat.Ab
open Go
noncomputable def aho:ez :=
 .j0 false [Gp 7 0,Gn 8 4,Gp 9 4,gM 10 [.hJ 9] (.conv .u64),gM 11 [.iA (.func 97 [] []),.sl 10] (.call 3),Gp 12 1,gM 13 [.iA (.func 127 [] []),.hG 7,.iA (.int .i64 0),.hG 8,.hG 11,.hG 12] (.call 1)]
noncomputable def TI:ez :=
 Gz [Gn 5 0,Gk 6 5,Gp 4 6] aho
theorem XH:zf Go.Proofs.Tryz.prog Vw 102=some (TI,14,[]):=by kernel_rfl
noncomputable def O6:ez :=
 Gz [Gp 26 0,Gp 27 1,Gp 28 2,Gp 29 4,gM 30 [.iA (.func 138 [] []),.hG 26,.hG 27,.hG 28,.hG 29] (.call 1)] .ret
noncomputable def ahF:ez :=
 Gz [Gp 33 0,Gp 34 1,Gp 35 2,Gp 36 4,gM 37 [.iA (.func 139 [] []),.hG 33,.hG 34,.hG 35,.hG 36] (.call 1)] .ret
noncomputable def ahG:ez :=
 Gz [Gn 40 0,Gn 41 1,Gn 42 2,Gn 43 4,gM 44 [.iA (.func 140 [] []),.hG 40,.hG 41,.hG 42,.hG 43] (.call 1)] (Gs [Gp 45 3,F0 46 45 1 .sub,Gp 3 46])
noncomputable def ahH:ez :=
 Gz [Gn 62 2,F0 63 62 1 .sub,Gp 64 13,Gn 65 1,F1 66 64 65 .sub,F1 67 63 66 .sub,Gp 13 67] (Gs [Gm 14 1])
noncomputable def ahI:ez :=
 Gz [Gn 57 0,Gn 58 1,Gn 59 2,Gn 60 4,gM 61 [.iA (.func 142 [] []),.hG 57,.hG 58,.hG 59,.hG 60] (.call 1)] ahH
noncomputable def ahJ:ez :=
 Gz [Gn 76 0,Gn 77 1,Gn 78 2,Gn 79 4,gM 80 [.iA (.func 143 [] []),.hG 76,.hG 77,.hG 78,.hG 79] (.call 1)] (.cond (.sl 80) .ret .skip)
noncomputable def ahK:ez :=
 Gz [Gn 98 0,Gp 99 1,Gn 100 2,Gp 101 13,Gn 102 4,gM 103 [.iA (.func 144 [] []),.hG 98,.hG 99,.hG 100,.hG 101,.hG 102] (.call 1),Gp 15 103] (Gz [Gp 104 15,Gp 1 104] (.exit 1))
noncomputable def ahL:ez :=
 Gz [Gn 129 0,Gp 130 1,Gn 131 16,Gn 132 3,Gn 133 4,gM 134 [.iA (.func 127 [] []),.hG 129,.hG 130,.hG 131,.hG 132,.hG 133] (.call 1)] (Gs [Gp 135 16,FZ 136 135 1,Gp 1 136])
noncomputable def ahM:ez :=
 Gz [Gp 126 18,Gp 127 20,F1 128 126 127 .geq,Gp 10 128] ahL
noncomputable def ahx:ez :=
 Gz [Gn 140 0,Gn 141 16,FZ 142 141 1,Gp 143 2,Gn 144 3,Gn 145 4,gM 146 [.iA (.func 127 [] []),.hG 140,.hG 142,.hG 143,.hG 144,.hG 145] (.call 1)] (Gs [Gp 147 16,Gp 2 147])
noncomputable def ahy:ez :=
 Gz [Gp 137 19,Gp 138 20,F1 139 137 138 .geq,Gp 10 139] ahx
noncomputable def ahz:ez :=
 Gz [Gp 121 12,F0 122 121 8 .quo,Gp 20 122] (Gz [Gn 123 18,Gn 124 19,F1 125 123 124 .lss] (.cond (.sl 125) ahM ahy))
noncomputable def ahA:ez :=
 Gz [Gn 115 16,Gn 116 1,F1 117 115 116 .sub,Gn 118 2,Gn 119 16,F1 120 118 119 .sub,Gp 18 117,Gp 19 120] ahz
noncomputable def ahB:ez :=
 Gz [Gn 106 0,Gn 107 1,Gn 108 2,Gp 109 13,Gn 110 4,gM 111 [.iA (.func 145 [] []),.hG 106,.hG 107,.hG 108,.hG 109,.hG 110] (.call 1),Gp 105 111,GJ 112 105 0,gM 113 [.hJ 105] (.ext 1),Gp 16 112,Gp 17 113] (Gz [Gp 114 17,Gp 11 114] ahA)
noncomputable def ahC:ez :=
 .seq (.seq (Gt [Gn 81 1,F0 82 81 0 .gtr,Gp 83 82,cP 84 [.sl 4] 83 true .iQ,cP 85 [.sl 0] 83 true .iQ,cP 86 [.sl 1] 83 true .iQ,cP 87 [.hJ 86,.iA (.int .i64 1)] 83 true (.bin .sub),cP 88 [.hJ 85,.hJ 87] 83 true (.pM 1),cP 89 [.hJ 88] 83 true (.pT .one),cP 90 [.sl 0] 83 true .iQ,cP 91 [.sl 13] 83 true .iQ,cP 92 [.hJ 90,.hJ 91] 83 true (.pM 1),cP 93 [.hJ 92] 83 true (.pT .one),cP 94 [.sl 84,.sl 89,.sl 93] 83 true (.call 6),cP 95 [.hJ 94,.iA (.int .i64 0)] 83 true (.bin .lss),cP 96 [.hJ 95] 83 true (.un .not),gM 97 [.sl 83,.hJ 96,.iA (.bool false)] .pick]) (.cond (.sl 97) ahK .skip)) ahB
noncomputable def ahD:ez :=
 .seq (Gz [Gn 68 10,Gp 69 68,cP 70 [.sl 11] 69 true .iQ,gM 71 [.hJ 69,.hJ 70,.iA (.bool false)] .pick,Gp 72 71,cP 73 [.hG 14] 72 true .iQ,cP 74 [.hJ 73,.iA (.int .i64 1)] 72 true (.bin .eql),gM 75 [.hJ 72,.hJ 74,.iA (.bool false)] .pick] (.cond (.sl 75) ahJ .skip)) ahC
noncomputable def ahE:ez :=
 Gz [Gn 48 0,Gn 49 1,Gn 50 2,Gn 51 4,gM 52 [.iA (.func 141 [] []),.hG 48,.hG 49,.hG 50,.hG 51] (.call 1),Gp 47 52,GJ 53 47 0,gM 54 [.hJ 47] (.ext 1),Gp 13 53,Gp 14 54] (.seq (Gz [Gn 55 14,F0 56 55 2 .eql] (.cond (.sl 56) ahI .skip)) ahD)
noncomputable def T9:ez :=
 .seq (Gz [Gn 31 3,F0 32 31 0 .eql] (.cond (.sl 32) ahF .skip)) (.seq (Gz [Gn 38 10,gM 39 [.hJ 38] (.un .not)] (.cond (.sl 39) ahG .skip)) ahE)
noncomputable def O7:ez :=
 .block 1 (Gz [Gn 21 2,Gn 22 1,F1 23 21 22 .sub,Gp 12 23] (.seq (Gz [Gn 24 12,F0 25 24 12 .leq] (.cond (.sl 25) O6 .skip)) T9))
noncomputable def T8:ez :=
 Gz [gM 10 [.iA (.bool true)] .iQ] (Gz [gM 11 [.iA (.bool true)] .iQ] (.block 0 (.loop (some (Ez false [0,5,5,2,136])) O7)))
theorem XM:zf Go.Proofs.Tryz.prog VI 127=some (T8,148,[]):=by kernel_rfl
noncomputable def ahO:ez :=
 .block 3 (Gt [Gn 37 0,Gn 38 9,Gn 39 0,Gn 40 9,F0 41 40 1 .sub,Gn 42 0,Gn 43 9,F0 44 43 1 .sub,Gh 45 42 44 1,Gl 46 45,Gn 47 0,Gn 48 9,Gh 49 47 48 1,Gl 50 49,Gh 51 37 38 1,⟨none,[.hG 51,.hG 46],none,none,.st 1⟩,Gh 52 39 41 1,⟨none,[.hG 52,.hG 50],none,none,.st 1⟩])
noncomputable def ahP:ez :=
 .seq (.seq (Gt [Gn 18 9,Gn 19 1,F1 20 18 19 .gtr,Gp 21 20,cP 22 [.sl 3] 21 true .iQ,cP 23 [.sl 0] 21 true .iQ,cP 24 [.sl 9] 21 true .iQ,cP 25 [.hJ 23,.hJ 24] 21 true (.pM 1),cP 26 [.hJ 25] 21 true (.pT .one),cP 27 [.sl 0] 21 true .iQ,cP 28 [.sl 9] 21 true .iQ,cP 29 [.hJ 28,.iA (.int .i64 1)] 21 true (.bin .sub),cP 30 [.hJ 27,.hJ 29] 21 true (.pM 1),cP 31 [.hJ 30] 21 true (.pT .one),cP 32 [.sl 22,.sl 26,.sl 31] 21 true (.call 6),cP 33 [.hJ 32,.iA (.int .i64 0)] 21 true (.bin .lss),gM 34 [.sl 21,.hJ 33,.iA (.bool false)] .pick]) (.cond (.sl 34) .skip (.exit 2))) (.seq ahO (Gs [Gp 35 9,F0 36 35 1 .sub,Gp 9 36]))
noncomputable def ahQ:ez :=
 .block 1 (Gz [Gn 17 8,Gp 9 17] (.block 2 (.loop (some (Ez false [0,4,4,2,43])) ahP)))
noncomputable def ahR:ez :=
 .seq (Gz [Gn 12 8,Gn 13 2,F1 14 12 13 .lss] (.cond (.sl 14) .skip (.exit 0))) (.seq ahQ (Gs [Gp 15 8,FZ 16 15 1,Gp 8 16]))
noncomputable def Ub:ez :=
 Gz [Gn 10 1,FZ 11 10 1,Gp 8 11] (.block 0 (.loop (some (Ez false [0,4,4,1,44])) ahR))
theorem XN:zf Go.Proofs.Tryz.prog VN 138=some (Ub,53,[]):=by kernel_rfl
noncomputable def ahu:ez :=
 Gz [Gn 11 1,Gn 12 0,Gn 13 5,Gh 14 12 13 1,Gl 15 14,gM 16 [.sl 11,.sl 15] (.call 6)] (.cond (.sl 16) (Gz [Gp 17 5,Gp 4 17] .ret) .skip)
noncomputable def ahv:ez :=
 .block 1 (Gz [Gn 10 8,Gp 5 10] ahu)
noncomputable def ahw:ez :=
 .seq (Gz [Gn 6 0,Gk 7 6,Gm 8 0] (.block 0 (.loop (some (Ez false [0,2,5,2,10])) (Gz [gM 9 [.sl 8,.sl 7] (.bin .lss)] (.seq (.cond (.sl 9) .skip (.exit 0)) (.seq ahv (Gs [FZ 18 8 1,Gp 8 18]))))))) (Gz [Gm 4 (-1)] .ret)
noncomputable def T7:ez :=
 Gz [Gm 4 0] ahw
theorem XL:zf Go.Proofs.Tryz.prog VH 126=some (T7,19,[.tmp 4]):=by kernel_rfl
noncomputable def O0:ez :=
 Gz [Gn 30 0,Gn 31 5,Gp 32 7,Gh 33 30 31 1,⟨none,[.hG 33,.hG 32],none,none,.st 1⟩] (Gs [Gp 34 5,FZ 35 34 1,Gp 5 35])
noncomputable def O1:ez :=
 Gz [Gn 26 1,Gn 27 7,gM 28 [.sl 26,.sl 27] (.call 6),gM 29 [.hJ 28] (.un .not)] (.cond (.sl 29) O0 .skip)
noncomputable def TZ:ez :=
 .block 1 (Gz [Gn 22 0,Gn 23 6,Gh 24 22 23 1,Gl 25 24,Gp 7 25] O1)
noncomputable def O2:ez :=
 .seq (Gz [Gn 16 6,Gn 17 0,Gk 18 17,F1 19 16 18 .lss] (.cond (.sl 19) .skip (.exit 0))) (.seq TZ (Gs [Gp 20 6,FZ 21 20 1,Gp 6 21]))
noncomputable def O3:ez :=
 Gz [Gp 39 0,Gp 40 5,gM 41 [.hG 39,.hG 40] (.AX 1 false true false),Gp 4 41] .ret
noncomputable def O4:ez :=
 Gz [Gn 36 0, Gn 37 5, gM 38 [.hG 36, .hG 37] (.AX 1 true false false), ⟨none, [.hG 38], none, none, .other (Oper.mk none (Op.call (Call.mk (Callee.builtin Builtin.clear) (Array.mk [Operand.tmp 38]) (Array.mk [38]))) 0 "slices.go:253" (Array.mk [Edge.mk 2 Ground.data]) none) 0⟩] O3
noncomputable def O5:ez :=
 .seq (Gz [Gn 11 5,F0 12 11 (-1) .eql] (.cond (.sl 12) (Gz [Gp 13 0,Gp 4 13] .ret) .skip)) (.seq (Gz [Gn 14 5,FZ 15 14 1,Gp 6 15] (.block 0 (.loop (some (Ez false [0,2,3,2,35])) O2))) O4)
noncomputable def T0:ez :=
 Gz [⟨some 8,[.hG 0],none,some 0,.A6⟩,Gn 9 1,gM 10 [.iA (.func 114 [] []),.sl 8,.sl 9] (.call 6),Gp 5 10] O5
noncomputable def TY:ez :=
 Gz [gM 4 [.iA (.ay [] 0 .full)] (.nil 1)] T0
theorem XK:zf Go.Proofs.Tryz.prog Vz 107=some (TY,42,[.tmp 4]):=by kernel_rfl
end Go.Proofs.YtfakoboiahbhaaaGreat.Ab


namespace Go.Proofs.YtfakoboiahbhaaaGreat.Ab
open Go
set_option maxRecDepth 20000
set_option maxHeartbeats 4000000
noncomputable def aaV:ez :=
 Gz [Gm 4 0] (.seq (Gt [Gp 5 0,gM 6 [.hJ 5,.iA (.int .i64 0)] (.pM 1),Gl 7 6,Gp 8 1,gM 9 [.hJ 8,.iA (.int .i64 0)] (.pM 1),Gl 10 9,F1 11 7 10 .sub,Gp 4 11]) .ret)
theorem afQ:zf Tryz.prog Vx 103=some (aaV,12,[.tmp 4]):=by kernel_rfl
def UQ (x y:p5):Option Int :=
 p8 (0≤(0:Int)∧(0:Int)<(x.length:Int)) <|
 p8 (0≤(0:Int)∧(0:Int)<(y.length:Int)) <|
 some (w ((ix x (0:Int))-(ix y (0:Int))))
theorem aj1 {x:p5} {y:p5} {v:Int} (h:UQ x y=some v):ql 103 [(.ay (x.map hP) x.length .shared),(.ay (y.map hP) y.length .shared)] (hP v):=by
 refine qM dI afQ rfl rfl fun Q bl=>?_;have jw:qu [.tmp 4] Q (fun v=>(hP v)) v:=fun T H bI=>bl _ T H bI;unfold UQ at h;unfold aaV;conv=>whnf
 refine qk h id fun eU h=>?_;rw [rT hP x (0:Int) eU];conv=>whnf
 refine qk h id fun fk h=>?_;rw [rT hP y (0:Int) fk];conv=>whnf
 exact p7 h jw rfl rfl

theorem aiU (d:Array (List Int)) (i j:Nat):(Sort.swp d i j).size=d.size:=by simp [Sort.swp]
theorem swp_get (d:Array (List Int)) (i j x:Nat) (hi:i<d.size) (aw:j<d.size):∃ y,y<d.size∧(x<d.size→(Sort.swp d i j)[x]! = d[y]!):=by
 by_cases al:x<d.size
 ·by_cases af:x=j
  ·exact ⟨i,hi,fun _=>by subst af;simp [Sort.swp,aw]⟩
  ·by_cases ad:x=i
   ·exact ⟨j,aw,fun _=>by subst ad;simp [Sort.swp,hi,Array.getElem_setIfInBounds,Ne.symm af]⟩
   ·exact ⟨x,al,fun _=>by simp [Sort.swp,al,Array.getElem_setIfInBounds,Ne.symm ad,Ne.symm af]⟩
 ·exact ⟨i,hi,fun h=>absurd h al⟩
def J5 (g:Nat) (d:Array (List Int)):au:=.grow (d.toList.map jh) g 1
theorem adr (d:Array (List Int)) (x:Nat) (h:x<d.size):(d.toList.map jh)[x]?=some (jh d[x]!):=by
 simp [h]
theorem ads (d:Array (List Int)) (x:Nat) (v:List Int):(d.toList.map jh).set x (jh v)=(d.setIfInBounds x v).toList.map jh:=by
 simp [uM]
theorem QK {d:Array (List Int)} {n:Nat} (x:Nat) (e:n=x) (h:x<d.size) {K:I→Prop} (k:K (jh d[x]!)):eP (d.toList.map jh) n K:=by
 subst e;exact DW (adr d n h) k
theorem ZW {d:Array (List Int)} {n:Nat} {v:List Int} (x:Nat) (e:n=x) (h:x<d.size) {K:List I→Prop} (k:K ((d.setIfInBounds x v).toList.map jh)):jc (d.toList.map jh) n (jh v) K:=by
 subst e;refine A_ (by simpa using h) ?_;rw [ads];exact k
def K9 (l:List Int):Prop:=l≠[]∧0≤ix l 0∧ix l 0≤1000
def Ik (x y:List Int):Bool:=decide (ix x 0<ix y 0)
theorem adx {x y:List Int} (al:K9 x) (a0:K9 y):∃ r:Int,ql 103 [jh x,jh y] (hP r)∧decide (r<0)=Ik x y:=by
 refine ⟨ix x 0-ix y 0,aj1 ?_,?_⟩
 ·have ad:=uc.2 al.1;have af:=uc.2 a0.1;rw [UQ,qc ⟨by omega,by omega⟩,qc ⟨by omega,by omega⟩,I8 (by have:=al.2;have:=a0.2;omega)]
 ·unfold Ik;congr 1;exact propext (by omega)
section
variable {H:List au} {id lo g:Nat} (bD:lo≤id)
include bD
theorem aft (d:Array (List Int)) (a b:Nat) (aZ:d.size≤1000) (cd:a≤b) (ag:b≤d.size) (ah:H[id]?=some (J5 g d)) (Oh:∀ x,x<d.size→K9 d[x]!) :
  Sem Go.Proofs.Tryz.prog (.fn 138) [IM id d.size,hP a,hP b,.func 103 [] []] H lo (.tuple []) (H.set id (J5 g (Sort.insertionSort Ik d a b))):=by
 have aE:=(sa.1 ah).1;refine Sh dI XN rfl ⟨by simp,fun j ad af=>by rw [sg (by omega)]⟩ ?_;unfold Ub;conv=>whnf
 have Cc:Nat.ble lo id=true:=t_ bD;have gs:∀ c:au,(H.set id c)[id]?=some c:=fun c=>by rw [si aE]
 have Ji:∀ c e:au,((H.set id c).set id e)[id]?=some e:=fun c e=>by rw [sR,gs]
 rw [rD a (by omega)];refine .intro (fun m T H'=>∃ i gQ,a+1≤i∧(i≤b∨i=a+1)∧m=b+1-i∧gQ.size=d.size∧(∀ x,x<d.size→K9 gQ[x]!)∧Sort.insOuter Ik a b i gQ=Sort.insertionSort Ik d a b∧T=GG 53 [(0,IM id d.size),(1,hP a),(2,hP b),(3,.func 103 [] []),(8,hP i)]∧H'=H.set id (J5 g gQ)) (b-a) ⟨a+1,d,by omega,.inr rfl,by omega,rfl,Oh,rfl,rfl,?_⟩ ?_
 ·obtain ⟨ad,af⟩:=sa.1 ah;rw [←af,uS]
 rintro m T H' ⟨i,gQ,aeH,aeI,rfl,Cm,B_,he,rfl,rfl⟩;conv=>whnf
 refine IG (fun h=>?_) (fun h=>?_)
 ·conv=>whnf
  refine .intro (fun j T H'=>∃ ri:Array (List Int),j≤i∧ri.size=d.size∧(∀ x,x<d.size→K9 ri[x]!)∧Sort.insInner Ik a j ri=Sort.insInner Ik a i gQ∧T=GG 53 [(0,IM id d.size),(1,hP a),(2,hP b),(3,.func 103 [] []),(8,hP i),(9,hP j)]∧H'=H.set id (J5 g ri)) i ⟨gQ,sd _,Cm,B_,rfl,rfl,rfl⟩ ?_;rintro j T H' ⟨ri,aw,L7,Og,L8,rfl,rfl⟩;conv=>whnf
  by_cases aG:(a:Int)<(j:Int)
  ·rw [decide_eq_true aG];obtain ⟨y,rfl⟩:∃ y,j=y+1:=⟨j-1,by omega⟩;(have hw:IntKind.i64.wrap (((y+1:Nat):Int)-1)=(y:Int):=by rw [JI _ (by omega) (by omega)];omega);obtain ⟨r,aj,C3⟩:=adx (Og (y+1) (by omega)) (Og y (by omega));(conv=>whnf);refine ⟨by omega,?_⟩;(conv=>whnf);refine DW (by first | exact gs _ | exact Ji _ _ | assumption) ?_
   (conv=>whnf);refine QK (y+1) (by omega) (by first | omega | (simp only [ur];omega)) ?_
   (conv=>whnf);rw [hw];refine ⟨by omega,?_⟩;(conv=>whnf);refine DW (by first | exact gs _ | exact Ji _ _ | assumption) ?_
   (conv=>whnf);refine QK (y) (by omega) (by first | omega | (simp only [ur];omega)) ?_
   (conv=>whnf);refine ⟨(pY (rp (fun _=>rfl) _ _ _) (pY (rp (fun _=>rfl) _ _ _) rfl)),[jh ri[y+1]!,jh ri[y]!],rfl,_,rfl,aj,Kz,?_⟩;(conv=>whnf);rw [C3];by_cases a6:Ik ri[y+1]! ri[y]! = true
   ·rw [a6];(conv=>whnf);rw [hw];refine ⟨by omega,?_⟩;(conv=>whnf);refine DW (by first | exact gs _ | exact Ji _ _ | assumption) ?_
    (conv=>whnf);refine QK (y) (by omega) (by first | omega | (simp only [ur];omega)) ?_
    (conv=>whnf);refine ⟨by omega,?_⟩;(conv=>whnf);refine DW (by first | exact gs _ | exact Ji _ _ | assumption) ?_
    (conv=>whnf);refine QK (y+1) (by omega) (by first | omega | (simp only [ur];omega)) ?_
    (conv=>whnf);refine ⟨by omega,?_⟩;(conv=>whnf);rw [Cc];(conv=>whnf);refine DW (by first | exact gs _ | exact Ji _ _ | assumption) ?_
    (conv=>whnf);refine ZW (y+1) (by omega) (by first | omega | (simp only [ur];omega)) ?_
    (conv=>whnf);refine ⟨by omega,?_⟩;(conv=>whnf);rw [Cc];(conv=>whnf);refine DW (by first | exact gs _ | exact Ji _ _ | assumption) ?_
    (conv=>whnf);refine ZW (y) (by omega) (by first | omega | (simp only [ur];omega)) ?_
    (conv=>whnf);refine ⟨y,by omega,Sort.swp ri (y+1) y,by omega,by rw [aiU];exact L7,?_,?_,?_,?_⟩
    ·intro x al;obtain ⟨z,bm,bL⟩:=swp_get ri (y+1) y x (by omega) (by omega);rw [bL (by omega)];exact Og z (by omega)
    ·rw [←L8,Sort.insInner,if_pos (by simp only [sy,decide_eq_true_eq];exact ⟨by omega,a6⟩)]
    ·rw [hw];rfl
    ·simp only [sR];rfl
   ·rw [Bool.not_eq_true] at a6;rw [a6];(conv=>whnf);have e:Sort.insInner Ik a i gQ=ri:=by
     rw [←L8,Sort.insInner,if_neg (by simp only [sy,decide_eq_true_eq];exact fun bI=>by rw [a6] at bI;exact absurd bI.2 (by decide))]
    exact ⟨b+1-(i+1),by omega,i+1,ri,by omega,by omega,rfl,L7,Og,by rw [←he,Sort.insOuter.eq_1 _ a b i,if_pos (by omega),e],by rw [←rD i (by omega)];rfl,rfl⟩
  ·rw [decide_eq_false aG];(conv=>whnf);have e:Sort.insInner Ik a i gQ=ri:=by
    rw [←L8];cases j with
    | zero=>rfl
    | succ y=>rw [Sort.insInner,if_neg (by simp only [sy,decide_eq_true_eq];exact fun bI=>by omega)]
   exact ⟨b+1-(i+1),by omega,i+1,ri,by omega,by omega,rfl,L7,Og,by rw [←he,Sort.insOuter.eq_1 _ a b i,if_pos (by omega),e],by rw [←rD i (by omega)];rfl,rfl⟩
 ·conv=>whnf
  have e:Sort.insertionSort Ik d a b=gQ:=by
   rw [←he];unfold Sort.insOuter;rw [if_neg (by omega)]
  rw [e];exact ⟨.inl rfl,⟨by simp,fun j o aw=>.inr aw⟩,rfl⟩
theorem ahd (d:Array (List Int)) (Ln:Int) (aZ:d.size≤12) (ah:H[id]?=some (J5 g d)) (Oh:∀ x,x<d.size→K9 d[x]!) :
  Sem Go.Proofs.Tryz.prog (.fn 127) [IM id d.size,hP 0,hP d.size,hP Ln,.func 103 [] []] H lo (.tuple []) (H.set id (J5 g (Sort.insertionSort Ik d 0 d.size))):=by
 refine Ig dI XM rfl ⟨by simp,fun j ad af=>by rw [sg (by omega)]⟩ fun Q bl=>?_;unfold T8;obtain ⟨Wi,Lf⟩:∃ c,O7=c:=⟨_,rfl⟩;rw [Lf];conv=>whnf
 refine .intro (fun m T H'=>T=GG 148 [(0,IM id d.size),(1,hP 0),(2,hP d.size),(3,hP Ln),(4,.func 103 [] []),(10,B true),(11,B true)]∧H'=H) 0 ⟨rfl,rfl⟩ ?_;rintro m T H' ⟨rfl,rfl⟩;subst Lf;unfold O7;obtain ⟨a',cb⟩:∃ c,O6=c:=⟨_,rfl⟩;obtain ⟨Wh,N6⟩:∃ c,T9=c:=⟨_,rfl⟩;rw [cb,N6];conv=>whnf
 rw [show IntKind.i64.wrap ((d.size:Int)-0)=(d.size:Int) by rw [JI _ (by omega) (by omega)];omega,decide_eq_true (show (d.size:Int)≤12 by omega)];conv=>whnf
 subst cb;unfold O6;conv=>whnf
 refine ⟨_,_,Is (aft bD d 0 d.size (by omega) (sr _) (sd _) ah Oh),?_⟩;conv=>whnf
 exact bl _ _ _ ⟨.inr rfl,⟨rfl,fun j o aw=>.inr aw⟩,rfl⟩
end
theorem aiN {H:List au} {id lo g:Nat} (bD:lo≤id) (d:Array (List Int)) (aZ:d.size≤12) (ah:H[id]?=some (J5 g d)) (Oh:∀ x,x<d.size→K9 d[x]!) :
  Sem Go.Proofs.Tryz.prog (.fn 102) [IM id d.size,.func 103 [] []] H lo (.tuple []) (H.set id (J5 g (Sort.insertionSort Ik d 0 d.size))):=by
 refine Ig dI XH rfl ⟨by simp,fun j ad af=>by rw [sg (by omega)]⟩ fun Q bl=>?_;unfold TI;conv=>whnf
 rw [show IntKind.u64.wrap (d.size:Int)=(d.size:Int) by rw [ZX];omega];refine ⟨by first | rfl | simp only [tt,ua,OL,OU,OM,OO,ON,OP,OW,OV,Lv,OQ,OS,OT,tU,uO],_,R_ d.size aZ,?_⟩
 conv=>whnf
 refine ⟨_,_,Is (ahd bD d (Sort.bitsLen d.size) aZ ah Oh),?_⟩;conv=>whnf
 exact bl _ _ _ ⟨.inl rfl,⟨rfl,fun j o aw=>.inr aw⟩,rfl⟩
end Go.Proofs.YtfakoboiahbhaaaGreat.Ab


namespace Go.Proofs.YtfakoboiahbhaaaGreat.Ab
open Go
def abU:c8:={ ops:=[[],[{},{},{},{ takes:=[true] }],[{},{ takes:=[true] }],[{ takes:=[true] },{ takes:=[true],mode:=4 }],[{},{ takes:=[true] },{ takes:=[true] }],[{},{},{ takes:=[true] },{ takes:=[true,true] }],[{ takes:=[true] },{ takes:=[true] },{ takes:=[true] }],[{},{},{ takes:=[true,true] },{ takes:=[true] },{ takes:=[true] }],[{},{},{ mode:=6 },{ takes:=[true] }],[{},{},{ takes:=[true] },{ takes:=[true,true] },{ takes:=[true,true] }],[{ takes:=[true] },{ takes:=[true] },{ takes:=[true] }],[{},{},{ takes:=[true,true] },{ takes:=[true] }],[{ takes:=[true] },{ takes:=[true] },{ takes:=[true,true] },{ takes:=[true],mode:=4 }]],h7:=[(0,(Ez false [0,2,3,2,35]))] }
noncomputable def TE:ez :=
 Gz [Gn 30 0,Gn 31 5,Gp 32 7,Gh 33 30 31 1,⟨none,[.hG 33,.hG 32],none,none,.st 1⟩] (Gs [Gp 34 5,FZ 35 34 1,Gp 5 35])
noncomputable def TF:ez :=
 Gz [Gn 26 1,Gn 27 7,gM 28 [.sl 26,.sl 27] (.call 6),gM 29 [.hJ 28] (.un .not)] (.cond (.sl 29) TE .skip)
noncomputable def TG:ez :=
 .block 1 (Gz [Gn 22 0,Gn 23 6,Gh 24 22 23 1,Gl 25 24,Gp 7 25] TF)
noncomputable def Qy:ez :=
 .seq (Gz [Gn 16 6,Gn 17 0,Gk 18 17,F1 19 16 18 .lss] (.cond (.sl 19) .skip (.exit 0))) (.seq TG (Gs [Gp 20 6,FZ 21 20 1,Gp 6 21]))
noncomputable def TH:ez :=
 Gz [Gp 39 0, Gp 40 5, gM 41 [.hG 39, .hG 40] (.AX 1 false true false), gM 4 [.hG 41] (.other (Oper.mk (some 4) (Op.assign (Operand.tmp 41)) 41 "slices.go:254" (Array.mk [Edge.mk 2 Ground.data, Edge.mk 0 Ground.phase, Edge.mk 1 Ground.phase, Edge.mk 2 Ground.phase]) none) 4)] .ret
noncomputable def Qz:ez :=
 Gz [Gn 36 0, Gn 37 5, gM 38 [.hG 36, .hG 37] (.AX 1 true false false), ⟨none, [.hG 38], none, none, .other (Oper.mk none (Op.call (Call.mk (Callee.builtin Builtin.clear) (Array.mk [Operand.tmp 38]) (Array.mk [41]))) 0 "slices.go:253" (Array.mk [Edge.mk 2 Ground.data]) none) 0⟩] TH
noncomputable def OX:ez :=
 .seq (Gz [Gn 11 5, F0 12 11 (-1) .eql] (.cond (.sl 12) (Gz [Gp 13 0, gM 4 [.hG 13] (.other (Oper.mk (some 4) (Op.assign (Operand.tmp 13)) 41 "slices.go:244" (Array.mk [Edge.mk 0 Ground.data, Edge.mk 0 Ground.phase]) none) 4)] .ret) .skip)) (.seq (Gz [Gn 14 5, FZ 15 14 1, Gp 6 15] (.block 0 (.loop (some (Ez false [0, 2, 3, 2, 35])) Qy))) Qz)
noncomputable def OY:ez :=
 Gz [Gn 8 0,Gn 9 1,gM 10 [.iA (.func 126 [] []),.sl 8,.sl 9] (.call 0),Gp 5 10] OX
noncomputable def TD:ez :=
 Gz [gM 4 [.iA (.ay [] 0 .full)] (.nil 1)] OY
theorem XG:zf Go.Proofs.Tryz.prog abU 101=some (TD,42,[.tmp 4]):=by kernel_rfl
end Go.Proofs.YtfakoboiahbhaaaGreat.Ab


namespace Go.Proofs.YtfakoboiahbhaaaGreat.Ab
open Go
set_option maxRecDepth 20000
set_option maxHeartbeats 4000000
theorem PT {P:Program} {k:FuncId} {args:List I} {H H':List au} {lo:Nat} {v:I} (aC:cq 8 v=true) (h:Sem P (.fn k) args H H.length v H'):om P 0 lo (.fn k) args H v H:=by
 refine ⟨_,D2 h,?_⟩;have ck:bJ H' H.length H'.length 0 8 v=some v:=oR aC;simp only [eT,D1,sb,ck,sf]
theorem afp {p:List Int→Bool}:∀ (l:List (List Int)) (i:Nat) (h:i<l.length),idxOf p (l.drop i) i=if p l[i]=true then (i:Int) else idxOf p (l.drop (i+1)) (i+1):=fun l i h=>by
 rw [sW h,idxOf]
theorem UB (d:List (List Int)) {n:Int} {i:Nat} (aN:n=i) (h:i<d.length):(d.map jh)[0+n.toNat*1]?=some (jh d[i]):=by
 subst aN;simp [h]
section
variable {id lo g:Nat} {H:List au} {GZ:FuncId} {rO cs:List I} {p:List Int→Bool} {d:List (List Int)}
theorem afq (aQ:rO.map (ij H)=cs) (M3:cs.map I.cr=cs) (Cj:cs.all (cq 8)=true) (aZ:d.length≤1000) (av:∀ r∈d,ql GZ (jh r::cs) (B (p r))) (ah:H[id]?=some (.grow (d.map jh) g 1)) :
  Sem Go.Proofs.Tryz.prog (.fn 126) [.ref id 0 d.length none 1,.func GZ [] rO] H lo (hP (idxOf p d 0)) H:=by
 refine Ig dI XL rfl ⟨sd _,fun j _ _=>rfl⟩ fun Q bl=>?_;unfold T7;conv=>whnf
 refine .intro (fun m T H'=>∃ i,i≤d.length∧m=d.length-i∧idxOf p d 0=idxOf p (d.drop i) i∧T=[.ref id 0 d.length none 1,.func GZ [] rO,rC,rC,rC,rC,rC,hP d.length,hP i,rC,rC,rC,rC,rC,rC,rC,rC,rC,rC]∧H'=H) d.length ⟨0,by omega,by omega,rfl,rfl,rfl⟩ ?_;rintro m T H' ⟨i,hi,rfl,he,rfl,rfl⟩;conv=>whnf
 refine IG (fun h=>?_) (fun h=>?_)
 ·have aU:i<d.length:=by omega
  rw [afp d i aU] at he;conv=>whnf
  refine ⟨by omega,?_⟩;conv=>whnf
  refine DW ah ?_;conv=>whnf
  refine DW (UB d rfl aU) ?_;conv=>whnf
  refine ⟨_,_,call6 (bs:=jh d[i]::cs) ?_ ?_ (av _ (sD aU)) rfl,?_⟩
  ·show (_::rO.map (ij H')).map I.cr=_;rw [aQ,ss,M3];rfl
  ·show (_::rO.map (ij H')).all (cq 8)=true;rw [aQ];exact pY (rp (fun _=>rfl) _ _ _) Cj
  conv=>whnf
  cases aC:p d[i] with
  | true =>
    (conv=>whnf);rw [aC,if_pos rfl] at he;exact bl _ _ _ ⟨.inr rfl,⟨rfl,fun j o aw=>.inr aw⟩,by rw [he];rfl⟩
  | false =>
    (conv=>whnf);rw [aC,if_neg (by simp)] at he;exact ⟨d.length-(i+1),by omega,i+1,by omega,rfl,he,by rw [←rD i (by omega)] <;> rfl,rfl⟩
 ·obtain rfl:i=d.length:=by omega
  rw [List.drop_length] at he;conv=>whnf
  exact bl _ _ _ ⟨.inr rfl,⟨rfl,fun j o aw=>.inr aw⟩,by rw [he];rfl⟩
end
theorem Wc {P:Program} {C:b6} {lo id gid n:Nat} {o:Oper} {x:Operand} {H:List au} {l:List I} (aq:o.op=.assign x) (bD:lo≤id) (ah:H[id]?=some (.grow l gid 1)) (aN:n≤l.length) (aC:(l.take n).all I.plain=true) :
  a8 P C lo o 4 [.cl id gid n 1] H=some (.ay (l.take n) n (.uniq 1),H.set id .dead):=by
 unfold a8;rw [aq];show eQ P lo 4 o.type x H [.cl id gid n 1]=_;unfold eQ;simp only [bD,if_true,ah];rw [if_pos ⟨trivial,trivial,by omega,by rw [tA];exact aC⟩,tA]
theorem YC (l:List (List Int)) (n:Nat):((l.map jh).take n).all I.plain=true:=by
 rw [sC];intro u hu;obtain ⟨x,_,rfl⟩:=sv.1 (List.mem_of_mem_take hu);rfl
theorem adu {P:Program} {lo id off len:Nat} {H:List au} {l:List I} {g:Nat} {cap:Option Nat} {e:TypeId} {ts:Array TypeId} (e1:(ts[0]?).bind P.underlying=some (.slice e)) (ck:bS P e=some 1) {z:I} (dF:zeroCells P e=some [z]) (bD:lo≤id)
  (ah:H[id]?=some (.grow l g 1)) (aN:off+len≤l.length):kR P lo ts H [.ref id off len cap 1]=some (.tuple [],H.set id (.grow (setCells off (eY len [z]) l) g 1)):=by
 unfold kR;simp only [e1,ck,dF,g7,ah,sf,if_pos bD];rw [if_pos ⟨trivial,rfl,by decide⟩,if_pos (by omega)];rfl
theorem Wq {off len:Nat} {l:List I} {z:I} (aN:off+len≤l.length):(setCells off (eY len [z]) l).take off=l.take off:=by
 apply tI;intro j;rw [sT,sT];split
 ·rw [n7 _ _ _ _ (by rw [ie];simp;omega),if_neg (by omega)]
 ·rfl
theorem adv {off len:Nat} {l:List I} {z:I}:(setCells off (eY len [z]) l).length=l.length:=mL _ _ _
theorem Xv {α:Type} (p:α→Bool):∀ (l:List α) (i:Nat),(idxOf p l i=-1∧∀ x∈l,p x=false)∨∃ k,∃ h:k<l.length,idxOf p l i=((i+k:Nat):Int)∧p l[k]=true∧∀ x∈l.take k,p x=false
 | [],i=>.inl ⟨rfl,fun x al=>absurd al (by simp)⟩
 | x::l,i=>by
   rw [idxOf];cases al:p x with
   | true=>rw [if_pos rfl];exact .inr ⟨0,by simp,by simp,al,fun y a0=>absurd a0 (by simp)⟩
   | false =>
     rw [if_neg (by simp)];rcases Xv p l (i+1) with ⟨ad,af⟩ | ⟨k,av,ad,af,aG⟩
     ·exact .inl ⟨ad,fun y a0=>by rcases sk.1 a0 with rfl | a0;exact al;exact af y a0⟩
     ·refine .inr ⟨k+1,by simp;omega,by rw [ad];omega,af,fun y a0=>?_⟩;rw [ve] at a0;rcases sk.1 a0 with rfl | a0
      ·exact al
      ·exact aG y a0
theorem WI {p:List Int→Bool} {l:List (List Int)} (h:∀ x∈l,p x=false):l.filter (fun r=>!p r)=l:=List.filter_eq_self.2 fun x al=>by rw [h x al];rfl
section
variable {id lo g:Nat} {H:List au} {GZ:FuncId} {rO cs:List I} {p:List Int→Bool} {d:List (List Int)}
theorem adD (bD:lo≤id) (aQ:∀ c:au,rO.map (ij (H.set id c))=cs) (M3:cs.map I.cr=cs) (Cj:cs.all (cq 8)=true) (aZ:d.length≤1000) (av:∀ r∈d,ql GZ (jh r::cs) (B (p r))) (ah:H[id]?=some (.grow (d.map jh) g 1)) :
  Sem Go.Proofs.Tryz.prog (.fn 101) [.cl id g d.length 1,.func GZ [] rO] H lo (.ay ((d.filter fun r=>!p r).map jh) (d.filter fun r=>!p r).length (.uniq 1)) (H.set id .dead):=by
 have aE:=(sa.1 ah).1;refine Ig dI XG rfl ⟨by simp,fun j ad af=>by rw [sg (by omega)]⟩ fun Q bl=>?_;have gs:∀ c:au,(H.set id c)[id]?=some c:=fun c=>by rw [si aE]
 obtain ⟨K8,fB⟩:∃ K8,K8=H:=⟨H,rfl⟩;rw [show H=K8.set id (.grow (d.map jh) g 1) by rw [fB];exact (aiF bD ah).symm];rw [←fB] at gs aQ bl;unfold TD;obtain ⟨m0,IX⟩:∃ c,OY=c:=⟨_,rfl⟩;rw [IX];conv=>whnf
 subst IX;unfold OY;obtain ⟨mZ,Hp⟩:∃ c,OX=c:=⟨_,rfl⟩;rw [Hp];conv=>whnf
 refine ⟨_,_,PT rfl (afq (aQ _) M3 Cj aZ av (gs _)),?_⟩;conv=>whnf
 subst Hp;unfold OX;obtain ⟨fP,G5⟩:∃ c,Qz=c:=⟨_,rfl⟩;obtain ⟨b7,hn⟩:∃ c,Qy=c:=⟨_,rfl⟩;rw [G5,hn];rcases Xv p d 0 with ⟨hi,fV⟩ | ⟨k,CE,hi,ae7,fV⟩
 ·rw [hi];conv=>whnf
  refine ⟨_,_,fun C=>Wc rfl bD (gs _) (by simp) (YC _ _),?_⟩;rw [sR];conv=>whnf
  refine bl _ _ _ ⟨.inr rfl,⟨rfl,fun j o aw=>.inr aw⟩,?_⟩;rw [WI fV];show some (I.ay ((d.map jh).take d.length) d.length (.uniq 1))=_;rw [tO (by simp)]
 ·rw [hi];rw [sO];conv=>whnf
  rw [rD k (by omega)];refine .intro (fun m T H'=>∃ (i j:Nat) (s:List (List Int)),i<j∧j≤d.length∧m=d.length-j∧s.length=d.length∧s.take i=(d.take j).filter (fun r=>!p r)∧s.drop j=d.drop j∧T=GG 42 [(0,.cl id g d.length 1),(1,.func GZ [] rO),(5,hP i),(6,hP j)]∧H'=K8.set id (.grow (s.map jh) g 1)) (d.length-(k+1)) ⟨k,k+1,d,by omega,by omega,rfl,rfl,?_,rfl,rfl,rfl⟩ ?_
  ·rw [tX CE,tW,WI fV];simp [ae7]
  rintro m T H' ⟨i,j,s,gW,aw,rfl,ai,ax,SQ,rfl,rfl⟩;subst hn;unfold Qy;obtain ⟨bq,dZ⟩:∃ c,TG=c:=⟨_,rfl⟩;rw [dZ];conv=>whnf
  refine IG (fun h=>?_) (fun h=>?_)
  ·(have aU:j<d.length:=by omega);have M6:s[j]'(by omega)=d[j]:=by
    have:=congrArg (fun l=>l[0]?) SQ;simpa [sY,aU,ai] using this
   (conv=>whnf);subst dZ;unfold TG;obtain ⟨bk,b8⟩:∃ c,TF=c:=⟨_,rfl⟩;rw [b8];(conv=>whnf);refine ⟨by omega,?_⟩;(conv=>whnf);refine DW (gs _) ?_;(conv=>whnf);refine DW (UB s rfl (by omega)) ?_;rw [M6];(conv=>whnf);subst b8;unfold TF;obtain ⟨a',cb⟩:∃ c,TE=c:=⟨_,rfl⟩;rw [cb];(conv=>whnf);refine ⟨_,_,call6 (bs:=jh d[j]::cs) ?_ ?_ (av _ (sD aU)) rfl,?_⟩
   ·show (_::rO.map (ij _)).map I.cr=_;rw [aQ,ss,M3];rfl
   ·show (_::rO.map (ij _)).all (cq 8)=true;rw [aQ];exact pY (rp (fun _=>rfl) _ _ _) Cj
   (conv=>whnf);have Xh:(d.take (j+1)).filter (fun r=>!p r)=(d.take j).filter (fun r=>!p r)++[d[j]].filter (fun r=>!p r):=by
    rw [tX aU,tW]
   cases aC:p d[j] with
   | true =>
     (conv=>whnf);refine ⟨d.length-(j+1),by omega,i,j+1,s,by omega,by omega,rfl,ai,?_,?_,by rw [←rD j (by omega)] <;> rfl,rfl⟩
     ·rw [Xh,ax];simp [aC]
     ·have:=congrArg (List.drop 1) SQ;simpa [List.drop_drop,te] using this
   | false =>
     (conv=>whnf);subst cb;unfold TE;refine I9 fun mS G8=>?_;(conv=>whnf);refine ⟨by omega,?_⟩;(conv=>whnf);rw [show Nat.ble lo id=true from t_ bD];(conv=>whnf);refine DW (gs _) ?_;(conv=>whnf);refine A_ (by simp;omega) ?_;(conv=>whnf);rw [sR];refine G8 _ _ _ ?_;(conv=>whnf);refine ⟨d.length-(j+1),by omega,i+1,j+1,s.set i d[j],by omega,by omega,rfl,by simpa using ai,?_,?_,by rw [←rD j (by omega),←rD i (by omega)] <;> rfl,?_⟩
     ·rw [Xh,←ax,tX (by rw [List.length_set];omega),List.getElem_set_self,List.take_set_of_le (sd _)];simp [aC]
     ·rw [List.drop_set_of_lt (by omega)];have:=congrArg (List.drop 1) SQ;simpa [List.drop_drop,te] using this
     ·rw [show 0+(i:Int).toNat*1=i by simp,uM];rfl
  ·(obtain rfl:j=d.length:=by omega);rw [List.take_length] at ax;(have ra:i=(d.filter fun r=>!p r).length:=by rw [←ax,sV];omega);(conv=>whnf);subst G5;unfold Qz;obtain ⟨dX,B1⟩:∃ c,TH=c:=⟨_,rfl⟩;rw [B1];(conv=>whnf);refine ⟨rfl,⟨by omega,by omega⟩,fun aU=>?_,fun heq=>absurd heq (by omega)⟩;(conv=>whnf);refine ⟨_,_,fun C=>(OB rfl).trans (adu (e:=38) (z:=.ay [] 0 .full) (by kernel_rfl) (by kernel_rfl) (by kernel_rfl) bD (gs _) (by simp;omega)),?_⟩;rw [sR];(conv=>whnf);subst B1;unfold TH;(conv=>whnf);refine ⟨⟨by omega,by omega⟩,?_⟩;(conv=>whnf);refine ⟨_,_,fun C=>Wc rfl bD (gs _) ?_ ?_,?_⟩
   ·rw [adv];simp;omega
   ·rw [show 0+(i:Int).toNat*1=(i:Int).toNat by omega,Wq (by simp;omega)];exact YC _ _
   rw [sR];(conv=>whnf);refine bl _ _ _ ⟨.inr rfl,⟨rfl,fun j o aw=>.inr aw⟩,?_⟩;show some (I.ay (List.take (i:Int).toNat _) (i:Int).toNat (.uniq 1))=_;rw [show 0+(i:Int).toNat*1=(i:Int).toNat by omega,Wq (by simp;omega),Int.toNat_natCast,←ui,ax,←ra]
end

theorem Xy {α:Type} [Inhabited α] (lt:α→α→Bool) (d:Array α) (a b:Nat):(Sort.insertionSort lt d a b).size=d.size:=by
 have aiT:∀ (d:Array α) (i j:Nat),(Sort.swp d i j).size=d.size:=fun d i j=>by simp [Sort.swp]
 have kl:∀ (j:Nat) (d:Array α),(Sort.insInner lt a j d).size=d.size:=fun j=>by
  induction j with
  | zero=>intro d;rfl
  | succ j a_ =>
    intro d;rw [Sort.insInner];split
    ·rw [a_,aiT]
    ·rfl
 show (Sort.insOuter lt a b (a+1) d).size=d.size
 have:∀ (n i:Nat) (d:Array α),b-i=n→(Sort.insOuter lt a b i d).size=d.size:=fun n=>by
  induction n with
  | zero=>intro i d h;rw [Sort.insOuter.eq_1,if_neg (by omega)]
  | succ n a_=>intro i d h;rw [Sort.insOuter.eq_1,if_pos (by omega),a_ _ _ (by omega),kl]
 exact this _ _ d rfl
def HA (l:List Int):List Int:=(Sort.insertionSort Sort.ltInt l.toArray 0 l.length).toList
theorem YQ (l:List Int):(HA l).length=l.length:=by
 unfold HA;rw [tD,Xy];simp
theorem aiL {H:List au} {id lo n:Nat} (l:List Int) (bD:lo≤id) (ak:l.length≤12) (aN:n=l.length) (ah:H[id]?=some (.cells (l.map hP))) :
  Sem Go.Proofs.Tryz.prog (.fn 73) [.ref id 0 n none 1] H lo (.tuple []) (H.set id (.cells ((HA l).map hP))):=by
 subst aN;have:=aiI bD l.toArray (by simpa using ak) (by simpa [J4] using ah);simpa [J4,IM,HA] using this
def I6 (l:List (List Int)):List (List Int):=(Sort.insertionSort Ik l.toArray 0 l.length).toList
theorem UH (l:List (List Int)):(I6 l).length=l.length:=by
 unfold I6;rw [tD,Xy];simp
def Ni (l:List Int):Bool:=!l.isEmpty && decide (0≤ix l 0) && decide (ix l 0≤1000)
theorem ait {l:List Int} (h:Ni l=true):K9 l:=by
 simp only [Ni,sy,decide_eq_true_eq] at h;exact ⟨by intro e;subst e;simp at h,h.1.2,h.2⟩
theorem aiQ {H:List au} {id lo n g:Nat} (l:List (List Int)) (bD:lo≤id) (ak:l.length≤12) (aj:l.all Ni=true) (aN:n=l.length) (ah:H[id]?=some (.grow (l.map jh) g 1)) :
  Sem Go.Proofs.Tryz.prog (.fn 102) [.ref id 0 n none 1,.func 103 [] []] H lo (.tuple []) (H.set id (.grow ((I6 l).map jh) g 1)):=by
 subst aN
 have:=aiN bD l.toArray (by simpa using ak) (g:=g) (by simpa [J5] using ah) (fun x al=>by
  have al:x<l.length:=by simpa using al
  have:=sC.1 aj l[x] (sD al);have e:l.toArray[x]! = l[x]:=by simp [al]
  rw [e];exact ait this)
 simpa [J5,IM,I6] using this
def LW (f:List Int→Option Bool):List (List Int)→Option (List (List Int))
 | []=>some []
 | r::l=>(f r).bind fun b=>(LW f l).bind fun l'=>some (if b=true then l' else r::l')
theorem Wu {f:List Int→Option Bool}:∀ {l R:List (List Int)},LW f l=some R→∃ p:List Int→Bool,(∀ r∈l,f r=some (p r))∧R=l.filter fun r=>!p r
 | l,R,h=>by
   refine ⟨fun r=>(f r).getD false,?_⟩
   induction l generalizing R with
   | nil=>exact ⟨fun r aj=>absurd aj (by simp),(Option.some.inj h).symm⟩
   | cons r l a_ =>
     obtain ⟨b,ag,h⟩:=qd h;obtain ⟨l',dA,h⟩:=qd h;obtain rfl:=Option.some.inj h;obtain ⟨i1,i2⟩:=a_ _ dA;refine ⟨fun x al=>?_,?_⟩
     ·rcases sk.1 al with rfl | al
      ·show f x=some ((f x).getD false);rw [ag];rfl
      ·exact i1 x al
     ·(have e:(f r).getD false=b:=by rw [ag];rfl);rw [List.filter_cons];show _=if (!(f r).getD false)=true then _ else _;rw [e,←i2];cases b <;> rfl
section
variable {id lo g n:Nat} {H:List au} {GZ:FuncId} {rO cs:List I} {f:List Int→Option Bool} {l R:List (List Int)}
theorem adC (h:LW f l=some R) (bD:lo≤id) (aQ:∀ c:au,rO.map (ij (H.set id c))=cs) (M3:cs.map I.cr=cs) (Cj:cs.all (cq 8)=true) (aZ:l.length≤1000) (aN:n=l.length) (av:∀ r b,f r=some b→ql GZ (jh r::cs) (B b)) (ah:H[id]?=some (.grow (l.map jh) g 1)) :
  Sem Go.Proofs.Tryz.prog (.fn 101) [.cl id g n 1,.func GZ [] rO] H lo (.ay (R.map jh) R.length (.uniq 1)) (H.set id .dead):=by
 subst aN;obtain ⟨p,aC,rfl⟩:=Wu h;exact adD bD aQ M3 Cj aZ (fun r aj=>av r _ (aC r aj)) ah
end
section
variable {H:List au} {lo:Nat}
theorem afs {F:I}:Sem Go.Proofs.Tryz.prog (.fn 138) [.ay [] 0 .full,hP 0,hP 0,F] H lo (.tuple []) H:=by
 refine Ig dI XN rfl (ba.refl _ _) fun Q bl=>?_;unfold Ub;conv=>whnf
 refine .intro (fun m T H'=>T=GG 53 [(0,.ay [] 0 .full),(1,hP 0),(2,hP 0),(3,F),(8,hP 1)]∧H=H') 0 ⟨rfl,rfl⟩ ?_;rintro m T H' ⟨rfl,rfl⟩;conv=>whnf
 exact bl _ _ _ ⟨.inl rfl,⟨by simp,fun j o aw=>.inr aw⟩,rfl⟩
theorem ahb {Ln:Int} {k:FuncId} {cap:List I}:Sem Go.Proofs.Tryz.prog (.fn 127) [.ay [] 0 .full,hP 0,hP 0,hP Ln,.func k [] cap] H lo (.tuple []) H:=by
 refine Ig dI XM rfl (ba.refl _ _) fun Q bl=>?_;unfold T8;obtain ⟨Wi,Lf⟩:∃ c,O7=c:=⟨_,rfl⟩;rw [Lf];conv=>whnf
 refine .intro (fun m T H'=>T=GG 148 [(0,.ay [] 0 .full),(1,hP 0),(2,hP 0),(3,hP Ln),(4,.func k [] cap),(10,B true),(11,B true)]∧H'=H) 0 ⟨rfl,rfl⟩ ?_;rintro m T H' ⟨rfl,rfl⟩;subst Lf;unfold O7;obtain ⟨a',cb⟩:∃ c,O6=c:=⟨_,rfl⟩;obtain ⟨Wh,N6⟩:∃ c,T9=c:=⟨_,rfl⟩;rw [cb,N6];conv=>whnf
 subst cb;unfold O6;conv=>whnf
 refine ⟨_,_,Is afs,?_⟩;conv=>whnf
 exact bl _ _ _ ⟨.inr rfl,⟨rfl,fun j o aw=>.inr aw⟩,rfl⟩
theorem aiM {k:FuncId} {cap:List I}:Sem Go.Proofs.Tryz.prog (.fn 102) [.ay [] 0 .full,.func k [] cap] H lo (.tuple []) H:=by
 refine Ig dI XH rfl (ba.refl _ _) fun Q bl=>?_;unfold TI;conv=>whnf
 refine ⟨by first | rfl | simp only [tt,ua,OL,OU,OM,OO,ON,OP,OW,OV,Lv,OQ,OS,OT,tU,uO],_,R_ 0 (by decide),?_⟩
 conv=>whnf
 refine ⟨_,_,Is ahb,?_⟩;conv=>whnf
 exact bl _ _ _ ⟨.inl rfl,⟨by simp,fun j o aw=>.inr aw⟩,rfl⟩
theorem afo {k:FuncId} {cap:List I}:Sem Go.Proofs.Tryz.prog (.fn 126) [.ay [] 0 .full,.func k [] cap] H lo (hP (-1)) H:=by
 refine Ig dI XL rfl (ba.refl _ _) fun Q bl=>?_;unfold T7;conv=>whnf
 refine .intro (fun m T H'=>T=[.ay [] 0 .full,.func k [] cap,rC,rC,rC,rC,rC,hP 0,hP 0,rC,rC,rC,rC,rC,rC,rC,rC,rC,rC]∧H'=H) 0 ⟨rfl,rfl⟩ ?_;rintro m T H' ⟨rfl,rfl⟩;conv=>whnf
 exact bl _ _ _ ⟨.inr rfl,⟨rfl,fun j o aw=>.inr aw⟩,rfl⟩
theorem adA {k:FuncId} {cap:List I}:Sem Go.Proofs.Tryz.prog (.fn 101) [.ay [] 0 .full,.func k [] cap] H lo (.ay [] 0 .full) H:=by
 refine Ig dI XG rfl (ba.refl _ _) fun Q bl=>?_;unfold TD;obtain ⟨m0,IX⟩:∃ c,OY=c:=⟨_,rfl⟩;rw [IX];conv=>whnf
 subst IX;unfold OY;obtain ⟨mZ,Hp⟩:∃ c,OX=c:=⟨_,rfl⟩;rw [Hp];conv=>whnf
 refine ⟨_,_,PT rfl afo,?_⟩;conv=>whnf
 subst Hp;unfold OX;obtain ⟨fP,G5⟩:∃ c,Qz=c:=⟨_,rfl⟩;obtain ⟨b7,hn⟩:∃ c,Qy=c:=⟨_,rfl⟩;rw [G5,hn];conv=>whnf
 refine ⟨_,_,fun C=>rfl,?_⟩;conv=>whnf
 exact bl _ _ _ ⟨.inr rfl,⟨rfl,fun j o aw=>.inr aw⟩,rfl⟩
end
end Go.Proofs.YtfakoboiahbhaaaGreat.Ab
