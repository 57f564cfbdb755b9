
import Derived.Test.YtfakoboiahbhaaaGreatJt1
import Derived.Test.YtfakoboiahbhaaaGreatJt3
import Derived.Test.YtfakoboiahbhaaaGreatProg
import Derived.KernelRfl
import Derived.IntWalk
import Derived.ProofKit
import Derived.Deep.Slices
import Derived.ChangeStays
import Derived.Below
import Derived.WalkKit
import Derived.Sort.AssemblyPlain
set_option linter.unusedSimpArgs false
set_option linter.unusedVariables false
set_option linter.unusedSectionVars false

open Array renaming length_toList→tw,size_setIfInBounds→ug
open Bool renaming and_eq_true→sv,and_self→ux,and_true→ue,false_eq_true→tF
open Classical renaming choose_spec→vv
open List renaming all_cons→tE,all_eq_true→sy,all_nil→uy,append_assoc→sA,append_nil→sU,drop_eq_getElem_cons→sQ,drop_zero→sM,ext_getElem?→tA,filter_append→uP,flatMap_append→vY,flatMap_cons→tZ,getElem?_append→sb,getElem?_append_left→sB,getElem?_append_right→sJ,getElem?_drop→sX,getElem?_eq_getElem→sk,getElem?_eq_none→td,getElem?_eq_some_iff→sa,getElem?_map→sr,getElem?_set_ne→si,getElem?_set_self→sg,getElem?_take→sT,getElem_mem→sD,length_append→su,length_drop→tJ,length_map→sV,length_pos_iff→uz,length_take→sY,map_append→sZ,map_congr_left→ti,map_cons→sx,map_drop→uF,map_id→uN,map_map→tr,map_set→uG,map_take→uE,mem_append_left→u5,mem_append_right→v3,mem_cons→sj,mem_cons_of_mem→tR,mem_cons_self→ud,mem_flatMap→uZ,mem_iff_getElem?→tx,mem_map→sm,mem_range→sG,range_succ→u7,set_getElem_self→u_,set_set→sS,take_of_length_le→tG,take_succ_cons→vZ,take_succ_eq_append_getElem→tN,take_zero→tq
open Nat renaming add_comm→tb,add_mul→tg,ble_eq_true_of_le→uc,eq_of_beq_eq_true→s_,le_refl→sc,le_trans→sH,lt_or_ge→sR,min_eq_left→tK,mul_one→tt,one_mul→vz,sub_zero→vp,zero_add→sP,zero_le→sq,zero_mul→vk
open Option renaming bind_some→r_,map_eq_some_iff→rZ,map_some→sd
namespace Go.Proofs.YtfakoboiahbhaaaGreat.Ab
open Go
abbrev pW:b5:={ takes:=[true] }
abbrev pX:b5:={ takes:=[true,true] }
def p0 (l:List Nat):List b5:=l.map fun n=>match n with
 | 0=>{}
 | 1=>pW
 | _=>pX
def abW:c7:={ ops:=[[{ mode:=3 }]] }
def abZ:c7:={ ops:=[[],[],[],[],[],[{},{ mode:=3 },{},{ mode:=3 },pX,pW,pW,pW,pX,{ takes:=[false,true] },pW,pW,pW,pX,{ takes:=[false,true] },pW,pW,pW,pX,{ takes:=[false,true] },pW,{},{},{ mode:=3 },{},{},{ mode:=3 },pX,{ takes:=[false,true] },pW,{ mode:=3 },{ takes:=[false,true] },pW]] }
def acg:c7:={ ops:=[[],[],[],[],[],[],[{},{},pW,{ mode:=3 },{ mode:=3 },pW,{},{},pW,pW],[],[],[],[],[],[],[{},{},{},pX,pW,{ mode:=3 },{ mode:=3 },pW,{},{},pW,pW]] }
def ach:c7:={ ops:=[[],[],[],[],[],[],[],[],[],[],[],[],[],[],[],[],[],[],[],[pW,pW,pW,{ mode:=3 },{ mode:=3 },pW,{},{},pW,pW]] }
def acn:c7:={ ops:=[[],[],[],[],[],[],[],[],[],[],[],[{},pW,{},{},pW,pX,pX,{},{ takes:=[false,true] }],[],[],[],[],[{},{},{},pX,pW,{ mode:=3 },pW,{},{},{},pW,pW,pW],[{},{},{},pW,{},pW,pX,pX,pW,{ mode:=3 },pW,{},{},{},pW,pW,pW],[],[],(p0 [1,0,0,2,1,2,0,1,1,1,1,2,1])] }
def abk:c7:={ ops:=[[],[],[],[pW,pW,{},pW,pX,pW,pW,{},pW,pX,pX,{},{ takes:=[false,true] }],[{},pW,{},{},pW,pX,{},pW,pX,pX,{},{ takes:=[false,true] }]] }
def Jq:c7:={ ops:=[[pW],[{},{ mode:=3 },pW,pW,{},pW,pW,{ takes:=[true,false,true] }],[{ mode:=3 },pW],[{},pW,pW,{},{ takes:=[false,true] }],[],(p0 [0,0,1,1,2]),(p0 [1,1,1]),[{},pW,{},pX,pW,{},{ takes:=[false,true] }],(p0 [0,0,2,1,1]),[{},pW,{},pW,pX,{ takes:=[false,true] }],[{},{ takes:=[true],mode:=1 },pW,pW,pX,{},pX],[{},{},{ mode:=3 },pW,{},{},pW,pW,pW,pW],[{},{},{ mode:=3 },pW,{},{},pW,pW,pW,pW],(p0 [1,0,2]),[],[{},pW,pW,{},pW,{ takes:=[true,false,true] }],[],[],(p0 [0,0,1,2]),(p0 [1,1,1]),[{},{},pX,pW,{},{ takes:=[false,true] }],(p0 [0,0,1,2,1,1]),[{},pW,{ takes:=[false,true] },{},pX],(p0 [1,1,1,2,1]),[{},pW,{ mode:=3 },{ mode:=3 },pW,{},{},{},pW,pW,pW],[{},pW,{ mode:=3 },pW,{},{},pW,pW,pW,pW],[pW,{},pX,pW,pW,pW,pX,{ takes:=[true,false,true] },pW,pW,{},pX,{ takes:=[true,false,true] },pW,pW,{},pX,{ takes:=[true,false,true] },pW,pW,pW,pX,{ takes:=[true,false,true] },pW,pW,pW,pX,{ takes:=[true,false,true] }],[],[{},{ mode:=3 },pW,{},pW,pW,pW],[{},{ mode:=3 },pW,{},pW,pW,pW],[{},{ mode:=3 },pW,{},pW,pW,pW],[{},{ mode:=3 },pW,{},pW,pW,pW],[{},{ mode:=3 },pW,{},pW,pW,pW],[{},{ mode:=3 },pW,{},pW,pW,pW],[pW,{ mode:=3 },pW,{},pW,pW,pW],[pW,{ mode:=3 },pW,{},pW,pW,pW],[pW,pW,pW,pX,pW,pW,pW,pX,pX,pW,pW,pW,pX,pW,pW,pW,pX,pW,pW,pW,{ mode:=3 },pX,pW,pW,pX,pW,pW,pX,pW,pW,pW,{ mode:=3 },pX,pW,pW,pW,pX,pW,pW,pW,pX,pW,pW,pW,{ mode:=3 },pX,pW,{ mode:=3 },pX,pW]],h7:=[(0,(Ez false [1,3,3,2,251])),(2,(Ez false [1,3,3,1,4,3,1,2,242]))] }
def abx:c7:={ two:=[(12,8)],ops:=[[{ takes:=[true],mode:=1 }],[{},{ mode:=3 },pW,pW,{},pW,pW,pW,{ takes:=[true,false,true] }],[{ mode:=3 },pW],[{},{ mode:=3 },pW,{},pW,pW,pW],[{},{ mode:=3 },pW,{},pW,pW,pW],(p0 [1,1,0,1,1,2,1]),[],[],(p0 [0,0,1,1,2]),(p0 [1,1,1]),(p0 [0,0,2]),(p0 [1,0,1,2,1]),[{},pW,{ mode:=3 },{},{ takes:=[true],mode:=3 },{},pX,{ takes:=[true],mode:=3 },{},{},{ takes:=[false,true] },{ takes:=[false,true] }],[{},{},pW,{},pW,{ mode:=3 },pW,{},pW,pW,pW],[pW,{ mode:=3 },pW,{},pW,pW,pW],[{},{ mode:=3 },pW,{},pW,pW,pW],[pW,pW,pW,pW,pW,pW,{},pW,pW,pX,{ takes:=[true,false,true] },pW,pW,pW,{ takes:=[true,false,true] },pW,pW,pW,{ takes:=[true,false,true] }],[],(p0 [0,1,0,1,2]),[pW,pW,pW,pW,pW,{ mode:=3 },pW,pX,pW,{ mode:=3 },pX,pW],[pW,pW,{ mode:=3 },{},pW,pX,pW,{},pW,pW,{},pW,pX,{ takes:=[true,false,true] }],[],[pW,pW],[pW,pW,{ mode:=3 },pW,{},{},pW,pW,pW,pW],[pW,pW,pW,pW,pW,pW,pW,pX,pX,pW,{ mode:=3 },pX,pW],[pW,{ mode:=3 },pW],[pW,pW,pW,pW,pX,pW,{},{},pW,pX,pW,pW,{ takes:=[true,false,true] },pW,pW,pW,pW,pX,pW,pW,{ takes:=[true,false,true] },pW,{ mode:=3 },pX,pW]],h7:=[(0,(Ez false [2,1,2,2,1,4,175]))] }
def abE:c7:={ ops:=[[],[],[],(p0 [1,1,0,1,2,1,1,0,1,2,1,1]),[],[],[],[],[],[{},pW,pX,pW,{},pW,pW,pW,pX,{ takes:=[false,false,true] },pW,{},pW,{},pW,pX,{ takes:=[false,false,true] },pW,{},pW,{},{},pX,pW,{},{},pX,pW,pX,pX,{ takes:=[false,false,true] }],[],[],[],[],[],[],[],[],[],[],[],[{},{},{},pX,pW,{ mode:=3 },pW]] }
def abK:c7:={ ops:=[[],[],[],[{},pW,{},pW,pX,{},{},pW,pX,pX,{},{ takes:=[false,true] }],[],[],[],[{},{ takes:=[true],mode:=1 },{},pW,{},pX,pW,pW,{},pW,pX,{},pW,{},pX,pW,pW,{},pW,pX,pX,pW,pX,{},pX]] }
def abT:c7:={ ops:=[[],[{ mode:=3 },{ mode:=3 },{ mode:=3 },{},{},{},{ takes:=[false,true] },{ takes:=[false,true] },{ takes:=[false,true] }],[{},{},{ mode:=3 },{ mode:=3 },pW,{},{},{},pW,pW,pW],[{},{},{ mode:=3 },{ mode:=3 },pW],[{},{ mode:=3 },pW,{},pW,pW,pW],[{},{ mode:=3 },pW,{},pW,pW,pW],[{},{ mode:=3 },pW,{},pW,pW,pW],[{},{ mode:=3 },pW,{},pW,pW,pW],[{},{ mode:=3 },pW,{},pW,pW,pW],[{},{ mode:=3 },pW,{},pW,pW,pW],[{},{ mode:=3 },pW,{},pW,pW,pW],[{},{ mode:=3 },pW,{},pW,pW,pW],[pW,{ mode:=3 },pW,{},pW,pW,pW],[pW,{ mode:=3 },pW,{},pW,pW,pW],[pW,pW,pW,pW,pW,pX,pW,pW,pW,pX,pW,pW,pW,pX,pW,pW,pW,pX,pW,pW,{},{ mode:=3 },{ mode:=3 },pX,pW,pW,pW,pX,pW,pW,{},{ mode:=3 },pW,{ mode:=3 },{ mode:=3 },pX,pW,pW,pW,pX,pW,pW,pW,pX,pW,pW,pW,pX,pW,pW,pW,pX,pW,pW,pW,pX,pW,pW,pW,pX,pW,pW,pW,pX,pW,pW,pW,pX,pW,pW,pW,pX,pW,pW,{},{ mode:=3 },{ mode:=3 },pX,pW,pW,pW,pX,pW,pW,{},{ mode:=3 },{ mode:=3 },pX,pW,pW,pW,pX,pW,pW,pW,pW,pX,pW,pW,pW,pX,pW,pW,{},{ mode:=3 },{ mode:=3 },pX,pW,pW,{ mode:=3 },pW,pX,pW,{ mode:=3 },pX,pW]] }
def Vw:c7:={ ops:=[[pW],(p0 [1,1,1,1,1])] }
def abV:c7:={ ops:=[[],[{ mode:=3 },{ mode:=3 },{ mode:=3 },{},{},{},{ takes:=[false,true] },{ takes:=[false,true] },{ takes:=[false,true] }],[{},{},{ mode:=3 },{ mode:=3 },pW,{},{},{},pW,pW,pW],[{},{},{ mode:=3 },{ mode:=3 },pW,{},{},{},pW,pW,pW],[{},{},{ mode:=3 },{ mode:=3 },pW,{},{},{},pW,pW,pW],[{},{},{ mode:=3 },{ mode:=3 },pW,{},{},{},pW,pW,pW],[{},{ mode:=3 },pW,{},{},pW,pW,pW,pW],[{},{},{ mode:=3 },{},{ mode:=3 },pX,{ mode:=3 },{ mode:=3 },pW,{},{},pW,pW],[{},{},{ mode:=3 },pW,{ mode:=3 },{ mode:=3 },pW,{},{},pW,pW],[{},{},{ mode:=3 },{},{ mode:=3 },pX,{ mode:=3 },{ mode:=3 },pW,{},{},pW,pW],[{},{},{ mode:=3 },{ mode:=3 },{},{},{ mode:=3 },{ mode:=3 },pW,pW],[{},{ mode:=3 },pW,{},pW,pW,pW],[{},{ mode:=3 },pW,{},pW,pW,pW],[{},{ mode:=3 },pW,{},pW,pW,pW],[{},{ mode:=3 },pW,{},pW,pW,pW],[{},{ mode:=3 },pW,{},pW,pW,pW],[{},{ mode:=3 },pW,{},pW,pW,pW],[{},{ mode:=3 },pW,{},pW,pW,pW],[{},{ mode:=3 },pW,{},pW,pW,pW],[{},{ mode:=3 },pW,{},pW,pW,pW],[{},{ mode:=3 },pW,{},pW,pW,pW],[{},{ mode:=3 },pW,{},pW,pW,pW],[pW,{ mode:=3 },pW,{},pW,pW,pW],[{},{ mode:=3 },pW,{},pW,pW,pW],[pW,pW,pW,pW,pW,{ takes:=[true,false,true] },pW,pW,pW,{ takes:=[true,false,true] },pW,pW,pW,{ takes:=[true,false,true] },pW,pW,pW,{ takes:=[true,false,true] },pW,pW,pW,{ takes:=[true,false,true] },pW,pW,pW,{ takes:=[true,false,true] },pW,pW,pW,{ takes:=[true,false,true] },pW,pW,pW,{ takes:=[true,false,true] },pW,pW,pW,{ takes:=[true,false,true] },pW,pW,pW,{ takes:=[true,false,true] },pW,pW,pW,{ takes:=[true,false,true] },pW,pW,pW,{ takes:=[true,false,true] },pW,pW,pW,{ takes:=[true,false,true] },pW,pW,pW,{ takes:=[true,false,true] },pW,pW,pW,{ takes:=[true,false,true] },pW,pW,pW,{ takes:=[true,false,true] },pW,pW,pW,{ takes:=[true,false,true] },pW,pW,pW,{ takes:=[true,false,true] },pW,pW,pW,{ takes:=[true,false,true] },pW,pW,pW,{ takes:=[true,false,true] },pW,pW,pW,{ takes:=[true,false,true] },pW,pW,pW,{ takes:=[true,false,true] }],[],[pW,pW,pW,pW,pW,{ takes:=[true,false,true] },pW,pW,pW,{ takes:=[true,false,true] },pW,pW,{},{ mode:=3 },{ mode:=3 },pW,{ takes:=[true,false,true] },pW,pW,{},{ mode:=3 },{},{ mode:=3 },{},{ mode:=3 },{ takes:=[true,true,true] },{ mode:=3 },{ mode:=3 },pW,{ takes:=[true,false,true] },pW,pW,pW,{ takes:=[true,false,true] },pW,pW,{},{ mode:=3 },{ mode:=3 },pW,{ takes:=[true,false,true] },pW,pW,pW,{ takes:=[true,false,true] },pW,pW,{},{ mode:=3 },{ mode:=3 },pW,{ takes:=[true,false,true] },pW,pW,{},{ mode:=3 },{ mode:=3 },pW,{ takes:=[true,false,true] }],[],[pW,pW,{ mode:=3 },pW,{},pW,pW,pW],[pW,pW,pW,pW,pW,pX,pW,pW,pW,{ mode:=3 },pW,pX,pW]] }
def Nr:c7:={ ops:=[[pW],[{},{ mode:=3 },pW,{},pW,pW,pW],[pW,pW],(p0 [0,1,1]),(p0 [1,0,0,1]),(p0 [0,1,1,1]),[],[{},pW,{ mode:=6 },pW],[],[],[{},pW],[],[],[{},pW,{},{ takes:=[false,true] }],[{},pW,{ takes:=[false,true] },pW,pW],[],[pW,pW,{ takes:=[false,true] },pW],[pW,pW],[{},{},pW,pW,{ mode:=3 },pW,{},pW,pW,pW],[{},pW],[pW],[],[{},pW,{},{ takes:=[false,true] }],[{},pW,{ mode:=3 },pW,{},pW,pW,pW],(p0 [1,1,2]),[],[pW,pW],[pW,pW],(p0 [1,1,1,1])],h7:=[(1,(Ez false [1,1,5,1,2,1,28,3,40])),(3,(Ez false [7,1,5,1,1,1,47,3,16]))] }
def Ns:c7:={ ops:=[[pW],[{},{ mode:=3 },pW],[pW,{ mode:=3 },{},{},pW],(p0 [0,1,1]),[{},pW],[],[],(p0 [0,0,2]),(p0 [1,1,1]),[{},{},pX,pW,pW,pW,pW,{},{},pX,pW,pW,{},pW,pW,pX,{ takes:=[false,false,true] },pW,{},{},pX,pW,pW,pW,{ takes:=[false,false,true] },pW,{},{},pX,pW,pW,pW,{ takes:=[false,false,true] }],[],[],(p0 [0,0,2]),(p0 [1,1,1]),[{},{},pX,{},{},pX,pW,pW,{ mode:=3 }],[],[],(p0 [0,0,2]),(p0 [1,1,1]),[{},{},{},pW,pX,pW,{ mode:=3 },{},{},{},pX,pW,{ mode:=3 },pX],[],[{},{},pW,pW,{ mode:=3 },{},{},pW,pW,pX,pW,{ mode:=3 },pW,pW]],h7:=[(0,(Ez false [1,2,4,2,94])),(2,(Ez false [1,2,4,1,1,1,93])),(4,(Ez false [1,2,4,1,2,1,92]))] }
def Vx:c7:={ ops:=[[pW],[{},pW],[{},pW,pW,{ mode:=3 },pW,pW,{},pW,pW,pW,{ takes:=[true,false,true] },pW],[],[pW,pW,pW,{ mode:=6 },pW],[],[]] }
def Rl:c7:={ ops:=[[pW],[{},pW,pW,pW,{},pW,pW,{ takes:=[true,false,true] },pW,{},pW,pW,pW,{ takes:=[true,false,true] }],[],[],(p0 [0,0,1,1,2]),(p0 [1,1,1]),[{},pW,{},pX,pW,{},{ takes:=[false,true] }],[{},pW,pW,pW,{},pW,{},pW,pX,{ takes:=[true,false,true] },pW,{},pW,pW,{ takes:=[true,false,true] },pW,pW,pW,{},pW,pX,{ takes:=[true,false,true] }],[],[]],h7:=[(0,(Ez false [1,1,1,1,49]))] }
def abX:c7:={ ops:=[[pW],[{},{},{ mode:=3 },pW,{},{},pW,pW,pW,pW],(p0 [0,1,1]),[pW,pW],(p0 [1,1,1,1,1,2,1]),[],(p0 [1,1,2,1]),[],[]] }
def abY:c7:={ ops:=[[pW],[{},{},{ mode:=3 },pW,{},{},pW,pW,pW,pW],[{},pW],[pW,pW],(p0 [1,1,1,1,1,2]),[],(p0 [1,1,2]),[],[]] }
def Rm:c7:={ ops:=[[],(p0 [0,1,1]),[],(p0 [0,0,1,2]),(p0 [1,1,1]),(p0 [1,0,0,2,1,1,2,1]),(p0 [1,1,1])],h7:=[(0,(Ez false [0,1,2,2,17]))] }
def Vy:c7:={ ops:=[[pW],[{},{ mode:=3 },pW],[{},pW],(p0 [1,0,1]),[],[],[],(p0 [0,1,1]),[{},{},{ mode:=3 },pW,{},{},pW,pW,pW,pW],[{},pW],(p0 [1,0,1]),[pW],[],[{},pW,{},{ takes:=[false,true] }],[{},{},pW,{},pW,{ takes:=[true,true,true] },pW,pW,pW,pX,pW],[pW,pW],[pW,pW],[{ takes:=[true],mode:=1 },{ takes:=[false,true],mode:=1 }],[{},{},{ takes:=[false,true],mode:=1 },pW,{},pW,pX,pW],[],(p0 [1,1,1,1,1,2,1]),[],(p0 [1,1,1])],h7:=[(0,(Ez false [1,2,4,1,12,3,50])),(2,(Ez false [1,2,4,1,12,3,13,3,34]))] }
def O9:c7:={ ops:=[[pW],[{},{ mode:=3 },pW],[pW,{ mode:=3 },{},pW],[],[],(p0 [0,0,1,2]),(p0 [1,1,1]),[{},{},{},pX,pW,{ mode:=3 },pW,{},{},{},pW,pW,pW],[{},pW],(p0 [1,0,1]),(p0 [1,0,0,2,1,2,1]),[],(p0 [0,0,1,2]),(p0 [1,1,1]),[{},{},pX,{},{},pX,pW,pW,{ mode:=3 }],[],(p0 [1,1,1,1,1,2]),[],(p0 [1,1,1])],h7:=[(0,(Ez false [1,2,3,2,57])),(2,(Ez false [1,2,3,1,4,1,53]))] }
def Vz:c7:={ ops:=[[pW],[pW,{ mode:=3 },pW,{},pW,pW,pW],[{},pW],(p0 [1,0,1]),[{},pW,{ mode:=3 },{ mode:=3 },pW],[{},pW,{ takes:=[false,true] },pW],(p0 [0,1,2]),[pW,pW]] }
def VA:c7:={ ops:=[[pW],[pW,{ mode:=3 },pW,{},pW,pW,pW],[{},pW],(p0 [1,0,1]),[{},pW,{ mode:=3 },{ mode:=3 },pW]] }
def O_:c7:={ ops:=[[pW],[{},{ mode:=3 },pW,{},pW,pW,pW],[{},pW],(p0 [1,0,1]),[],[pW,pW],[],[{},{},pW,{},pW,{ takes:=[false,true] }],[{},{},pW,{},{ mode:=3 },{},{ takes:=[false,true] }],(p0 [1,1,2,1,1]),(p0 [1,1,1,2,1]),[pW,pW],[pW,pW]],h7:=[(0,(Ez false [4,1,1,1,12,3,20]))] }
def Rn:c7:={ ops:=[[],(p0 [0,1,0,1,2]),[],[],(p0 [0,0,1,2]),(p0 [1,1,1]),(p0 [0,0,2,1,0,0,2,1,2]),[],[]],h7:=[(0,(Ez false [0,2,3,1,20]))] }
def Ro:c7:={ ops:=[[],(p0 [0,1,0,1,2]),[],[],(p0 [0,0,1,2]),(p0 [1,1,1]),[{},{},pX,pW,{},{},pX,pW,{ mode:=3 },pW],[],[]],h7:=[(0,(Ez false [0,2,3,1,21]))] }
def VB:c7:={ ops:=[[pW],[pW,{ mode:=3 },pW,{},pW,pW,pW],[{},pW],(p0 [1,0,1]),[pW,{ mode:=3 },pW,pW]] }
def ab0:c7:={ ops:=[[pW],[{},{ mode:=3 },pW,{},pW,pW,pW],(p0 [0,1,1]),(p0 [1,0,1]),(p0 [1,1,1,1,1]),[],[{},{ mode:=3 },pW,pW,pW],[],[pW,{ mode:=3 },pW]] }
def ab1:c7:={ ops:=[[],[],[],[],[],[],[],[],[],[],[],[],[],[],[],[],[],[],[],[{},pW,pW,pW,{},pW,pW,{},{},{},{ mode:=3 },pX,{ takes:=[false,false,true] },{ takes:=[false,true] },pW,{},{},{},pW,{ mode:=3 },{},{},{ mode:=3 },{ mode:=3 },{ takes:=[false,true] }],[],[],[],[pW,{},pW,pW,pW,pX,pW,{},pW,pW,pW,{ mode:=3 },{},{},pW,pW,{ mode:=3 },pW,pW,pW]] }
def ab2:c7:={ ops:=[[pW],[{},{ mode:=3 },pW,{},pW,pW,pW],[pW,pW],[],[pW,{ mode:=3 },{},pW,pW,pW]] }
def VC:c7:={ ops:=[[pW],[pW,{ mode:=3 },pW,{},pW,pW,pW],[{},pW],(p0 [1,0,1]),[pW,{ mode:=3 },pW]] }
def ab3:c7:={ ops:=[[pW],[{},{ mode:=3 },pW,{},pW,pW,pW],[{},pW],(p0 [1,0,1]),[pW,{},{ mode:=3 },pW],[],[pW,pW]] }
def ab4:c7:={ ops:=[[],(p0 [0,1,0,1,2]),[],[],(p0 [0,0,1,2]),(p0 [1,1,1]),(p0 [0,0,2,1,0,0,2,1,2]),[],[]],h7:=[(0,(Ez false [0,2,3,1,20]))] }
def ab5:c7:={ ops:=[[pW,pW],[{},{ mode:=3 },pW,{},pW,{},{ takes:=[false,true] },pW],(p0 [0,1,1]),(p0 [1,0,1]),[pW,pW,pW,{},{},pX,{ mode:=3 },pW,pW,{},{},pX,{ takes:=[true,false,true] },pW],[],[{},{},{ mode:=3 },{},{ takes:=[false,true] }],[{},{ takes:=[false,true] },pW,pW],[],[{ mode:=1 }],(p0 [0,0,2]),[{},{},{ mode:=3 }],[{},{ takes:=[false,true] }],[pW,{},{ mode:=3 },pW,{},pW,pW,pW],[{},{ takes:=[false,true] },pW,{},{ takes:=[false,true] },pW,pW,pX],[{ mode:=1 },pW,pW,pX,pW,pX,pX],[pW,pW]],h7:=[(1,(Ez false [2,1,1,1,3,1,1,2,60]))] }
def VD:c7:={ ops:=[[pW],[{},{ mode:=3 },pW,pW,pW,{ mode:=3 },pW,pX,pW]] }
def VE:c7:={ ops:=[[pW],[{},{ mode:=3 },pW,{},pW,pW,pW],[{},{ mode:=3 },pW,{},pW,pW,pW],[pW,pW,pW,pW,pW,{ takes:=[true,false,true] },pW,{},{ mode:=3 },{ takes:=[true,false,true] }],[pW,pW],[{},{},{ mode:=3 },pW,{},pW,pW,pW],[pW,pW,{ mode:=3 },pW,{},pW,pW,pW],(p0 [0,1,1,1,1,1,2,1,1,0,2,2,1,1,1,2,2,1,1])] }
def O':c7:={ ops:=[[pW],[{},{ mode:=3 },pW,{},pW,pW,pW],[pW,pW,pW,{},pW,{},pW,pW,pX,{ takes:=[true,false,true] }],[],[pW,pW,pW,{ takes:=[false,true] },pW],[],[],(p0 [0,0,1,2]),(p0 [1,1,1]),[],(p0 [0,0,0,2,1,1,2]),(p0 [1,1,1]),(p0 [0,0,2,1,0,2,1,1]),[{},pW,pW,{},{},pW,pX,{ takes:=[true,false,true] },pW,{},{},pX,pW,pW,{ takes:=[true,false,true] }],[],(p0 [0,1,2,1]),(p0 [1,1,1]),(p0 [0,0,2,1,1,1]),[],(p0 [1,1,1,1,2,1,1])],h7:=[(0,(Ez false [4,1,1,3,74])),(2,(Ez false [4,1,1,4,73]))] }
def ab6:c7:={ ops:=[[],[],[],[],[],[],[],[],[],[],[],[],[],[],[{},{},{ mode:=3 },pW,pW,{},pW,pW,pW,{},{},{},pW,pW,pX,pW,{ mode:=3 },{},{},{ mode:=3 },pX,{ takes:=[false,false,true] },{ takes:=[false,true] }],[],[],[],[],[],[],(p0 [1,0,0,2,1,1,2,1,0,0,2,1,1,2,1,1])] }
def ab7:c7:={ ops:=[[],[],[],[],[],[{},{ takes:=[true],mode:=1 },{},pW,{},{},pX,pW,pX,pW,pW,pX,{},pX]] }
def ab8:c7:={ ops:=[[],[pW,pW]] }
def Rp:c7:={ ops:=[[],[],(p0 [0,1,1,1]),[{},pW],(p0 [1,1,1]),[pW,{},{},pX,pW,pW,{},{},pX,pW,pW,{ takes:=[false,true] },pX,pW,pX,pW],[pW,pW]],h7:=[(0,(Ez false [0,1,2,2,23]))] }
def ab9:c7:={ ops:=[[],[],[],[],[],[],[],[],[],[],[],[],(p0 [0,1,0,2,1,1,0,1,0,2,1,1,1,1]),[],(p0 [0,0,2,1,0,0,2,1,2,1])] }
def VF:c7:={ ops:=[[pW,pW],(p0 [0,1,1]),(p0 [1,1,1,1,2,1,1,1]),(p0 [1,1,1,1,2,1,1,1])] }
def ab_:c7:={ ops:=[[],[{},{ mode:=3 },{ takes:=[false,true] }]] }
def aca:c7:={ ops:=[[],[{},{ mode:=3 },{ takes:=[false,true] }]] }
def acb:c7:={ ops:=[[],[{},{ mode:=3 },{ takes:=[false,true] }]] }
def acd:c7:={ ops:=[[],[],[],(p0 [0,1,0,1,2]),(p0 [1,1,1]),(p0 [1,0,0,2,1,0,0,1,2,1,2,1,2,1]),[pW,pW]],h7:=[(0,(Ez false [0,1,2,2,21]))] }
def ace:c7:={ ops:=[[],[pW,pW]] }
def acf:c7:={ ops:=[[],[pW,pW]] }
def VG:c7:={ ops:=[[pW],[{},{ mode:=3 },pW],[{},pW],(p0 [1,0,1]),[pW,pW,{ takes:=[true],mode:=1 },pW]] }
def VH:c7:={ ops:=[[pW],[pW,pW,pW,pW,{},pW,pW,{ mode:=3 },pW,pW,pW,pW,pW,{ mode:=3 },pW,{ takes:=[true,false,true] },pW]] }
def VI:c7:={ ops:=[[pW,pW],[pW,pX,{ mode:=6 },pW,pW]] }
def VJ:c7:={ ops:=[[],[pW,pW,{ mode:=6 },pW,pW]] }
def VK:c7:={ ops:=[[pW],[pW,pW,pW,pW,pW,{},pW,pX,pW,{},{ takes:=[false,true] }],(p0 [1,1,1]),(p0 [0,1,0,1,1,1]),(p0 [0,1,0,1,1,1])] }
def Rq:c7:={ ops:=[[],[],(p0 [0,0,1,2]),(p0 [1,1,1]),(p0 [0,0,2,1,1,0,2]),[],[]],h7:=[(0,(Ez false [0,2,3,1,13]))] }
def VL:c7:={ ops:=[[pW,pW],(p0 [0,1,1]),(p0 [1,1,1,1,2,1,1,1]),(p0 [1,1,1,1,2,1,1,1])] }
def VM:c7:={ ops:=[[pW],[pW,pW,pW,{},pW,pW,pW,pX,{ mode:=3 },pW,pW]] }
def VN:c7:={ ops:=[[],[pW,pW,{ mode:=6 },pW,pW]] }
def VO:c7:={ ops:=[(p0 [0,1,1]),[pW,{},pW,pW,{ mode:=3 },{ takes:=[false,true,false,true,true],mode:=1 }]] }
def Rr:c7:={ ops:=[[],[{ takes:=[true],mode:=1 },pW,pW],[pW,pW],[],(p0 [0,0,1,2]),(p0 [1,1,1]),(p0 [0,0,2,1,0,0,1,2,1,2]),(p0 [0,0,2,1]),[],(p0 [0,0,1,2]),(p0 [1,1,1]),(p0 [0,0,2,1,0,0,1,2,1,2]),(p0 [0,0,0,0,2,1,2,2]),(p0 [1,1,1]),(p0 [0,0,2,1]),(p0 [1,1,2,1]),[pW,pW]],h7:=[(0,(Ez false [0,1,2,1,57])),(2,(Ez false [0,1,2,3,55]))] }
def VP:c7:={ ops:=[[],[{},pW],[],(p0 [0,1,2,1])] }
def Pa:c7:={ ops:=[[],[],[pW],[],(p0 [0,1,1]),[{},pW,pW,pW,pW,{},pX,pW,pW,{},pW,pW,{ takes:=[false,true] },pX],[{},pW,pW,pW,pW,pW,pX,pW,pW,{},pW,pW,{ takes:=[false,true] },pX],[pW,pW],(p0 [0,0,2]),[],[],[pW],[],(p0 [0,0,1,1]),(p0 [1,1,1]),[{},{},pW,pW,pW,{ takes:=[true,true,true] },pW,pW,pX,pW],[pW,pW],[pW,pW]],h7:=[(0,(Ez false [0,1,4,1,5,3,52])),(2,(Ez false [8,1,38,2,17]))] }
def Rs:c7:={ ops:=[[],[],(p0 [1,1,1,1,1,1]),[],[{},pW],(p0 [1,1,1,2,1]),[pW,pW],[pW,pW]],h7:=[(0,(Ez false [3,1,6,2,8]))] }
def Mo:c7:={ ops:=[[pW],[{ takes:=[true],mode:=1 }],[pW],[],[{},pW,{},{ takes:=[false,true] }],[{},pW],(p0 [1,1,1]),[],[],(p0 [0,1,1]),[{},{},{ mode:=6 }],(p0 [1,1,2,1]),[pW,pW],[{ takes:=[true],mode:=1 },{ takes:=[false,true],mode:=1 }],[pW,pW,{ takes:=[false,true,true],mode:=1 },{ takes:=[true],mode:=2 },pW,{ takes:=[true,true],mode:=1 },pW],[pW,pW],[{},{ takes:=[false,true],mode:=1 }],[{ takes:=[true],mode:=2 },pW]],h7:=[(0,(Ez false [2,1,2,1,6,3,31])),(2,(Ez false [2,1,2,1,2,2,2,3,6,3,22]))] }
def aci:c7:={ ops:=[[],[],[],[],[],[],[],[],[],[],[],(p0 [0,0,2,1,0,0,1,0,2,1,1,2,1,2])] }
def HN:c7:={ ops:=[[pW,pW],[],[],[],[{},pW],[pW,{ takes:=[false,true] },pW],[pW,pW],[{},{ takes:=[false,true] },pW],[pW,pW,{},{ takes:=[false,true] }],(p0 [0,1,1]),[{},pW,pW,{},{ takes:=[false,true] }],[{ mode:=1 },pW,{ takes:=[false,true] }],[{},{},{ mode:=3 }],[{},{ takes:=[false,true] }],[pW,{},{ mode:=3 },pW,{},pW,pW,pW],[pW,pW,pW,pX,pW,{},{ takes:=[false,true] },pW,pW,pX],[{},pW,{ takes:=[false,true] },pW,pW,pX,pX],[{ mode:=1 },pW,pW,pX,pX],[pW,{ takes:=[false,true] }]],h7:=[(0,(Ez false [1,1,1,1,1,3,6,1,48])),(2,(Ez false [3,1,1,3,1,1,53]))] }
def acj:c7:={ ops:=[[],[],(p0 [0,0,1,0,2,1,1,2,1,0,0,1,0,2,1,1,2,1,2,1])] }
def JY:c7:={ ops:=[[],[],[{},{},{ mode:=3 },{ mode:=3 }],[],[{},pW,{},{ takes:=[false,true] }],[{},pW,pW,pW,pW,pW,pW,{},{ takes:=[false,true] }],[],[],(p0 [0,1,1]),[{},pW,{ takes:=[true],mode:=1 },{},pW,pW,pW,pW,pW,pX,pW,pW,pX,{},pW,pX],[pW,pW],[{},{},{ mode:=3 },pW],[],(p0 [0,1,0,1,2]),(p0 [1,1,1]),[{},pW,{ takes:=[true],mode:=1 },{},{},pX,pW,{},{},pW,pX,pW,pX,pW,pX,{},pW,pX],[{ mode:=7 },pW],[{},{},{ mode:=6 },pW],[{},pW],[{},{},pW,pX,{},{},pW,pX,pX,{ mode:=3 },pW],[],[pW],[],[{},pW,{},{ takes:=[false,true] }],(p0 [0,1,0,1,2]),(p0 [1,0,0,1,2,1,0,1,2,1,2,1]),(p0 [1,1,1,2,1]),[pW,pW],(p0 [0,1,1]),(p0 [1,1,1,2,1]),[pW,pW],[pW,pW]],h7:=[(0,(Ez false [0,1,2,1,15,3,111])),(2,(Ez false [0,1,2,1,1,2,12,3,10,3,98])),(4,(Ez false [0,1,2,1,1,2,2,2,8,3,111])),(6,(Ez false [0,1,2,1,1,1,7,1,5,3,75,3,33]))] }
def ack:c7:={ ops:=[[],[],[],[],[],[],[pW,{},{},{},pX,pW,{ mode:=3 },{ mode:=3 },pW,pW,{ takes:=[false,true] },pX,pW]] }
def acm:c7:={ ops:=[[],[],[{},{ mode:=3 },{ takes:=[true],mode:=1 }],[],(p0 [0,1,1]),[],[],[],[{},pW,{},{ takes:=[false,true] }],[{},{},{},{ takes:=[false,true,true],mode:=1 },{ takes:=[true],mode:=2 }],[],[],[{},pW],[{},pW,pX,{},{ takes:=[false,true] }],[{},{},{ mode:=3 },pW,{},pW,pW,pW],[{},pW,pW,pW,{},pX,{ takes:=[true,false,true] },pW,{},{},pW,{ mode:=3 },pX],(p0 [1,1,1,2,1]),[pW,pW],[pW,pW],(p0 [0,1,1]),[pW,pW],[pW,{ mode:=3 },{},{ takes:=[false,true] }],(p0 [1,0,1,2,1]),[pW,{},{ takes:=[false,true,true],mode:=1 },pW],[{},pW,{ mode:=3 },pW,{},pW,pW],[pW,pW]],h7:=[(0,(Ez false [0,1,2,3,75])),(2,(Ez false [0,1,2,4,13,3,58])),(4,(Ez false [0,1,2,4,1,2,10,3,7,1,50]))] }
def VQ:c7:={ ops:=[[pW,pW],[pX,pW]] }
def aco:c7:={ ops:=[[],[],[],[],[],[],[],[],[],[],[],[{},{},{},pX,{},pW,pX,{},{},{ mode:=3 },{},{},pW,{ mode:=3 },pW,{},{},pW,pW]] }
def acp:c7:={ ops:=[[],[pW,pW,{},{ takes:=[false,true] }],[],(p0 [0,1,0,1,2]),(p0 [1,1,1]),[{},{ takes:=[true],mode:=1 },{},{},pX,pW,{},{},pW,pX,pW,pX,pW,pX,{},pX],[pW,{ takes:=[false,true] }]],h7:=[(0,(Ez false [1,1,2,3,25]))] }
def VR:c7:={ ops:=[[],[pW,pW,{ mode:=6 },pW,pW]] }
def VS:c7:={ ops:=[[],[{},pW,pX,pW,pW,pW,pX,{ takes:=[true,false,true] },pW]] }
def Rt:c7:={ ops:=[[],[{},pW],[],[{},pW],[{},{},{},pX,pW,{ mode:=6 }],[pW,pW],[pW,pW],[]],h7:=[(0,(Ez false [0,2,5,2,10]))] }
def Ru:c7:={ ops:=[[],[{},pW],[],[{},pW],[{},{},{},pX,pW,{ mode:=6 }],[pW,pW],[pW,pW],[]],h7:=[(0,(Ez false [0,2,5,2,10]))] }
def VT:c7:={ ops:=[[],[],(p0 [0,0,2,1]),[{},pW],[pW,pW,pW,{ takes:=[false,true,true,true],mode:=1 }],[{},pW],[pW,pW,pW,{ takes:=[false,true,true,true],mode:=1 }],[{},pW],[{},{},{},{ takes:=[false,true,true,true],mode:=1 }],(p0 [1,1,1]),[{},{},{},{ takes:=[false,true,true,true],mode:=1 },pW,{},pW,pW,pW],[{},pW],[{},{},{},{ takes:=[false,true,true,true],mode:=1 }],(p0 [0,1,1,0,2,2,1]),[],(p0 [0,1,0,2,1,1,1,2]),[{},{},{},{ takes:=[false,true,true,true],mode:=1 }],[{},pW,pW,{},{},pW,pX,pW,{},{},pX,pW,{ mode:=3 },pW,{ takes:=[false,true] }],[{},pW,{},pW,{ takes:=[false,true,true,true,true],mode:=1 },pW],[pW,pW],[{},{},{},pW,{ takes:=[false,true,true,true,true],mode:=1 },pW,{},pW,pW,pW],[pW,pW],(p0 [0,0,2,0,0,2,1,1]),(p0 [1,1,1]),(p0 [0,0,2]),(p0 [1,1,2,1]),[{},pW,{},{},{ takes:=[false,true,true,true,true],mode:=1 }],(p0 [1,1,1]),(p0 [1,1,2,1]),[{},{},pW,pW,{},{ takes:=[false,true,true,true,true],mode:=1 }],[pW,pW]],h7:=[(0,(Ez false [0,4,4,2,124]))] }
def acq:c7:={ ops:=[[],[pW,pW,{ mode:=3 },pW],[pW,{ mode:=3 },pW]] }
def VU:c7:={ ops:=[[],[pW,pX,{ mode:=6 },pW]] }
def VV:c7:={ ops:=[[],[pW,pW,pW,{ mode:=3 },pW]] }
def Vk:c7:={ bad:=true,ops:=[[],[{},pW,pW,pW,pW,pW,pX,pW,{},pW,pW,pW,{ takes:=[true],mode:=3 },pW,pX,{ takes:=[true],mode:=3 },{},{},{ takes:=[false,true] },{ takes:=[false,true] }],[{},pW,{},pW,pX,pW,{},pW,{},pW,pX,{ takes:=[true,false,true] },pW,{},pW,{},pW,pX,{ takes:=[true,false,true] },pW,pW,pW,pW,pW,pX,{ takes:=[true,false,true] },pW]] }
def abl:c7:={ ops:=[[],(p0 [0,0,0,1]),[{},pW],[pW,{ takes:=[true],mode:=4 }],(p0 [0,1,1]),(p0 [0,0,1,2]),(p0 [1,1,1]),(p0 [0,0,2,1,1]),(p0 [0,0,0,1]),(p0 [0,0,1,2,2]),(p0 [1,1,1]),(p0 [0,0,2,1]),[pW,pW,pX,{ takes:=[true],mode:=4 }]],h7:=[(0,(Ez false [0,2,3,2,35]))] }
def Vl:c7:={ ops:=[(p0 [0,1,1]),[pW,{},pW,pW,{ mode:=3 },pW,{ takes:=[false,true,false,true,true,true],mode:=1 }]] }
def Vm:c7:={ ops:=[[],(p0 [1,1,1,1,1,1,2,1])] }
def Li:c7:={ ops:=[[pW],[{},{},{ takes:=[false,true] }],(p0 [0,1,1,1,1,1]),[],[{},pW],(p0 [0,0,1,0,0,1,2,2]),[pW,pW],[{ takes:=[true],mode:=1 }],[{},pW,pW,pW,pW,pW,pW,pW,{},{ takes:=[false,true] }],(p0 [0,1,1]),[{},{},{ mode:=3 }],[{},{ takes:=[false,true] }],(p0 [0,0,2,1]),(p0 [0,0,2]),[pW,{},pW,{},pW,{ takes:=[false,true] },pX,pX],[{ mode:=5 },{},pW,{ takes:=[true,true],mode:=1 },pX],[pW,pW,{ mode:=3 },pW,{},pW,pX],(p0 [0,1,1]),[{},{},pW,pW,pX,pW,{},{ takes:=[false,true] }],[{ mode:=5 },{},pW,pW,pX,{ takes:=[false,true] }],[pW,{},pW,{ takes:=[true,true],mode:=1 },pW],[{},pW,{ mode:=3 },pW,{},pW,{ takes:=[false,true] }],[{},{ takes:=[false,true],mode:=1 }],[{ takes:=[true],mode:=2 },pW]],h7:=[(0,(Ez false [1,1,1,1,13,2,73])),(2,(Ez false [1,1,1,1,1,4,83]))] }
def Vn:c7:={ ops:=[[pW],(p0 [1,1,1,1,2,1])] }
def O8:c7:={ ops:=[[],[],[],[],(p0 [0,1,1]),(p0 [1,1,1,2,1]),[{},pW],[{},pW],[pW,pW],(p0 [1,0,1]),[pW],[],(p0 [0,1,1]),(p0 [1,1,2,1]),[pW,pW],[pW,pW]],h7:=[(0,(Ez false [0,1,2,1,5,3,24])),(2,(Ez false [6,1,18,3,8]))] }
def abn:c7:={ ops:=[[],[{ takes:=[true],mode:=1 },{},{ mode:=6 },pW],[{},pW],[pW,pW],(p0 [0,1,1]),(p0 [0,0,1,2]),(p0 [1,1,1]),(p0 [0,0,2,1,1]),[{},{},{ mode:=6 },pW],(p0 [0,0,1,2,2]),(p0 [1,1,1]),(p0 [0,0,2,1]),(p0 [1,1,2,1])],h7:=[(0,(Ez false [0,2,3,2,35]))] }
def abo:c7:={ ops:=[[],(p0 [1,1,2,1])] }
def abp:c7:={ ops:=[[pW,pW],[{},pW],[{},{},{ mode:=3 },pW],(p0 [0,1,1,1]),[],[{},pW,pW,pW,{},pW,pW,pW,pW,pW,{ mode:=3 },pW,pX,{ takes:=[true,false,true] },pW,{},pW,{ mode:=6 },pW,{ takes:=[true,false,true] },pW],[],[pW,pW,{ mode:=3 },pW,pW,pW]] }
def abq:c7:={ ops:=[[],[{},pW,pW,{},{ takes:=[false,true] }],[pW,pW],[],[{},pW,{},{ takes:=[false,true] }],[{},{},{},{ mode:=6 }],[pW,{ takes:=[false,true] }],[pW,pW],[pW,{ takes:=[false,true] }]],h7:=[(0,(Ez false [1,1,2,2,6,3,10]))] }
def abr:c7:={ ops:=[[pW,pW],(p0 [1,1,1,1,2,1])] }
def abt:c7:={ ops:=[[],(p0 [1,1,1,2,1])] }
def Vo:c7:={ ops:=[(p0 [0,1,1,1,1,1]),[],[{},pW],[],[],[{},pW],[{},pW,pX,{},{ takes:=[false,true] }],[{},{},{ mode:=3 },pW,{},pW,pW,pW],[pW,{},pX,pW,{},pW,{ takes:=[true,true],mode:=1 },pW,pX],[pW,pW],[pW,pW]],h7:=[(0,(Ez false [0,3,11,2,25])),(2,(Ez false [0,3,1,1,9,2,2,1,22]))] }
def Rk:c7:={ ops:=[[],[{},pW],[],[{},pW],[{},{},{},pX,pW,{ mode:=6 }],[pW,pW],[pW,pW],[]],h7:=[(0,(Ez false [0,2,5,2,10]))] }
def Vp:c7:={ ops:=[(p0 [0,1,1]),(p0 [0,0,2]),(p0 [1,1,1]),[{},pW],[{},{},pX,pW,{},{},pX,pW,{},{},pW,pX,pW,{ mode:=3 },{ takes:=[false,true] }],(p0 [1,1,1]),(p0 [0,0,0,0,1,0,0,1,2,1,0,0,2,1,2,2,2,2])],h7:=[(0,(Ez false [0,3,3,1,42])),(2,(Ez false [0,3,3,2,41]))] }
def abu:c7:={ ops:=[[],[],[],[],[],[],[],[],[],[],(p0 [0,0,0,0,0,2,0,0,0,2,2,1,0,0,2,1,2,2,2,2])] }
def abv:c7:={ ops:=[[],[],[],[],[],[],[],[],[],[],(p0 [0,0,0,0,0,2,0,0,0,2,2,1,0,0,2,1,2,2,2,2])] }
def abw:c7:={ ops:=[[],[],[],(p0 [0,0,0,0,0,0,2,1,0,0,2,1,2,2,2,2])] }
def aby:c7:={ ops:=[[],[],[],[],[],[{},{},pX,pW,{},{},pX,pW,{},{},pW,pX,pW,{ mode:=3 },pW,{ takes:=[false,true] }],[],[],[],[],[],(p0 [0,0,0,0,1,0,0,1,2,1,0,0,2,1,2,2,2,2]),[],[],[],[],[{},{},pX,pW,{},{},pW,pX,pW,{ mode:=3 },pW],(p0 [0,0,0,0,1,0,0,1,2,1,0,0,2,1,2,2,2,2]),[],[],[],[],[{},{},pX,pW,{},{},pW,pX,pW,{ mode:=3 },pW],(p0 [0,0,0,0,1,0,0,1,2,1,0,0,2,1,2,2,2,2])] }
def Vq:c7:={ ops:=[[],[{},{ mode:=3 },pW,{},{ mode:=3 },pW,pX,pW,pW,pW,pX,{ takes:=[true,false,true] },pW]] }
def abz:c7:={ ops:=[[],(p0 [0,0,0,0,0,0,2,1,0,0,2,1,2,2,2,2]),[],[{},{},pX,pW,{},{},pX,pW,{},{},pX,pW,{ mode:=3 },pW,{ takes:=[false,true] }],[],[{},{},pX,pW,{},{},pX,pW,{},{},pX,pW,{ mode:=3 },{ takes:=[false,true] }],[],[],(p0 [0,0,0,0,0,0,2,1,0,0,2,1,2,2,2,2])] }
def abA:c7:={ ops:=[[],(p0 [0,0,0,0,0,0,2,1,0,0,2,1,2,2,2,2]),[],[{},{},pX,pW,{},{},pX,pW,{},{},pX,pW,{ mode:=3 },{ takes:=[false,true] }],[],[{},{},pX,pW,{},{},pX,pW,{},{},pX,pW,{ mode:=3 },pW,{ takes:=[false,true] }],[],[],(p0 [0,0,0,0,0,0,2,1,0,0,2,1,2,2,2,2]),[],(p0 [0,0,0,0,0,0,2,1,0,0,2,1,2,2,2,2]),[],[],[{},{},pX,pW,{},{},pX,pW,{},{},pX,pW,{ mode:=3 },{ takes:=[false,true] }],[],[{},{},pX,pW,{},{},pX,pW,{},{},pX,pW,{ mode:=3 },pW,{ takes:=[false,true] }],[],[],(p0 [0,0,0,0,0,0,2,1,0,0,2,1,2,2,2,2]),[],[],(p0 [0,0,0,0,0,0,2,1,0,0,2,1,2,2,2,2])] }
def abB:c7:={ ops:=[[],[{},pW],(p0 [1,1,1]),[],[{},pW],(p0 [1,1,1]),(p0 [1,1,1]),[pW,pW,pW,{ takes:=[false,true] },pW,pX,pW]] }
def abC:c7:={ ops:=[[],[{},pW],(p0 [1,1,1]),[],[{},pW],(p0 [1,1,1]),(p0 [1,1,1]),[{},pW],(p0 [1,1,1]),(p0 [1,1,1]),[pW,pW,pW,{ takes:=[false,true] },pW,pX,pW]] }
def Vr:c7:={ ops:=[[],[{},pW],[],[{},pW],[{},{},{},pX,pW,{ mode:=6 }],[pW,pW],[pW,pW],[]],h7:=[(0,(Ez false [0,2,5,2,10]))] }
def Vs:c7:={ ops:=[[],[],(p0 [0,0,2,1]),[{},pW],[pW,pW,pW,pW,{ takes:=[false,true,true,true,true],mode:=1 }],[{},pW],[pW,pW,pW,pW,{ takes:=[false,true,true,true,true],mode:=1 }],[{},pW],[{},{},{},{},{ takes:=[false,true,true,true,true],mode:=1 }],(p0 [1,1,1]),[{},{},{},{},{ takes:=[false,true,true,true,true],mode:=1 },pW,{},pW,pW,pW],[{},pW],[{},{},{},{},{ takes:=[false,true,true,true,true],mode:=1 }],(p0 [0,1,1,0,2,2,1]),[],(p0 [0,1,0,2,1,1,1,2]),[{},{},{},{},{ takes:=[false,true,true,true,true],mode:=1 }],[{},pW,pW,{},{},{},pW,pX,pW,{},{},pX,pW,{ mode:=6 },pW,pW,{ takes:=[false,true] }],[{},pW,{},pW,{},{ takes:=[false,true,true,true,true,true],mode:=1 },pW],[pW,pW],[{},{},{},pW,{},{ takes:=[false,true,true,true,true,true],mode:=1 },pW,{},pW,pW,pW],[pW,pW],(p0 [0,0,2,0,0,2,1,1]),(p0 [1,1,1]),(p0 [0,0,2]),(p0 [1,1,2,1]),[{},pW,{},{},{},{ takes:=[false,true,true,true,true,true],mode:=1 }],(p0 [1,1,1]),(p0 [1,1,2,1]),[{},{},pW,pW,{},{},{ takes:=[false,true,true,true,true,true],mode:=1 }],[pW,pW]],h7:=[(0,(Ez false [0,5,5,2,136]))] }
def Vt:c7:={ ops:=[(p0 [0,1,1,0,1]),(p0 [0,0,2]),(p0 [1,1,1,1,1,1]),(p0 [0,0,0,0,0,0,2,1,0,0,2,1,2,2,2,2])],h7:=[(0,(Ez false [0,1,1,2,24]))] }
def abD:c7:={ ops:=[[],[{},pW],[{},pW],(p0 [1,0,1,0,1,2,2,1]),[{},pW],(p0 [0,0,1,2,1,2,1,1,2,1]),[pW,pW]] }
def abF:c7:={ ops:=[[],[{},pW,pW,pW,pW,{},pX,pW,pW,{},pX,pW,{},pW,pW,pW,pW,{},pX,pW,pW,{},pX,{ takes:=[false,false,true] },pW]] }
def abG:c7:={ ops:=[[],[pW,pW,{ mode:=3 },pW,pW]] }
def abH:c7:={ ops:=[[],[],[],[{},pW,{},pX,pW,{},{},{},pX,pX,pW,{},{},{},pX,pW,pX,pW,{ mode:=3 },{ takes:=[false,true] }],[],[{},{},{},pX,pX,pW,{},{},{},pX,pX,pW,{ mode:=3 },pW],(p0 [0,0,0,2,0,0,0,2,0,0,0,2,2,1,0,0,0,2,2,1,2,2,2,2])] }
def abI:c7:={ ops:=[[],(p0 [0,0,1,0,1,1,1,2,0,2]),(p0 [0,0,1,0,1,1,1,2,0,2]),(p0 [0,0,1,0,1,1,1,2,0,2])] }
def Vu:c7:={ ops:=[[],(p0 [0,1,2,1])] }
def Vv:c7:={ ops:=[(p0 [0,1,1]),(p0 [0,0,2]),(p0 [1,1,1]),[{},pW],[{},{},pX,pW,{},{},{},pX,pW,{},{},pW,pX,pW,{ mode:=6 },pW,{ takes:=[false,true] }],(p0 [1,1,1]),(p0 [0,0,0,0,1,0,0,1,2,1,0,0,2,1,2,2,2,2])],h7:=[(0,(Ez false [0,4,4,1,44])),(2,(Ez false [0,4,4,2,43]))] }
def abJ:c7:={ ops:=[[],[],[],[],[],[],[],[],[],[],(p0 [0,0,0,0,0,2,0,0,0,2,2,1,0,0,2,1,2,2,2,2])] }
def abL:c7:={ ops:=[[],[],[],[],[],[],[],[],[],[],(p0 [0,0,0,0,0,2,0,0,0,2,2,1,0,0,2,1,2,2,2,2])] }
def abM:c7:={ ops:=[[],[],[],(p0 [0,0,0,0,0,0,2,1,0,0,2,1,2,2,2,2])] }
def abN:c7:={ ops:=[[],[],[],[],[],[{},{},pX,pW,{},{},{},pX,pW,{},{},pW,pX,pW,{ mode:=6 },pW,pW,{ takes:=[false,true] }],[],[],[],[],[],(p0 [0,0,0,0,1,0,0,1,2,1,0,0,2,1,2,2,2,2]),[],[],[],[],[{},{},{},pX,pW,{},{},pW,pX,pW,{ mode:=6 },pW,pW],(p0 [0,0,0,0,1,0,0,1,2,1,0,0,2,1,2,2,2,2]),[],[],[],[],[{},{},{},pX,pW,{},{},pW,pX,pW,{ mode:=6 },pW,pW],(p0 [0,0,0,0,1,0,0,1,2,1,0,0,2,1,2,2,2,2])] }
def abO:c7:={ ops:=[[],(p0 [0,0,0,0,0,0,2,1,0,0,2,1,2,2,2,2]),[],[{},{},pX,pW,{},{},{},pX,pW,{},{},pX,pW,{ mode:=6 },pW,pW,{ takes:=[false,true] }],[],[{},{},pX,pW,{},{},{},pX,pW,{},{},pX,pW,{ mode:=6 },pW,{ takes:=[false,true] }],[],[],(p0 [0,0,0,0,0,0,2,1,0,0,2,1,2,2,2,2])] }
def abP:c7:={ ops:=[[],(p0 [0,0,0,0,0,0,2,1,0,0,2,1,2,2,2,2]),[],[{},{},pX,pW,{},{},{},pX,pW,{},{},pX,pW,{ mode:=6 },pW,{ takes:=[false,true] }],[],[{},{},pX,pW,{},{},{},pX,pW,{},{},pX,pW,{ mode:=6 },pW,pW,{ takes:=[false,true] }],[],[],(p0 [0,0,0,0,0,0,2,1,0,0,2,1,2,2,2,2]),[],(p0 [0,0,0,0,0,0,2,1,0,0,2,1,2,2,2,2]),[],[],[{},{},pX,pW,{},{},{},pX,pW,{},{},pX,pW,{ mode:=6 },pW,{ takes:=[false,true] }],[],[{},{},pX,pW,{},{},{},pX,pW,{},{},pX,pW,{ mode:=6 },pW,pW,{ takes:=[false,true] }],[],[],(p0 [0,0,0,0,0,0,2,1,0,0,2,1,2,2,2,2]),[],[],(p0 [0,0,0,0,0,0,2,1,0,0,2,1,2,2,2,2])] }
def abQ:c7:={ ops:=[[],[{},pW],[],[{},pW],(p0 [0,0,0,2,1,2]),[pW,pW],[pW,pW],[]],h7:=[(0,(Ez false [0,2,5,2,10]))] }
def abR:c7:={ ops:=[[],[{},{},pX,pW,{},{},pX,pW,{ mode:=3 }]] }
def abS:c7:={ ops:=[[],[],[],[{},pW,{},pX,pW,{},{},{},{},pX,pX,pW,{},{},{},pX,pW,pX,pW,{ mode:=6 },pW,{ takes:=[false,true] }],[],[{},{},{},{},pX,pX,pW,{},{},{},pX,pX,pW,{ mode:=6 },pW,pW],(p0 [0,0,0,2,0,0,0,2,0,0,0,2,2,1,0,0,0,2,2,1,2,2,2,2])] }
def abU:c7:={ ops:=[[],[pW,{},{},pX,pW,{},{},pX,pW,{ mode:=6 },pW]] }
def acr:List c7:=[{},{},abW,abZ,{},{},{},acg,ach,acn,abk,Jq,abx,abE,abK,abT,Vw,abV,Nr,Ns,Vx,Rl,abX,abY,Rm,Vy,O9,Vz,{},VA,{},O_,{},Rn,Ro,VB,{},ab0,ab1,ab2,{},VC,ab3,ab4,{},ab5,{},VD,VE,O',ab6,ab7,ab8,{},Rp,{},ab9,VF,ab_,aca,acb,acd,ace,acf,VG,VH,VI,VJ,VK,Rq,VL,VM,VN,VO,Rr,VP,Pa,Rs,{},Mo,aci,HN,acj,JY,ack,acm,{},{},{},VQ,aco,acp,VR,VS,Rt,Ru,VT,acq,VU,VV,Vk,abl,Vl,Vm,Li,Vn,O8,abn,abo,abp,abq,abr,abt,Vo,Rk,Vp,abu,abv,{},abw,aby,Vq,abz,abA,abB,abC,Vr,Vs,Vt,abD,abF,abG,abH,{},abI,{},{},Vu,Vv,abJ,abL,{},abM,abN,abO,abP,abQ,abR,abS,{},{},abU]
def jo (k:FuncId):c7:=acr.getD k {}
end Go.Proofs.YtfakoboiahbhaaaGreat.Ab


namespace Go.Proofs.YtfakoboiahbhaaaGreat.Ab
open Go
end Go.Proofs.YtfakoboiahbhaaaGreat.Ab


namespace Go.Proofs.YtfakoboiahbhaaaGreat.Ab
open Go
end Go.Proofs.YtfakoboiahbhaaaGreat.Ab


namespace Go.Proofs.YtfakoboiahbhaaaGreat.Ab
open Go
theorem dH:Go.Proofs.Tryz.prog.follows .mixedOrders=true:=by kernel_rfl
abbrev qp (k:FuncId) (args:List I) (v:I):Prop:=lg Go.Proofs.Tryz.prog k args v
abbrev hP (n:Int):I:=.int .i64 n
abbrev ry:I:=.junk
abbrev B (b:Bool):I:=.bool b
def jh (l:List Int):I:=.ay (l.map hP) l.length .shared
def iq (l:List (List Int)):I:=.ay (l.map jh) l.length .shared
theorem XN (d:Nat) (l:List Int):(l.map hP).all (cq (d+1))=true:=by
 rw [sy];intro u hu;obtain ⟨x,_,rfl⟩:=sm.1 hu;rfl
theorem XM (d:Nat) (l:List Int):cq (d+2) (jh l)=true:=XN d l
theorem Tp (d:Nat) (l:List (List Int)):(l.map jh).all (cq (d+2))=true:=by
 rw [sy];intro u hu;obtain ⟨x,_,rfl⟩:=sm.1 hu;exact XM d x
theorem agQ (d:Nat) (l:List (List Int)):cq (d+3) (iq l)=true:=Tp d l
theorem MG (k:IntKind) (n:Int):cq 8 (.int k n)=true:=rfl
theorem MO (b:Bool):cq 8 (.bool b)=true:=rfl
theorem MH (l:List Int) (n:Nat) (c:il):cq 8 (.ay (l.map hP) n c)=true:=XN 6 l
theorem MJ (l:List (List Int)) (n:Nat) (c:il):cq 8 (.ay (l.map jh) n c)=true:=Tp 5 l
theorem MI (l:List Int):cq 8 (jh l)=true:=XM 6 l
theorem MK (l:List (List Int)):cq 8 (iq l)=true:=agQ 5 l
theorem MP (k:FuncId):cq 8 (.func k [] [])=true:=rfl
theorem MQ (n:Nat) (c:il):cq 8 (.ay [] n c)=true:=rfl
theorem JA (l:List (List Int)) (n:Nat) (c:il):cq 8 (.agg [.ay (l.map jh) n c])=true:=by
 show [I.ay (l.map jh) n c].all (cq 7)=true;rw [tE,uy,ue];exact Tp 4 l
theorem ML (l:List (List Int)):cq 8 (.agg [iq l])=true:=JA l _ _
theorem MM (l:List (List Int)):cq 8 (.bU [iq l])=true:=JA l _ _
theorem MN (l:List (List Int)) (n:Nat) (c:il):cq 8 (.bU [.ay (l.map jh) n c])=true:=JA l _ _
theorem agt {α:Type} (f:α→I) (l:List α) (i:Nat) (h:i<l.length) {K:I→Prop} (k:K (f l[i])):eO ((l.map f).drop (i*1)) 0 K :=
 DW (x:=f l[i]) (by simp [h]) k
theorem GY (i:Nat) (h:i≤9223372036854775806):IntKind.i64.wrap ((i:Int)+1)=((i+1:Nat):Int):=by rw [IntKind.wrap_i64];omega
theorem H3 (n:Int) (ad:-9223372036854775808≤n) (af:n≤9223372036854775807):IntKind.i64.wrap n=n:=by rw [IntKind.wrap_i64];omega
theorem XL:∀ {d:Nat} {v:I},cq d v=true→cq (d+1) v=true
 | 0,v,h=>by simp [cq] at h
 | d+1,v,h=>by
   have key:∀ {l:List I},l.all (cq d)=true→l.all (cq (d+1))=true:=fun h=>by
    rw [sy] at h ⊢;exact fun u hu=>XL (h u hu)
   cases v <;> simp only [cq,sv,tF] at h ⊢ <;> first | trivial | exact key h | exact ⟨key h.1,key h.2⟩
theorem It {p:Prop} [Decidable p] {A C:Prop} (ad:p→A) (af:¬ p→C):(match decide p with | true=>A | false=>C):=by
 by_cases h:p
 ·simp only [h,decide_true];exact ad h
 ·simp only [h,decide_false];exact af h
theorem HM {k:FuncId} {xs:List I} {v:I}:∀ p∈([]:dg),p.1=k→p.2.1=xs→p.2.2=v:=fun _ h=>by simp at h
theorem x2 {k k':FuncId} {xs ys:List I} {v br:I} (h:k'=k→ys=xs→br=v):∀ p∈([(k',ys,br)]:dg),p.1=k→p.2.1=xs→p.2.2=v:=fun p aC=>by
 simp only [List.mem_singleton] at aC;subst aC;exact h
theorem O7 {k:FuncId} {xs:List I} {v:I} {acc:dg} (h:acc.all (fun p=>p.1 != k)=true):∀ p∈acc,p.1=k→p.2.1=xs→p.2.2=v:=fun p aC e=>by
 have:=sy.1 h p aC;simp [e] at this
def GZ (cap:List I):Prop:=cap.all (cq 7)=true∧∀ u∈cap,∃ cs,u=.bU cs
theorem GZ.Rj {cap:List I} (h:GZ cap):cap.all (cq 8)=true:=by
 have ad:=h.1;rw [sy] at ad ⊢;exact fun u hu=>XL (ad u hu)
theorem GZ.ij {cap:List I} (h:GZ cap) (H:List au):cap.map (ij H)=cap:=by
 conv=>rhs;rw [←uN cap]
 apply ti;intro u hu;obtain ⟨cs,rfl⟩:=h.2 u hu;rfl
theorem GZ.hF {cap:List I} (h:GZ cap) (H:List au):cap.map (hF H)=cap:=by
 conv=>rhs;rw [←uN cap]
 apply ti;intro u hu;obtain ⟨cs,rfl⟩:=h.2 u hu;rfl
theorem GZ.cr {cap:List I} (h:GZ cap):cap.map I.cr=cap:=by
 conv=>rhs;rw [←uN cap]
 apply ti;intro u hu;obtain ⟨cs,rfl⟩:=h.2 u hu;rfl
theorem GZ.fn {cap:List I} (h:GZ cap) (H:List au) (k:FuncId):Ab.ij H (.func k [] cap)=.func k [] cap:=by
 simp only [Ab.ij,h.hF,List.map_nil]
theorem GZ.Th {cap:List I} (h:GZ cap) (k:FuncId):cq 8 (.func k [] cap)=true:=by
 show (([]:List I).all (cq 7) && cap.all (cq 7))=true;rw [h.1];rfl
theorem GZ.nil:GZ []:=⟨rfl,by simp⟩
section
variable {P:Program}
theorem call6 {k:FuncId} {xs bs:List I} {H:List au} {lo:Nat} {v:I} (ag:(xs.map (ij H)).map I.cr=bs) (aC:(xs.map (ij H)).all (cq 8)=true) (h:lg P k bs v) (ai:gb v=true):om P 6 lo (.fn k) xs H v.cr H:=by
 subst ag;refine ⟨kP (.fn k) ((xs.map (ij H)).map I.cr) [] 0 v [],D2 h.1,?_⟩;simp only [eS,aC,D1,r_,oR h.2,ai]
end
theorem Wy {H:List au} {id d:Nat} {l:List I} (h:H[id]?=some (.cells l)) (aC:(l.map I.view).all (cq d)=true):bJ H 0 H.length 0 (d+1) (.ptr id 0)=some (.bU (l.map I.view)):=by
 have ad:=(sa.1 h).1;have af:eb (bJ H 0 H.length 0 d) (l.map I.view)=some (l.map I.view):=zs fun u hu=>oR (by rw [sy] at aC;exact aC u hu);simp only [bJ,Nat.not_lt_zero,if_false,h,sM,af,sd];rw [if_neg (by omega)]
def idxOf {α:Type} (p:α→Bool):List α→Nat→Int
 | [],_ => -1
 | x::l,i=>if p x=true then i else idxOf p l (i+1)
end Go.Proofs.YtfakoboiahbhaaaGreat.Ab


namespace Go.Proofs.YtfakoboiahbhaaaGreat.Ab
open Go
section
variable {P:Program}
theorem RJ (dH:P.follows .mixedOrders=true) {k:Nat} {A:c7} {rc:ey} {n:Nat} {ts:List ji} (ak:zf P A k=some (rc,n,ts)) {lo:Nat} {args T:List I} {H H':List au} (bX:args++List.replicate (n-args.length) .junk=T) {v:I} (po:ba lo H H')
  (h:dB P A k lo none rc T H fun e ff H1=>(e=.normal∨e=.ret)∧jg H1 H'∧(jZ H1 ff ts).map g'=some v):Sem P (.fn k) args H lo v H':=by
 unfold zf at ak;split at ak
 ·rename_i f aQ;split at ak
  ·rename_i c ag;split at ak
   ·rename_i Gu FF ad af aG a6;simp only [Option.some.injEq,Prod.mk.injEq] at ak;obtain ⟨rfl,rfl,rfl⟩:=ak;subst bX;refine GD dH aQ ag (by simpa using af) ad po (k9 (fun e s a3=>?_) (xa aG h));obtain ⟨cb,b8,dY⟩:=a3;simp only [rZ] at dY;obtain ⟨vs,dY,hn⟩:=dY;exact ⟨cb,b8,vs,by rw [xl _ _ a6,dY],hn⟩
   ·cases ak
  ·cases ak
 ·cases ak
end
theorem G_ {P:Program} (dH:P.follows .mixedOrders=true) {k:Nat} {A:c7} {rc:ey} {n:Nat} {ts:List ji} (ak:zf P A k=some (rc,n,ts)) {lo:Nat} {args T:List I} {H H':List au} (bX:args++List.replicate (n-args.length) .junk=T) {v:I} (po:ba lo H H')
  (h:∀ Q:cB→List I→List au→Prop,(∀ e ff H1,(e=.normal∨e=.ret)∧jg H1 H'∧(jZ H1 ff ts).map g'=some v→Q e ff H1)→dB P A k lo none rc T H Q):Sem P (.fn k) args H lo v H' :=
 RJ dH ak bX po (h _ fun _ _ _ h=>h)
theorem Il {P:Program} {A:c7} {fn:FuncId} {lo:Nat} {rl:Option Nat} {c:ey} {T:List I} {H:List au} {K:cB→List I→List au→Prop} (h:∀ K':cB→List I→List au→Prop,(∀ e T H,K e T H→K' e T H)→dB P A fn lo rl c T H K'):dB P A fn lo rl c T H K:=h K fun _ _ _ h=>h
theorem G9 {P:Program} {lo:Nat} {b0:e3} {xs:List I} {H H':List au} {v:I} (h:Sem P b0 xs H lo v H'):om P 1 lo b0 xs H v H' :=
 ⟨kP b0 xs H lo v H',D2 h,by simp only [eS,D1]⟩
theorem Yc {P:Program} {k:FuncId} {args:List I} {v:I} (cd:args.all (cq 8)=true) (h:lg P k args v) (H:List au):Sem P (.fn k) args H H.length v H:=by
 obtain ⟨⟨_,ad,af⟩,aC⟩:=h
 exact ⟨ba.refl _ _,ad,fun B U J S w vs ah aN ae=>CallsIn.mono (af B _ [] S w vs (yT ah) (fun b i h=>by obtain ⟨_,_,h⟩:=lu h;cases h) (ae.pure cd)) fun e w' he=>by
  cases e with
  | returned v=>exact zK ah (oR (n:=0) aC) he
  | panicked c=>exact he.elim
  | outgrown=>exact he.elim⟩
theorem acQ {P:Program} {k:FuncId} {args:List I} {v:I} (cd:args.all (cq 8)=true) (h:lg P k args v) (H:List au) (lo:Nat):om P 0 lo (.fn k) args H v H :=
 ⟨_,D2 (Yc cd h H),by simp only [eS,D1,r_,oR h.2,sd]⟩
theorem qH {X Z:List au} {j:Nat} {o:au} (h:X[j]?=some o):(X++Z)[j]?=some o:=by
 rw [sB (sa.1 h).1];exact h
theorem q5 (X:List au) (c dV:au):(X++[c]).set X.length dV=X++[dV]:=by simp
theorem Iv (X:List au) (c:au):(X++[c])[X.length]?=some c:=by simp
end Go.Proofs.YtfakoboiahbhaaaGreat.Ab


namespace Go.Proofs.YtfakoboiahbhaaaGreat.Ab
open Go
def p6:Nat:=18446744073709551616
theorem ri {n:Nat} (h:n≤9223372036854775808):n<p6:=by unfold p6;omega
def p5 (p:Prop) [Decidable p] {aT:Type} (k:Option aT):Option aT:=if p then k else none
theorem qn {p:Prop} [Decidable p] {aT:Type} {k:Option aT} {v:aT} (h:p5 p k=some v):p∧k=some v:=by
 unfold p5 at h;split at h
 ·exact ⟨by assumption,h⟩
 ·cases h
theorem p' {p:Prop} [Decidable p] {aT:Type} {k:Option aT} (h:p):p5 p k=k:=if_pos h
theorem qa {α aT:Type} {x:Option α} {f:α→Option aT} {v:aT} (h:x.bind f=some v):∃ a,x=some a∧f a=some v:=by
 cases x with
 | none=>cases h
 | some a=>exact ⟨a,rfl,h⟩
theorem GX {b:Bool} {aT:Type} {x y:Option aT} {v:aT} (ag:b=true) (h:(if b=true then x else y)=some v):x=some v:=by
 rw [if_pos ag] at h;exact h
theorem GV {b:Bool} {aT:Type} {x y:Option aT} {v:aT} (ag:b=false) (h:(if b=true then x else y)=some v):y=some v:=by
 rw [if_neg (by rw [ag];decide)] at h;exact h
theorem Lk (b:Bool):b=true∨b=false:=by cases b <;> simp
def ix {α:Type} [Inhabited α] (l:List α) (i:Int):α:=l.getD i.toNat default
theorem qW {α:Type} [Inhabited α] {l:List α} {k:Nat} (h:k<l.length):ix l (k:Int)=l[k]:=by
 simp [ix,h]
theorem PO {α:Type} [Inhabited α] {l:List α} {i:Int} (h:0≤i∧i<(l.length:Int)):ix l i=l[i.toNat]'(by omega):=by
 have:i.toNat<l.length:=by omega
 simp [ix,this]
abbrev w (n:Int):Int:=IntKind.i64.wrap n
theorem ajD {n:Int} (ad:-9223372036854775808≤n) (af:n≤9223372036854775807):w n=n:=H3 n ad af
theorem qT {aT:Type} {v:aT} {G:Prop} (h:(none:Option aT)=some v):G:=by cases h
def abf {α:Type} (f:α→I) (l:List α):I:=.ay (l.map f) l.length .shared
def qB {α:Type} (f:α→List I) (l:List α):I:=.ay (l.flatMap f) l.length .shared
theorem rJ {α:Type} [Inhabited α] (f:α→I) (l:List α) (n:Int) (h:0≤n∧n<(l.length:Int)):(l.map f).drop (n.toNat*1)=f (ix l n)::(l.drop (n.toNat+1)).map f:=by
 have aX:n.toNat<l.length:=by omega
 rw [tt,←uF,sQ aX,sx,PO h]
theorem qU {α:Type} [Inhabited α] (f:α→List I) (s:Nat) (ai:∀ x,(f x).length=s):∀ (l:List α) (n:Int),0≤n∧n<(l.length:Int)→(l.flatMap f).drop (n.toNat*s)=f (ix l n)++(l.drop (n.toNat+1)).flatMap f:=by
 have key:∀ (l:List α) (k:Nat) (h:k<l.length),(l.flatMap f).drop (k*s)=f l[k]++(l.drop (k+1)).flatMap f:=by
  intro l
  induction l with
  | nil=>intro k h;simp at h
  | cons x l a_ =>
    intro k h;cases k with
    | zero=>simp
    | succ k =>
      (have av:k<l.length:=by simpa using h);(have e:(k+1)*s=(f x).length+k*s:=by rw [ai,tg,vz,tb]);rw [tZ,e,List.drop_length_add_append,a_ k av];rfl
 intro l n h;rw [key l n.toNat (by omega),PO h]
theorem G0 {α:Type} (f:α→List I) (s:Nat) (ai:∀ x,(f x).length=s) (l:List α):(l.flatMap f).length=l.length*s:=by
 induction l with
 | nil=>simp
 | cons x l a_=>rw [tZ,su,a_,ai,List.length_cons,tg,vz,tb]
theorem acv {α:Type} (f:α→I) (l m:List α) (c:il):I.ay (l.map f++m.map f) (l.length+m.length) c=.ay ((l++m).map f) (l++m).length c:=by
 rw [sZ,su]
theorem Lj {α:Type} (f:α→I) (l:List α) (x:α) (c:il):I.ay (l.map f++[f x]) (l.length+1) c=.ay ((l++[x]).map f) (l++[x]).length c:=by
 rw [sZ,su];rfl
theorem Hz {α:Type} (f:α→List I) (l:List α) (x:α) (c:il):I.ay (l.flatMap f++f x) (l.length+1) c=.ay ((l++[x]).flatMap f) (l++[x]).length c:=by
 simp [vY]
theorem VW {α:Type} (f:α→List I) (l m:List α) (c:il):I.ay (l.flatMap f++m.flatMap f) (l.length+m.length) c=.ay ((l++m).flatMap f) (l++m).length c:=by
 simp [vY]
theorem Yf {α:Type} (f:α→I) (l:List α) (n:Int) (h:0≤n∧n≤(l.length:Int)) (c:il):I.ay ((l.map f).take (n.toNat*1)) n.toNat c=.ay ((l.take n.toNat).map f) (l.take n.toNat).length c:=by
 rw [tt,sY,←uE,tK (by omega)]
theorem Kc {α:Type} [Inhabited α] (f:α→I) (l:List α) (n:Int) (h:0≤n∧n<(l.length:Int)) {K:I→Prop} (k:K (f (ix l n))):eO (l.map f) (0+n.toNat*1) K:=by
 have aX:n.toNat<l.length:=by omega
 refine DW (x:=f (ix l n)) ?_ k;rw [sP,tt,sr,sk aX,PO h];rfl
theorem KY {α:Type} (f:α→I) (l:List α) (n:Int) (x:α) (h:0≤n∧n<(l.length:Int)) {K:List I→Prop} (k:K ((l.set n.toNat x).map f)):jc (l.map f) (0+n.toNat*1) (f x) K:=by
 have aX:n.toNat<l.length:=by omega
 refine A_ (by simpa using aX) ?_;rw [sP,tt,←uG];exact k
theorem Uq {α:Type} (f:α→I) (x:α):∀ n,eX n [f x]=(List.replicate n x).map f
 | 0=>rfl
 | n+1=>by rw [eX,Uq f x n];rfl
theorem Vj {a b:Bool} (h:a=true) (k:b=true):(a && b)=true:=by rw [h,k];rfl
theorem pZ {α:Type} {f:α→Bool} {x:α} {l:List α} (h:f x=true) (k:l.all f=true):(x::l).all f=true:=Vj h k
theorem Jg {cs:List I} {d:Nat} (h:cs.all (cq d)=true):cq (d+1) (.agg cs)=true:=h
theorem ra {cs:List I} {d:Nat} (h:cs.all (cq d)=true):cq (d+1) (.bU cs)=true:=h
theorem Ih {cs:List I} {d:Nat} (h:cs.all (cq d)=true):cq (d+1) (.tuple cs)=true:=h
theorem JB {k:FuncId} {a b:List I} {d:Nat} (ad:a.all (cq d)=true) (af:b.all (cq d)=true):cq (d+1) (.func k a b)=true:=Vj ad af
theorem rK {α:Type} {f:α→I} {d:Nat} (h:∀ x,cq d (f x)=true) (l:List α) (n:Nat) (c:il):cq (d+1) (.ay (l.map f) n c)=true:=by
 show (l.map f).all (cq d)=true;rw [sy];intro u hu;obtain ⟨x,_,rfl⟩:=sm.1 hu;exact h x
theorem qX {α:Type} {f:α→List I} {d:Nat} (h:∀ x,(f x).all (cq d)=true) (l:List α) (n:Nat) (c:il):cq (d+1) (.ay (l.flatMap f) n c)=true:=by
 show (l.flatMap f).all (cq d)=true;rw [sy];intro u hu;obtain ⟨x,_,al⟩:=uZ.1 hu;exact sy.1 (h x) u al
theorem PZ {α:Type} {f:α→I} {d:Nat} (h:∀ x,cq d (f x)=true) (l:List α):(l.map f).all (cq d)=true:=by
 rw [sy];intro u hu;obtain ⟨x,_,rfl⟩:=sm.1 hu;exact h x
theorem lg.cr {P:Program} {k:FuncId} {args:List I} {v:I} (h:lg P k args v) (aC:cq 8 v.cr=true):lg P k args v.cr :=
 ⟨⟨h.1.1,h.1.2.1,fun B U J S w vs ah aN ae=>CallsIn.mono (h.1.2.2 B U J S w vs ah aN ae) fun e w' he=>by
   cases e with
   | returned x=>exact a1.cr he
   | panicked c=>exact he.elim
   | outgrown=>exact he.elim⟩,aC⟩
section
variable {P:Program} {B:Nat} {J:List Nat} {w:World} {U:Nat→Option aI} {S:Nat→Nat→Prop}
theorem a1.Zl {H':List au} {r:I} {v:Value} {w':World} (h:a1 B U J S w H' r v w'):a1 B U J S w H' r.settle.view.cr v w':=by
 have ad:a1 B U J S w H' r.settle v w':=by
  cases r with
  | ay c n k=>cases k with
    | uniq z=>exact h.settle
    | _=>exact h
  | _=>exact h
 have af:r.settle.cT=true:=by
  cases r with
  | ay c n k=>cases k <;> rfl
  | _=>rfl
 obtain ⟨bn,cg,bH,a,b,c,d,e⟩:=ad;exact a1.cr ⟨bn,cg,bH,a,b,c,d.view af,aV.b3 (I.df _)⟩
theorem agT (dH : P.follows .mixedOrders = true) {k : Nat} {f : Func} {c : Code} (aQ : P.funcs[k]? = some f) (ag : f.body = some c) (aN : f.name ≠ "runtime.NumGoroutine") {A : c7} (bO : codeOk A c = true)
  {args:List I} {v:I} (aC:cq 8 v=true)
  (h:c2 P A k 0 none c 0 ⟨args++List.replicate (f.ntmps-args.length) .junk,[]⟩ fun e s=>(e=.normal∨e=.ret)∧∃ vs r,fc P s.H s.T f.results.toList=some vs∧bJ s.H 0 s.H.length 0 8 (g' vs)=some r∧r.settle.view.cr=v):lg P k args v:=by
 refine ⟨⟨ba.refl _ _,⟨f,aQ,by simp [ag],aN⟩,fun B U J S w xs ah _ ae=>?_⟩,aC⟩;refine callsIn_of_wp_marks aQ ag trivial ?_;have aK:=xN ah ae f.ntmps;have da:=(oc ah).1;refine og dH c 0 _ _ h bO Fence.wide _ B w.heap.size J w (hI U) S _ (.inl ⟨rfl,rfl⟩) (fun l a w aO=>aO.elim) aK fun e s av aM w' ai=>?_;obtain ⟨he,vs,r,aj,Cu,eg⟩:=av;obtain ⟨b2,cQ,a4,aJ,aP,b'⟩:=ai;have iI:LeavesInM Fence.wide 0 P f aM.tmps (fs B U J S w [] v) aM.defers .returning w':=by
  refine nE (U:=b2) (S:=a4) (J:=cQ) (B:=B) (H:=s.H) (lf:=U) (S0:=S) (w0:=w) aM.defers w' b'.M.2.1 b'.M.2.2 (da.trans aP) b'.H fun bT dr dj mh mi=>?_
  have bX:a9 .slot b2 cQ a4 bT s.T aM.tmps.toList:=⟨b'.T.len,fun i u v hu ae=>(b'.T.rel i u v hu ae).mono (Ext.refl _) (fun b o h=>⟨h,dj b o h⟩),fun i u v hu ae =>
   (b'.T.own i u v hu ae).mono (Ext.refl _) (fun b o h=>⟨h,dj b o h⟩) fun b ag=>⟨ag,dr b _ ag,fun _ h=>h⟩⟩
  obtain ⟨x,q1,aW⟩:=xr mi bX aj;have nr:=xi ah (fun id aE=>by simp at aE) Cu (a1.after aJ mh aW);refine ⟨x,q1,?_⟩;rw [←eg];exact nr.Zl
 rcases he with rfl | rfl
 ·exact iI
 ·exact iI
end
inductive H5 (rs:List ji) (v:I) (e:cB) (T:List I) (H:List au):Prop where
 | mk (he:e=.normal∨e=.ret) (vs:List I) (aj:jZ H T rs=some vs) (r:I) (aQ:bJ H 0 H.length 0 8 (g' vs)=some r) (ae:r.settle.view.cr=v)
theorem qN {P:Program} (dH:P.follows .mixedOrders=true) {k:Nat} {A:c7} {rc:ey} {n:Nat} {ts:List ji} (ak:zf P A k=some (rc,n,ts)) {args T:List I} (bX:args++List.replicate (n-args.length) .junk=T) {v:I} (aC:cq 8 v=true)
  (h:∀ Q:cB→List I→List au→Prop,(∀ e T H,H5 ts v e T H→Q e T H)→dB P A k 0 none rc T [] Q):lg P k args v:=by
 have h:=h _ fun _ _ _ h=>h;unfold zf at ak;split at ak
 ·rename_i f aQ;split at ak
  ·rename_i c ag;split at ak
   ·rename_i Gu FF ad af aG a6;simp only [Option.some.injEq,Prod.mk.injEq] at ak;obtain ⟨rfl,rfl,rfl⟩:=ak;subst bX;have a3:∀ e s,H5 FF v e (a5.T s) (a5.H s)→(e=.normal∨e=.ret)∧∃ vs r,fc P s.H s.T f.results.toList=some vs∧bJ s.H 0 s.H.length 0 8 (g' vs)=some r∧r.settle.view.cr=v:=fun e s ⟨cb,vs,B0,r,b8,dY⟩=>by
     exact ⟨cb,vs,r,by rw [xl _ _ a6,B0],b8,dY⟩
    exact agT dH aQ ag (by simpa using af) ad aC (k9 a3 (xa aG h))
   ·cases ak
  ·cases ak
 ·cases ak
theorem wp_loop {P:Program} {A:c7} {fn:FuncId} {lo:Nat} {rl:Option Nat} {cD:List Bool} {c:ey} {T Vd:List I} {H:List au} {Q:cB→List I→List au→Prop} (bX:eQ cD T=Vd)
  (h:Bk (fun T H Q=>nO T fun T=>dB P A fn lo rl c T H fun e a7 H'=>match e with
   | .normal=>pR (some cD) a7 fun a7=>Q .normal a7 H'
   | e=>Q e a7 H') Vd H Q):dB P A fn lo rl (.loop (some cD) c) T H Q:=by
 show pR (some cD) T _;rw [Dj];subst bX;exact h
def PU {α:Type} (f:α→List I):Option α→I
 | none=>.eB
 | some x=>.bU (f x)
theorem XK {α:Type} {f:α→List I} {d:Nat} (h:∀ x,(f x).all (cq d)=true) (x:Option α):cq (d+1) (PU f x)=true:=by
 cases x with
 | none=>rfl
 | some x=>exact h x
abbrev Ir (n:Int):I:=.int .u16 n
theorem S7 {f:I→Option I}:eb f []=some []:=rfl
theorem PR {f:I→Option I} {x y:I} {l r:List I} (h:f x=some y) (k:eb f l=some r):eb f (x::l)=some (y::r):=by simp only [eb,h,k,sd]
theorem adN {H:List au} {lo i n d:Nat} {vs rs:List I} (h:eb (bJ H lo i n d) vs=some rs):bJ H lo i n (d+1) (.tuple vs)=some (.tuple rs):=by simp only [bJ,h,sd]
theorem ahX {α:Type} {f:α→I} {H:List au} {id n:Nat} {l:List α} {cap:Option Nat} (ah:H[id]?=some (.cells (l.map f))) (aN:n=l.length) (ae:∀ x,(f x).view=f x):rowOf H (.ref id 0 n cap 1)=some (l.map f):=by
 subst aN;simp only [rowOf,ah,sP,tt,sV,sc,if_true,sM];rw [tG (by simp),tr];congr 1;exact ti fun x _=>ae x
theorem adM {α:Type} {f:α→I} {H:List au} {id n d:Nat} {l:List α} {cap:Option Nat} (ah:H[id]?=some (.cells (l.map f))) (aN:n=l.length) (aC:∀ x,cq d (f x)=true) (ae:∀ x,(f x).view=f x):bJ H 0 H.length 0 (d+1) (.ref id 0 n cap 1)=some (.ay (l.map f) n (gT cap n)):=by
 have ad:=(sa.1 ah).1;have af:eb (bJ H 0 H.length 0 d) (l.map f)=some (l.map f):=zs fun u hu=>by
  obtain ⟨x,_,rfl⟩:=sm.1 hu;exact oR (aC x)
 simp only [bJ,Nat.not_lt_zero,if_false,ahX ah aN ae,af,sd];rw [if_neg (by omega)]
theorem ads (cs:List I) (n m:Nat) (c:Option Nat):I.gR (.ay cs n (gT c m))=.ay cs n .shared:=by
 unfold gT;split
 ·split <;> rfl
 ·rfl
theorem Is {P:Program} {k:FuncId} {xs cs bs:List I} {H:List au} {lo:Nat} {v:I} (ai:xs.map (ij H)=cs) (ag:cs.map I.cr=bs) (aC:cs.all (cq 8)=true) (h:lg P k bs v) (ae:gb v=true):om P 6 lo (.fn k) xs H v.cr H :=
 call6 (by rw [ai,ag]) (by rw [ai];exact aC) h ae
theorem rn {f:I→I} {x y:I} {l r:List I} (h:f x=y) (k:l.map f=r):(x::l).map f=y::r:=by rw [sx,h,k]
theorem rQ {f:I→I}:([]:List I).map f=[]:=rfl
theorem Kg {H:List au} {k:FuncId} {a b aM ar:List I} (ad:a.map (hF H)=aM) (af:b.map (hF H)=ar):ij H (.func k a b)=.func k aM ar:=by simp only [ij,ad,af]
theorem Ji {H:List au} {id off:Nat} {cs ds:List I} (ah:H[id]?=some (.cells cs)) (he:((cs.drop off).map I.view).map (j6 H)=ds):hF H (.ptr id off)=.bU ds:=by simp only [hF,ah,he]
theorem agy {P:Program} {C:b6} {lo mode:Nat} {o:Oper} {xs:Array Operand} {ts:Array TypeId} {vs:List I} {H:List au} (aq:o.op=.call { callee:=.builtin .copy,args:=xs,argTypes:=ts }):a8 P C lo o mode vs H=jT P lo ts H vs:=by
 unfold a8;rw [aq];rfl
theorem adj {α:Type} {P:Program} {f:α→I} {lo id n:Nat} {H:List au} {l m:List α} {cap:Option Nat} {c:il} {e:TypeId} {ts:Array TypeId} (e1:(ts[0]?).bind P.underlying=some (.slice e)) (ck:bS P e=some 1) (bD:lo≤id)
  (ah:H[id]?=some (.cells (l.map f))) (aN:n=l.length) (hm:m.length=n):jT P lo ts H [.ref id 0 n cap 1,.ay (m.map f) m.length c]=some (.int .i64 (m.length:Int),H.set id (.cells (m.map f))):=by
 have oH:setCells 0 (m.map f) (l.map f)=m.map f:=by
  apply tA;intro j;rw [n7 _ _ _ _ (by simp;omega)];by_cases aw:j<m.length
  ·rw [if_pos ⟨by omega,by simpa using aw⟩];simp
  ·rw [if_neg (by simp;omega),td (by simp;omega),td (by simpa using aw)]
 subst aN;unfold jT;simp only [e1,ck,lenOf,rowOf,g6,ah,if_pos bD];rw [if_pos ⟨trivial,by simp⟩,if_pos (by simp),hm,Nat.min_self,tt,tG (by simp;omega),oH];rfl
def HD {α JR:Type} (g:JR→α→Option JR):List α→JR→Option JR
 | [],s=>some s
 | x::l,s=>(g s x).bind fun t=>HD g l t
theorem Pr {α JR:Type} {g:JR→α→Option JR}:∀ {l:List α} {s t:JR},HD g l s=some t→∃ F:Nat→JR,F 0=s∧F l.length=t∧∀ (i:Nat) (h:i<l.length),g (F i) l[i]=some (F (i+1))
 | [],s,t,h=>⟨fun _=>s,rfl,Option.some.inj h,fun i hi=>absurd hi (by simp)⟩
 | x::l,s,t,h=>by
   obtain ⟨u,ad,af⟩:=qa h;obtain ⟨F,f1,f2,f3⟩:=Pr af;refine ⟨fun i=>match i with | 0=>s | i+1=>F i,rfl,f2,fun i hi=>?_⟩;cases i with
   | zero=>show g s x=some (F 0);rw [f1,ad]
   | succ i=>exact f3 i (by simpa using hi)
def Seq (P:Program) (k:FuncId) (cap:List I) (E:List I):Prop :=
 ∀ (l N:Nat) (rp:Nat→List au),(∀ i,(rp i).length=N)→l<N →
   (∀ (i:Nat) (h:i<E.length) (Y:List au),∃ q6,Sem P (.yield l) [E[i]] (rp i++Y) 0 (.bool true) (rp (i+1)++q6)) →
   ∀ Y,∃ q6,Sem P (.fn k) (.yield l::cap) (rp 0++Y) 0 (.tuple []) (rp E.length++q6)
theorem Ob {H X:List au} (h:H.length≤X.length):ba 0 H X:=⟨h,fun _ h _=>absurd h (by omega)⟩
theorem Ye (X Y:List au) (c d:au):((X++[c])++Y).set X.length d=(X++[d])++Y:=by
 rw [sA,List.set_append_right _ _ (sc _)];simp
theorem NL (X Y:List au) (c:au):((X++[c])++Y)[X.length]?=some c:=by
 rw [sA,sJ (sc _)];simp
theorem ahQ {α:Type} {P:Program} {A:c7} {fn:FuncId} {rl:Option Nat} {k:FuncId} {cap:List I} {bh:List Nat} {gp bY:Code} {T:List I} {H Hn:List au} {Q:cB→List I→List au→Prop} {f:α→I} {L:List α} (N8:Seq P k cap (L.map f))
  (Obj:Nat→List au) (aS:Obj 0=H) (hlen:∀ i,(Obj i).length=H.length)
  (N7:∀ (i:Nat) (h:i<L.length) (Y:List au),∃ q6,Sem P (.yield H.length) [f L[i]] ((Obj i++[.loop .ready none fn (T.map I.view) bh gp bY A])++Y) 0 (.bool true) ((Obj (i+1)++[.loop .ready none fn (T.map I.view) bh gp bY A])++q6))
  (gX:inLoop H rl=true) (aN:Obj L.length=Hn) (bl:∀ q6,Q .normal (T.map I.settle) ((Hn++[.dead])++q6)):n2 P A fn 0 rl (.func k [] cap) bh gp bY T H Q:=by
 obtain ⟨q6,cm⟩:=N8 H.length (H.length+1) (fun i=>Obj i++[.loop .ready none fn (T.map I.view) bh gp bY A]) (fun i=>by simp [hlen]) (by omega) (fun i h Y=>by
  have aX:i<L.length:=by simpa using h
  obtain ⟨q6,aj⟩:=N7 i aX Y
  exact ⟨q6,by rw [List.getElem_map];exact aj⟩) []
 subst aN;simp only [sU,sV,aS] at cm;have ak:(Obj L.length).length=H.length:=hlen _;refine ⟨gX,.tuple [],_,.ready,none,fn,T.map I.view,bh,gp,bY,A,cm,by rw [←ak];exact NL _ _ _,by decide,?_⟩;show Q .normal (T.map I.settle) (((Obj L.length++[au.loop .ready none fn (T.map I.view) bh gp bY A])++q6).set H.length .dead);rw [←ak,Ye];exact bl q6
end Go.Proofs.YtfakoboiahbhaaaGreat.Ab


namespace Go.Proofs.YtfakoboiahbhaaaGreat.Ab
open Go
theorem adJ {H:List au} {lo i n d:Nat} {k:FuncId} {a b aM ar:List I} (ad:eb (bJ H lo i n d) a=some aM) (af:eb (bJ H lo i n d) b=some ar):bJ H lo i n (d+1) (.func k a b)=some (.func k aM ar):=by simp only [bJ,ad,af]
theorem X4 {α:Type} {P:Program} {A:c7} {fn:FuncId} {rl:Option Nat} {k:FuncId} {cap:List I} {t:Nat} {bh:List Nat} {gp bY:Code} {T:List I} {H Hn:List au} {Q:cB→List I→List au→Prop} {f:α→I} {L:List α} (N8:Seq P k cap (L.map f))
  (Obj:Nat→List au) (ax:c4 T t=.func k [] cap) (aS:Obj 0=H) (hlen:∀ i,(Obj i).length=H.length)
  (N7:∀ (i:Nat) (h:i<L.length) (Y:List au),∃ q6,Sem P (.yield H.length) [f L[i]] ((Obj i++[.loop .ready none fn (T.map I.view) bh gp bY A])++Y) 0 (.bool true) ((Obj (i+1)++[.loop .ready none fn (T.map I.view) bh gp bY A])++q6))
  (gX:inLoop H rl=true) (aN:Obj L.length=Hn) (bl:∀ q6,Q .normal (T.map I.settle) ((Hn++[.dead])++q6)):dB P A fn 0 rl (.An (.sl t) bh gp bY) T H Q:=by
 show ho T t _;rw [iC,ax];exact ahQ N8 Obj aS hlen N7 gX aN bl
end Go.Proofs.YtfakoboiahbhaaaGreat.Ab


namespace Go.Proofs.YtfakoboiahbhaaaGreat.Ab
open Go
theorem adE {α:Type} [Inhabited α] (f:α→List I) (s:Nat) (ai:∀ x,(f x).length=s) (l:List α) (n:Int) (h:0≤n∧n<(l.length:Int)) (j:Nat) (aw:j<s):(l.flatMap f)[n.toNat*s+j]?=(f (ix l n))[j]?:=by
 have e:=qU f s ai l n h
 have:(l.flatMap f)[n.toNat*s+j]?=((l.flatMap f).drop (n.toNat*s))[j]?:=by rw [sX]
 rw [this,e,sB (by rw [ai];exact aw)]
theorem ahH {α:Type} [Inhabited α] (f:α→List I) (s:Nat) (ai:∀ x,(f x).length=s) (l:List α) (n:Int) (h:0≤n∧n<(l.length:Int)) (j:Nat) {v:I} (aw:(f (ix l n))[j]?=some v) {K:I→Prop} (k:K v):eO (l.flatMap f) (0+n.toNat*s+j) K:=by
 refine DW (x:=v) ?_ k;rw [sP,adE f s ai l n h j (by have:=(sa.1 aw).1;rw [ai] at this;exact this),aw]
theorem ahI {α:Type} [Inhabited α] (f:α→List I) (s:Nat) (ai:∀ x,(f x).length=s) (l:List α) (n:Int) (h:0≤n∧n<(l.length:Int)) {v:I} (aw:(f (ix l n))[0]?=some v) {K:I→Prop} (k:K v):eO (l.flatMap f) (0+n.toNat*s) K :=
 ahH f s ai l n h 0 aw k
theorem adK {P:Program} {C:b6} {lo id n:Nat} {cap:Option Nat} {o:Oper} {x:Operand} {H:List au} {cs:List I} {sz:Nat} (aq:o.op=.move x) (bD:lo≤id) (ah:H[id]?=some (.cells cs)) (aN:cs.length=n*sz) (ae:∀ u∈cs,u.view=u) :
  a8 P C lo o 2 [.ref id 0 n cap sz] H=some (.ay cs n (gT cap n),H.set id .dead):=by
 unfold a8;rw [aq];show eP P lo 2 o.type x H [.ref id 0 n cap sz]=_;unfold eP;simp only [bD,if_true,rowOf,ah,lenOf,sP];have e:cs.map I.view=cs:=(ti (g:=fun u=>u) ae).trans (List.map_id' cs);rw [if_pos (by omega),sM,tG (by omega),e];rfl
theorem adL {P:Program} {C:b6} {lo id n m:Nat} {cap:Option Nat} {o:Oper} {x:Operand} {H:List au} {cs:List I} {sz:Nat} (aq:o.op=.move x) (bD:lo≤id) (ah:H[id]?=some (.cells cs)) (CQ:n=m) (aN:cs.length=m*sz) (ae:∀ u∈cs,u.view=u) :
  a8 P C lo o 2 [.ref id 0 n cap sz] H=some (.ay cs m (gT cap m),H.set id .dead):=by
 subst CQ;exact adK aq bD ah aN ae
theorem ajc {α:Type} {f:α→I} (h:∀ x,(f x).view=f x) (l:List α):∀ u∈l.map f,u.view=u:=fun u hu=>by
 obtain ⟨x,_,rfl⟩:=sm.1 hu;exact h x
end Go.Proofs.YtfakoboiahbhaaaGreat.Ab


namespace Go.Proofs.YtfakoboiahbhaaaGreat.Ab
open Go
theorem H2 {n:Int} (h:-9223372036854775808≤n∧n≤9223372036854775807):w n=n:=ajD h.1 h.2
theorem rj (i:Nat) (h:i≤9223372036854775806):w ((i:Int)+1)=((i+1:Nat):Int):=GY i h
theorem Iz {i n:Nat} {aT:Type} {x y:Option aT} (h:i<n):(if (decide ((i:Int)<(n:Int)))=true then x else y)=x:=by rw [if_pos (decide_eq_true (by omega))]
theorem Iy {i n:Nat} {aT:Type} {x y:Option aT} (h:¬ i<n):(if (decide ((i:Int)<(n:Int)))=true then x else y)=y:=by rw [if_neg (by rw [decide_eq_true_eq];omega)]
theorem G7 {i n:Nat} {aT:Type} {x:Option aT} (h:i<n):p5 (0≤(i:Int)∧(i:Int)<(n:Int)) x=x:=p' ⟨by omega,by omega⟩
end Go.Proofs.YtfakoboiahbhaaaGreat.Ab


namespace Go.Proofs.YtfakoboiahbhaaaGreat.Ab
open Go
def pY (p:Int×Int):List I:=[hP p.1,hP p.2]
theorem ql (p:Int×Int):(pY p).length=2:=rfl
theorem Wr {α:Type} (f:α→List I) (s:Nat) (ai:∀ x,(f x).length=s):∀ (l:List α) (k:Nat),k≤l.length→(l.flatMap f).drop (k*s)=(l.drop k).flatMap f
 | l,0,_=>by rw [vk,sM,sM]
 | [],k+1,h=>absurd h (by simp)
 | x::l,k+1,h=>by
   (have e:(k+1)*s=(f x).length+k*s:=by rw [ai,tg,vz,tb]);rw [tZ,e,List.drop_length_add_append,Wr f s ai l k (by simpa using h),List.drop_succ_cons]
theorem Wt {α:Type} (f:α→List I) (s:Nat) (ai:∀ x,(f x).length=s):∀ (l:List α) (k:Nat),k≤l.length→(l.flatMap f).take (k*s)=(l.take k).flatMap f
 | l,0,_=>by rw [vk,tq,tq];rfl
 | [],k+1,h=>absurd h (by simp)
 | x::l,k+1,h=>by
   (have e:(k+1)*s=(f x).length+k*s:=by rw [ai,tg,vz,tb]);rw [tZ,e,List.take_length_add_append,Wt f s ai l k (by simpa using h),vZ,tZ]
theorem MW {α:Type} (f:α→List I) (s:Nat) (ai:∀ x,(f x).length=s) (l:List α) (n:Int) (h:0≤n∧n≤(l.length:Int)) (c:il):I.ay ((l.flatMap f).take (n.toNat*s)) n.toNat c=.ay ((l.take n.toNat).flatMap f) (l.take n.toNat).length c:=by
 rw [Wt f s ai l _ (by omega),sY,tK (by omega)]
theorem Uu {α:Type} (f:α→List I) (s:Nat) (ai:∀ x,(f x).length=s) (l:List α) (n:Int) (h:0≤n∧n≤(l.length:Int)) (c:il):I.ay (((l.flatMap f).drop (n.toNat*s)).take ((l.length-n.toNat)*s)) (l.length-n.toNat) c=.ay ((l.drop n.toNat).flatMap f) (l.drop n.toNat).length c:=by
 rw [Wr f s ai l _ (by omega),tJ,tG (by rw [G0 f s ai,tJ];exact sc _)]
theorem ah_ {α:Type} (f:α→I) (l:List α) (n:Int) (h:0≤n∧n≤(l.length:Int)) (c:il):I.ay ((l.map f).drop (n.toNat*1)) (l.length-n.toNat) c=.ay ((l.drop n.toNat).map f) (l.drop n.toNat).length c:=by
 rw [tt,tJ,←uF]
theorem Wj (k:IntKind):∀ (xs ys:List Int),xs.length=ys.length→dK (xs.map (.int k)) (ys.map (.int k))=some (decide (xs=ys))
 | [],[],_=>rfl
 | x::xs,y::ys,h=>by
   simp only [sx,dK,if_true,Wj k xs ys (by simpa using h),sd];congr 1;by_cases al:x=y <;> by_cases ak:xs=ys <;> simp [al,ak]
 | [],y::ys,h=>by cases h
 | x::xs,[],h=>by cases h
theorem abi {P:Program} {t e:TypeId} {len:Nat} {kd:IntKind} (k:IntKind) (ad:P.underlying t=some (.array len e)) (af:P.underlying e=some (.int kd)) (aG:bS P e=some 1) (a6:P.eqGuardType P.depth t=false) {xs ys:List Int} (al:xs.length=len) (a0:ys.length=len) :
  fg P .eql t (.agg (xs.map (.int k))) (.agg (ys.map (.int k)))=some (.bool (decide (xs=ys))):=by
 unfold fg;simp only [ad,af,aG];rw [if_pos ⟨by simp [al],by simp [a0],a6⟩,Wj k xs ys (by rw [al,a0]),sd]
theorem agx {P:Program} {C:b6} {lo:Nat} {o:Oper} {op:BinOp} {t u:TypeId} {a b:Operand} {x y v:I} {H:List au} (aq:o.op=.binOp op t a b u) (aN:iO b=false) (h:fg P op t x y=some v):a8 P C lo o 0 [x,y] H=some (v,H):=by
 unfold a8;rw [aq];show (cy P o [x,y]).map _=_;unfold cy;rw [aq];simp only [aN];show (fg P op t x y).map _=_;rw [h];rfl
end Go.Proofs.YtfakoboiahbhaaaGreat.Ab


namespace Go.Proofs.YtfakoboiahbhaaaGreat.Ab
open Go
section
variable {P:Program} {B N:Nat} {J:List Nat} {w:World} {H:List au} {U:Nat→Option aI} {S:Nat→Nat→Prop}
theorem ajH (dH:P.follows .mixedOrders=true) {l lo:Nat} {fn:FuncId} {T a7:List I} {bh:List Nat} {gp bY:Code} {an:c7} {args:List I} {H':List au} {id:Nat}
  (ak:H[l]?=some (.loop .ready none fn T bh gp bY an)) (eg:hf bh args T=some a7) (po:ba lo H H')
  (h:c2 P an fn lo (some l) gp 0 ⟨a7,H⟩ fun e s1=>e=.normal∧s1.H[l]?=some (.loop .ready none fn T bh gp bY an) ∧
   c2 P an fn lo (some l) bY 0 ⟨s1.T,s1.H.set l (.loop .busy none fn T bh gp bY an)⟩ fun e s2=>e=.exit id∧s2.H[l]?=some (.loop .busy none fn T bh gp bY an)∧jg (s2.H.set l (.loop .done (some (.exit id)) fn T bh gp bY an)) H') :
  Sem P (.yield l) args H lo (.bool false) H':=by
 refine ⟨po,fun B U J S w xs b ah _ ae ag=>?_⟩;obtain ⟨a',bk,ar,L,aB,aH,aR,bj,bb,bf,c0,c',dD,fu,ou⟩:=ah.obj l _ ak;rw [ag] at aB;cases aB;have cJ:=xJ bh args T a7 xs L.tmps.toList eg ae.len (by simpa using c0.symm);obtain ⟨cb,b8,dY,hn⟩:=cJ;refine ⟨L,aR,by rw [←ae.len,←cb,←dD];simp,?_⟩;refine roundIn_of_wpIn trivial ?_;have l8:(hD L xs).toList=(bh.zip xs).foldl (fun (l:List Value) (p:Nat×Value)=>l.set p.1 p.2) L.tmps.toList:=by rw [Ap,dD]
 obtain ⟨da,fA⟩:=A7 bh ah;have aK:ct B w.heap.size (gJ bh U) J S w ⟨a7,H⟩ { tmps:=hD L xs,defers:=[] }:=by
  refine ⟨?_,fA,sc _,fun d aZ=>by simp at aZ,List.Pairwise.nil⟩;simp only [l8];have key:∀ (i:Nat) (u:I) (x:Value),a7[i]?=some u→((bh.zip xs).foldl (fun (l:List Value) (p:Nat×Value)=>l.set p.1 p.2) L.tmps.toList)[i]?=some x →
    Rel J S w u x∧aV (gJ bh U) J S w (.slot i) u x:=fun i u x hu al=>by
   rcases hn i u x hu al with ⟨aJ,aP⟩ | ⟨j,aJ,aP,cj⟩
   ·obtain ⟨bR,b4⟩:=c' i u x aJ (by simpa using aP);exact ⟨b4,aV.b3 bR⟩
   ·exact ⟨ae.rel j u x aP cj,(ae.own j u x aP cj).mono (Ext.refl J) (fun _ _ h=>⟨h,rfl⟩) fun b ag=>⟨by simp [gJ,ag,aJ],rfl,fun _ h=>h⟩⟩
  exact ⟨by rw [b8,dY,←c0];simp,fun i u x hu al=>(key i u x hu al).1,fun i u x hu al=>(key i u x hu al).2⟩
 rw [fu,ou];refine og dH gp 0 _ _ h a' _ _ B w.heap.size J w (gJ bh U) S _ (.inr ⟨l,b,rfl,ag,rfl⟩) (fun l a w aO=>aO) aK fun e1 s1 av aB bC ai=>?_;obtain ⟨rfl,hx,af⟩:=av;obtain ⟨b2,cQ,a4,aJ,aP,b'⟩:=ai;have eT:cQ[l]?=some b:=aJ _ _ ag;obtain ⟨_,_,ar,jh,d1,d2,d3,d4,d5,_⟩:=b'.H.obj l _ hx;rw [eT] at d1;cases d1;obtain ⟨dX,oV⟩:=b'.loop hx eT d3 .busy none;have o3:(Instr.beginRound b).run P bC=.ok () (bC.putObj b (.loop { jh with state:=.busy,pending:=none })):=by
  rw [run_beginRound d3 d4]
  have:({ jh with state:=.busy,pending:=none }:Loop)={ jh with state:=.busy }:=by rw [←d5]
  rw [this]
 refine ⟨_,o3,?_⟩;refine wpIn_mono (Q:=fun cM aM w'=>(∀ t,cM≠Exit.goto t)∧roundPost P b (fs B U J S w H' (.bool false)) cM aM w') ?_ (fun e a w h=>h.2);refine og dH bY 0 _ _ af bk _ _ B w.heap.size cQ _ b2 a4 _ (.inr ⟨l,b,rfl,eT,rfl⟩) (fun l a w aO=>aO.1 l rfl) oV fun ck s2 av aH bT ai=>?_;obtain ⟨rfl,e9,kq⟩:=av;obtain ⟨bn,cg,bH,cj,jM,lJ⟩:=ai;have fj:cg[l]?=some b:=cj _ _ eT;obtain ⟨_,_,ar,iq,f1,f2,f3,f4,f5,_⟩:=lJ.H.obj l _ e9;rw [fj] at f1;cases f1;have ju:bg U S w bn bH bT:=((da.trans aP).trans dX).trans jM;refine ⟨fun t ax=>(by cases ax),?_⟩;refine ⟨_,_,run_endRound (some (.exit id)) f3,?_⟩;obtain ⟨oL,oW⟩:=lJ.loop e9 fj f3 .done (some (.exit id));exact a1.m' kq ⟨bn,cg,bH,aJ.trans cj,ju.trans oL,oW.H,.bool _,aV.b3 rfl⟩
theorem ah6 (dH:P.follows .mixedOrders=true) {l lo:Nat} {fn:FuncId} {T a7:List I} {bh:List Nat} {gp bY:Code} {an:c7} {args:List I} {H':List au} {id:Nat} {zS zV:ey}
  (cd:dS P an gp 0=some zS) (ag:dS P an bY 0=some zV)
  (ak:H[l]?=some (.loop .ready none fn T bh gp bY an)) (eg:hf bh args T=some a7) (po:ba lo H H')
  (h:dB P an fn lo (some l) zS a7 H fun e ff H1=>e=.normal∧H1[l]?=some (.loop .ready none fn T bh gp bY an) ∧
   dB P an fn lo (some l) zV ff (H1.set l (.loop .busy none fn T bh gp bY an)) fun e dQ a2=>e=.exit id∧a2[l]?=some (.loop .busy none fn T bh gp bY an)∧jg (a2.set l (.loop .done (some (.exit id)) fn T bh gp bY an)) H') :
  Sem P (.yield l) args H lo (.bool false) H' :=
 ajH dH ak eg po (k9 (fun e s a3=>⟨a3.1,a3.2.1,xa ag a3.2.2⟩) (xa cd h))
end
theorem LM (X Y:List au) (a b d:au):(((X++[a])++Y)++[b]).set X.length d=(((X++[d])++Y)++[b]):=by
 rw [List.set_append_left _ _ (by simp),Ye]
theorem J1 (X Y:List au) (a b:au):(((X++[a])++Y)++[b])[X.length]?=some a:=by
 rw [sB (by simp),NL]
theorem adB (X:List au) (b:au):jg (X++[b]) (X++[.dead]):=by
 refine ⟨by simp,fun id o h=>?_⟩;rcases sR id X.length with ak | ak
 ·rw [sB ak] at h ⊢;exact .inr h
 ·rw [sJ ak] at h;cases av:id-X.length with
  | zero=>rw [av] at h;simp at h;exact .inl h.symm
  | succ k=>rw [av] at h;simp at h
theorem Pn (X Y:List au) (a b:au):jg (((X++[a])++Y)++[b]) ((X++[a])++(Y++[.dead])):=by
 rw [←sA];exact adB _ b
end Go.Proofs.YtfakoboiahbhaaaGreat.Ab


namespace Go.Proofs.YtfakoboiahbhaaaGreat.Ab
open Go
theorem UE {α:Type} {f:α→I} (h:∀ x,(f x).view=f x) (l:List α):(l.map f).map I.view=l.map f:=by rw [tr];exact ti fun x _=>h x
theorem S1 {α:Type} (f:α→I) (l:List α) {n:Nat} (aQ:∀ x,(f x).view=f x) (h:l.length=n):(((l.map f).drop 0).take n).map I.view=l.map f:=by
 rw [sM,tG (by simp [h]),UE aQ]
theorem abj {P:Program} {t e:TypeId} {len:Nat} {kd k:IntKind} {xs:List Int} {n:Int} (ad:P.underlying t=some (.array len e)) (af:P.underlying e=some (.int kd)) (aG:bS P e=some 1) (a6:dI P e=false) (ak:xs.length=len) (aN:0≤n∧n<(len:Int)) :
  ov P t (.agg (xs.map hP)) (.int k n)=some (hP (ix xs n)):=by
 unfold ov;have bL:gP n len=some n.toNat:=by unfold gP;rw [if_pos aN]
 simp only [ad,aG,bL,r_,tt];unfold iw;simp only [af,a6];have aU:n.toNat<xs.length:=by omega
 rw [sr,sk aU,sd,PO (by omega)]
theorem agz {P:Program} {C:b6} {lo:Nat} {o:Oper} {t:TypeId} {a b:Operand} {x y v:I} {H:List au} (aq:o.op=.index t a b) (h:ov P t x y=some v) (ae:v.view=v:=by rfl):a8 P C lo o 0 [x,y] H=some (v,H):=by
 unfold a8;rw [aq];show (cy P o [x,y]).map _=_;unfold cy;rw [aq];show ((ov P t x y).map I.view).map _=_;rw [h,sd,sd,ae]
theorem Xz {P:Program} {C:b6} {lo:Nat} {o:Oper} {t e:TypeId} {a:Operand} {id len:Nat} {H:List au} (aq:o.op=.slice t a none none none) (ad:P.underlying t=some (.array len e)) (af:bS P e=some 1) (aS:0<len):a8 P C lo o 0 [.ptr id 0] H=some (.ref id 0 len (some len) 1,H):=by
 unfold a8;rw [aq];show (cy P o [.ptr id 0]).map _=_;unfold cy;rw [aq];show (eh P t none none none [.ptr id 0]).map _=_;unfold eh;simp only [I.view,eR,ad,af,dk,cH,r_];rw [if_neg (by omega)];rfl
theorem Te {P:Program} {C:b6} {lo mode:Nat} {o:Oper} {xs:Array Operand} {ts:Array TypeId} {vs:List I} {H:List au} (aq:o.op=.call { callee:=.builtin .clear,args:=xs,argTypes:=ts }):a8 P C lo o mode vs H=kR P lo ts H vs:=by
 unfold a8;rw [aq];rfl
theorem X2 (z:I):∀ n:Nat,eX n [z]=List.replicate n z
 | 0=>rfl
 | n+1=>by rw [eX,X2 z n];rfl
theorem V_ {P:Program} {lo id n:Nat} {H:List au} {l:List Int} {cap:Option Nat} {e:TypeId} {ts:Array TypeId} (e1:(ts[0]?).bind P.underlying=some (.slice e)) (ck:bS P e=some 1) (dE:zeroCells P e=some [.int .i64 0]) (bD:lo≤id)
  (ah:H[id]?=some (.cells (l.map hP))) (aN:l.length=n):kR P lo ts H [.ref id 0 n cap 1]=some (.tuple [],H.set id (.cells ((List.replicate n (0:Int)).map hP))):=by
 have oH:setCells 0 (eX n [I.int .i64 0]) (l.map hP)=(List.replicate n (0:Int)).map hP:=by
  apply tA;intro j;rw [n7 _ _ _ _ (by rw [ie];simp;omega),ie,X2];simp only [List.length_singleton,tt,sP,vp];by_cases aw:j<n
  ·rw [if_pos ⟨by omega,aw⟩];simp [aw]
  ·rw [if_neg (by omega),td (by simp;omega),td (by simp;omega)]
 unfold kR;simp only [e1,ck,dE,g7,ah,sd,if_pos bD];rw [if_pos ⟨trivial,rfl,by decide⟩,if_pos (by simp;omega),oH];rfl
theorem UB {α:Type} (f:α→I) (l m:List α) (aQ:∀ x,(f x).settle=f x) (h:m.length=l.length) {K:List I→Prop} (k:K (m.map f)):k6 (l.map f) 0 ((m.map f).map I.settle) K:=by
 have ai:(m.map f).map I.settle=m.map f:=by rw [tr];exact ti fun x _=>aQ x
 rw [ai];refine FK (by simp [h]) ?_;have oH:setCells 0 (m.map f) (l.map f)=m.map f:=by
  apply tA;intro j;rw [n7 _ _ _ _ (by simp;omega)];by_cases aw:j<m.length
  ·rw [if_pos ⟨by omega,by simpa using aw⟩,vp]
  ·rw [if_neg (by simp;omega),td (by simp;omega),td (by simp;omega)]
 rw [oH];exact k
theorem Yl {α:Type} (f:α→I) (m:List α) {n id lo:Nat} {H:List au} {l:List α} (bD:lo≤id) (aQ:∀ x,(f x).settle=f x) (ah:H[id]?=some (.cells (l.map f))) (h:m.length=n) (af:l.length=n) (aS:0<n) {K:I→List au→Prop} (k:K .junk (H.set id (.cells (m.map f)))):xz lo n (.ptr id 0) (.agg (m.map f)) H K:=by
 show (match Nat.ble lo id with | true=>_ | false=>_);rw [show Nat.ble lo id=true from uc bD];refine DW ah ?_;show (match Nat.beq (m.map f).length n,Nat.blt 0 n with | true,true=>_ | _,_=>_);rw [show Nat.beq (m.map f).length n=true from by rw [sV,h];exact Nat.beq_refl n,show Nat.blt 0 n=true from by rw [Nat.blt_eq];exact aS];exact UB f l m aQ (by omega) k
theorem ahK {H:List au} {T:List I} {a id n:Nat} {l:List Int} (bX:c4 T a=.ptr id 0) (ah:H[id]?=some (.cells (l.map hP))) (h:l.length=n):jZ H T [.cell a (.arr n)]=some [.agg (l.map hP)]:=by
 have e:kJ (.arr n) (l.map hP) 0=some (.agg (l.map hP)):=by
  show (if 0+n≤(l.map hP).length then _ else _)=_;rw [if_pos (by simp [h]),sM,tG (by simp [h]),UE (fun _=>rfl)]
 simp only [jZ,oA,bX,ah,e]
end Go.Proofs.YtfakoboiahbhaaaGreat.Ab


namespace Go.Proofs.YtfakoboiahbhaaaGreat.Ab
open Go
def Kh:List I→Nat→List (Nat×I)→List I
 | [],_,_=>[]
 | x::T,_,[]=>x::T
 | x::T,i,(j,v)::r=>match Nat.beq i j with
   | true=>v::Kh T (i+1) r
   | false=>x::Kh T (i+1) ((j,v)::r)
def Hw (u:Nat→I):Nat→Nat→List (Nat×I)→List I
 | 0,_,_=>[]
 | n+1,i,[]=>u i::Hw u n (i+1) []
 | n+1,i,(j,v)::r=>match Nat.beq i j with
   | true=>v::Hw u n (i+1) r
   | false=>u i::Hw u n (i+1) ((j,v)::r)
def qI (n:Nat) (bh:List (Nat×I)) (T:List I):Prop:=T.length=n∧T=Kh T 0 bh
theorem Qe {u bG:Nat→I}:∀ (n i:Nat) (bh:List (Nat×I)),(∀ k,i≤k→u k=bG k)→Hw u n i bh=Hw bG n i bh
 | 0,_,_,_=>rfl
 | n+1,i,[],h=>by
   rw [Hw,Hw,h i (sc _),Qe n (i+1) [] fun k av=>h k (by omega)]
 | n+1,i,(j,v)::r,h=>by
   rw [Hw,Hw];cases Nat.beq i j with
   | true=>exact congrArg _ (Qe n (i+1) r fun k av=>h k (by omega))
   | false=>show u i::_=bG i::_;rw [h i (sc _),Qe n (i+1) _ fun k av=>h k (by omega)]
theorem Yg:∀ (T:List I) (i:Nat) (bh:List (Nat×I)),Kh T i bh=Hw (fun k=>c4 T (k-i)) T.length i bh
 | [],_,_=>rfl
 | x::T,i,bh=>by
   have e:∀ bh,Hw (fun k=>c4 (x::T) (k-i)) T.length (i+1) bh=Kh T (i+1) bh:=fun bh=>by
    rw [Yg T (i+1) bh];refine Qe _ _ _ fun k av=>?_;show c4 (x::T) (k-i)=c4 T (k-(i+1));rw [show k-i=(k-(i+1))+1 by omega];rfl
   (have fQ:c4 (x::T) (i-i)=x:=by rw [Nat.sub_self];rfl);(have adu:∀ (T:List I) i,Kh T i []=T:=fun T i=>by cases T <;> rfl);cases bh with
   | nil =>
     show x::T=Hw _ (T.length+1) i [];rw [Hw,fQ,e,adu]
   | cons p r =>
     obtain ⟨j,v⟩:=p;show Kh (x::T) i ((j,v)::r)=Hw _ (T.length+1) i ((j,v)::r);rw [Kh,Hw];cases Nat.beq i j with
     | true=>exact congrArg _ (e r).symm
     | false=>show x::_=_::_;rw [fQ,e]
theorem qI.ex {n:Nat} {bh:List (Nat×I)} {T:List I} (h:qI n bh T):∃ u,T=Hw u n 0 bh:=by
 obtain ⟨ad,af⟩:=h;subst ad;exact ⟨_,af.trans (Yg T 0 bh)⟩
class Hc (d:Nat) (v:I):Prop where PW:cq d v=true
class qc (d:Nat) (l:List I):Prop where pl:l.all (cq d)=true
instance {d:Nat}:qc d []:=⟨rfl⟩
instance {d:Nat} {v:I} {l:List I} [a:Hc d v] [b:qc d l]:qc d (v::l):=⟨pZ a.PW b.pl⟩
instance {d:Nat} {a b:List I} [x:qc d a] [y:qc d b]:qc d (a++b):=⟨by rw [List.all_append,x.pl,y.pl];rfl⟩
instance {d:Nat} {α:Type} {f:α→I} {l:List α} [h:∀ x,Hc d (f x)]:qc d (l.map f):=⟨PZ (fun x=>(h x).PW) l⟩
instance {d:Nat} {α:Type} {f:α→List I} {l:List α} [h:∀ x,qc d (f x)]:qc d (l.flatMap f):=⟨by
 rw [sy];intro u hu;obtain ⟨x,_,al⟩:=uZ.1 hu
 exact sy.1 (h x).pl u al⟩
instance {d:Nat} {k:IntKind} {n:Int}:Hc (d+1) (.int k n):=⟨rfl⟩
instance {d:Nat} {b:Bool}:Hc (d+1) (.bool b):=⟨rfl⟩
instance {d:Nat} {b:ByteArray}:Hc (d+1) (.str b):=⟨rfl⟩
instance {d:Nat}:Hc (d+1) .eB:=⟨rfl⟩
instance {d n:Nat} {c:il} {l:List I} [h:qc d l]:Hc (d+1) (.ay l n c):=⟨h.pl⟩
instance {d:Nat} {l:List I} [h:qc d l]:Hc (d+1) (.agg l):=⟨h.pl⟩
instance {d:Nat} {l:List I} [h:qc d l]:Hc (d+1) (.tuple l):=⟨h.pl⟩
instance {d:Nat} {l:List I} [h:qc d l]:Hc (d+1) (.bU l):=⟨h.pl⟩
instance {d:Nat} {α:Type} {f:α→I} {l:List α} [h:∀ x,Hc d (f x)]:Hc (d+1) (abf f l):=⟨PZ (fun x=>(h x).PW) l⟩
instance {d:Nat} {α:Type} {f:α→List I} {l:List α} [h:∀ x,qc d (f x)]:Hc (d+1) (qB f l):=⟨(inferInstance:qc d (l.flatMap f)).pl⟩
instance {d:Nat} {l:List Int}:Hc (d+2) (jh l):=⟨(inferInstance:qc (d+1) (l.map hP)).pl⟩
instance {d:Nat} {l:List (List Int)}:Hc (d+3) (iq l):=⟨(inferInstance:qc (d+2) (l.map jh)).pl⟩
instance {d:Nat} {α:Type} {f:α→List I} {x:Option α} [h:∀ x,qc d (f x)]:Hc (d+1) (PU f x):=⟨XK (fun x=>(h x).pl) x⟩
theorem qj {p Kb:Prop} [Decidable p] {aT:Type} {k:Option aT} {v:aT} {K:Prop} (h:p5 p k=some v) (f:p→Kb) (g:p→k=some v→K):Kb∧K :=
 ⟨f (qn h).1,g (qn h).1 (qn h).2⟩
theorem bs {b:Bool} {aT:Type} {x y:Option aT} {v:aT} {K:Prop} (h:(if b=true then x else y)=some v) (f:b=true→x=some v→K) (g:b=false→y=some v→K):K :=
 match b,h,f,g with
 | true,h,f,_=>f rfl (GX rfl h)
 | false,h,_,g=>g rfl (GV rfl h)
theorem agP {d:Nat} {u:I} (h:cq d u.gR=true):cq d u=true:=by
 cases d with
 | zero=>simp [cq] at h
 | succ d=>cases u with
   | ay cs n c=>cases c <;> exact h
   | _=>exact h
theorem XJ {d:Nat} {l:List I} (h:(l.map I.gR).all (cq d)=true):l.all (cq d)=true:=by
 rw [sy] at h ⊢;exact fun u hu=>agP (h _ (List.mem_map_of_mem hu))
theorem agO {d:Nat} {r:I} (h:cq d r.settle.view.cr=true):cq d r=true:=by
 cases d with
 | zero=>simp [cq] at h
 | succ d=>cases r with
   | ay cs n c=>cases c <;> exact h
   | agg cs=>exact XJ (l:=cs) h
   | tuple cs=>exact XJ (l:=cs) h
   | raw=>exact absurd h (by simp [I.settle,I.view,I.cr,cq])
   | cl=>exact absurd h (by simp [I.settle,I.view,I.cr,cq])
   | _=>exact h
theorem Ke {rs:List ji} {v:I} {T:List I} {H:List au} {vs:List I} [h:Hc 8 v] (ad:jZ H T rs=some vs) (af:(g' vs).settle.view.cr=v):H5 rs v .ret T H :=
 ⟨.inr rfl,vs,ad,_,oR (agO (af ▸ h.PW)),af⟩
end Go.Proofs.YtfakoboiahbhaaaGreat.Ab


namespace Go.Proofs.YtfakoboiahbhaaaGreat.Ab
open Go
section
variable {P:Program} {A:c7} {fn:FuncId} {lo:Nat} {rl:Option Nat}
inductive ak9 (P:Program) (A:c7) (fn:FuncId) (lo:Nat) (rl:Option Nat) (rc:ey) (T:List I) (H:List au) (Q:cB→List I→List au→Prop):Prop where
 | mk (cD:List Bool) (c:ey) (he:rc=.loop (some cD) c) (hP:Nat→List I→List au→Prop) (m:Nat) (hm:m≤p6) (aS:hP m T H)
   (step:∀ (ry:List I→List au→Prop) m T H,hP m T H→(∀ g4 a7 H',g4<m→hP g4 a7 H'→ry a7 H')→nO T fun T=>dB P A fn lo rl c T H fun e a7 H'=>match e with
    | .normal=>pR (some cD) a7 fun a7=>ry a7 H'
    | e=>Q e a7 H')
end
theorem ajI {P:Program} {A:c7} {fn lo:Nat} {rl:Option Nat} {c:ey} {T:List I} {H:List au} {Q:cB→List I→List au→Prop} (h:dB P A fn lo rl c T (H++[]) Q):dB P A fn lo rl c T H Q:=by
 rw [sU] at h;exact h
theorem Tn {cs:List I} {n d:Nat} {c:il} (h:cs.all (cq d)=true):cq (d+1) (.ay cs n c)=true:=h
theorem VX (A Y C:List au):(A++Y)++C=A++(Y++C):=sA _ _ _
theorem Mr (X:List au) (a:au):(X++[a,.dead])[X.length]?=some a:=by simp
theorem Yd (X:List au) (a aM:au):(X++[a,.dead]).set X.length aM=X++[aM,.dead]:=by simp
theorem Wx {P:Program} {C:b6} {lo id gid n z:Nat} {o:Oper} {x:Operand} {H:List au} {l:List I} {g cU:Nat} (aq:o.op=.move x) (bD:lo≤id) (ah:H[id]?=some (.grow l g cU)) (aN:l.length=n*z) :
  a8 P C lo o 2 [.cl id gid n z] H=some (.ay (l.map I.view) n .shared,H.set id .dead):=by
 unfold a8;rw [aq];show eP P lo 2 o.type x H [.cl id gid n z]=_;unfold eP;simp only [bD,if_true,ah];rw [if_pos aN]
def ahW (l:List Int):I:=.ay (l.map hP) l.length (if l.length=1 then .full else .shared)
theorem Rel.rows {J:List Nat} {S:Nat→Nat→Prop} {w:World} {cells:List I} {n:Nat} {v:Value} (h:Rel J S w (.ay cells n .shared) v):Rel J S w (.ay (cells.map I.gR) n .shared) v:=by
 cases h with
 | b1 _ a=>exact .b1 _ a
 | ay _ _ _ b o cap f ao hle hu k eL =>
   refine .ay _ _ _ b o cap f ao hle hu (fun j u aw=>?_) (fun j u aw=>?_)
   ·rw [sr] at aw;simp only [rZ] at aw;obtain ⟨x,al,rfl⟩:=aw;obtain ⟨aB,aH,aR,bj⟩:=k j x al;exact ⟨aB,aH,yf aR,bj⟩
   ·rw [sr] at aw;simp only [rZ] at aw;obtain ⟨x,al,rfl⟩:=aw;exact (eL j x al).gR
theorem lg.rows {P:Program} {k:FuncId} {args cells:List I} {n:Nat} (h:lg P k args (.ay cells n .shared)) (aC:cq 8 (.ay (cells.map I.gR) n .shared)=true):lg P k args (.ay (cells.map I.gR) n .shared) :=
 ⟨⟨h.1.1,h.1.2.1,fun B U J S w vs ah aN ae=>CallsIn.mono (h.1.2.2 B U J S w vs ah aN ae) fun e w' he=>by
   cases e with
   | returned x =>
     obtain ⟨bn,cg,bH,a,b,c,d,e⟩:=he;exact ⟨bn,cg,bH,a,b,c,d.rows,aV.b3 rfl⟩
   | panicked c=>exact he.elim
   | outgrown=>exact he.elim⟩,aC⟩
end Go.Proofs.YtfakoboiahbhaaaGreat.Ab


namespace Go.Proofs.YtfakoboiahbhaaaGreat.Ab
open Go
instance {d:Nat} {p:Int×Int}:qc (d+1) (pY p):=⟨(inferInstance:qc (d+1) [hP p.1,hP p.2]).pl⟩
instance {d:Nat} {l:List Int}:Hc (d+2) (ahW l):=⟨(inferInstance:qc (d+1) (l.map hP)).pl⟩
end Go.Proofs.YtfakoboiahbhaaaGreat.Ab


namespace Go.Proofs.YtfakoboiahbhaaaGreat.Ab
open Go
abbrev p8:=List Int
abbrev p_:=List (Int×Int)
abbrev rB:=List (List Int)
abbrev qx:=List (List (Int×Int))
abbrev qb:=Int×List (Int×Int)
abbrev qY:=cB→List I→List au→Prop
abbrev qg (l:List Int) (c:il):I:=.ay (l.map hP) l.length c
abbrev p2 (l:List (Int×Int)) (c:il):I:=.ay (l.flatMap pY) l.length c
abbrev alc (b:Int×List (Int×Int)):I:=.agg [hP b.1,.ay (b.2.flatMap pY) b.2.length .shared]
abbrev rz (b:Int×List (Int×Int)):au:=au.cells [hP b.1,.ay (b.2.flatMap pY) b.2.length .shared]
def qv {aT:Type} (rs:List ji) (Q:cB→List I→List au→Prop) (e:aT→I) (v:aT):Prop:=∀ T H,H5 rs (e v) .ret T H→Q .ret T H
theorem p7 {aT:Type} {x v:aT} {e:aT→I} {rs:List ji} {Q:cB→List I→List au→Prop} {T:List I} {H:List au} {vs:List I} (h:some x=some v) (jw:qv rs Q e v) [k:Hc 8 (e x)] (ad:jZ H T rs=some vs) (af:(g' vs).settle.view.cr=e x):Q .ret T H:=by
 obtain rfl:=Option.some.inj h;exact jw _ _ (Ke ad af)
class qh (H:List au) (i:Nat) (o:outParam au):Prop where h:H[i]?=some o
instance {H:List au} {o:au}:qh (H++[o]) H.length o:=⟨Iv _ _⟩
instance {H:List au} {i:Nat} {o p:au} [k:qh H i o]:qh (H++[p]) i o:=⟨qH k.h⟩
end Go.Proofs.YtfakoboiahbhaaaGreat.Ab


namespace Go.Proofs.YtfakoboiahbhaaaGreat.Ab
open Go Go.ChangeShapes Go.WideShapes Go.ChangeAt Go.RowKit
def S0 (w:World):Nat→Nat→Prop:=fun b o=>∃ v,w.cell? ⟨b,o,none⟩=some v
theorem l5 (w:World):aL w.heap.size (fun _=>none) [] (S0 w) w [] :=
 ⟨rfl,fun _ _ h=>by simp at h,fun _ _ h=>h,fun _ _ h=>by simp at h,sc _⟩
theorem aiW {P:Program} {k:FuncId} {args:List I} {vs:List Value} {W:World} {b:Bool} (h:lg P k args (.bool b)) (ae:a9 (fun i=>.arg i) (fun _=>none) [] (S0 W) W args vs) :
  Calls P k vs.toArray W fun e H7=>e=.returned (.bool b)∧Below W.heap.size W H7:=by
 have ad:=h.1.2.2 W.heap.size (fun _=>none) [] (S0 W) W vs (l5 W) (fun _ _ h=>by simp at h) ae;refine (callsIn_wide.1 ad).mono fun e H7 he=>?_;cases e with
 | returned v =>
   obtain ⟨az,bZ,S',_,aA,_,aj,_⟩:=he;cases aj;exact ⟨rfl,aA.os,aA.tape,aA.output,aA.size,fun b ag=>aA.cD b ag rfl⟩
 | panicked c=>exact he.elim
 | outgrown=>exact he.elim
section
variable {H:Type} {enc:TypeId×Value→H} {P:Program} {w:World}
theorem Vi {W H7:World} (K:Kids P (·<P.types.size)) (bP:∀ t e,t<P.types.size→P.underlying t=some (.slice e)→0<P.cellsOf e) (p1:Below W.heap.size W H7) {sp:Nat→Bool} :
  ∀ {ts:List TypeId} {vs:List Value} {ds:List (DataW H)} {p:List MemPlace},(∀ t∈ts,t<P.types.size)→DataW.TrodAll enc P W 0 (fun _=>true) true ts vs ds p→(∀ x∈p,sp x.block=true)→(∀ x∈p,x.block<W.heap.size)→DataW.TrodAll enc P H7 0 sp true ts vs ds p
 | [],_,_,_,_,aK,_,_=>by obtain ⟨rfl,rfl,rfl⟩:=trodAll_nil aK;exact trodAll_mk0
 | t::ts,_,_,_,bX,aK,Mz,aU=>by
   obtain ⟨v,vs,d,ds,a,b,rfl,rfl,rfl,⟨n,aN⟩,af⟩:=trodAll_cons aK;refine ⟨a,b,⟨n,?_⟩,Vi K bP p1 (fun t ax=>bX t (tR _ ax)) af (fun x al=>Mz x (v3 _ al)) (fun x al=>aU x (v3 _ al)),rfl⟩;exact DataW.trod_stays K (fun {t e} ax he=>bP t e ax he) (fun h=>by cases h) (bX t ud) aN (fun x al=>p1.same (aU x (u5 _ al))) fun x al=>Mz x (u5 _ al)
theorem agM {f:Func} {s:ChangeSpec} {again:Bool} {W H7:World} {args:Array Value} {t:TypeId} {ds gs:List (DataW H)} {before:List MemPlace}
  (ak:laidOutB P=true) (hm:mapsRowed P=true) (bm:((List.range P.types.size).all fun t=>match P.underlying t with | some (.slice e)=>decide (0<P.cellsOf e) | _=>true)=true)
  (ax:f.resultTypes=#[t]) (J6:P.underlying t=some .bool) (CU:f.params.toList.all (fun t=>decide (t<P.types.size))=true) (SS:s.vars=[])
  (lN:DataW.Whole enc P f.params.toList s.vars false W args.toList ds gs before) (p1:Below W.heap.size W H7)
  (ai:s.fn H (ds++gs)={ results:=[.lit (.bool true)],args:=ds }):s.post enc P f false true false again W args (.bool true) H7:=by
 have aU:=lN.lt;have ad2:=lN;obtain ⟨p,q,aK,jx,rfl,Cu,jG⟩:=ad2;rw [SS] at jx;obtain ⟨rfl,rfl⟩:=trodVars_none jx;rw [sU] at *;have K:Kids P (·<P.types.size):=kids_rows ak hm;have bP:=slices_full_of P bm;have bX:∀ t∈f.params.toList,t<P.types.size:=fun t h=>by
  have:=sy.1 CU t h;simpa using this
 have again:∀ sp:Nat→Bool,(∀ x∈p,sp x.block=true)→DataW.TrodAll enc P H7 0 sp true f.params.toList args.toList ds p:=fun sp Mz =>
  Vi K bP p1 bX aK Mz aU
 have kA:∀ (b:Nat) (sp:Nat→Bool) (aZ:Bool),DataW.TrodAll enc P H7 b sp aZ f.resultTypes.toList ((Value.bool true).resultList f.resultTypes.size) (s.fn H ds).results []:=fun b sp aZ=>by
  rw [ai,ax];exact trodAll_mk1 (shut_bool J6 true)
 have Cb:∀ sp:Nat→Bool,(∀ x∈p,sp x.block=true)→DataW.TrodAll enc P H7 0 sp true f.params.toList args.toList (s.fn H ds).args p:=fun sp Mz=>by
  rw [ai];exact again sp Mz
 have ae:∀ sp:Nat→Bool,DataW.TrodVars enc P H7 sp s.vars (s.fn H ds).vars []:=fun sp=>by
  rw [ai,SS];rfl
 have hold:∀ x∈p,(fun b=>decide (b<W.heap.size)) x.block=true:=fun x al=>by simpa using aU x al
 refine ⟨ds,[],p,[],p,[],lN,by rw [sU];exact kA _ _ _,by rw [sU];exact Cb _ hold,by rw [sU];exact ae _,p1.frame _,fun _=>?_⟩;refine ⟨fun j u r hu aj=>?_,(s.fn H ds).results++(s.fn H ds).args,[],p,⟨p,[],?_,?_,by simp,?_,fun h=>by cases h⟩,fun x al _=>al⟩
 ·rw [ax] at hu aj;cases j with
  | zero=>simp [Value.resultList] at hu aj;subst hu;subst aj;exact okWide_bool_mk J6 true
  | succ j=>simp at hu
 ·have:=trodAll_append (Cb (fun _=>true) fun _ _=>rfl) (kA 0 (fun _=>true) true);simpa using this
 ·rw [SS];rfl
 ·intro b o ag;have:=aU _ ag;rw [p1.frozen (p:=⟨b,o,none⟩) this];exact Cu b o ag
abbrev Lg (enc:TypeId×Value→H) (P:Program) (w:World) (e:TypeId) (Q:I→Prop):Prop :=
 ∀ n v y,DataW.trod enc P w 0 (fun _=>true) true n e [v]=some y→∃ u,u.plain=true∧v.oneCell'=true∧Rel [] (S0 w) w u v∧Q u
theorem acU {e:TypeId} {k:IntKind} (ax:P.underlying e=some (.int k)):Lg enc P w e fun u=>∃ x,u=.int k x∧(Lit.int k x).wf=true:=by
 intro n v y h;obtain ⟨x,al,_,hw⟩:=DataW.trod_int ax h;injection al with al _;subst al;exact ⟨.int k x,rfl,rfl,.int k x,x,rfl,hw⟩
instance:Inhabited I:=⟨.junk⟩
def Io (x:Int):Prop := -9223372036854775808≤x∧x≤9223372036854775807
theorem wf_i64 {x:Int} (h:(Lit.int .i64 x).wf=true):Io x:=by
 have ad:IntKind.i64.min=-9223372036854775808:=rfl;have af:IntKind.i64.max=9223372036854775807:=rfl;simp only [Lit.wf,sv,decide_eq_true_eq] at h;exact ⟨by omega,by omega⟩
structure abe (l:List Int):Prop where
 n:l.length≤9223372036854775807
 v:∀ x∈l,Io x
structure ak2 (l:List (List Int)):Prop where
 n:l.length≤9223372036854775807
 v:∀ r∈l,abe r
theorem Xs {n:Nat} (h:n≤maxLen):n≤9223372036854775807:=by unfold maxLen at h;omega
structure ak4 (l:List Int):Prop where
 n:l.length≤9223372036854775807
 v:∀ x∈l,0≤x∧x≤255
abbrev Arg (enc:TypeId×Value→H) (P:Program) (w:World) (base:Nat) (t:TypeId) (Q:I→Prop):Prop :=
 ∀ v d p,Value.okWide P w .any base t v→DataW.Trod enc P w 0 (fun _=>true) true t v d p→∃ u,u.plain=true∧Rel [] (S0 w) w u v∧Q u
theorem acx {base:Nat} {t:TypeId} {k:IntKind} (ax:P.underlying t=some (.int k)):Arg enc P w base t fun u=>∃ x,u=.int k x∧(Lit.int k x).wf=true:=by
 intro v d p ae aZ;obtain ⟨x,rfl,_,_,hw⟩:=open_int ax ae aZ;exact ⟨.int k x,rfl,.int k x,x,rfl,hw⟩
theorem acz {base:Nat} {t e:TypeId} (ax:P.underlying t=some (.slice e)) {Q:I→Prop} (ao:Lg enc P w t Q):Arg enc P w base t Q:=by
 intro v d p ae ⟨n,aZ⟩;obtain ⟨a,len,cap,rfl⟩:=okWide_slice ax ae;obtain ⟨u,aB,_,aR,bj⟩:=ao n _ _ aZ;exact ⟨u,aB,aR,bj⟩
theorem ajd {us:List I} {vs:List Value} (h:us.length=vs.length) (aj:∀ (i:Nat) (u:I) (v:Value),us[i]?=some u→vs[i]?=some v→u.plain=true∧Rel [] (S0 w) w u v):a9 (fun i=>.arg i) (fun _=>none) [] (S0 w) w us vs :=
 ⟨h,fun i u v hu ae=>(aj i u v hu ae).2,fun i u v hu ae=>aV.b3 (aj i u v hu ae).1⟩
theorem aje {xT fq gf:I} {v0 v1 v2:Value} (Tf:xT.plain=true) (hB:Rel [] (S0 w) w xT v0) (bR:fq.plain=true) (r1:Rel [] (S0 w) w fq v1) (b4:gf.plain=true) (r2:Rel [] (S0 w) w gf v2) :
  a9 (fun i=>.arg i) (fun _=>none) [] (S0 w) w [xT,fq,gf] [v0,v1,v2] :=
 ajd rfl fun i u v hu ae=>by
  match i with
  | 0=>simp at hu ae;subst hu;subst ae;exact ⟨Tf,hB⟩
  | 1=>simp at hu ae;subst hu;subst ae;exact ⟨bR,r1⟩
  | 2=>simp at hu ae;subst hu;subst ae;exact ⟨b4,r2⟩
  | i+3=>simp at hu
end
end Go.Proofs.YtfakoboiahbhaaaGreat.Ab


namespace Go.Proofs.YtfakoboiahbhaaaGreat.Ab
open Go Go.ChangeShapes Go.WideShapes Go.ChangeAt Go.RowKit
section
variable {H:Type} {enc:TypeId×Value→H} {P:Program} {w:World}
theorem S8 {α β:Type} {f:α→β} {R:α→Prop}:∀ {l:List β},(∀ u∈l,∃ x,u=f x∧R x)→∃ gg:List α,l=gg.map f∧∀ x∈gg,R x
 | [],_=>⟨[],rfl,by simp⟩
 | u::l,h=>by
   obtain ⟨x,rfl,al⟩:=h u (by simp);obtain ⟨gg,rfl,bm⟩:=S8 (l:=l) fun y a0=>h y (by simp [a0]);exact ⟨x::gg,rfl,by simpa using ⟨al,bm⟩⟩
def Nh (enc:TypeId×Value→H) (P:Program) (w:World) (bE:Array Field) (Qs:List (I→Prop)):Prop :=
 Qs.length=bE.size∧∀ (i:Nat) (f:Field) (q:I→Prop),bE[i]?=some f→Qs[i]?=some q→f.offset=i∧P.cellsOf f.type=1∧Lg enc P w f.type q
def Mj (Qs:List (I→Prop)) (us:List I):Prop:=us.length=Qs.length∧∀ (i:Nat) (u:I) (q:I→Prop),us[i]?=some u→Qs[i]?=some q→q u
theorem Ym {t:TypeId} {bE:Array Field} {Qs:List (I→Prop)} (ax:P.underlying t=some (.struct bE)) (ao:P.cellsOf t=bE.size) (aQ:Nh enc P w bE Qs) {n:Nat} {cs:List Value} {y:DataW H×List MemPlace}
  (h:DataW.trod enc P w 0 (fun _=>true) true n t cs=some y):∃ us:List I,Mj Qs us∧cs.length=us.length∧∀ (j:Nat) (u:I) (v:Value),us[j]?=some u→cs[j]?=some v→u.plain=true∧v.oneCell'=true∧Rel [] (S0 w) w u v:=by
 obtain ⟨xs,m,_,_,ak,alG,al⟩:=DataW.trod_struct ax h;rw [ao] at ak;have each:∀ i,i<bE.size→∃ u:I,(∀ v,cs[i]?=some v→u.plain=true∧v.oneCell'=true∧Rel [] (S0 w) w u v)∧∀ q,Qs[i]?=some q→q u:=fun i hi=>by
  have ad:bE[i]?=some bE[i]:=Array.getElem?_eq_getElem hi;have a3:i<Qs.length:=by rw [aQ.1];exact hi
  have af:Qs[i]?=some Qs[i]:=sk a3;obtain ⟨e1,ck,dE⟩:=aQ.2 i _ _ ad af;have aG:=al i _ ad;rw [e1,ck] at aG;have WZ:i<cs.length:=by omega
  rw [sQ WZ,sk (by omega)] at aG;simp only [vZ,tq] at aG;obtain ⟨u,aB,aH,aR,bj⟩:=dE _ _ _ aG;refine ⟨u,fun v ae=>?_,fun q CV=>?_⟩
  ·rw [sk WZ] at ae;cases ae;exact ⟨aB,aH,aR⟩
  ·rw [af] at CV;cases CV;exact bj
 obtain ⟨Iq,Mu⟩:=Deep.choose_lt (α:=I) (n:=bE.size) (p:=fun i u=>(∀ v,cs[i]?=some v→u.plain=true∧v.oneCell'=true∧Rel [] (S0 w) w u v)∧∀ q,Qs[i]?=some q→q u) each;have get:∀ (i:Nat) (u:I),((List.range bE.size).map Iq)[i]?=some u→i<bE.size∧u=Iq i:=fun i u hu=>by
  have hi:i<bE.size:=by have:=(sa.1 hu).1;simpa using this
  simp [hi] at hu;exact ⟨hi,hu.symm⟩
 refine ⟨(List.range bE.size).map Iq,⟨by simp [aQ.1],fun i u q hu a3=>?_⟩,by simp [ak],fun j u v hu ae=>?_⟩
 ·obtain ⟨hi,rfl⟩:=get i u hu;exact (Mu i hi).2 q a3
 ·obtain ⟨hi,rfl⟩:=get j u hu;exact (Mu j hi).1 v ae
theorem acA {base:Nat} {t:TypeId} {bE:Array Field} {Qs:List (I→Prop)} (ax:P.underlying t=some (.struct bE)) (ao:P.cellsOf t=bE.size) (aQ:Nh enc P w bE Qs):Arg enc P w base t fun u=>∃ us,u=.agg us∧Mj Qs us:=by
 intro v d p ae ⟨n,aZ⟩;unfold Value.okWide at ae;rw [ax] at ae;obtain ⟨cs,rfl,bP,_⟩:=ae;obtain ⟨us,ad,af,aG⟩:=Ym ax ao aQ aZ;have af:cs.toList.length=us.length:=af;refine ⟨.agg us,rfl,.agg us cs (by simpa using af) (fun u hu=>?_) (fun v ae=>?_) fun j u v hu ae=>?_,us,rfl,ad⟩
 ·obtain ⟨j,aw⟩:=tx.1 hu;have aU:j<cs.toList.length:=by rw [af];exact (sa.1 aw).1
  exact (aG j u _ aw (sk aU)).1
 ·obtain ⟨j,aw⟩:=tx.1 ae;have aU:j<us.length:=by rw [←af];exact (sa.1 aw).1
  exact (aG j _ v (sk aU) aw).2.1
 ·exact (aG j u v hu (by show cs.toList[j]?=some v;simpa using ae)).2.2
theorem Wu {s:Nat}:∀ {L:List (List I)} {j:Nat} {u:I},(∀ l∈L,l.length=s)→0<s→L.flatten[j]?=some u→∃ l,L[j / s]?=some l∧l[j % s]?=some u
 | [],j,u,_,_,h=>by simp at h
 | l::L,j,u,ak,ai,h=>by
   have aS:l.length=s:=ak l (by simp);rw [List.flatten_cons] at h;by_cases aw:j<s
   ·rw [sB (by omega)] at h;exact ⟨l,by rw [Nat.div_eq_of_lt aw];rfl,by rw [Nat.mod_eq_of_lt aw];exact h⟩
   ·rw [sJ (by omega),aS] at h;obtain ⟨k,a,b⟩:=Wu (s:=s) (fun x al=>ak x (by simp [al])) ai h;(have e1:j / s=(j-s) / s+1:=by rw [Nat.div_eq_sub_div ai (by omega)]);(have ck:j % s=(j-s) % s:=by rw [Nat.mod_eq_sub_mod (by omega)]);exact ⟨k,by rw [e1];simpa using a,by rw [ck];exact b⟩
theorem V8 {t e:TypeId} {bE:Array Field} {Qs:List (I→Prop)} (ax:P.underlying t=some (.slice e)) (he:P.underlying e=some (.struct bE)) (ao:P.cellsOf e=bE.size) (aS:0<bE.size) (aQ:Nh enc P w bE Qs) :
  Lg enc P w t fun u=>∃ L:List (List I),u=.ay L.flatten L.length .shared∧L.length≤maxLen∧∀ us∈L,Mj Qs us:=by
 intro fuel v x h;rcases Deep.open_slice ax h with ⟨ae,_⟩ | ⟨a,len,cap,m,n,D,ala,ae,_,ak,hm,ps,_,al⟩
 ·injection ae with ae _;subst ae;exact ⟨_,rfl,rfl,.b1 _ _,[],rfl,sq _,by simp⟩
 ·injection ae with ae _;subst ae;have ps:m=cap:=ps;by_cases Ce:cap=0
  ·(subst Ce;obtain rfl:len=0:=by omega);exact ⟨_,rfl,rfl,.b1 _ _,[],rfl,sq _,by simp⟩
  ·have each:∀ i,i<len→∃ q:List I×List Value,Mj Qs q.1∧q.2.length=bE.size∧w.cells? 0 (a.add (i*bE.size)) bE.size=some q.2∧∀ (j:Nat) (u:I) (v:Value),q.1[j]?=some u→q.2[j]?=some v→u.plain=true∧v.oneCell'=true∧Rel [] (S0 w) w u v:=fun i hi=>by
    obtain ⟨c8,ad,af⟩:=al i (by omega);rw [ao] at ad;obtain ⟨us,bo,cI,ez⟩:=Ym he ao aQ af;exact ⟨(us,c8),bo,by have:=bo.1;rw [cI,this,aQ.1],ad,ez⟩
   obtain ⟨q0,_,_,aeY,_⟩:∃ q:List Value,True∧True∧w.cells? 0 (a.add (0*bE.size)) bE.size=some q∧True:=by
    obtain ⟨c8,ad,_⟩:=al 0 (by omega);rw [ao] at ad;exact ⟨c8,trivial,trivial,ad,trivial⟩
   obtain ⟨b,o,sp⟩:=a;have ai:sp=none:=by
    obtain ⟨_,hlen,bu⟩:=World.cells?_some aeY;have:=bu 0 aS;rw [sk (by omega)] at this;simpa [Addr.add] using World.cell?_spot this
   subst ai;obtain ⟨Iq,Mu⟩:=Deep.choose_lt (α:=List I×List Value) (n:=len) (p:=fun i q=>Mj Qs q.1∧q.2.length=bE.size∧w.cells? 0 (Addr.add ⟨b,o,none⟩ (i*bE.size)) bE.size=some q.2∧∀ (j:Nat) (u:I) (v:Value),q.1[j]?=some u→q.2[j]?=some v→u.plain=true∧v.oneCell'=true∧Rel [] (S0 w) w u v) each;(have ad0:∀ i,i<len→(Iq i).1.length=bE.size:=fun i hi=>by have:=(Mu i hi).1.1;rw [this,aQ.1]);have c9:∀ l∈((List.range len).map fun i=>(Iq i).1),l.length=bE.size:=fun l dz=>by
    obtain ⟨i,hi,rfl⟩:=sm.1 dz;exact ad0 i (sG.1 hi)
   let V:Nat→Value:=fun j=>((Iq (j / bE.size)).2)[j % bE.size]!
   have key:∀ (j:Nat) (u:I),(((List.range len).map fun i=>(Iq i).1).flatten)[j]?=some u→w.cell? ⟨b,o+j,none⟩=some (V j)∧u.plain=true∧(V j).oneCell'=true∧Rel [] (S0 w) w u (V j):=fun j u aw=>by
    obtain ⟨l,cb,b8⟩:=Wu c9 aS aw;(have hi:j / bE.size<len:=by have:=(sa.1 cb).1;simpa using this);simp [hi] at cb;subst cb;obtain ⟨a',bk,bq,b7⟩:=Mu _ hi;have aeP:j % bE.size<bE.size:=Nat.mod_lt _ aS;have ae:(Iq (j / bE.size)).2[j % bE.size]?=some (V j):=by
     show _=some ((Iq (j / bE.size)).2[j % bE.size]!);rw [sk (by omega),getElem!_pos _ _ (by omega)]
    obtain ⟨_,_,bu⟩:=World.cells?_some bq;have N1:=bu (j % bE.size) aeP;rw [ae] at N1;have e:(Addr.add (Addr.add ⟨b,o,none⟩ (j / bE.size*bE.size)) (j % bE.size))=⟨b,o+j,none⟩:=by
     simp only [add_lit];congr 1;have:=Nat.div_add_mod' j bE.size;omega
    rw [e] at N1;exact ⟨N1,b7 _ _ _ b8 ae⟩
   refine ⟨.ay ((List.range len).map fun i=>(Iq i).1).flatten len .shared,rfl,rfl,.ay _ _ _ b o cap V (by simp) ak (by simp) (fun j u aw=>?_) (fun j u aw=>?_),(List.range len).map fun i=>(Iq i).1,by simp,by simp;omega,fun us hu=>?_⟩
   ·obtain ⟨aJ,aP,cj,_⟩:=key j u aw;exact ⟨⟨_,aJ⟩,aJ,aP,cj⟩
   ·exact (key j u aw).2.2.2
   ·obtain ⟨j,aw,rfl⟩:=sm.1 hu;exact (Mu j (sG.1 aw)).1
end
end Go.Proofs.YtfakoboiahbhaaaGreat.Ab


namespace Go.Proofs.YtfakoboiahbhaaaGreat.Ab
open Go
set_option maxRecDepth 20000
set_option maxHeartbeats 4000000
noncomputable def aaV:ey :=
 Gz [gL 3 [.hG 1] .box,Gm 4 0,Gm 5 0] (.seq (Gt [Gp 7 0,gL 8 [.hJ 7] .zB,F6 9 8 0,F6 10 9 1,Gl 11 10,gL 12 [.sl 3] (.oP 0),Gl 13 12,Gh 14 11 13 2,gL 15 [.hJ 14] (.pT (.str 2)),gL 6 [] (.alloc [.int .i64 0,.int .i64 0]),⟨none,[.sl 6,.hG 15],none,none,.st 2⟩]) (.seq (Gz [F6 16 3 1,Gl 17 16,F0 18 17 0 .gtr] (.cond (.sl 18) (.seq (Gt [gL 19 [.sl 6] (.oP 1),Gl 20 19,gL 21 [.sl 6] (.oP 0),Gl 22 21,Gp 4 20,Gp 5 22]) .ret) .skip)) (.seq (Gt [gL 23 [.sl 6] (.oP 0),Gl 24 23,gL 25 [.sl 6] (.oP 1),Gl 26 25,Gp 4 24,Gp 5 26]) .ret)))
theorem af4:zf Tryz.prog VK 68=some (aaV,27,[.tmp 4,.tmp 5]):=by kernel_rfl
def La (t:qb) (p:(Int×Int)):Option (Int×Int) :=
 p5 (0≤p.1∧p.1<(t.2.length:Int)) <|
 if (decide ((0:Int)<p.2))=true then
  some ((ix t.2 p.1).2,(ix t.2 p.1).1)
 else
  some ((ix t.2 p.1).1,(ix t.2 p.1).2)
theorem JL {t:qb} {p:(Int×Int)} {v:(Int×Int)} (h:La t p=some v):qp 68 [(.bU [(hP t.1),(.ay (t.2.flatMap pY) t.2.length .shared)]),(.agg [(hP p.1),(hP p.2)])] (.tuple [(hP v.1),(hP v.2)]):=by
 refine qN dH af4 rfl (Ih (pZ rfl (pZ rfl rfl))) fun Q bl=>?_;have jw:qv [.tmp 4,.tmp 5] Q (fun v=>(.tuple [(hP v.1),(hP v.2)])) v:=fun T H bI=>bl _ T H bI;unfold La at h;unfold aaV;conv=>whnf
 refine qj h id fun eT h=>?_;rw [qU pY 2 ql t.2 p.1 eT];conv=>whnf
 refine bs h (fun fj h=>?_) fun fj h=>?_
 ·rw [fj];conv=>whnf
  exact p7 h jw rfl rfl
 ·rw [fj];conv=>whnf
  exact p7 h jw rfl rfl
end Go.Proofs.YtfakoboiahbhaaaGreat.Ab


namespace Go.Proofs.YtfakoboiahbhaaaGreat.Ab
open Go
noncomputable def TN:ey :=
 Gz [Gp 30 7,gL 31 [.sl 2] (.pT .one),F1 32 30 31 .eql,Gp 33 32,cP 34 [.sl 0] 33 true .iQ,cP 35 [.hJ 6] 33 true (.pT (.str 2)),cP 36 [.hG 34,.hG 35] 33 true (.call 1),cP 37 [.hJ 36] 33 true (.un .not),gL 38 [.hJ 33,.hJ 37,.iA (.bool false)] .pick] (.cond (.sl 38) .ret .skip)
noncomputable def TP:ey :=
 Gz [gL 25 [.sl 1] (.pT .one),gL 26 [.sl 6] (.pT (.str 2)),gL 27 [.iA (.func 68 [] []),.sl 25,.sl 26] (.call 3),Gp 24 27,GJ 28 24 0,gL 29 [.hJ 24] (.ext 1),Gp 7 28,Gp 8 29] TN
noncomputable def TQ:ey :=
 Gz [Gn 21 4,Gp 22 5,gL 23 [.hJ 21,.hJ 22] (.build [.int .i64 0,.int .i64 0] [(0,1),(1,1)]),gL 6 [] (.alloc [.int .i64 0,.int .i64 0]),⟨none,[.sl 6,.hG 23],none,none,.st 2⟩] TP
noncomputable def TR:ey :=
 .block 3 (Gz [Gn 20 18,Gp 5 20] TQ)
noncomputable def TS:ey :=
 Gz [Gm 18 0] (.block 2 (.loop (some (Ez false [0,3,1,1,9,2,2,1,22])) (Gz [gL 19 [.sl 18,.iA (.int .i64 2)] (.bin .lss)] (.seq (.cond (.sl 19) .skip (.exit 2)) (.seq TR (Gs [FZ 39 18 1,Gp 18 39]))))))
noncomputable def TT:ey :=
 .block 1 (Gz [Gn 17 15,Gp 4 17] TS)
noncomputable def XS:ey :=
 Gz [gL 9 [.sl 1] (.pT .one),gL 10 [.hJ 9] .zB,F6 11 10 0,F6 12 11 1,Gl 13 12,Gk 14 13,Gm 15 0] (.block 0 (.loop (some (Ez false [0,3,11,2,25])) (Gz [gL 16 [.sl 15,.sl 14] (.bin .lss)] (.seq (.cond (.sl 16) .skip (.exit 0)) (.seq TT (Gs [FZ 40 15 1,Gp 15 40]))))))
theorem afu:zf Go.Proofs.Tryz.prog Vo 113=some (XS,41,[]):=by kernel_rfl
end Go.Proofs.YtfakoboiahbhaaaGreat.Ab


namespace Go.Proofs.YtfakoboiahbhaaaGreat.Ab
open Go
set_option maxRecDepth 20000
set_option maxHeartbeats 4000000
abbrev p3:=Int×List (Int×Int)
def qZ (r:Nat):Int×Int:=(((r / 2:Nat):Int),((r % 2:Nat):Int))
def qo (t:p3) (p:Int×Int):Int:=if 0<p.2 then (ix t.2 p.1).2 else (ix t.2 p.1).1
def fin (t:p3) (p:Int×Int):Int:=if 0<p.2 then (ix t.2 p.1).1 else (ix t.2 p.1).2
theorem JK {t:p3} {p:Int×Int} (h:0≤p.1∧p.1<(t.2.length:Int)):La t p=some (qo t p,fin t p):=by
 rw [La,p' h];unfold qo fin;by_cases ad:0<p.2
 ·rw [if_pos (decide_eq_true ad),if_pos ad,if_pos ad]
 ·rw [if_neg (by simpa using ad),if_neg ad,if_neg ad]
def rA (t:p3) (figure:Int) (r:Nat):Bool:=decide (qo t (qZ r)=figure)
def places (t:p3) (figure:Int):List (Int×Int):=((List.range (2*t.2.length)).filter (rA t figure)).map qZ
theorem RH (p:Nat→Bool) {j:Nat} (aC:p j=true):∀ {n:Nat},j<n→((List.range n).filter p)[((List.range j).filter p).length]?=some j
 | 0,h=>absurd h (by omega)
 | n+1,h=>by
   rw [u7,uP];by_cases aw:j<n
   ·have:=RH p aC aw;rw [sB (sa.1 this).1,this]
   ·(obtain rfl:j=n:=by omega);rw [sJ (sc _)];simp [aC]
theorem Po (p:Nat→Bool) (j:Nat):((List.range (j+1)).filter p).length=((List.range j).filter p).length+if p j=true then 1 else 0:=by
 rw [u7,uP,su];by_cases h:p j=true
 ·rw [if_pos h];simp [h]
 ·rw [if_neg h];simp [h]
theorem aim {α:Type} (Y:α) (step:Nat→α→α):∃ Z:Nat→α,Z 0=Y∧∀ j,Z (j+1)=step j (Z j):=⟨fun n=>Nat.rec Y (fun j z=>step j z) n,rfl,fun _=>rfl⟩
theorem PX {n i b:Nat} (hi:i<n) (ag:b<2):qZ (2*i+b)=((i:Int),(b:Int)):=by
 unfold qZ;rw [show (2*i+b) / 2=i by omega,show (2*i+b) % 2=b by omega]
theorem V0 {t:p3} {figure:Int} (al:t.2.length≤1000) {L N:Nat} {rp:Nat→List au} (hlen:∀ i,(rp i).length=N) {c:Nat→Nat} (ao:∀ j,c j=((List.range j).filter (rA t figure)).length) {M:Nat} (B8:M≤2*t.2.length) {Z:Nat→List au} {O5:List au}
  (bm:∀ r,r<M→if rA t figure r=true then Sem Tryz.prog (.yield L) [.agg (pY (qZ r))] (rp (c r)++(Z r++[au.cells (pY (qZ r))])) 0 (.bool true) (rp (c (r+1))++Z (r+1)) else Z (r+1)=Z r++[au.cells (pY (qZ r))])
  (he:(M=2*t.2.length∧O5=rp (c M)++Z M)∨(M<2*t.2.length∧rA t figure M=true∧Sem Tryz.prog (.yield L) [.agg (pY (qZ M))] (rp (c M)++(Z M++[au.cells (pY (qZ M))])) 0 (.bool false) O5)) (po:ba 0 (rp 0++Z 0) O5) :
  Sem Tryz.prog (.fn 113) [.yield L,.bU [.bU [hP t.1,.ay (t.2.flatMap pY) t.2.length .shared]],.bU [hP figure]] (rp 0++Z 0) 0 (.tuple []) O5:=by
 obtain ⟨n,aN⟩:∃ n,n=t.2.length:=⟨_,rfl⟩;obtain ⟨p,aC⟩:∃ p,p=rA t figure:=⟨_,rfl⟩;have jA:∀ j,c (j+1)=c j+if p j=true then 1 else 0:=fun j=>by rw [ao,ao,aC];exact Po _ j
 rw [←aN] at B8 he al;rw [←aC] at bm he;refine G_ dH afu rfl po fun Q bl=>?_;unfold XS;obtain ⟨fO,Hf⟩:∃ c,TT=c:=⟨_,rfl⟩;rw [Hf];conv=>whnf
 rw [←aN];refine .intro (fun m T H=>∃ i:Nat,i≤n∧2*i≤M∧m=n-i∧T=GG 41 [(0,.yield L),(1,.bU [.bU [hP t.1,.ay (t.2.flatMap pY) n .shared]]),(2,.bU [hP figure]),(14,hP (n:Int)),(15,hP (i:Int))]∧H=rp (c (2*i))++Z (2*i)) n ⟨0,sq _,sq _,rfl,rfl,by rw [ao];rfl⟩ ?_;rintro m T H ⟨i,hi,aeB,rfl,rfl,rfl⟩;conv=>whnf
 refine It (fun N1=>?_) (fun N1=>?_)
 ·have aU:i<n:=by omega
  conv=>whnf
  refine Il fun mS G2=>?_;subst Hf;unfold TT;obtain ⟨dW,B1⟩:∃ c,TS=c:=⟨_,rfl⟩;rw [B1];conv=>whnf
  refine Il fun mT WL=>?_;subst B1;unfold TS;obtain ⟨b7,hn⟩:∃ c,TR=c:=⟨_,rfl⟩;rw [hn];conv=>whnf
  refine .intro (fun m T H=>∃ b:Nat,b≤2∧2*i+b≤M∧m=2-b∧T=GG 41 [(0,.yield L),(1,.bU [.bU [hP t.1,.ay (t.2.flatMap pY) n .shared]]),(2,.bU [hP figure]),(4,hP (i:Int)),(14,hP (n:Int)),(15,hP (i:Int)),(18,hP (b:Int))]∧H=rp (c (2*i+b))++Z (2*i+b)) 2 ⟨0,sq _,aeB,rfl,rfl,rfl⟩ ?_;rintro m T H ⟨b,ag,SB,rfl,rfl,rfl⟩;conv=>whnf
  refine It (fun bp=>?_) (fun bp=>?_)
  ·(have fj:b<2:=by omega);have Ny:qZ (2*i+b)=((i:Int),(b:Int)):=PX aU fj;have adT:La t ((i:Int),(b:Int))=some (qo t ((i:Int),(b:Int)),fin t ((i:Int),(b:Int))):=JK ⟨by omega,by omega⟩;have Xx:=JL adT;rw [←aN] at Xx;(conv=>whnf);refine Il fun ak5 RZ=>?_;subst hn;unfold TR;obtain ⟨bq,dY⟩:∃ c,TQ=c:=⟨_,rfl⟩;rw [dY];(conv=>whnf);refine Il fun ak6 R0=>?_;subst dY;unfold TQ;obtain ⟨bk,b8⟩:∃ c,TP=c:=⟨_,rfl⟩;rw [b8];(conv=>whnf);refine DW (x:=au.cells [hP (0:Int),hP (0:Int)]) (by first | exact qh.h | rfl | (simp [sb,I.settle];done)) ?_
   (conv=>whnf);rw [q5];refine Il fun ak7 R1=>?_;subst b8;unfold TP;obtain ⟨a',cb⟩:∃ c,TN=c:=⟨_,rfl⟩;rw [cb];(conv=>whnf);refine DW (x:=au.cells [hP (i:Int),hP (b:Int)]) (by first | exact qh.h | rfl | (simp [sb,I.settle];done)) ?_
   (conv=>whnf);refine ⟨(pZ (ra (pZ rfl (pZ (qX (fun _=>(pZ rfl (pZ rfl rfl))) _ _ _) rfl))) (pZ (Jg (pZ rfl (pZ rfl rfl))) rfl)),_,Xx,?_⟩;(conv=>whnf);refine Il fun ak8 R2=>?_;subst cb;unfold TN;(conv=>whnf);rcases Lk (decide (qo t ((i:Int),(b:Int))=figure)) with J6 | J6
   ·(have Jc:p (2*i+b)=true:=by rw [aC];show decide (qo t (qZ (2*i+b))=figure)=true;rw [Ny];exact J6);rw [J6];(conv=>whnf);refine DW (x:=au.cells [hP (i:Int),hP (b:Int)]) (by first | exact qh.h | rfl | (simp [sb,I.settle];done)) ?_
    (conv=>whnf);rw [sA];by_cases R3:2*i+b<M
    ·have aj:=bm _ R3;rw [if_pos Jc,Ny] at aj;refine ⟨_,_,G9 aj,?_⟩;(conv=>whnf);refine R2 _ _ _ ?_;(conv=>whnf);refine R1 _ _ _ ?_;(conv=>whnf);refine R0 _ _ _ ?_;(conv=>whnf);refine RZ _ _ _ ?_;(conv=>whnf);refine ⟨2-(b+1),by omega,b+1,by omega,by omega,rfl,?_,rfl⟩;rw [show IntKind.i64.wrap ((b:Int)+1)=((b+1:Nat):Int) by rw [H3 _ (by omega) (by omega)];omega];rfl
    ·(have adW:M=2*i+b:=by omega);rcases he with ⟨ad,_⟩ | ⟨_,_,aG⟩
     ·omega
     ·rw [adW,Ny] at aG;refine ⟨_,_,G9 aG,?_⟩;(conv=>whnf);refine R2 _ _ _ ?_;(conv=>whnf);refine R1 _ _ _ ?_;(conv=>whnf);refine R0 _ _ _ ?_;(conv=>whnf);refine RZ _ _ _ ?_;(conv=>whnf);refine WL _ _ _ ?_;(conv=>whnf);refine G2 _ _ _ ?_;(conv=>whnf);exact bl _ _ _ ⟨.inr rfl,jg.refl _,rfl⟩
   ·(have Jc:¬ p (2*i+b)=true:=by rw [aC];show ¬ decide (qo t (qZ (2*i+b))=figure)=true;rw [Ny,J6];decide);have R3:2*i+b<M:=by
     rcases he with ⟨ad,_⟩ | ⟨_,af,_⟩
     ·omega
     ·rcases sR (2*i+b) M with h | h
      ·exact h
      ·rw [show M=2*i+b by omega] at af;exact absurd af Jc
    have aj:=bm _ R3;rw [if_neg Jc,Ny] at aj;rw [J6];(conv=>whnf);refine R2 _ _ _ ?_;(conv=>whnf);refine R1 _ _ _ ?_;(conv=>whnf);refine R0 _ _ _ ?_;(conv=>whnf);refine RZ _ _ _ ?_;(conv=>whnf);refine ⟨2-(b+1),by omega,b+1,by omega,by omega,rfl,?_,?_⟩
    ·rw [show IntKind.i64.wrap ((b:Int)+1)=((b+1:Nat):Int) by rw [H3 _ (by omega) (by omega)];omega];rfl
    ·rw [show 2*i+(b+1)=2*i+b+1 by omega,aj,jA,if_neg Jc,sA];rfl
  ·(obtain rfl:b=2:=by omega);(conv=>whnf);refine WL _ _ _ ?_;(conv=>whnf);refine G2 _ _ _ ?_;(conv=>whnf);refine ⟨n-(i+1),by omega,i+1,by omega,by omega,rfl,?_,rfl⟩;rw [show IntKind.i64.wrap ((i:Int)+1)=((i+1:Nat):Int) by rw [H3 _ (by omega) (by omega)];omega];rfl
 ·obtain rfl:i=n:=by omega
  conv=>whnf
  rcases he with ⟨ad,af⟩ | ⟨ad,_,_⟩
  ·subst af;rw [ad] at bl;exact bl _ _ _ ⟨.inl rfl,jg.refl _,rfl⟩
  ·omega
theorem VZ {t:p3} {figure:Int} {L N:Nat} {rp:Nat→List au} (hlen:∀ i,(rp i).length=N) {c:Nat→Nat} (ao:∀ j,c j=((List.range j).filter (rA t figure)).length) {M:Nat} (Y:List au)
  (aj:∀ r,r<M→rA t figure r=true→∀ Y,∃ q6,Sem Tryz.prog (.yield L) [.agg (pY (qZ r))] (rp (c r)++Y) 0 (.bool true) (rp (c r+1)++q6)) :
  ∃ Z:Nat→List au,Z 0=Y∧(∀ r,r<M→if rA t figure r=true then Sem Tryz.prog (.yield L) [.agg (pY (qZ r))] (rp (c r)++(Z r++[au.cells (pY (qZ r))])) 0 (.bool true) (rp (c (r+1))++Z (r+1)) else Z (r+1)=Z r++[au.cells (pY (qZ r))]) ∧
    ∀ r,r≤M→(rp 0++Y).length≤(rp (c r)++Z r).length:=by
 have jA:∀ j,c (j+1)=c j+if rA t figure j=true then 1 else 0:=fun j=>by rw [ao,ao];exact Po _ j
 have yS:∀ (j:Nat) (Y:List au),∃ q6,j<M→rA t figure j=true→Sem Tryz.prog (.yield L) [.agg (pY (qZ j))] (rp (c j)++Y) 0 (.bool true) (rp (c (j+1))++q6):=fun j Y=>by
  by_cases aw:j<M∧rA t figure j=true
  ·obtain ⟨q6,h⟩:=aj j aw.1 aw.2 Y;exact ⟨q6,fun _ _=>by rw [jA,if_pos aw.2];exact h⟩
  ·exact ⟨[],fun a b=>absurd ⟨a,b⟩ aw⟩
 obtain ⟨g,aO⟩:∃ g:Nat→List au→List au,∀ (j:Nat) (Y:List au),j<M→rA t figure j=true→Sem Tryz.prog (.yield L) [.agg (pY (qZ j))] (rp (c j)++Y) 0 (.bool true) (rp (c (j+1))++g j Y) :=
  ⟨fun j Y=>Classical.choose (yS j Y),fun j Y=>vv (yS j Y)⟩
 clear yS;obtain ⟨Z,J4,J3⟩:=aim Y fun j Y=>if rA t figure j=true then g j (Y++[au.cells (pY (qZ j))]) else Y++[au.cells (pY (qZ j))];refine ⟨Z,J4,fun r PL=>?_,fun r=>?_⟩
 ·by_cases h:rA t figure r=true
  ·rw [if_pos h,J3 r,if_pos h];exact aO r _ PL h
  ·rw [if_neg h,J3 r,if_neg h]
 ·induction r with
  | zero=>intro _;rw [J4,su,su,hlen,hlen];exact sc _
  | succ j a_ =>
    intro aw;refine sH (a_ (by omega)) ?_;by_cases Jc:rA t figure j=true
    ·have ad:=(aO j (Z j++[au.cells (pY (qZ j))]) (by omega) Jc).1.1;rw [J3 j];simp only [if_pos Jc];refine sH ?_ ad;rw [←sA];simp
    ·rw [J3 j,jA,if_neg Jc];simp only [if_neg Jc];rw [←sA];simp
theorem Ti {t:p3} {figure:Int} {r:Nat} (aj:r<2*t.2.length) (ag:rA t figure r=true):((places t figure).map fun p=>I.agg (pY p))[((List.range r).filter (rA t figure)).length]?=some (.agg (pY (qZ r))):=by
 rw [places,tr,sr,RH _ ag aj];rfl
def Kf (t:p3) (figure:Int):Option (List (Int×Int)):=if t.2.length≤1000 then some (places t figure) else none
theorem Yb {t:p3} {figure:Int} {v:List (Int×Int)} (h:Kf t figure=some v):Seq Tryz.prog 113 [.bU [.bU [hP t.1,.ay (t.2.flatMap pY) t.2.length .shared]],.bU [hP figure]] (v.map fun e1=>.agg [hP e1.1,hP e1.2]):=by
 unfold Kf at h;split at h
 ·rename_i al;obtain rfl:=Option.some.inj h;intro L N rp hlen fi aj Y;have ao:∀ j,((List.range j).filter (rA t figure)).length=((List.range j).filter (rA t figure)).length:=fun _=>rfl;have Hh:((places t figure).map fun e1=>I.agg [hP e1.1,hP e1.2]).length=((List.range (2*t.2.length)).filter (rA t figure)).length:=by simp [places]
  obtain ⟨Z,J4,J3,hle⟩:=VZ (t:=t) (figure:=figure) (L:=L) hlen ao (M:=2*t.2.length) Y fun r PL ag Y=>by
   have aO:=Ti PL ag;obtain ⟨ad,af⟩:=sa.1 aO;obtain ⟨q6,h⟩:=aj _ ad Y;refine ⟨q6,?_⟩;rw [←af];exact h
  refine ⟨Z (2*t.2.length),?_⟩;rw [Hh,←J4];exact V0 al hlen ao (sc _) J3 (.inl ⟨rfl,rfl⟩) (Ob (by rw [J4];exact hle _ (sc _)))
 ·cases h
end Go.Proofs.YtfakoboiahbhaaaGreat.Ab


namespace Go.Proofs.YtfakoboiahbhaaaGreat.Ab
open Go Go.ChangeShapes Go.WideShapes Go.ChangeAt Go.RowKit
set_option maxRecDepth 100000
section
variable {H:Type} {enc:TypeId×Value→H} {w:World} {base:Nat}
def JV:I→Prop:=fun u=>∃ x,u=hP x∧Io x
theorem Nu:Lg enc Tryz.prog w 3 JV:=fun n v y h=>by
 obtain ⟨u,a,b,c,x,rfl,d⟩:=acU (P:=Tryz.prog) Tryz.underlying3 n v y h;exact ⟨_,a,b,c,x,rfl,wf_i64 d⟩
theorem XC {us:List I} (h:Mj [JV,JV] us):∃ p:Int×Int,us=pY p∧Io p.1∧Io p.2:=by
 obtain ⟨ak,h⟩:=h
 match us,ak with
 | [a,b],_ =>
   obtain ⟨x,rfl,al⟩:=h 0 _ _ rfl rfl;obtain ⟨y,rfl,a0⟩:=h 1 _ _ rfl rfl;exact ⟨(x,y),rfl,al,a0⟩
def O3 (bh:List (Int×Int)):Prop:=bh.length≤9223372036854775807∧∀ p∈bh,Io p.1∧Io p.2
abbrev Nk (bh:List (Int×Int)):I:=.ay (bh.flatMap pY) bh.length .shared
def Ri:I→Prop:=fun u=>∃ bh,u=Nk bh∧O3 bh
theorem adH : Nh enc Tryz.prog w #[{ name := "Left", type := 3, offset := 0, embedded := false, tag := "", pkgPath := "", byteOffset := 0 }, { name := "Right", type := 3, offset := 1, embedded := false, tag := "", pkgPath := "", byteOffset := 8 }] [JV, JV] := ⟨rfl, fun i f q aQ a3 => by
 match i with
 | 0=>simp at aQ a3;subst aQ;subst a3;exact ⟨rfl,by kernel_rfl,Nu⟩
 | 1=>simp at aQ a3;subst aQ;subst a3;exact ⟨rfl,by kernel_rfl,Nu⟩
 | i+2=>simp at a3⟩
theorem adG : Nh enc Tryz.prog w #[{ name := "Sheet", type := 3, offset := 0, embedded := false, tag := "", pkgPath := "", byteOffset := 0 }, { name := "Turned", type := 3, offset := 1, embedded := false, tag := "", pkgPath := "", byteOffset := 8 }] [JV, JV] := ⟨rfl, fun i f q aQ a3 => by
 match i with
 | 0=>simp at aQ a3;subst aQ;subst a3;exact ⟨rfl,by kernel_rfl,Nu⟩
 | 1=>simp at aQ a3;subst aQ;subst a3;exact ⟨rfl,by kernel_rfl,Nu⟩
 | i+2=>simp at a3⟩
theorem acW:Lg enc Tryz.prog w 22 Ri:=fun n v y h=>by
 obtain ⟨u,a,b,c,L,rfl,ak,fi⟩:=V8 Tryz.underlying22 Tryz.underlying67 (by kernel_rfl) (by decide) adH n v y h;obtain ⟨bh,rfl,aC⟩:=S8 (f:=pY) (R:=fun p:Int×Int=>Io p.1∧Io p.2) fun us hu=>by
  obtain ⟨p,e,ad,af⟩:=XC (fi us hu);exact ⟨p,e,ad,af⟩
 refine ⟨_,a,b,c,bh,?_,by have:=Xs ak;simpa using this,aC⟩;simp [Nk,List.flatMap_def]
theorem acV:Lg enc Tryz.prog w 25 Ri:=fun n v y h=>by
 obtain ⟨u,a,b,c,L,rfl,ak,fi⟩:=V8 Tryz.underlying25 Tryz.underlying65 (by kernel_rfl) (by decide) adG n v y h;obtain ⟨bh,rfl,aC⟩:=S8 (f:=pY) (R:=fun p:Int×Int=>Io p.1∧Io p.2) fun us hu=>by
  obtain ⟨p,e,ad,af⟩:=XC (fi us hu);exact ⟨p,e,ad,af⟩
 refine ⟨_,a,b,c,bh,?_,by have:=Xs ak;simpa using this,aC⟩;simp [Nk,List.flatMap_def]
theorem acy:Arg enc Tryz.prog w base 25 fun u=>∃ bh,u=Nk bh∧O3 bh:=acz Tryz.underlying25 acV
structure abd (b:p3):Prop where
 f:Io b.1
 l:O3 b.2
theorem acw:Arg enc Tryz.prog w base 24 fun u=>∃ b:p3,u=.agg [hP b.1,Nk b.2]∧abd b:=by
 intro v d p ae aZ
 obtain ⟨u,a,b,us,rfl,ak,hu⟩:=acA (P:=Tryz.prog) (enc:=enc) (w:=w) (base:=base) (Qs:=[JV,Ri]) Tryz.underlying24 (by kernel_rfl) ⟨rfl,fun i f q aQ a3=>by
  match i with
  | 0=>simp at aQ a3;subst aQ;subst a3;exact ⟨rfl,by kernel_rfl,Nu⟩
  | 1=>simp at aQ a3;subst aQ;subst a3;exact ⟨rfl,by kernel_rfl,acW⟩
  | i+2=>simp at a3⟩ v d p ae aZ
 match us,ak with
 | [jl,aB],_ =>
   obtain ⟨x,rfl,al⟩:=hu 0 _ _ rfl rfl;obtain ⟨y,rfl,a0⟩:=hu 1 _ _ rfl rfl;exact ⟨_,a,b,(x,y),rfl,al,a0⟩
end
end Go.Proofs.YtfakoboiahbhaaaGreat.Ab


namespace Go.Proofs.YtfakoboiahbhaaaGreat.Ab
open Go Go.ChangeShapes Go.WideShapes Go.ChangeAt Go.RowKit
set_option maxRecDepth 100000
section
variable {H:Type} {enc:TypeId×Value→H} {w:World} {base:Nat}
theorem acB:Arg enc Tryz.prog w base 70 fun u=>∃ x,u=.int .u16 x∧0≤x∧x≤65535:=fun v d p ae aZ=>by
 obtain ⟨u,a,b,x,rfl,h⟩:=acx (P:=Tryz.prog) (enc:=enc) (w:=w) (base:=base) Tryz.underlying70 v d p ae aZ;have ad:IntKind.u16.min=0:=rfl;have af:IntKind.u16.max=65535:=rfl;simp only [Lit.wf,sv,decide_eq_true_eq] at h;exact ⟨_,a,b,x,rfl,by omega,by omega⟩
structure ak3 (l:List (List (Int×Int))):Prop where
 n:l.length≤9223372036854775807
 v:∀ r∈l,O3 r
end
end Go.Proofs.YtfakoboiahbhaaaGreat.Ab


namespace Go.Proofs.YtfakoboiahbhaaaGreat.Ab
open Go
def RB:il→il→Bool
 | .shared,.shared=>true
 | .full,.full=>true
 | .own a,.own b=>Nat.beq a b
 | .uniq a,.uniq b=>Nat.beq a b
 | _,_=>false
theorem acR:∀ {a b:il},RB a b=true→a=b:=by
 intro a b h;cases a <;> cases b <;> simp only [RB,tF] at h <;> first | rfl | (rw [s_ h])
def Ie (f:I→I→Bool):List I→List I→Bool
 | [],[]=>true
 | a::l,b::r=>match f a b with
   | true=>Ie f l r
   | false=>false
 | _,_=>false
theorem Jv {f:I→I→Bool} (aQ:∀ a b,f a b=true→a=b):∀ {a b:List I},Ie f a b=true→a=b
 | [],[],_=>rfl
 | [],_::_,h=>by simp [Ie] at h
 | _::_,[],h=>by simp [Ie] at h
 | a::l,b::r,h=>by
   simp only [Ie] at h;split at h
   ·rename_i jy;rw [aQ a b jy,Jv aQ h]
   ·cases h
def HO:Nat→I→I→Bool
 | 0,_,_=>false
 | d+1,a,b=>match a,b with
   | .bool x,.bool y=>match x,y with | true,true=>true | false,false=>true | _,_=>false
   | .int k x,.int q y=>match decide (k=q),decide (x=y) with | true,true=>true | _,_=>false
   | .eB,.eB=>true
   | .bU x,.bU y=>Ie (HO d) x y
   | .ay x n c,.ay y m e=>match Ie (HO d) x y,Nat.beq n m,RB c e with | true,true,true=>true | _,_,_=>false
   | .func f x y,.func g z w=>match Nat.beq f g,Ie (HO d) x z,Ie (HO d) y w with | true,true,true=>true | _,_,_=>false
   | .agg x,.agg y=>Ie (HO d) x y
   | .tuple x,.tuple y=>Ie (HO d) x y
   | _,_=>false
theorem Mp:∀ (d:Nat) (a b:I),HO d a b=true→a=b
 | 0,_,_,h=>by simp [HO] at h
 | d+1,a,b,h=>by
   have a_:=Mp d;unfold HO at h;split at h
   ·split at h <;> first | rfl | cases h
   ·rename_i k x q y;split at h
    ·rename_i ad af;rw [of_decide_eq_true ad,of_decide_eq_true af]
    ·cases h
   ·rfl
   ·rw [Jv a_ h]
   ·split at h
    ·rename_i ad af aG;rw [Jv a_ ad,s_ af,acR aG]
    ·cases h
   ·split at h
    ·rename_i ad af aG;rw [s_ ad,Jv a_ af,Jv a_ aG]
    ·cases h
   ·rw [Jv a_ h]
   ·rw [Jv a_ h]
   ·cases h
inductive qt where
 | pure (k:Nat) (args:List I) (v:I)
 | map (k:Nat) (args:List I) (es:List (Nat×I×I)) (clock:Nat)
def qz (P:Program):qt→Prop
 | .pure k args v=>lg P k args v
 | .map k args es clock=>∀ H,Sem P (.fn k) args H H.length (.map H.length) (H++[.map es clock])
def look (k:Nat) (args:List I) (H:List au) (lo:Nat):List qt→Option (I×List au)
 | []=>none
 | .pure q bs v::r=>match Nat.beq k q with
   | true=>match Ie (HO 20) args bs with
     | true=>match H with
       | []=>some (v,[])
       | _=>look k args H lo r
     | false=>look k args H lo r
   | false=>look k args H lo r
 | .map q bs es clock::r=>match Nat.beq k q with
   | true=>match Ie (HO 20) args bs with
     | true=>match Nat.beq lo H.length with
       | true=>some (.map H.length,H++[.map es clock])
       | false=>look k args H lo r
     | false=>look k args H lo r
   | false=>look k args H lo r
def Ux (l:List qt):b6:=fun b0 args H lo=>match b0 with
 | .fn k=>look k args H lo l
 | _=>none
theorem Sem.afA {P:Program} {b0:e3} {args:List I} {r:I} {H':List au} (h:Sem P b0 args [] 0 r H') (lo:Nat):Sem P b0 args [] lo r H' :=
 ⟨⟨h.1.1,fun _ _ h=>by simp at h⟩,h.2⟩
theorem look_ok {P:Program} {k:Nat} {args:List I} {H:List au} {lo:Nat} {r:I} {H':List au}:∀ {l:List qt},(∀ e∈l,qz P e)→look k args H lo l=some (r,H')→Sem P (.fn k) args H lo r H'
 | [],_,h=>by simp [look] at h
 | .pure q bs v::l,ak,h=>by
   have Jd:=look_ok (k:=k) (args:=args) (H:=H) (lo:=lo) (r:=r) (H':=H') fun e he=>ak e (tR _ he);unfold look at h;split at h
   ·rename_i ad;split at h
    ·rename_i af;split at h
     ·cases h;have:=ak (.pure q bs r) ud;rw [s_ ad,Jv (Mp 20) af];exact this.1.afA lo
     ·exact Jd h
    ·exact Jd h
   ·exact Jd h
 | .map q bs es clock::l,ak,h=>by
   have Jd:=look_ok (k:=k) (args:=args) (H:=H) (lo:=lo) (r:=r) (H':=H') fun e he=>ak e (tR _ he);unfold look at h;split at h
   ·rename_i ad;split at h
    ·rename_i af;split at h
     ·rename_i aG;cases h;have:=ak (.map q bs es clock) ud;rw [s_ ad,Jv (Mp 20) af,s_ aG];exact this H
     ·exact Jd h
    ·exact Jd h
   ·exact Jd h
theorem aiI {P:Program} {l:List qt} (ak:∀ e∈l,qz P e):c_ P (Ux l):=oE fun b0 args H lo r H' h=>by
 cases b0 with
 | fn k=>exact look_ok ak h
 | yield i=>simp [Ux] at h
def Ka (A:FuncId→c7):Nat→List Func→Bool
 | _,[]=>true
 | k,f::r=>match (A k).bad with
   | true=>Ka A (k+1) r
   | false=>match f.body with
     | some c => match codeOk (A k) c, f.name == "runtime.NumGoroutine" with
       | true,false=>Ka A (k+1) r
       | _,_=>false
     | none=>Ka A (k+1) r
theorem Xy {A : FuncId → c7} : ∀ {l : List Func} {k : Nat}, Ka A k l = true → ∀ (i : Nat) (f : Func) (c : Code), (A (k + i)).bad = false → l[i]? = some f → f.body = some c → codeOk (A (k + i)) c = true ∧ f.name ≠ "runtime.NumGoroutine"
 | [],_,_,i,f,c,_,h,_=>by simp at h
 | g::r,k,h,i,f,c,nc,aQ,ao=>by
   unfold Ka at h;cases i with
   | zero =>
     simp at aQ;subst aQ;rw [Nat.add_zero] at nc;rw [nc,ao] at h;simp only at h;split at h
     ·rename_i ad af;exact ⟨ad,by simpa using af⟩
     ·cases h
   | succ i =>
     have aj:Ka A (k+1) r=true:=by
      split at h
      ·exact h
      ·split at h
       ·split at h
        ·exact h
        ·cases h
       ·exact h
     have:=Xy aj i f c (by rw [show k+1+i=k+(i+1) by omega];exact nc) (by simpa using aQ) ao;rw [show k+(i+1)=k+1+i by omega];exact this
theorem agw {P : Program} {A : FuncId → c7} (h : Ka A 0 P.funcs.toList = true) (k : Nat) (f : Func) (c : Code) (ag : (A k).bad = false) (aQ : P.funcs[k]? = some f) (ao : f.body = some c) : codeOk (A k) c = true ∧ f.name ≠ "runtime.NumGoroutine" := by
 have:=Xy h k f c (by rw [sP];exact ag) (by simpa using aQ) ao
 rwa [sP] at this
theorem acs:Ka jo 0 Go.Proofs.Tryz.prog.funcs.toList=true:=by kernel_rfl
noncomputable def Qc (l:List qt) (k:Nat) (args:List I):Option I:=match fP Go.Proofs.Tryz.prog jo (Ux l) 300 (.fn k) args [] 0 with
 | some (r,a2)=>match bJ a2 0 a2.length 0 8 r with
   | some v=>match cq 8 v.settle with
     | true=>some v.settle
     | false=>none
   | none=>none
 | none=>none
theorem rX {l:List qt} (ak:∀ e∈l,qz Go.Proofs.Tryz.prog e) {k:Nat} {args:List I} {v:I} (h:Qc l k args=some v):lg Go.Proofs.Tryz.prog k args v:=by
 unfold Qc at h;split at h
 ·rename_i r a2 ao;split at h
  ·rename_i u aQ;split at h
   ·rename_i aC;cases h;have ai:=(BL dH jo (aiI ak) (agw acs) 300).GC ao;refine ⟨⟨ba.refl _ _,ai.2.1,fun B U J S w xs ah aN ae=>CallsIn.mono (ai.2.2 B U J S w xs ah aN ae) fun e w' he=>?_⟩,aC⟩;cases e with
    | returned x =>
      have nr:=xi ah (fun id aE=>by simp at aE) aQ he;show a1 B U J S w [] u.settle x w';cases u with
      | ay cells len gu =>
        cases gu with
        | uniq z=>exact nr.settle
        | _=>exact nr
      | _=>exact nr
    | panicked c=>exact he.elim
    | outgrown=>exact he.elim
   ·cases h
  ·cases h
 ·cases h
end Go.Proofs.YtfakoboiahbhaaaGreat.Ab


namespace Go.Proofs.YtfakoboiahbhaaaGreat.Ab
open Go
noncomputable def ahq:ey :=
 .j0 false [Gp 5 0,Gn 6 2,Gp 7 2,gL 8 [.hJ 7] (.conv .u64),gL 9 [.iA (.func 97 [] []),.sl 8] (.call 3),gL 10 [.iA (.func 96 [] []),.hG 5,.iA (.int .i64 0),.hG 6,.hG 9] (.call 1)]
noncomputable def T':ey :=
 Gz [Gn 3 0,Gk 4 3,Gp 2 4] ahq
theorem Xn:zf Go.Proofs.Tryz.prog VO 73=some (T',11,[]):=by kernel_rfl
noncomputable def Oq:ey :=
 Gz [Gp 24 0,Gp 25 1,Gp 26 2,gL 27 [.iA (.func 115 [] []),.hG 24,.hG 25,.hG 26] (.call 1)] .ret
noncomputable def ahz:ey :=
 Gz [Gp 30 0,Gp 31 1,Gp 32 2,gL 33 [.iA (.func 116 [] []),.hG 30,.hG 31,.hG 32] (.call 1)] .ret
noncomputable def ahA:ey :=
 Gz [Gn 36 0,Gn 37 1,Gn 38 2,gL 39 [.iA (.func 117 [] []),.hG 36,.hG 37,.hG 38] (.call 1)] (Gs [Gp 40 3,F0 41 40 1 .sub,Gp 3 41])
noncomputable def ahB:ey :=
 Gz [Gn 55 2,F0 56 55 1 .sub,Gp 57 11,Gn 58 1,F1 59 57 58 .sub,F1 60 56 59 .sub,Gp 11 60] (Gs [Gm 12 1])
noncomputable def ahC:ey :=
 Gz [Gn 51 0,Gn 52 1,Gn 53 2,gL 54 [.iA (.func 119 [] []),.hG 51,.hG 52,.hG 53] (.call 1)] ahB
noncomputable def ahD:ey :=
 Gz [Gn 69 0,Gn 70 1,Gn 71 2,gL 72 [.iA (.func 120 [] []),.hG 69,.hG 70,.hG 71] (.call 1)] (.cond (.sl 72) .ret .skip)
noncomputable def ahE:ey :=
 Gz [Gn 88 0,Gp 89 1,Gn 90 2,Gp 91 11,gL 92 [.iA (.func 122 [] []),.hG 88,.hG 89,.hG 90,.hG 91] (.call 1),Gp 13 92] (Gz [Gp 93 13,Gp 1 93] (.exit 1))
noncomputable def ahF:ey :=
 Gz [Gn 117 0,Gp 118 1,Gn 119 14,Gn 120 3,gL 121 [.iA (.func 96 [] []),.hG 117,.hG 118,.hG 119,.hG 120] (.call 1)] (Gs [Gp 122 14,FZ 123 122 1,Gp 1 123])
noncomputable def ahG:ey :=
 Gz [Gp 114 16,Gp 115 18,F1 116 114 115 .geq,Gp 8 116] ahF
noncomputable def ahr:ey :=
 Gz [Gn 127 0,Gn 128 14,FZ 129 128 1,Gp 130 2,Gn 131 3,gL 132 [.iA (.func 96 [] []),.hG 127,.hG 129,.hG 130,.hG 131] (.call 1)] (Gs [Gp 133 14,Gp 2 133])
noncomputable def ahs:ey :=
 Gz [Gp 124 17,Gp 125 18,F1 126 124 125 .geq,Gp 8 126] ahr
noncomputable def aht:ey :=
 Gz [Gp 109 10,F0 110 109 8 .quo,Gp 18 110] (Gz [Gn 111 16,Gn 112 17,F1 113 111 112 .lss] (.cond (.sl 113) ahG ahs))
noncomputable def ahu:ey :=
 Gz [Gn 103 14,Gn 104 1,F1 105 103 104 .sub,Gn 106 2,Gn 107 14,F1 108 106 107 .sub,Gp 16 105,Gp 17 108] aht
noncomputable def ahv:ey :=
 Gz [Gn 95 0,Gn 96 1,Gn 97 2,Gp 98 11,gL 99 [.iA (.func 123 [] []),.hG 95,.hG 96,.hG 97,.hG 98] (.call 1),Gp 94 99,GJ 100 94 0,gL 101 [.hJ 94] (.ext 1),Gp 14 100,Gp 15 101] (Gz [Gp 102 15,Gp 9 102] ahu)
noncomputable def ahw:ey :=
 .seq (.seq (Gt [Gn 73 1,F0 74 73 0 .gtr,Gp 75 74,cP 76 [.sl 0] 75 true .iQ,cP 77 [.sl 1] 75 true .iQ,cP 78 [.hJ 77,.iA (.int .i64 1)] 75 true (.bin .sub),cP 79 [.hJ 76,.hJ 78] 75 true (.pM 1),cP 80 [.hJ 79] 75 true (.pT .one),cP 81 [.sl 0] 75 true .iQ,cP 82 [.sl 11] 75 true .iQ,cP 83 [.hJ 81,.hJ 82] 75 true (.pM 1),cP 84 [.hJ 83] 75 true (.pT .one),⟨some 85,[.iA (.func 121 [] []),.sl 80,.sl 84],some (75,true),none,.call 3⟩,cP 86 [.hJ 85] 75 true (.un .not),gL 87 [.sl 75,.hJ 86,.iA (.bool false)] .pick]) (.cond (.sl 87) ahE .skip)) ahv
noncomputable def ahx:ey :=
 .seq (Gz [Gn 61 8,Gp 62 61,cP 63 [.sl 9] 62 true .iQ,gL 64 [.hJ 62,.hJ 63,.iA (.bool false)] .pick,Gp 65 64,cP 66 [.hG 12] 65 true .iQ,cP 67 [.hJ 66,.iA (.int .i64 1)] 65 true (.bin .eql),gL 68 [.hJ 65,.hJ 67,.iA (.bool false)] .pick] (.cond (.sl 68) ahD .skip)) ahw
noncomputable def ahy:ey :=
 Gz [Gn 43 0,Gn 44 1,Gn 45 2,gL 46 [.iA (.func 118 [] []),.hG 43,.hG 44,.hG 45] (.call 1),Gp 42 46,GJ 47 42 0,gL 48 [.hJ 42] (.ext 1),Gp 11 47,Gp 12 48] (.seq (Gz [Gn 49 12,F0 50 49 2 .eql] (.cond (.sl 50) ahC .skip)) ahx)
noncomputable def Up:ey :=
 .seq (Gz [Gn 28 3,F0 29 28 0 .eql] (.cond (.sl 29) ahz .skip)) (.seq (Gz [Gn 34 8,gL 35 [.hJ 34] (.un .not)] (.cond (.sl 35) ahA .skip)) ahy)
noncomputable def Ot:ey :=
 .block 1 (Gz [Gn 19 2,Gn 20 1,F1 21 19 20 .sub,Gp 10 21] (.seq (Gz [Gn 22 10,F0 23 22 12 .leq] (.cond (.sl 23) Oq .skip)) Up))
noncomputable def Uo:ey :=
 Gz [gL 8 [.iA (.bool true)] .iQ] (Gz [gL 9 [.iA (.bool true)] .iQ] (.block 0 (.loop (some (Ez false [0,4,4,2,124])) Ot)))
theorem Xq:zf Go.Proofs.Tryz.prog VT 96=some (Uo,134,[]):=by kernel_rfl
noncomputable def agY:ey :=
 .block 3 (Gt [Gn 33 0,Gn 34 7,Gn 35 0,Gn 36 7,F0 37 36 1 .sub,Gn 38 0,Gn 39 7,F0 40 39 1 .sub,Gh 41 38 40 1,Gl 42 41,Gn 43 0,Gn 44 7,Gh 45 43 44 1,Gl 46 45,Gh 47 33 34 1,⟨none,[.hG 47,.hG 42],none,none,.st 1⟩,Gh 48 35 37 1,⟨none,[.hG 48,.hG 46],none,none,.st 1⟩])
noncomputable def agZ:ey :=
 .seq (.seq (Gt [Gn 16 7,Gn 17 1,F1 18 16 17 .gtr,Gp 19 18,cP 20 [.sl 0] 19 true .iQ,cP 21 [.sl 7] 19 true .iQ,cP 22 [.hJ 20,.hJ 21] 19 true (.pM 1),cP 23 [.hJ 22] 19 true (.pT .one),cP 24 [.sl 0] 19 true .iQ,cP 25 [.sl 7] 19 true .iQ,cP 26 [.hJ 25,.iA (.int .i64 1)] 19 true (.bin .sub),cP 27 [.hJ 24,.hJ 26] 19 true (.pM 1),cP 28 [.hJ 27] 19 true (.pT .one),⟨some 29,[.iA (.func 121 [] []),.sl 23,.sl 28],some (19,true),none,.call 3⟩,gL 30 [.sl 19,.hJ 29,.iA (.bool false)] .pick]) (.cond (.sl 30) .skip (.exit 2))) (.seq agY (Gs [Gp 31 7,F0 32 31 1 .sub,Gp 7 32]))
noncomputable def ag0:ey :=
 .block 1 (Gz [Gn 15 6,Gp 7 15] (.block 2 (.loop (some (Ez false [0,3,3,2,41])) agZ)))
noncomputable def ag1:ey :=
 .seq (Gz [Gn 10 6,Gn 11 2,F1 12 10 11 .lss] (.cond (.sl 12) .skip (.exit 0))) (.seq ag0 (Gs [Gp 13 6,FZ 14 13 1,Gp 6 14]))
noncomputable def TU:ey :=
 Gz [Gn 8 1,FZ 9 8 1,Gp 6 9] (.block 0 (.loop (some (Ez false [0,3,3,1,42])) ag1))
theorem Xj:zf Go.Proofs.Tryz.prog Vp 115=some (TU,49,[]):=by kernel_rfl
noncomputable def ag2:ey :=
 Gz [Gn 5 0,gL 6 [.iA (.func 137 [] []),.sl 5] (.call 3),Gp 7 6,cP 8 [.sl 1] 7 true .iQ,⟨some 9,[.iA (.func 137 [] []),.sl 8],some (7,true),none,.call 3⟩,cP 10 [.hJ 9] 7 true (.un .not),gL 11 [.hJ 7,.hJ 10,.iA (.bool false)] .pick,Gp 12 11,cP 13 [.hG 0] 12 false .iQ,cP 14 [.hG 1] 12 false .iQ,cP 15 [.hJ 13,.hJ 14] 12 false (.bin .lss),gL 16 [.hJ 12,.iA (.bool true),.hJ 15] .pick,Gp 4 16] .ret
noncomputable def XT:ey :=
 Gz [gL 4 [.iA (.bool false)] .iQ] ag2
theorem afv:zf Go.Proofs.Tryz.prog Vq 121=some (XT,17,[.tmp 4]):=by kernel_rfl
noncomputable def ahl:ey :=
 Gz [Gn 3 0,Gp 4 0,F1 5 3 4 .neq,Gp 2 5] .ret
noncomputable def XV:ey :=
 Gz [gL 2 [.iA (.bool false)] .iQ] ahl
theorem afx:zf Go.Proofs.Tryz.prog Vu 137=some (XV,6,[.tmp 2]):=by kernel_rfl
end Go.Proofs.YtfakoboiahbhaaaGreat.Ab


namespace Go.Proofs.YtfakoboiahbhaaaGreat.Ab
open Go
set_option maxRecDepth 20000
set_option maxHeartbeats 4000000
theorem afl (x:Int):qp 137 [hP x] (B false):=by
 refine F7 dH afx rfl rfl ?_;unfold XV;conv=>whnf
 exact Gv (.inr rfl) rfl (by rw [decide_eq_false (show ¬ (x≠x) from fun h=>h rfl)];rfl)
theorem afs (x y:Int):qp 121 [hP x,hP y] (B (decide (x<y))):=by
 refine F7 dH afv rfl rfl ?_;unfold XT;conv=>whnf
 refine ⟨by first | rfl | simp only [tE,uy,MG,MO,MH,MJ,MI,MK,MQ,MP,JA,ML,MM,MN,ue,ux],_,afl x,?_⟩
 conv=>whnf
 exact Gv (.inr rfl) rfl rfl
def I0 (d:Array Int):au:=.cells (d.toList.map hP)
def HL (id n:Nat):I:=.ref id 0 n none 1
theorem acS (d:Array Int) (x:Nat) (h:x<d.size):(d.toList.map hP)[x]?=some (hP d[x]!):=by
 simp [h]
theorem acT (d:Array Int) (x:Nat) (v:Int):(d.toList.map hP).set x (hP v)=(d.setIfInBounds x v).toList.map hP:=by
 simp [uG]
theorem swp_size (d:Array Int) (i j:Nat):(Sort.swp d i j).size=d.size:=by simp [Sort.swp]
theorem Qa {d:Array Int} {n:Nat} (x:Nat) (e:n=x) (h:x<d.size) {K:I→Prop} (k:K (hP d[x]!)):eO (d.toList.map hP) n K:=by
 subst e;exact DW (acS d n h) k
theorem Zq {d:Array Int} {n:Nat} {v:Int} (x:Nat) (e:n=x) (h:x<d.size) {K:List I→Prop} (k:K ((d.setIfInBounds x v).toList.map hP)):jc (d.toList.map hP) n (hP v) K:=by
 subst e;refine A_ (by simpa using h) ?_;rw [acT];exact k
section
variable {H:List au} {id lo:Nat} (bD:lo≤id)
include bD
theorem afk (d:Array Int) (a b:Nat) (aZ:d.size≤1000) (cd:a≤b) (ag:b≤d.size) (ah:H[id]?=some (I0 d)) :
  Sem Go.Proofs.Tryz.prog (.fn 115) [HL id d.size,hP a,hP b] H lo (.tuple []) (H.set id (I0 (Sort.insertionSort Sort.ltInt d a b))):=by
 have aE:=(sa.1 ah).1;refine RJ dH Xj rfl ⟨by simp,fun j ad af=>by rw [si (by omega)]⟩ ?_;unfold TU;conv=>whnf
 have Cc:Nat.ble lo id=true:=uc bD;have gs:∀ c:au,(H.set id c)[id]?=some c:=fun c=>by rw [sg aE]
 have HR:∀ c e:au,((H.set id c).set id e)[id]?=some e:=fun c e=>by rw [sS,gs]
 rw [GY a (by omega)];refine .intro (fun m T H'=>∃ i gQ,a+1≤i∧(i≤b∨i=a+1)∧m=b+1-i∧gQ.size=d.size∧Sort.insOuter Sort.ltInt a b i gQ=Sort.insertionSort Sort.ltInt d a b∧T=GG 49 [(0,HL id d.size),(1,hP a),(2,hP b),(6,hP i)]∧H'=H.set id (I0 gQ)) (b-a) ⟨a+1,d,by omega,.inr rfl,by omega,rfl,rfl,rfl,?_⟩ ?_
 ·obtain ⟨ad,af⟩:=sa.1 ah;rw [←af,u_]
 rintro m T H' ⟨i,gQ,aeA,WX,rfl,Cm,he,rfl,rfl⟩;conv=>whnf
 refine It (fun h=>?_) (fun h=>?_)
 ·conv=>whnf
  refine .intro (fun j T H'=>∃ rf:Array Int,j≤i∧rf.size=d.size∧Sort.insInner Sort.ltInt a j rf=Sort.insInner Sort.ltInt a i gQ∧T=GG 49 [(0,HL id d.size),(1,hP a),(2,hP b),(6,hP i),(7,hP j)]∧H'=H.set id (I0 rf)) i ⟨gQ,sc _,Cm,rfl,rfl,rfl⟩ ?_;rintro j T H' ⟨rf,aw,Lw,Lx,rfl,rfl⟩;conv=>whnf
  by_cases aG:(a:Int)<(j:Int)
  ·rw [decide_eq_true aG];obtain ⟨q,rfl⟩:∃ q,j=q+1:=⟨j-1,by omega⟩;(have hw:IntKind.i64.wrap (((q+1:Nat):Int)-1)=(q:Int):=by rw [H3 _ (by omega) (by omega)];omega);(conv=>whnf);refine ⟨by omega,?_⟩;(conv=>whnf);refine DW (by first | exact gs _ | exact HR _ _ | assumption) ?_
   (conv=>whnf);refine Qa (q+1) (by omega) (by omega) ?_;(conv=>whnf);rw [hw];refine ⟨by omega,?_⟩;(conv=>whnf);refine DW (by first | exact gs _ | exact HR _ _ | assumption) ?_
   (conv=>whnf);refine Qa (q) (by omega) (by omega) ?_;(conv=>whnf);refine ⟨by first | rfl | simp only [tE,uy,MG,MO,MH,MJ,MI,MK,MQ,MP,JA,ML,MM,MN,ue,ux],_,afs rf[q+1]! rf[q]!,HM,?_⟩
   (conv=>whnf);by_cases a6:rf[q+1]!<rf[q]!
   ·rw [decide_eq_true a6];(conv=>whnf);rw [hw];refine ⟨by omega,?_⟩;(conv=>whnf);refine DW (by first | exact gs _ | exact HR _ _ | assumption) ?_
    (conv=>whnf);refine Qa (q) (by omega) (by omega) ?_;(conv=>whnf);refine ⟨by omega,?_⟩;(conv=>whnf);refine DW (by first | exact gs _ | exact HR _ _ | assumption) ?_
    (conv=>whnf);refine Qa (q+1) (by omega) (by omega) ?_;(conv=>whnf);refine ⟨by omega,?_⟩;(conv=>whnf);rw [Cc];(conv=>whnf);refine DW (by first | exact gs _ | exact HR _ _ | assumption) ?_
    (conv=>whnf);refine Zq (q+1) (by omega) (by first | omega | (simp only [ug];omega)) ?_
    (conv=>whnf);refine ⟨by omega,?_⟩;(conv=>whnf);rw [Cc];(conv=>whnf);refine DW (by first | exact gs _ | exact HR _ _ | assumption) ?_
    (conv=>whnf);refine Zq (q) (by omega) (by first | omega | (simp only [ug];omega)) ?_
    (conv=>whnf);refine ⟨q,by omega,Sort.swp rf (q+1) q,by omega,by rw [swp_size];exact Lw,?_,?_,?_⟩
    ·rw [←Lx,Sort.insInner,if_pos (by simp only [Sort.ltInt,sv,decide_eq_true_eq];exact ⟨by omega,a6⟩)]
    ·rw [hw];rfl
    ·simp only [sS];rfl
   ·rw [decide_eq_false a6];(conv=>whnf);have e:Sort.insInner Sort.ltInt a i gQ=rf:=by
     rw [←Lx,Sort.insInner,if_neg (by simp only [Sort.ltInt,sv,decide_eq_true_eq];exact fun bI=>a6 bI.2)]
    exact ⟨b+1-(i+1),by omega,i+1,rf,by omega,by omega,rfl,Lw,by rw [←he,Sort.insOuter.eq_1 _ a b i,if_pos (by omega),e],by rw [←GY i (by omega)];rfl,rfl⟩
  ·rw [decide_eq_false aG];(conv=>whnf);have e:Sort.insInner Sort.ltInt a i gQ=rf:=by
    rw [←Lx];cases j with
    | zero=>rfl
    | succ q=>rw [Sort.insInner,if_neg (by simp only [sv,decide_eq_true_eq];exact fun bI=>by omega)]
   exact ⟨b+1-(i+1),by omega,i+1,rf,by omega,by omega,rfl,Lw,by rw [←he,Sort.insOuter.eq_1 _ a b i,if_pos (by omega),e],by rw [←GY i (by omega)];rfl,rfl⟩
 ·conv=>whnf
  have e:Sort.insertionSort Sort.ltInt d a b=gQ:=by
   rw [←he];unfold Sort.insOuter;rw [if_neg (by omega)]
  rw [e];exact ⟨.inl rfl,⟨by simp,fun j o aw=>.inr aw⟩,rfl⟩
theorem ah9 {l:List au} {i:Nat} {x:au} (h:l[i]?=some x):l.set i x=l:=by
 obtain ⟨ad,af⟩:=sa.1 h;rw [←af,u_]
theorem agH (d:Array Int) (IU:Int) (aZ:d.size≤12) (ah:H[id]?=some (I0 d)) :
  Sem Go.Proofs.Tryz.prog (.fn 96) [HL id d.size,hP 0,hP d.size,hP IU] H lo (.tuple []) (H.set id (I0 (Sort.insertionSort Sort.ltInt d 0 d.size))):=by
 refine G_ dH Xq rfl ⟨by simp,fun j ad af=>by rw [si (by omega)]⟩ fun Q bl=>?_;unfold Uo;obtain ⟨Rx,IK⟩:∃ c,Ot=c:=⟨_,rfl⟩;rw [IK];conv=>whnf
 refine .intro (fun m T H'=>T=GG 134 [(0,HL id d.size),(1,hP 0),(2,hP d.size),(3,hP IU),(8,B true),(9,B true)]∧H'=H) 0 ⟨rfl,rfl⟩ ?_;rintro m T H' ⟨rfl,rfl⟩;subst IK;unfold Ot;obtain ⟨a',cb⟩:∃ c,Oq=c:=⟨_,rfl⟩;obtain ⟨Rw,Lq⟩:∃ c,Up=c:=⟨_,rfl⟩;rw [cb,Lq];conv=>whnf
 rw [show IntKind.i64.wrap ((d.size:Int)-0)=(d.size:Int) by rw [H3 _ (by omega) (by omega)];omega,decide_eq_true (show (d.size:Int)≤12 by omega)];conv=>whnf
 subst cb;unfold Oq;conv=>whnf
 refine ⟨_,_,G9 (afk bD d 0 d.size (by omega) (sq _) (sc _) ah),?_⟩;conv=>whnf
 exact bl _ _ _ ⟨.inr rfl,⟨rfl,fun j o aw=>.inr aw⟩,rfl⟩
end
theorem Zs (n:Int):IntKind.u64.wrap n=n % 18446744073709551616:=by simp [IntKind.wrap,IntKind.bits,IntKind.signed]
theorem afr:((List.range 13).all fun n=>match Qc [] 97 [.int .u64 (n:Nat)] with | some v=>HO 3 v (hP (Sort.bitsLen n)) | none=>false)=true:=by kernel_rfl
theorem Pb (n:Nat) (h:n≤12):qp 97 [.int .u64 n] (hP (Sort.bitsLen n)):=by
 have:=sy.1 afr n (sG.2 (by omega));split at this
 ·rename_i v ae;rw [Mp _ _ _ this] at ae;exact rX (l:=[]) (by simp) ae
 ·cases this
theorem aia {H:List au} {id lo:Nat} (bD:lo≤id) (d:Array Int) (aZ:d.size≤12) (ah:H[id]?=some (I0 d)) :
  Sem Go.Proofs.Tryz.prog (.fn 73) [HL id d.size] H lo (.tuple []) (H.set id (I0 (Sort.insertionSort Sort.ltInt d 0 d.size))):=by
 refine G_ dH Xn rfl ⟨by simp,fun j ad af=>by rw [si (by omega)]⟩ fun Q bl=>?_;unfold T';conv=>whnf
 rw [show IntKind.u64.wrap (d.size:Int)=(d.size:Int) by rw [Zs];omega];refine ⟨by first | rfl | simp only [tE,uy,MG,MO,MH,MJ,MI,MK,MQ,MP,JA,ML,MM,MN,ue,ux],_,Pb d.size aZ,?_⟩
 conv=>whnf
 refine ⟨_,_,G9 (agH bD d (Sort.bitsLen d.size) aZ ah),?_⟩;conv=>whnf
 exact bl _ _ _ ⟨.inl rfl,⟨rfl,fun j o aw=>.inr aw⟩,rfl⟩
end Go.Proofs.YtfakoboiahbhaaaGreat.Ab


namespace Go.Proofs.YtfakoboiahbhaaaGreat.Ab
open Go
noncomputable def agX:ey :=
 .j0 false [Gp 7 0,Gn 8 4,Gp 9 4,gL 10 [.hJ 9] (.conv .u64),gL 11 [.iA (.func 97 [] []),.sl 10] (.call 3),Gp 12 1,gL 13 [.iA (.func 127 [] []),.hG 7,.iA (.int .i64 0),.hG 8,.hG 11,.hG 12] (.call 1)]
noncomputable def Ty:ey :=
 Gz [Gn 5 0,Gk 6 5,Gp 4 6] agX
theorem Xg:zf Go.Proofs.Tryz.prog Vl 102=some (Ty,14,[]):=by kernel_rfl
noncomputable def Ol:ey :=
 Gz [Gp 26 0,Gp 27 1,Gp 28 2,Gp 29 4,gL 30 [.iA (.func 138 [] []),.hG 26,.hG 27,.hG 28,.hG 29] (.call 1)] .ret
noncomputable def ahd:ey :=
 Gz [Gp 33 0,Gp 34 1,Gp 35 2,Gp 36 4,gL 37 [.iA (.func 139 [] []),.hG 33,.hG 34,.hG 35,.hG 36] (.call 1)] .ret
noncomputable def ahe:ey :=
 Gz [Gn 40 0,Gn 41 1,Gn 42 2,Gn 43 4,gL 44 [.iA (.func 140 [] []),.hG 40,.hG 41,.hG 42,.hG 43] (.call 1)] (Gs [Gp 45 3,F0 46 45 1 .sub,Gp 3 46])
noncomputable def ahf:ey :=
 Gz [Gn 62 2,F0 63 62 1 .sub,Gp 64 13,Gn 65 1,F1 66 64 65 .sub,F1 67 63 66 .sub,Gp 13 67] (Gs [Gm 14 1])
noncomputable def ahg:ey :=
 Gz [Gn 57 0,Gn 58 1,Gn 59 2,Gn 60 4,gL 61 [.iA (.func 142 [] []),.hG 57,.hG 58,.hG 59,.hG 60] (.call 1)] ahf
noncomputable def ahh:ey :=
 Gz [Gn 76 0,Gn 77 1,Gn 78 2,Gn 79 4,gL 80 [.iA (.func 143 [] []),.hG 76,.hG 77,.hG 78,.hG 79] (.call 1)] (.cond (.sl 80) .ret .skip)
noncomputable def ahi:ey :=
 Gz [Gn 98 0,Gp 99 1,Gn 100 2,Gp 101 13,Gn 102 4,gL 103 [.iA (.func 144 [] []),.hG 98,.hG 99,.hG 100,.hG 101,.hG 102] (.call 1),Gp 15 103] (Gz [Gp 104 15,Gp 1 104] (.exit 1))
noncomputable def ahj:ey :=
 Gz [Gn 129 0,Gp 130 1,Gn 131 16,Gn 132 3,Gn 133 4,gL 134 [.iA (.func 127 [] []),.hG 129,.hG 130,.hG 131,.hG 132,.hG 133] (.call 1)] (Gs [Gp 135 16,FZ 136 135 1,Gp 1 136])
noncomputable def ahk:ey :=
 Gz [Gp 126 18,Gp 127 20,F1 128 126 127 .geq,Gp 10 128] ahj
noncomputable def ag6:ey :=
 Gz [Gn 140 0,Gn 141 16,FZ 142 141 1,Gp 143 2,Gn 144 3,Gn 145 4,gL 146 [.iA (.func 127 [] []),.hG 140,.hG 142,.hG 143,.hG 144,.hG 145] (.call 1)] (Gs [Gp 147 16,Gp 2 147])
noncomputable def ag7:ey :=
 Gz [Gp 137 19,Gp 138 20,F1 139 137 138 .geq,Gp 10 139] ag6
noncomputable def ag8:ey :=
 Gz [Gp 121 12,F0 122 121 8 .quo,Gp 20 122] (Gz [Gn 123 18,Gn 124 19,F1 125 123 124 .lss] (.cond (.sl 125) ahk ag7))
noncomputable def ag9:ey :=
 Gz [Gn 115 16,Gn 116 1,F1 117 115 116 .sub,Gn 118 2,Gn 119 16,F1 120 118 119 .sub,Gp 18 117,Gp 19 120] ag8
noncomputable def ag_:ey :=
 Gz [Gn 106 0,Gn 107 1,Gn 108 2,Gp 109 13,Gn 110 4,gL 111 [.iA (.func 145 [] []),.hG 106,.hG 107,.hG 108,.hG 109,.hG 110] (.call 1),Gp 105 111,GJ 112 105 0,gL 113 [.hJ 105] (.ext 1),Gp 16 112,Gp 17 113] (Gz [Gp 114 17,Gp 11 114] ag9)
noncomputable def aha:ey :=
 .seq (.seq (Gt [Gn 81 1,F0 82 81 0 .gtr,Gp 83 82,cP 84 [.sl 4] 83 true .iQ,cP 85 [.sl 0] 83 true .iQ,cP 86 [.sl 1] 83 true .iQ,cP 87 [.hJ 86,.iA (.int .i64 1)] 83 true (.bin .sub),cP 88 [.hJ 85,.hJ 87] 83 true (.pM 1),cP 89 [.hJ 88] 83 true (.pT .one),cP 90 [.sl 0] 83 true .iQ,cP 91 [.sl 13] 83 true .iQ,cP 92 [.hJ 90,.hJ 91] 83 true (.pM 1),cP 93 [.hJ 92] 83 true (.pT .one),cP 94 [.sl 84,.sl 89,.sl 93] 83 true (.call 6),cP 95 [.hJ 94,.iA (.int .i64 0)] 83 true (.bin .lss),cP 96 [.hJ 95] 83 true (.un .not),gL 97 [.sl 83,.hJ 96,.iA (.bool false)] .pick]) (.cond (.sl 97) ahi .skip)) ag_
noncomputable def ahb:ey :=
 .seq (Gz [Gn 68 10,Gp 69 68,cP 70 [.sl 11] 69 true .iQ,gL 71 [.hJ 69,.hJ 70,.iA (.bool false)] .pick,Gp 72 71,cP 73 [.hG 14] 72 true .iQ,cP 74 [.hJ 73,.iA (.int .i64 1)] 72 true (.bin .eql),gL 75 [.hJ 72,.hJ 74,.iA (.bool false)] .pick] (.cond (.sl 75) ahh .skip)) aha
noncomputable def ahc:ey :=
 Gz [Gn 48 0,Gn 49 1,Gn 50 2,Gn 51 4,gL 52 [.iA (.func 141 [] []),.hG 48,.hG 49,.hG 50,.hG 51] (.call 1),Gp 47 52,GJ 53 47 0,gL 54 [.hJ 47] (.ext 1),Gp 13 53,Gp 14 54] (.seq (Gz [Gn 55 14,F0 56 55 2 .eql] (.cond (.sl 56) ahg .skip)) ahb)
noncomputable def TX:ey :=
 .seq (Gz [Gn 31 3,F0 32 31 0 .eql] (.cond (.sl 32) ahd .skip)) (.seq (Gz [Gn 38 10,gL 39 [.hJ 38] (.un .not)] (.cond (.sl 39) ahe .skip)) ahc)
noncomputable def Om:ey :=
 .block 1 (Gz [Gn 21 2,Gn 22 1,F1 23 21 22 .sub,Gp 12 23] (.seq (Gz [Gn 24 12,F0 25 24 12 .leq] (.cond (.sl 25) Ol .skip)) TX))
noncomputable def TW:ey :=
 Gz [gL 10 [.iA (.bool true)] .iQ] (Gz [gL 11 [.iA (.bool true)] .iQ] (.block 0 (.loop (some (Ez false [0,5,5,2,136])) Om)))
theorem Xl:zf Go.Proofs.Tryz.prog Vs 127=some (TW,148,[]):=by kernel_rfl
noncomputable def ahm:ey :=
 .block 3 (Gt [Gn 37 0,Gn 38 9,Gn 39 0,Gn 40 9,F0 41 40 1 .sub,Gn 42 0,Gn 43 9,F0 44 43 1 .sub,Gh 45 42 44 1,Gl 46 45,Gn 47 0,Gn 48 9,Gh 49 47 48 1,Gl 50 49,Gh 51 37 38 1,⟨none,[.hG 51,.hG 46],none,none,.st 1⟩,Gh 52 39 41 1,⟨none,[.hG 52,.hG 50],none,none,.st 1⟩])
noncomputable def ahn:ey :=
 .seq (.seq (Gt [Gn 18 9,Gn 19 1,F1 20 18 19 .gtr,Gp 21 20,cP 22 [.sl 3] 21 true .iQ,cP 23 [.sl 0] 21 true .iQ,cP 24 [.sl 9] 21 true .iQ,cP 25 [.hJ 23,.hJ 24] 21 true (.pM 1),cP 26 [.hJ 25] 21 true (.pT .one),cP 27 [.sl 0] 21 true .iQ,cP 28 [.sl 9] 21 true .iQ,cP 29 [.hJ 28,.iA (.int .i64 1)] 21 true (.bin .sub),cP 30 [.hJ 27,.hJ 29] 21 true (.pM 1),cP 31 [.hJ 30] 21 true (.pT .one),cP 32 [.sl 22,.sl 26,.sl 31] 21 true (.call 6),cP 33 [.hJ 32,.iA (.int .i64 0)] 21 true (.bin .lss),gL 34 [.sl 21,.hJ 33,.iA (.bool false)] .pick]) (.cond (.sl 34) .skip (.exit 2))) (.seq ahm (Gs [Gp 35 9,F0 36 35 1 .sub,Gp 9 36]))
noncomputable def aho:ey :=
 .block 1 (Gz [Gn 17 8,Gp 9 17] (.block 2 (.loop (some (Ez false [0,4,4,2,43])) ahn)))
noncomputable def ahp:ey :=
 .seq (Gz [Gn 12 8,Gn 13 2,F1 14 12 13 .lss] (.cond (.sl 14) .skip (.exit 0))) (.seq aho (Gs [Gp 15 8,FZ 16 15 1,Gp 8 16]))
noncomputable def T1:ey :=
 Gz [Gn 10 1,FZ 11 10 1,Gp 8 11] (.block 0 (.loop (some (Ez false [0,4,4,1,44])) ahp))
theorem Xm:zf Go.Proofs.Tryz.prog Vv 138=some (T1,53,[]):=by kernel_rfl
noncomputable def ag3:ey :=
 Gz [Gn 11 1,Gn 12 0,Gn 13 5,Gh 14 12 13 1,Gl 15 14,gL 16 [.sl 11,.sl 15] (.call 6)] (.cond (.sl 16) (Gz [Gp 17 5,Gp 4 17] .ret) .skip)
noncomputable def ag4:ey :=
 .block 1 (Gz [Gn 10 8,Gp 5 10] ag3)
noncomputable def ag5:ey :=
 .seq (Gz [Gn 6 0,Gk 7 6,Gm 8 0] (.block 0 (.loop (some (Ez false [0,2,5,2,10])) (Gz [gL 9 [.sl 8,.sl 7] (.bin .lss)] (.seq (.cond (.sl 9) .skip (.exit 0)) (.seq ag4 (Gs [FZ 18 8 1,Gp 8 18]))))))) (Gz [Gm 4 (-1)] .ret)
noncomputable def TV:ey :=
 Gz [Gm 4 0] ag5
theorem Xk:zf Go.Proofs.Tryz.prog Vr 126=some (TV,19,[.tmp 4]):=by kernel_rfl
noncomputable def Ub:ey :=
 Gz [Gn 45 0,Gn 46 3,Gn 47 4,Gn 48 5,Gh 49 47 48 1,Gl 50 49,Gh 51 45 46 1,⟨none,[.hG 51,.hG 50],none,none,.st 1⟩] (Gs [Gp 52 3,FZ 53 52 1,Gp 3 53])
noncomputable def XX:ey :=
 .block 3 (.seq (Gt [Gn 35 4,Gn 36 5,Gh 37 35 36 1,Gl 38 37,Gn 39 4,Gn 40 5,F0 41 40 1 .sub,Gh 42 39 41 1,Gl 43 42,F1 44 38 43 .neq]) (.cond (.sl 44) Ub .skip))
noncomputable def Uc:ey :=
 .seq (Gz [Gn 29 5,Gn 30 4,Gk 31 30,F1 32 29 31 .lss] (.cond (.sl 32) .skip (.exit 2))) (.seq XX (Gs [Gp 33 5,FZ 34 33 1,Gp 5 34]))
noncomputable def XY:ey :=
 Gz [Gp 57 0,Gp 58 3,gL 59 [.hG 57,.hG 58] (.AX 1 false true false),Gp 2 59] .ret
noncomputable def Ud:ey :=
 Gz [Gn 54 0, Gn 55 3, gL 56 [.hG 54, .hG 55] (.AX 1 true false false), ⟨none, [.hG 56], none, none, .other (Oper.mk none (Op.call (Call.mk (Callee.builtin Builtin.clear) (Array.mk [Operand.tmp 56]) (Array.mk [38]))) 0 "slices.go:385" (Array.mk [Edge.mk 2 Ground.data]) none) 0⟩] XY
noncomputable def Ue:ey :=
 Gz [Gn 26 0,Gn 27 3,gL 28 [.hG 26,.hG 27] (.AX 1 true false false),Gp 4 28] (.seq (Gz [Gm 5 1] (.block 2 (.loop (some (Ez false [0,1,2,3,55])) Uc))) Ud)
noncomputable def XZ:ey :=
 .block 1 (.seq (Gt [Gn 16 0,Gn 17 3,Gh 18 16 17 1,Gl 19 18,Gn 20 0,Gn 21 3,F0 22 21 1 .sub,Gh 23 20 22 1,Gl 24 23,F1 25 19 24 .eql]) (.cond (.sl 25) Ue .skip))
noncomputable def Oo:ey :=
 .seq (Gz [Gn 10 3,Gn 11 0,Gk 12 11,F1 13 10 12 .lss] (.cond (.sl 13) .skip (.exit 0))) (.seq XZ (Gs [Gp 14 3,FZ 15 14 1,Gp 3 15]))
noncomputable def MR:ey :=
 .seq (Gz [⟨some 6,[.hG 0],none,some 0,.A6⟩,Gk 7 6,F0 8 7 2 .lss] (.cond (.sl 8) (Gz [Gp 9 0,Gp 2 9] .ret) .skip)) (.seq (Gz [Gm 3 1] (.block 0 (.loop (some (Ez false [0,1,2,1,57])) Oo))) (Gz [Gp 60 0,Gp 2 60] .ret))
noncomputable def Ua:ey :=
 Gz [gL 2 [.iA (.ay [] 0 .full)] (.nil 1)] MR
theorem Xo:zf Go.Proofs.Tryz.prog Rr 74=some (Ua,61,[.tmp 2]):=by kernel_rfl
end Go.Proofs.YtfakoboiahbhaaaGreat.Ab


namespace Go.Proofs.YtfakoboiahbhaaaGreat.Ab
open Go
set_option maxRecDepth 20000
set_option maxHeartbeats 4000000
noncomputable def aat:ey :=
 Gz [Gm 4 0] (.seq (Gt [Gp 5 0,gL 6 [.hJ 5,.iA (.int .i64 0)] (.pM 1),Gl 7 6,Gp 8 1,gL 9 [.hJ 8,.iA (.int .i64 0)] (.pM 1),Gl 10 9,F1 11 7 10 .sub,Gp 4 11]) .ret)
theorem afC:zf Tryz.prog Vm 103=some (aat,12,[.tmp 4]):=by kernel_rfl
def UH (x y:p8):Option Int :=
 p5 (0≤(0:Int)∧(0:Int)<(x.length:Int)) <|
 p5 (0≤(0:Int)∧(0:Int)<(y.length:Int)) <|
 some (w ((ix x (0:Int))-(ix y (0:Int))))
theorem ajK {x:p8} {y:p8} {v:Int} (h:UH x y=some v):qp 103 [(.ay (x.map hP) x.length .shared),(.ay (y.map hP) y.length .shared)] (hP v):=by
 refine qN dH afC rfl rfl fun Q bl=>?_;have jw:qv [.tmp 4] Q (fun v=>(hP v)) v:=fun T H bI=>bl _ T H bI;unfold UH at h;unfold aat;conv=>whnf
 refine qj h id fun eT h=>?_;rw [rJ hP x (0:Int) eT];conv=>whnf
 refine qj h id fun fj h=>?_;rw [rJ hP y (0:Int) fj];conv=>whnf
 exact p7 h jw rfl rfl

theorem aip (d:Array (List Int)) (i j:Nat):(Sort.swp d i j).size=d.size:=by simp [Sort.swp]
theorem swp_get (d:Array (List Int)) (i j x:Nat) (hi:i<d.size) (aw:j<d.size):∃ y,y<d.size∧(x<d.size→(Sort.swp d i j)[x]! = d[y]!):=by
 by_cases al:x<d.size
 ·by_cases af:x=j
  ·exact ⟨i,hi,fun _=>by subst af;simp [Sort.swp,aw]⟩
  ·by_cases ad:x=i
   ·exact ⟨j,aw,fun _=>by subst ad;simp [Sort.swp,hi,Array.getElem_setIfInBounds,Ne.symm af]⟩
   ·exact ⟨x,al,fun _=>by simp [Sort.swp,al,Array.getElem_setIfInBounds,Ne.symm ad,Ne.symm af]⟩
 ·exact ⟨i,hi,fun h=>absurd h al⟩
def I1 (g:Nat) (d:Array (List Int)):au:=.grow (d.toList.map jh) g 1
theorem acX (d:Array (List Int)) (x:Nat) (h:x<d.size):(d.toList.map jh)[x]?=some (jh d[x]!):=by
 simp [h]
theorem acY (d:Array (List Int)) (x:Nat) (v:List Int):(d.toList.map jh).set x (jh v)=(d.setIfInBounds x v).toList.map jh:=by
 simp [uG]
theorem Qb {d:Array (List Int)} {n:Nat} (x:Nat) (e:n=x) (h:x<d.size) {K:I→Prop} (k:K (jh d[x]!)):eO (d.toList.map jh) n K:=by
 subst e;exact DW (acX d n h) k
theorem Zr {d:Array (List Int)} {n:Nat} {v:List Int} (x:Nat) (e:n=x) (h:x<d.size) {K:List I→Prop} (k:K ((d.setIfInBounds x v).toList.map jh)):jc (d.toList.map jh) n (jh v) K:=by
 subst e;refine A_ (by simpa using h) ?_;rw [acY];exact k
def JW (l:List Int):Prop:=l≠[]∧0≤ix l 0∧ix l 0≤1000
def Hq (x y:List Int):Bool:=decide (ix x 0<ix y 0)
theorem ada {x y:List Int} (al:JW x) (a0:JW y):∃ r:Int,qp 103 [jh x,jh y] (hP r)∧decide (r<0)=Hq x y:=by
 refine ⟨ix x 0-ix y 0,ajK ?_,?_⟩
 ·have ad:=uz.2 al.1;have af:=uz.2 a0.1;rw [UH,p' ⟨by omega,by omega⟩,p' ⟨by omega,by omega⟩,H2 (by have:=al.2;have:=a0.2;omega)]
 ·unfold Hq;congr 1;exact propext (by omega)
section
variable {H:List au} {id lo g:Nat} (bD:lo≤id)
include bD
theorem afj (d:Array (List Int)) (a b:Nat) (aZ:d.size≤1000) (cd:a≤b) (ag:b≤d.size) (ah:H[id]?=some (I1 g d)) (NS:∀ x,x<d.size→JW d[x]!) :
  Sem Go.Proofs.Tryz.prog (.fn 138) [HL id d.size,hP a,hP b,.func 103 [] []] H lo (.tuple []) (H.set id (I1 g (Sort.insertionSort Hq d a b))):=by
 have aE:=(sa.1 ah).1;refine RJ dH Xm rfl ⟨by simp,fun j ad af=>by rw [si (by omega)]⟩ ?_;unfold T1;conv=>whnf
 have Cc:Nat.ble lo id=true:=uc bD;have gs:∀ c:au,(H.set id c)[id]?=some c:=fun c=>by rw [sg aE]
 have HR:∀ c e:au,((H.set id c).set id e)[id]?=some e:=fun c e=>by rw [sS,gs]
 rw [GY a (by omega)];refine .intro (fun m T H'=>∃ i gQ,a+1≤i∧(i≤b∨i=a+1)∧m=b+1-i∧gQ.size=d.size∧(∀ x,x<d.size→JW gQ[x]!)∧Sort.insOuter Hq a b i gQ=Sort.insertionSort Hq d a b∧T=GG 53 [(0,HL id d.size),(1,hP a),(2,hP b),(3,.func 103 [] []),(8,hP i)]∧H'=H.set id (I1 g gQ)) (b-a) ⟨a+1,d,by omega,.inr rfl,by omega,rfl,NS,rfl,rfl,?_⟩ ?_
 ·obtain ⟨ad,af⟩:=sa.1 ah;rw [←af,u_]
 rintro m T H' ⟨i,gQ,aeA,WX,rfl,Cm,B_,he,rfl,rfl⟩;conv=>whnf
 refine It (fun h=>?_) (fun h=>?_)
 ·conv=>whnf
  refine .intro (fun j T H'=>∃ rf:Array (List Int),j≤i∧rf.size=d.size∧(∀ x,x<d.size→JW rf[x]!)∧Sort.insInner Hq a j rf=Sort.insInner Hq a i gQ∧T=GG 53 [(0,HL id d.size),(1,hP a),(2,hP b),(3,.func 103 [] []),(8,hP i),(9,hP j)]∧H'=H.set id (I1 g rf)) i ⟨gQ,sc _,Cm,B_,rfl,rfl,rfl⟩ ?_;rintro j T H' ⟨rf,aw,Lw,NR,Lx,rfl,rfl⟩;conv=>whnf
  by_cases aG:(a:Int)<(j:Int)
  ·rw [decide_eq_true aG];obtain ⟨y,rfl⟩:∃ y,j=y+1:=⟨j-1,by omega⟩;(have hw:IntKind.i64.wrap (((y+1:Nat):Int)-1)=(y:Int):=by rw [H3 _ (by omega) (by omega)];omega);obtain ⟨r,aj,C3⟩:=ada (NR (y+1) (by omega)) (NR y (by omega));(conv=>whnf);refine ⟨by omega,?_⟩;(conv=>whnf);refine DW (by first | exact gs _ | exact HR _ _ | assumption) ?_
   (conv=>whnf);refine Qb (y+1) (by omega) (by first | omega | (simp only [ug];omega)) ?_
   (conv=>whnf);rw [hw];refine ⟨by omega,?_⟩;(conv=>whnf);refine DW (by first | exact gs _ | exact HR _ _ | assumption) ?_
   (conv=>whnf);refine Qb (y) (by omega) (by first | omega | (simp only [ug];omega)) ?_
   (conv=>whnf);refine ⟨(pZ (rK (fun _=>rfl) _ _ _) (pZ (rK (fun _=>rfl) _ _ _) rfl)),[jh rf[y+1]!,jh rf[y]!],rfl,_,rfl,aj,HM,?_⟩;(conv=>whnf);rw [C3];by_cases a6:Hq rf[y+1]! rf[y]! = true
   ·rw [a6];(conv=>whnf);rw [hw];refine ⟨by omega,?_⟩;(conv=>whnf);refine DW (by first | exact gs _ | exact HR _ _ | assumption) ?_
    (conv=>whnf);refine Qb (y) (by omega) (by first | omega | (simp only [ug];omega)) ?_
    (conv=>whnf);refine ⟨by omega,?_⟩;(conv=>whnf);refine DW (by first | exact gs _ | exact HR _ _ | assumption) ?_
    (conv=>whnf);refine Qb (y+1) (by omega) (by first | omega | (simp only [ug];omega)) ?_
    (conv=>whnf);refine ⟨by omega,?_⟩;(conv=>whnf);rw [Cc];(conv=>whnf);refine DW (by first | exact gs _ | exact HR _ _ | assumption) ?_
    (conv=>whnf);refine Zr (y+1) (by omega) (by first | omega | (simp only [ug];omega)) ?_
    (conv=>whnf);refine ⟨by omega,?_⟩;(conv=>whnf);rw [Cc];(conv=>whnf);refine DW (by first | exact gs _ | exact HR _ _ | assumption) ?_
    (conv=>whnf);refine Zr (y) (by omega) (by first | omega | (simp only [ug];omega)) ?_
    (conv=>whnf);refine ⟨y,by omega,Sort.swp rf (y+1) y,by omega,by rw [aip];exact Lw,?_,?_,?_,?_⟩
    ·intro x al;obtain ⟨z,bm,bL⟩:=swp_get rf (y+1) y x (by omega) (by omega);rw [bL (by omega)];exact NR z (by omega)
    ·rw [←Lx,Sort.insInner,if_pos (by simp only [sv,decide_eq_true_eq];exact ⟨by omega,a6⟩)]
    ·rw [hw];rfl
    ·simp only [sS];rfl
   ·rw [Bool.not_eq_true] at a6;rw [a6];(conv=>whnf);have e:Sort.insInner Hq a i gQ=rf:=by
     rw [←Lx,Sort.insInner,if_neg (by simp only [sv,decide_eq_true_eq];exact fun bI=>by rw [a6] at bI;exact absurd bI.2 (by decide))]
    exact ⟨b+1-(i+1),by omega,i+1,rf,by omega,by omega,rfl,Lw,NR,by rw [←he,Sort.insOuter.eq_1 _ a b i,if_pos (by omega),e],by rw [←GY i (by omega)];rfl,rfl⟩
  ·rw [decide_eq_false aG];(conv=>whnf);have e:Sort.insInner Hq a i gQ=rf:=by
    rw [←Lx];cases j with
    | zero=>rfl
    | succ y=>rw [Sort.insInner,if_neg (by simp only [sv,decide_eq_true_eq];exact fun bI=>by omega)]
   exact ⟨b+1-(i+1),by omega,i+1,rf,by omega,by omega,rfl,Lw,NR,by rw [←he,Sort.insOuter.eq_1 _ a b i,if_pos (by omega),e],by rw [←GY i (by omega)];rfl,rfl⟩
 ·conv=>whnf
  have e:Sort.insertionSort Hq d a b=gQ:=by
   rw [←he];unfold Sort.insOuter;rw [if_neg (by omega)]
  rw [e];exact ⟨.inl rfl,⟨by simp,fun j o aw=>.inr aw⟩,rfl⟩
theorem agJ (d:Array (List Int)) (IU:Int) (aZ:d.size≤12) (ah:H[id]?=some (I1 g d)) (NS:∀ x,x<d.size→JW d[x]!) :
  Sem Go.Proofs.Tryz.prog (.fn 127) [HL id d.size,hP 0,hP d.size,hP IU,.func 103 [] []] H lo (.tuple []) (H.set id (I1 g (Sort.insertionSort Hq d 0 d.size))):=by
 refine G_ dH Xl rfl ⟨by simp,fun j ad af=>by rw [si (by omega)]⟩ fun Q bl=>?_;unfold TW;obtain ⟨Rx,IK⟩:∃ c,Om=c:=⟨_,rfl⟩;rw [IK];conv=>whnf
 refine .intro (fun m T H'=>T=GG 148 [(0,HL id d.size),(1,hP 0),(2,hP d.size),(3,hP IU),(4,.func 103 [] []),(10,B true),(11,B true)]∧H'=H) 0 ⟨rfl,rfl⟩ ?_;rintro m T H' ⟨rfl,rfl⟩;subst IK;unfold Om;obtain ⟨a',cb⟩:∃ c,Ol=c:=⟨_,rfl⟩;obtain ⟨Rw,Lq⟩:∃ c,TX=c:=⟨_,rfl⟩;rw [cb,Lq];conv=>whnf
 rw [show IntKind.i64.wrap ((d.size:Int)-0)=(d.size:Int) by rw [H3 _ (by omega) (by omega)];omega,decide_eq_true (show (d.size:Int)≤12 by omega)];conv=>whnf
 subst cb;unfold Ol;conv=>whnf
 refine ⟨_,_,G9 (afj bD d 0 d.size (by omega) (sq _) (sc _) ah NS),?_⟩;conv=>whnf
 exact bl _ _ _ ⟨.inr rfl,⟨rfl,fun j o aw=>.inr aw⟩,rfl⟩
end
theorem aih {H:List au} {id lo g:Nat} (bD:lo≤id) (d:Array (List Int)) (aZ:d.size≤12) (ah:H[id]?=some (I1 g d)) (NS:∀ x,x<d.size→JW d[x]!) :
  Sem Go.Proofs.Tryz.prog (.fn 102) [HL id d.size,.func 103 [] []] H lo (.tuple []) (H.set id (I1 g (Sort.insertionSort Hq d 0 d.size))):=by
 refine G_ dH Xg rfl ⟨by simp,fun j ad af=>by rw [si (by omega)]⟩ fun Q bl=>?_;unfold Ty;conv=>whnf
 rw [show IntKind.u64.wrap (d.size:Int)=(d.size:Int) by rw [Zs];omega];refine ⟨by first | rfl | simp only [tE,uy,MG,MO,MH,MJ,MI,MK,MQ,MP,JA,ML,MM,MN,ue,ux],_,Pb d.size aZ,?_⟩
 conv=>whnf
 refine ⟨_,_,G9 (agJ bD d (Sort.bitsLen d.size) aZ ah NS),?_⟩;conv=>whnf
 exact bl _ _ _ ⟨.inl rfl,⟨rfl,fun j o aw=>.inr aw⟩,rfl⟩
end Go.Proofs.YtfakoboiahbhaaaGreat.Ab


namespace Go.Proofs.YtfakoboiahbhaaaGreat.Ab
open Go
def abm:c7:={ ops:=[[],[{},{},{},{ takes:=[true] }],[{},{ takes:=[true] }],[{ takes:=[true] },{ takes:=[true],mode:=4 }],[{},{ takes:=[true] },{ takes:=[true] }],[{},{},{ takes:=[true] },{ takes:=[true,true] }],[{ takes:=[true] },{ takes:=[true] },{ takes:=[true] }],[{},{},{ takes:=[true,true] },{ takes:=[true] },{ takes:=[true] }],[{},{},{ mode:=6 },{ takes:=[true] }],[{},{},{ takes:=[true] },{ takes:=[true,true] },{ takes:=[true,true] }],[{ takes:=[true] },{ takes:=[true] },{ takes:=[true] }],[{},{},{ takes:=[true,true] },{ takes:=[true] }],[{ takes:=[true] },{ takes:=[true] },{ takes:=[true,true] },{ takes:=[true],mode:=4 }]],h7:=[(0,(Ez false [0,2,3,2,35]))] }
noncomputable def Tu:ey :=
 Gz [Gn 30 0,Gn 31 5,Gp 32 7,Gh 33 30 31 1,⟨none,[.hG 33,.hG 32],none,none,.st 1⟩] (Gs [Gp 34 5,FZ 35 34 1,Gp 5 35])
noncomputable def Tv:ey :=
 Gz [Gn 26 1,Gn 27 7,gL 28 [.sl 26,.sl 27] (.call 6),gL 29 [.hJ 28] (.un .not)] (.cond (.sl 29) Tu .skip)
noncomputable def Tw:ey :=
 .block 1 (Gz [Gn 22 0,Gn 23 6,Gh 24 22 23 1,Gl 25 24,Gp 7 25] Tv)
noncomputable def P2:ey :=
 .seq (Gz [Gn 16 6,Gn 17 0,Gk 18 17,F1 19 16 18 .lss] (.cond (.sl 19) .skip (.exit 0))) (.seq Tw (Gs [Gp 20 6,FZ 21 20 1,Gp 6 21]))
noncomputable def Tx:ey :=
 Gz [Gp 39 0, Gp 40 5, gL 41 [.hG 39, .hG 40] (.AX 1 false true false), gL 4 [.hG 41] (.other (Oper.mk (some 4) (Op.assign (Operand.tmp 41)) 41 "slices.go:254" (Array.mk [Edge.mk 2 Ground.data, Edge.mk 0 Ground.phase, Edge.mk 1 Ground.phase, Edge.mk 2 Ground.phase]) none) 4)] .ret
noncomputable def P3:ey :=
 Gz [Gn 36 0, Gn 37 5, gL 38 [.hG 36, .hG 37] (.AX 1 true false false), ⟨none, [.hG 38], none, none, .other (Oper.mk none (Op.call (Call.mk (Callee.builtin Builtin.clear) (Array.mk [Operand.tmp 38]) (Array.mk [41]))) 0 "slices.go:253" (Array.mk [Edge.mk 2 Ground.data]) none) 0⟩] Tx
noncomputable def Oh:ey :=
 .seq (Gz [Gn 11 5, F0 12 11 (-1) .eql] (.cond (.sl 12) (Gz [Gp 13 0, gL 4 [.hG 13] (.other (Oper.mk (some 4) (Op.assign (Operand.tmp 13)) 41 "slices.go:244" (Array.mk [Edge.mk 0 Ground.data, Edge.mk 0 Ground.phase]) none) 4)] .ret) .skip)) (.seq (Gz [Gn 14 5, FZ 15 14 1, Gp 6 15] (.block 0 (.loop (some (Ez false [0, 2, 3, 2, 35])) P2))) P3)
noncomputable def Oi:ey :=
 Gz [Gn 8 0,Gn 9 1,gL 10 [.iA (.func 126 [] []),.sl 8,.sl 9] (.call 0),Gp 5 10] Oh
noncomputable def Tt:ey :=
 Gz [gL 4 [.iA (.ay [] 0 .full)] (.nil 1)] Oi
theorem Xf:zf Go.Proofs.Tryz.prog abm 101=some (Tt,42,[.tmp 4]):=by kernel_rfl
end Go.Proofs.YtfakoboiahbhaaaGreat.Ab


namespace Go.Proofs.YtfakoboiahbhaaaGreat.Ab
open Go
set_option maxRecDepth 20000
set_option maxHeartbeats 4000000
theorem Pd {P:Program} {k:FuncId} {args:List I} {H H':List au} {lo:Nat} {v:I} (aC:cq 8 v=true) (h:Sem P (.fn k) args H H.length v H'):om P 0 lo (.fn k) args H v H:=by
 refine ⟨_,D2 h,?_⟩;have ck:bJ H' H.length H'.length 0 8 v=some v:=oR aC;simp only [eS,D1,r_,ck,sd]
theorem afe {p:List Int→Bool}:∀ (l:List (List Int)) (i:Nat) (h:i<l.length),idxOf p (l.drop i) i=if p l[i]=true then (i:Int) else idxOf p (l.drop (i+1)) (i+1):=fun l i h=>by
 rw [sQ h,idxOf]
theorem Ur (d:List (List Int)) {n:Int} {i:Nat} (aN:n=i) (h:i<d.length):(d.map jh)[0+n.toNat*1]?=some (jh d[i]):=by
 subst aN;simp [h]
section
variable {id lo g:Nat} {H:List au} {IJ:FuncId} {HA cs:List I} {p:List Int→Bool} {d:List (List Int)}
theorem aff (aQ:HA.map (ij H)=cs) (Mw:cs.map I.cr=cs) (Cj:cs.all (cq 8)=true) (aZ:d.length≤1000) (av:∀ r∈d,qp IJ (jh r::cs) (B (p r))) (ah:H[id]?=some (.grow (d.map jh) g 1)) :
  Sem Go.Proofs.Tryz.prog (.fn 126) [.ref id 0 d.length none 1,.func IJ [] HA] H lo (hP (idxOf p d 0)) H:=by
 refine G_ dH Xk rfl ⟨sc _,fun j _ _=>rfl⟩ fun Q bl=>?_;unfold TV;conv=>whnf
 refine .intro (fun m T H'=>∃ i,i≤d.length∧m=d.length-i∧idxOf p d 0=idxOf p (d.drop i) i∧T=[.ref id 0 d.length none 1,.func IJ [] HA,ry,ry,ry,ry,ry,hP d.length,hP i,ry,ry,ry,ry,ry,ry,ry,ry,ry,ry]∧H'=H) d.length ⟨0,by omega,by omega,rfl,rfl,rfl⟩ ?_;rintro m T H' ⟨i,hi,rfl,he,rfl,rfl⟩;conv=>whnf
 refine It (fun h=>?_) (fun h=>?_)
 ·have aU:i<d.length:=by omega
  rw [afe d i aU] at he;conv=>whnf
  refine ⟨by omega,?_⟩;conv=>whnf
  refine DW ah ?_;conv=>whnf
  refine DW (Ur d rfl aU) ?_;conv=>whnf
  refine ⟨_,_,call6 (bs:=jh d[i]::cs) ?_ ?_ (av _ (sD aU)) rfl,?_⟩
  ·show (_::HA.map (ij H')).map I.cr=_;rw [aQ,sx,Mw];rfl
  ·show (_::HA.map (ij H')).all (cq 8)=true;rw [aQ];exact pZ (rK (fun _=>rfl) _ _ _) Cj
  conv=>whnf
  cases aC:p d[i] with
  | true =>
    (conv=>whnf);rw [aC,if_pos rfl] at he;exact bl _ _ _ ⟨.inr rfl,⟨rfl,fun j o aw=>.inr aw⟩,by rw [he];rfl⟩
  | false =>
    (conv=>whnf);rw [aC,if_neg (by simp)] at he;exact ⟨d.length-(i+1),by omega,i+1,by omega,rfl,he,by rw [←GY i (by omega)] <;> rfl,rfl⟩
 ·obtain rfl:i=d.length:=by omega
  rw [List.drop_length] at he;conv=>whnf
  exact bl _ _ _ ⟨.inr rfl,⟨rfl,fun j o aw=>.inr aw⟩,by rw [he];rfl⟩
end
theorem VY {P:Program} {C:b6} {lo id gid n:Nat} {o:Oper} {x:Operand} {H:List au} {l:List I} (aq:o.op=.assign x) (bD:lo≤id) (ah:H[id]?=some (.grow l gid 1)) (aN:n≤l.length) (aC:(l.take n).all I.plain=true) :
  a8 P C lo o 4 [.cl id gid n 1] H=some (.ay (l.take n) n (.uniq 1),H.set id .dead):=by
 unfold a8;rw [aq];show eP P lo 4 o.type x H [.cl id gid n 1]=_;unfold eP;simp only [bD,if_true,ah];rw [if_pos ⟨trivial,trivial,by omega,by rw [tt];exact aC⟩,tt]
theorem X8 (l:List (List Int)) (n:Nat):((l.map jh).take n).all I.plain=true:=by
 rw [sy];intro u hu;obtain ⟨x,_,rfl⟩:=sm.1 (List.mem_of_mem_take hu);rfl
theorem ac7 {P:Program} {lo id off len:Nat} {H:List au} {l:List I} {g:Nat} {cap:Option Nat} {e:TypeId} {ts:Array TypeId} (e1:(ts[0]?).bind P.underlying=some (.slice e)) (ck:bS P e=some 1) {z:I} (dE:zeroCells P e=some [z]) (bD:lo≤id)
  (ah:H[id]?=some (.grow l g 1)) (aN:off+len≤l.length):kR P lo ts H [.ref id off len cap 1]=some (.tuple [],H.set id (.grow (setCells off (eX len [z]) l) g 1)):=by
 unfold kR;simp only [e1,ck,dE,g7,ah,sd,if_pos bD];rw [if_pos ⟨trivial,rfl,by decide⟩,if_pos (by omega)];rfl
theorem V' {off len:Nat} {l:List I} {z:I} (aN:off+len≤l.length):(setCells off (eX len [z]) l).take off=l.take off:=by
 apply tA;intro j;rw [sT,sT];split
 ·rw [n7 _ _ _ _ (by rw [ie];simp;omega),if_neg (by omega)]
 ·rfl
theorem ac8 {off len:Nat} {l:List I} {z:I}:(setCells off (eX len [z]) l).length=l.length:=mL _ _ _
theorem W9 {α:Type} (p:α→Bool):∀ (l:List α) (i:Nat),(idxOf p l i=-1∧∀ x∈l,p x=false)∨∃ k,∃ h:k<l.length,idxOf p l i=((i+k:Nat):Int)∧p l[k]=true∧∀ x∈l.take k,p x=false
 | [],i=>.inl ⟨rfl,fun x al=>absurd al (by simp)⟩
 | x::l,i=>by
   rw [idxOf];cases al:p x with
   | true=>rw [if_pos rfl];exact .inr ⟨0,by simp,by simp,al,fun y a0=>absurd a0 (by simp)⟩
   | false =>
     rw [if_neg (by simp)];rcases W9 p l (i+1) with ⟨ad,af⟩ | ⟨k,av,ad,af,aG⟩
     ·exact .inl ⟨ad,fun y a0=>by rcases sj.1 a0 with rfl | a0;exact al;exact af y a0⟩
     ·refine .inr ⟨k+1,by simp;omega,by rw [ad];omega,af,fun y a0=>?_⟩;rw [vZ] at a0;rcases sj.1 a0 with rfl | a0
      ·exact al
      ·exact aG y a0
theorem Wm {p:List Int→Bool} {l:List (List Int)} (h:∀ x∈l,p x=false):l.filter (fun r=>!p r)=l:=List.filter_eq_self.2 fun x al=>by rw [h x al];rfl
section
variable {id lo g:Nat} {H:List au} {IJ:FuncId} {HA cs:List I} {p:List Int→Bool} {d:List (List Int)}
theorem adm (bD:lo≤id) (aQ:∀ c:au,HA.map (ij (H.set id c))=cs) (Mw:cs.map I.cr=cs) (Cj:cs.all (cq 8)=true) (aZ:d.length≤1000) (av:∀ r∈d,qp IJ (jh r::cs) (B (p r))) (ah:H[id]?=some (.grow (d.map jh) g 1)) :
  Sem Go.Proofs.Tryz.prog (.fn 101) [.cl id g d.length 1,.func IJ [] HA] H lo (.ay ((d.filter fun r=>!p r).map jh) (d.filter fun r=>!p r).length (.uniq 1)) (H.set id .dead):=by
 have aE:=(sa.1 ah).1;refine G_ dH Xf rfl ⟨by simp,fun j ad af=>by rw [si (by omega)]⟩ fun Q bl=>?_;have gs:∀ c:au,(H.set id c)[id]?=some c:=fun c=>by rw [sg aE]
 obtain ⟨O4,fA⟩:∃ O4,O4=H:=⟨H,rfl⟩;rw [show H=O4.set id (.grow (d.map jh) g 1) by rw [fA];exact (ah9 bD ah).symm];rw [←fA] at gs aQ bl;unfold Tt;obtain ⟨m0,GR⟩:∃ c,Oi=c:=⟨_,rfl⟩;rw [GR];conv=>whnf
 subst GR;unfold Oi;obtain ⟨mZ,HQ⟩:∃ c,Oh=c:=⟨_,rfl⟩;rw [HQ];conv=>whnf
 refine ⟨_,_,Pd rfl (aff (aQ _) Mw Cj aZ av (gs _)),?_⟩;conv=>whnf
 subst HQ;unfold Oh;obtain ⟨fO,Hf⟩:∃ c,P3=c:=⟨_,rfl⟩;obtain ⟨b7,hn⟩:∃ c,P2=c:=⟨_,rfl⟩;rw [Hf,hn];rcases W9 p d 0 with ⟨hi,fU⟩ | ⟨k,CE,hi,aeX,fU⟩
 ·rw [hi];conv=>whnf
  refine ⟨_,_,fun C=>VY rfl bD (gs _) (by simp) (X8 _ _),?_⟩;rw [sS];conv=>whnf
  refine bl _ _ _ ⟨.inr rfl,⟨rfl,fun j o aw=>.inr aw⟩,?_⟩;rw [Wm fU];show some (I.ay ((d.map jh).take d.length) d.length (.uniq 1))=_;rw [tG (by simp)]
 ·rw [hi];rw [sP];conv=>whnf
  rw [GY k (by omega)];refine .intro (fun m T H'=>∃ (i j:Nat) (s:List (List Int)),i<j∧j≤d.length∧m=d.length-j∧s.length=d.length∧s.take i=(d.take j).filter (fun r=>!p r)∧s.drop j=d.drop j∧T=GG 42 [(0,.cl id g d.length 1),(1,.func IJ [] HA),(5,hP i),(6,hP j)]∧H'=O4.set id (.grow (s.map jh) g 1)) (d.length-(k+1)) ⟨k,k+1,d,by omega,by omega,rfl,rfl,?_,rfl,rfl,rfl⟩ ?_
  ·rw [tN CE,uP,Wm fU];simp [aeX]
  rintro m T H' ⟨i,j,s,gW,aw,rfl,ai,ax,SH,rfl,rfl⟩;subst hn;unfold P2;obtain ⟨bq,dY⟩:∃ c,Tw=c:=⟨_,rfl⟩;rw [dY];conv=>whnf
  refine It (fun h=>?_) (fun h=>?_)
  ·(have aU:j<d.length:=by omega);have My:s[j]'(by omega)=d[j]:=by
    have:=congrArg (fun l=>l[0]?) SH;simpa [sX,aU,ai] using this
   (conv=>whnf);subst dY;unfold Tw;obtain ⟨bk,b8⟩:∃ c,Tv=c:=⟨_,rfl⟩;rw [b8];(conv=>whnf);refine ⟨by omega,?_⟩;(conv=>whnf);refine DW (gs _) ?_;(conv=>whnf);refine DW (Ur s rfl (by omega)) ?_;rw [My];(conv=>whnf);subst b8;unfold Tv;obtain ⟨a',cb⟩:∃ c,Tu=c:=⟨_,rfl⟩;rw [cb];(conv=>whnf);refine ⟨_,_,call6 (bs:=jh d[j]::cs) ?_ ?_ (av _ (sD aU)) rfl,?_⟩
   ·show (_::HA.map (ij _)).map I.cr=_;rw [aQ,sx,Mw];rfl
   ·show (_::HA.map (ij _)).all (cq 8)=true;rw [aQ];exact pZ (rK (fun _=>rfl) _ _ _) Cj
   (conv=>whnf);have PF:(d.take (j+1)).filter (fun r=>!p r)=(d.take j).filter (fun r=>!p r)++[d[j]].filter (fun r=>!p r):=by
    rw [tN aU,uP]
   cases aC:p d[j] with
   | true =>
     (conv=>whnf);refine ⟨d.length-(j+1),by omega,i,j+1,s,by omega,by omega,rfl,ai,?_,?_,by rw [←GY j (by omega)] <;> rfl,rfl⟩
     ·rw [PF,ax];simp [aC]
     ·have:=congrArg (List.drop 1) SH;simpa [List.drop_drop,tb] using this
   | false =>
     (conv=>whnf);subst cb;unfold Tu;refine Il fun mS G2=>?_;(conv=>whnf);refine ⟨by omega,?_⟩;(conv=>whnf);rw [show Nat.ble lo id=true from uc bD];(conv=>whnf);refine DW (gs _) ?_;(conv=>whnf);refine A_ (by simp;omega) ?_;(conv=>whnf);rw [sS];refine G2 _ _ _ ?_;(conv=>whnf);refine ⟨d.length-(j+1),by omega,i+1,j+1,s.set i d[j],by omega,by omega,rfl,by simpa using ai,?_,?_,by rw [←GY j (by omega),←GY i (by omega)] <;> rfl,?_⟩
     ·rw [PF,←ax,tN (by rw [List.length_set];omega),List.getElem_set_self,List.take_set_of_le (sc _)];simp [aC]
     ·rw [List.drop_set_of_lt (by omega)];have:=congrArg (List.drop 1) SH;simpa [List.drop_drop,tb] using this
     ·rw [show 0+(i:Int).toNat*1=i by simp,uG];rfl
  ·(obtain rfl:j=d.length:=by omega);rw [List.take_length] at ax;(have qJ:i=(d.filter fun r=>!p r).length:=by rw [←ax,sY];omega);(conv=>whnf);subst Hf;unfold P3;obtain ⟨dW,B1⟩:∃ c,Tx=c:=⟨_,rfl⟩;rw [B1];(conv=>whnf);refine ⟨rfl,⟨by omega,by omega⟩,fun aU=>?_,fun heq=>absurd heq (by omega)⟩;(conv=>whnf);refine ⟨_,_,fun C=>(Te rfl).trans (ac7 (e:=38) (z:=.ay [] 0 .full) (by kernel_rfl) (by kernel_rfl) (by kernel_rfl) bD (gs _) (by simp;omega)),?_⟩;rw [sS];(conv=>whnf);subst B1;unfold Tx;(conv=>whnf);refine ⟨⟨by omega,by omega⟩,?_⟩;(conv=>whnf);refine ⟨_,_,fun C=>VY rfl bD (gs _) ?_ ?_,?_⟩
   ·rw [ac8];simp;omega
   ·rw [show 0+(i:Int).toNat*1=(i:Int).toNat by omega,V' (by simp;omega)];exact X8 _ _
   rw [sS];(conv=>whnf);refine bl _ _ _ ⟨.inr rfl,⟨rfl,fun j o aw=>.inr aw⟩,?_⟩;show some (I.ay (List.take (i:Int).toNat _) (i:Int).toNat (.uniq 1))=_;rw [show 0+(i:Int).toNat*1=(i:Int).toNat by omega,V' (by simp;omega),Int.toNat_natCast,←uE,ax,←qJ]
end

theorem W' {α:Type} [Inhabited α] (lt:α→α→Bool) (d:Array α) (a b:Nat):(Sort.insertionSort lt d a b).size=d.size:=by
 have aio:∀ (d:Array α) (i j:Nat),(Sort.swp d i j).size=d.size:=fun d i j=>by simp [Sort.swp]
 have kl:∀ (j:Nat) (d:Array α),(Sort.insInner lt a j d).size=d.size:=fun j=>by
  induction j with
  | zero=>intro d;rfl
  | succ j a_ =>
    intro d;rw [Sort.insInner];split
    ·rw [a_,aio]
    ·rfl
 show (Sort.insOuter lt a b (a+1) d).size=d.size
 have:∀ (n i:Nat) (d:Array α),b-i=n→(Sort.insOuter lt a b i d).size=d.size:=fun n=>by
  induction n with
  | zero=>intro i d h;rw [Sort.insOuter.eq_1,if_neg (by omega)]
  | succ n a_=>intro i d h;rw [Sort.insOuter.eq_1,if_pos (by omega),a_ _ _ (by omega),kl]
 exact this _ _ d rfl
def rY (l:List Int):List Int:=(Sort.insertionSort Sort.ltInt l.toArray 0 l.length).toList
theorem Qg (l:List Int):(rY l).length=l.length:=by
 unfold rY;rw [tw,W'];simp
theorem Yj {H:List au} {id lo n:Nat} (l:List Int) (bD:lo≤id) (ak:l.length≤12) (aN:n=l.length) (ah:H[id]?=some (.cells (l.map hP))) :
  Sem Go.Proofs.Tryz.prog (.fn 73) [.ref id 0 n none 1] H lo (.tuple []) (H.set id (.cells ((rY l).map hP))):=by
 subst aN;have:=aia bD l.toArray (by simpa using ak) (by simpa [I0] using ah);simpa [I0,HL,rY] using this
def HY (l:List (List Int)):List (List Int):=(Sort.insertionSort Hq l.toArray 0 l.length).toList
theorem Uv (l:List (List Int)):(HY l).length=l.length:=by
 unfold HY;rw [tw,W'];simp
def MU (l:List Int):Bool:=!l.isEmpty && decide (0≤ix l 0) && decide (ix l 0≤1000)
theorem ahV {l:List Int} (h:MU l=true):JW l:=by
 simp only [MU,sv,decide_eq_true_eq] at h;exact ⟨by intro e;subst e;simp at h,h.1.2,h.2⟩
theorem aik {H:List au} {id lo n g:Nat} (l:List (List Int)) (bD:lo≤id) (ak:l.length≤12) (aj:l.all MU=true) (aN:n=l.length) (ah:H[id]?=some (.grow (l.map jh) g 1)) :
  Sem Go.Proofs.Tryz.prog (.fn 102) [.ref id 0 n none 1,.func 103 [] []] H lo (.tuple []) (H.set id (.grow ((HY l).map jh) g 1)):=by
 subst aN
 have:=aih bD l.toArray (by simpa using ak) (g:=g) (by simpa [I1] using ah) (fun x al=>by
  have al:x<l.length:=by simpa using al
  have:=sy.1 aj l[x] (sD al);have e:l.toArray[x]! = l[x]:=by simp [al]
  rw [e];exact ahV this)
 simpa [I1,HL,HY] using this
def Lm (f:List Int→Option Bool):List (List Int)→Option (List (List Int))
 | []=>some []
 | r::l=>(f r).bind fun b=>(Lm f l).bind fun l'=>some (if b=true then l' else r::l')
theorem Wd {f:List Int→Option Bool}:∀ {l R:List (List Int)},Lm f l=some R→∃ p:List Int→Bool,(∀ r∈l,f r=some (p r))∧R=l.filter fun r=>!p r
 | l,R,h=>by
   refine ⟨fun r=>(f r).getD false,?_⟩
   induction l generalizing R with
   | nil=>exact ⟨fun r aj=>absurd aj (by simp),(Option.some.inj h).symm⟩
   | cons r l a_ =>
     obtain ⟨b,ag,h⟩:=qa h;obtain ⟨l',dz,h⟩:=qa h;obtain rfl:=Option.some.inj h;obtain ⟨i1,i2⟩:=a_ _ dz;refine ⟨fun x al=>?_,?_⟩
     ·rcases sj.1 al with rfl | al
      ·show f x=some ((f x).getD false);rw [ag];rfl
      ·exact i1 x al
     ·(have e:(f r).getD false=b:=by rw [ag];rfl);rw [List.filter_cons];show _=if (!(f r).getD false)=true then _ else _;rw [e,←i2];cases b <;> rfl
section
variable {id lo g n:Nat} {H:List au} {IJ:FuncId} {HA cs:List I} {f:List Int→Option Bool} {l R:List (List Int)}
theorem adl (h:Lm f l=some R) (bD:lo≤id) (aQ:∀ c:au,HA.map (ij (H.set id c))=cs) (Mw:cs.map I.cr=cs) (Cj:cs.all (cq 8)=true) (aZ:l.length≤1000) (aN:n=l.length) (av:∀ r b,f r=some b→qp IJ (jh r::cs) (B b)) (ah:H[id]?=some (.grow (l.map jh) g 1)) :
  Sem Go.Proofs.Tryz.prog (.fn 101) [.cl id g n 1,.func IJ [] HA] H lo (.ay (R.map jh) R.length (.uniq 1)) (H.set id .dead):=by
 subst aN;obtain ⟨p,aC,rfl⟩:=Wd h;exact adm bD aQ Mw Cj aZ (fun r aj=>av r _ (aC r aj)) ah
end
section
variable {H:List au} {lo:Nat}
theorem afi {F:I}:Sem Go.Proofs.Tryz.prog (.fn 138) [.ay [] 0 .full,hP 0,hP 0,F] H lo (.tuple []) H:=by
 refine G_ dH Xm rfl (ba.refl _ _) fun Q bl=>?_;unfold T1;conv=>whnf
 refine .intro (fun m T H'=>T=GG 53 [(0,.ay [] 0 .full),(1,hP 0),(2,hP 0),(3,F),(8,hP 1)]∧H=H') 0 ⟨rfl,rfl⟩ ?_;rintro m T H' ⟨rfl,rfl⟩;conv=>whnf
 exact bl _ _ _ ⟨.inl rfl,⟨by simp,fun j o aw=>.inr aw⟩,rfl⟩
theorem agG {IU:Int} {k:FuncId} {cap:List I}:Sem Go.Proofs.Tryz.prog (.fn 127) [.ay [] 0 .full,hP 0,hP 0,hP IU,.func k [] cap] H lo (.tuple []) H:=by
 refine G_ dH Xl rfl (ba.refl _ _) fun Q bl=>?_;unfold TW;obtain ⟨Rx,IK⟩:∃ c,Om=c:=⟨_,rfl⟩;rw [IK];conv=>whnf
 refine .intro (fun m T H'=>T=GG 148 [(0,.ay [] 0 .full),(1,hP 0),(2,hP 0),(3,hP IU),(4,.func k [] cap),(10,B true),(11,B true)]∧H'=H) 0 ⟨rfl,rfl⟩ ?_;rintro m T H' ⟨rfl,rfl⟩;subst IK;unfold Om;obtain ⟨a',cb⟩:∃ c,Ol=c:=⟨_,rfl⟩;obtain ⟨Rw,Lq⟩:∃ c,TX=c:=⟨_,rfl⟩;rw [cb,Lq];conv=>whnf
 subst cb;unfold Ol;conv=>whnf
 refine ⟨_,_,G9 afi,?_⟩;conv=>whnf
 exact bl _ _ _ ⟨.inr rfl,⟨rfl,fun j o aw=>.inr aw⟩,rfl⟩
theorem aif {k:FuncId} {cap:List I}:Sem Go.Proofs.Tryz.prog (.fn 102) [.ay [] 0 .full,.func k [] cap] H lo (.tuple []) H:=by
 refine G_ dH Xg rfl (ba.refl _ _) fun Q bl=>?_;unfold Ty;conv=>whnf
 refine ⟨by first | rfl | simp only [tE,uy,MG,MO,MH,MJ,MI,MK,MQ,MP,JA,ML,MM,MN,ue,ux],_,Pb 0 (by decide),?_⟩
 conv=>whnf
 refine ⟨_,_,G9 agG,?_⟩;conv=>whnf
 exact bl _ _ _ ⟨.inl rfl,⟨by simp,fun j o aw=>.inr aw⟩,rfl⟩
theorem afd {k:FuncId} {cap:List I}:Sem Go.Proofs.Tryz.prog (.fn 126) [.ay [] 0 .full,.func k [] cap] H lo (hP (-1)) H:=by
 refine G_ dH Xk rfl (ba.refl _ _) fun Q bl=>?_;unfold TV;conv=>whnf
 refine .intro (fun m T H'=>T=[.ay [] 0 .full,.func k [] cap,ry,ry,ry,ry,ry,hP 0,hP 0,ry,ry,ry,ry,ry,ry,ry,ry,ry,ry]∧H'=H) 0 ⟨rfl,rfl⟩ ?_;rintro m T H' ⟨rfl,rfl⟩;conv=>whnf
 exact bl _ _ _ ⟨.inr rfl,⟨rfl,fun j o aw=>.inr aw⟩,rfl⟩
theorem adk {k:FuncId} {cap:List I}:Sem Go.Proofs.Tryz.prog (.fn 101) [.ay [] 0 .full,.func k [] cap] H lo (.ay [] 0 .full) H:=by
 refine G_ dH Xf rfl (ba.refl _ _) fun Q bl=>?_;unfold Tt;obtain ⟨m0,GR⟩:∃ c,Oi=c:=⟨_,rfl⟩;rw [GR];conv=>whnf
 subst GR;unfold Oi;obtain ⟨mZ,HQ⟩:∃ c,Oh=c:=⟨_,rfl⟩;rw [HQ];conv=>whnf
 refine ⟨_,_,Pd rfl afd,?_⟩;conv=>whnf
 subst HQ;unfold Oh;obtain ⟨fO,Hf⟩:∃ c,P3=c:=⟨_,rfl⟩;obtain ⟨b7,hn⟩:∃ c,P2=c:=⟨_,rfl⟩;rw [Hf,hn];conv=>whnf
 refine ⟨_,_,fun C=>rfl,?_⟩;conv=>whnf
 exact bl _ _ _ ⟨.inr rfl,⟨rfl,fun j o aw=>.inr aw⟩,rfl⟩
end
end Go.Proofs.YtfakoboiahbhaaaGreat.Ab
