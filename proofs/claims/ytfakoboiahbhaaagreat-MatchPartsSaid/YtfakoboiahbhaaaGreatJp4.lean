
import Derived.Test.YtfakoboiahbhaaaGreatJp1
import Derived.Test.YtfakoboiahbhaaaGreatJp3
import Derived.Test.YtfakoboiahbhaaaGreatProg
import Derived.KernelRfl
import Derived.IntWalk
import Derived.ProofKit
import Derived.Deep.Slices
import Derived.ChangeStays
import Derived.Below
import Derived.WalkKit
import Derived.Sort.AssemblyPlain
set_option linter.unusedSimpArgs false
set_option linter.unusedVariables false
set_option linter.unusedSectionVars false

open Array renaming length_toList→tt,size_setIfInBounds→sr
open Bool renaming and_eq_true→r_,and_self→sL,and_true→sN,false_eq_true→tA
open Classical renaming choose_spec→vi
open Int renaming toNat_natCast→ti
open List renaming all_cons→sG,all_eq_true→ss,all_nil→sM,append_assoc→sy,append_nil→sV,drop_eq_getElem_cons→sU,drop_zero→sT,ext_getElem?→tM,filter_append→uF,flatMap_cons→uP,getElem?_append→sg,getElem?_append_left→se,getElem?_append_right→sB,getElem?_eq_getElem→sd,getElem?_eq_none→tO,getElem?_eq_some_iff→rV,getElem?_map→sm,getElem?_set_ne→sa,getElem?_set_self→rY,getElem?_take→sR,getElem_mem→sH,length_append→sj,length_map→sZ,length_pos_iff→uG,length_take→s_,map_append→th,map_congr_left→tB,map_cons→sE,map_drop→uy,map_id→uO,map_map→tq,map_set→ud,map_take→ux,mem_append_left→uR,mem_append_right→vQ,mem_cons→sf,mem_cons_of_mem→tP,mem_cons_self→ui,mem_flatMap→uQ,mem_iff_getElem?→tu,mem_map→sq,mem_range→sx,range_succ→vR,set_getElem_self→tC,set_set→rZ,take_of_length_le→tN,take_succ_cons→vN,take_succ_eq_append_getElem→tW,take_zero→tI
open Nat renaming add_comm→td,add_mul→tp,ble_eq_true_of_le→sX,eq_of_beq_eq_true→sW,le_refl→rX,le_trans→sJ,lt_or_ge→sO,min_eq_left→tL,mul_one→tr,one_mul→vL,sub_zero→vd,zero_add→sP,zero_le→si
open Option renaming bind_some→rW,map_eq_some_iff→rU,map_some→sc
namespace Go.Proofs.YtfakoboiahbhaaaGreat.Ab
open Go
abbrev pW:b7:={ takes:=[true] }
abbrev pY:b7:={ takes:=[true,true] }
def pX (l:List Nat):List b7:=l.map fun n=>match n with
 | 0=>{}
 | 1=>pW
 | _=>pY
def acD:c9:={ ops:=[[{ mode:=3 }]] }
def acG:c9:={ ops:=[[],[],[],[],[],[{},{ mode:=3 },{},{ mode:=3 },pY,pW,pW,pW,pY,{ takes:=[false,true] },pW,pW,pW,pY,{ takes:=[false,true] },pW,pW,pW,pY,{ takes:=[false,true] },pW,{},{},{ mode:=3 },{},{},{ mode:=3 },pY,{ takes:=[false,true] },pW,{ mode:=3 },{ takes:=[false,true] },pW]] }
def VE:c9:={ ops:=[[pW],[{},{ mode:=3 },pW,{},{ mode:=3 },{ takes:=[true,false,true] }],[{ mode:=3 },pW],[{},{},{ mode:=3 },pW,{},pW,pW,pW],[{},pW,{ mode:=3 },pW,{},pW,pW,pW],[{},{ mode:=3 },pW,{},pW,pW,pW],[{},{ mode:=3 },pW,{},pW,pW,pW],[{},{ mode:=3 },pW,{},pW,pW,pW],[{},{ mode:=3 },pW,{},pW,pW,pW],[{},{ mode:=3 },pW,{},pW,pW,pW],[pW,{ mode:=3 },pW,{},pW,pW,pW],[pW,pW,pY,pW,pW,pW,pY,pY,pW,pW,pW,{ mode:=3 },pY,pW,pW,pW,pY,pY,pW,pW,pW,{ mode:=3 },pY,pW,pW,pW,pY,pY,pW,pW,pW,{ mode:=3 },pY,pW,pW,pW,pY,pY,pW,{ mode:=3 },pY,pW]] }
def ac0:c9:={ ops:=[[],[],[],[],[],[],[{},{},pW,{ mode:=3 },{ mode:=3 },pW,{},{},pW,pW],[],[],[],[],[],[],[{},{},{},pY,pW,{ mode:=3 },{ mode:=3 },pW,{},{},pW,pW]] }
def ac1:c9:={ ops:=[[],[],[],[],[],[],[],[],[],[],[],[],[],[],[],[],[],[],[],[pW,pW,pW,{ mode:=3 },{ mode:=3 },pW,{},{},pW,pW]] }
def ac6:c9:={ ops:=[[],[],[],[],[],[],[],[],[],[],[],[{},pW,{},{},pW,pY,pY,{},{ takes:=[false,true] }],[],[],[],[],[{},{},{},pY,pW,{ mode:=3 },pW,{},{},{},pW,pW,pW],[{},{},{},pW,{},pW,pY,pY,pW,{ mode:=3 },pW,{},{},{},pW,pW,pW],[],[],(pX [1,0,0,2,1,2,0,1,1,1,1,2,1])] }
def ab4:c9:={ ops:=[[],[],[],[pW,pW,{},pW,pY,pW,pW,{},pW,pY,pY,{},{ takes:=[false,true] }],[{},pW,{},{},pW,pY,{},pW,pY,pY,{},{ takes:=[false,true] }]] }
def acd:c9:={ ops:=[[],[],[],[],[],[],[],[],[],[],[],[],[],[],[],[],[],[],[],[],[],[],[],[],[{},pW,{ mode:=3 },{ mode:=3 },pW,{},{},{},pW,pW,pW]] }
def ach:c9:={ two:=[(12,8)],ops:=[[{ takes:=[true],mode:=1 }],[{},{ mode:=3 },pW,pW,{},pW,pW,pW,{ takes:=[true,false,true] }],[{ mode:=3 },pW],[{},{ mode:=3 },pW,{},pW,pW,pW],[{},{ mode:=3 },pW,{},pW,pW,pW],(pX [1,1,0,1,1,2,1]),[],[],(pX [0,0,1,1,2]),(pX [1,1,1]),(pX [0,0,2]),(pX [1,0,1,2,1]),[{},pW,{ mode:=3 },{},{ takes:=[true],mode:=3 },{},pY,{ takes:=[true],mode:=3 },{},{},{ takes:=[false,true] },{ takes:=[false,true] }],[{},{},pW,{},pW,{ mode:=3 },pW,{},pW,pW,pW],[pW,{ mode:=3 },pW,{},pW,pW,pW],[{},{ mode:=3 },pW,{},pW,pW,pW],[pW,pW,pW,pW,pW,pW,{},pW,pW,pY,{ takes:=[true,false,true] },pW,pW,pW,{ takes:=[true,false,true] },pW,pW,pW,{ takes:=[true,false,true] }],[],(pX [0,1,0,1,2]),[pW,pW,pW,pW,pW,{ mode:=3 },pW,pY,pW,{ mode:=3 },pY,pW],[pW,pW,{ mode:=3 },{},pW,pY,pW,{},pW,pW,{},pW,pY,{ takes:=[true,false,true] }],[],[pW,pW],[pW,pW,{ mode:=3 },pW,{},{},pW,pW,pW,pW],[pW,pW,pW,pW,pW,pW,pW,pY,pY,pW,{ mode:=3 },pY,pW],[pW,{ mode:=3 },pW],[pW,pW,pW,pW,pY,pW,{},{},pW,pY,pW,pW,{ takes:=[true,false,true] },pW,pW,pW,pW,pY,pW,pW,{ takes:=[true,false,true] },pW,{ mode:=3 },pY,pW]],h_:=[(0,(EA false [2,1,2,2,1,4,175]))] }
def acn:c9:={ ops:=[[],[],[],(pX [1,1,0,1,2,1,1,0,1,2,1,1]),[],[],[],[],[],[{},pW,pY,pW,{},pW,pW,pW,pY,{ takes:=[false,false,true] },pW,{},pW,{},pW,pY,{ takes:=[false,false,true] },pW,{},pW,{},{},pY,pW,{},{},pY,pW,pY,pY,{ takes:=[false,false,true] }],[],[],[],[],[],[],[],[],[],[],[],[{},{},{},pY,pW,{ mode:=3 },pW]] }
def acr:c9:={ ops:=[[],[],[],[{},pW,{},pW,pY,{},{},pW,pY,pY,{},{ takes:=[false,true] }],[],[],[],[{},{ takes:=[true],mode:=1 },{},pW,{},pY,pW,pW,{},pW,pY,{},pW,{},pY,pW,pW,{},pW,pY,pY,pW,pY,{},pY]] }
def acA:c9:={ ops:=[[],[{ mode:=3 },{ mode:=3 },{ mode:=3 },{},{},{},{ takes:=[false,true] },{ takes:=[false,true] },{ takes:=[false,true] }],[{},{},{ mode:=3 },{ mode:=3 },pW,{},{},{},pW,pW,pW],[{},{},{ mode:=3 },{ mode:=3 },pW],[{},{ mode:=3 },pW,{},pW,pW,pW],[{},{ mode:=3 },pW,{},pW,pW,pW],[{},{ mode:=3 },pW,{},pW,pW,pW],[{},{ mode:=3 },pW,{},pW,pW,pW],[{},{ mode:=3 },pW,{},pW,pW,pW],[{},{ mode:=3 },pW,{},pW,pW,pW],[{},{ mode:=3 },pW,{},pW,pW,pW],[{},{ mode:=3 },pW,{},pW,pW,pW],[pW,{ mode:=3 },pW,{},pW,pW,pW],[pW,{ mode:=3 },pW,{},pW,pW,pW],[pW,pW,pW,pW,pW,pY,pW,pW,pW,pY,pW,pW,pW,pY,pW,pW,pW,pY,pW,pW,{},{ mode:=3 },{ mode:=3 },pY,pW,pW,pW,pY,pW,pW,{},{ mode:=3 },pW,{ mode:=3 },{ mode:=3 },pY,pW,pW,pW,pY,pW,pW,pW,pY,pW,pW,pW,pY,pW,pW,pW,pY,pW,pW,pW,pY,pW,pW,pW,pY,pW,pW,pW,pY,pW,pW,pW,pY,pW,pW,pW,pY,pW,pW,{},{ mode:=3 },{ mode:=3 },pY,pW,pW,pW,pY,pW,pW,{},{ mode:=3 },{ mode:=3 },pY,pW,pW,pW,pY,pW,pW,pW,pW,pY,pW,pW,pW,pY,pW,pW,{},{ mode:=3 },{ mode:=3 },pY,pW,pW,{ mode:=3 },pW,pY,pW,{ mode:=3 },pY,pW]] }
def Vx:c9:={ ops:=[[pW],(pX [1,1,1,1,1])] }
def acC:c9:={ ops:=[[],[{ mode:=3 },{ mode:=3 },{ mode:=3 },{},{},{},{ takes:=[false,true] },{ takes:=[false,true] },{ takes:=[false,true] }],[{},{},{ mode:=3 },{ mode:=3 },pW,{},{},{},pW,pW,pW],[{},{},{ mode:=3 },{ mode:=3 },pW,{},{},{},pW,pW,pW],[{},{},{ mode:=3 },{ mode:=3 },pW,{},{},{},pW,pW,pW],[{},{},{ mode:=3 },{ mode:=3 },pW,{},{},{},pW,pW,pW],[{},{ mode:=3 },pW,{},{},pW,pW,pW,pW],[{},{},{ mode:=3 },{},{ mode:=3 },pY,{ mode:=3 },{ mode:=3 },pW,{},{},pW,pW],[{},{},{ mode:=3 },pW,{ mode:=3 },{ mode:=3 },pW,{},{},pW,pW],[{},{},{ mode:=3 },{},{ mode:=3 },pY,{ mode:=3 },{ mode:=3 },pW,{},{},pW,pW],[{},{},{ mode:=3 },{ mode:=3 },{},{},{ mode:=3 },{ mode:=3 },pW,pW],[{},{ mode:=3 },pW,{},pW,pW,pW],[{},{ mode:=3 },pW,{},pW,pW,pW],[{},{ mode:=3 },pW,{},pW,pW,pW],[{},{ mode:=3 },pW,{},pW,pW,pW],[{},{ mode:=3 },pW,{},pW,pW,pW],[{},{ mode:=3 },pW,{},pW,pW,pW],[{},{ mode:=3 },pW,{},pW,pW,pW],[{},{ mode:=3 },pW,{},pW,pW,pW],[{},{ mode:=3 },pW,{},pW,pW,pW],[{},{ mode:=3 },pW,{},pW,pW,pW],[{},{ mode:=3 },pW,{},pW,pW,pW],[pW,{ mode:=3 },pW,{},pW,pW,pW],[{},{ mode:=3 },pW,{},pW,pW,pW],[pW,pW,pW,pW,pW,{ takes:=[true,false,true] },pW,pW,pW,{ takes:=[true,false,true] },pW,pW,pW,{ takes:=[true,false,true] },pW,pW,pW,{ takes:=[true,false,true] },pW,pW,pW,{ takes:=[true,false,true] },pW,pW,pW,{ takes:=[true,false,true] },pW,pW,pW,{ takes:=[true,false,true] },pW,pW,pW,{ takes:=[true,false,true] },pW,pW,pW,{ takes:=[true,false,true] },pW,pW,pW,{ takes:=[true,false,true] },pW,pW,pW,{ takes:=[true,false,true] },pW,pW,pW,{ takes:=[true,false,true] },pW,pW,pW,{ takes:=[true,false,true] },pW,pW,pW,{ takes:=[true,false,true] },pW,pW,pW,{ takes:=[true,false,true] },pW,pW,pW,{ takes:=[true,false,true] },pW,pW,pW,{ takes:=[true,false,true] },pW,pW,pW,{ takes:=[true,false,true] },pW,pW,pW,{ takes:=[true,false,true] },pW,pW,pW,{ takes:=[true,false,true] },pW,pW,pW,{ takes:=[true,false,true] },pW,pW,pW,{ takes:=[true,false,true] }],[],[pW,pW,pW,pW,pW,{ takes:=[true,false,true] },pW,pW,pW,{ takes:=[true,false,true] },pW,pW,{},{ mode:=3 },{ mode:=3 },pW,{ takes:=[true,false,true] },pW,pW,{},{ mode:=3 },{},{ mode:=3 },{},{ mode:=3 },{ takes:=[true,true,true] },{ mode:=3 },{ mode:=3 },pW,{ takes:=[true,false,true] },pW,pW,pW,{ takes:=[true,false,true] },pW,pW,{},{ mode:=3 },{ mode:=3 },pW,{ takes:=[true,false,true] },pW,pW,pW,{ takes:=[true,false,true] },pW,pW,{},{ mode:=3 },{ mode:=3 },pW,{ takes:=[true,false,true] },pW,pW,{},{ mode:=3 },{ mode:=3 },pW,{ takes:=[true,false,true] }],[],[pW,pW,{ mode:=3 },pW,{},pW,pW,pW],[pW,pW,pW,pW,pW,pY,pW,pW,pW,{ mode:=3 },pW,pY,pW]] }
def Ng:c9:={ ops:=[[pW],[{},{ mode:=3 },pW,{},pW,pW,pW],[pW,pW],(pX [0,1,1]),(pX [1,0,0,1]),(pX [0,1,1,1]),[],[{},pW,{ mode:=6 },pW],[],[],[{},pW],[],[],[{},pW,{},{ takes:=[false,true] }],[{},pW,{ takes:=[false,true] },pW,pW],[],[pW,pW,{ takes:=[false,true] },pW],[pW,pW],[{},{},pW,pW,{ mode:=3 },pW,{},pW,pW,pW],[{},pW],[pW],[],[{},pW,{},{ takes:=[false,true] }],[{},pW,{ mode:=3 },pW,{},pW,pW,pW],(pX [1,1,2]),[],[pW,pW],[pW,pW],(pX [1,1,1,1])],h_:=[(1,(EA false [1,1,5,1,2,1,28,3,40])),(3,(EA false [7,1,5,1,1,1,47,3,16]))] }
def Nh:c9:={ ops:=[[pW],[{},{ mode:=3 },pW],[pW,{ mode:=3 },{},{},pW],(pX [0,1,1]),[{},pW],[],[],(pX [0,0,2]),(pX [1,1,1]),[{},{},pY,pW,pW,pW,pW,{},{},pY,pW,pW,{},pW,pW,pY,{ takes:=[false,false,true] },pW,{},{},pY,pW,pW,pW,{ takes:=[false,false,true] },pW,{},{},pY,pW,pW,pW,{ takes:=[false,false,true] }],[],[],(pX [0,0,2]),(pX [1,1,1]),[{},{},pY,{},{},pY,pW,pW,{ mode:=3 }],[],[],(pX [0,0,2]),(pX [1,1,1]),[{},{},{},pW,pY,pW,{ mode:=3 },{},{},{},pY,pW,{ mode:=3 },pY],[],[{},{},pW,pW,{ mode:=3 },{},{},pW,pW,pY,pW,{ mode:=3 },pW,pW]],h_:=[(0,(EA false [1,2,4,2,94])),(2,(EA false [1,2,4,1,1,1,93])),(4,(EA false [1,2,4,1,2,1,92]))] }
def Vy:c9:={ ops:=[[pW],[{},pW],[{},pW,pW,{ mode:=3 },pW,pW,{},pW,pW,pW,{ takes:=[true,false,true] },pW],[],[pW,pW,pW,{ mode:=6 },pW],[],[]] }
def Rh:c9:={ ops:=[[pW],[{},pW,pW,pW,{},pW,pW,{ takes:=[true,false,true] },pW,{},pW,pW,pW,{ takes:=[true,false,true] }],[],[],(pX [0,0,1,1,2]),(pX [1,1,1]),[{},pW,{},pY,pW,{},{ takes:=[false,true] }],[{},pW,pW,pW,{},pW,{},pW,pY,{ takes:=[true,false,true] },pW,{},pW,pW,{ takes:=[true,false,true] },pW,pW,pW,{},pW,pY,{ takes:=[true,false,true] }],[],[]],h_:=[(0,(EA false [1,1,1,1,49]))] }
def acE:c9:={ ops:=[[pW],[{},{},{ mode:=3 },pW,{},{},pW,pW,pW,pW],(pX [0,1,1]),[pW,pW],(pX [1,1,1,1,1,2,1]),[],(pX [1,1,2,1]),[],[]] }
def acF:c9:={ ops:=[[pW],[{},{},{ mode:=3 },pW,{},{},pW,pW,pW,pW],[{},pW],[pW,pW],(pX [1,1,1,1,1,2]),[],(pX [1,1,2]),[],[]] }
def Ri:c9:={ ops:=[[],(pX [0,1,1]),[],(pX [0,0,1,2]),(pX [1,1,1]),(pX [1,0,0,2,1,1,2,1]),(pX [1,1,1])],h_:=[(0,(EA false [0,1,2,2,17]))] }
def Vz:c9:={ ops:=[[pW],[{},{ mode:=3 },pW],[{},pW],(pX [1,0,1]),[],[],[],(pX [0,1,1]),[{},{},{ mode:=3 },pW,{},{},pW,pW,pW,pW],[{},pW],(pX [1,0,1]),[pW],[],[{},pW,{},{ takes:=[false,true] }],[{},{},pW,{},pW,{ takes:=[true,true,true] },pW,pW,pW,pY,pW],[pW,pW],[pW,pW],[{ takes:=[true],mode:=1 },{ takes:=[false,true],mode:=1 }],[{},{},{ takes:=[false,true],mode:=1 },pW,{},pW,pY,pW],[],(pX [1,1,1,1,1,2,1]),[],(pX [1,1,1])],h_:=[(0,(EA false [1,2,4,1,12,3,50])),(2,(EA false [1,2,4,1,12,3,13,3,34]))] }
def O0:c9:={ ops:=[[pW],[{},{ mode:=3 },pW],[pW,{ mode:=3 },{},pW],[],[],(pX [0,0,1,2]),(pX [1,1,1]),[{},{},{},pY,pW,{ mode:=3 },pW,{},{},{},pW,pW,pW],[{},pW],(pX [1,0,1]),(pX [1,0,0,2,1,2,1]),[],(pX [0,0,1,2]),(pX [1,1,1]),[{},{},pY,{},{},pY,pW,pW,{ mode:=3 }],[],(pX [1,1,1,1,1,2]),[],(pX [1,1,1])],h_:=[(0,(EA false [1,2,3,2,57])),(2,(EA false [1,2,3,1,4,1,53]))] }
def VA:c9:={ ops:=[[pW],[pW,{ mode:=3 },pW,{},pW,pW,pW],[{},pW],(pX [1,0,1]),[{},pW,{ mode:=3 },{ mode:=3 },pW],[{},pW,{ takes:=[false,true] },pW],(pX [0,1,2]),[pW,pW]] }
def VB:c9:={ ops:=[[pW],[{},{ mode:=3 },pW],[pW,{ mode:=3 },{},pW],[pW,{ mode:=3 },pW]] }
def VC:c9:={ ops:=[[pW],[pW,{ mode:=3 },pW,{},pW,pW,pW],[{},pW],(pX [1,0,1]),[{},pW,{ mode:=3 },{ mode:=3 },pW]] }
def VD:c9:={ ops:=[[pW],[{},{ mode:=3 },pW],[pW,{ mode:=3 },{},pW],[pW,{ mode:=3 },pW]] }
def O1:c9:={ ops:=[[pW],[{},{ mode:=3 },pW,{},pW,pW,pW],[{},pW],(pX [1,0,1]),[],[pW,pW],[],[{},{},pW,{},pW,{ takes:=[false,true] }],[{},{},pW,{},{ mode:=3 },{},{ takes:=[false,true] }],(pX [1,1,2,1,1]),(pX [1,1,1,2,1]),[pW,pW],[pW,pW]],h_:=[(0,(EA false [4,1,1,1,12,3,20]))] }
def Rj:c9:={ ops:=[[pW],[{},{ mode:=3 },pW],[pW,{ mode:=3 },{},pW],[],[],(pX [0,0,1,1,2]),(pX [1,1,1]),[{},{},{ mode:=3 }],(pX [1,0,1,2,1]),[pW,pW]],h_:=[(0,(EA false [1,1,2,2,20]))] }
def Rk:c9:={ ops:=[[],(pX [0,1,0,1,2]),[],[],(pX [0,0,1,2]),(pX [1,1,1]),(pX [0,0,2,1,0,0,2,1,2]),[],[]],h_:=[(0,(EA false [0,2,3,1,20]))] }
def Rl:c9:={ ops:=[[],(pX [0,1,0,1,2]),[],[],(pX [0,0,1,2]),(pX [1,1,1]),[{},{},pY,pW,{},{},pY,pW,{ mode:=3 },pW],[],[]],h_:=[(0,(EA false [0,2,3,1,21]))] }
def acH:c9:={ ops:=[[pW],[pW,{ mode:=3 },pW,{},pW,pW,pW],[{},pW],(pX [1,0,1]),[pW,{ mode:=3 },pW,pW]] }
def acI:c9:={ ops:=[[pW],[{},{ mode:=3 },pW,{},pW,pW,pW],(pX [0,1,1]),(pX [1,0,1]),(pX [1,1,1,1,1]),[],[{},{ mode:=3 },pW,pW,pW],[],[pW,{ mode:=3 },pW]] }
def acJ:c9:={ ops:=[[],[],[],[],[],[],[],[],[],[],[],[],[],[],[],[],[],[],[],[{},pW,pW,pW,{},pW,pW,{},{},{},{ mode:=3 },pY,{ takes:=[false,false,true] },{ takes:=[false,true] },pW,{},{},{},pW,{ mode:=3 },{},{},{ mode:=3 },{ mode:=3 },{ takes:=[false,true] }],[],[],[],[pW,{},pW,pW,pW,pY,pW,{},pW,pW,pW,{ mode:=3 },{},{},pW,pW,{ mode:=3 },pW,pW,pW]] }
def acK:c9:={ ops:=[[pW],[{},{ mode:=3 },pW,{},pW,pW,pW],[pW,pW],[],[pW,{ mode:=3 },{},pW,pW,pW]] }
def acL:c9:={ ops:=[[pW],[pW,{ mode:=3 },pW,{},pW,pW,pW],[{},pW],(pX [1,0,1]),[pW,{ mode:=3 },pW]] }
def acM:c9:={ ops:=[[pW],[{},{ mode:=3 },pW,{},pW,pW,pW],[{},pW],(pX [1,0,1]),[pW,{},{ mode:=3 },pW],[],[pW,pW]] }
def acN:c9:={ ops:=[[],(pX [0,1,0,1,2]),[],[],(pX [0,0,1,2]),(pX [1,1,1]),(pX [0,0,2,1,0,0,2,1,2]),[],[]],h_:=[(0,(EA false [0,2,3,1,20]))] }
def acO:c9:={ ops:=[[pW,pW],[{},{ mode:=3 },pW,{},pW,{},{ takes:=[false,true] },pW],(pX [0,1,1]),(pX [1,0,1]),[pW,pW,pW,{},{},pY,{ mode:=3 },pW,pW,{},{},pY,{ takes:=[true,false,true] },pW],[],[{},{},{ mode:=3 },{},{ takes:=[false,true] }],[{},{ takes:=[false,true] },pW,pW],[],[{ mode:=1 }],(pX [0,0,2]),[{},{},{ mode:=3 }],[{},{ takes:=[false,true] }],[pW,{},{ mode:=3 },pW,{},pW,pW,pW],[{},{ takes:=[false,true] },pW,{},{ takes:=[false,true] },pW,pW,pY],[{ mode:=1 },pW,pW,pY,pW,pY,pY],[pW,pW]],h_:=[(1,(EA false [2,1,1,1,3,1,1,2,60]))] }
def acP:c9:={ ops:=[[],[],[],[],[],[],[],[],[],[],[],[],[],[],[{},{},{ mode:=3 },pW,pW,{},pW,pW,pW,{},{},{},pW,pW,pY,pW,{ mode:=3 },{},{},{ mode:=3 },pY,{ takes:=[false,false,true] },{ takes:=[false,true] }],[],[],[],[],[],[],(pX [1,0,0,2,1,1,2,1,0,0,2,1,1,2,1,1])] }
def acQ:c9:={ ops:=[[],[],[],[],[],[{},{ takes:=[true],mode:=1 },{},pW,{},{},pY,pW,pY,pW,pW,pY,{},pY]] }
def acR:c9:={ ops:=[[],[pW,pW]] }
def acS:c9:={ ops:=[[],[],[],[],[],[pW,{},{},pY,pW,pW,{},{},pY,pW,pW,{ takes:=[false,true] },pY,pW,pY,pW]] }
def Rm:c9:={ ops:=[[pW],[{},pW,{ takes:=[false,true] },pW],[],(pX [0,0,1,1,2]),(pX [1,1,1]),(pX [0,0,1,0,2,1,1,0,1,1,2,2]),(pX [0,0,1,0,2,1,1,0,1,1,2,2]),[pW,pW]],h_:=[(0,(EA false [1,1,1,2,33]))] }
def acT:c9:={ ops:=[[],[],[],[],[],[],[],[],[],[],[],[],(pX [0,1,0,2,1,1,0,1,0,2,1,1,1,1]),[],(pX [0,0,2,1,0,0,2,1,2,1])] }
def VF:c9:={ ops:=[[pW,pW],(pX [0,1,1]),(pX [1,1,1,1,2,1,1,1]),(pX [1,1,1,1,2,1,1,1])] }
def acU:c9:={ ops:=[[],[{},{ mode:=3 },{ takes:=[false,true] }]] }
def acV:c9:={ ops:=[[],[{},{ mode:=3 },{ takes:=[false,true] }]] }
def acW:c9:={ ops:=[[],[{},{ mode:=3 },{ takes:=[false,true] }]] }
def acX:c9:={ ops:=[[],[],[],(pX [0,1,0,1,2]),(pX [1,1,1]),(pX [1,0,0,2,1,0,0,1,2,1,2,1,2,1]),[pW,pW]],h_:=[(0,(EA false [0,1,2,2,21]))] }
def acY:c9:={ ops:=[[],[pW,pW]] }
def acZ:c9:={ ops:=[[],[pW,pW]] }
def VG:c9:={ ops:=[[pW],[{},{ mode:=3 },pW],[{},pW],(pX [1,0,1]),[pW,pW,{ takes:=[true],mode:=1 },pW]] }
def VH:c9:={ ops:=[[pW],[pW,pW,pW,pW,{},pW,pW,{ mode:=3 },pW,pW,pW,pW,pW,{ mode:=3 },pW,{ takes:=[true,false,true] },pW]] }
def VI:c9:={ ops:=[[pW,pW],[pW,pY,{ mode:=6 },pW,pW]] }
def VJ:c9:={ ops:=[[],[pW,pW,{ mode:=6 },pW,pW]] }
def VK:c9:={ ops:=[[pW],[pW,pW,pW,pW,pW,{},pW,pY,pW,{},{ takes:=[false,true] }],(pX [1,1,1]),(pX [0,1,0,1,1,1]),(pX [0,1,0,1,1,1])] }
def Rn:c9:={ ops:=[[],[],(pX [0,0,1,2]),(pX [1,1,1]),(pX [0,0,2,1,1,0,2]),[],[]],h_:=[(0,(EA false [0,2,3,1,13]))] }
def VL:c9:={ ops:=[[pW,pW],(pX [0,1,1]),(pX [1,1,1,1,2,1,1,1]),(pX [1,1,1,1,2,1,1,1])] }
def VM:c9:={ ops:=[[pW],[pW,pW,pW,{},pW,pW,pW,pY,{ mode:=3 },pW,pW]] }
def VN:c9:={ ops:=[[],[pW,pW,{ mode:=6 },pW,pW]] }
def VO:c9:={ ops:=[(pX [0,1,1]),[pW,{},pW,pW,{ mode:=3 },{ takes:=[false,true,false,true,true],mode:=1 }]] }
def Ro:c9:={ ops:=[[],[{ takes:=[true],mode:=1 },pW,pW],[pW,pW],[],(pX [0,0,1,2]),(pX [1,1,1]),(pX [0,0,2,1,0,0,1,2,1,2]),(pX [0,0,2,1]),[],(pX [0,0,1,2]),(pX [1,1,1]),(pX [0,0,2,1,0,0,1,2,1,2]),(pX [0,0,0,0,2,1,2,2]),(pX [1,1,1]),(pX [0,0,2,1]),(pX [1,1,2,1]),[pW,pW]],h_:=[(0,(EA false [0,1,2,1,57])),(2,(EA false [0,1,2,3,55]))] }
def VP:c9:={ ops:=[[],[{},pW],[],(pX [0,1,2,1])] }
def O3:c9:={ ops:=[[],[],[pW],[],(pX [0,1,1]),[{},pW,pW,pW,pW,{},pY,pW,pW,{},pW,pW,{ takes:=[false,true] },pY],[{},pW,pW,pW,pW,pW,pY,pW,pW,{},pW,pW,{ takes:=[false,true] },pY],[pW,pW],(pX [0,0,2]),[],[],[pW],[],(pX [0,0,1,1]),(pX [1,1,1]),[{},{},pW,pW,pW,{ takes:=[true,true,true] },pW,pW,pY,pW],[pW,pW],[pW,pW]],h_:=[(0,(EA false [0,1,4,1,5,3,52])),(2,(EA false [8,1,38,2,17]))] }
def Rp:c9:={ ops:=[[],[],(pX [1,1,1,1,1,1]),[],[{},pW],(pX [1,1,1,2,1]),[pW,pW],[pW,pW]],h_:=[(0,(EA false [3,1,6,2,8]))] }
def Rq:c9:={ ops:=[[pW],[],[pW,{ mode:=3 },pW],[],(pX [0,0,1,2]),(pX [1,1,1]),(pX [0,0,2,1,1,1]),(pX [1,0,1,2,1]),[pW,pW]],h_:=[(0,(EA false [3,3,19]))] }
def Mz:c9:={ ops:=[[pW],[{ takes:=[true],mode:=1 }],[pW],[],[{},pW,{},{ takes:=[false,true] }],[{},pW],(pX [1,1,1]),[],[],(pX [0,1,1]),[{},{},{ mode:=6 }],(pX [1,1,2,1]),[pW,pW],[{ takes:=[true],mode:=1 },{ takes:=[false,true],mode:=1 }],[pW,pW,{ takes:=[false,true,true],mode:=1 },{ takes:=[true],mode:=2 },pW,{ takes:=[true,true],mode:=1 },pW],[pW,pW],[{},{ takes:=[false,true],mode:=1 }],[{ takes:=[true],mode:=2 },pW]],h_:=[(0,(EA false [2,1,2,1,6,3,31])),(2,(EA false [2,1,2,1,2,2,2,3,6,3,22]))] }
def ac2:c9:={ ops:=[[],[],[],[],[],[],[],[],[],[],[],(pX [0,0,2,1,0,0,1,0,2,1,1,2,1,2])] }
def Ik:c9:={ ops:=[[pW,pW],[],[],[],[{},pW],[pW,{ takes:=[false,true] },pW],[pW,pW],[{},{ takes:=[false,true] },pW],[pW,pW,{},{ takes:=[false,true] }],(pX [0,1,1]),[{},pW,pW,{},{ takes:=[false,true] }],[{ mode:=1 },pW,{ takes:=[false,true] }],[{},{},{ mode:=3 }],[{},{ takes:=[false,true] }],[pW,{},{ mode:=3 },pW,{},pW,pW,pW],[pW,pW,pW,pY,pW,{},{ takes:=[false,true] },pW,pW,pY],[{},pW,{ takes:=[false,true] },pW,pW,pY,pY],[{ mode:=1 },pW,pW,pY,pY],[pW,{ takes:=[false,true] }]],h_:=[(0,(EA false [1,1,1,1,1,3,6,1,48])),(2,(EA false [3,1,1,3,1,1,53]))] }
def VQ:c9:={ ops:=[[pW],[{},{},{ mode:=3 },pW],(pX [0,0,1,0,2,1,1,2,1,0,0,1,0,2,1,1,2,1,2,1])] }
def ac3:c9:={ ops:=[[],[],[{},{},{ mode:=3 },{ mode:=3 }],[],[{},pW,{},{ takes:=[false,true] }],[{},pW,pW,pW,pW,pW,pW,{},{ takes:=[false,true] }],[],[],(pX [0,1,1]),[{},pW,{ takes:=[true],mode:=1 },{},pW,pW,pW,pW,pW,pY,pW,pW,pY,{},pW,pY],[pW,pW],[{},{},{ mode:=3 },pW],[],(pX [0,1,0,1,2]),(pX [1,1,1]),[{},pW,{ takes:=[true],mode:=1 },{},{},pY,pW,{},{},pW,pY,pW,pY,pW,pY,{},pW,pY],[{ mode:=7 },pW],[{},{},{ mode:=6 },pW],[{},pW],[{},{},pW,pY,{},{},pW,pY,pY,{ mode:=3 },pW],[],[pW],[],[{},pW,{},{ takes:=[false,true] }],(pX [0,1,0,1,2]),(pX [1,0,0,1,2,1,0,1,2,1,2,1]),(pX [1,1,1,2,1]),[pW,pW],(pX [0,1,1]),(pX [1,1,1,2,1]),[pW,pW],[pW,pW]],h_:=[(0,(EA false [0,1,2,1,15,3,111])),(2,(EA false [0,1,2,1,1,2,12,3,10,3,98])),(4,(EA false [0,1,2,1,1,2,2,2,8,3,111])),(6,(EA false [0,1,2,1,1,1,7,1,5,3,75,3,33]))] }
def ac4:c9:={ ops:=[[],[],[],[],[],[],[pW,{},{},{},pY,pW,{ mode:=3 },{ mode:=3 },pW,pW,{ takes:=[false,true] },pY,pW]] }
def ac5:c9:={ ops:=[[],[],[{},{ mode:=3 },{ takes:=[true],mode:=1 }],[],(pX [0,1,1]),[],[],[],[{},pW,{},{ takes:=[false,true] }],[{},{},{},{ takes:=[false,true,true],mode:=1 },{ takes:=[true],mode:=2 }],[],[],[{},pW],[{},pW,pY,{},{ takes:=[false,true] }],[{},{},{ mode:=3 },pW,{},pW,pW,pW],[{},pW,pW,pW,{},pY,{ takes:=[true,false,true] },pW,{},{},pW,{ mode:=3 },pY],(pX [1,1,1,2,1]),[pW,pW],[pW,pW],(pX [0,1,1]),[pW,pW],[pW,{ mode:=3 },{},{ takes:=[false,true] }],(pX [1,0,1,2,1]),[pW,{},{ takes:=[false,true,true],mode:=1 },pW],[{},pW,{ mode:=3 },pW,{},pW,pW],[pW,pW]],h_:=[(0,(EA false [0,1,2,3,75])),(2,(EA false [0,1,2,4,13,3,58])),(4,(EA false [0,1,2,4,1,2,10,3,7,1,50]))] }
def VR:c9:={ ops:=[[pW,pW],[pY,pW]] }
def ac7:c9:={ ops:=[[],[],[],[],[],[],[],[],[],[],[],[{},{},{},pY,{},pW,pY,{},{},{ mode:=3 },{},{},pW,{ mode:=3 },pW,{},{},pW,pW]] }
def ac8:c9:={ ops:=[[],[pW,pW,{},{ takes:=[false,true] }],[],(pX [0,1,0,1,2]),(pX [1,1,1]),[{},{ takes:=[true],mode:=1 },{},{},pY,pW,{},{},pW,pY,pW,pY,pW,pY,{},pY],[pW,{ takes:=[false,true] }]],h_:=[(0,(EA false [1,1,2,3,25]))] }
def VS:c9:={ ops:=[[],[pW,pW,{ mode:=6 },pW,pW]] }
def VT:c9:={ ops:=[[],[{},pW,pY,pW,pW,pW,pY,{ takes:=[true,false,true] },pW]] }
def Rr:c9:={ ops:=[[],[{},pW],[],[{},pW],[{},{},{},pY,pW,{ mode:=6 }],[pW,pW],[pW,pW],[]],h_:=[(0,(EA false [0,2,5,2,10]))] }
def Rs:c9:={ ops:=[[],[{},pW],[],[{},pW],[{},{},{},pY,pW,{ mode:=6 }],[pW,pW],[pW,pW],[]],h_:=[(0,(EA false [0,2,5,2,10]))] }
def MA:c9:={ ops:=[[],[],(pX [0,0,2,1]),[{},pW],[pW,pW,pW,{ takes:=[false,true,true,true],mode:=1 }],[{},pW],[pW,pW,pW,{ takes:=[false,true,true,true],mode:=1 }],[{},pW],[{},{},{},{ takes:=[false,true,true,true],mode:=1 }],(pX [1,1,1]),[{},{},{},{ takes:=[false,true,true,true],mode:=1 },pW,{},pW,pW,pW],[{},pW],[{},{},{},{ takes:=[false,true,true,true],mode:=1 }],(pX [0,1,1,0,2,2,1]),[],(pX [0,1,0,2,1,1,1,2]),[{},{},{},{ takes:=[false,true,true,true],mode:=1 }],[{},pW,pW,{},{},pW,pY,pW,{},{},pY,pW,{ mode:=3 },pW,{ takes:=[false,true] }],[{},pW,{},pW,{ takes:=[false,true,true,true,true],mode:=1 },pW],[pW,pW],[{},{},{},pW,{ takes:=[false,true,true,true,true],mode:=1 },pW,{},pW,pW,pW],[pW,pW],(pX [0,0,2,0,0,2,1,1]),(pX [1,1,1]),(pX [0,0,2]),(pX [1,1,2,1]),[{},pW,{},{},{ takes:=[false,true,true,true,true],mode:=1 }],(pX [1,1,1]),(pX [1,1,2,1]),[{},{},pW,pW,{},{ takes:=[false,true,true,true,true],mode:=1 }],[pW,pW]],h_:=[(0,(EA false [0,4,4,2,124]))] }
def ac9:c9:={ ops:=[[],[pW,pW,{ mode:=3 },pW],[pW,{ mode:=3 },pW]] }
def VU:c9:={ ops:=[[],[pW,pY,{ mode:=6 },pW]] }
def VV:c9:={ ops:=[[],[pW,pW,pW,{ mode:=3 },pW]] }
def Vd:c9:={ bad:=true,ops:=[[],[{},pW,pW,pW,pW,pW,pY,pW,{},pW,pW,pW,{ takes:=[true],mode:=3 },pW,pY,{ takes:=[true],mode:=3 },{},{},{ takes:=[false,true] },{ takes:=[false,true] }],[{},pW,{},pW,pY,pW,{},pW,{},pW,pY,{ takes:=[true,false,true] },pW,{},pW,{},pW,pY,{ takes:=[true,false,true] },pW,pW,pW,pW,pW,pY,{ takes:=[true,false,true] },pW]] }
def ab5:c9:={ ops:=[[],(pX [0,0,0,1]),[{},pW],[pW,{ takes:=[true],mode:=4 }],(pX [0,1,1]),(pX [0,0,1,2]),(pX [1,1,1]),(pX [0,0,2,1,1]),(pX [0,0,0,1]),(pX [0,0,1,2,2]),(pX [1,1,1]),(pX [0,0,2,1]),[pW,pW,pY,{ takes:=[true],mode:=4 }]],h_:=[(0,(EA false [0,2,3,2,35]))] }
def Ve:c9:={ ops:=[(pX [0,1,1]),[pW,{},pW,pW,{ mode:=3 },pW,{ takes:=[false,true,false,true,true,true],mode:=1 }]] }
def Vf:c9:={ ops:=[[],(pX [1,1,1,1,1,1,2,1])] }
def ab7:c9:={ ops:=[[pW],[{},{},{ takes:=[false,true] }],(pX [0,1,1,1,1,1]),[],[{},pW],(pX [0,0,1,0,0,1,2,2]),[pW,pW],[{ takes:=[true],mode:=1 }],[{},pW,pW,pW,pW,pW,pW,pW,{},{ takes:=[false,true] }],(pX [0,1,1]),[{},{},{ mode:=3 }],[{},{ takes:=[false,true] }],(pX [0,0,2,1]),(pX [0,0,2]),[pW,{},pW,{},pW,{ takes:=[false,true] },pY,pY],[{ mode:=5 },{},pW,{ takes:=[true,true],mode:=1 },pY],[pW,pW,{ mode:=3 },pW,{},pW,pY],(pX [0,1,1]),[{},{},pW,pW,pY,pW,{},{ takes:=[false,true] }],[{ mode:=5 },{},pW,pW,pY,{ takes:=[false,true] }],[pW,{},pW,{ takes:=[true,true],mode:=1 },pW],[{},pW,{ mode:=3 },pW,{},pW,{ takes:=[false,true] }],[{},{ takes:=[false,true],mode:=1 }],[{ takes:=[true],mode:=2 },pW]],h_:=[(0,(EA false [1,1,1,1,13,2,73])),(2,(EA false [1,1,1,1,1,4,83]))] }
def ab8:c9:={ ops:=[[pW],(pX [1,1,1,1,2,1])] }
def ab9:c9:={ ops:=[[],[],[],[],(pX [0,1,1]),(pX [1,1,1,2,1]),[{},pW],[{},pW],[pW,pW],(pX [1,0,1]),[pW],[],(pX [0,1,1]),(pX [1,1,2,1]),[pW,pW],[pW,pW]],h_:=[(0,(EA false [0,1,2,1,5,3,24])),(2,(EA false [6,1,18,3,8]))] }
def ab_:c9:={ ops:=[[],[{ takes:=[true],mode:=1 },{},{ mode:=6 },pW],[{},pW],[pW,pW],(pX [0,1,1]),(pX [0,0,1,2]),(pX [1,1,1]),(pX [0,0,2,1,1]),[{},{},{ mode:=6 },pW],(pX [0,0,1,2,2]),(pX [1,1,1]),(pX [0,0,2,1]),(pX [1,1,2,1])],h_:=[(0,(EA false [0,2,3,2,35]))] }
def aca:c9:={ ops:=[[],(pX [1,1,2,1])] }
def acb:c9:={ ops:=[[pW,pW],[{},pW],[{},{},{ mode:=3 },pW],(pX [0,1,1,1]),[],[{},pW,pW,pW,{},pW,pW,pW,pW,pW,{ mode:=3 },pW,pY,{ takes:=[true,false,true] },pW,{},pW,{ mode:=6 },pW,{ takes:=[true,false,true] },pW],[],[pW,pW,{ mode:=3 },pW,pW,pW]] }
def ace:c9:={ ops:=[[],[{},pW,pW,{},{ takes:=[false,true] }],[pW,pW],[],[{},pW,{},{ takes:=[false,true] }],[{},{},{},{ mode:=6 }],[pW,{ takes:=[false,true] }],[pW,pW],[pW,{ takes:=[false,true] }]],h_:=[(0,(EA false [1,1,2,2,6,3,10]))] }
def acf:c9:={ ops:=[[pW,pW],(pX [1,1,1,1,2,1])] }
def acg:c9:={ ops:=[[],(pX [1,1,1,2,1])] }
def Vg:c9:={ ops:=[(pX [0,1,1,1,1,1]),[],[{},pW],[],[],[{},pW],[{},pW,pY,{},{ takes:=[false,true] }],[{},{},{ mode:=3 },pW,{},pW,pW,pW],[pW,{},pY,pW,{},pW,{ takes:=[true,true],mode:=1 },pW,pY],[pW,pW],[pW,pW]],h_:=[(0,(EA false [0,3,11,2,25])),(2,(EA false [0,3,1,1,9,2,2,1,22]))] }
def Rg:c9:={ ops:=[[],[{},pW],[],[{},pW],[{},{},{},pY,pW,{ mode:=6 }],[pW,pW],[pW,pW],[]],h_:=[(0,(EA false [0,2,5,2,10]))] }
def Vh:c9:={ ops:=[(pX [0,1,1]),(pX [0,0,2]),(pX [1,1,1]),[{},pW],[{},{},pY,pW,{},{},pY,pW,{},{},pW,pY,pW,{ mode:=3 },{ takes:=[false,true] }],(pX [1,1,1]),(pX [0,0,0,0,1,0,0,1,2,1,0,0,2,1,2,2,2,2])],h_:=[(0,(EA false [0,3,3,1,42])),(2,(EA false [0,3,3,2,41]))] }
def Vi:c9:={ ops:=[[{},pW],[],(pX [1,1,2,1]),(pX [0,1,1,1]),[{},pW],(pX [1,1,1]),[{},{},{},{},{ takes:=[false,true,true,true,true],mode:=1 }],(pX [1,1,1]),[{},pW],(pX [1,1,1]),(pX [0,0,0,0,0,2,0,0,0,2,2,1,0,0,2,1,2,2,2,2]),[{},{},{},{},{ takes:=[false,true,true,true,true],mode:=1 }]],h_:=[(0,(EA false [0,1,5,4,46])),(2,(EA false [0,1,5,2,2,1,45]))] }
def Vj:c9:={ ops:=[(pX [1,0,2,1]),[{},pW],[{},pW,{},{ takes:=[false,true] }],[{},{ mode:=3 },pW],(pX [0,0,1,1,2,1,1]),(pX [0,0,0,1,1,2,1,2]),(pX [1,1,1]),[{ mode:=1 },{},pW,pY,pW,pW],(pX [0,0,2]),(pX [1,0,2,1]),(pX [0,0,0,0,0,2,0,0,0,2,2,1,0,0,2,1,2,2,2,2])],h_:=[(0,(EA false [0,2,4,4,55]))] }
def Vk:c9:={ ops:=[[],(pX [1,0,2,1]),[],(pX [0,0,1,1,2,1]),(pX [0,0,1,1,2,1]),(pX [1,0,1,1,2,1]),[{},pW],[pW,pW],[{},pW,{ takes:=[false,true,true],mode:=1 },pW],[{},pW,{ takes:=[false,true,true],mode:=1 },pW],[{},pW,{ takes:=[false,true,true],mode:=1 },pW],[pW,pW,pW,pW,{ takes:=[false,true,true,true,true],mode:=1 },pW],[pW],[pW,pW],[{},pW],[pW,pW],[pW,pW],[pW,pW]] }
def Vl:c9:={ ops:=[[pW,pW],(pX [1,1,1]),(pX [0,0,2]),(pX [0,0,0,0,0,0,2,1,0,0,2,1,2,2,2,2]),(pX [1,1,1]),(pX [1,1,1])],h_:=[(0,(EA false [0,1,5,2,24]))] }
def Mx:c9:={ ops:=[[],(pX [0,1,1]),[],[{},pW],(pX [1,1,1]),[{},{},pY,pW,{},{},pY,pW,{},{},pW,pY,pW,{ mode:=3 },pW,{ takes:=[false,true] }],(pX [1,1,1]),(pX [0,0,2]),[],(pX [0,0,2,1]),[],(pX [0,0,0,0,1,0,0,1,2,1,0,0,2,1,2,2,2,2]),(pX [0,0,2,1]),(pX [0,1,1]),[{},pW],(pX [1,1,1]),[{},{},pY,pW,{},{},pW,pY,pW,{ mode:=3 },pW],(pX [0,0,0,0,1,0,0,1,2,1,0,0,2,1,2,2,2,2]),(pX [0,0,2,1]),(pX [0,1,1]),(pX [0,0,2]),(pX [1,1,1]),[{},{},pY,pW,{},{},pW,pY,pW,{ mode:=3 },pW],(pX [0,0,0,0,1,0,0,1,2,1,0,0,2,1,2,2,2,2]),[]],h_:=[(0,(EA false [0,3,4,2,124])),(2,(EA false [0,3,4,2,124])),(4,(EA false [0,3,4,3,123])),(6,(EA false [0,3,4,2,1,1,122]))] }
def Vm:c9:={ ops:=[[],[{},{ mode:=3 },pW,{},{ mode:=3 },pW,pY,pW,pW,pW,pY,{ takes:=[true,false,true] },pW]] }
def OZ:c9:={ ops:=[[],(pX [0,0,0,0,0,0,2,1,0,0,2,1,2,2,2,2]),(pX [0,1,1,1,1,1]),[{},{},pY,pW,{},{},pY,pW,{},{},pY,pW,{ mode:=3 },pW,{ takes:=[false,true] }],(pX [1,1,1]),[{},{},pY,pW,{},{},pY,pW,{},{},pY,pW,{ mode:=3 },{ takes:=[false,true] }],(pX [1,1,1]),(pX [0,0,2]),(pX [0,0,0,0,0,0,2,1,0,0,2,1,2,2,2,2]),(pX [1,1,1]),(pX [1,1,1]),[pW,pW]],h_:=[(0,(EA false [0,2,7,2,73])),(2,(EA false [0,2,7,2,73])),(4,(EA false [0,2,7,2,73]))] }
def My:c9:={ ops:=[[],(pX [0,0,0,0,0,0,2,1,0,0,2,1,2,2,2,2]),(pX [0,1,1,1,1,1]),[{},{},pY,pW,{},{},pY,pW,{},{},pY,pW,{ mode:=3 },{ takes:=[false,true] }],(pX [1,1,1]),[{},{},pY,pW,{},{},pY,pW,{},{},pY,pW,{ mode:=3 },pW,{ takes:=[false,true] }],(pX [1,1,1]),(pX [0,0,2]),(pX [0,0,0,0,0,0,2,1,0,0,2,1,2,2,2,2]),[pW,pW],(pX [0,0,0,0,0,0,2,1,0,0,2,1,2,2,2,2]),(pX [1,1,1]),(pX [1,1,1]),[{},{},pY,pW,{},{},pY,pW,{},{},pY,pW,{ mode:=3 },{ takes:=[false,true] }],(pX [1,1,1]),[{},{},pY,pW,{},{},pY,pW,{},{},pY,pW,{ mode:=3 },pW,{ takes:=[false,true] }],(pX [1,1,1]),(pX [0,0,2]),(pX [0,0,0,0,0,0,2,1,0,0,2,1,2,2,2,2]),(pX [1,1,1]),(pX [1,1,1]),(pX [0,0,0,0,0,0,2,1,0,0,2,1,2,2,2,2]),[pW,pW]],h_:=[(0,(EA false [0,2,8,2,156])),(2,(EA false [0,2,8,2,156])),(4,(EA false [0,2,8,2,156])),(6,(EA false [0,2,8,2,156])),(8,(EA false [0,2,8,2,156]))] }
def aci:c9:={ ops:=[[],[{},pW],(pX [1,1,1]),[],[{},pW],(pX [1,1,1]),(pX [1,1,1]),[pW,pW,pW,{ takes:=[false,true] },pW,pY,pW]] }
def acj:c9:={ ops:=[[],[{},pW],(pX [1,1,1]),[],[{},pW],(pX [1,1,1]),(pX [1,1,1]),[{},pW],(pX [1,1,1]),(pX [1,1,1]),[pW,pW,pW,{ takes:=[false,true] },pW,pY,pW]] }
def Vn:c9:={ ops:=[[],[{},pW],[],[{},pW],[{},{},{},pY,pW,{ mode:=6 }],[pW,pW],[pW,pW],[]],h_:=[(0,(EA false [0,2,5,2,10]))] }
def Vo:c9:={ ops:=[[],[],(pX [0,0,2,1]),[{},pW],[pW,pW,pW,pW,{ takes:=[false,true,true,true,true],mode:=1 }],[{},pW],[pW,pW,pW,pW,{ takes:=[false,true,true,true,true],mode:=1 }],[{},pW],[{},{},{},{},{ takes:=[false,true,true,true,true],mode:=1 }],(pX [1,1,1]),[{},{},{},{},{ takes:=[false,true,true,true,true],mode:=1 },pW,{},pW,pW,pW],[{},pW],[{},{},{},{},{ takes:=[false,true,true,true,true],mode:=1 }],(pX [0,1,1,0,2,2,1]),[],(pX [0,1,0,2,1,1,1,2]),[{},{},{},{},{ takes:=[false,true,true,true,true],mode:=1 }],[{},pW,pW,{},{},{},pW,pY,pW,{},{},pY,pW,{ mode:=6 },pW,pW,{ takes:=[false,true] }],[{},pW,{},pW,{},{ takes:=[false,true,true,true,true,true],mode:=1 },pW],[pW,pW],[{},{},{},pW,{},{ takes:=[false,true,true,true,true,true],mode:=1 },pW,{},pW,pW,pW],[pW,pW],(pX [0,0,2,0,0,2,1,1]),(pX [1,1,1]),(pX [0,0,2]),(pX [1,1,2,1]),[{},pW,{},{},{},{ takes:=[false,true,true,true,true,true],mode:=1 }],(pX [1,1,1]),(pX [1,1,2,1]),[{},{},pW,pW,{},{},{ takes:=[false,true,true,true,true,true],mode:=1 }],[pW,pW]],h_:=[(0,(EA false [0,5,5,2,136]))] }
def ack:c9:={ ops:=[(pX [0,1,1,0,1]),(pX [0,0,2]),(pX [1,1,1,1,1,1]),(pX [0,0,0,0,0,0,2,1,0,0,2,1,2,2,2,2])],h_:=[(0,(EA false [0,1,1,2,24]))] }
def acm:c9:={ ops:=[[],[{},pW],[{},pW],(pX [1,0,1,0,1,2,2,1]),[{},pW],(pX [0,0,1,2,1,2,1,1,2,1]),[pW,pW]] }
def aco:c9:={ ops:=[[],[{},pW,pW,pW,pW,{},pY,pW,pW,{},pY,pW,{},pW,pW,pW,pW,{},pY,pW,pW,{},pY,{ takes:=[false,false,true] },pW]] }
def acp:c9:={ ops:=[[],[pW,pW,{ mode:=3 },pW,pW]] }
def Vp:c9:={ ops:=[[pW,pW],[{},{ takes:=[false,true] },pW,pW],(pX [0,0,2]),[{},pW,{},pY,pW,{},{},{},pY,pY,pW,{},{},{},pY,pW,pY,pW,{ mode:=3 },{ takes:=[false,true] }],(pX [1,1,1]),[{},{},{},pY,pY,pW,{},{},{},pY,pY,pW,{ mode:=3 },pW],(pX [0,0,0,2,0,0,0,2,0,0,0,2,2,1,0,0,0,2,2,1,2,2,2,2]),[pW,pW]],h_:=[(0,(EA false [0,1,1,2,4,1,67]))] }
def Vq:c9:={ ops:=[[],[pW,pW,{ mode:=3 },{ takes:=[false,true] },pW]] }
def Vr:c9:={ ops:=[[],(pX [0,0,1,0,1,1,1,2,0,2]),(pX [0,0,1,0,1,1,1,2,0,2]),(pX [0,0,1,0,1,1,1,2,0,2]),(pX [1,1,1,1])] }
def Vs:c9:={ ops:=[[],[pW,{},pW,{},pW,pW,pW,{ takes:=[false,true,true,true,true,true],mode:=1 },pW]] }
def Vt:c9:={ ops:=[[],[{},pW,pW,{},{ takes:=[false,true,true,true,true],mode:=1 },pW,{},pW,pW,pW],[{},pW,pW,{},{ takes:=[false,true,true,true,true],mode:=1 },pW,{},pW,pW,pW],[pW,pW,pW,pW,{ takes:=[false,true,true,true,true],mode:=1 },pW,{},pW,pW,pW],[pW,pW]] }
def Vu:c9:={ ops:=[[],(pX [0,1,2,1])] }
def Vv:c9:={ ops:=[(pX [0,1,1]),(pX [0,0,2]),(pX [1,1,1]),[{},pW],[{},{},pY,pW,{},{},{},pY,pW,{},{},pW,pY,pW,{ mode:=6 },pW,{ takes:=[false,true] }],(pX [1,1,1]),(pX [0,0,0,0,1,0,0,1,2,1,0,0,2,1,2,2,2,2])],h_:=[(0,(EA false [0,4,4,1,44])),(2,(EA false [0,4,4,2,43]))] }
def acq:c9:={ ops:=[[],[],[],[],[],[],[],[],[],[],(pX [0,0,0,0,0,2,0,0,0,2,2,1,0,0,2,1,2,2,2,2])] }
def acs:c9:={ ops:=[[],[],[],[],[],[],[],[],[],[],(pX [0,0,0,0,0,2,0,0,0,2,2,1,0,0,2,1,2,2,2,2])] }
def acu:c9:={ ops:=[[],[],[],(pX [0,0,0,0,0,0,2,1,0,0,2,1,2,2,2,2])] }
def acv:c9:={ ops:=[[],[],[],[],[],[{},{},pY,pW,{},{},{},pY,pW,{},{},pW,pY,pW,{ mode:=6 },pW,pW,{ takes:=[false,true] }],[],[],[],[],[],(pX [0,0,0,0,1,0,0,1,2,1,0,0,2,1,2,2,2,2]),[],[],[],[],[{},{},{},pY,pW,{},{},pW,pY,pW,{ mode:=6 },pW,pW],(pX [0,0,0,0,1,0,0,1,2,1,0,0,2,1,2,2,2,2]),[],[],[],[],[{},{},{},pY,pW,{},{},pW,pY,pW,{ mode:=6 },pW,pW],(pX [0,0,0,0,1,0,0,1,2,1,0,0,2,1,2,2,2,2])] }
def acw:c9:={ ops:=[[],(pX [0,0,0,0,0,0,2,1,0,0,2,1,2,2,2,2]),[],[{},{},pY,pW,{},{},{},pY,pW,{},{},pY,pW,{ mode:=6 },pW,pW,{ takes:=[false,true] }],[],[{},{},pY,pW,{},{},{},pY,pW,{},{},pY,pW,{ mode:=6 },pW,{ takes:=[false,true] }],[],[],(pX [0,0,0,0,0,0,2,1,0,0,2,1,2,2,2,2])] }
def acx:c9:={ ops:=[[],(pX [0,0,0,0,0,0,2,1,0,0,2,1,2,2,2,2]),[],[{},{},pY,pW,{},{},{},pY,pW,{},{},pY,pW,{ mode:=6 },pW,{ takes:=[false,true] }],[],[{},{},pY,pW,{},{},{},pY,pW,{},{},pY,pW,{ mode:=6 },pW,pW,{ takes:=[false,true] }],[],[],(pX [0,0,0,0,0,0,2,1,0,0,2,1,2,2,2,2]),[],(pX [0,0,0,0,0,0,2,1,0,0,2,1,2,2,2,2]),[],[],[{},{},pY,pW,{},{},{},pY,pW,{},{},pY,pW,{ mode:=6 },pW,{ takes:=[false,true] }],[],[{},{},pY,pW,{},{},{},pY,pW,{},{},pY,pW,{ mode:=6 },pW,pW,{ takes:=[false,true] }],[],[],(pX [0,0,0,0,0,0,2,1,0,0,2,1,2,2,2,2]),[],[],(pX [0,0,0,0,0,0,2,1,0,0,2,1,2,2,2,2])] }
def acy:c9:={ ops:=[[],[{},pW],[],[{},pW],(pX [0,0,0,2,1,2]),[pW,pW],[pW,pW],[]],h_:=[(0,(EA false [0,2,5,2,10]))] }
def Vw:c9:={ ops:=[[],[{},{},pY,pW,{},{},pY,pW,{ mode:=3 }],(pX [1,0,1,1,1,2]),(pX [1,1,1,1]),(pX [1,1,1,1])] }
def acz:c9:={ ops:=[[],[],[],[{},pW,{},pY,pW,{},{},{},{},pY,pY,pW,{},{},{},pY,pW,pY,pW,{ mode:=6 },pW,{ takes:=[false,true] }],[],[{},{},{},{},pY,pY,pW,{},{},{},pY,pY,pW,{ mode:=6 },pW,pW],(pX [0,0,0,2,0,0,0,2,0,0,0,2,2,1,0,0,0,2,2,1,2,2,2,2])] }
def acB:c9:={ ops:=[[],[pW,{},{},pY,pW,{},{},pY,pW,{ mode:=6 },pW]] }
def ac_:List c9:=[{},{},acD,acG,VE,{},{},ac0,ac1,ac6,ab4,acd,ach,acn,acr,acA,Vx,acC,Ng,Nh,Vy,Rh,acE,acF,Ri,Vz,O0,VA,VB,VC,VD,O1,Rj,Rk,Rl,acH,{},acI,acJ,acK,{},acL,acM,acN,{},acO,{},{},{},{},acP,acQ,acR,{},acS,Rm,acT,VF,acU,acV,acW,acX,acY,acZ,VG,VH,VI,VJ,VK,Rn,VL,VM,VN,VO,Ro,VP,O3,Rp,Rq,Mz,ac2,Ik,VQ,ac3,ac4,ac5,{},{},{},VR,ac7,ac8,VS,VT,Rr,Rs,MA,ac9,VU,VV,Vd,ab5,Ve,Vf,ab7,ab8,ab9,ab_,aca,acb,ace,acf,acg,Vg,Rg,Vh,Vi,Vj,Vk,Vl,Mx,Vm,OZ,My,aci,acj,Vn,Vo,ack,acm,aco,acp,Vp,Vq,Vr,Vs,Vt,Vu,Vv,acq,acs,{},acu,acv,acw,acx,acy,Vw,acz,{},{},acB]
def js (k:FuncId):c9:=ac_.getD k {}
end Go.Proofs.YtfakoboiahbhaaaGreat.Ab


namespace Go.Proofs.YtfakoboiahbhaaaGreat.Ab
open Go
end Go.Proofs.YtfakoboiahbhaaaGreat.Ab


namespace Go.Proofs.YtfakoboiahbhaaaGreat.Ab
open Go
end Go.Proofs.YtfakoboiahbhaaaGreat.Ab


namespace Go.Proofs.YtfakoboiahbhaaaGreat.Ab
open Go
theorem dI:Go.Proofs.Tryz.prog.follows .mixedOrders=true:=by kernel_rfl
abbrev qt (k:FuncId) (args:List I) (v:I):Prop:=lk Go.Proofs.Tryz.prog k args v
abbrev hS (n:Int):I:=.int .i64 n
abbrev qX:I:=.junk
abbrev B (b:Bool):I:=.bool b
def jk (l:List Int):I:=.ay (l.map hS) l.length .shared
def iv (l:List (List Int)):I:=.ay (l.map jk) l.length .shared
theorem X1 (d:Nat) (l:List Int):(l.map hS).all (ct (d+1))=true:=by
 rw [ss];intro u hu;obtain ⟨x,_,rfl⟩:=sq.1 hu;rfl
theorem X0 (d:Nat) (l:List Int):ct (d+2) (jk l)=true:=X1 d l
theorem SN (d:Nat) (l:List (List Int)):(l.map jk).all (ct (d+2))=true:=by
 rw [ss];intro u hu;obtain ⟨x,_,rfl⟩:=sq.1 hu;exact X0 d x
theorem ag5 (d:Nat) (l:List (List Int)):ct (d+3) (iv l)=true:=SN d l
theorem GY (k:IntKind) (n:Int):ct 8 (.int k n)=true:=rfl
theorem G6 (b:Bool):ct 8 (.bool b)=true:=rfl
theorem GZ (l:List Int) (n:Nat) (c:ir):ct 8 (.ay (l.map hS) n c)=true:=X1 6 l
theorem G1 (l:List (List Int)) (n:Nat) (c:ir):ct 8 (.ay (l.map jk) n c)=true:=SN 5 l
theorem G0 (l:List Int):ct 8 (jk l)=true:=X0 6 l
theorem G2 (l:List (List Int)):ct 8 (iv l)=true:=ag5 5 l
theorem G7 (k:FuncId):ct 8 (.func k [] [])=true:=rfl
theorem G8 (n:Nat) (c:ir):ct 8 (.ay [] n c)=true:=rfl
theorem rQ (l:List (List Int)) (n:Nat) (c:ir):ct 8 (.agg [.ay (l.map jk) n c])=true:=by
 show [I.ay (l.map jk) n c].all (ct 7)=true;rw [sG,sM,sN];exact SN 4 l
theorem G3 (l:List (List Int)):ct 8 (.agg [iv l])=true:=rQ l _ _
theorem G4 (l:List (List Int)):ct 8 (.bW [iv l])=true:=rQ l _ _
theorem G5 (l:List (List Int)) (n:Nat) (c:ir):ct 8 (.bW [.ay (l.map jk) n c])=true:=rQ l _ _
theorem agx {α:Type} (f:α→I) (l:List α) (i:Nat) (h:i<l.length) {K:I→Prop} (k:K (f l[i])):eQ ((l.map f).drop (i*1)) 0 K :=
 DX (x:=f l[i]) (by simp [h]) k
theorem qU (i:Nat) (h:i≤9223372036854775806):IntKind.i64.wrap ((i:Int)+1)=((i+1:Nat):Int):=by rw [IntKind.wrap_i64];omega
theorem qm (n:Int) (ad:-9223372036854775808≤n) (af:n≤9223372036854775807):IntKind.i64.wrap n=n:=by rw [IntKind.wrap_i64];omega
theorem XZ:∀ {d:Nat} {v:I},ct d v=true→ct (d+1) v=true
 | 0,v,h=>by simp [ct] at h
 | d+1,v,h=>by
   have key:∀ {l:List I},l.all (ct d)=true→l.all (ct (d+1))=true:=fun h=>by
    rw [ss] at h ⊢;exact fun u hu=>XZ (h u hu)
   cases v <;> simp only [ct,r_,tA] at h ⊢ <;> first | trivial | exact key h | exact ⟨key h.1,key h.2⟩
theorem JF {p:Prop} [Decidable p] {A C:Prop} (ad:p→A) (af:¬ p→C):(match decide p with | true=>A | false=>C):=by
 by_cases h:p
 ·simp only [h,decide_true];exact ad h
 ·simp only [h,decide_false];exact af h
theorem GX {k:FuncId} {xs:List I} {v:I}:∀ p∈([]:di),p.1=k→p.2.1=xs→p.2.2=v:=fun _ h=>by simp at h
theorem x3 {k k':FuncId} {xs ys:List I} {v bu:I} (h:k'=k→ys=xs→bu=v):∀ p∈([(k',ys,bu)]:di),p.1=k→p.2.1=xs→p.2.2=v:=fun p aC=>by
 simp only [List.mem_singleton] at aC;subst aC;exact h
theorem U' {k:FuncId} {xs:List I} {v:I} {acc:di} (h:acc.all (fun p=>p.1 != k)=true):∀ p∈acc,p.1=k→p.2.1=xs→p.2.2=v:=fun p aC e=>by
 have:=ss.1 h p aC;simp [e] at this
def Ha (cap:List I):Prop:=cap.all (ct 7)=true∧∀ u∈cap,∃ cs,u=.bW cs
theorem Ha.Rf {cap:List I} (h:Ha cap):cap.all (ct 8)=true:=by
 have ad:=h.1;rw [ss] at ad ⊢;exact fun u hu=>XZ (ad u hu)
theorem Ha.im {cap:List I} (h:Ha cap) (H:List au):cap.map (im H)=cap:=by
 conv=>rhs;rw [←uO cap]
 apply tB;intro u hu;obtain ⟨cs,rfl⟩:=h.2 u hu;rfl
theorem Ha.hI {cap:List I} (h:Ha cap) (H:List au):cap.map (hI H)=cap:=by
 conv=>rhs;rw [←uO cap]
 apply tB;intro u hu;obtain ⟨cs,rfl⟩:=h.2 u hu;rfl
theorem Ha.cu {cap:List I} (h:Ha cap):cap.map I.cu=cap:=by
 conv=>rhs;rw [←uO cap]
 apply tB;intro u hu;obtain ⟨cs,rfl⟩:=h.2 u hu;rfl
theorem Ha.fn {cap:List I} (h:Ha cap) (H:List au) (k:FuncId):Ab.im H (.func k [] cap)=.func k [] cap:=by
 simp only [Ab.im,h.hI,List.map_nil]
theorem Ha.SL {cap:List I} (h:Ha cap) (k:FuncId):ct 8 (.func k [] cap)=true:=by
 show (([]:List I).all (ct 7) && cap.all (ct 7))=true;rw [h.1];rfl
theorem Ha.nil:Ha []:=⟨rfl,by simp⟩
section
variable {P:Program}
theorem call6 {k:FuncId} {xs bs:List I} {H:List au} {lo:Nat} {v:I} (ag:(xs.map (im H)).map I.cu=bs) (aC:(xs.map (im H)).all (ct 8)=true) (h:lk P k bs v) (ai:gg v=true):ou P 6 lo (.fn k) xs H v.cu H:=by
 subst ag;refine ⟨kS (.fn k) ((xs.map (im H)).map I.cu) [] 0 v [],D3 h.1,?_⟩;simp only [eU,aC,D2,rW,oV h.2,ai]
end
theorem WC {H:List au} {id d:Nat} {l:List I} (h:H[id]?=some (.cells l)) (aC:(l.map I.view).all (ct d)=true):bL H 0 H.length 0 (d+1) (.ptr id 0)=some (.bW (l.map I.view)):=by
 have ad:=(rV.1 h).1;have af:ec (bL H 0 H.length 0 d) (l.map I.view)=some (l.map I.view):=zt fun u hu=>oV (by rw [ss] at aC;exact aC u hu);simp only [bL,Nat.not_lt_zero,if_false,h,sT,af,sc];rw [if_neg (by omega)]
def idxOf {α:Type} (p:α→Bool):List α→Nat→Int
 | [],_ => -1
 | x::l,i=>if p x=true then i else idxOf p l (i+1)
end Go.Proofs.YtfakoboiahbhaaaGreat.Ab


namespace Go.Proofs.YtfakoboiahbhaaaGreat.Ab
open Go
section
variable {P:Program}
theorem JG (dI:P.follows .mixedOrders=true) {k:Nat} {A:c9} {rc:ez} {n:Nat} {ts:List jl} (ak:zg P A k=some (rc,n,ts)) {lo:Nat} {args T:List I} {H H':List au} (bZ:args++List.replicate (n-args.length) .junk=T) {v:I} (pt:bb lo H H')
  (h:dC P A k lo none rc T H fun e fh H1=>(e=.normal∨e=.ret)∧jj H1 H'∧(j2 H1 fh ts).map hc=some v):Sem P (.fn k) args H lo v H':=by
 unfold zg at ak;split at ak
 ·rename_i f aQ;split at ak
  ·rename_i c ag;split at ak
   ·rename_i Gv FG ad af aG a7;simp only [Option.some.injEq,Prod.mk.injEq] at ak;obtain ⟨rfl,rfl,rfl⟩:=ak;subst bZ;refine GF dI aQ ag (by simpa using af) ad pt (lb (fun e s a4=>?_) (xb aG h));obtain ⟨cd,b_,dZ⟩:=a4;simp only [rU] at dZ;obtain ⟨vs,dZ,hq⟩:=dZ;exact ⟨cd,b_,vs,by rw [xm _ _ a7,dZ],hq⟩
   ·cases ak
  ·cases ak
 ·cases ak
end
theorem rH {P:Program} (dI:P.follows .mixedOrders=true) {k:Nat} {A:c9} {rc:ez} {n:Nat} {ts:List jl} (ak:zg P A k=some (rc,n,ts)) {lo:Nat} {args T:List I} {H H':List au} (bZ:args++List.replicate (n-args.length) .junk=T) {v:I} (pt:bb lo H H')
  (h:∀ Q:cD→List I→List au→Prop,(∀ e fh H1,(e=.normal∨e=.ret)∧jj H1 H'∧(j2 H1 fh ts).map hc=some v→Q e fh H1)→dC P A k lo none rc T H Q):Sem P (.fn k) args H lo v H' :=
 JG dI ak bZ pt (h _ fun _ _ _ h=>h)
theorem JQ {P:Program} {A:c9} {fn:FuncId} {lo:Nat} {rl:Option Nat} {c:ez} {T:List I} {H:List au} {K:cD→List I→List au→Prop} (h:∀ K':cD→List I→List au→Prop,(∀ e T H,K e T H→K' e T H)→dC P A fn lo rl c T H K'):dC P A fn lo rl c T H K:=h K fun _ _ _ h=>h
theorem qS {P:Program} {lo:Nat} {b2:e5} {xs:List I} {H H':List au} {v:I} (h:Sem P b2 xs H lo v H'):ou P 1 lo b2 xs H v H' :=
 ⟨kS b2 xs H lo v H',D3 h,by simp only [eU,D2]⟩
theorem J2 (X:List au) (x:au):jj (X++[x]) (X++[.dead]):=by
 refine ⟨by simp,fun j o aw=>?_⟩;by_cases h:j<X.length
 ·rw [se h] at aw ⊢;exact .inr aw
 ·rw [sB (by omega)] at aw;obtain ⟨ad,af⟩:=rV.1 aw;simp at ad;simp [show j-X.length=0 by omega] at af;exact .inl af.symm
theorem rD {X Z:List au} {j:Nat} {o:au} (h:X[j]?=some o):(X++Z)[j]?=some o:=by
 rw [se (rV.1 h).1];exact h
theorem Ig (X:List au) (c dW:au):(X++[c]).set X.length dW=X++[dW]:=by simp
theorem JI (X:List au) (c:au):(X++[c])[X.length]?=some c:=by simp
end Go.Proofs.YtfakoboiahbhaaaGreat.Ab


namespace Go.Proofs.YtfakoboiahbhaaaGreat.Ab
open Go
def p6:Nat:=18446744073709551616
theorem rq {n:Nat} (h:n≤9223372036854775808):n<p6:=by unfold p6;omega
def p2 (p:Prop) [Decidable p] {aU:Type} (k:Option aU):Option aU:=if p then k else none
theorem qw {p:Prop} [Decidable p] {aU:Type} {k:Option aU} {v:aU} (h:p2 p k=some v):p∧k=some v:=by
 unfold p2 at h;split at h
 ·exact ⟨by assumption,h⟩
 ·cases h
theorem qb {p:Prop} [Decidable p] {aU:Type} {k:Option aU} (h:p):p2 p k=k:=if_pos h
theorem qi {α aU:Type} {x:Option α} {f:α→Option aU} {v:aU} (h:x.bind f=some v):∃ a,x=some a∧f a=some v:=by
 cases x with
 | none=>cases h
 | some a=>exact ⟨a,rfl,h⟩
theorem Hv {b:Bool} {aU:Type} {x y:Option aU} {v:aU} (ag:b=true) (h:(if b=true then x else y)=some v):x=some v:=by
 rw [if_pos ag] at h;exact h
theorem Hu {b:Bool} {aU:Type} {x y:Option aU} {v:aU} (ag:b=false) (h:(if b=true then x else y)=some v):y=some v:=by
 rw [if_neg (by rw [ag];decide)] at h;exact h
theorem Kn (b:Bool):b=true∨b=false:=by cases b <;> simp
def ix {α:Type} [Inhabited α] (l:List α) (i:Int):α:=l.getD i.toNat default
theorem q_ {α:Type} [Inhabited α] {l:List α} {k:Nat} (h:k<l.length):ix l (k:Int)=l[k]:=by
 simp [ix,h]
theorem PD {α:Type} [Inhabited α] {l:List α} {i:Int} (h:0≤i∧i<(l.length:Int)):ix l i=l[i.toNat]'(by omega):=by
 have:i.toNat<l.length:=by omega
 simp [ix,this]
abbrev w (n:Int):Int:=IntKind.i64.wrap n
theorem ajF {n:Int} (ad:-9223372036854775808≤n) (af:n≤9223372036854775807):w n=n:=qm n ad af
theorem q4 {aU:Type} {v:aU} {G:Prop} (h:(none:Option aU)=some v):G:=by cases h
def abY {α:Type} (f:α→I) (l:List α):I:=.ay (l.map f) l.length .shared
def GU {α:Type} (f:α→List I) (l:List α):I:=.ay (l.flatMap f) l.length .shared
theorem Ht {α:Type} [Inhabited α] (f:α→I) (l:List α) (n:Int) (h:0≤n∧n<(l.length:Int)):(l.map f).drop (n.toNat*1)=f (ix l n)::(l.drop (n.toNat+1)).map f:=by
 have aY:n.toNat<l.length:=by omega
 rw [tr,←uy,sU aY,sE,PD h]
theorem qR {α:Type} [Inhabited α] (f:α→List I) (s:Nat) (ai:∀ x,(f x).length=s):∀ (l:List α) (n:Int),0≤n∧n<(l.length:Int)→(l.flatMap f).drop (n.toNat*s)=f (ix l n)++(l.drop (n.toNat+1)).flatMap f:=by
 have key:∀ (l:List α) (k:Nat) (h:k<l.length),(l.flatMap f).drop (k*s)=f l[k]++(l.drop (k+1)).flatMap f:=by
  intro l
  induction l with
  | nil=>intro k h;simp at h
  | cons x l a' =>
    intro k h;cases k with
    | zero=>simp
    | succ k =>
      (have av:k<l.length:=by simpa using h);(have e:(k+1)*s=(f x).length+k*s:=by rw [ai,tp,vL,td]);rw [uP,e,List.drop_length_add_append,a' k av];rfl
 intro l n h;rw [key l n.toNat (by omega),PD h]
theorem Ww {α:Type} (f:α→List I) (s:Nat) (ai:∀ x,(f x).length=s) (l:List α):(l.flatMap f).length=l.length*s:=by
 induction l with
 | nil=>simp
 | cons x l a'=>rw [uP,sj,a',ai,List.length_cons,tp,vL,td]
theorem ade {α:Type} (f:α→I) (l m:List α) (c:ir):I.ay (l.map f++m.map f) (l.length+m.length) c=.ay ((l++m).map f) (l++m).length c:=by
 rw [th,sj]
theorem JB {α:Type} (f:α→I) (l:List α) (x:α) (c:ir):I.ay (l.map f++[f x]) (l.length+1) c=.ay ((l++[x]).map f) (l++[x]).length c:=by
 rw [th,sj];rfl
theorem adf {α:Type} (f:α→List I) (l m:List α) (c:ir):I.ay (l.flatMap f++m.flatMap f) (l.length+m.length) c=.ay ((l++m).flatMap f) (l++m).length c:=by
 simp [List.flatMap_append]
theorem YQ {α:Type} (f:α→I) (l:List α) (n:Int) (h:0≤n∧n≤(l.length:Int)) (c:ir):I.ay ((l.map f).take (n.toNat*1)) n.toNat c=.ay ((l.take n.toNat).map f) (l.take n.toNat).length c:=by
 rw [tr,s_,←ux,tL (by omega)]
theorem Js {α:Type} [Inhabited α] (f:α→I) (l:List α) (n:Int) (h:0≤n∧n<(l.length:Int)) {K:I→Prop} (k:K (f (ix l n))):eQ (l.map f) (0+n.toNat*1) K:=by
 have aY:n.toNat<l.length:=by omega
 refine DX (x:=f (ix l n)) ?_ k;rw [sP,tr,sm,sd aY,PD h];rfl
theorem Jx {α:Type} (f:α→I) (l:List α) (n:Int) (x:α) (h:0≤n∧n<(l.length:Int)) {K:List I→Prop} (k:K ((l.set n.toNat x).map f)):jf (l.map f) (0+n.toNat*1) (f x) K:=by
 have aY:n.toNat<l.length:=by omega
 refine A' (by simpa using aY) ?_;rw [sP,tr,←ud];exact k
theorem Ud {α:Type} (f:α→I) (x:α):∀ n,eZ n [f x]=(List.replicate n x).map f
 | 0=>rfl
 | n+1=>by rw [eZ,Ud f x n];rfl
theorem Vc {a b:Bool} (h:a=true) (k:b=true):(a && b)=true:=by rw [h,k];rfl
theorem p5 {α:Type} {f:α→Bool} {x:α} {l:List α} (h:f x=true) (k:l.all f=true):(x::l).all f=true:=Vc h k
theorem N1 {cs:List I} {d:Nat} (h:cs.all (ct d)=true):ct (d+1) (.agg cs)=true:=h
theorem Hf {cs:List I} {d:Nat} (h:cs.all (ct d)=true):ct (d+1) (.bW cs)=true:=h
theorem I8 {cs:List I} {d:Nat} (h:cs.all (ct d)=true):ct (d+1) (.tuple cs)=true:=h
theorem MM {k:FuncId} {a b:List I} {d:Nat} (ad:a.all (ct d)=true) (af:b.all (ct d)=true):ct (d+1) (.func k a b)=true:=Vc ad af
theorem rz {α:Type} {f:α→I} {d:Nat} (h:∀ x,ct d (f x)=true) (l:List α) (n:Nat) (c:ir):ct (d+1) (.ay (l.map f) n c)=true:=by
 show (l.map f).all (ct d)=true;rw [ss];intro u hu;obtain ⟨x,_,rfl⟩:=sq.1 hu;exact h x
theorem HM {α:Type} {f:α→List I} {d:Nat} (h:∀ x,(f x).all (ct d)=true) (l:List α) (n:Nat) (c:ir):ct (d+1) (.ay (l.flatMap f) n c)=true:=by
 show (l.flatMap f).all (ct d)=true;rw [ss];intro u hu;obtain ⟨x,_,al⟩:=uQ.1 hu;exact ss.1 (h x) u al
theorem PR {α:Type} {f:α→I} {d:Nat} (h:∀ x,ct d (f x)=true) (l:List α):(l.map f).all (ct d)=true:=by
 rw [ss];intro u hu;obtain ⟨x,_,rfl⟩:=sq.1 hu;exact h x
theorem lk.cu {P:Program} {k:FuncId} {args:List I} {v:I} (h:lk P k args v) (aC:ct 8 v.cu=true):lk P k args v.cu :=
 ⟨⟨h.1.1,h.1.2.1,fun B U J S w vs ah aN ae=>CallsIn.mono (h.1.2.2 B U J S w vs ah aN ae) fun e w' he=>by
   cases e with
   | returned x=>exact a2.cu he
   | panicked c=>exact he.elim
   | outgrown=>exact he.elim⟩,aC⟩
section
variable {P:Program} {B:Nat} {J:List Nat} {w:World} {U:Nat→Option aI} {S:Nat→Nat→Prop}
theorem a2.ZR {H':List au} {r:I} {v:Value} {w':World} (h:a2 B U J S w H' r v w'):a2 B U J S w H' r.settle.view.cu v w':=by
 have ad:a2 B U J S w H' r.settle v w':=by
  cases r with
  | ay c n k=>cases k with
    | uniq z=>exact h.settle
    | _=>exact h
  | _=>exact h
 have af:r.settle.cV=true:=by
  cases r with
  | ay c n k=>cases k <;> rfl
  | _=>rfl
 obtain ⟨bp,cj,bJ,a,b,c,d,e⟩:=ad;exact a2.cu ⟨bp,cj,bJ,a,b,c,d.view af,aW.b5 (I.dh _)⟩
theorem ag8 (dI : P.follows .mixedOrders = true) {k : Nat} {f : Func} {c : Code} (aQ : P.funcs[k]? = some f) (ag : f.body = some c) (aN : f.name ≠ "runtime.NumGoroutine") {A : c9} (bQ : codeOk A c = true)
  {args:List I} {v:I} (aC:ct 8 v=true)
  (h:c4 P A k 0 none c 0 ⟨args++List.replicate (f.ntmps-args.length) .junk,[]⟩ fun e s=>(e=.normal∨e=.ret)∧∃ vs r,ff P s.H s.T f.results.toList=some vs∧bL s.H 0 s.H.length 0 8 (hc vs)=some r∧r.settle.view.cu=v):lk P k args v:=by
 refine ⟨⟨bb.refl _ _,⟨f,aQ,by simp [ag],aN⟩,fun B U J S w xs ah _ ae=>?_⟩,aC⟩;refine callsIn_of_wp_marks aQ ag trivial ?_;have aK:=xO ah ae f.ntmps;have dc:=(oh ah).1;refine om dI c 0 _ _ h bQ Fence.wide _ B w.heap.size J w (hL U) S _ (.inl ⟨rfl,rfl⟩) (fun l a w aO=>aO.elim) aK fun e s av aM w' ai=>?_;obtain ⟨he,vs,r,aj,Cv,eh⟩:=av;obtain ⟨b4,cS,a5,aJ,aP,cb⟩:=ai;have iL:LeavesInM Fence.wide 0 P f aM.tmps (fu B U J S w [] v) aM.defers .returning w':=by
  refine nH (U:=b4) (S:=a5) (J:=cS) (B:=B) (H:=s.H) (lj:=U) (S0:=S) (w0:=w) aM.defers w' cb.M.2.1 cb.M.2.2 (dc.trans aP) cb.H fun bV dt dm ml mm=>?_
  have bZ:a_ .slot b4 cS a5 bV s.T aM.tmps.toList:=⟨cb.T.len,fun i u v hu ae=>(cb.T.rel i u v hu ae).mono (Ext.refl _) (fun b o h=>⟨h,dm b o h⟩),fun i u v hu ae =>
   (cb.T.own i u v hu ae).mono (Ext.refl _) (fun b o h=>⟨h,dm b o h⟩) fun b ag=>⟨ag,dt b _ ag,fun _ h=>h⟩⟩
  obtain ⟨x,q1,aX⟩:=xt mm bZ aj;have nu:=xj ah (fun id aE=>by simp at aE) Cv (a2.after aJ ml aX);refine ⟨x,q1,?_⟩;rw [←eh];exact nu.ZR
 rcases he with rfl | rfl
 ·exact iL
 ·exact iL
end
inductive IW (rs:List jl) (v:I) (e:cD) (T:List I) (H:List au):Prop where
 | mk (he:e=.normal∨e=.ret) (vs:List I) (aj:j2 H T rs=some vs) (r:I) (aQ:bL H 0 H.length 0 8 (hc vs)=some r) (ae:r.settle.view.cu=v)
theorem qN {P:Program} (dI:P.follows .mixedOrders=true) {k:Nat} {A:c9} {rc:ez} {n:Nat} {ts:List jl} (ak:zg P A k=some (rc,n,ts)) {args T:List I} (bZ:args++List.replicate (n-args.length) .junk=T) {v:I} (aC:ct 8 v=true)
  (h:∀ Q:cD→List I→List au→Prop,(∀ e T H,IW ts v e T H→Q e T H)→dC P A k 0 none rc T [] Q):lk P k args v:=by
 have h:=h _ fun _ _ _ h=>h;unfold zg at ak;split at ak
 ·rename_i f aQ;split at ak
  ·rename_i c ag;split at ak
   ·rename_i Gv FG ad af aG a7;simp only [Option.some.injEq,Prod.mk.injEq] at ak;obtain ⟨rfl,rfl,rfl⟩:=ak;subst bZ;have a4:∀ e s,IW FG v e (a6.T s) (a6.H s)→(e=.normal∨e=.ret)∧∃ vs r,ff P s.H s.T f.results.toList=some vs∧bL s.H 0 s.H.length 0 8 (hc vs)=some r∧r.settle.view.cu=v:=fun e s ⟨cd,vs,B1,r,b_,dZ⟩=>by
     exact ⟨cd,vs,r,by rw [xm _ _ a7,B1],b_,dZ⟩
    exact ag8 dI aQ ag (by simpa using af) ad aC (lb a4 (xb aG h))
   ·cases ak
  ·cases ak
 ·cases ak
theorem wp_loop {P:Program} {A:c9} {fn:FuncId} {lo:Nat} {rl:Option Nat} {cF:List Bool} {c:ez} {T IX:List I} {H:List au} {Q:cD→List I→List au→Prop} (bZ:eS cF T=IX)
  (h:Bl (fun T H Q=>nR T fun T=>dC P A fn lo rl c T H fun e a8 H'=>match e with
   | .normal=>pV (some cF) a8 fun a8=>Q .normal a8 H'
   | e=>Q e a8 H') IX H Q):dC P A fn lo rl (.loop (some cF) c) T H Q:=by
 show pV (some cF) T _;rw [Dk];subst bZ;exact h
def PL {α:Type} (f:α→List I):Option α→I
 | none=>.eC
 | some x=>.bW (f x)
theorem XY {α:Type} {f:α→List I} {d:Nat} (h:∀ x,(f x).all (ct d)=true) (x:Option α):ct (d+1) (PL f x)=true:=by
 cases x with
 | none=>rfl
 | some x=>exact h x
theorem Su {f:I→Option I}:ec f []=some []:=rfl
theorem PH {f:I→Option I} {x y:I} {l r:List I} (h:f x=some y) (k:ec f l=some r):ec f (x::l)=some (y::r):=by simp only [ec,h,k,sc]
theorem aeq {H:List au} {lo i n d:Nat} {vs rs:List I} (h:ec (bL H lo i n d) vs=some rs):bL H lo i n (d+1) (.tuple vs)=some (.tuple rs):=by simp only [bL,h,sc]
theorem ah0 {α:Type} {f:α→I} {H:List au} {id n:Nat} {l:List α} {cap:Option Nat} (ah:H[id]?=some (.cells (l.map f))) (aN:n=l.length) (ae:∀ x,(f x).view=f x):rowOf H (.ref id 0 n cap 1)=some (l.map f):=by
 subst aN;simp only [rowOf,ah,sP,tr,sZ,rX,if_true,sT];rw [tN (by simp),tq];congr 1;exact tB fun x _=>ae x
theorem WD {α:Type} {f:α→I} {H:List au} {id n d:Nat} {l:List α} {cap:Option Nat} (ah:H[id]?=some (.cells (l.map f))) (aN:n=l.length) (aC:∀ x,ct d (f x)=true) (ae:∀ x,(f x).view=f x):bL H 0 H.length 0 (d+1) (.ref id 0 n cap 1)=some (.ay (l.map f) n (gW cap n)):=by
 have ad:=(rV.1 ah).1;have af:ec (bL H 0 H.length 0 d) (l.map f)=some (l.map f):=zt fun u hu=>by
  obtain ⟨x,_,rfl⟩:=sq.1 hu;exact oV (aC x)
 simp only [bL,Nat.not_lt_zero,if_false,ah0 ah aN ae,af,sc];rw [if_neg (by omega)]
theorem ad8 (cs:List I) (n m:Nat) (c:Option Nat):I.gU (.ay cs n (gW c m))=.ay cs n .shared:=by
 unfold gW;split
 ·split <;> rfl
 ·rfl
theorem ajH (cs:List I) (n m:Nat) (c:Option Nat):(I.ay cs n (gW c m)).settle.view.cu=.ay cs n .shared:=by
 unfold gW;split
 ·split <;> rfl
 ·rfl
theorem JX {P:Program} {k:FuncId} {xs cs bs:List I} {H:List au} {lo:Nat} {v:I} (ai:xs.map (im H)=cs) (ag:cs.map I.cu=bs) (aC:cs.all (ct 8)=true) (h:lk P k bs v) (ae:gg v=true):ou P 6 lo (.fn k) xs H v.cu H :=
 call6 (by rw [ai,ag]) (by rw [ai];exact aC) h ae
theorem GN {f:I→I} {x y:I} {l r:List I} (h:f x=y) (k:l.map f=r):(x::l).map f=y::r:=by rw [sE,h,k]
theorem HC {f:I→I}:([]:List I).map f=[]:=rfl
theorem Og {H:List au} {k:FuncId} {a b aM ar:List I} (ad:a.map (hI H)=aM) (af:b.map (hI H)=ar):im H (.func k a b)=.func k aM ar:=by simp only [im,ad,af]
theorem LR {H:List au} {id off:Nat} {cs fA:List I} (ah:H[id]?=some (.cells cs)) (he:((cs.drop off).map I.view).map (j9 H)=fA):hI H (.ptr id off)=.bW fA:=by simp only [hI,ah,he]
theorem agE {P:Program} {C:b8} {lo mode:Nat} {o:Oper} {xs:Array Operand} {ts:Array TypeId} {vs:List I} {H:List au} (aq:o.op=.call { callee:=.builtin .copy,args:=xs,argTypes:=ts }):a9 P C lo o mode vs H=jW P lo ts H vs:=by
 unfold a9;rw [aq];rfl
theorem adY {α:Type} {P:Program} {f:α→I} {lo id n:Nat} {H:List au} {l m:List α} {cap:Option Nat} {c:ir} {e:TypeId} {ts:Array TypeId} (e1:(ts[0]?).bind P.underlying=some (.slice e)) (cm:bU P e=some 1) (bF:lo≤id)
  (ah:H[id]?=some (.cells (l.map f))) (aN:n=l.length) (hm:m.length=n):jW P lo ts H [.ref id 0 n cap 1,.ay (m.map f) m.length c]=some (.int .i64 (m.length:Int),H.set id (.cells (m.map f))):=by
 have oL:setCells 0 (m.map f) (l.map f)=m.map f:=by
  apply tM;intro j;rw [n' _ _ _ _ (by simp;omega)];by_cases aw:j<m.length
  ·rw [if_pos ⟨by omega,by simpa using aw⟩];simp
  ·rw [if_neg (by simp;omega),tO (by simp;omega),tO (by simpa using aw)]
 subst aN;unfold jW;simp only [e1,cm,lenOf,rowOf,g9,ah,if_pos bF];rw [if_pos ⟨trivial,by simp⟩,if_pos (by simp),hm,Nat.min_self,tr,tN (by simp;omega),oL];rfl
def H8 {α ID:Type} (g:ID→α→Option ID):List α→ID→Option ID
 | [],s=>some s
 | x::l,s=>(g s x).bind fun t=>H8 g l t
theorem Pc {α ID:Type} {g:ID→α→Option ID}:∀ {l:List α} {s t:ID},H8 g l s=some t→∃ F:Nat→ID,F 0=s∧F l.length=t∧∀ (i:Nat) (h:i<l.length),g (F i) l[i]=some (F (i+1))
 | [],s,t,h=>⟨fun _=>s,rfl,Option.some.inj h,fun i hi=>absurd hi (by simp)⟩
 | x::l,s,t,h=>by
   obtain ⟨u,ad,af⟩:=qi h;obtain ⟨F,f1,f2,f3⟩:=Pc af;refine ⟨fun i=>match i with | 0=>s | i+1=>F i,rfl,f2,fun i hi=>?_⟩;cases i with
   | zero=>show g s x=some (F 0);rw [f1,ad]
   | succ i=>exact f3 i (by simpa using hi)
def Seq (P:Program) (k:FuncId) (cap:List I) (E:List I):Prop :=
 ∀ (l N:Nat) (rI:Nat→List au),(∀ i,(rI i).length=N)→l<N →
   (∀ (i:Nat) (h:i<E.length) (Y:List au),∃ rE,Sem P (.yield l) [E[i]] (rI i++Y) 0 (.bool true) (rI (i+1)++rE)) →
   ∀ Y,∃ rE,Sem P (.fn k) (.yield l::cap) (rI 0++Y) 0 (.tuple []) (rI E.length++rE)
theorem Xr {H X:List au} (h:H.length≤X.length):bb 0 H X:=⟨h,fun _ h _=>absurd h (by omega)⟩
theorem YN (X Y:List au) (c d:au):((X++[c])++Y).set X.length d=(X++[d])++Y:=by
 rw [sy,List.set_append_right _ _ (rX _)];simp
theorem RK (X Y:List au) (c:au):((X++[c])++Y)[X.length]?=some c:=by
 rw [sy,sB (rX _)];simp
theorem ahS {α:Type} {P:Program} {A:c9} {fn:FuncId} {rl:Option Nat} {k:FuncId} {cap:List I} {bj:List Nat} {gu b0:Code} {T:List I} {H Hn:List au} {Q:cD→List I→List au→Prop} {f:α→I} {L:List α} (Se:Seq P k cap (L.map f))
  (Obj:Nat→List au) (aT:Obj 0=H) (hlen:∀ i,(Obj i).length=H.length)
  (Sd:∀ (i:Nat) (h:i<L.length) (Y:List au),∃ rE,Sem P (.yield H.length) [f L[i]] ((Obj i++[.loop .ready none fn (T.map I.view) bj gu b0 A])++Y) 0 (.bool true) ((Obj (i+1)++[.loop .ready none fn (T.map I.view) bj gu b0 A])++rE))
  (g0:inLoop H rl=true) (aN:Obj L.length=Hn) (bn:∀ rE,Q .normal (T.map I.settle) ((Hn++[.dead])++rE)):n6 P A fn 0 rl (.func k [] cap) bj gu b0 T H Q:=by
 obtain ⟨rE,cp⟩:=Se H.length (H.length+1) (fun i=>Obj i++[.loop .ready none fn (T.map I.view) bj gu b0 A]) (fun i=>by simp [hlen]) (by omega) (fun i h Y=>by
  have aY:i<L.length:=by simpa using h
  obtain ⟨rE,aj⟩:=Sd i aY Y
  exact ⟨rE,by rw [List.getElem_map];exact aj⟩) []
 subst aN;simp only [sV,sZ,aT] at cp;have ak:(Obj L.length).length=H.length:=hlen _;refine ⟨g0,.tuple [],_,.ready,none,fn,T.map I.view,bj,gu,b0,A,cp,by rw [←ak];exact RK _ _ _,by decide,?_⟩;show Q .normal (T.map I.settle) (((Obj L.length++[au.loop .ready none fn (T.map I.view) bj gu b0 A])++rE).set H.length .dead);rw [←ak,YN];exact bn rE
end Go.Proofs.YtfakoboiahbhaaaGreat.Ab


namespace Go.Proofs.YtfakoboiahbhaaaGreat.Ab
open Go
theorem aen {H:List au} {lo i n d:Nat} {k:FuncId} {a b aM ar:List I} (ad:ec (bL H lo i n d) a=some aM) (af:ec (bL H lo i n d) b=some ar):bL H lo i n (d+1) (.func k a b)=some (.func k aM ar):=by simp only [bL,ad,af]
theorem ahT {α:Type} {P:Program} {A:c9} {fn:FuncId} {rl:Option Nat} {k:FuncId} {cap:List I} {t:Nat} {bj:List Nat} {gu b0:Code} {T:List I} {H Hn:List au} {Q:cD→List I→List au→Prop} {f:α→I} {L:List α} (Se:Seq P k cap (L.map f))
  (Obj:Nat→List au) (ax:c6 T t=.func k [] cap) (aT:Obj 0=H) (hlen:∀ i,(Obj i).length=H.length)
  (Sd:∀ (i:Nat) (h:i<L.length) (Y:List au),∃ rE,Sem P (.yield H.length) [f L[i]] ((Obj i++[.loop .ready none fn (T.map I.view) bj gu b0 A])++Y) 0 (.bool true) ((Obj (i+1)++[.loop .ready none fn (T.map I.view) bj gu b0 A])++rE))
  (g0:inLoop H rl=true) (aN:Obj L.length=Hn) (bn:∀ rE,Q .normal (T.map I.settle) ((Hn++[.dead])++rE)):dC P A fn 0 rl (.Ao (.sl t) bj gu b0) T H Q:=by
 show hr T t _;rw [iF,ax];exact ahS Se Obj aT hlen Sd g0 aN bn
end Go.Proofs.YtfakoboiahbhaaaGreat.Ab


namespace Go.Proofs.YtfakoboiahbhaaaGreat.Ab
open Go
theorem aeo {P:Program} {C:b8} {lo id n:Nat} {cap:Option Nat} {o:Oper} {x:Operand} {H:List au} {cs:List I} {sz:Nat} (aq:o.op=.move x) (bF:lo≤id) (ah:H[id]?=some (.cells cs)) (aN:cs.length=n*sz) (ae:∀ u∈cs,u.view=u) :
  a9 P C lo o 2 [.ref id 0 n cap sz] H=some (.ay cs n (gW cap n),H.set id .dead):=by
 unfold a9;rw [aq];show eR P lo 2 o.type x H [.ref id 0 n cap sz]=_;unfold eR;simp only [bF,if_true,rowOf,ah,lenOf,sP];have e:cs.map I.view=cs:=(tB (g:=fun u=>u) ae).trans (List.map_id' cs);rw [if_pos (by omega),sT,tN (by omega),e];rfl
theorem aep {P:Program} {C:b8} {lo id n m:Nat} {cap:Option Nat} {o:Oper} {x:Operand} {H:List au} {cs:List I} {sz:Nat} (aq:o.op=.move x) (bF:lo≤id) (ah:H[id]?=some (.cells cs)) (CR:n=m) (aN:cs.length=m*sz) (ae:∀ u∈cs,u.view=u) :
  a9 P C lo o 2 [.ref id 0 n cap sz] H=some (.ay cs m (gW cap m),H.set id .dead):=by
 subst CR;exact aeo aq bF ah aN ae
theorem aje {α:Type} {f:α→I} (h:∀ x,(f x).view=f x) (l:List α):∀ u∈l.map f,u.view=u:=fun u hu=>by
 obtain ⟨x,_,rfl⟩:=sq.1 hu;exact h x
end Go.Proofs.YtfakoboiahbhaaaGreat.Ab


namespace Go.Proofs.YtfakoboiahbhaaaGreat.Ab
open Go
theorem LU {n:Int} (h:-9223372036854775808≤n∧n≤9223372036854775807):w n=n:=ajF h.1 h.2
theorem re (i:Nat) (h:i≤9223372036854775806):w ((i:Int)+1)=((i+1:Nat):Int):=qU i h
theorem I5 {i n:Nat} {aU:Type} {x y:Option aU} (h:i<n):(if (decide ((i:Int)<(n:Int)))=true then x else y)=x:=by rw [if_pos (decide_eq_true (by omega))]
theorem I4 {i n:Nat} {aU:Type} {x y:Option aU} (h:¬ i<n):(if (decide ((i:Int)<(n:Int)))=true then x else y)=y:=by rw [if_neg (by rw [decide_eq_true_eq];omega)]
theorem Hp {i n:Nat} {aU:Type} {x:Option aU} (h:i<n):p2 (0≤(i:Int)∧(i:Int)<(n:Int)) x=x:=qb ⟨by omega,by omega⟩
end Go.Proofs.YtfakoboiahbhaaaGreat.Ab


namespace Go.Proofs.YtfakoboiahbhaaaGreat.Ab
open Go
def p7 (p:Int×Int):List I:=[hS p.1,hS p.2]
theorem qK (p:Int×Int):(p7 p).length=2:=rfl
theorem Wx {α:Type} (f:α→List I) (s:Nat) (ai:∀ x,(f x).length=s):∀ (l:List α) (k:Nat),k≤l.length→(l.flatMap f).take (k*s)=(l.take k).flatMap f
 | l,0,_=>by rw [Nat.zero_mul,tI,tI];rfl
 | [],k+1,h=>absurd h (by simp)
 | x::l,k+1,h=>by
   (have e:(k+1)*s=(f x).length+k*s:=by rw [ai,tp,vL,td]);rw [uP,e,List.take_length_add_append,Wx f s ai l k (by simpa using h),vN,uP]
theorem Ul {α:Type} (f:α→List I) (s:Nat) (ai:∀ x,(f x).length=s) (l:List α) (n:Int) (h:0≤n∧n≤(l.length:Int)) (c:ir):I.ay ((l.flatMap f).take (n.toNat*s)) n.toNat c=.ay ((l.take n.toNat).flatMap f) (l.take n.toNat).length c:=by
 rw [Wx f s ai l _ (by omega),s_,tL (by omega)]
theorem aii {α:Type} (f:α→I) (l:List α) (n:Int) (h:0≤n∧n≤(l.length:Int)) (c:ir):I.ay ((l.map f).drop (n.toNat*1)) (l.length-n.toNat) c=.ay ((l.drop n.toNat).map f) (l.drop n.toNat).length c:=by
 rw [tr,List.length_drop,←uy]
theorem Wp (k:IntKind):∀ (xs ys:List Int),xs.length=ys.length→dL (xs.map (.int k)) (ys.map (.int k))=some (decide (xs=ys))
 | [],[],_=>rfl
 | x::xs,y::ys,h=>by
   simp only [sE,dL,if_true,Wp k xs ys (by simpa using h),sc];congr 1;by_cases al:x=y <;> by_cases ak:xs=ys <;> simp [al,ak]
 | [],y::ys,h=>by cases h
 | x::xs,[],h=>by cases h
theorem ab1 {P:Program} {t e:TypeId} {len:Nat} {kd:IntKind} (k:IntKind) (ad:P.underlying t=some (.array len e)) (af:P.underlying e=some (.int kd)) (aG:bU P e=some 1) (a7:P.eqGuardType P.depth t=false) {xs ys:List Int} (al:xs.length=len) (a1:ys.length=len) :
  fi P .eql t (.agg (xs.map (.int k))) (.agg (ys.map (.int k)))=some (.bool (decide (xs=ys))):=by
 unfold fi;simp only [ad,af,aG];rw [if_pos ⟨by simp [al],by simp [a1],a7⟩,Wp k xs ys (by rw [al,a1]),sc]
theorem agD {P:Program} {C:b8} {lo:Nat} {o:Oper} {op:BinOp} {t u:TypeId} {a b:Operand} {x y v:I} {H:List au} (aq:o.op=.binOp op t a b u) (aN:iR b=false) (h:fi P op t x y=some v):a9 P C lo o 0 [x,y] H=some (v,H):=by
 unfold a9;rw [aq];show (cA P o [x,y]).map _=_;unfold cA;rw [aq];simp only [aN];show (fi P op t x y).map _=_;rw [h];rfl
end Go.Proofs.YtfakoboiahbhaaaGreat.Ab


namespace Go.Proofs.YtfakoboiahbhaaaGreat.Ab
open Go
section
variable {P:Program} {B N:Nat} {J:List Nat} {w:World} {H:List au} {U:Nat→Option aI} {S:Nat→Nat→Prop}
end
def Wz {ID α:Type} (f:ID→α→Option (ID×Bool)):List α→ID→Option (ID×Bool)
 | [],s=>some (s,false)
 | a::r,s=>(f s a).bind fun q=>if q.2=true then some q else Wz f r q.1
theorem Qe (X Y:List au) (a b d:au):(((X++[a])++Y)++[b]).set X.length d=(((X++[d])++Y)++[b]):=by
 rw [List.set_append_left _ _ (by simp),YN]
theorem Pe (X Y:List au) (a b:au):(((X++[a])++Y)++[b])[X.length]?=some a:=by
 rw [se (by simp),RK]
theorem aeg (X:List au) (b:au):jj (X++[b]) (X++[.dead]):=by
 refine ⟨by simp,fun id o h=>?_⟩;rcases sO id X.length with ak | ak
 ·rw [se ak] at h ⊢;exact .inr h
 ·rw [sB ak] at h;cases av:id-X.length with
  | zero=>rw [av] at h;simp at h;exact .inl h.symm
  | succ k=>rw [av] at h;simp at h
theorem RE (X Y:List au) (a b:au):jj (((X++[a])++Y)++[b]) ((X++[a])++(Y++[.dead])):=by
 rw [←sy];exact aeg _ b
end Go.Proofs.YtfakoboiahbhaaaGreat.Ab


namespace Go.Proofs.YtfakoboiahbhaaaGreat.Ab
open Go
theorem Qp {α:Type} {f:α→I} (h:∀ x,(f x).view=f x) (l:List α):(l.map f).map I.view=l.map f:=by rw [tq];exact tB fun x _=>h x
theorem Sm {α:Type} (f:α→I) (l:List α) {n:Nat} (aQ:∀ x,(f x).view=f x) (h:l.length=n):(((l.map f).drop 0).take n).map I.view=l.map f:=by
 rw [sT,tN (by simp [h]),Qp aQ]
theorem ab2 {P:Program} {t e:TypeId} {len:Nat} {kd k:IntKind} {xs:List Int} {n:Int} (ad:P.underlying t=some (.array len e)) (af:P.underlying e=some (.int kd)) (aG:bU P e=some 1) (a7:dJ P e=false) (ak:xs.length=len) (aN:0≤n∧n<(len:Int)) :
  oz P t (.agg (xs.map hS)) (.int k n)=some (hS (ix xs n)):=by
 unfold oz;have bN:gS n len=some n.toNat:=by unfold gS;rw [if_pos aN]
 simp only [ad,aG,bN,rW,tr];unfold iA;simp only [af,a7];have aV:n.toNat<xs.length:=by omega
 rw [sm,sd aV,sc,PD (by omega)]
theorem agF {P:Program} {C:b8} {lo:Nat} {o:Oper} {t:TypeId} {a b:Operand} {x y v:I} {H:List au} (aq:o.op=.index t a b) (h:oz P t x y=some v) (ae:v.view=v:=by rfl):a9 P C lo o 0 [x,y] H=some (v,H):=by
 unfold a9;rw [aq];show (cA P o [x,y]).map _=_;unfold cA;rw [aq];show ((oz P t x y).map I.view).map _=_;rw [h,sc,sc,ae]
theorem XD {P:Program} {C:b8} {lo:Nat} {o:Oper} {t e:TypeId} {a:Operand} {id len:Nat} {H:List au} (aq:o.op=.slice t a none none none) (ad:P.underlying t=some (.array len e)) (af:bU P e=some 1) (aT:0<len):a9 P C lo o 0 [.ptr id 0] H=some (.ref id 0 len (some len) 1,H):=by
 unfold a9;rw [aq];show (cA P o [.ptr id 0]).map _=_;unfold cA;rw [aq];show (ei P t none none none [.ptr id 0]).map _=_;unfold ei;simp only [I.view,eT,ad,af,dn,cJ,rW];rw [if_neg (by omega)];rfl
theorem SF {P:Program} {C:b8} {lo mode:Nat} {o:Oper} {xs:Array Operand} {ts:Array TypeId} {vs:List I} {H:List au} (aq:o.op=.call { callee:=.builtin .clear,args:=xs,argTypes:=ts }):a9 P C lo o mode vs H=kU P lo ts H vs:=by
 unfold a9;rw [aq];rfl
theorem Yy (z:I):∀ n:Nat,eZ n [z]=List.replicate n z
 | 0=>rfl
 | n+1=>by rw [eZ,Yy z n];rfl
theorem Wb {P:Program} {lo id n:Nat} {H:List au} {l:List Int} {cap:Option Nat} {e:TypeId} {ts:Array TypeId} (e1:(ts[0]?).bind P.underlying=some (.slice e)) (cm:bU P e=some 1) (dF:zeroCells P e=some [.int .i64 0]) (bF:lo≤id)
  (ah:H[id]?=some (.cells (l.map hS))) (aN:l.length=n):kU P lo ts H [.ref id 0 n cap 1]=some (.tuple [],H.set id (.cells ((List.replicate n (0:Int)).map hS))):=by
 have oL:setCells 0 (eZ n [I.int .i64 0]) (l.map hS)=(List.replicate n (0:Int)).map hS:=by
  apply tM;intro j;rw [n' _ _ _ _ (by rw [ij];simp;omega),ij,Yy];simp only [List.length_singleton,tr,sP,vd];by_cases aw:j<n
  ·rw [if_pos ⟨by omega,aw⟩];simp [aw]
  ·rw [if_neg (by omega),tO (by simp;omega),tO (by simp;omega)]
 unfold kU;simp only [e1,cm,dF,g_,ah,sc,if_pos bF];rw [if_pos ⟨trivial,rfl,by decide⟩,if_pos (by simp;omega),oL];rfl
theorem Ur {α:Type} (f:α→I) (l m:List α) (aQ:∀ x,(f x).settle=f x) (h:m.length=l.length) {K:List I→Prop} (k:K (m.map f)):k9 (l.map f) 0 ((m.map f).map I.settle) K:=by
 have ai:(m.map f).map I.settle=m.map f:=by rw [tq];exact tB fun x _=>aQ x
 rw [ai];refine FL (by simp [h]) ?_;have oL:setCells 0 (m.map f) (l.map f)=m.map f:=by
  apply tM;intro j;rw [n' _ _ _ _ (by simp;omega)];by_cases aw:j<m.length
  ·rw [if_pos ⟨by omega,by simpa using aw⟩,vd]
  ·rw [if_neg (by simp;omega),tO (by simp;omega),tO (by simp;omega)]
 rw [oL];exact k
theorem YU {α:Type} (f:α→I) (m:List α) {n id lo:Nat} {H:List au} {l:List α} (bF:lo≤id) (aQ:∀ x,(f x).settle=f x) (ah:H[id]?=some (.cells (l.map f))) (h:m.length=n) (af:l.length=n) (aT:0<n) {K:I→List au→Prop} (k:K .junk (H.set id (.cells (m.map f)))):xA lo n (.ptr id 0) (.agg (m.map f)) H K:=by
 show (match Nat.ble lo id with | true=>_ | false=>_);rw [show Nat.ble lo id=true from sX bF];refine DX ah ?_;show (match Nat.beq (m.map f).length n,Nat.blt 0 n with | true,true=>_ | _,_=>_);rw [show Nat.beq (m.map f).length n=true from by rw [sZ,h];exact Nat.beq_refl n,show Nat.blt 0 n=true from by rw [Nat.blt_eq];exact aT];exact Ur f l m aQ (by omega) k
theorem ahQ {H:List au} {T:List I} {a id n:Nat} {l:List Int} (bZ:c6 T a=.ptr id 0) (ah:H[id]?=some (.cells (l.map hS))) (h:l.length=n):j2 H T [.cell a (.arr n)]=some [.agg (l.map hS)]:=by
 have e:kM (.arr n) (l.map hS) 0=some (.agg (l.map hS)):=by
  show (if 0+n≤(l.map hS).length then _ else _)=_;rw [if_pos (by simp [h]),sT,tN (by simp [h]),Qp (fun _=>rfl)]
 simp only [j2,oE,bZ,ah,e]
end Go.Proofs.YtfakoboiahbhaaaGreat.Ab


namespace Go.Proofs.YtfakoboiahbhaaaGreat.Ab
open Go
def KB:List I→Nat→List (Nat×I)→List I
 | [],_,_=>[]
 | x::T,_,[]=>x::T
 | x::T,i,(j,v)::r=>match Nat.beq i j with
   | true=>v::KB T (i+1) r
   | false=>x::KB T (i+1) ((j,v)::r)
def HZ (u:Nat→I):Nat→Nat→List (Nat×I)→List I
 | 0,_,_=>[]
 | n+1,i,[]=>u i::HZ u n (i+1) []
 | n+1,i,(j,v)::r=>match Nat.beq i j with
   | true=>v::HZ u n (i+1) r
   | false=>u i::HZ u n (i+1) ((j,v)::r)
def qV (n:Nat) (bj:List (Nat×I)) (T:List I):Prop:=T.length=n∧T=KB T 0 bj
theorem Qf {u bI:Nat→I}:∀ (n i:Nat) (bj:List (Nat×I)),(∀ k,i≤k→u k=bI k)→HZ u n i bj=HZ bI n i bj
 | 0,_,_,_=>rfl
 | n+1,i,[],h=>by
   rw [HZ,HZ,h i (rX _),Qf n (i+1) [] fun k av=>h k (by omega)]
 | n+1,i,(j,v)::r,h=>by
   rw [HZ,HZ];cases Nat.beq i j with
   | true=>exact congrArg _ (Qf n (i+1) r fun k av=>h k (by omega))
   | false=>show u i::_=bI i::_;rw [h i (rX _),Qf n (i+1) _ fun k av=>h k (by omega)]
theorem YR:∀ (T:List I) (i:Nat) (bj:List (Nat×I)),KB T i bj=HZ (fun k=>c6 T (k-i)) T.length i bj
 | [],_,_=>rfl
 | x::T,i,bj=>by
   have e:∀ bj,HZ (fun k=>c6 (x::T) (k-i)) T.length (i+1) bj=KB T (i+1) bj:=fun bj=>by
    rw [YR T (i+1) bj];refine Qf _ _ _ fun k av=>?_;show c6 (x::T) (k-i)=c6 T (k-(i+1));rw [show k-i=(k-(i+1))+1 by omega];rfl
   (have fT:c6 (x::T) (i-i)=x:=by rw [Nat.sub_self];rfl);(have J0:∀ (T:List I) i,KB T i []=T:=fun T i=>by cases T <;> rfl);cases bj with
   | nil =>
     show x::T=HZ _ (T.length+1) i [];rw [HZ,fT,e,J0]
   | cons p r =>
     obtain ⟨j,v⟩:=p;show KB (x::T) i ((j,v)::r)=HZ _ (T.length+1) i ((j,v)::r);rw [KB,HZ];cases Nat.beq i j with
     | true=>exact congrArg _ (e r).symm
     | false=>show x::_=_::_;rw [fT,e]
theorem qV.ex {n:Nat} {bj:List (Nat×I)} {T:List I} (h:qV n bj T):∃ u,T=HZ u n 0 bj:=by
 obtain ⟨ad,af⟩:=h;subst ad;exact ⟨_,af.trans (YR T 0 bj)⟩
class Hx (d:Nat) (v:I):Prop where PN:ct d v=true
class qh (d:Nat) (l:List I):Prop where pl:l.all (ct d)=true
instance {d:Nat}:qh d []:=⟨rfl⟩
instance {d:Nat} {v:I} {l:List I} [a:Hx d v] [b:qh d l]:qh d (v::l):=⟨p5 a.PN b.pl⟩
instance {d:Nat} {a b:List I} [x:qh d a] [y:qh d b]:qh d (a++b):=⟨by rw [List.all_append,x.pl,y.pl];rfl⟩
instance {d:Nat} {α:Type} {f:α→I} {l:List α} [h:∀ x,Hx d (f x)]:qh d (l.map f):=⟨PR (fun x=>(h x).PN) l⟩
instance {d:Nat} {α:Type} {f:α→List I} {l:List α} [h:∀ x,qh d (f x)]:qh d (l.flatMap f):=⟨by
 rw [ss];intro u hu;obtain ⟨x,_,al⟩:=uQ.1 hu
 exact ss.1 (h x).pl u al⟩
instance {d:Nat} {k:IntKind} {n:Int}:Hx (d+1) (.int k n):=⟨rfl⟩
instance {d:Nat} {b:Bool}:Hx (d+1) (.bool b):=⟨rfl⟩
instance {d:Nat} {b:ByteArray}:Hx (d+1) (.str b):=⟨rfl⟩
instance {d:Nat}:Hx (d+1) .eC:=⟨rfl⟩
instance {d n:Nat} {c:ir} {l:List I} [h:qh d l]:Hx (d+1) (.ay l n c):=⟨h.pl⟩
instance {d:Nat} {l:List I} [h:qh d l]:Hx (d+1) (.agg l):=⟨h.pl⟩
instance {d:Nat} {l:List I} [h:qh d l]:Hx (d+1) (.tuple l):=⟨h.pl⟩
instance {d:Nat} {l:List I} [h:qh d l]:Hx (d+1) (.bW l):=⟨h.pl⟩
instance {d:Nat} {α:Type} {f:α→I} {l:List α} [h:∀ x,Hx d (f x)]:Hx (d+1) (abY f l):=⟨PR (fun x=>(h x).PN) l⟩
instance {d:Nat} {α:Type} {f:α→List I} {l:List α} [h:∀ x,qh d (f x)]:Hx (d+1) (GU f l):=⟨(inferInstance:qh d (l.flatMap f)).pl⟩
instance {d:Nat} {l:List Int}:Hx (d+2) (jk l):=⟨(inferInstance:qh (d+1) (l.map hS)).pl⟩
instance {d:Nat} {l:List (List Int)}:Hx (d+3) (iv l):=⟨(inferInstance:qh (d+2) (l.map jk)).pl⟩
instance {d:Nat} {α:Type} {f:α→List I} {x:Option α} [h:∀ x,qh d (f x)]:Hx (d+1) (PL f x):=⟨XY (fun x=>(h x).pl) x⟩
theorem qy {p XH:Prop} [Decidable p] {aU:Type} {k:Option aU} {v:aU} {K:Prop} (h:p2 p k=some v) (f:p→XH) (g:p→k=some v→K):XH∧K :=
 ⟨f (qw h).1,g (qw h).1 (qw h).2⟩
theorem bs {b:Bool} {aU:Type} {x y:Option aU} {v:aU} {K:Prop} (h:(if b=true then x else y)=some v) (f:b=true→x=some v→K) (g:b=false→y=some v→K):K :=
 match b,h,f,g with
 | true,h,f,_=>f rfl (Hv rfl h)
 | false,h,_,g=>g rfl (Hu rfl h)
theorem ag4 {d:Nat} {u:I} (h:ct d u.gU=true):ct d u=true:=by
 cases d with
 | zero=>simp [ct] at h
 | succ d=>cases u with
   | ay cs n c=>cases c <;> exact h
   | _=>exact h
theorem XX {d:Nat} {l:List I} (h:(l.map I.gU).all (ct d)=true):l.all (ct d)=true:=by
 rw [ss] at h ⊢;exact fun u hu=>ag4 (h _ (List.mem_map_of_mem hu))
theorem ag3 {d:Nat} {r:I} (h:ct d r.settle.view.cu=true):ct d r=true:=by
 cases d with
 | zero=>simp [ct] at h
 | succ d=>cases r with
   | ay cs n c=>cases c <;> exact h
   | agg cs=>exact XX (l:=cs) h
   | tuple cs=>exact XX (l:=cs) h
   | raw=>exact absurd h (by simp [I.settle,I.view,I.cu,ct])
   | cn=>exact absurd h (by simp [I.settle,I.view,I.cu,ct])
   | _=>exact h
theorem KA {rs:List jl} {v:I} {T:List I} {H:List au} {vs:List I} [h:Hx 8 v] (ad:j2 H T rs=some vs) (af:(hc vs).settle.view.cu=v):IW rs v .ret T H :=
 ⟨.inr rfl,vs,ad,_,oV (ag3 (af ▸ h.PN)),af⟩
end Go.Proofs.YtfakoboiahbhaaaGreat.Ab


namespace Go.Proofs.YtfakoboiahbhaaaGreat.Ab
open Go
section
variable {P:Program} {A:c9} {fn:FuncId} {lo:Nat} {rl:Option Nat}
inductive Nc (P:Program) (A:c9) (fn:FuncId) (lo:Nat) (rl:Option Nat) (rc:ez) (T:List I) (H:List au) (Q:cD→List I→List au→Prop):Prop where
 | mk (cF:List Bool) (c:ez) (he:rc=.loop (some cF) c) (hS:Nat→List I→List au→Prop) (m:Nat) (hm:m≤p6) (aT:hS m T H)
   (step:∀ (qX:List I→List au→Prop) m T H,hS m T H→(∀ g7 a8 H',g7<m→hS g7 a8 H'→qX a8 H')→nR T fun T=>dC P A fn lo rl c T H fun e a8 H'=>match e with
    | .normal=>pV (some cF) a8 fun a8=>qX a8 H'
    | e=>Q e a8 H')
def SK (P:Program) (A:c9) (fn:FuncId) (lo:Nat) (rl:Option Nat) (cF:List Bool) (c:ez) (IX:List I) (Mu:List au) (Q:cD→List I→List au→Prop) (m:Nat) (a8:List I) (H':List au):Prop :=
 (m=p6+1∧a8=IX∧H'=Mu)∨(m≤p6∧∃ hS:Nat→List I→List au→Prop,hS m a8 H'∧∀ (qX:List I→List au→Prop) m T H,hS m T H→(∀ g7 a8 H',g7<m→hS g7 a8 H'→qX a8 H')→nR T fun T=>dC P A fn lo rl c T H fun e a8 H'=>match e with
   | .normal=>pV (some cF) a8 fun a8=>qX a8 H'
   | e=>Q e a8 H')
theorem ZV {rc c:ez} {cF:List Bool} {T IX:List I} {H:List au} {Q:cD→List I→List au→Prop} (he:rc=.loop (some cF) c) (bZ:eS cF T=IX)
  (h:∀ qX:List I→List au→Prop,(∀ T H,Nc P A fn lo rl rc T H Q→qX T H)→nR IX fun T=>dC P A fn lo rl c T H fun e a8 H'=>match e with
   | .normal=>pV (some cF) a8 fun a8=>qX a8 H'
   | e=>Q e a8 H'):dC P A fn lo rl rc T H Q:=by
 subst he;refine wp_loop bZ (.intro (SK P A fn lo rl cF c IX H Q) (p6+1) (.inl ⟨rfl,rfl,rfl⟩) ?_);rintro m a8 H' (⟨rfl,rfl,rfl⟩ | ⟨hm,hS,ko,step⟩)
 ·have:=h (fun fh H1=>∃ g7,g7<p6+1∧SK P A fn lo rl cF c a8 H' Q g7 fh H1) fun T H lQ=>by
   obtain ⟨afm,dW,he,hS,m,hm,aT,step⟩:=lQ;cases he;exact ⟨m,by omega,.inr ⟨hm,hS,aT,step⟩⟩
  refine cast (congrArg (nR a8) (funext fun T=>congrArg (dC P A fn lo rl c T H') (funext fun e=>?_))) this;cases e <;> rfl
 ·have:=step (fun fh H1=>∃ g7,g7<m∧SK P A fn lo rl cF c IX H Q g7 fh H1) m a8 H' ko fun g7 fh H1 aV ad=>⟨g7,aV,.inr ⟨by omega,hS,ad,step⟩⟩;refine cast (congrArg (nR a8) (funext fun T=>congrArg (dC P A fn lo rl c T H') (funext fun e=>?_))) this;cases e <;> rfl
theorem Nc.wp {rc:ez} {T IX:List I} {H:List au} {Q:cD→List I→List au→Prop} (h:Nc P A fn lo rl rc IX H Q) {cF:List Bool} {c:ez} (he:rc=.loop (some cF) c) (bZ:eS cF T=IX):dC P A fn lo rl rc T H Q:=by
 obtain ⟨afm,dW,jE,hS,m,hm,aT,step⟩:=h;subst he;cases jE;refine wp_loop bZ (.intro hS m aT fun m a8 H' ko=>?_);have:=step (fun T H=>∃ g7,g7<m∧hS g7 T H) m a8 H' ko fun g7 fh H1 aV ad=>⟨g7,aV,ad⟩;refine cast (congrArg (nR a8) (funext fun T=>congrArg (dC P A fn lo rl c T H') (funext fun e=>?_))) this;cases e <;> rfl
end
theorem HH (X:List au) (a:au):(X++[a,.dead])[X.length]?=some a:=by simp
theorem Jw (X:List au) (a aM:au):(X++[a,.dead]).set X.length aM=X++[aM,.dead]:=by simp
theorem RH {P:Program} {C:b8} {lo id gid n z:Nat} {o:Oper} {x:Operand} {H:List au} {l:List I} {g cW:Nat} (aq:o.op=.move x) (bF:lo≤id) (ah:H[id]?=some (.grow l g cW)) (aN:l.length=n*z) :
  a9 P C lo o 2 [.cn id gid n z] H=some (.ay (l.map I.view) n .shared,H.set id .dead):=by
 unfold a9;rw [aq];show eR P lo 2 o.type x H [.cn id gid n z]=_;unfold eR;simp only [bF,if_true,ah];rw [if_pos aN]
def Od (l:List Int):ir:=if l.length=1 then .full else .own 1
def HY (l:List Int):I:=.ay (l.map hS) l.length (Od l)
def J9 (l:List Int):I:=.ay (l.map hS) l.length (if l.length=1 then .full else .shared)
theorem ahY (L:List (List Int)):(L.map HY).map I.view=L.map J9:=by
 rw [tq];refine tB fun l _=>?_;show I.view (HY l)=J9 l;unfold HY J9 Od;by_cases h:l.length=1
 ·rw [if_pos h,if_pos h];rfl
 ·rw [if_neg h,if_neg h];rfl
theorem YB (L:List (List Int)) {n:Int} (h:0≤n∧n<(L.length:Int)) {c:ir} (ao:Od (ix L n)=c):(L.map HY)[n.toNat]?=some (.ay ((ix L n).map hS) (ix L n).length c):=by
 obtain ⟨t,rfl⟩:∃ t:Nat,n=(t:Int):=⟨n.toNat,by omega⟩;have ax:t<L.length:=by omega
 rw [ti,sm,sd ax,←q_ ax,←ao];rfl
theorem ahW {l:List Int} (h:l.length=1):Od l=.full:=if_pos h
theorem YA {l:List Int} (h:l.length≠1):Od l=.own 1:=if_neg h
theorem YC (L:List (List Int)) (t:Nat) (x:List Int) (al:x.length≠1):(L.map HY).set t (.ay (x.map hS) x.length (.own 1))=(L.set t x).map HY:=by
 rw [ud];congr 1;unfold HY;rw [YA al]
theorem ahX (L:List (List Int)) (t:Nat) (y:I) (x:List Int) (al:x.length≠1):((L.map HY).set t y).set t (.ay (x.map hS) x.length (.own 1))=(L.set t x).map HY:=by
 rw [rZ,YC L t x al]
theorem Rel.rows {J:List Nat} {S:Nat→Nat→Prop} {w:World} {cells:List I} {n:Nat} {v:Value} (h:Rel J S w (.ay cells n .shared) v):Rel J S w (.ay (cells.map I.gU) n .shared) v:=by
 cases h with
 | b3 _ a=>exact .b3 _ a
 | ay _ _ _ b o cap f ao hle hu k eN =>
   refine .ay _ _ _ b o cap f ao hle hu (fun j u aw=>?_) (fun j u aw=>?_)
   ·rw [sm] at aw;simp only [rU] at aw;obtain ⟨x,al,rfl⟩:=aw;obtain ⟨aB,aH,aR,bl⟩:=k j x al;exact ⟨aB,aH,yg aR,bl⟩
   ·rw [sm] at aw;simp only [rU] at aw;obtain ⟨x,al,rfl⟩:=aw;exact (eN j x al).gU
theorem lk.rows {P:Program} {k:FuncId} {args cells:List I} {n:Nat} (h:lk P k args (.ay cells n .shared)) (aC:ct 8 (.ay (cells.map I.gU) n .shared)=true):lk P k args (.ay (cells.map I.gU) n .shared) :=
 ⟨⟨h.1.1,h.1.2.1,fun B U J S w vs ah aN ae=>CallsIn.mono (h.1.2.2 B U J S w vs ah aN ae) fun e w' he=>by
   cases e with
   | returned x =>
     obtain ⟨bp,cj,bJ,a,b,c,d,e⟩:=he;exact ⟨bp,cj,bJ,a,b,c,d.rows,aW.b5 rfl⟩
   | panicked c=>exact he.elim
   | outgrown=>exact he.elim⟩,aC⟩
theorem YD (L:List (List Int)):(L.map J9).map I.gU=L.map jk:=by
 rw [tq];refine tB fun l _=>?_;show I.gU (J9 l)=jk l;unfold J9;by_cases h:l.length=1
 ·rw [if_pos h];rfl
 ·rw [if_neg h];rfl
theorem lk.ah4 {P:Program} {k:FuncId} {args:List I} {L:List (List Int)} (h:lk P k args (.ay (L.map J9) L.length .shared)):lk P k args (.ay (L.map jk) L.length .shared):=by
 have:=h.rows (by rw [YD];exact rz (fun _=>rz (fun _=>rfl) _ _ _) _ _ _)
 rwa [YD] at this
theorem VY {α:Type} (f:α→I) (l:List α) (x:α):l.map f++[f x]=(l++[x]).map f:=by simp
theorem VX {α:Type} (l:List α) (x:α):l.length+1=(l++[x]).length:=by simp
theorem VW (X:List au) (a:au):(X++[a,.dead]).length=(X++[au.dead,.dead]).length:=by simp
end Go.Proofs.YtfakoboiahbhaaaGreat.Ab


namespace Go.Proofs.YtfakoboiahbhaaaGreat.Ab
open Go
instance {d:Nat} {p:Int×Int}:qh (d+1) (p7 p):=⟨(inferInstance:qh (d+1) [hS p.1,hS p.2]).pl⟩
instance {d:Nat} {l:List Int}:Hx (d+2) (J9 l):=⟨(inferInstance:qh (d+1) (l.map hS)).pl⟩
end Go.Proofs.YtfakoboiahbhaaaGreat.Ab


namespace Go.Proofs.YtfakoboiahbhaaaGreat.Ab
open Go
abbrev p0:=List Int
abbrev qc:=List (Int×Int)
abbrev q6:=List (List Int)
abbrev ri:=List (List (Int×Int))
abbrev p8:=Int×List (Int×Int)
abbrev rm:=cD→List I→List au→Prop
abbrev qj (l:List Int) (c:ir):I:=.ay (l.map hS) l.length c
abbrev qf (l:List (Int×Int)) (c:ir):I:=.ay (l.flatMap p7) l.length c
abbrev alC (b:Int×List (Int×Int)):I:=.agg [hS b.1,.ay (b.2.flatMap p7) b.2.length .shared]
abbrev qg (b:Int×List (Int×Int)):au:=au.cells [hS b.1,.ay (b.2.flatMap p7) b.2.length .shared]
def qD {aU:Type} (rs:List jl) (Q:cD→List I→List au→Prop) (e:aU→I) (v:aU):Prop:=∀ T H,IW rs (e v) .ret T H→Q .ret T H
theorem qd {aU:Type} {x v:aU} {e:aU→I} {rs:List jl} {Q:cD→List I→List au→Prop} {T:List I} {H:List au} {vs:List I} (h:some x=some v) (jz:qD rs Q e v) [k:Hx 8 (e x)] (ad:j2 H T rs=some vs) (af:(hc vs).settle.view.cu=e x):Q .ret T H:=by
 obtain rfl:=Option.some.inj h;exact jz _ _ (KA ad af)
class qL (H:List au) (i:Nat) (o:outParam au):Prop where h:H[i]?=some o
instance {H:List au} {o:au}:qL (H++[o]) H.length o:=⟨JI _ _⟩
instance {H:List au} {i:Nat} {o p:au} [k:qL H i o]:qL (H++[p]) i o:=⟨rD k.h⟩
end Go.Proofs.YtfakoboiahbhaaaGreat.Ab


namespace Go.Proofs.YtfakoboiahbhaaaGreat.Ab
open Go Go.ChangeShapes Go.WideShapes Go.ChangeAt Go.RowKit
def S0 (w:World):Nat→Nat→Prop:=fun b o=>∃ v,w.cell? ⟨b,o,none⟩=some v
theorem l8 (w:World):aL w.heap.size (fun _=>none) [] (S0 w) w [] :=
 ⟨rfl,fun _ _ h=>by simp at h,fun _ _ h=>h,fun _ _ h=>by simp at h,rX _⟩
theorem ai7 {P:Program} {k:FuncId} {args:List I} {vs:List Value} {W:World} {b:Bool} (h:lk P k args (.bool b)) (ae:a_ (fun i=>.arg i) (fun _=>none) [] (S0 W) W args vs) :
  Calls P k vs.toArray W fun e IF=>e=.returned (.bool b)∧Below W.heap.size W IF:=by
 have ad:=h.1.2.2 W.heap.size (fun _=>none) [] (S0 W) W vs (l8 W) (fun _ _ h=>by simp at h) ae;refine (callsIn_wide.1 ad).mono fun e IF he=>?_;cases e with
 | returned v =>
   obtain ⟨az,b1,S',_,aA,_,aj,_⟩:=he;cases aj;exact ⟨rfl,aA.os,aA.tape,aA.output,aA.size,fun b ag=>aA.cF b ag rfl⟩
 | panicked c=>exact he.elim
 | outgrown=>exact he.elim
section
variable {H:Type} {enc:TypeId×Value→H} {P:Program} {w:World}
theorem Va {W IF:World} (K:Kids P (·<P.types.size)) (bR:∀ t e,t<P.types.size→P.underlying t=some (.slice e)→0<P.cellsOf e) (p1:Below W.heap.size W IF) {sp:Nat→Bool} :
  ∀ {ts:List TypeId} {vs:List Value} {fA:List (DataW H)} {p:List MemPlace},(∀ t∈ts,t<P.types.size)→DataW.TrodAll enc P W 0 (fun _=>true) true ts vs fA p→(∀ x∈p,sp x.block=true)→(∀ x∈p,x.block<W.heap.size)→DataW.TrodAll enc P IF 0 sp true ts vs fA p
 | [],_,_,_,_,aK,_,_=>by obtain ⟨rfl,rfl,rfl⟩:=trodAll_nil aK;exact trodAll_mk0
 | t::ts,_,_,_,bZ,aK,MJ,aV=>by
   obtain ⟨v,vs,d,fA,a,b,rfl,rfl,rfl,⟨n,aN⟩,af⟩:=trodAll_cons aK;refine ⟨a,b,⟨n,?_⟩,Va K bR p1 (fun t ax=>bZ t (tP _ ax)) af (fun x al=>MJ x (vQ _ al)) (fun x al=>aV x (vQ _ al)),rfl⟩;exact DataW.trod_stays K (fun {t e} ax he=>bR t e ax he) (fun h=>by cases h) (bZ t ui) aN (fun x al=>p1.same (aV x (uR _ al))) fun x al=>MJ x (uR _ al)
theorem ag1 {f:Func} {s:ChangeSpec} {again:Bool} {W IF:World} {args:Array Value} {t:TypeId} {fA gs:List (DataW H)} {before:List MemPlace}
  (ak:laidOutB P=true) (hm:mapsRowed P=true) (bo:((List.range P.types.size).all fun t=>match P.underlying t with | some (.slice e)=>decide (0<P.cellsOf e) | _=>true)=true)
  (ax:f.resultTypes=#[t]) (Ks:P.underlying t=some .bool) (CV:f.params.toList.all (fun t=>decide (t<P.types.size))=true) (Sg:s.vars=[])
  (lQ:DataW.Whole enc P f.params.toList s.vars false W args.toList fA gs before) (p1:Below W.heap.size W IF)
  (ai:s.fn H (fA++gs)={ results:=[.lit (.bool true)],args:=fA }):s.post enc P f false true false again W args (.bool true) IF:=by
 have aV:=lQ.lt;have aeB:=lQ;obtain ⟨p,q,aK,jA,rfl,Cv,jJ⟩:=aeB;rw [Sg] at jA;obtain ⟨rfl,rfl⟩:=trodVars_none jA;rw [sV] at *;have K:Kids P (·<P.types.size):=kids_rows ak hm;have bR:=slices_full_of P bo;have bZ:∀ t∈f.params.toList,t<P.types.size:=fun t h=>by
  have:=ss.1 CV t h;simpa using this
 have again:∀ sp:Nat→Bool,(∀ x∈p,sp x.block=true)→DataW.TrodAll enc P IF 0 sp true f.params.toList args.toList fA p:=fun sp MJ =>
  Va K bR p1 bZ aK MJ aV
 have kD:∀ (b:Nat) (sp:Nat→Bool) (a0:Bool),DataW.TrodAll enc P IF b sp a0 f.resultTypes.toList ((Value.bool true).resultList f.resultTypes.size) (s.fn H fA).results []:=fun b sp a0=>by
  rw [ai,ax];exact trodAll_mk1 (shut_bool Ks true)
 have Cc:∀ sp:Nat→Bool,(∀ x∈p,sp x.block=true)→DataW.TrodAll enc P IF 0 sp true f.params.toList args.toList (s.fn H fA).args p:=fun sp MJ=>by
  rw [ai];exact again sp MJ
 have ae:∀ sp:Nat→Bool,DataW.TrodVars enc P IF sp s.vars (s.fn H fA).vars []:=fun sp=>by
  rw [ai,Sg];rfl
 have hold:∀ x∈p,(fun b=>decide (b<W.heap.size)) x.block=true:=fun x al=>by simpa using aV x al
 refine ⟨fA,[],p,[],p,[],lQ,by rw [sV];exact kD _ _ _,by rw [sV];exact Cc _ hold,by rw [sV];exact ae _,p1.frame _,fun _=>?_⟩;refine ⟨fun j u r hu aj=>?_,(s.fn H fA).results++(s.fn H fA).args,[],p,⟨p,[],?_,?_,by simp,?_,fun h=>by cases h⟩,fun x al _=>al⟩
 ·rw [ax] at hu aj;cases j with
  | zero=>simp [Value.resultList] at hu aj;subst hu;subst aj;exact okWide_bool_mk Ks true
  | succ j=>simp at hu
 ·have:=trodAll_append (Cc (fun _=>true) fun _ _=>rfl) (kD 0 (fun _=>true) true);simpa using this
 ·rw [Sg];rfl
 ·intro b o ag;have:=aV _ ag;rw [p1.frozen (p:=⟨b,o,none⟩) this];exact Cv b o ag
theorem Xs {α:Type} {f:α→I} {R:α→Prop}:∀ {l:List I},(∀ u∈l,∃ x,u=f x∧R x)→∃ gj:List α,l=gj.map f∧∀ x∈gj,R x
 | [],_=>⟨[],rfl,by simp⟩
 | u::l,h=>by
   obtain ⟨x,rfl,al⟩:=h u (by simp);obtain ⟨gj,rfl,bo⟩:=Xs (l:=l) fun y a1=>h y (by simp [a1]);exact ⟨x::gj,rfl,by simpa using ⟨al,bo⟩⟩
abbrev JV (enc:TypeId×Value→H) (P:Program) (w:World) (e:TypeId) (Q:I→Prop):Prop :=
 ∀ n v y,DataW.trod enc P w 0 (fun _=>true) true n e [v]=some y→∃ u,u.plain=true∧v.oneCell'=true∧Rel [] (S0 w) w u v∧Q u
theorem adF {e:TypeId} {k:IntKind} (ax:P.underlying e=some (.int k)):JV enc P w e fun u=>∃ x,u=.int k x∧(Lit.int k x).wf=true:=by
 intro n v y h;obtain ⟨x,al,_,hw⟩:=DataW.trod_int ax h;injection al with al _;subst al;exact ⟨.int k x,rfl,rfl,.int k x,x,rfl,hw⟩
instance:Inhabited I:=⟨.junk⟩
theorem adG {t e:TypeId} (ax:P.underlying t=some (.slice e)) (ce:P.cellsOf e=1) {Q:I→Prop} (he:JV enc P w e Q) :
  JV enc P w t fun u=>∃ l:List I,u=.ay l l.length .shared∧l.length≤maxLen∧∀ u∈l,Q u:=by
 intro fuel v x h;rcases Deep.open_slice1 ax ce h with ⟨ae,_⟩ | ⟨a,len,cap,m,n,V,D,U4,ae,_,ak,hm,px,_,al⟩
 ·injection ae with ae _;subst ae;exact ⟨_,rfl,rfl,.b3 _ _,[],rfl,si _,by simp⟩
 ·injection ae with ae _;subst ae;have px:m=cap:=px;have al:∀ i,i<cap→w.cell? (a.add i)=some (V i)∧DataW.trod enc P w 0 (fun _=>true) true n e [V i]=some (D i,U4 i):=fun i hi=>al i (by omega);by_cases ao:cap=0
  ·(subst ao;obtain rfl:len=0:=by omega);exact ⟨_,rfl,rfl,.b3 _ _,[],rfl,si _,by simp⟩
  ·obtain ⟨b,o,sp⟩:=a;have aT:=(al 0 (by omega)).1;(have ai:sp=none:=by simpa [Addr.add] using World.cell?_spot aT);subst ai;obtain ⟨H4,Jo⟩:=Deep.choose_lt (α:=I) (n:=len) (p:=fun i u=>u.plain=true∧(V i).oneCell'=true∧Rel [] (S0 w) w u (V i)∧Q u) fun i hi=>he n (V i) _ (al i (by omega)).2;refine ⟨.ay ((List.range len).map H4) len .shared,rfl,rfl,.ay _ _ _ b o cap V (by simp) ak (by simp) (fun j u aw=>?_) (fun j u aw=>?_),(List.range len).map H4,by simp,by simp;omega,fun u hu=>?_⟩
   ·(have lY:j<len:=by have:=(rV.1 aw).1;simpa using this);simp [lY] at aw;subst aw;(have bx:w.cell? ⟨b,o+j,none⟩=some (V j):=by have:=(al j (by omega)).1;rwa [add_lit] at this);exact ⟨⟨_,bx⟩,bx,(Jo j lY).1,(Jo j lY).2.1⟩
   ·(have lY:j<len:=by have:=(rV.1 aw).1;simpa using this);simp [lY] at aw;subst aw;exact (Jo j lY).2.2.1
   ·obtain ⟨j,aw,rfl⟩:=sq.1 hu;exact (Jo j (sx.1 aw)).2.2.2
def IV (x:Int):Prop := -9223372036854775808≤x∧x≤9223372036854775807
theorem wf_i64 {x:Int} (h:(Lit.int .i64 x).wf=true):IV x:=by
 have ad:IntKind.i64.min=-9223372036854775808:=rfl;have af:IntKind.i64.max=9223372036854775807:=rfl;simp only [Lit.wf,r_,decide_eq_true_eq] at h;exact ⟨by omega,by omega⟩
structure abV (l:List Int):Prop where
 n:l.length≤9223372036854775807
 v:∀ x∈l,IV x
structure alu (l:List (List Int)):Prop where
 n:l.length≤9223372036854775807
 v:∀ r∈l,abV r
theorem Sw {n:Nat} (h:n≤maxLen):n≤9223372036854775807:=by unfold maxLen at h;omega
structure alv (l:List Int):Prop where
 n:l.length≤9223372036854775807
 v:∀ x∈l,0≤x∧x≤255
abbrev Arg (enc:TypeId×Value→H) (P:Program) (w:World) (base:Nat) (t:TypeId) (Q:I→Prop):Prop :=
 ∀ v d p,Value.okWide P w .any base t v→DataW.Trod enc P w 0 (fun _=>true) true t v d p→∃ u,u.plain=true∧Rel [] (S0 w) w u v∧Q u
theorem adi {base:Nat} {t e:TypeId} (ax:P.underlying t=some (.slice e)) {Q:I→Prop} (ao:JV enc P w t Q):Arg enc P w base t Q:=by
 intro v d p ae ⟨n,a0⟩;obtain ⟨a,len,cap,rfl⟩:=okWide_slice ax ae;obtain ⟨u,aB,_,aR,bl⟩:=ao n _ _ a0;exact ⟨u,aB,aR,bl⟩
theorem ajf {us:List I} {vs:List Value} (h:us.length=vs.length) (aj:∀ (i:Nat) (u:I) (v:Value),us[i]?=some u→vs[i]?=some v→u.plain=true∧Rel [] (S0 w) w u v):a_ (fun i=>.arg i) (fun _=>none) [] (S0 w) w us vs :=
 ⟨h,fun i u v hu ae=>(aj i u v hu ae).2,fun i u v hu ae=>aW.b5 (aj i u v hu ae).1⟩
theorem ajg {xU fs:I} {v0 v1:Value} (SH:xU.plain=true) (hE:Rel [] (S0 w) w xU v0) (bT:fs.plain=true) (aS:Rel [] (S0 w) w fs v1):a_ (fun i=>.arg i) (fun _=>none) [] (S0 w) w [xU,fs] [v0,v1] :=
 ajf rfl fun i u v hu ae=>by
  match i with
  | 0=>simp at hu ae;subst hu;subst ae;exact ⟨SH,hE⟩
  | 1=>simp at hu ae;subst hu;subst ae;exact ⟨bT,aS⟩
  | i+2=>simp at hu
end
end Go.Proofs.YtfakoboiahbhaaaGreat.Ab


namespace Go.Proofs.YtfakoboiahbhaaaGreat.Ab
open Go Go.ChangeShapes Go.WideShapes Go.ChangeAt Go.RowKit
section
variable {H:Type} {enc:TypeId×Value→H} {P:Program} {w:World}
theorem Sv {α β:Type} {f:α→β} {R:α→Prop}:∀ {l:List β},(∀ u∈l,∃ x,u=f x∧R x)→∃ gj:List α,l=gj.map f∧∀ x∈gj,R x
 | [],_=>⟨[],rfl,by simp⟩
 | u::l,h=>by
   obtain ⟨x,rfl,al⟩:=h u (by simp);obtain ⟨gj,rfl,bo⟩:=Sv (l:=l) fun y a1=>h y (by simp [a1]);exact ⟨x::gj,rfl,by simpa using ⟨al,bo⟩⟩
def Na (enc:TypeId×Value→H) (P:Program) (w:World) (bG:Array Field) (Qs:List (I→Prop)):Prop :=
 Qs.length=bG.size∧∀ (i:Nat) (f:Field) (q:I→Prop),bG[i]?=some f→Qs[i]?=some q→f.offset=i∧P.cellsOf f.type=1∧JV enc P w f.type q
def Mq (Qs:List (I→Prop)) (us:List I):Prop:=us.length=Qs.length∧∀ (i:Nat) (u:I) (q:I→Prop),us[i]?=some u→Qs[i]?=some q→q u
theorem YV {t:TypeId} {bG:Array Field} {Qs:List (I→Prop)} (ax:P.underlying t=some (.struct bG)) (ao:P.cellsOf t=bG.size) (aQ:Na enc P w bG Qs) {n:Nat} {cs:List Value} {y:DataW H×List MemPlace}
  (h:DataW.trod enc P w 0 (fun _=>true) true n t cs=some y):∃ us:List I,Mq Qs us∧cs.length=us.length∧∀ (j:Nat) (u:I) (v:Value),us[j]?=some u→cs[j]?=some v→u.plain=true∧v.oneCell'=true∧Rel [] (S0 w) w u v:=by
 obtain ⟨xs,m,_,_,ak,alW,al⟩:=DataW.trod_struct ax h;rw [ao] at ak;have each:∀ i,i<bG.size→∃ u:I,(∀ v,cs[i]?=some v→u.plain=true∧v.oneCell'=true∧Rel [] (S0 w) w u v)∧∀ q,Qs[i]?=some q→q u:=fun i hi=>by
  have ad:bG[i]?=some bG[i]:=Array.getElem?_eq_getElem hi;have a4:i<Qs.length:=by rw [aQ.1];exact hi
  have af:Qs[i]?=some Qs[i]:=sd a4;obtain ⟨e1,cm,dF⟩:=aQ.2 i _ _ ad af;have aG:=al i _ ad;rw [e1,cm] at aG;have WZ:i<cs.length:=by omega
  rw [sU WZ,sd (by omega)] at aG;simp only [vN,tI] at aG;obtain ⟨u,aB,aH,aR,bl⟩:=dF _ _ _ aG;refine ⟨u,fun v ae=>?_,fun q CW=>?_⟩
  ·rw [sd WZ] at ae;cases ae;exact ⟨aB,aH,aR⟩
  ·rw [af] at CW;cases CW;exact bl
 obtain ⟨H4,Jo⟩:=Deep.choose_lt (α:=I) (n:=bG.size) (p:=fun i u=>(∀ v,cs[i]?=some v→u.plain=true∧v.oneCell'=true∧Rel [] (S0 w) w u v)∧∀ q,Qs[i]?=some q→q u) each;have get:∀ (i:Nat) (u:I),((List.range bG.size).map H4)[i]?=some u→i<bG.size∧u=H4 i:=fun i u hu=>by
  have hi:i<bG.size:=by have:=(rV.1 hu).1;simpa using this
  simp [hi] at hu;exact ⟨hi,hu.symm⟩
 refine ⟨(List.range bG.size).map H4,⟨by simp [aQ.1],fun i u q hu a4=>?_⟩,by simp [ak],fun j u v hu ae=>?_⟩
 ·obtain ⟨hi,rfl⟩:=get i u hu;exact (Jo i hi).2 q a4
 ·obtain ⟨hi,rfl⟩:=get j u hu;exact (Jo j hi).1 v ae
theorem adj {base:Nat} {t:TypeId} {bG:Array Field} {Qs:List (I→Prop)} (ax:P.underlying t=some (.struct bG)) (ao:P.cellsOf t=bG.size) (aQ:Na enc P w bG Qs):Arg enc P w base t fun u=>∃ us,u=.agg us∧Mq Qs us:=by
 intro v d p ae ⟨n,a0⟩;unfold Value.okWide at ae;rw [ax] at ae;obtain ⟨cs,rfl,bR,_⟩:=ae;obtain ⟨us,ad,af,aG⟩:=YV ax ao aQ a0;have af:cs.toList.length=us.length:=af;refine ⟨.agg us,rfl,.agg us cs (by simpa using af) (fun u hu=>?_) (fun v ae=>?_) fun j u v hu ae=>?_,us,rfl,ad⟩
 ·obtain ⟨j,aw⟩:=tu.1 hu;have aV:j<cs.toList.length:=by rw [af];exact (rV.1 aw).1
  exact (aG j u _ aw (sd aV)).1
 ·obtain ⟨j,aw⟩:=tu.1 ae;have aV:j<us.length:=by rw [←af];exact (rV.1 aw).1
  exact (aG j _ v (sd aV) aw).2.1
 ·exact (aG j u v hu (by show cs.toList[j]?=some v;simpa using ae)).2.2
theorem Wy {s:Nat}:∀ {L:List (List I)} {j:Nat} {u:I},(∀ l∈L,l.length=s)→0<s→L.flatten[j]?=some u→∃ l,L[j / s]?=some l∧l[j % s]?=some u
 | [],j,u,_,_,h=>by simp at h
 | l::L,j,u,ak,ai,h=>by
   have aT:l.length=s:=ak l (by simp);rw [List.flatten_cons] at h;by_cases aw:j<s
   ·rw [se (by omega)] at h;exact ⟨l,by rw [Nat.div_eq_of_lt aw];rfl,by rw [Nat.mod_eq_of_lt aw];exact h⟩
   ·rw [sB (by omega),aT] at h;obtain ⟨k,a,b⟩:=Wy (s:=s) (fun x al=>ak x (by simp [al])) ai h;(have e1:j / s=(j-s) / s+1:=by rw [Nat.div_eq_sub_div ai (by omega)]);(have cm:j % s=(j-s) % s:=by rw [Nat.mod_eq_sub_mod (by omega)]);exact ⟨k,by rw [e1];simpa using a,by rw [cm];exact b⟩
theorem V' {t e:TypeId} {bG:Array Field} {Qs:List (I→Prop)} (ax:P.underlying t=some (.slice e)) (he:P.underlying e=some (.struct bG)) (ao:P.cellsOf e=bG.size) (aT:0<bG.size) (aQ:Na enc P w bG Qs) :
  JV enc P w t fun u=>∃ L:List (List I),u=.ay L.flatten L.length .shared∧L.length≤maxLen∧∀ us∈L,Mq Qs us:=by
 intro fuel v x h;rcases Deep.open_slice ax h with ⟨ae,_⟩ | ⟨a,len,cap,m,n,D,U4,ae,_,ak,hm,px,_,al⟩
 ·injection ae with ae _;subst ae;exact ⟨_,rfl,rfl,.b3 _ _,[],rfl,si _,by simp⟩
 ·injection ae with ae _;subst ae;have px:m=cap:=px;by_cases Cf:cap=0
  ·(subst Cf;obtain rfl:len=0:=by omega);exact ⟨_,rfl,rfl,.b3 _ _,[],rfl,si _,by simp⟩
  ·have each:∀ i,i<len→∃ q:List I×List Value,Mq Qs q.1∧q.2.length=bG.size∧w.cells? 0 (a.add (i*bG.size)) bG.size=some q.2∧∀ (j:Nat) (u:I) (v:Value),q.1[j]?=some u→q.2[j]?=some v→u.plain=true∧v.oneCell'=true∧Rel [] (S0 w) w u v:=fun i hi=>by
    obtain ⟨c_,ad,af⟩:=al i (by omega);rw [ao] at ad;obtain ⟨us,bq,cK,eA⟩:=YV he ao aQ af;exact ⟨(us,c_),bq,by have:=bq.1;rw [cK,this,aQ.1],ad,eA⟩
   obtain ⟨q0,_,_,ae2,_⟩:∃ q:List Value,True∧True∧w.cells? 0 (a.add (0*bG.size)) bG.size=some q∧True:=by
    obtain ⟨c_,ad,_⟩:=al 0 (by omega);rw [ao] at ad;exact ⟨c_,trivial,trivial,ad,trivial⟩
   obtain ⟨b,o,sp⟩:=a;have ai:sp=none:=by
    obtain ⟨_,hlen,bx⟩:=World.cells?_some ae2;have:=bx 0 aT;rw [sd (by omega)] at this;simpa [Addr.add] using World.cell?_spot this
   subst ai;obtain ⟨H4,Jo⟩:=Deep.choose_lt (α:=List I×List Value) (n:=len) (p:=fun i q=>Mq Qs q.1∧q.2.length=bG.size∧w.cells? 0 (Addr.add ⟨b,o,none⟩ (i*bG.size)) bG.size=some q.2∧∀ (j:Nat) (u:I) (v:Value),q.1[j]?=some u→q.2[j]?=some v→u.plain=true∧v.oneCell'=true∧Rel [] (S0 w) w u v) each;(have aez:∀ i,i<len→(H4 i).1.length=bG.size:=fun i hi=>by have:=(Jo i hi).1.1;rw [this,aQ.1]);have c':∀ l∈((List.range len).map fun i=>(H4 i).1),l.length=bG.size:=fun l dA=>by
    obtain ⟨i,hi,rfl⟩:=sq.1 dA;exact aez i (sx.1 hi)
   let V:Nat→Value:=fun j=>((H4 (j / bG.size)).2)[j % bG.size]!
   have key:∀ (j:Nat) (u:I),(((List.range len).map fun i=>(H4 i).1).flatten)[j]?=some u→w.cell? ⟨b,o+j,none⟩=some (V j)∧u.plain=true∧(V j).oneCell'=true∧Rel [] (S0 w) w u (V j):=fun j u aw=>by
    obtain ⟨l,cd,b_⟩:=Wy c' aT aw;(have hi:j / bG.size<len:=by have:=(rV.1 cd).1;simpa using this);simp [hi] at cd;subst cd;obtain ⟨ba,bm,bt,b9⟩:=Jo _ hi;have aeY:j % bG.size<bG.size:=Nat.mod_lt _ aT;have ae:(H4 (j / bG.size)).2[j % bG.size]?=some (V j):=by
     show _=some ((H4 (j / bG.size)).2[j % bG.size]!);rw [sd (by omega),getElem!_pos _ _ (by omega)]
    obtain ⟨_,_,bx⟩:=World.cells?_some bt;have NP:=bx (j % bG.size) aeY;rw [ae] at NP;have e:(Addr.add (Addr.add ⟨b,o,none⟩ (j / bG.size*bG.size)) (j % bG.size))=⟨b,o+j,none⟩:=by
     simp only [add_lit];congr 1;have:=Nat.div_add_mod' j bG.size;omega
    rw [e] at NP;exact ⟨NP,b9 _ _ _ b_ ae⟩
   refine ⟨.ay ((List.range len).map fun i=>(H4 i).1).flatten len .shared,rfl,rfl,.ay _ _ _ b o cap V (by simp) ak (by simp) (fun j u aw=>?_) (fun j u aw=>?_),(List.range len).map fun i=>(H4 i).1,by simp,by simp;omega,fun us hu=>?_⟩
   ·obtain ⟨aJ,aP,cl,_⟩:=key j u aw;exact ⟨⟨_,aJ⟩,aJ,aP,cl⟩
   ·exact (key j u aw).2.2.2
   ·obtain ⟨j,aw,rfl⟩:=sq.1 hu;exact (Jo j (sx.1 aw)).1
end
end Go.Proofs.YtfakoboiahbhaaaGreat.Ab


namespace Go.Proofs.YtfakoboiahbhaaaGreat.Ab
open Go
set_option maxRecDepth 20000
set_option maxHeartbeats 4000000
noncomputable def abt:ez :=
 GC [gO 3 [.hJ 1] .box,Gn 4 0,Gn 5 0] (.seq (Gu [Gq 7 0,gO 8 [.hM 7] .zC,F7 9 8 0,F7 10 9 1,Gm 11 10,gO 12 [.sl 3] (.oT 0),Gm 13 12,Gi 14 11 13 2,gO 15 [.hM 14] (.w8 (.str 2)),gO 6 [] (.alloc [.int .i64 0,.int .i64 0]),⟨none,[.sl 6,.hJ 15],none,none,.st 2⟩]) (.seq (GC [F7 16 3 1,Gm 17 16,F1 18 17 0 .gtr] (.cond (.sl 18) (.seq (Gu [gO 19 [.sl 6] (.oT 1),Gm 20 19,gO 21 [.sl 6] (.oT 0),Gm 22 21,Gq 4 20,Gq 5 22]) .ret) .skip)) (.seq (Gu [gO 23 [.sl 6] (.oT 0),Gm 24 23,gO 25 [.sl 6] (.oT 1),Gm 26 25,Gq 4 24,Gq 5 26]) .ret)))
theorem af6:zg Tryz.prog VK 68=some (abt,27,[.tmp 4,.tmp 5]):=by kernel_rfl
def Kf (t:p8) (p:(Int×Int)):Option (Int×Int) :=
 p2 (0≤p.1∧p.1<(t.2.length:Int)) <|
 if (decide ((0:Int)<p.2))=true then
  some ((ix t.2 p.1).2,(ix t.2 p.1).1)
 else
  some ((ix t.2 p.1).1,(ix t.2 p.1).2)
theorem QC {t:p8} {p:(Int×Int)} {v:(Int×Int)} (h:Kf t p=some v):qt 68 [(.bW [(hS t.1),(.ay (t.2.flatMap p7) t.2.length .shared)]),(.agg [(hS p.1),(hS p.2)])] (.tuple [(hS v.1),(hS v.2)]):=by
 refine qN dI af6 rfl (I8 (p5 rfl (p5 rfl rfl))) fun Q bn=>?_;have jz:qD [.tmp 4,.tmp 5] Q (fun v=>(.tuple [(hS v.1),(hS v.2)])) v:=fun T H bK=>bn _ T H bK;unfold Kf at h;unfold abt;conv=>whnf
 refine qy h id fun eV h=>?_;rw [qR p7 2 qK t.2 p.1 eV];conv=>whnf
 refine bs h (fun fl h=>?_) fun fl h=>?_
 ·rw [fl];conv=>whnf
  exact qd h jz rfl rfl
 ·rw [fl];conv=>whnf
  exact qd h jz rfl rfl
end Go.Proofs.YtfakoboiahbhaaaGreat.Ab


namespace Go.Proofs.YtfakoboiahbhaaaGreat.Ab
open Go
noncomputable def SV:ez :=
 GC [Gq 30 7,gO 31 [.sl 2] (.w8 .one),F2 32 30 31 .eql,Gq 33 32,cR 34 [.sl 0] 33 true .iT,cR 35 [.hM 6] 33 true (.w8 (.str 2)),cR 36 [.hJ 34,.hJ 35] 33 true (.call 1),cR 37 [.hM 36] 33 true (.un .not),gO 38 [.hM 33,.hM 37,.iD (.bool false)] .pick] (.cond (.sl 38) .ret .skip)
noncomputable def SW:ez :=
 GC [gO 25 [.sl 1] (.w8 .one),gO 26 [.sl 6] (.w8 (.str 2)),gO 27 [.iD (.func 68 [] []),.sl 25,.sl 26] (.call 3),Gq 24 27,GK 28 24 0,gO 29 [.hM 24] (.ext 1),Gq 7 28,Gq 8 29] SV
noncomputable def SX:ez :=
 GC [Gp 21 4,Gq 22 5,gO 23 [.hM 21,.hM 22] (.build [.int .i64 0,.int .i64 0] [(0,1),(1,1)]),gO 6 [] (.alloc [.int .i64 0,.int .i64 0]),⟨none,[.sl 6,.hJ 23],none,none,.st 2⟩] SW
noncomputable def SY:ez :=
 .block 3 (GC [Gp 20 18,Gq 5 20] SX)
noncomputable def SZ:ez :=
 GC [Gn 18 0] (.block 2 (.loop (some (EA false [0,3,1,1,9,2,2,1,22])) (GC [gO 19 [.sl 18,.iD (.int .i64 2)] (.bin .lss)] (.seq (.cond (.sl 19) .skip (.exit 2)) (.seq SY (Gt [F0 39 18 1,Gq 18 39]))))))
noncomputable def S1:ez :=
 .block 1 (GC [Gp 17 15,Gq 4 17] SZ)
noncomputable def X2:ez :=
 GC [gO 9 [.sl 1] (.w8 .one),gO 10 [.hM 9] .zC,F7 11 10 0,F7 12 11 1,Gm 13 12,Gl 14 13,Gn 15 0] (.block 0 (.loop (some (EA false [0,3,11,2,25])) (GC [gO 16 [.sl 15,.sl 14] (.bin .lss)] (.seq (.cond (.sl 16) .skip (.exit 0)) (.seq S1 (Gt [F0 40 15 1,Gq 15 40]))))))
theorem afn:zg Go.Proofs.Tryz.prog Vg 113=some (X2,41,[]):=by kernel_rfl
end Go.Proofs.YtfakoboiahbhaaaGreat.Ab


namespace Go.Proofs.YtfakoboiahbhaaaGreat.Ab
open Go
set_option maxRecDepth 20000
set_option maxHeartbeats 4000000
abbrev p3:=Int×List (Int×Int)
def rF (r:Nat):Int×Int:=(((r / 2:Nat):Int),((r % 2:Nat):Int))
def qz (t:p3) (p:Int×Int):Int:=if 0<p.2 then (ix t.2 p.1).2 else (ix t.2 p.1).1
def fin (t:p3) (p:Int×Int):Int:=if 0<p.2 then (ix t.2 p.1).1 else (ix t.2 p.1).2
theorem QB {t:p3} {p:Int×Int} (h:0≤p.1∧p.1<(t.2.length:Int)):Kf t p=some (qz t p,fin t p):=by
 rw [Kf,qb h];unfold qz fin;by_cases ad:0<p.2
 ·rw [if_pos (decide_eq_true ad),if_pos ad,if_pos ad]
 ·rw [if_neg (by simpa using ad),if_neg ad,if_neg ad]
def Hj (t:p3) (figure:Int) (r:Nat):Bool:=decide (qz t (rF r)=figure)
def places (t:p3) (figure:Int):List (Int×Int):=((List.range (2*t.2.length)).filter (Hj t figure)).map rF
theorem Wr (p:Nat→Bool) {j:Nat} (aC:p j=true):∀ {n:Nat},j<n→((List.range n).filter p)[((List.range j).filter p).length]?=some j
 | 0,h=>absurd h (by omega)
 | n+1,h=>by
   rw [vR,uF];by_cases aw:j<n
   ·have:=Wr p aC aw;rw [se (rV.1 this).1,this]
   ·(obtain rfl:j=n:=by omega);rw [sB (rX _)];simp [aC]
theorem Ws (p:Nat→Bool) (j:Nat):((List.range (j+1)).filter p).length=((List.range j).filter p).length+if p j=true then 1 else 0:=by
 rw [vR,uF,sj];by_cases h:p j=true
 ·rw [if_pos h];simp [h]
 ·rw [if_neg h];simp [h]
theorem aix {α:Type} (Y:α) (step:Nat→α→α):∃ Z:Nat→α,Z 0=Y∧∀ j,Z (j+1)=step j (Z j):=⟨fun n=>Nat.rec Y (fun j z=>step j z) n,rfl,fun _=>rfl⟩
theorem XV {n i b:Nat} (hi:i<n) (ag:b<2):rF (2*i+b)=((i:Int),(b:Int)):=by
 unfold rF;rw [show (2*i+b) / 2=i by omega,show (2*i+b) % 2=b by omega]
theorem adl {t:p3} {figure:Int} (al:t.2.length≤1000) {L N:Nat} {rI:Nat→List au} (hlen:∀ i,(rI i).length=N) {c:Nat→Nat} (ao:∀ j,c j=((List.range j).filter (Hj t figure)).length) {M:Nat} (B9:M≤2*t.2.length) {Z:Nat→List au} {OW:List au}
  (bo:∀ r,r<M→if Hj t figure r=true then Sem Tryz.prog (.yield L) [.agg (p7 (rF r))] (rI (c r)++(Z r++[au.cells (p7 (rF r))])) 0 (.bool true) (rI (c (r+1))++Z (r+1)) else Z (r+1)=Z r++[au.cells (p7 (rF r))])
  (he:(M=2*t.2.length∧OW=rI (c M)++Z M)∨(M<2*t.2.length∧Hj t figure M=true∧Sem Tryz.prog (.yield L) [.agg (p7 (rF M))] (rI (c M)++(Z M++[au.cells (p7 (rF M))])) 0 (.bool false) OW)) (pt:bb 0 (rI 0++Z 0) OW) :
  Sem Tryz.prog (.fn 113) [.yield L,.bW [.bW [hS t.1,.ay (t.2.flatMap p7) t.2.length .shared]],.bW [hS figure]] (rI 0++Z 0) 0 (.tuple []) OW:=by
 obtain ⟨n,aN⟩:∃ n,n=t.2.length:=⟨_,rfl⟩;obtain ⟨p,aC⟩:∃ p,p=Hj t figure:=⟨_,rfl⟩;have jD:∀ j,c (j+1)=c j+if p j=true then 1 else 0:=fun j=>by rw [ao,ao,aC];exact Ws _ j
 rw [←aN] at B9 he al;rw [←aC] at bo he;refine rH dI afn rfl pt fun Q bn=>?_;unfold X2;obtain ⟨fR,rJ⟩:∃ c,S1=c:=⟨_,rfl⟩;rw [rJ];conv=>whnf
 rw [←aN];refine .intro (fun m T H=>∃ i:Nat,i≤n∧2*i≤M∧m=n-i∧T=GH 41 [(0,.yield L),(1,.bW [.bW [hS t.1,.ay (t.2.flatMap p7) n .shared]]),(2,.bW [hS figure]),(14,hS (n:Int)),(15,hS (i:Int))]∧H=rI (c (2*i))++Z (2*i)) n ⟨0,si _,si _,rfl,rfl,by rw [ao];rfl⟩ ?_;rintro m T H ⟨i,hi,aeR,rfl,rfl,rfl⟩;conv=>whnf
 refine JF (fun NP=>?_) (fun NP=>?_)
 ·have aV:i<n:=by omega
  conv=>whnf
  refine JQ fun mV I1=>?_;subst rJ;unfold S1;obtain ⟨dX,B2⟩:∃ c,SZ=c:=⟨_,rfl⟩;rw [B2];conv=>whnf
  refine JQ fun mW WM=>?_;subst B2;unfold SZ;obtain ⟨b9,hq⟩:∃ c,SY=c:=⟨_,rfl⟩;rw [hq];conv=>whnf
  refine .intro (fun m T H=>∃ b:Nat,b≤2∧2*i+b≤M∧m=2-b∧T=GH 41 [(0,.yield L),(1,.bW [.bW [hS t.1,.ay (t.2.flatMap p7) n .shared]]),(2,.bW [hS figure]),(4,hS (i:Int)),(14,hS (n:Int)),(15,hS (i:Int)),(18,hS (b:Int))]∧H=rI (c (2*i+b))++Z (2*i+b)) 2 ⟨0,si _,aeR,rfl,rfl,rfl⟩ ?_;rintro m T H ⟨b,ag,alO,rfl,rfl,rfl⟩;conv=>whnf
  refine JF (fun br=>?_) (fun br=>?_)
  ·(have fl:b<2:=by omega);have Nn:rF (2*i+b)=((i:Int),(b:Int)):=XV aV fl;have aeu:Kf t ((i:Int),(b:Int))=some (qz t ((i:Int),(b:Int)),fin t ((i:Int),(b:Int))):=QB ⟨by omega,by omega⟩;have XA:=QC aeu;rw [←aN] at XA;(conv=>whnf);refine JQ fun alw RQ=>?_;subst hq;unfold SY;obtain ⟨bt,dZ⟩:∃ c,SX=c:=⟨_,rfl⟩;rw [dZ];(conv=>whnf);refine JQ fun alx RR=>?_;subst dZ;unfold SX;obtain ⟨bm,b_⟩:∃ c,SW=c:=⟨_,rfl⟩;rw [b_];(conv=>whnf);refine DX (x:=au.cells [hS (0:Int),hS (0:Int)]) (by first | exact qL.h | rfl | (simp [sg,I.settle];done)) ?_
   (conv=>whnf);rw [Ig];refine JQ fun aly RS=>?_;subst b_;unfold SW;obtain ⟨ba,cd⟩:∃ c,SV=c:=⟨_,rfl⟩;rw [cd];(conv=>whnf);refine DX (x:=au.cells [hS (i:Int),hS (b:Int)]) (by first | exact qL.h | rfl | (simp [sg,I.settle];done)) ?_
   (conv=>whnf);refine ⟨(p5 (Hf (p5 rfl (p5 (HM (fun _=>(p5 rfl (p5 rfl rfl))) _ _ _) rfl))) (p5 (N1 (p5 rfl (p5 rfl rfl))) rfl)),_,XA,?_⟩;(conv=>whnf);refine JQ fun alz RT=>?_;subst cd;unfold SV;(conv=>whnf);rcases Kn (decide (qz t ((i:Int),(b:Int))=figure)) with Ks | Ks
   ·(have JN:p (2*i+b)=true:=by rw [aC];show decide (qz t (rF (2*i+b))=figure)=true;rw [Nn];exact Ks);rw [Ks];(conv=>whnf);refine DX (x:=au.cells [hS (i:Int),hS (b:Int)]) (by first | exact qL.h | rfl | (simp [sg,I.settle];done)) ?_
    (conv=>whnf);rw [sy];by_cases RU:2*i+b<M
    ·have aj:=bo _ RU;rw [if_pos JN,Nn] at aj;refine ⟨_,_,qS aj,?_⟩;(conv=>whnf);refine RT _ _ _ ?_;(conv=>whnf);refine RS _ _ _ ?_;(conv=>whnf);refine RR _ _ _ ?_;(conv=>whnf);refine RQ _ _ _ ?_;(conv=>whnf);refine ⟨2-(b+1),by omega,b+1,by omega,by omega,rfl,?_,rfl⟩;rw [show IntKind.i64.wrap ((b:Int)+1)=((b+1:Nat):Int) by rw [qm _ (by omega) (by omega)];omega];rfl
    ·(have aex:M=2*i+b:=by omega);rcases he with ⟨ad,_⟩ | ⟨_,_,aG⟩
     ·omega
     ·rw [aex,Nn] at aG;refine ⟨_,_,qS aG,?_⟩;(conv=>whnf);refine RT _ _ _ ?_;(conv=>whnf);refine RS _ _ _ ?_;(conv=>whnf);refine RR _ _ _ ?_;(conv=>whnf);refine RQ _ _ _ ?_;(conv=>whnf);refine WM _ _ _ ?_;(conv=>whnf);refine I1 _ _ _ ?_;(conv=>whnf);exact bn _ _ _ ⟨.inr rfl,jj.refl _,rfl⟩
   ·(have JN:¬ p (2*i+b)=true:=by rw [aC];show ¬ decide (qz t (rF (2*i+b))=figure)=true;rw [Nn,Ks];decide);have RU:2*i+b<M:=by
     rcases he with ⟨ad,_⟩ | ⟨_,af,_⟩
     ·omega
     ·rcases sO (2*i+b) M with h | h
      ·exact h
      ·rw [show M=2*i+b by omega] at af;exact absurd af JN
    have aj:=bo _ RU;rw [if_neg JN,Nn] at aj;rw [Ks];(conv=>whnf);refine RT _ _ _ ?_;(conv=>whnf);refine RS _ _ _ ?_;(conv=>whnf);refine RR _ _ _ ?_;(conv=>whnf);refine RQ _ _ _ ?_;(conv=>whnf);refine ⟨2-(b+1),by omega,b+1,by omega,by omega,rfl,?_,?_⟩
    ·rw [show IntKind.i64.wrap ((b:Int)+1)=((b+1:Nat):Int) by rw [qm _ (by omega) (by omega)];omega];rfl
    ·rw [show 2*i+(b+1)=2*i+b+1 by omega,aj,jD,if_neg JN,sy];rfl
  ·(obtain rfl:b=2:=by omega);(conv=>whnf);refine WM _ _ _ ?_;(conv=>whnf);refine I1 _ _ _ ?_;(conv=>whnf);refine ⟨n-(i+1),by omega,i+1,by omega,by omega,rfl,?_,rfl⟩;rw [show IntKind.i64.wrap ((i:Int)+1)=((i+1:Nat):Int) by rw [qm _ (by omega) (by omega)];omega];rfl
 ·obtain rfl:i=n:=by omega
  conv=>whnf
  rcases he with ⟨ad,af⟩ | ⟨ad,_,_⟩
  ·subst af;rw [ad] at bn;exact bn _ _ _ ⟨.inl rfl,jj.refl _,rfl⟩
  ·omega
theorem adk {t:p3} {figure:Int} {L N:Nat} {rI:Nat→List au} (hlen:∀ i,(rI i).length=N) {c:Nat→Nat} (ao:∀ j,c j=((List.range j).filter (Hj t figure)).length) {M:Nat} (Y:List au)
  (aj:∀ r,r<M→Hj t figure r=true→∀ Y,∃ rE,Sem Tryz.prog (.yield L) [.agg (p7 (rF r))] (rI (c r)++Y) 0 (.bool true) (rI (c r+1)++rE)) :
  ∃ Z:Nat→List au,Z 0=Y∧(∀ r,r<M→if Hj t figure r=true then Sem Tryz.prog (.yield L) [.agg (p7 (rF r))] (rI (c r)++(Z r++[au.cells (p7 (rF r))])) 0 (.bool true) (rI (c (r+1))++Z (r+1)) else Z (r+1)=Z r++[au.cells (p7 (rF r))]) ∧
    ∀ r,r≤M→(rI 0++Y).length≤(rI (c r)++Z r).length:=by
 have jD:∀ j,c (j+1)=c j+if Hj t figure j=true then 1 else 0:=fun j=>by rw [ao,ao];exact Ws _ j
 have yT:∀ (j:Nat) (Y:List au),∃ rE,j<M→Hj t figure j=true→Sem Tryz.prog (.yield L) [.agg (p7 (rF j))] (rI (c j)++Y) 0 (.bool true) (rI (c (j+1))++rE):=fun j Y=>by
  by_cases aw:j<M∧Hj t figure j=true
  ·obtain ⟨rE,h⟩:=aj j aw.1 aw.2 Y;exact ⟨rE,fun _ _=>by rw [jD,if_pos aw.2];exact h⟩
  ·exact ⟨[],fun a b=>absurd ⟨a,b⟩ aw⟩
 obtain ⟨g,aO⟩:∃ g:Nat→List au→List au,∀ (j:Nat) (Y:List au),j<M→Hj t figure j=true→Sem Tryz.prog (.yield L) [.agg (p7 (rF j))] (rI (c j)++Y) 0 (.bool true) (rI (c (j+1))++g j Y) :=
  ⟨fun j Y=>Classical.choose (yT j Y),fun j Y=>vi (yT j Y)⟩
 clear yT;obtain ⟨Z,NL,MF⟩:=aix Y fun j Y=>if Hj t figure j=true then g j (Y++[au.cells (p7 (rF j))]) else Y++[au.cells (p7 (rF j))];refine ⟨Z,NL,fun r Sc=>?_,fun r=>?_⟩
 ·by_cases h:Hj t figure r=true
  ·rw [if_pos h,MF r,if_pos h];exact aO r _ Sc h
  ·rw [if_neg h,MF r,if_neg h]
 ·induction r with
  | zero=>intro _;rw [NL,sj,sj,hlen,hlen];exact rX _
  | succ j a' =>
    intro aw;refine sJ (a' (by omega)) ?_;by_cases JN:Hj t figure j=true
    ·have ad:=(aO j (Z j++[au.cells (p7 (rF j))]) (by omega) JN).1.1;rw [MF j];simp only [if_pos JN];refine sJ ?_ ad;rw [←sy];simp
    ·rw [MF j,jD,if_neg JN];simp only [if_neg JN];rw [←sy];simp
theorem agZ {t:p3} {figure:Int} {r:Nat} (aj:r<2*t.2.length) (ag:Hj t figure r=true):((places t figure).map fun p=>I.agg (p7 p))[((List.range r).filter (Hj t figure)).length]?=some (.agg (p7 (rF r))):=by
 rw [places,tq,sm,Wr _ ag aj];rfl
def Of (t:p3) (figure:Int):Option (List (Int×Int)):=if t.2.length≤1000 then some (places t figure) else none
theorem ah8 {t:p3} {figure:Int} {v:List (Int×Int)} (h:Of t figure=some v):Seq Tryz.prog 113 [.bW [.bW [hS t.1,.ay (t.2.flatMap p7) t.2.length .shared]],.bW [hS figure]] (v.map fun e1=>.agg [hS e1.1,hS e1.2]):=by
 unfold Of at h;split at h
 ·rename_i al;obtain rfl:=Option.some.inj h;intro L N rI hlen fk aj Y;have ao:∀ j,((List.range j).filter (Hj t figure)).length=((List.range j).filter (Hj t figure)).length:=fun _=>rfl;have rr:((places t figure).map fun e1=>I.agg [hS e1.1,hS e1.2]).length=((List.range (2*t.2.length)).filter (Hj t figure)).length:=by simp [places]
  obtain ⟨Z,NL,MF,hle⟩:=adk (t:=t) (figure:=figure) (L:=L) hlen ao (M:=2*t.2.length) Y fun r Sc ag Y=>by
   have aO:=agZ Sc ag;obtain ⟨ad,af⟩:=rV.1 aO;obtain ⟨rE,h⟩:=aj _ ad Y;refine ⟨rE,?_⟩;rw [←af];exact h
  refine ⟨Z (2*t.2.length),?_⟩;rw [rr,←NL];exact adl al hlen ao (rX _) MF (.inl ⟨rfl,rfl⟩) (Xr (by rw [NL];exact hle _ (rX _)))
 ·cases h
end Go.Proofs.YtfakoboiahbhaaaGreat.Ab


namespace Go.Proofs.YtfakoboiahbhaaaGreat.Ab
open Go Go.ChangeShapes Go.WideShapes Go.ChangeAt Go.RowKit
set_option maxRecDepth 100000
section
variable {H:Type} {enc:TypeId×Value→H} {w:World} {base:Nat}
def Kk:I→Prop:=fun u=>∃ x,u=hS x∧IV x
theorem Nj:JV enc Tryz.prog w 3 Kk:=fun n v y h=>by
 obtain ⟨u,a,b,c,x,rfl,d⟩:=adF (P:=Tryz.prog) Tryz.underlying3 n v y h;exact ⟨_,a,b,c,x,rfl,wf_i64 d⟩
theorem XI {us:List I} (h:Mq [Kk,Kk] us):∃ p:Int×Int,us=p7 p∧IV p.1∧IV p.2:=by
 obtain ⟨ak,h⟩:=h
 match us,ak with
 | [a,b],_ =>
   obtain ⟨x,rfl,al⟩:=h 0 _ _ rfl rfl;obtain ⟨y,rfl,a1⟩:=h 1 _ _ rfl rfl;exact ⟨(x,y),rfl,al,a1⟩
def Rb (bj:List (Int×Int)):Prop:=bj.length≤9223372036854775807∧∀ p∈bj,IV p.1∧IV p.2
abbrev OY (bj:List (Int×Int)):I:=.ay (bj.flatMap p7) bj.length .shared
def Re:I→Prop:=fun u=>∃ bj,u=OY bj∧Rb bj
theorem ael : Na enc Tryz.prog w #[{ name := "Left", type := 3, offset := 0, embedded := false, tag := "", pkgPath := "", byteOffset := 0 }, { name := "Right", type := 3, offset := 1, embedded := false, tag := "", pkgPath := "", byteOffset := 8 }] [Kk, Kk] := ⟨rfl, fun i f q aQ a4 => by
 match i with
 | 0=>simp at aQ a4;subst aQ;subst a4;exact ⟨rfl,by kernel_rfl,Nj⟩
 | 1=>simp at aQ a4;subst aQ;subst a4;exact ⟨rfl,by kernel_rfl,Nj⟩
 | i+2=>simp at a4⟩
theorem aek : Na enc Tryz.prog w #[{ name := "Sheet", type := 3, offset := 0, embedded := false, tag := "", pkgPath := "", byteOffset := 0 }, { name := "Turned", type := 3, offset := 1, embedded := false, tag := "", pkgPath := "", byteOffset := 8 }] [Kk, Kk] := ⟨rfl, fun i f q aQ a4 => by
 match i with
 | 0=>simp at aQ a4;subst aQ;subst a4;exact ⟨rfl,by kernel_rfl,Nj⟩
 | 1=>simp at aQ a4;subst aQ;subst a4;exact ⟨rfl,by kernel_rfl,Nj⟩
 | i+2=>simp at a4⟩
theorem adI:JV enc Tryz.prog w 22 Re:=fun n v y h=>by
 obtain ⟨u,a,b,c,L,rfl,ak,fk⟩:=V' Tryz.underlying22 Tryz.underlying67 (by kernel_rfl) (by decide) ael n v y h;obtain ⟨bj,rfl,aC⟩:=Sv (f:=p7) (R:=fun p:Int×Int=>IV p.1∧IV p.2) fun us hu=>by
  obtain ⟨p,e,ad,af⟩:=XI (fk us hu);exact ⟨p,e,ad,af⟩
 refine ⟨_,a,b,c,bj,?_,by have:=Sw ak;simpa using this,aC⟩;simp [OY,List.flatMap_def]
theorem adH:JV enc Tryz.prog w 25 Re:=fun n v y h=>by
 obtain ⟨u,a,b,c,L,rfl,ak,fk⟩:=V' Tryz.underlying25 Tryz.underlying65 (by kernel_rfl) (by decide) aek n v y h;obtain ⟨bj,rfl,aC⟩:=Sv (f:=p7) (R:=fun p:Int×Int=>IV p.1∧IV p.2) fun us hu=>by
  obtain ⟨p,e,ad,af⟩:=XI (fk us hu);exact ⟨p,e,ad,af⟩
 refine ⟨_,a,b,c,bj,?_,by have:=Sw ak;simpa using this,aC⟩;simp [OY,List.flatMap_def]
structure abU (b:p3):Prop where
 f:IV b.1
 l:Rb b.2
theorem adg:Arg enc Tryz.prog w base 24 fun u=>∃ b:p3,u=.agg [hS b.1,OY b.2]∧abU b:=by
 intro v d p ae a0
 obtain ⟨u,a,b,us,rfl,ak,hu⟩:=adj (P:=Tryz.prog) (enc:=enc) (w:=w) (base:=base) (Qs:=[Kk,Re]) Tryz.underlying24 (by kernel_rfl) ⟨rfl,fun i f q aQ a4=>by
  match i with
  | 0=>simp at aQ a4;subst aQ;subst a4;exact ⟨rfl,by kernel_rfl,Nj⟩
  | 1=>simp at aQ a4;subst aQ;subst a4;exact ⟨rfl,by kernel_rfl,adI⟩
  | i+2=>simp at a4⟩ v d p ae a0
 match us,ak with
 | [jo,aB],_ =>
   obtain ⟨x,rfl,al⟩:=hu 0 _ _ rfl rfl;obtain ⟨y,rfl,a1⟩:=hu 1 _ _ rfl rfl;exact ⟨_,a,b,(x,y),rfl,al,a1⟩
end
end Go.Proofs.YtfakoboiahbhaaaGreat.Ab


namespace Go.Proofs.YtfakoboiahbhaaaGreat.Ab
open Go Go.ChangeShapes Go.WideShapes Go.ChangeAt Go.RowKit
set_option maxRecDepth 100000
section
variable {H:Type} {enc:TypeId×Value→H} {w:World} {base:Nat}
structure U0 (l:List (List (Int×Int))):Prop where
 n:l.length≤9223372036854775807
 v:∀ r∈l,Rb r
theorem adh:Arg enc Tryz.prog w base 34 fun u=>∃ l,u=.ay (l.map (GU p7)) l.length .shared∧U0 l:=adi Tryz.underlying34 fun n v y h=>by
 obtain ⟨u,aB,aH,aR,l,rfl,bl,bc⟩:=adG Tryz.underlying34 (by kernel_rfl) adH n v y h;obtain ⟨gj,rfl,bg⟩:=Xs bc;exact ⟨_,aB,aH,aR,gj,by simp only [sZ];rfl,by simpa using Sw bl,bg⟩
end
end Go.Proofs.YtfakoboiahbhaaaGreat.Ab


namespace Go.Proofs.YtfakoboiahbhaaaGreat.Ab
open Go
def Ry:ir→ir→Bool
 | .shared,.shared=>true
 | .full,.full=>true
 | .own a,.own b=>Nat.beq a b
 | .uniq a,.uniq b=>Nat.beq a b
 | _,_=>false
theorem adC:∀ {a b:ir},Ry a b=true→a=b:=by
 intro a b h;cases a <;> cases b <;> simp only [Ry,tA] at h <;> first | rfl | (rw [sW h])
def IP (f:I→I→Bool):List I→List I→Bool
 | [],[]=>true
 | a::l,b::r=>match f a b with
   | true=>IP f l r
   | false=>false
 | _,_=>false
theorem J5 {f:I→I→Bool} (aQ:∀ a b,f a b=true→a=b):∀ {a b:List I},IP f a b=true→a=b
 | [],[],_=>rfl
 | [],_::_,h=>by simp [IP] at h
 | _::_,[],h=>by simp [IP] at h
 | a::l,b::r,h=>by
   simp only [IP] at h;split at h
   ·rename_i jB;rw [aQ a b jB,J5 aQ h]
   ·cases h
def Im:Nat→I→I→Bool
 | 0,_,_=>false
 | d+1,a,b=>match a,b with
   | .bool x,.bool y=>match x,y with | true,true=>true | false,false=>true | _,_=>false
   | .int k x,.int q y=>match decide (k=q),decide (x=y) with | true,true=>true | _,_=>false
   | .eC,.eC=>true
   | .bW x,.bW y=>IP (Im d) x y
   | .ay x n c,.ay y m e=>match IP (Im d) x y,Nat.beq n m,Ry c e with | true,true,true=>true | _,_,_=>false
   | .func f x y,.func g z w=>match Nat.beq f g,IP (Im d) x z,IP (Im d) y w with | true,true,true=>true | _,_,_=>false
   | .agg x,.agg y=>IP (Im d) x y
   | .tuple x,.tuple y=>IP (Im d) x y
   | _,_=>false
theorem MB:∀ (d:Nat) (a b:I),Im d a b=true→a=b
 | 0,_,_,h=>by simp [Im] at h
 | d+1,a,b,h=>by
   have a':=MB d;unfold Im at h;split at h
   ·split at h <;> first | rfl | cases h
   ·rename_i k x q y;split at h
    ·rename_i ad af;rw [of_decide_eq_true ad,of_decide_eq_true af]
    ·cases h
   ·rfl
   ·rw [J5 a' h]
   ·split at h
    ·rename_i ad af aG;rw [J5 a' ad,sW af,adC aG]
    ·cases h
   ·split at h
    ·rename_i ad af aG;rw [sW ad,J5 a' af,J5 a' aG]
    ·cases h
   ·rw [J5 a' h]
   ·rw [J5 a' h]
   ·cases h
inductive qu where
 | pure (k:Nat) (args:List I) (v:I)
 | map (k:Nat) (args:List I) (es:List (Nat×I×I)) (clock:Nat)
def qF (P:Program):qu→Prop
 | .pure k args v=>lk P k args v
 | .map k args es clock=>∀ H,Sem P (.fn k) args H H.length (.map H.length) (H++[.map es clock])
def look (k:Nat) (args:List I) (H:List au) (lo:Nat):List qu→Option (I×List au)
 | []=>none
 | .pure q bs v::r=>match Nat.beq k q with
   | true=>match IP (Im 20) args bs with
     | true=>match H with
       | []=>some (v,[])
       | _=>look k args H lo r
     | false=>look k args H lo r
   | false=>look k args H lo r
 | .map q bs es clock::r=>match Nat.beq k q with
   | true=>match IP (Im 20) args bs with
     | true=>match Nat.beq lo H.length with
       | true=>some (.map H.length,H++[.map es clock])
       | false=>look k args H lo r
     | false=>look k args H lo r
   | false=>look k args H lo r
def Up (l:List qu):b8:=fun b2 args H lo=>match b2 with
 | .fn k=>look k args H lo l
 | _=>none
theorem Sem.afF {P:Program} {b2:e5} {args:List I} {r:I} {H':List au} (h:Sem P b2 args [] 0 r H') (lo:Nat):Sem P b2 args [] lo r H' :=
 ⟨⟨h.1.1,fun _ _ h=>by simp at h⟩,h.2⟩
theorem look_ok {P:Program} {k:Nat} {args:List I} {H:List au} {lo:Nat} {r:I} {H':List au}:∀ {l:List qu},(∀ e∈l,qF P e)→look k args H lo l=some (r,H')→Sem P (.fn k) args H lo r H'
 | [],_,h=>by simp [look] at h
 | .pure q bs v::l,ak,h=>by
   have LF:=look_ok (k:=k) (args:=args) (H:=H) (lo:=lo) (r:=r) (H':=H') fun e he=>ak e (tP _ he);unfold look at h;split at h
   ·rename_i ad;split at h
    ·rename_i af;split at h
     ·cases h;have:=ak (.pure q bs r) ui;rw [sW ad,J5 (MB 20) af];exact this.1.afF lo
     ·exact LF h
    ·exact LF h
   ·exact LF h
 | .map q bs es clock::l,ak,h=>by
   have LF:=look_ok (k:=k) (args:=args) (H:=H) (lo:=lo) (r:=r) (H':=H') fun e he=>ak e (tP _ he);unfold look at h;split at h
   ·rename_i ad;split at h
    ·rename_i af;split at h
     ·rename_i aG;cases h;have:=ak (.map q bs es clock) ui;rw [sW ad,J5 (MB 20) af,sW aG];exact this H
     ·exact LF h
    ·exact LF h
   ·exact LF h
theorem aiT {P:Program} {l:List qu} (ak:∀ e∈l,qF P e):da P (Up l):=oI fun b2 args H lo r H' h=>by
 cases b2 with
 | fn k=>exact look_ok ak h
 | yield i=>simp [Up] at h
def Kz (A:FuncId→c9):Nat→List Func→Bool
 | _,[]=>true
 | k,f::r=>match (A k).bad with
   | true=>Kz A (k+1) r
   | false=>match f.body with
     | some c => match codeOk (A k) c, f.name == "runtime.NumGoroutine" with
       | true,false=>Kz A (k+1) r
       | _,_=>false
     | none=>Kz A (k+1) r
theorem XB {A : FuncId → c9} : ∀ {l : List Func} {k : Nat}, Kz A k l = true → ∀ (i : Nat) (f : Func) (c : Code), (A (k + i)).bad = false → l[i]? = some f → f.body = some c → codeOk (A (k + i)) c = true ∧ f.name ≠ "runtime.NumGoroutine"
 | [],_,_,i,f,c,_,h,_=>by simp at h
 | g::r,k,h,i,f,c,ng,aQ,ao=>by
   unfold Kz at h;cases i with
   | zero =>
     simp at aQ;subst aQ;rw [Nat.add_zero] at ng;rw [ng,ao] at h;simp only at h;split at h
     ·rename_i ad af;exact ⟨ad,by simpa using af⟩
     ·cases h
   | succ i =>
     have aj:Kz A (k+1) r=true:=by
      split at h
      ·exact h
      ·split at h
       ·split at h
        ·exact h
        ·cases h
       ·exact h
     have:=XB aj i f c (by rw [show k+1+i=k+(i+1) by omega];exact ng) (by simpa using aQ) ao;rw [show k+(i+1)=k+1+i by omega];exact this
theorem agB {P : Program} {A : FuncId → c9} (h : Kz A 0 P.funcs.toList = true) (k : Nat) (f : Func) (c : Code) (ag : (A k).bad = false) (aQ : P.funcs[k]? = some f) (ao : f.body = some c) : codeOk (A k) c = true ∧ f.name ≠ "runtime.NumGoroutine" := by
 have:=XB h k f c (by rw [sP];exact ag) (by simpa using aQ) ao
 rwa [sP] at this
theorem ada:Kz js 0 Go.Proofs.Tryz.prog.funcs.toList=true:=by kernel_rfl
noncomputable def Qd (l:List qu) (k:Nat) (args:List I):Option I:=match fS Go.Proofs.Tryz.prog js (Up l) 300 (.fn k) args [] 0 with
 | some (r,a3)=>match bL a3 0 a3.length 0 8 r with
   | some v=>match ct 8 v.settle with
     | true=>some v.settle
     | false=>none
   | none=>none
 | none=>none
theorem GO {l:List qu} (ak:∀ e∈l,qF Go.Proofs.Tryz.prog e) {k:Nat} {args:List I} {v:I} (h:Qd l k args=some v):lk Go.Proofs.Tryz.prog k args v:=by
 unfold Qd at h;split at h
 ·rename_i r a3 ao;split at h
  ·rename_i u aQ;split at h
   ·rename_i aC;cases h;have ai:=(BM dI js (aiT ak) (agB ada) 300).GD ao;refine ⟨⟨bb.refl _ _,ai.2.1,fun B U J S w xs ah aN ae=>CallsIn.mono (ai.2.2 B U J S w xs ah aN ae) fun e w' he=>?_⟩,aC⟩;cases e with
    | returned x =>
      have nu:=xj ah (fun id aE=>by simp at aE) aQ he;show a2 B U J S w [] u.settle x w';cases u with
      | ay cells len gx =>
        cases gx with
        | uniq z=>exact nu.settle
        | _=>exact nu
      | _=>exact nu
    | panicked c=>exact he.elim
    | outgrown=>exact he.elim
   ·cases h
  ·cases h
 ·cases h
end Go.Proofs.YtfakoboiahbhaaaGreat.Ab


namespace Go.Proofs.YtfakoboiahbhaaaGreat.Ab
open Go
noncomputable def ahP:ez :=
 .j3 false [Gq 5 0,Gp 6 2,Gq 7 2,gO 8 [.hM 7] (.conv .u64),gO 9 [.iD (.func 97 [] []),.sl 8] (.call 3),gO 10 [.iD (.func 96 [] []),.hJ 5,.iD (.int .i64 0),.hJ 6,.hJ 9] (.call 1)]
noncomputable def P4:ez :=
 GC [Gp 3 0,Gl 4 3,Gq 2 4] ahP
theorem Sr:zg Go.Proofs.Tryz.prog VO 73=some (P4,11,[]):=by kernel_rfl
noncomputable def LP:ez :=
 GC [Gq 24 0,Gq 25 1,Gq 26 2,gO 27 [.iD (.func 115 [] []),.hJ 24,.hJ 25,.hJ 26] (.call 1)] .ret
noncomputable def T7:ez :=
 GC [Gq 30 0,Gq 31 1,Gq 32 2,gO 33 [.iD (.func 116 [] []),.hJ 30,.hJ 31,.hJ 32] (.call 1)] .ret
noncomputable def T8:ez :=
 GC [Gp 36 0,Gp 37 1,Gp 38 2,gO 39 [.iD (.func 117 [] []),.hJ 36,.hJ 37,.hJ 38] (.call 1)] (Gt [Gq 40 3,F1 41 40 1 .sub,Gq 3 41])
noncomputable def T9:ez :=
 GC [Gp 55 2,F1 56 55 1 .sub,Gq 57 11,Gp 58 1,F2 59 57 58 .sub,F2 60 56 59 .sub,Gq 11 60] (Gt [Gn 12 1])
noncomputable def T_:ez :=
 GC [Gp 51 0,Gp 52 1,Gp 53 2,gO 54 [.iD (.func 119 [] []),.hJ 51,.hJ 52,.hJ 53] (.call 1)] T9
noncomputable def T':ez :=
 GC [Gp 69 0,Gp 70 1,Gp 71 2,gO 72 [.iD (.func 120 [] []),.hJ 69,.hJ 70,.hJ 71] (.call 1)] (.cond (.sl 72) .ret .skip)
noncomputable def Ua:ez :=
 GC [Gp 88 0,Gq 89 1,Gp 90 2,Gq 91 11,gO 92 [.iD (.func 122 [] []),.hJ 88,.hJ 89,.hJ 90,.hJ 91] (.call 1),Gq 13 92] (GC [Gq 93 13,Gq 1 93] (.exit 1))
noncomputable def Ub:ez :=
 GC [Gp 117 0,Gq 118 1,Gp 119 14,Gp 120 3,gO 121 [.iD (.func 96 [] []),.hJ 117,.hJ 118,.hJ 119,.hJ 120] (.call 1)] (Gt [Gq 122 14,F0 123 122 1,Gq 1 123])
noncomputable def Uc:ez :=
 GC [Gq 114 16,Gq 115 18,F2 116 114 115 .geq,Gq 8 116] Ub
noncomputable def T3:ez :=
 GC [Gp 127 0,Gp 128 14,F0 129 128 1,Gq 130 2,Gp 131 3,gO 132 [.iD (.func 96 [] []),.hJ 127,.hJ 129,.hJ 130,.hJ 131] (.call 1)] (Gt [Gq 133 14,Gq 2 133])
noncomputable def T4:ez :=
 GC [Gq 124 17,Gq 125 18,F2 126 124 125 .geq,Gq 8 126] T3
noncomputable def T5:ez :=
 GC [Gq 109 10,F1 110 109 8 .quo,Gq 18 110] (GC [Gp 111 16,Gp 112 17,F2 113 111 112 .lss] (.cond (.sl 113) Uc T4))
noncomputable def T6:ez :=
 GC [Gp 103 14,Gp 104 1,F2 105 103 104 .sub,Gp 106 2,Gp 107 14,F2 108 106 107 .sub,Gq 16 105,Gq 17 108] T5
noncomputable def P9:ez :=
 GC [Gp 95 0,Gp 96 1,Gp 97 2,Gq 98 11,gO 99 [.iD (.func 123 [] []),.hJ 95,.hJ 96,.hJ 97,.hJ 98] (.call 1),Gq 94 99,GK 100 94 0,gO 101 [.hM 94] (.ext 1),Gq 14 100,Gq 15 101] (GC [Gq 102 15,Gq 9 102] T6)
noncomputable def P_:ez :=
 .seq (.seq (Gu [Gp 73 1,F1 74 73 0 .gtr,Gq 75 74,cR 76 [.sl 0] 75 true .iT,cR 77 [.sl 1] 75 true .iT,cR 78 [.hM 77,.iD (.int .i64 1)] 75 true (.bin .sub),cR 79 [.hM 76,.hM 78] 75 true (.pQ 1),cR 80 [.hM 79] 75 true (.w8 .one),cR 81 [.sl 0] 75 true .iT,cR 82 [.sl 11] 75 true .iT,cR 83 [.hM 81,.hM 82] 75 true (.pQ 1),cR 84 [.hM 83] 75 true (.w8 .one),⟨some 85,[.iD (.func 121 [] []),.sl 80,.sl 84],some (75,true),none,.call 3⟩,cR 86 [.hM 85] 75 true (.un .not),gO 87 [.sl 75,.hM 86,.iD (.bool false)] .pick]) (.cond (.sl 87) Ua .skip)) P9
noncomputable def P':ez :=
 .seq (GC [Gp 61 8,Gq 62 61,cR 63 [.sl 9] 62 true .iT,gO 64 [.hM 62,.hM 63,.iD (.bool false)] .pick,Gq 65 64,cR 66 [.hJ 12] 65 true .iT,cR 67 [.hM 66,.iD (.int .i64 1)] 65 true (.bin .eql),gO 68 [.hM 65,.hM 67,.iD (.bool false)] .pick] (.cond (.sl 68) T' .skip)) P_
noncomputable def Qa:ez :=
 GC [Gp 43 0,Gp 44 1,Gp 45 2,gO 46 [.iD (.func 118 [] []),.hJ 43,.hJ 44,.hJ 45] (.call 1),Gq 42 46,GK 47 42 0,gO 48 [.hM 42] (.ext 1),Gq 11 47,Gq 12 48] (.seq (GC [Gp 49 12,F1 50 49 2 .eql] (.cond (.sl 50) T_ .skip)) P')
noncomputable def Oc:ez :=
 .seq (GC [Gp 28 3,F1 29 28 0 .eql] (.cond (.sl 29) T7 .skip)) (.seq (GC [Gp 34 8,gO 35 [.hM 34] (.un .not)] (.cond (.sl 35) T8 .skip)) Qa)
noncomputable def LQ:ez :=
 .block 1 (GC [Gp 19 2,Gp 20 1,F2 21 19 20 .sub,Gq 10 21] (.seq (GC [Gp 22 10,F1 23 22 12 .leq] (.cond (.sl 23) LP .skip)) Oc))
noncomputable def P8:ez :=
 GC [gO 8 [.iD (.bool true)] .iT] (GC [gO 9 [.iD (.bool true)] .iT] (.block 0 (.loop (some (EA false [0,4,4,2,124])) LQ)))
theorem Ss:zg Go.Proofs.Tryz.prog MA 96=some (P8,134,[]):=by kernel_rfl
noncomputable def ahb:ez :=
 .block 3 (Gu [Gp 33 0,Gp 34 7,Gp 35 0,Gp 36 7,F1 37 36 1 .sub,Gp 38 0,Gp 39 7,F1 40 39 1 .sub,Gi 41 38 40 1,Gm 42 41,Gp 43 0,Gp 44 7,Gi 45 43 44 1,Gm 46 45,Gi 47 33 34 1,⟨none,[.hJ 47,.hJ 42],none,none,.st 1⟩,Gi 48 35 37 1,⟨none,[.hJ 48,.hJ 46],none,none,.st 1⟩])
noncomputable def ahc:ez :=
 .seq (.seq (Gu [Gp 16 7,Gp 17 1,F2 18 16 17 .gtr,Gq 19 18,cR 20 [.sl 0] 19 true .iT,cR 21 [.sl 7] 19 true .iT,cR 22 [.hM 20,.hM 21] 19 true (.pQ 1),cR 23 [.hM 22] 19 true (.w8 .one),cR 24 [.sl 0] 19 true .iT,cR 25 [.sl 7] 19 true .iT,cR 26 [.hM 25,.iD (.int .i64 1)] 19 true (.bin .sub),cR 27 [.hM 24,.hM 26] 19 true (.pQ 1),cR 28 [.hM 27] 19 true (.w8 .one),⟨some 29,[.iD (.func 121 [] []),.sl 23,.sl 28],some (19,true),none,.call 3⟩,gO 30 [.sl 19,.hM 29,.iD (.bool false)] .pick]) (.cond (.sl 30) .skip (.exit 2))) (.seq ahb (Gt [Gq 31 7,F1 32 31 1 .sub,Gq 7 32]))
noncomputable def ahd:ez :=
 .block 1 (GC [Gp 15 6,Gq 7 15] (.block 2 (.loop (some (EA false [0,3,3,2,41])) ahc)))
noncomputable def ahe:ez :=
 .seq (GC [Gp 10 6,Gp 11 2,F2 12 10 11 .lss] (.cond (.sl 12) .skip (.exit 0))) (.seq ahd (Gt [Gq 13 6,F0 14 13 1,Gq 6 14]))
noncomputable def S2:ez :=
 GC [Gp 8 1,F0 9 8 1,Gq 6 9] (.block 0 (.loop (some (EA false [0,3,3,1,42])) ahe))
theorem Xl:zg Go.Proofs.Tryz.prog Vh 115=some (S2,49,[]):=by kernel_rfl
noncomputable def ahq:ez :=
 GC [Gp 5 0,gO 6 [.iD (.func 137 [] []),.sl 5] (.call 3),Gq 7 6,cR 8 [.sl 1] 7 true .iT,⟨some 9,[.iD (.func 137 [] []),.sl 8],some (7,true),none,.call 3⟩,cR 10 [.hM 9] 7 true (.un .not),gO 11 [.hM 7,.hM 10,.iD (.bool false)] .pick,Gq 12 11,cR 13 [.hJ 0] 12 false .iT,cR 14 [.hJ 1] 12 false .iT,cR 15 [.hM 13,.hM 14] 12 false (.bin .lss),gO 16 [.hM 12,.iD (.bool true),.hM 15] .pick,Gq 4 16] .ret
noncomputable def X':ez :=
 GC [gO 4 [.iD (.bool false)] .iT] ahq
theorem aft:zg Go.Proofs.Tryz.prog Vm 121=some (X',17,[.tmp 4]):=by kernel_rfl
noncomputable def ahK:ez :=
 GC [Gp 3 0,Gq 4 0,F2 5 3 4 .neq,Gq 2 5] .ret
noncomputable def Yq:ez :=
 GC [gO 2 [.iD (.bool false)] .iT] ahK
theorem afB:zg Go.Proofs.Tryz.prog Vu 137=some (Yq,6,[.tmp 2]):=by kernel_rfl
end Go.Proofs.YtfakoboiahbhaaaGreat.Ab


namespace Go.Proofs.YtfakoboiahbhaaaGreat.Ab
open Go
set_option maxRecDepth 20000
set_option maxHeartbeats 4000000
theorem afi (x:Int):qt 137 [hS x] (B false):=by
 refine F8 dI afB rfl rfl ?_;unfold Yq;conv=>whnf
 exact Gw (.inr rfl) rfl (by rw [decide_eq_false (show ¬ (x≠x) from fun h=>h rfl)];rfl)
theorem HV (x y:Int):qt 121 [hS x,hS y] (B (decide (x<y))):=by
 refine F8 dI aft rfl rfl ?_;unfold X';conv=>whnf
 refine ⟨by first | rfl | simp only [sG,sM,GY,G6,GZ,G1,G0,G2,G8,G7,rQ,G3,G4,G5,sN,sL],_,afi x,?_⟩
 conv=>whnf
 exact Gw (.inr rfl) rfl rfl
def qe (d:Array Int):au:=.cells (d.toList.map hS)
def qk (id n:Nat):I:=.ref id 0 n none 1
theorem adD (d:Array Int) (x:Nat) (h:x<d.size):(d.toList.map hS)[x]?=some (hS d[x]!):=by
 simp [h]
theorem adE (d:Array Int) (x:Nat) (v:Int):(d.toList.map hS).set x (hS v)=(d.setIfInBounds x v).toList.map hS:=by
 simp [ud]
theorem swp_size (d:Array Int) (i j:Nat):(Sort.swp d i j).size=d.size:=by simp [Sort.swp]
theorem qv {d:Array Int} {n:Nat} (x:Nat) (e:n=x) (h:x<d.size) {K:I→Prop} (k:K (hS d[x]!)):eQ (d.toList.map hS) n K:=by
 subst e;exact DX (adD d n h) k
theorem rf {d:Array Int} {n:Nat} {v:Int} (x:Nat) (e:n=x) (h:x<d.size) {K:List I→Prop} (k:K ((d.setIfInBounds x v).toList.map hS)):jf (d.toList.map hS) n (hS v) K:=by
 subst e;refine A' (by simpa using h) ?_;rw [adE];exact k
section
variable {H:List au} {id lo:Nat} (bF:lo≤id)
include bF
theorem Xa (d:Array Int) (a b:Nat) (a0:d.size≤1000) (cg:a≤b) (ag:b≤d.size) (ah:H[id]?=some (qe d)) :
  Sem Go.Proofs.Tryz.prog (.fn 115) [qk id d.size,hS a,hS b] H lo (.tuple []) (H.set id (qe (Sort.insertionSort Sort.ltInt d a b))):=by
 have aE:=(rV.1 ah).1;refine JG dI Xl rfl ⟨by simp,fun j ad af=>by rw [sa (by omega)]⟩ ?_;unfold S2;conv=>whnf
 have Cd:Nat.ble lo id=true:=sX bF;have gs:∀ c:au,(H.set id c)[id]?=some c:=fun c=>by rw [rY aE]
 have qa:∀ c e:au,((H.set id c).set id e)[id]?=some e:=fun c e=>by rw [rZ,gs]
 rw [qU a (by omega)];refine .intro (fun m T H'=>∃ i gT,a+1≤i∧(i≤b∨i=a+1)∧m=b+1-i∧gT.size=d.size∧Sort.insOuter Sort.ltInt a b i gT=Sort.insertionSort Sort.ltInt d a b∧T=GH 49 [(0,qk id d.size),(1,hS a),(2,hS b),(6,hS i)]∧H'=H.set id (qe gT)) (b-a) ⟨a+1,d,by omega,.inr rfl,by omega,rfl,rfl,rfl,?_⟩ ?_
 ·obtain ⟨ad,af⟩:=rV.1 ah;rw [←af,tC]
 rintro m T H' ⟨i,gT,HK,Pt,rfl,Cn,he,rfl,rfl⟩;conv=>whnf
 refine JF (fun h=>?_) (fun h=>?_)
 ·conv=>whnf
  refine .intro (fun j T H'=>∃ qA:Array Int,j≤i∧qA.size=d.size∧Sort.insInner Sort.ltInt a j qA=Sort.insInner Sort.ltInt a i gT∧T=GH 49 [(0,qk id d.size),(1,hS a),(2,hS b),(6,hS i),(7,hS j)]∧H'=H.set id (qe qA)) i ⟨gT,rX _,Cn,rfl,rfl,rfl⟩ ?_;rintro j T H' ⟨qA,aw,Lz,LA,rfl,rfl⟩;conv=>whnf
  by_cases aG:(a:Int)<(j:Int)
  ·rw [decide_eq_true aG];obtain ⟨q,rfl⟩:∃ q,j=q+1:=⟨j-1,by omega⟩;(have hw:IntKind.i64.wrap (((q+1:Nat):Int)-1)=(q:Int):=by rw [qm _ (by omega) (by omega)];omega);(conv=>whnf);refine ⟨by omega,?_⟩;(conv=>whnf);refine DX (by first | exact gs _ | exact qa _ _ | assumption) ?_
   (conv=>whnf);refine qv (q+1) (by omega) (by omega) ?_;(conv=>whnf);rw [hw];refine ⟨by omega,?_⟩;(conv=>whnf);refine DX (by first | exact gs _ | exact qa _ _ | assumption) ?_
   (conv=>whnf);refine qv (q) (by omega) (by omega) ?_;(conv=>whnf);refine ⟨by first | rfl | simp only [sG,sM,GY,G6,GZ,G1,G0,G2,G8,G7,rQ,G3,G4,G5,sN,sL],_,HV qA[q+1]! qA[q]!,GX,?_⟩
   (conv=>whnf);by_cases a7:qA[q+1]!<qA[q]!
   ·rw [decide_eq_true a7];(conv=>whnf);rw [hw];refine ⟨by omega,?_⟩;(conv=>whnf);refine DX (by first | exact gs _ | exact qa _ _ | assumption) ?_
    (conv=>whnf);refine qv (q) (by omega) (by omega) ?_;(conv=>whnf);refine ⟨by omega,?_⟩;(conv=>whnf);refine DX (by first | exact gs _ | exact qa _ _ | assumption) ?_
    (conv=>whnf);refine qv (q+1) (by omega) (by omega) ?_;(conv=>whnf);refine ⟨by omega,?_⟩;(conv=>whnf);rw [Cd];(conv=>whnf);refine DX (by first | exact gs _ | exact qa _ _ | assumption) ?_
    (conv=>whnf);refine rf (q+1) (by omega) (by first | omega | (simp only [sr];omega)) ?_
    (conv=>whnf);refine ⟨by omega,?_⟩;(conv=>whnf);rw [Cd];(conv=>whnf);refine DX (by first | exact gs _ | exact qa _ _ | assumption) ?_
    (conv=>whnf);refine rf (q) (by omega) (by first | omega | (simp only [sr];omega)) ?_
    (conv=>whnf);refine ⟨q,by omega,Sort.swp qA (q+1) q,by omega,by rw [swp_size];exact Lz,?_,?_,?_⟩
    ·rw [←LA,Sort.insInner,if_pos (by simp only [Sort.ltInt,r_,decide_eq_true_eq];exact ⟨by omega,a7⟩)]
    ·rw [hw];rfl
    ·simp only [rZ];rfl
   ·rw [decide_eq_false a7];(conv=>whnf);have e:Sort.insInner Sort.ltInt a i gT=qA:=by
     rw [←LA,Sort.insInner,if_neg (by simp only [Sort.ltInt,r_,decide_eq_true_eq];exact fun bK=>a7 bK.2)]
    exact ⟨b+1-(i+1),by omega,i+1,qA,by omega,by omega,rfl,Lz,by rw [←he,Sort.insOuter.eq_1 _ a b i,if_pos (by omega),e],by rw [←qU i (by omega)];rfl,rfl⟩
  ·rw [decide_eq_false aG];(conv=>whnf);have e:Sort.insInner Sort.ltInt a i gT=qA:=by
    rw [←LA];cases j with
    | zero=>rfl
    | succ q=>rw [Sort.insInner,if_neg (by simp only [r_,decide_eq_true_eq];exact fun bK=>by omega)]
   exact ⟨b+1-(i+1),by omega,i+1,qA,by omega,by omega,rfl,Lz,by rw [←he,Sort.insOuter.eq_1 _ a b i,if_pos (by omega),e],by rw [←qU i (by omega)];rfl,rfl⟩
 ·conv=>whnf
  have e:Sort.insertionSort Sort.ltInt d a b=gT:=by
   rw [←he];unfold Sort.insOuter;rw [if_neg (by omega)]
  rw [e];exact ⟨.inl rfl,⟨by simp,fun j o aw=>.inr aw⟩,rfl⟩
theorem aih {l:List au} {i:Nat} {x:au} (h:l[i]?=some x):l.set i x=l:=by
 obtain ⟨ad,af⟩:=rV.1 h;rw [←af,tC]
theorem agT (d:Array Int) (qx:Int) (a0:d.size≤12) (ah:H[id]?=some (qe d)) :
  Sem Go.Proofs.Tryz.prog (.fn 96) [qk id d.size,hS 0,hS d.size,hS qx] H lo (.tuple []) (H.set id (qe (Sort.insertionSort Sort.ltInt d 0 d.size))):=by
 refine rH dI Ss rfl ⟨by simp,fun j ad af=>by rw [sa (by omega)]⟩ fun Q bn=>?_;unfold P8;obtain ⟨O7,Ip⟩:∃ c,LQ=c:=⟨_,rfl⟩;rw [Ip];conv=>whnf
 refine .intro (fun m T H'=>T=GH 134 [(0,qk id d.size),(1,hS 0),(2,hS d.size),(3,hS qx),(8,B true),(9,B true)]∧H'=H) 0 ⟨rfl,rfl⟩ ?_;rintro m T H' ⟨rfl,rfl⟩;subst Ip;unfold LQ;obtain ⟨ba,cd⟩:∃ c,LP=c:=⟨_,rfl⟩;obtain ⟨O6,JH⟩:∃ c,Oc=c:=⟨_,rfl⟩;rw [cd,JH];conv=>whnf
 rw [show IntKind.i64.wrap ((d.size:Int)-0)=(d.size:Int) by rw [qm _ (by omega) (by omega)];omega,decide_eq_true (show (d.size:Int)≤12 by omega)];conv=>whnf
 subst cd;unfold LP;conv=>whnf
 refine ⟨_,_,qS (Xa bF d 0 d.size (by omega) (si _) (rX _) ah),?_⟩;conv=>whnf
 exact bn _ _ _ ⟨.inr rfl,⟨rfl,fun j o aw=>.inr aw⟩,rfl⟩
end
theorem JR (n:Int):IntKind.u64.wrap n=n % 18446744073709551616:=by simp [IntKind.wrap,IntKind.bits,IntKind.signed]
theorem So:((List.range 13).all fun n=>match Qd [] 97 [.int .u64 (n:Nat)] with | some v=>Im 3 v (hS (Sort.bitsLen n)) | none=>false)=true:=by kernel_rfl
theorem Lp (n:Nat) (h:n≤12):qt 97 [.int .u64 n] (hS (Sort.bitsLen n)):=by
 have:=ss.1 So n (sx.2 (by omega));split at this
 ·rename_i v ae;rw [MB _ _ _ this] at ae;exact GO (l:=[]) (by simp) ae
 ·cases this
theorem aik {H:List au} {id lo:Nat} (bF:lo≤id) (d:Array Int) (a0:d.size≤12) (ah:H[id]?=some (qe d)) :
  Sem Go.Proofs.Tryz.prog (.fn 73) [qk id d.size] H lo (.tuple []) (H.set id (qe (Sort.insertionSort Sort.ltInt d 0 d.size))):=by
 refine rH dI Sr rfl ⟨by simp,fun j ad af=>by rw [sa (by omega)]⟩ fun Q bn=>?_;unfold P4;conv=>whnf
 rw [show IntKind.u64.wrap (d.size:Int)=(d.size:Int) by rw [JR];omega];refine ⟨by first | rfl | simp only [sG,sM,GY,G6,GZ,G1,G0,G2,G8,G7,rQ,G3,G4,G5,sN,sL],_,Lp d.size a0,?_⟩
 conv=>whnf
 refine ⟨_,_,qS (agT bF d (Sort.bitsLen d.size) a0 ah),?_⟩;conv=>whnf
 exact bn _ _ _ ⟨.inl rfl,⟨rfl,fun j o aw=>.inr aw⟩,rfl⟩
end Go.Proofs.YtfakoboiahbhaaaGreat.Ab


namespace Go.Proofs.YtfakoboiahbhaaaGreat.Ab
open Go
noncomputable def aha:ez :=
 .j3 false [Gq 7 0,Gp 8 4,Gq 9 4,gO 10 [.hM 9] (.conv .u64),gO 11 [.iD (.func 97 [] []),.sl 10] (.call 3),Gq 12 1,gO 13 [.iD (.func 127 [] []),.hJ 7,.iD (.int .i64 0),.hJ 8,.hJ 11,.hJ 12] (.call 1)]
noncomputable def SU:ez :=
 GC [Gp 5 0,Gl 6 5,Gq 4 6] aha
theorem Xk:zg Go.Proofs.Tryz.prog Ve 102=some (SU,14,[]):=by kernel_rfl
noncomputable def N_:ez :=
 GC [Gq 26 0,Gq 27 1,Gq 28 2,Gq 29 4,gO 30 [.iD (.func 138 [] []),.hJ 26,.hJ 27,.hJ 28,.hJ 29] (.call 1)] .ret
noncomputable def ahC:ez :=
 GC [Gq 33 0,Gq 34 1,Gq 35 2,Gq 36 4,gO 37 [.iD (.func 139 [] []),.hJ 33,.hJ 34,.hJ 35,.hJ 36] (.call 1)] .ret
noncomputable def ahD:ez :=
 GC [Gp 40 0,Gp 41 1,Gp 42 2,Gp 43 4,gO 44 [.iD (.func 140 [] []),.hJ 40,.hJ 41,.hJ 42,.hJ 43] (.call 1)] (Gt [Gq 45 3,F1 46 45 1 .sub,Gq 3 46])
noncomputable def ahE:ez :=
 GC [Gp 62 2,F1 63 62 1 .sub,Gq 64 13,Gp 65 1,F2 66 64 65 .sub,F2 67 63 66 .sub,Gq 13 67] (Gt [Gn 14 1])
noncomputable def ahF:ez :=
 GC [Gp 57 0,Gp 58 1,Gp 59 2,Gp 60 4,gO 61 [.iD (.func 142 [] []),.hJ 57,.hJ 58,.hJ 59,.hJ 60] (.call 1)] ahE
noncomputable def ahG:ez :=
 GC [Gp 76 0,Gp 77 1,Gp 78 2,Gp 79 4,gO 80 [.iD (.func 143 [] []),.hJ 76,.hJ 77,.hJ 78,.hJ 79] (.call 1)] (.cond (.sl 80) .ret .skip)
noncomputable def ahH:ez :=
 GC [Gp 98 0,Gq 99 1,Gp 100 2,Gq 101 13,Gp 102 4,gO 103 [.iD (.func 144 [] []),.hJ 98,.hJ 99,.hJ 100,.hJ 101,.hJ 102] (.call 1),Gq 15 103] (GC [Gq 104 15,Gq 1 104] (.exit 1))
noncomputable def ahI:ez :=
 GC [Gp 129 0,Gq 130 1,Gp 131 16,Gp 132 3,Gp 133 4,gO 134 [.iD (.func 127 [] []),.hJ 129,.hJ 130,.hJ 131,.hJ 132,.hJ 133] (.call 1)] (Gt [Gq 135 16,F0 136 135 1,Gq 1 136])
noncomputable def ahJ:ez :=
 GC [Gq 126 18,Gq 127 20,F2 128 126 127 .geq,Gq 10 128] ahI
noncomputable def ahu:ez :=
 GC [Gp 140 0,Gp 141 16,F0 142 141 1,Gq 143 2,Gp 144 3,Gp 145 4,gO 146 [.iD (.func 127 [] []),.hJ 140,.hJ 142,.hJ 143,.hJ 144,.hJ 145] (.call 1)] (Gt [Gq 147 16,Gq 2 147])
noncomputable def ahv:ez :=
 GC [Gq 137 19,Gq 138 20,F2 139 137 138 .geq,Gq 10 139] ahu
noncomputable def ahw:ez :=
 GC [Gq 121 12,F1 122 121 8 .quo,Gq 20 122] (GC [Gp 123 18,Gp 124 19,F2 125 123 124 .lss] (.cond (.sl 125) ahJ ahv))
noncomputable def ahx:ez :=
 GC [Gp 115 16,Gp 116 1,F2 117 115 116 .sub,Gp 118 2,Gp 119 16,F2 120 118 119 .sub,Gq 18 117,Gq 19 120] ahw
noncomputable def ahy:ez :=
 GC [Gp 106 0,Gp 107 1,Gp 108 2,Gq 109 13,Gp 110 4,gO 111 [.iD (.func 145 [] []),.hJ 106,.hJ 107,.hJ 108,.hJ 109,.hJ 110] (.call 1),Gq 105 111,GK 112 105 0,gO 113 [.hM 105] (.ext 1),Gq 16 112,Gq 17 113] (GC [Gq 114 17,Gq 11 114] ahx)
noncomputable def ahz:ez :=
 .seq (.seq (Gu [Gp 81 1,F1 82 81 0 .gtr,Gq 83 82,cR 84 [.sl 4] 83 true .iT,cR 85 [.sl 0] 83 true .iT,cR 86 [.sl 1] 83 true .iT,cR 87 [.hM 86,.iD (.int .i64 1)] 83 true (.bin .sub),cR 88 [.hM 85,.hM 87] 83 true (.pQ 1),cR 89 [.hM 88] 83 true (.w8 .one),cR 90 [.sl 0] 83 true .iT,cR 91 [.sl 13] 83 true .iT,cR 92 [.hM 90,.hM 91] 83 true (.pQ 1),cR 93 [.hM 92] 83 true (.w8 .one),cR 94 [.sl 84,.sl 89,.sl 93] 83 true (.call 6),cR 95 [.hM 94,.iD (.int .i64 0)] 83 true (.bin .lss),cR 96 [.hM 95] 83 true (.un .not),gO 97 [.sl 83,.hM 96,.iD (.bool false)] .pick]) (.cond (.sl 97) ahH .skip)) ahy
noncomputable def ahA:ez :=
 .seq (GC [Gp 68 10,Gq 69 68,cR 70 [.sl 11] 69 true .iT,gO 71 [.hM 69,.hM 70,.iD (.bool false)] .pick,Gq 72 71,cR 73 [.hJ 14] 72 true .iT,cR 74 [.hM 73,.iD (.int .i64 1)] 72 true (.bin .eql),gO 75 [.hM 72,.hM 74,.iD (.bool false)] .pick] (.cond (.sl 75) ahG .skip)) ahz
noncomputable def ahB:ez :=
 GC [Gp 48 0,Gp 49 1,Gp 50 2,Gp 51 4,gO 52 [.iD (.func 141 [] []),.hJ 48,.hJ 49,.hJ 50,.hJ 51] (.call 1),Gq 47 52,GK 53 47 0,gO 54 [.hM 47] (.ext 1),Gq 13 53,Gq 14 54] (.seq (GC [Gp 55 14,F1 56 55 2 .eql] (.cond (.sl 56) ahF .skip)) ahA)
noncomputable def TA:ez :=
 .seq (GC [Gp 31 3,F1 32 31 0 .eql] (.cond (.sl 32) ahC .skip)) (.seq (GC [Gp 38 10,gO 39 [.hM 38] (.un .not)] (.cond (.sl 39) ahD .skip)) ahB)
noncomputable def N':ez :=
 .block 1 (GC [Gp 21 2,Gp 22 1,F2 23 21 22 .sub,Gq 12 23] (.seq (GC [Gp 24 12,F1 25 24 12 .leq] (.cond (.sl 25) N_ .skip)) TA))
noncomputable def Tz:ez :=
 GC [gO 10 [.iD (.bool true)] .iT] (GC [gO 11 [.iD (.bool true)] .iT] (.block 0 (.loop (some (EA false [0,5,5,2,136])) N')))
theorem Xn:zg Go.Proofs.Tryz.prog Vo 127=some (Tz,148,[]):=by kernel_rfl
noncomputable def ahL:ez :=
 .block 3 (Gu [Gp 37 0,Gp 38 9,Gp 39 0,Gp 40 9,F1 41 40 1 .sub,Gp 42 0,Gp 43 9,F1 44 43 1 .sub,Gi 45 42 44 1,Gm 46 45,Gp 47 0,Gp 48 9,Gi 49 47 48 1,Gm 50 49,Gi 51 37 38 1,⟨none,[.hJ 51,.hJ 46],none,none,.st 1⟩,Gi 52 39 41 1,⟨none,[.hJ 52,.hJ 50],none,none,.st 1⟩])
noncomputable def ahM:ez :=
 .seq (.seq (Gu [Gp 18 9,Gp 19 1,F2 20 18 19 .gtr,Gq 21 20,cR 22 [.sl 3] 21 true .iT,cR 23 [.sl 0] 21 true .iT,cR 24 [.sl 9] 21 true .iT,cR 25 [.hM 23,.hM 24] 21 true (.pQ 1),cR 26 [.hM 25] 21 true (.w8 .one),cR 27 [.sl 0] 21 true .iT,cR 28 [.sl 9] 21 true .iT,cR 29 [.hM 28,.iD (.int .i64 1)] 21 true (.bin .sub),cR 30 [.hM 27,.hM 29] 21 true (.pQ 1),cR 31 [.hM 30] 21 true (.w8 .one),cR 32 [.sl 22,.sl 26,.sl 31] 21 true (.call 6),cR 33 [.hM 32,.iD (.int .i64 0)] 21 true (.bin .lss),gO 34 [.sl 21,.hM 33,.iD (.bool false)] .pick]) (.cond (.sl 34) .skip (.exit 2))) (.seq ahL (Gt [Gq 35 9,F1 36 35 1 .sub,Gq 9 36]))
noncomputable def ahN:ez :=
 .block 1 (GC [Gp 17 8,Gq 9 17] (.block 2 (.loop (some (EA false [0,4,4,2,43])) ahM)))
noncomputable def ahO:ez :=
 .seq (GC [Gp 12 8,Gp 13 2,F2 14 12 13 .lss] (.cond (.sl 14) .skip (.exit 0))) (.seq ahN (Gt [Gq 15 8,F0 16 15 1,Gq 8 16]))
noncomputable def TE:ez :=
 GC [Gp 10 1,F0 11 10 1,Gq 8 11] (.block 0 (.loop (some (EA false [0,4,4,1,44])) ahO))
theorem Xo:zg Go.Proofs.Tryz.prog Vv 138=some (TE,53,[]):=by kernel_rfl
noncomputable def ahr:ez :=
 GC [Gp 11 1,Gp 12 0,Gp 13 5,Gi 14 12 13 1,Gm 15 14,gO 16 [.sl 11,.sl 15] (.call 6)] (.cond (.sl 16) (GC [Gq 17 5,Gq 4 17] .ret) .skip)
noncomputable def ahs:ez :=
 .block 1 (GC [Gp 10 8,Gq 5 10] ahr)
noncomputable def aht:ez :=
 .seq (GC [Gp 6 0,Gl 7 6,Gn 8 0] (.block 0 (.loop (some (EA false [0,2,5,2,10])) (GC [gO 9 [.sl 8,.sl 7] (.bin .lss)] (.seq (.cond (.sl 9) .skip (.exit 0)) (.seq ahs (Gt [F0 18 8 1,Gq 8 18]))))))) (GC [Gn 4 (-1)] .ret)
noncomputable def Ty:ez :=
 GC [Gn 4 0] aht
theorem Xm:zg Go.Proofs.Tryz.prog Vn 126=some (Ty,19,[.tmp 4]):=by kernel_rfl
noncomputable def TQ:ez :=
 GC [Gp 45 0,Gp 46 3,Gp 47 4,Gp 48 5,Gi 49 47 48 1,Gm 50 49,Gi 51 45 46 1,⟨none,[.hJ 51,.hJ 50],none,none,.st 1⟩] (Gt [Gq 52 3,F0 53 52 1,Gq 3 53])
noncomputable def Yt:ez :=
 .block 3 (.seq (Gu [Gp 35 4,Gp 36 5,Gi 37 35 36 1,Gm 38 37,Gp 39 4,Gp 40 5,F1 41 40 1 .sub,Gi 42 39 41 1,Gm 43 42,F2 44 38 43 .neq]) (.cond (.sl 44) TQ .skip))
noncomputable def TR:ez :=
 .seq (GC [Gp 29 5,Gp 30 4,Gl 31 30,F2 32 29 31 .lss] (.cond (.sl 32) .skip (.exit 2))) (.seq Yt (Gt [Gq 33 5,F0 34 33 1,Gq 5 34]))
noncomputable def Yu:ez :=
 GC [Gq 57 0,Gq 58 3,gO 59 [.hJ 57,.hJ 58] (.AY 1 false true false),Gq 2 59] .ret
noncomputable def TS:ez :=
 GC [Gp 54 0, Gp 55 3, gO 56 [.hJ 54, .hJ 55] (.AY 1 true false false), ⟨none, [.hJ 56], none, none, .other (Oper.mk none (Op.call (Call.mk (Callee.builtin Builtin.clear) (Array.mk [Operand.tmp 56]) (Array.mk [38]))) 0 "slices.go:385" (Array.mk [Edge.mk 2 Ground.data]) none) 0⟩] Yu
noncomputable def TT:ez :=
 GC [Gp 26 0,Gp 27 3,gO 28 [.hJ 26,.hJ 27] (.AY 1 true false false),Gq 4 28] (.seq (GC [Gn 5 1] (.block 2 (.loop (some (EA false [0,1,2,3,55])) TR))) TS)
noncomputable def Yv:ez :=
 .block 1 (.seq (Gu [Gp 16 0,Gp 17 3,Gi 18 16 17 1,Gm 19 18,Gp 20 0,Gp 21 3,F1 22 21 1 .sub,Gi 23 20 22 1,Gm 24 23,F2 25 19 24 .eql]) (.cond (.sl 25) TT .skip))
noncomputable def Ob:ez :=
 .seq (GC [Gp 10 3,Gp 11 0,Gl 12 11,F2 13 10 12 .lss] (.cond (.sl 13) .skip (.exit 0))) (.seq Yv (Gt [Gq 14 3,F0 15 14 1,Gq 3 15]))
noncomputable def MN:ez :=
 .seq (GC [⟨some 6,[.hJ 0],none,some 0,.A7⟩,Gl 7 6,F1 8 7 2 .lss] (.cond (.sl 8) (GC [Gq 9 0,Gq 2 9] .ret) .skip)) (.seq (GC [Gn 3 1] (.block 0 (.loop (some (EA false [0,1,2,1,57])) Ob))) (GC [Gq 60 0,Gq 2 60] .ret))
noncomputable def TP:ez :=
 GC [gO 2 [.iD (.ay [] 0 .full)] (.nil 1)] MN
theorem Xp:zg Go.Proofs.Tryz.prog Ro 74=some (TP,61,[.tmp 2]):=by kernel_rfl
end Go.Proofs.YtfakoboiahbhaaaGreat.Ab


namespace Go.Proofs.YtfakoboiahbhaaaGreat.Ab
open Go
set_option maxRecDepth 20000
set_option maxHeartbeats 4000000
noncomputable def aa3:ez :=
 GC [Gn 4 0] (.seq (Gu [Gq 5 0,gO 6 [.hM 5,.iD (.int .i64 0)] (.pQ 1),Gm 7 6,Gq 8 1,gO 9 [.hM 8,.iD (.int .i64 0)] (.pQ 1),Gm 10 9,F2 11 7 10 .sub,Gq 4 11]) .ret)
theorem afH:zg Tryz.prog Vf 103=some (aa3,12,[.tmp 4]):=by kernel_rfl
def Uw (x y:p0):Option Int :=
 p2 (0≤(0:Int)∧(0:Int)<(x.length:Int)) <|
 p2 (0≤(0:Int)∧(0:Int)<(y.length:Int)) <|
 some (w ((ix x (0:Int))-(ix y (0:Int))))
theorem ajO {x:p0} {y:p0} {v:Int} (h:Uw x y=some v):qt 103 [(.ay (x.map hS) x.length .shared),(.ay (y.map hS) y.length .shared)] (hS v):=by
 refine qN dI afH rfl rfl fun Q bn=>?_;have jz:qD [.tmp 4] Q (fun v=>(hS v)) v:=fun T H bK=>bn _ T H bK;unfold Uw at h;unfold aa3;conv=>whnf
 refine qy h id fun eV h=>?_;rw [Ht hS x (0:Int) eV];conv=>whnf
 refine qy h id fun fl h=>?_;rw [Ht hS y (0:Int) fl];conv=>whnf
 exact qd h jz rfl rfl

theorem aiA (d:Array (List Int)) (i j:Nat):(Sort.swp d i j).size=d.size:=by simp [Sort.swp]
theorem swp_get (d:Array (List Int)) (i j x:Nat) (hi:i<d.size) (aw:j<d.size):∃ y,y<d.size∧(x<d.size→(Sort.swp d i j)[x]! = d[y]!):=by
 by_cases al:x<d.size
 ·by_cases af:x=j
  ·exact ⟨i,hi,fun _=>by subst af;simp [Sort.swp,aw]⟩
  ·by_cases ad:x=i
   ·exact ⟨j,aw,fun _=>by subst ad;simp [Sort.swp,hi,Array.getElem_setIfInBounds,Ne.symm af]⟩
   ·exact ⟨x,al,fun _=>by simp [Sort.swp,al,Array.getElem_setIfInBounds,Ne.symm ad,Ne.symm af]⟩
 ·exact ⟨i,hi,fun h=>absurd h al⟩
def Jz (g:Nat) (d:Array (List Int)):au:=.grow (d.toList.map jk) g 1
theorem adJ (d:Array (List Int)) (x:Nat) (h:x<d.size):(d.toList.map jk)[x]?=some (jk d[x]!):=by
 simp [h]
theorem adK (d:Array (List Int)) (x:Nat) (v:List Int):(d.toList.map jk).set x (jk v)=(d.setIfInBounds x v).toList.map jk:=by
 simp [ud]
theorem Qb {d:Array (List Int)} {n:Nat} (x:Nat) (e:n=x) (h:x<d.size) {K:I→Prop} (k:K (jk d[x]!)):eQ (d.toList.map jk) n K:=by
 subst e;exact DX (adJ d n h) k
theorem ZW {d:Array (List Int)} {n:Nat} {v:List Int} (x:Nat) (e:n=x) (h:x<d.size) {K:List I→Prop} (k:K ((d.setIfInBounds x v).toList.map jk)):jf (d.toList.map jk) n (jk v) K:=by
 subst e;refine A' (by simpa using h) ?_;rw [adK];exact k
def Kl (l:List Int):Prop:=l≠[]∧0≤ix l 0∧ix l 0≤1000
def HR (x y:List Int):Bool:=decide (ix x 0<ix y 0)
theorem adS {x y:List Int} (al:Kl x) (a1:Kl y):∃ r:Int,qt 103 [jk x,jk y] (hS r)∧decide (r<0)=HR x y:=by
 refine ⟨ix x 0-ix y 0,ajO ?_,?_⟩
 ·have ad:=uG.2 al.1;have af:=uG.2 a1.1;rw [Uw,qb ⟨by omega,by omega⟩,qb ⟨by omega,by omega⟩,LU (by have:=al.2;have:=a1.2;omega)]
 ·unfold HR;congr 1;exact propext (by omega)
section
variable {H:List au} {id lo g:Nat} (bF:lo≤id)
include bF
theorem afh (d:Array (List Int)) (a b:Nat) (a0:d.size≤1000) (cg:a≤b) (ag:b≤d.size) (ah:H[id]?=some (Jz g d)) (NK:∀ x,x<d.size→Kl d[x]!) :
  Sem Go.Proofs.Tryz.prog (.fn 138) [qk id d.size,hS a,hS b,.func 103 [] []] H lo (.tuple []) (H.set id (Jz g (Sort.insertionSort HR d a b))):=by
 have aE:=(rV.1 ah).1;refine JG dI Xo rfl ⟨by simp,fun j ad af=>by rw [sa (by omega)]⟩ ?_;unfold TE;conv=>whnf
 have Cd:Nat.ble lo id=true:=sX bF;have gs:∀ c:au,(H.set id c)[id]?=some c:=fun c=>by rw [rY aE]
 have qa:∀ c e:au,((H.set id c).set id e)[id]?=some e:=fun c e=>by rw [rZ,gs]
 rw [qU a (by omega)];refine .intro (fun m T H'=>∃ i gT,a+1≤i∧(i≤b∨i=a+1)∧m=b+1-i∧gT.size=d.size∧(∀ x,x<d.size→Kl gT[x]!)∧Sort.insOuter HR a b i gT=Sort.insertionSort HR d a b∧T=GH 53 [(0,qk id d.size),(1,hS a),(2,hS b),(3,.func 103 [] []),(8,hS i)]∧H'=H.set id (Jz g gT)) (b-a) ⟨a+1,d,by omega,.inr rfl,by omega,rfl,NK,rfl,rfl,?_⟩ ?_
 ·obtain ⟨ad,af⟩:=rV.1 ah;rw [←af,tC]
 rintro m T H' ⟨i,gT,HK,Pt,rfl,Cn,B',he,rfl,rfl⟩;conv=>whnf
 refine JF (fun h=>?_) (fun h=>?_)
 ·conv=>whnf
  refine .intro (fun j T H'=>∃ qA:Array (List Int),j≤i∧qA.size=d.size∧(∀ x,x<d.size→Kl qA[x]!)∧Sort.insInner HR a j qA=Sort.insInner HR a i gT∧T=GH 53 [(0,qk id d.size),(1,hS a),(2,hS b),(3,.func 103 [] []),(8,hS i),(9,hS j)]∧H'=H.set id (Jz g qA)) i ⟨gT,rX _,Cn,B',rfl,rfl,rfl⟩ ?_;rintro j T H' ⟨qA,aw,Lz,NJ,LA,rfl,rfl⟩;conv=>whnf
  by_cases aG:(a:Int)<(j:Int)
  ·rw [decide_eq_true aG];obtain ⟨y,rfl⟩:∃ y,j=y+1:=⟨j-1,by omega⟩;(have hw:IntKind.i64.wrap (((y+1:Nat):Int)-1)=(y:Int):=by rw [qm _ (by omega) (by omega)];omega);obtain ⟨r,aj,C4⟩:=adS (NJ (y+1) (by omega)) (NJ y (by omega));(conv=>whnf);refine ⟨by omega,?_⟩;(conv=>whnf);refine DX (by first | exact gs _ | exact qa _ _ | assumption) ?_
   (conv=>whnf);refine Qb (y+1) (by omega) (by first | omega | (simp only [sr];omega)) ?_
   (conv=>whnf);rw [hw];refine ⟨by omega,?_⟩;(conv=>whnf);refine DX (by first | exact gs _ | exact qa _ _ | assumption) ?_
   (conv=>whnf);refine Qb (y) (by omega) (by first | omega | (simp only [sr];omega)) ?_
   (conv=>whnf);refine ⟨(p5 (rz (fun _=>rfl) _ _ _) (p5 (rz (fun _=>rfl) _ _ _) rfl)),[jk qA[y+1]!,jk qA[y]!],rfl,_,rfl,aj,GX,?_⟩;(conv=>whnf);rw [C4];by_cases a7:HR qA[y+1]! qA[y]! = true
   ·rw [a7];(conv=>whnf);rw [hw];refine ⟨by omega,?_⟩;(conv=>whnf);refine DX (by first | exact gs _ | exact qa _ _ | assumption) ?_
    (conv=>whnf);refine Qb (y) (by omega) (by first | omega | (simp only [sr];omega)) ?_
    (conv=>whnf);refine ⟨by omega,?_⟩;(conv=>whnf);refine DX (by first | exact gs _ | exact qa _ _ | assumption) ?_
    (conv=>whnf);refine Qb (y+1) (by omega) (by first | omega | (simp only [sr];omega)) ?_
    (conv=>whnf);refine ⟨by omega,?_⟩;(conv=>whnf);rw [Cd];(conv=>whnf);refine DX (by first | exact gs _ | exact qa _ _ | assumption) ?_
    (conv=>whnf);refine ZW (y+1) (by omega) (by first | omega | (simp only [sr];omega)) ?_
    (conv=>whnf);refine ⟨by omega,?_⟩;(conv=>whnf);rw [Cd];(conv=>whnf);refine DX (by first | exact gs _ | exact qa _ _ | assumption) ?_
    (conv=>whnf);refine ZW (y) (by omega) (by first | omega | (simp only [sr];omega)) ?_
    (conv=>whnf);refine ⟨y,by omega,Sort.swp qA (y+1) y,by omega,by rw [aiA];exact Lz,?_,?_,?_,?_⟩
    ·intro x al;obtain ⟨z,bo,bN⟩:=swp_get qA (y+1) y x (by omega) (by omega);rw [bN (by omega)];exact NJ z (by omega)
    ·rw [←LA,Sort.insInner,if_pos (by simp only [r_,decide_eq_true_eq];exact ⟨by omega,a7⟩)]
    ·rw [hw];rfl
    ·simp only [rZ];rfl
   ·rw [Bool.not_eq_true] at a7;rw [a7];(conv=>whnf);have e:Sort.insInner HR a i gT=qA:=by
     rw [←LA,Sort.insInner,if_neg (by simp only [r_,decide_eq_true_eq];exact fun bK=>by rw [a7] at bK;exact absurd bK.2 (by decide))]
    exact ⟨b+1-(i+1),by omega,i+1,qA,by omega,by omega,rfl,Lz,NJ,by rw [←he,Sort.insOuter.eq_1 _ a b i,if_pos (by omega),e],by rw [←qU i (by omega)];rfl,rfl⟩
  ·rw [decide_eq_false aG];(conv=>whnf);have e:Sort.insInner HR a i gT=qA:=by
    rw [←LA];cases j with
    | zero=>rfl
    | succ y=>rw [Sort.insInner,if_neg (by simp only [r_,decide_eq_true_eq];exact fun bK=>by omega)]
   exact ⟨b+1-(i+1),by omega,i+1,qA,by omega,by omega,rfl,Lz,NJ,by rw [←he,Sort.insOuter.eq_1 _ a b i,if_pos (by omega),e],by rw [←qU i (by omega)];rfl,rfl⟩
 ·conv=>whnf
  have e:Sort.insertionSort HR d a b=gT:=by
   rw [←he];unfold Sort.insOuter;rw [if_neg (by omega)]
  rw [e];exact ⟨.inl rfl,⟨by simp,fun j o aw=>.inr aw⟩,rfl⟩
theorem agV (d:Array (List Int)) (qx:Int) (a0:d.size≤12) (ah:H[id]?=some (Jz g d)) (NK:∀ x,x<d.size→Kl d[x]!) :
  Sem Go.Proofs.Tryz.prog (.fn 127) [qk id d.size,hS 0,hS d.size,hS qx,.func 103 [] []] H lo (.tuple []) (H.set id (Jz g (Sort.insertionSort HR d 0 d.size))):=by
 refine rH dI Xn rfl ⟨by simp,fun j ad af=>by rw [sa (by omega)]⟩ fun Q bn=>?_;unfold Tz;obtain ⟨O7,Ip⟩:∃ c,N'=c:=⟨_,rfl⟩;rw [Ip];conv=>whnf
 refine .intro (fun m T H'=>T=GH 148 [(0,qk id d.size),(1,hS 0),(2,hS d.size),(3,hS qx),(4,.func 103 [] []),(10,B true),(11,B true)]∧H'=H) 0 ⟨rfl,rfl⟩ ?_;rintro m T H' ⟨rfl,rfl⟩;subst Ip;unfold N';obtain ⟨ba,cd⟩:∃ c,N_=c:=⟨_,rfl⟩;obtain ⟨O6,JH⟩:∃ c,TA=c:=⟨_,rfl⟩;rw [cd,JH];conv=>whnf
 rw [show IntKind.i64.wrap ((d.size:Int)-0)=(d.size:Int) by rw [qm _ (by omega) (by omega)];omega,decide_eq_true (show (d.size:Int)≤12 by omega)];conv=>whnf
 subst cd;unfold N_;conv=>whnf
 refine ⟨_,_,qS (afh bF d 0 d.size (by omega) (si _) (rX _) ah NK),?_⟩;conv=>whnf
 exact bn _ _ _ ⟨.inr rfl,⟨rfl,fun j o aw=>.inr aw⟩,rfl⟩
end
theorem ais {H:List au} {id lo g:Nat} (bF:lo≤id) (d:Array (List Int)) (a0:d.size≤12) (ah:H[id]?=some (Jz g d)) (NK:∀ x,x<d.size→Kl d[x]!) :
  Sem Go.Proofs.Tryz.prog (.fn 102) [qk id d.size,.func 103 [] []] H lo (.tuple []) (H.set id (Jz g (Sort.insertionSort HR d 0 d.size))):=by
 refine rH dI Xk rfl ⟨by simp,fun j ad af=>by rw [sa (by omega)]⟩ fun Q bn=>?_;unfold SU;conv=>whnf
 rw [show IntKind.u64.wrap (d.size:Int)=(d.size:Int) by rw [JR];omega];refine ⟨by first | rfl | simp only [sG,sM,GY,G6,GZ,G1,G0,G2,G8,G7,rQ,G3,G4,G5,sN,sL],_,Lp d.size a0,?_⟩
 conv=>whnf
 refine ⟨_,_,qS (agV bF d (Sort.bitsLen d.size) a0 ah NK),?_⟩;conv=>whnf
 exact bn _ _ _ ⟨.inl rfl,⟨rfl,fun j o aw=>.inr aw⟩,rfl⟩
end Go.Proofs.YtfakoboiahbhaaaGreat.Ab


namespace Go.Proofs.YtfakoboiahbhaaaGreat.Ab
open Go
def ab6:c9:={ ops:=[[],[{},{},{},{ takes:=[true] }],[{},{ takes:=[true] }],[{ takes:=[true] },{ takes:=[true],mode:=4 }],[{},{ takes:=[true] },{ takes:=[true] }],[{},{},{ takes:=[true] },{ takes:=[true,true] }],[{ takes:=[true] },{ takes:=[true] },{ takes:=[true] }],[{},{},{ takes:=[true,true] },{ takes:=[true] },{ takes:=[true] }],[{},{},{ mode:=6 },{ takes:=[true] }],[{},{},{ takes:=[true] },{ takes:=[true,true] },{ takes:=[true,true] }],[{ takes:=[true] },{ takes:=[true] },{ takes:=[true] }],[{},{},{ takes:=[true,true] },{ takes:=[true] }],[{ takes:=[true] },{ takes:=[true] },{ takes:=[true,true] },{ takes:=[true],mode:=4 }]],h_:=[(0,(EA false [0,2,3,2,35]))] }
noncomputable def SP:ez :=
 GC [Gp 30 0,Gp 31 5,Gq 32 7,Gi 33 30 31 1,⟨none,[.hJ 33,.hJ 32],none,none,.st 1⟩] (Gt [Gq 34 5,F0 35 34 1,Gq 5 35])
noncomputable def SQ:ez :=
 GC [Gp 26 1,Gp 27 7,gO 28 [.sl 26,.sl 27] (.call 6),gO 29 [.hM 28] (.un .not)] (.cond (.sl 29) SP .skip)
noncomputable def SR:ez :=
 .block 1 (GC [Gp 22 0,Gp 23 6,Gi 24 22 23 1,Gm 25 24,Gq 7 25] SQ)
noncomputable def PS:ez :=
 .seq (GC [Gp 16 6,Gp 17 0,Gl 18 17,F2 19 16 18 .lss] (.cond (.sl 19) .skip (.exit 0))) (.seq SR (Gt [Gq 20 6,F0 21 20 1,Gq 6 21]))
noncomputable def SS:ez :=
 GC [Gq 39 0, Gq 40 5, gO 41 [.hJ 39, .hJ 40] (.AY 1 false true false), gO 4 [.hJ 41] (.other (Oper.mk (some 4) (Op.assign (Operand.tmp 41)) 41 "slices.go:254" (Array.mk [Edge.mk 2 Ground.data, Edge.mk 0 Ground.phase, Edge.mk 1 Ground.phase, Edge.mk 2 Ground.phase]) none) 4)] .ret
noncomputable def PT:ez :=
 GC [Gp 36 0, Gp 37 5, gO 38 [.hJ 36, .hJ 37] (.AY 1 true false false), ⟨none, [.hJ 38], none, none, .other (Oper.mk none (Op.call (Call.mk (Callee.builtin Builtin.clear) (Array.mk [Operand.tmp 38]) (Array.mk [41]))) 0 "slices.go:253" (Array.mk [Edge.mk 2 Ground.data]) none) 0⟩] SS
noncomputable def N7:ez :=
 .seq (GC [Gp 11 5, F1 12 11 (-1) .eql] (.cond (.sl 12) (GC [Gq 13 0, gO 4 [.hJ 13] (.other (Oper.mk (some 4) (Op.assign (Operand.tmp 13)) 41 "slices.go:244" (Array.mk [Edge.mk 0 Ground.data, Edge.mk 0 Ground.phase]) none) 4)] .ret) .skip)) (.seq (GC [Gp 14 5, F0 15 14 1, Gq 6 15] (.block 0 (.loop (some (EA false [0, 2, 3, 2, 35])) PS))) PT)
noncomputable def N8:ez :=
 GC [Gp 8 0,Gp 9 1,gO 10 [.iD (.func 126 [] []),.sl 8,.sl 9] (.call 0),Gq 5 10] N7
noncomputable def SO:ez :=
 GC [gO 4 [.iD (.ay [] 0 .full)] (.nil 1)] N8
theorem Xj:zg Go.Proofs.Tryz.prog ab6 101=some (SO,42,[.tmp 4]):=by kernel_rfl
end Go.Proofs.YtfakoboiahbhaaaGreat.Ab


namespace Go.Proofs.YtfakoboiahbhaaaGreat.Ab
open Go
set_option maxRecDepth 20000
set_option maxHeartbeats 4000000
theorem O9 {P:Program} {k:FuncId} {args:List I} {H H':List au} {lo:Nat} {v:I} (aC:ct 8 v=true) (h:Sem P (.fn k) args H H.length v H'):ou P 0 lo (.fn k) args H v H:=by
 refine ⟨_,D3 h,?_⟩;have cm:bL H' H.length H'.length 0 8 v=some v:=oV aC;simp only [eU,D2,rW,cm,sc]
theorem afd {p:List Int→Bool}:∀ (l:List (List Int)) (i:Nat) (h:i<l.length),idxOf p (l.drop i) i=if p l[i]=true then (i:Int) else idxOf p (l.drop (i+1)) (i+1):=fun l i h=>by
 rw [sU h,idxOf]
theorem Uf (d:List (List Int)) {n:Int} {i:Nat} (aN:n=i) (h:i<d.length):(d.map jk)[0+n.toNat*1]?=some (jk d[i]):=by
 subst aN;simp [h]
section
variable {id lo g:Nat} {H:List au} {Jk:FuncId} {H5 cs:List I} {p:List Int→Bool} {d:List (List Int)}
theorem afe (aQ:H5.map (im H)=cs) (MG:cs.map I.cu=cs) (Ck:cs.all (ct 8)=true) (a0:d.length≤1000) (av:∀ r∈d,qt Jk (jk r::cs) (B (p r))) (ah:H[id]?=some (.grow (d.map jk) g 1)) :
  Sem Go.Proofs.Tryz.prog (.fn 126) [.ref id 0 d.length none 1,.func Jk [] H5] H lo (hS (idxOf p d 0)) H:=by
 refine rH dI Xm rfl ⟨rX _,fun j _ _=>rfl⟩ fun Q bn=>?_;unfold Ty;conv=>whnf
 refine .intro (fun m T H'=>∃ i,i≤d.length∧m=d.length-i∧idxOf p d 0=idxOf p (d.drop i) i∧T=[.ref id 0 d.length none 1,.func Jk [] H5,qX,qX,qX,qX,qX,hS d.length,hS i,qX,qX,qX,qX,qX,qX,qX,qX,qX,qX]∧H'=H) d.length ⟨0,by omega,by omega,rfl,rfl,rfl⟩ ?_;rintro m T H' ⟨i,hi,rfl,he,rfl,rfl⟩;conv=>whnf
 refine JF (fun h=>?_) (fun h=>?_)
 ·have aV:i<d.length:=by omega
  rw [afd d i aV] at he;conv=>whnf
  refine ⟨by omega,?_⟩;conv=>whnf
  refine DX ah ?_;conv=>whnf
  refine DX (Uf d rfl aV) ?_;conv=>whnf
  refine ⟨_,_,call6 (bs:=jk d[i]::cs) ?_ ?_ (av _ (sH aV)) rfl,?_⟩
  ·show (_::H5.map (im H')).map I.cu=_;rw [aQ,sE,MG];rfl
  ·show (_::H5.map (im H')).all (ct 8)=true;rw [aQ];exact p5 (rz (fun _=>rfl) _ _ _) Ck
  conv=>whnf
  cases aC:p d[i] with
  | true =>
    (conv=>whnf);rw [aC,if_pos rfl] at he;exact bn _ _ _ ⟨.inr rfl,⟨rfl,fun j o aw=>.inr aw⟩,by rw [he];rfl⟩
  | false =>
    (conv=>whnf);rw [aC,if_neg (by simp)] at he;exact ⟨d.length-(i+1),by omega,i+1,by omega,rfl,he,by rw [←qU i (by omega)] <;> rfl,rfl⟩
 ·obtain rfl:i=d.length:=by omega
  rw [List.drop_length] at he;conv=>whnf
  exact bn _ _ _ ⟨.inr rfl,⟨rfl,fun j o aw=>.inr aw⟩,by rw [he];rfl⟩
end
theorem VZ {P:Program} {C:b8} {lo id gid n:Nat} {o:Oper} {x:Operand} {H:List au} {l:List I} (aq:o.op=.assign x) (bF:lo≤id) (ah:H[id]?=some (.grow l gid 1)) (aN:n≤l.length) (aC:(l.take n).all I.plain=true) :
  a9 P C lo o 4 [.cn id gid n 1] H=some (.ay (l.take n) n (.uniq 1),H.set id .dead):=by
 unfold a9;rw [aq];show eR P lo 4 o.type x H [.cn id gid n 1]=_;unfold eR;simp only [bF,if_true,ah];rw [if_pos ⟨trivial,trivial,by omega,by rw [tr];exact aC⟩,tr]
theorem YF (l:List (List Int)) (n:Nat):((l.map jk).take n).all I.plain=true:=by
 rw [ss];intro u hu;obtain ⟨x,_,rfl⟩:=sq.1 (List.mem_of_mem_take hu);rfl
theorem adO {P:Program} {lo id off len:Nat} {H:List au} {l:List I} {g:Nat} {cap:Option Nat} {e:TypeId} {ts:Array TypeId} (e1:(ts[0]?).bind P.underlying=some (.slice e)) (cm:bU P e=some 1) {z:I} (dF:zeroCells P e=some [z]) (bF:lo≤id)
  (ah:H[id]?=some (.grow l g 1)) (aN:off+len≤l.length):kU P lo ts H [.ref id off len cap 1]=some (.tuple [],H.set id (.grow (setCells off (eZ len [z]) l) g 1)):=by
 unfold kU;simp only [e1,cm,dF,g_,ah,sc,if_pos bF];rw [if_pos ⟨trivial,rfl,by decide⟩,if_pos (by omega)];rfl
theorem Wc {off len:Nat} {l:List I} {z:I} (aN:off+len≤l.length):(setCells off (eZ len [z]) l).take off=l.take off:=by
 apply tM;intro j;rw [sR,sR];split
 ·rw [n' _ _ _ _ (by rw [ij];simp;omega),if_neg (by omega)]
 ·rfl
theorem adP {off len:Nat} {l:List I} {z:I}:(setCells off (eZ len [z]) l).length=l.length:=mO _ _ _
theorem W9 {α:Type} (p:α→Bool):∀ (l:List α) (i:Nat),(idxOf p l i=-1∧∀ x∈l,p x=false)∨∃ k,∃ h:k<l.length,idxOf p l i=((i+k:Nat):Int)∧p l[k]=true∧∀ x∈l.take k,p x=false
 | [],i=>.inl ⟨rfl,fun x al=>absurd al (by simp)⟩
 | x::l,i=>by
   rw [idxOf];cases al:p x with
   | true=>rw [if_pos rfl];exact .inr ⟨0,by simp,by simp,al,fun y a1=>absurd a1 (by simp)⟩
   | false =>
     rw [if_neg (by simp)];rcases W9 p l (i+1) with ⟨ad,af⟩ | ⟨k,av,ad,af,aG⟩
     ·exact .inl ⟨ad,fun y a1=>by rcases sf.1 a1 with rfl | a1;exact al;exact af y a1⟩
     ·refine .inr ⟨k+1,by simp;omega,by rw [ad];omega,af,fun y a1=>?_⟩;rw [vN] at a1;rcases sf.1 a1 with rfl | a1
      ·exact al
      ·exact aG y a1
theorem Wt {p:List Int→Bool} {l:List (List Int)} (h:∀ x∈l,p x=false):l.filter (fun r=>!p r)=l:=List.filter_eq_self.2 fun x al=>by rw [h x al];rfl
section
variable {id lo g:Nat} {H:List au} {Jk:FuncId} {H5 cs:List I} {p:List Int→Bool} {d:List (List Int)}
theorem ad1 (bF:lo≤id) (aQ:∀ c:au,H5.map (im (H.set id c))=cs) (MG:cs.map I.cu=cs) (Ck:cs.all (ct 8)=true) (a0:d.length≤1000) (av:∀ r∈d,qt Jk (jk r::cs) (B (p r))) (ah:H[id]?=some (.grow (d.map jk) g 1)) :
  Sem Go.Proofs.Tryz.prog (.fn 101) [.cn id g d.length 1,.func Jk [] H5] H lo (.ay ((d.filter fun r=>!p r).map jk) (d.filter fun r=>!p r).length (.uniq 1)) (H.set id .dead):=by
 have aE:=(rV.1 ah).1;refine rH dI Xj rfl ⟨by simp,fun j ad af=>by rw [sa (by omega)]⟩ fun Q bn=>?_;have gs:∀ c:au,(H.set id c)[id]?=some c:=fun c=>by rw [rY aE]
 obtain ⟨Mu,fD⟩:∃ Mu,Mu=H:=⟨H,rfl⟩;rw [show H=Mu.set id (.grow (d.map jk) g 1) by rw [fD];exact (aih bF ah).symm];rw [←fD] at gs aQ bn;unfold SO;obtain ⟨m3,rA⟩:∃ c,N8=c:=⟨_,rfl⟩;rw [rA];conv=>whnf
 subst rA;unfold N8;obtain ⟨m2,Hd⟩:∃ c,N7=c:=⟨_,rfl⟩;rw [Hd];conv=>whnf
 refine ⟨_,_,O9 rfl (afe (aQ _) MG Ck a0 av (gs _)),?_⟩;conv=>whnf
 subst Hd;unfold N7;obtain ⟨fR,rJ⟩:∃ c,PT=c:=⟨_,rfl⟩;obtain ⟨b9,hq⟩:∃ c,PS=c:=⟨_,rfl⟩;rw [rJ,hq];rcases W9 p d 0 with ⟨hi,fX⟩ | ⟨k,CF,hi,ae1,fX⟩
 ·rw [hi];conv=>whnf
  refine ⟨_,_,fun C=>VZ rfl bF (gs _) (by simp) (YF _ _),?_⟩;rw [rZ];conv=>whnf
  refine bn _ _ _ ⟨.inr rfl,⟨rfl,fun j o aw=>.inr aw⟩,?_⟩;rw [Wt fX];show some (I.ay ((d.map jk).take d.length) d.length (.uniq 1))=_;rw [tN (by simp)]
 ·rw [hi];rw [sP];conv=>whnf
  rw [qU k (by omega)];refine .intro (fun m T H'=>∃ (i j:Nat) (s:List (List Int)),i<j∧j≤d.length∧m=d.length-j∧s.length=d.length∧s.take i=(d.take j).filter (fun r=>!p r)∧s.drop j=d.drop j∧T=GH 42 [(0,.cn id g d.length 1),(1,.func Jk [] H5),(5,hS i),(6,hS j)]∧H'=Mu.set id (.grow (s.map jk) g 1)) (d.length-(k+1)) ⟨k,k+1,d,by omega,by omega,rfl,rfl,?_,rfl,rfl,rfl⟩ ?_
  ·rw [tW CF,uF,Wt fX];simp [ae1]
  rintro m T H' ⟨i,j,s,gZ,aw,rfl,ai,ax,R2,rfl,rfl⟩;subst hq;unfold PS;obtain ⟨bt,dZ⟩:∃ c,SR=c:=⟨_,rfl⟩;rw [dZ];conv=>whnf
  refine JF (fun h=>?_) (fun h=>?_)
  ·(have aV:j<d.length:=by omega);have MI:s[j]'(by omega)=d[j]:=by
    have:=congrArg (fun l=>l[0]?) R2;simpa [List.getElem?_drop,aV,ai] using this
   (conv=>whnf);subst dZ;unfold SR;obtain ⟨bm,b_⟩:∃ c,SQ=c:=⟨_,rfl⟩;rw [b_];(conv=>whnf);refine ⟨by omega,?_⟩;(conv=>whnf);refine DX (gs _) ?_;(conv=>whnf);refine DX (Uf s rfl (by omega)) ?_;rw [MI];(conv=>whnf);subst b_;unfold SQ;obtain ⟨ba,cd⟩:∃ c,SP=c:=⟨_,rfl⟩;rw [cd];(conv=>whnf);refine ⟨_,_,call6 (bs:=jk d[j]::cs) ?_ ?_ (av _ (sH aV)) rfl,?_⟩
   ·show (_::H5.map (im _)).map I.cu=_;rw [aQ,sE,MG];rfl
   ·show (_::H5.map (im _)).all (ct 8)=true;rw [aQ];exact p5 (rz (fun _=>rfl) _ _ _) Ck
   (conv=>whnf);have Ps:(d.take (j+1)).filter (fun r=>!p r)=(d.take j).filter (fun r=>!p r)++[d[j]].filter (fun r=>!p r):=by
    rw [tW aV,uF]
   cases aC:p d[j] with
   | true =>
     (conv=>whnf);refine ⟨d.length-(j+1),by omega,i,j+1,s,by omega,by omega,rfl,ai,?_,?_,by rw [←qU j (by omega)] <;> rfl,rfl⟩
     ·rw [Ps,ax];simp [aC]
     ·have:=congrArg (List.drop 1) R2;simpa [List.drop_drop,td] using this
   | false =>
     (conv=>whnf);subst cd;unfold SP;refine JQ fun mV I1=>?_;(conv=>whnf);refine ⟨by omega,?_⟩;(conv=>whnf);rw [show Nat.ble lo id=true from sX bF];(conv=>whnf);refine DX (gs _) ?_;(conv=>whnf);refine A' (by simp;omega) ?_;(conv=>whnf);rw [rZ];refine I1 _ _ _ ?_;(conv=>whnf);refine ⟨d.length-(j+1),by omega,i+1,j+1,s.set i d[j],by omega,by omega,rfl,by simpa using ai,?_,?_,by rw [←qU j (by omega),←qU i (by omega)] <;> rfl,?_⟩
     ·rw [Ps,←ax,tW (by rw [List.length_set];omega),List.getElem_set_self,List.take_set_of_le (rX _)];simp [aC]
     ·rw [List.drop_set_of_lt (by omega)];have:=congrArg (List.drop 1) R2;simpa [List.drop_drop,td] using this
     ·rw [show 0+(i:Int).toNat*1=i by simp,ud];rfl
  ·(obtain rfl:j=d.length:=by omega);rw [List.take_length] at ax;(have rR:i=(d.filter fun r=>!p r).length:=by rw [←ax,s_];omega);(conv=>whnf);subst rJ;unfold PT;obtain ⟨dX,B2⟩:∃ c,SS=c:=⟨_,rfl⟩;rw [B2];(conv=>whnf);refine ⟨rfl,⟨by omega,by omega⟩,fun aV=>?_,fun heq=>absurd heq (by omega)⟩;(conv=>whnf);refine ⟨_,_,fun C=>(SF rfl).trans (adO (e:=38) (z:=.ay [] 0 .full) (by kernel_rfl) (by kernel_rfl) (by kernel_rfl) bF (gs _) (by simp;omega)),?_⟩;rw [rZ];(conv=>whnf);subst B2;unfold SS;(conv=>whnf);refine ⟨⟨by omega,by omega⟩,?_⟩;(conv=>whnf);refine ⟨_,_,fun C=>VZ rfl bF (gs _) ?_ ?_,?_⟩
   ·rw [adP];simp;omega
   ·rw [show 0+(i:Int).toNat*1=(i:Int).toNat by omega,Wc (by simp;omega)];exact YF _ _
   rw [rZ];(conv=>whnf);refine bn _ _ _ ⟨.inr rfl,⟨rfl,fun j o aw=>.inr aw⟩,?_⟩;show some (I.ay (List.take (i:Int).toNat _) (i:Int).toNat (.uniq 1))=_;rw [show 0+(i:Int).toNat*1=(i:Int).toNat by omega,Wc (by simp;omega),ti,←ux,ax,←rR]
end

theorem W' {α:Type} [Inhabited α] (lt:α→α→Bool) (d:Array α) (a b:Nat):(Sort.insertionSort lt d a b).size=d.size:=by
 have aiz:∀ (d:Array α) (i j:Nat),(Sort.swp d i j).size=d.size:=fun d i j=>by simp [Sort.swp]
 have ko:∀ (j:Nat) (d:Array α),(Sort.insInner lt a j d).size=d.size:=fun j=>by
  induction j with
  | zero=>intro d;rfl
  | succ j a' =>
    intro d;rw [Sort.insInner];split
    ·rw [a',aiz]
    ·rfl
 show (Sort.insOuter lt a b (a+1) d).size=d.size
 have:∀ (n i:Nat) (d:Array α),b-i=n→(Sort.insOuter lt a b i d).size=d.size:=fun n=>by
  induction n with
  | zero=>intro i d h;rw [Sort.insOuter.eq_1,if_neg (by omega)]
  | succ n a'=>intro i d h;rw [Sort.insOuter.eq_1,if_pos (by omega),a' _ _ (by omega),ko]
 exact this _ _ d rfl
def rK (l:List Int):List Int:=(Sort.insertionSort Sort.ltInt l.toArray 0 l.length).toList
theorem Qi (l:List Int):(rK l).length=l.length:=by
 unfold rK;rw [tt,W'];simp
theorem aio {H:List au} {id lo n:Nat} (l:List Int) (bF:lo≤id) (ak:l.length≤12) (aN:n=l.length) (ah:H[id]?=some (.cells (l.map hS))) :
  Sem Go.Proofs.Tryz.prog (.fn 73) [.ref id 0 n none 1] H lo (.tuple []) (H.set id (.cells ((rK l).map hS))):=by
 subst aN;have:=aik bF l.toArray (by simpa using ak) (by simpa [qe] using ah);simpa [qe,qk,rK] using this
def Iu (l:List (List Int)):List (List Int):=(Sort.insertionSort HR l.toArray 0 l.length).toList
theorem Um (l:List (List Int)):(Iu l).length=l.length:=by
 unfold Iu;rw [tt,W'];simp
def MP (l:List Int):Bool:=!l.isEmpty && decide (0≤ix l 0) && decide (ix l 0≤1000)
theorem ahZ {l:List Int} (h:MP l=true):Kl l:=by
 simp only [MP,r_,decide_eq_true_eq] at h;exact ⟨by intro e;subst e;simp at h,h.1.2,h.2⟩
theorem aiv {H:List au} {id lo n g:Nat} (l:List (List Int)) (bF:lo≤id) (ak:l.length≤12) (aj:l.all MP=true) (aN:n=l.length) (ah:H[id]?=some (.grow (l.map jk) g 1)) :
  Sem Go.Proofs.Tryz.prog (.fn 102) [.ref id 0 n none 1,.func 103 [] []] H lo (.tuple []) (H.set id (.grow ((Iu l).map jk) g 1)):=by
 subst aN
 have:=ais bF l.toArray (by simpa using ak) (g:=g) (by simpa [Jz] using ah) (fun x al=>by
  have al:x<l.length:=by simpa using al
  have:=ss.1 aj l[x] (sH al);have e:l.toArray[x]! = l[x]:=by simp [al]
  rw [e];exact ahZ this)
 simpa [Jz,qk,Iu] using this
def Lr (f:List Int→Option Bool):List (List Int)→Option (List (List Int))
 | []=>some []
 | r::l=>(f r).bind fun b=>(Lr f l).bind fun l'=>some (if b=true then l' else r::l')
theorem Wh {f:List Int→Option Bool}:∀ {l R:List (List Int)},Lr f l=some R→∃ p:List Int→Bool,(∀ r∈l,f r=some (p r))∧R=l.filter fun r=>!p r
 | l,R,h=>by
   refine ⟨fun r=>(f r).getD false,?_⟩
   induction l generalizing R with
   | nil=>exact ⟨fun r aj=>absurd aj (by simp),(Option.some.inj h).symm⟩
   | cons r l a' =>
     obtain ⟨b,ag,h⟩:=qi h;obtain ⟨l',dA,h⟩:=qi h;obtain rfl:=Option.some.inj h;obtain ⟨i1,i2⟩:=a' _ dA;refine ⟨fun x al=>?_,?_⟩
     ·rcases sf.1 al with rfl | al
      ·show f x=some ((f x).getD false);rw [ag];rfl
      ·exact i1 x al
     ·(have e:(f r).getD false=b:=by rw [ag];rfl);rw [List.filter_cons];show _=if (!(f r).getD false)=true then _ else _;rw [e,←i2];cases b <;> rfl
section
variable {id lo g n:Nat} {H:List au} {Jk:FuncId} {H5 cs:List I} {f:List Int→Option Bool} {l R:List (List Int)}
theorem ad0 (h:Lr f l=some R) (bF:lo≤id) (aQ:∀ c:au,H5.map (im (H.set id c))=cs) (MG:cs.map I.cu=cs) (Ck:cs.all (ct 8)=true) (a0:l.length≤1000) (aN:n=l.length) (av:∀ r b,f r=some b→qt Jk (jk r::cs) (B b)) (ah:H[id]?=some (.grow (l.map jk) g 1)) :
  Sem Go.Proofs.Tryz.prog (.fn 101) [.cn id g n 1,.func Jk [] H5] H lo (.ay (R.map jk) R.length (.uniq 1)) (H.set id .dead):=by
 subst aN;obtain ⟨p,aC,rfl⟩:=Wh h;exact ad1 bF aQ MG Ck a0 (fun r aj=>av r _ (aC r aj)) ah
end
section
variable {H:List au} {lo:Nat}
theorem afg {F:I}:Sem Go.Proofs.Tryz.prog (.fn 138) [.ay [] 0 .full,hS 0,hS 0,F] H lo (.tuple []) H:=by
 refine rH dI Xo rfl (bb.refl _ _) fun Q bn=>?_;unfold TE;conv=>whnf
 refine .intro (fun m T H'=>T=GH 53 [(0,.ay [] 0 .full),(1,hS 0),(2,hS 0),(3,F),(8,hS 1)]∧H=H') 0 ⟨rfl,rfl⟩ ?_;rintro m T H' ⟨rfl,rfl⟩;conv=>whnf
 exact bn _ _ _ ⟨.inl rfl,⟨by simp,fun j o aw=>.inr aw⟩,rfl⟩
theorem agS {qx:Int} {k:FuncId} {cap:List I}:Sem Go.Proofs.Tryz.prog (.fn 127) [.ay [] 0 .full,hS 0,hS 0,hS qx,.func k [] cap] H lo (.tuple []) H:=by
 refine rH dI Xn rfl (bb.refl _ _) fun Q bn=>?_;unfold Tz;obtain ⟨O7,Ip⟩:∃ c,N'=c:=⟨_,rfl⟩;rw [Ip];conv=>whnf
 refine .intro (fun m T H'=>T=GH 148 [(0,.ay [] 0 .full),(1,hS 0),(2,hS 0),(3,hS qx),(4,.func k [] cap),(10,B true),(11,B true)]∧H'=H) 0 ⟨rfl,rfl⟩ ?_;rintro m T H' ⟨rfl,rfl⟩;subst Ip;unfold N';obtain ⟨ba,cd⟩:∃ c,N_=c:=⟨_,rfl⟩;obtain ⟨O6,JH⟩:∃ c,TA=c:=⟨_,rfl⟩;rw [cd,JH];conv=>whnf
 subst cd;unfold N_;conv=>whnf
 refine ⟨_,_,qS afg,?_⟩;conv=>whnf
 exact bn _ _ _ ⟨.inr rfl,⟨rfl,fun j o aw=>.inr aw⟩,rfl⟩
theorem air {k:FuncId} {cap:List I}:Sem Go.Proofs.Tryz.prog (.fn 102) [.ay [] 0 .full,.func k [] cap] H lo (.tuple []) H:=by
 refine rH dI Xk rfl (bb.refl _ _) fun Q bn=>?_;unfold SU;conv=>whnf
 refine ⟨by first | rfl | simp only [sG,sM,GY,G6,GZ,G1,G0,G2,G8,G7,rQ,G3,G4,G5,sN,sL],_,Lp 0 (by decide),?_⟩
 conv=>whnf
 refine ⟨_,_,qS agS,?_⟩;conv=>whnf
 exact bn _ _ _ ⟨.inl rfl,⟨by simp,fun j o aw=>.inr aw⟩,rfl⟩
theorem afa {k:FuncId} {cap:List I}:Sem Go.Proofs.Tryz.prog (.fn 126) [.ay [] 0 .full,.func k [] cap] H lo (hS (-1)) H:=by
 refine rH dI Xm rfl (bb.refl _ _) fun Q bn=>?_;unfold Ty;conv=>whnf
 refine .intro (fun m T H'=>T=[.ay [] 0 .full,.func k [] cap,qX,qX,qX,qX,qX,hS 0,hS 0,qX,qX,qX,qX,qX,qX,qX,qX,qX,qX]∧H'=H) 0 ⟨rfl,rfl⟩ ?_;rintro m T H' ⟨rfl,rfl⟩;conv=>whnf
 exact bn _ _ _ ⟨.inr rfl,⟨rfl,fun j o aw=>.inr aw⟩,rfl⟩
theorem adZ {k:FuncId} {cap:List I}:Sem Go.Proofs.Tryz.prog (.fn 101) [.ay [] 0 .full,.func k [] cap] H lo (.ay [] 0 .full) H:=by
 refine rH dI Xj rfl (bb.refl _ _) fun Q bn=>?_;unfold SO;obtain ⟨m3,rA⟩:∃ c,N8=c:=⟨_,rfl⟩;rw [rA];conv=>whnf
 subst rA;unfold N8;obtain ⟨m2,Hd⟩:∃ c,N7=c:=⟨_,rfl⟩;rw [Hd];conv=>whnf
 refine ⟨_,_,O9 rfl afa,?_⟩;conv=>whnf
 subst Hd;unfold N7;obtain ⟨fR,rJ⟩:∃ c,PT=c:=⟨_,rfl⟩;obtain ⟨b9,hq⟩:∃ c,PS=c:=⟨_,rfl⟩;rw [rJ,hq];conv=>whnf
 refine ⟨_,_,fun C=>rfl,?_⟩;conv=>whnf
 exact bn _ _ _ ⟨.inr rfl,⟨rfl,fun j o aw=>.inr aw⟩,rfl⟩
end
end Go.Proofs.YtfakoboiahbhaaaGreat.Ab
